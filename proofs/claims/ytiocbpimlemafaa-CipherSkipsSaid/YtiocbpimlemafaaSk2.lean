/- An evaluator for the translated program, proved against its model, and what functions of the program come to. Conditions: those that stand in each theorem. -/
import Derived.Test.YtiocbpimlemafaaSk1
import Derived.Laws.BytesArg
import Derived.Lib.ConvBytes
import Derived.Laws.AppendOwn
import Derived.Laws.Tables
import Derived.Great.BuildSlice
import Derived.LoopN
import Derived.RowKit3
import Derived.Laws.Externs
import Derived.Test.YtiocbpimlemafaaProg

/- The local evaluator, part N: copy, clear, conversions. -/
namespace Go.LE
open Go.RowKit

section
variable {P : Program} {w : World} {ρ : Ren} {mt : MT} {ct : CT}

theorem HRel.setNil (h : HRel ρ mt ct w) {id : Nat} (hρ : ρ id = some none) (k : Nat → Option LVal) : HRel ρ mt (setN ct id k) w := by
  have e : ∀ j b C, ρ j = some (some (b, C)) → j ≠ id := fun j b C h e => by subst e; rw [hρ] at h; cases h
  refine ⟨h.blk, h.lt, fun j m b C i v h1 h2 h3 => ?_, h.own, fun j m b C i v h1 h2 h3 h4 => ?_, h.apart⟩
  · rw [setN_ne _ _ (e j b C h2)] at h3; exact h.cell j m b C i v h1 h2 h3
  · rw [setN_ne _ _ (e j b C h3)] at h4; exact h.low j m b C i v h1 h2 h3 h4

theorem run_copy {t u e : TypeId} {i : TI} (ht : P.underlying t = some (.slice e)) (hi : RowOk P e i) (hs : i.size = 1)
    {b o n cp m : Nat} {a : Value} {ad : Option Addr} {xs : List Value} {cp' : Nat} (ty : TypeId) (ha : a = .slice ad m cp') (hl : xs.length = Nat.min m n)
    (hf : (Builtin.firstCells 1 (Nat.min m n) a).run P w = .ok xs.toArray w)
    (hc : ∀ j, j < xs.length → (w.cell? ⟨b, o + j, none⟩).isSome = true) (hz : ∀ j, j < xs.length → w.frozen? ⟨b, o + j, none⟩ = false) (h1 : ∀ v ∈ xs, v.oneCell' = true) :
    (Builtin.copy_ #[t, u] ty #[.slice (some ⟨b, o, none⟩) n cp, a]).run P w = .ok (.int .i64 (Nat.min m n : Nat)) (w.setCells b o xs) := by
  have hst := run_storeCells_cells (P := P) b o xs 0 w (by simpa using hc) (by simpa using hz) h1
  rw [Nat.add_zero] at hst
  subst ha
  simp only [Builtin.copy_, List.getElem?_toArray, List.getElem?_cons_zero, List.getElem?_cons_succ, Sem.run_bind, run_underlying ht, Result.andThen_ok, hi.run_size, hs, Sem.run_pure, Builtin.lenOf, hf, hst]
  rfl

theorem run_copy_nil {t u e : TypeId} {i : TI} (ht : P.underlying t = some (.slice e)) (hi : RowOk P e i) (hs : i.size = 1)
    {a : Value} {ad : Option Addr} {m : Nat} {cp' : Nat} (ty : TypeId) (ha : a = .slice ad m cp') (hf : (Builtin.firstCells 1 0 a).run P w = .ok #[] w) :
    (Builtin.copy_ #[t, u] ty #[.slice none 0 0, a]).run P w = .ok (.int .i64 0) w := by
  subst ha
  simp only [Builtin.copy_, List.getElem?_toArray, List.getElem?_cons_zero, List.getElem?_cons_succ, Sem.run_bind, run_underlying ht, Result.andThen_ok, hi.run_size, hs, Sem.run_pure, Builtin.lenOf, Nat.min_zero, hf]
  rfl

theorem run_copy_none {t u e : TypeId} {i : TI} (ht : P.underlying t = some (.slice e)) (hi : RowOk P e i) (hs : i.size = 1)
    {ad : Option Addr} {n cp : Nat} (ty : TypeId) : (Builtin.copy_ #[t, u] ty #[.slice ad n cp, .slice none 0 0]).run P w = .ok (.int .i64 0) w := by
  simp only [Builtin.copy_, List.getElem?_toArray, List.getElem?_cons_zero, List.getElem?_cons_succ, Sem.run_bind, run_underlying ht, Result.andThen_ok, hi.run_size, hs, Sem.run_pure, Builtin.lenOf, Nat.zero_min, Builtin.firstCells]
  cases ad <;> simp [storeCells, goInt]

theorem overL_get {k : IntKind} {m : Nat} : ∀ {j : Nat} {os ss r : List LVal}, overL k m j os ss = some r → r.length = os.length ∧
    ∀ (i : Nat) v, r[i]? = some v → ∃ o s : LN, os[i]? = some (.int k o) ∧ ss[i]? = some (.int k s) ∧ v = .int k (.sym (if j + i < m then s.v else o.v))
  | j, [], ss, r, h => by
    have : r = [] := by cases ss <;> simp [overL] at h <;> exact h
    subst this; simp
  | j, .int k' o :: os, [], r, h => by simp [overL] at h
  | j, .int k' o :: os, s :: ss, r, h => by
    cases s <;> simp only [overL, LN.on_v] at h <;> try cases h
    rename_i k'' s
    split at h
    · rename_i e1 e2
      obtain rfl := of_decide_eq_true e1
      obtain rfl := of_decide_eq_true e2
      split at h
      · rename_i q hq
        obtain rfl := Option.some.inj h
        obtain ⟨h1, h2⟩ := overL_get hq
        refine ⟨by simp [h1], fun i v hv => ?_⟩
        cases i with
        | zero => simp only [List.getElem?_cons_zero, Option.some.injEq] at hv; exact ⟨o, s, rfl, rfl, by rw [← hv]; rfl⟩
        | succ i =>
          obtain ⟨o', s', g1, g2, g3⟩ := h2 i v (by simpa using hv)
          exact ⟨o', s', by simpa using g1, by simpa using g2, by rw [g3, show j + 1 + i = j + (i + 1) by omega]⟩
      · cases h
    · cases h
  | j, .bool _ _ :: _, ss, r, h => by simp [overL] at h
  | j, .ptr _ _ :: _, ss, r, h => by simp [overL] at h
  | j, .nilp :: _, ss, r, h => by simp [overL] at h
  | j, .slice _ _ _ _ :: _, ss, r, h => by simp [overL] at h
  | j, .nils :: _, ss, r, h => by simp [overL] at h
  | j, .raw _ :: _, ss, r, h => by simp [overL] at h
  | j, .func _ _ _ :: _, ss, r, h => by simp [overL] at h
  | j, .agg _ :: _, ss, r, h => by simp [overL] at h
  | j, .tup _ :: _, ss, r, h => by simp [overL] at h

theorem padL_get {k : IntKind} : ∀ {n : Nat} {l : List LVal} {i : Nat}, i < l.length → (padL k n l)[i]? = l[i]? ∨ n ≤ i
  | 0, l, i, _ => .inr (Nat.zero_le _)
  | n + 1, [], i, h => by simp at h
  | n + 1, v :: l, 0, _ => .inl rfl
  | n + 1, v :: l, i + 1, h => by
    rcases padL_get (k := k) (n := n) (l := l) (i := i) (by simpa using h) with h | h
    · left; simpa [padL] using h
    · right; omega

theorem contAt_spl {l vs : List LVal} {o : Nat} (h : o + vs.length ≤ l.length) (i : Nat) : contAt (.cells (spl l o vs)) i = if o ≤ i ∧ i < o + vs.length then vs[i - o]? else contAt (.cells l) i := by
  simp only [contAt]
  exact spl_get l o vs h i

theorem splI_get {l r : List Int} {o n m : Nat} (h : o + n ≤ l.length) (hr : r.length = m) (i : Nat) :
    (l.take o ++ r.take n ++ l.drop (o + Nat.min m n))[i]? = if o ≤ i ∧ i < o + Nat.min m n then r[i - o]? else l[i]? := by
  have hm : Nat.min m n ≤ n := Nat.min_le_right _ _
  have hl : (r.take n).length = Nat.min m n := by rw [List.length_take, hr]; exact Nat.min_comm _ _
  have := spl_get l o (r.take n) (by omega) i
  rw [spl, hl] at this
  rw [this]
  by_cases hi : o ≤ i ∧ i < o + Nat.min m n
  · rw [if_pos hi, if_pos hi, List.getElem?_take_of_lt (by omega)]
  · rw [if_neg hi, if_neg hi]

theorem nmin_l (a b : Nat) : Nat.min a b ≤ a := Nat.min_le_left a b
theorem nmin_r (a b : Nat) : Nat.min a b ≤ b := Nat.min_le_right a b
theorem nlt_min {a b c : Nat} (h : c < a) (h' : c < b) : c < Nat.min a b := Nat.lt_min.2 ⟨h, h'⟩

/-- copy, cell by cell. -/
theorem copyC0_ok {k : IntKind} {d s c : Cont} {off len ox lx : NN} {cnt : LN} (h : (copyC0 k d off len s ox lx).res (c, cnt)) :
    (∀ j, j < Nat.min lx.v len.v → ∃ v, contAt s (ox.v + j) = some v) ∧ (∀ j, j < Nat.min lx.v len.v → ∃ v, contAt d (off.v + j) = some v) ∧ cnt.v = (Nat.min lx.v len.v : Nat) ∧
    ∀ i v, contAt c i = some v → ((i < off.v ∨ off.v + Nat.min lx.v len.v ≤ i) ∧ ∃ v0, contAt d i = some v0 ∧ ∀ ρ, den ρ v = den ρ v0) ∨
      (off.v ≤ i ∧ i < off.v + Nat.min lx.v len.v ∧ ∃ u, contAt s (ox.v + (i - off.v)) = some u ∧ ∀ ρ, den ρ v = den ρ u) := by
  unfold copyC0 at h
  simp only [NN.on_v] at h
  split at h
  · rename_i l
    split at h
    · rename_i o n
      split at h
      · rename_i q
        split at h
        · rename_i p m
          split at h
          · rename_i vs hvs
            split at h
            · rename_i r hr
              obtain ⟨rfl, rfl⟩ := Prod.mk.inj (Tree.res_done.1 h)
              obtain ⟨rfl, hle⟩ := writeL_spec hr
              obtain ⟨g1, g2⟩ := takeL_drop hvs
              have g1 : vs.length = Nat.min m n := g1
              simp only [NN.lit_v, LN.lit_v]
              have hsrc : ∀ j, j < Nat.min m n → ∃ v, vs[j]? = some v ∧ contAt (.cells q) (p + j) = some v := fun j hj => by
                obtain ⟨v, hv⟩ : ∃ v, vs[j]? = some v := ⟨vs[j]'(by omega), List.getElem?_eq_getElem (by omega)⟩
                exact ⟨v, hv, by simp only [contAt]; rw [← g2 j hj]; exact hv⟩
              refine ⟨fun j hj => let ⟨v, _, hv⟩ := hsrc j hj; ⟨v, hv⟩, fun j hj => ⟨l[o + j]'(by omega), by simp only [contAt]; exact List.getElem?_eq_getElem (by omega)⟩, rfl, fun i v hv => ?_⟩
              rw [contAt_spl hle, g1] at hv
              split at hv
              · rename_i hi
                obtain ⟨u, hu, hc⟩ := hsrc (i - o) (by omega)
                rw [hu] at hv
                obtain rfl := Option.some.inj hv
                exact .inr ⟨hi.1, hi.2, u, hc, fun _ => rfl⟩
              · exact .inl ⟨by first | omega | (simp only [NN.lit_v] at *; omega), v, hv, fun _ => rfl⟩
            · exact h.elim
          · exact h.elim
        · rename_i p m
          split at h
          · rename_i old hold
            obtain ⟨hpm, h⟩ := h
            split at h
            · rename_i vs hvs
              split at h
              · rename_i r hr
                obtain ⟨rfl, rfl⟩ := Prod.mk.inj (Tree.res_done.1 h)
                obtain ⟨rfl, hle⟩ := writeL_spec hr
                obtain ⟨g1, g2⟩ := takeL_drop hold
                obtain ⟨e1, e2⟩ := overL_get hvs
                simp only [NN.lit_v, NN.sym_v, LN.sym_v]
                refine ⟨fun j hj => ⟨q[p + j]'(by have := nmin_l m n; omega), by simp only [contAt]; exact List.getElem?_eq_getElem (by have := nmin_l m n; omega)⟩,
                  fun j hj => ⟨l[o + j]'(by have := nmin_r m n; omega), by simp only [contAt]; exact List.getElem?_eq_getElem (by have := nmin_r m n; omega)⟩, by first | rfl | trivial, fun i v hv => ?_⟩
                rw [contAt_spl hle, e1, g1] at hv
                split at hv
                · rename_i hi
                  obtain ⟨lo, ls, f1, f2, rfl⟩ := e2 (i - o) v hv
                  rw [Nat.zero_add]
                  by_cases hm : i - o < m
                  · have hin : i < o + Nat.min m n := by
                      have : i - o < Nat.min m n := nlt_min hm (by omega)
                      omega
                    refine .inr ⟨hi.1, hin, .int k ls, ?_, fun ρ => by simp [den, hm]⟩
                    have hlen : i - o < (dropL p q).length := by rw [dropL_spec]; simp; omega
                    rcases padL_get (k := k) (n := n) hlen with e | e
                    · rw [e, dropL_spec, List.getElem?_drop] at f2; exact f2
                    · omega
                  · refine .inl ⟨.inr (by have := nmin_l m n; omega), .int k lo, ?_, fun ρ => by simp [den, hm]⟩
                    rw [g2 (i - o) (by omega)] at f1
                    simp only [contAt]
                    rw [show i = o + (i - o) by omega]
                    exact f1
                · exact .inl ⟨by have := nmin_r m n; omega, v, hv, fun _ => rfl⟩
              · exact h.elim
            · exact h.elim
          · exact h.elim
        · exact h.elim
      · rename_i k' q
        split at h
        · rename_i old hk hold
          obtain rfl := of_decide_eq_true hk
          obtain ⟨hpm, h⟩ := h
          split at h
          · rename_i vs hvs
            split at h
            · rename_i r hr
              obtain ⟨rfl, rfl⟩ := Prod.mk.inj (Tree.res_done.1 h)
              obtain ⟨rfl, hle⟩ := writeL_spec hr
              obtain ⟨g1, g2⟩ := takeL_drop hold
              obtain ⟨e1, e2⟩ := overL_get hvs
              simp only [NN.lit_v, LN.sym_v]
              have hq : ∀ j, j < lx.v → contAt (.ints k q) (ox.v + j) = some (symInt k ((subL q ox.v lx.v).getD j 0)) := fun j hj => by
                simp only [contAt, List.getElem?_eq_getElem (show ox.v + j < q.length by omega), Option.map_some, subL, List.getD, List.getElem?_take_of_lt hj, List.getElem?_drop, Option.getD_some]
              refine ⟨fun j hj => ⟨_, hq j (by have := nmin_l lx.v n; omega)⟩,
                fun j hj => ⟨l[o + j]'(by have := nmin_r lx.v n; omega), by simp only [contAt]; exact List.getElem?_eq_getElem (by have := nmin_r lx.v n; omega)⟩, by first | rfl | trivial, fun i v hv => ?_⟩
              rw [contAt_spl hle, e1, g1] at hv
              split at hv
              · rename_i hi
                obtain ⟨lo, ls, f1, f2, rfl⟩ := e2 (i - o) v hv
                rw [Nat.zero_add]
                by_cases hm : i - o < lx.v
                · have hin : i < o + Nat.min lx.v n := by
                    have : i - o < Nat.min lx.v n := nlt_min hm (by omega)
                    omega
                  refine .inr ⟨hi.1, hin, _, hq (i - o) hm, fun ρ => ?_⟩
                  rw [intsFrom_get k _ n 0 (i - o) (by omega), Nat.zero_add] at f2
                  simp only [symInt, Option.some.injEq, LVal.int.injEq, true_and] at f2
                  simp [den, hm, symInt, ← f2]
                · refine .inl ⟨.inr (by have := nmin_l lx.v n; omega), .int k lo, ?_, fun ρ => by simp [den, hm]⟩
                  rw [g2 (i - o) (by omega)] at f1
                  simp only [contAt]
                  rw [show i = o + (i - o) by omega]
                  exact f1
              · exact .inl ⟨by have := nmin_r lx.v n; omega, v, hv, fun _ => rfl⟩
            · exact h.elim
          · exact h.elim
        · exact h.elim
      · exact h.elim
    · exact h.elim
  · rename_i k' l
    split at h
    · rename_i hk
      obtain rfl := of_decide_eq_true hk
      obtain ⟨hdl, h⟩ := h
      have hdst : ∀ j, j < Nat.min lx.v len.v → ∃ v, contAt (.ints k l) (off.v + j) = some v := fun j hj => by
        have := nmin_r lx.v len.v
        exact ⟨symInt k (l[off.v + j]'(by omega)), by simp [contAt, List.getElem?_eq_getElem (show off.v + j < l.length by omega)]⟩
      split at h
      · rename_i q
        split at h
        · rename_i p m
          split at h
          · rename_i vs hvs
            split at h
            · rename_i r hr
              obtain ⟨rfl, rfl⟩ := Prod.mk.inj (Tree.res_done.1 h)
              obtain ⟨g1, g2⟩ := takeL_drop hvs
              have hrl : r.length = m := by rw [(intsOf_get (ρ := fun _ => none) hr).1, g1]
              refine ⟨fun j hj => ?_, hdst, by simp, fun i v hv => ?_⟩
              · have := nmin_l (NN.lit m).v len.v
                simp only [NN.lit_v] at this hj ⊢
                exact ⟨vs[j]'(by omega), by simp only [contAt]; rw [← g2 j (by omega)]; exact List.getElem?_eq_getElem (by omega)⟩
              · simp only [contAt, NN.lit_v] at hv ⊢
                rw [splI_get hdl hrl] at hv
                split at hv
                · rename_i hi
                  refine .inr ⟨hi.1, hi.2, ?_⟩
                  have := nmin_l m len.v
                  obtain ⟨u, hu⟩ : ∃ u, vs[i - off.v]? = some u := ⟨vs[i - off.v]'(by omega), List.getElem?_eq_getElem (by omega)⟩
                  refine ⟨u, by rw [← g2 _ (by omega)]; exact hu, fun ρ => ?_⟩
                  obtain ⟨n0, f1, f2⟩ := (intsOf_get (ρ := ρ) hr).2 _ u hu
                  rw [f1] at hv
                  simp only [Option.map_some, Option.some.injEq] at hv
                  rw [f2, ← hv]
                  rfl
                · exact .inl ⟨by first | omega | (simp only [NN.lit_v] at *; omega), v, hv, fun _ => rfl⟩
            · exact h.elim
          · exact h.elim
        · exact h.elim
      · rename_i k'' q
        split at h
        · rename_i hk2
          obtain rfl := of_decide_eq_true hk2
          obtain ⟨hpm, h⟩ := h
          obtain ⟨rfl, rfl⟩ := Prod.mk.inj (Tree.res_done.1 h)
          have hsl : (subL q ox.v lx.v).length = lx.v := by simp [subL]; omega
          refine ⟨fun j hj => ?_, hdst, by simp, fun i v hv => ?_⟩
          · have := nmin_l lx.v len.v
            exact ⟨symInt k (q[ox.v + j]'(by omega)), by simp [contAt, List.getElem?_eq_getElem (show ox.v + j < q.length by omega)]⟩
          · simp only [contAt] at hv ⊢
            rw [splI_get hdl hsl] at hv
            split at hv
            · rename_i hi
              have := nmin_l lx.v len.v
              refine .inr ⟨hi.1, hi.2, v, ?_, fun _ => rfl⟩
              rw [← hv]
              simp only [subL, List.getElem?_take_of_lt (show i - off.v < lx.v by omega), List.getElem?_drop]
            · exact .inl ⟨by first | omega | (simp only [NN.lit_v] at *; omega), v, hv, fun _ => rfl⟩
        · exact h.elim
      · exact h.elim
    · exact h.elim
  · exact h.elim

theorem copyC_ok {k : IntKind} {d s c : Cont} {off len ox lx : NN} {cnt : LN} (h : (copyC k d off len s ox lx).res (c, cnt)) :
    (∀ j, j < Nat.min lx.v len.v → ∃ v, contAt s (ox.v + j) = some v) ∧ (∀ j, j < Nat.min lx.v len.v → ∃ v, contAt d (off.v + j) = some v) ∧ cnt.v = (Nat.min lx.v len.v : Nat) ∧
    ∀ i v, contAt c i = some v → ((i < off.v ∨ off.v + Nat.min lx.v len.v ≤ i) ∧ ∃ v0, contAt d i = some v0 ∧ ∀ ρ, den ρ v = den ρ v0) ∨
      (off.v ≤ i ∧ i < off.v + Nat.min lx.v len.v ∧ ∃ u, contAt s (ox.v + (i - off.v)) = some u ∧ ∀ ρ, den ρ v = den ρ u) := by
  unfold copyC at h
  simp only [NN.on_v] at h
  split at h
  · rename_i wo k' q
    obtain ⟨hle, h⟩ := h
    have e : ∀ j, contAt (.seg wo k' q) (ox.v + j) = contAt (.ints k' q) ((NN.sym (ox.v - wo.v)).v + j) := fun j => by
      simp only [contAt, NN.sym_v]
      rw [if_pos (by omega), show ox.v + j - wo.v = ox.v - wo.v + j by omega]
    obtain ⟨h1, h2, h3, h4⟩ := copyC0_ok h
    refine ⟨fun j hj => ?_, h2, h3, fun i v hv => ?_⟩
    · rw [e]; exact h1 j hj
    · rcases h4 i v hv with g | ⟨g1, g2, u, g3, g4⟩
      · exact .inl g
      · exact .inr ⟨g1, g2, u, by rw [e]; exact g3, g4⟩
  · rename_i k' m f
    have e : ∀ j v, contAt (.ints k' (rangeF f 0 m)) j = some v → contAt (.arr k' m f) j = some v := fun j v hv => by
      simp only [contAt, Option.map_eq_some_iff] at hv ⊢
      obtain ⟨n, h1, rfl⟩ := hv
      have hj := (List.getElem?_eq_some_iff.1 h1).1
      rw [rangeF_length] at hj
      rw [rangeF_get f m 0 j hj, Nat.zero_add] at h1
      rw [if_pos hj, Option.some.inj h1]
    obtain ⟨h1, h2, h3, h4⟩ := copyC0_ok h
    refine ⟨fun j hj => ?_, h2, h3, fun i v hv => ?_⟩
    · obtain ⟨v, hv⟩ := h1 j hj
      exact ⟨v, e _ _ hv⟩
    · rcases h4 i v hv with g | ⟨g1, g2, u, g3, g4⟩
      · exact .inl g
      · exact .inr ⟨g1, g2, u, e _ _ g3, g4⟩
  · exact copyC0_ok h

end
end Go.LE

/- The local evaluator, part O: copy, clear and the conversions, in a world. -/
namespace Go.LE
open Go.RowKit

section
variable {P : Program} {w : World} {ρ : Ren} {mt : MT} {ct : CT}

theorem collect {p : Nat → Value → Prop} : ∀ (n : Nat), (∀ j, j < n → ∃ x, p j x) → ∃ xs : List Value, xs.length = n ∧ ∀ (j : Nat) x, xs[j]? = some x → p j x
  | 0, _ => ⟨[], rfl, by simp⟩
  | n + 1, h => by
    obtain ⟨xs, h1, h2⟩ := collect n fun j hj => h j (by omega)
    obtain ⟨x, hx⟩ := h n (by omega)
    refine ⟨xs ++ [x], by simp [h1], fun j y hy => ?_⟩
    rw [List.getElem?_append] at hy
    split at hy
    · exact h2 j y hy
    · rename_i hj
      have : j - xs.length = 0 := by
        have := (List.getElem?_eq_some_iff.1 hy).1
        simp at this
        omega
      rw [this] at hy
      simp only [List.getElem?_cons_zero, Option.some.injEq] at hy
      subst hy
      rw [show j = n by omega]
      exact hx

theorem mtU_same {id : Nat} {b : Blk} {c : Cont} (h : mt id = some b.mt) : mtU mt [⟨id, some { b with cont := c }⟩] = mt := by
  funext j
  simp only [mtU, setN]
  split
  · rename_i e; subst e; rw [h]; rfl
  · rfl

theorem ctU_whole {id : Nat} {b : Blk} : ctU ct [⟨id, some b⟩] = setN ct id (contAt b.cont) := rfl

theorem local_none {h : Trie Blk} {wr : List HWr} (_hw : True) : LocalW h wr := trivial

theorem copy_core (hr : HRel ρ mt ct w) {st : St} {t u te : TypeId} {k : IntKind} {by_ : Nat} {ze : List LVal} (hut : P.underlying t = some (.slice te)) (hrow : RowOk P te ⟨.int k, 1, by_, ze⟩)
    {id ix : Nat} {off len ox lx : NN} {cap : Option NN} {bk bx : Blk} (hbk : st.hp.get id = some bk) (hbx : st.hp.get ix = some bx) (hown : bk.own = true) {e : Eff} {a b : Value}
    (h : ((copyC k bk.cont off len bx.cont ox lx).bind fun r => .done ⟨.int .i64 r.2, [⟨id, some { bk with cont := r.1 }⟩], [id, ix], 0⟩).res e) (ha : den ρ (.slice id off len cap) = some a) (hb : SrcForm ρ ix ox lx b)
    (hag : ∀ y ∈ e.acc, y < st.nid → Agree mt ct st.hp y) (hfr : ∀ id bk, st.hp.get id = some bk → id < st.nid) (ty : TypeId) (nid : Nat) :
    (∃ ρ' x w', OpOut P ((do pure (.value (← Builtin.copy_ #[t, u] ty #[a, b])) : Sem Next).run P w) ρ mt ct w nid e ρ' x w') ∧ LocalW st.hp e.wr := by
  obtain ⟨⟨c, cnt⟩, hc, h⟩ := Tree.res_bind h
  obtain rfl := h
  obtain ⟨c1, c2, c3, c4⟩ := copyC_ok hc
  obtain ⟨hm, hct⟩ := hag id (by simp) (hfr _ _ hbk)
  obtain ⟨hmx, hctx⟩ := hag ix (by simp) (hfr _ _ hbx)
  obtain ⟨ob, h1, h2, h3⟩ := hr.at hbk hm
  obtain ⟨obx, k1, k2, k3⟩ := hr.at hbx hmx
  refine ⟨?_, local_none (by simp)⟩
  generalize hN : Nat.min lx.v len.v = N at *
  -- what is read
  have hsrc : ∃ xs : List Value, xs.length = N ∧ (∀ (j : Nat) x, xs[j]? = some x → x.oneCell' = true ∧ ∃ v, contAt bx.cont (ox.v + j) = some v ∧ den ρ v = some x) ∧
      ∃ ad cp, b = .slice ad lx.v cp ∧ (Builtin.firstCells 1 N b).run P w = .ok xs.toArray w := by
    cases obx with
    | none =>
      obtain ⟨rfl, hl⟩ := hb.1 k1
      have : N = 0 := by rw [← hN, hl]; exact Nat.zero_min _
      subst this
      exact ⟨[], rfl, by simp, none, 0, by rw [hl], by simp [Builtin.firstCells]⟩
    | some p =>
      obtain ⟨b1, C1⟩ := p
      obtain ⟨o', cp, rfl, ho'⟩ := hb.2 _ _ k1
      obtain ⟨xs, g1, g2⟩ := collect (p := fun j x => x.oneCell' = true ∧ (∃ v, contAt bx.cont (ox.v + j) = some v ∧ den ρ v = some x) ∧ w.cell? ⟨b1, ox.v + j, none⟩ = some x) N fun j hj => by
        obtain ⟨v, hv⟩ := c1 j hj
        obtain ⟨x, e1, e2, e3⟩ := hr.cell ix bx.mt b1 C1 (ox.v + j) v k3 k1 (by rw [hctx _ (inR_none _), ctOf_at hbx]; exact hv)
        exact ⟨x, e3, ⟨v, hv, e1⟩, e2⟩
      refine ⟨xs, g1, fun j x hx => ⟨(g2 j x hx).1, (g2 j x hx).2.1⟩, _, cp, rfl, ?_⟩
      have := run_loadCells_list (P := P) w ⟨b1, o', none⟩ xs fun j v hv => by
          rw [addr_add]
          have hj : j < N := by rw [← g1]; exact (List.getElem?_eq_some_iff.1 hv).1
          have hN' : Nat.min lx.v len.v ≤ lx.v := nmin_l _ _
          rw [ho' (by omega)]
          exact (g2 j v hv).2.2
      rw [g1] at this
      simpa [Builtin.firstCells] using this
  obtain ⟨xs, x1, x2, ad, cpb, rfl, hf⟩ := hsrc
  cases ob with
  | none =>
    obtain ⟨rfl, hl, _⟩ := slice_nil h1 ha
    have h0 : N = 0 := by rw [← hN, hl]; exact Nat.min_zero _
    subst h0
    have hxs : xs = [] := List.length_eq_zero_iff.1 x1
    subst hxs
    have hrun := run_copy_nil (P := P) (w := w) (u := u) hut hrow rfl ty (a := .slice ad lx.v cpb) rfl hf
    refine ⟨ρ, .int .i64 0, w, .inl (by simp only [Sem.run_bind, hrun]; rfl), by simp [den, c3], ?_, ?_, fun _ _ h => .inl h⟩
    · rw [mtU_same h3, ctU_whole]; exact hr.setNil h1 _
    · rw [mtU_same h3]; exact Ext.refl _ _ _
  | some p =>
    obtain ⟨b0, C⟩ := p
    obtain ⟨cs, rfl, _, _⟩ := slice_form h1 ha
    have hlow : ∀ j, j < N → off.v + j < C := fun j hj => by
      obtain ⟨v, hv⟩ := c2 j hj
      exact hr.low id bk.mt b0 C (off.v + j) v h3 hown h1 (by rw [hct _ (inR_none _), ctOf_at hbk]; exact hv)
    have hC : off.v + xs.length ≤ C ∨ xs = [] := by
      rcases Nat.eq_zero_or_pos N with h0 | h0
      · right; exact List.length_eq_zero_iff.1 (by omega)
      · left; have := hlow (N - 1) (by omega); omega
    have hone : ∀ v ∈ xs, v.oneCell' = true := fun v hv => by
      obtain ⟨j, hj⟩ := List.mem_iff_getElem?.1 hv
      exact (x2 j v hj).1
    have hown' := hr.own id bk.mt b0 C h3 hown h1
    have hrun := run_copy (P := P) (w := w) (u := u) (b := b0) (o := off.v) (n := len.v) (cp := cs) (m := lx.v) hut hrow rfl ty (a := .slice ad lx.v cpb) rfl (xs := xs) (by rw [x1, hN]) (by rw [hN]; exact hf)
      (fun j hj => hown'.cell (hlow j (by omega))) (fun j hj => hown'.frozen (hlow j (by omega))) hone
    have hold : ∀ i q, contAt bk.cont i = some q → ∃ y, den ρ q = some y ∧ w.cell? ⟨b0, i, none⟩ = some y ∧ y.oneCell' = true ∧ i < C := fun i q hq => by
      have hq' : ct id i = some q := by rw [hct _ (inR_none _), ctOf_at hbk]; exact hq
      obtain ⟨y, e1, e2, e3⟩ := hr.cell id bk.mt b0 C i q h3 h1 hq'
      exact ⟨y, e1, e2, e3, hr.low id bk.mt b0 C i q h3 hown h1 hq'⟩
    rcases hC with hC | hC
    · have hwr := hr.write h3 hown h1 off.v xs (contAt c) hC hone (fun i v hv => by
        rcases c4 i v hv with ⟨hi, v0, hv0, hd⟩ | ⟨hi1, hi2, q, hq, hd⟩
        · obtain ⟨y, e1, e2, e3, e4⟩ := hold i v0 hv0
          exact ⟨y, by rw [hd]; exact e1, .inl ⟨by rw [x1]; exact hi, e2, e3, e4⟩⟩
        · obtain ⟨x, hx⟩ : ∃ x, xs[i - off.v]? = some x := ⟨xs[i - off.v]'(by omega), List.getElem?_eq_getElem (by omega)⟩
          obtain ⟨_, v', hv', hd'⟩ := x2 _ x hx
          obtain rfl : q = v' := by rw [hq] at hv'; exact Option.some.inj hv'
          exact ⟨x, by rw [hd]; exact hd', .inr ⟨hi1, hx⟩⟩)
      refine ⟨ρ, .int .i64 (N : Nat), w.setCells b0 off.v xs, .inl (by simp only [Sem.run_bind, hrun, hN]; rfl), by simp [den, c3], ?_, ?_, fun _ _ h => .inl h⟩
      · rw [mtU_same h3, ctU_whole]; exact hwr.1
      · rw [mtU_same h3]; exact hwr.2
    · subst hC
      have h0 : N = 0 := by simpa using x1.symm
      have hwr : HRel ρ mt (setN ct id (contAt c)) w := by
        refine ⟨hr.blk, hr.lt, fun j m b C' i v q1 q2 q3 => ?_, hr.own, fun j m b C' i v q1 q2 q3 q4 => ?_, hr.apart⟩
        · by_cases e : j = id
          · subst e
            rw [setN_same] at q3
            rw [h1] at q2
            simp only [Option.some.injEq, Prod.mk.injEq] at q2
            obtain ⟨rfl, rfl⟩ := q2
            rcases c4 i v q3 with ⟨_, v0, hv0, hd⟩ | ⟨hi1, hi2, _⟩
            · obtain ⟨y, e1, e2, e3, _⟩ := hold i v0 hv0
              exact ⟨y, by rw [hd]; exact e1, e2, e3⟩
            · omega
          · rw [setN_ne _ _ e] at q3; exact hr.cell j m b C' i v q1 q2 q3
        · by_cases e : j = id
          · subst e
            rw [setN_same] at q4
            rw [h1] at q3
            simp only [Option.some.injEq, Prod.mk.injEq] at q3
            obtain ⟨rfl, rfl⟩ := q3
            rcases c4 i v q4 with ⟨_, v0, hv0, hd⟩ | ⟨hi1, hi2, _⟩
            · exact (hold i v0 hv0).choose_spec.2.2.2
            · omega
          · rw [setN_ne _ _ e] at q4; exact hr.low j m b C' i v q1 q2 q3 q4
      refine ⟨ρ, .int .i64 (N : Nat), w, .inl (by simp only [Sem.run_bind, hrun, hN]; rfl), by simp [den, c3], ?_, ?_, fun _ _ h => .inl h⟩
      · rw [mtU_same h3, ctU_whole]; exact hwr
      · rw [mtU_same h3]; exact Ext.refl _ _ _

theorem copyV_out {E : EnvX} (hE : TabOk P E.toEnv) (hr : HRel ρ mt ct w) {st : St} {t u : TypeId} {d x : LVal} {e : Eff} {a b : Value} (h : (copyV E.toEnv st t d x).res e) (ha : den ρ d = some a) (hb : den ρ x = some b)
    (hag : ∀ y ∈ e.acc, y < st.nid → Agree mt ct st.hp y) (hfr : ∀ id bk, st.hp.get id = some bk → id < st.nid) (ty : TypeId) (nid : Nat) :
    (∃ ρ' x w', OpOut P ((do pure (.value (← Builtin.copy_ #[t, u] ty #[a, b])) : Sem Next).run P w) ρ mt ct w nid e ρ' x w') ∧ LocalW st.hp e.wr := by
  unfold copyV at h
  split at h
  · rename_i te _ _ _ hr1
    have hut := (hE.row _ _ hr1).shape
    simp only [shapeP] at hut
    split at h
    · rename_i k _ _ hr2
      have hrow := hE.row _ _ hr2
      split at h
      · obtain rfl := h
        obtain rfl := Option.some.inj ha
        obtain rfl := Option.some.inj hb
        have hrun := run_copy_none (P := P) (w := w) (u := u) (ad := none) (n := 0) (cp := 0) hut hrow rfl ty
        exact ⟨OpOut.pure hr rfl rfl (by simp only [Sem.run_bind, hrun]; rfl), local_none (by simp)⟩
      · rename_i id off len cap
        obtain rfl := h
        obtain rfl := Option.some.inj hb
        have hform : ∃ ad n cp, a = .slice ad n cp := by
          simp only [den] at ha
          cases hb : ρ id with
          | none => rw [hb] at ha; cases cap <;> cases ha
          | some ob =>
            rw [hb] at ha
            obtain ⟨ad, l, cp, rfl, _⟩ := denS_form ha
            exact ⟨ad, l, cp, rfl⟩
        obtain ⟨ad, n, cp, rfl⟩ := hform
        have hrun := run_copy_none (P := P) (w := w) (u := u) (ad := ad) (n := n) (cp := cp) hut hrow rfl ty
        exact ⟨OpOut.pure hr rfl rfl (by simp only [Sem.run_bind, hrun]; rfl), local_none (by simp)⟩
      · rename_i id off len cap ix ox lx cx
        split at h
        · rename_i bk bx hbk hbx
          split at h
          · rename_i hown
            exact copy_core hr hut hrow hbk hbx hown h ha (src_slice hb) hag hfr ty nid
          · exact h.elim
        · exact h.elim
      · rename_i id off len cap ix ox l lx
        split at h
        · rename_i bk bx hbk hbx
          split at h
          · rename_i hown
            exact copy_core hr hut hrow hbk hbx hown h ha (src_cut hb) hag hfr ty nid
          · exact h.elim
        · exact h.elim
      · exact h.elim
    · exact h.elim
  · exact h.elim

end
end Go.LE

/- The local evaluator, part P: clear and the conversions. -/
namespace Go.LE
open Go.RowKit

section
variable {P : Program} {w : World} {ρ : Ren} {mt : MT} {ct : CT}

theorem zeroCells_one (z : Array Value) (v : Value) (h : z = #[v]) (n : Nat) : (Builtin.zeroCells z n).toList = List.replicate n v := by
  subst h
  apply List.ext_getElem?
  intro j
  simp only [Builtin.zeroCells, Array.toList_map, Array.toList_range, List.getElem?_map, List.getElem?_replicate]
  by_cases hj : j < n
  · simp [hj, Nat.mod_one]
  · simp [hj]

/-- A mark behind the end of a block. -/
theorem freeze_heap (b n : Nat) (k : Nat) (hk : k ≠ b) : (w.freeze ⟨b, n, none⟩ 1).heap[k]? = w.heap[k]? := by
  simp only [World.freeze]
  rw [if_neg (by omega)]
  simp only [Array.getElem?_modify]
  rw [if_neg (by omega)]

theorem freeze_own {b C : Nat} {m : Mt} (h : OwnOk w b C m) : ∃ n, (markStringish ⟨b, 0, none⟩).run P w = .ok () (w.freeze ⟨b, n, none⟩ 1) ∧ OwnOk (w.freeze ⟨b, n, none⟩ 1) b C m ∧
    ∀ i, (w.freeze ⟨b, n, none⟩ 1).cell? ⟨b, i, none⟩ = w.cell? ⟨b, i, none⟩ := by
  obtain ⟨⟨c, e, lo, hi, hb, hl, hC, hf⟩, hs⟩ := h
  have hnew : (w.freeze ⟨b, c.size, none⟩ 1).heap[b]? = some (.cells c e (if lo == hi then (c.size, c.size + 1) else (min lo c.size, max hi (c.size + 1)))) := by
    simp only [World.freeze]
    rw [if_neg (by omega)]
    simp [Array.getElem?_modify, hb]
  refine ⟨c.size, ?_, ⟨?_, hs⟩, fun i => ?_⟩
  · simp only [markStringish, Sem.run_bind, run_shape, World.shape?, hb, Result.andThen_ok]
    rfl
  · by_cases he : lo = hi
    · refine ⟨c, e, c.size, c.size + 1, ?_, by omega, hC, fun i hi' => by omega⟩
      rw [hnew]; simp [he]
    · refine ⟨c, e, min lo c.size, max hi (c.size + 1), ?_, ?_, hC, fun i hi' => ?_⟩
      · rw [hnew]; simp [he]
      · omega
      · have h1 := hf i hi'
        have h2 := hf lo
        omega
  · simp only [World.cell?, hnew, hb]

theorem HRel.freeze (hr : HRel ρ mt ct w) {id : Nat} {m : Mt} {b C : Nat} (hm : mt id = some m) (ho : m.own = true) (hρ : ρ id = some (some (b, C))) :
    ∃ n, (markStringish ⟨b, 0, none⟩).run P w = .ok () (w.freeze ⟨b, n, none⟩ 1) ∧ HRel ρ mt ct (w.freeze ⟨b, n, none⟩ 1) ∧ Ext ρ mt w ρ mt (w.freeze ⟨b, n, none⟩ 1) := by
  obtain ⟨n, h1, h2, h3⟩ := freeze_own (P := P) (hr.own id m b C hm ho hρ)
  have hsz : (w.freeze ⟨b, n, none⟩ 1).heap.size = w.heap.size := by simp only [World.freeze]; rw [if_neg (by omega)]; simp
  refine ⟨n, h1, ⟨hr.blk, fun i m' b' C' g1 g2 => by rw [hsz]; exact hr.lt i m' b' C' g1 g2, fun i m' b' C' j v g1 g2 g3 => ?_, fun i m' b' C' g1 g2 g3 => ?_, hr.low, hr.apart⟩, ?_⟩
  · obtain ⟨x, e1, e2, e3⟩ := hr.cell i m' b' C' j v g1 g2 g3
    refine ⟨x, e1, ?_, e3⟩
    by_cases e : b' = b
    · subst e; rw [h3]; exact e2
    · rw [← e2]; exact World.cell?_of_block (w := w) (freeze_heap b n b' e)
  · by_cases e : i = id
    · subst e
      rw [hρ] at g3
      simp only [Option.some.injEq, Prod.mk.injEq] at g3
      obtain ⟨rfl, rfl⟩ := g3
      rw [hm] at g1
      obtain rfl := Option.some.inj g1
      exact h2
    · have hne : b' ≠ b := Ne.symm (hr.apart id i m m' b C b' C' (Ne.symm e) hm ho g1 hρ g3)
      obtain ⟨hob, hs⟩ := hr.own i m' b' C' g1 g2 g3
      exact ⟨by rw [freeze_heap b n b' hne]; exact hob, hs⟩
  · refine ⟨.refl _, ?_, ?_, ?_, by rw [hsz]; exact Nat.le_refl _, fun k _ hno => freeze_heap b n k fun e => hno id m C hm ho (by rw [hρ, e]), fun i m' b' C' g1 g2 g3 _ => ⟨i, m', C', g1, g2, g3⟩⟩ <;>
      (simp only [World.freeze]; rw [if_neg (by omega)])

theorem mark_off (b o : Nat) : (markStringish ⟨b, o, none⟩).run P w = (markStringish ⟨b, 0, none⟩).run P w := rfl

theorem intsOf_map {k : IntKind} : ∀ q : List Int, LVal.intsOf k (q.map (symInt k)) = some q
  | [] => rfl
  | n :: q => by
    have := intsOf_map (k := k) q
    simp [LVal.intsOf, symInt] at this ⊢
    rw [this]
    first | done | rfl

theorem convV_out {E : EnvX} (hE : TabOk P E.toEnv) (hr : HRel ρ mt ct w) {st : St} {src dst : TypeId} {x : LVal} {e : Eff} (hn : e.cnt = 1 → ρ st.nid = none) {a : Value} (h : (convV E.toEnv st src dst x).res e) (ha : den ρ x = some a)
    (hag : ∀ y ∈ e.acc, y < st.nid → Agree mt ct st.hp y) (hfr : ∀ id bk, st.hp.get id = some bk → id < st.nid) :
    (∃ ρ' x w', OpOut P ((do pure (.value (← convert src dst a)) : Sem Next).run P w) ρ mt ct w st.nid e ρ' x w') ∧ LocalW st.hp e.wr := by
  unfold convV at h
  split at h
  · rename_i hr1 hr2
    have hu1 := (hE.row _ _ hr1).shape
    have hu2 := (hE.row _ _ hr2).shape
    simp only [shapeP] at hu1 hu2
    obtain rfl := h
    obtain rfl := Option.some.inj ha
    exact ⟨OpOut.pure hr rfl rfl (by simp [convert, run_underlying hu1, run_underlying hu2, Conv.intToInt, wrapK_eq]), local_none (by simp)⟩
  · rename_i hr1 hr2
    have hu1 := (hE.row _ _ hr1).shape
    have hu2 := (hE.row _ _ hr2).shape
    simp only [shapeP] at hu1 hu2
    obtain rfl := h
    obtain rfl := Option.some.inj ha
    exact ⟨OpOut.pure hr rfl rfl (by simp [convert, run_underlying hu1, run_underlying hu2, Conv.intToInt]), local_none (by simp)⟩
  · rename_i e1 _ _ _ e2 _ _ _ id off len cap hr1 hr2
    have hu1 := (hE.row _ _ hr1).shape
    have hu2 := (hE.row _ _ hr2).shape
    simp only [shapeP] at hu1 hu2
    split at h
    · rename_i u2 u3 u4 bk hsd hr3 hbk
      have hu3 := (hE.row _ _ hr3).shape
      simp only [shapeP] at hu3
      split at h
      · rename_i hown hnl
        obtain rfl := h
        have hne : id < st.nid := hfr id _ hbk
        obtain ⟨hm, hct⟩ := hag id (by simp) hne
        obtain ⟨ob, h1, h2, h3⟩ := hr.at hbk hm
        simp only [Bool.or_eq_false_iff] at hnl
        rw [hnl.2] at h2
        cases ob with
        | none => simp at h2
        | some bc =>
          obtain ⟨b, C⟩ := bc
          obtain ⟨n, g1, g2, g3⟩ := hr.freeze (P := P) h3 hown h1
          obtain ⟨cp, rfl, _⟩ := slice_form h1 ha
          have hsd' : src = dst := Nat.eq_of_beq_eq_true hsd
          have hct' : ctU ct [⟨id, some bk⟩] = ct := by
            rw [ctU_whole]
            funext j k
            simp only [setN]
            split
            · rename_i e
              subst e
              rw [hct k rfl, ctOf_at hbk]
            · rfl
          have hmt' : mtU mt [⟨id, some bk⟩] = mt := mtU_same h3
          refine ⟨⟨ρ, _, _, .inl ?_, ha, by rw [hmt', hct']; exact g2, by rw [hmt']; exact g3, fun _ _ h => .inl h⟩, local_none (by simp)⟩
          subst hsd'
          simp [convert, run_underlying hu2, run_underlying hu3, ← mark_off (P := P) (w := w) b off.v, g1] at g1 ⊢
      · exact h.elim
    · exact h.elim
  · rename_i e1 _ _ _ _ _ _ id off len cap hr1 hr2
    have hu1 := (hE.row _ _ hr1).shape
    have hu2 := (hE.row _ _ hr2).shape
    simp only [shapeP] at hu1 hu2
    split at h
    · rename_i e2 _ _ _ hr3
      rw [hr1] at hr3
      have he2 : e1 = e2 := by injection hr3 with hh; injection hh with hh; injection hh
      subst he2
      split at h
      · rename_i bk hr4 hbk
        have hu4 := (hE.row _ _ hr4).shape
        simp only [shapeP] at hu4
        obtain ⟨es, hes, h⟩ := Tree.res_bind h
        split at h
        · rename_i l hl
          obtain rfl := h
          have hne : id < st.nid := hfr id _ hbk
          obtain ⟨hm, hct⟩ := hag id (by simp) hne
          obtain ⟨ob, h1, h2, h3⟩ := hr.at hbk hm
          have hln : LVal.intsOf .u8 es.lv = some l := by
            cases es with
            | vals q => exact hl
            | ints k q =>
              simp only at hl
              split at hl
              · rename_i hk
                obtain rfl := of_decide_eq_true hk
                obtain rfl := Option.some.inj hl
                exact intsOf_map q
              · cases hl
          cases ob with
          | none =>
            obtain ⟨rfl, hz, _⟩ := slice_nil h1 ha
            have hl0 : l = [] := by
              have := (elsOf_cont hes).1
              have h2 := (intsOf_get (ρ := ρ) hln).1
              apply List.eq_nil_of_length_eq_zero
              omega
            subst hl0
            refine ⟨OpOut.pure hr rfl rfl ?_, local_none (by simp)⟩
            have := run_convert_bytes_nil (P := P) w src e1 hu1 hu4 0 0 dst hu2
            simp only [Sem.run_bind, this, Result.andThen_ok]
            rfl
          | some bc =>
            obtain ⟨b, C⟩ := bc
            obtain ⟨xs, x1, x2, x3⟩ := elsOf_den hr h3 h1 (b := bk) (fun i => by rw [hct i rfl, ctOf_at hbk]) hes
            have hxs := intsOf_den hln x1
            obtain ⟨cp, rfl, _⟩ := slice_form h1 ha
            subst hxs
            have := run_convert_bytes_arg (P := P) w src e1 hu1 hu4 b off.v len.v cp l (by simpa using x2) (fun i hi => by
              have hi' : i < l.length := by simp at x2; omega
              have := (x3 i (.int .u8 (l[i])) (by simp [List.getElem?_eq_getElem hi'])).1
              rw [this]
              simp [List.getD, List.getElem?_eq_getElem hi']) dst hu2
            refine ⟨OpOut.pure hr rfl rfl ?_, local_none (by simp)⟩
            simp only [Sem.run_bind, this, Result.andThen_ok]
            rfl
        · exact h.elim
      · exact h.elim
    · exact h.elim
  · rename_i e2 _ _ _ s hr1 hr2
    have hu1 := (hE.row _ _ hr1).shape
    have hu2 := (hE.row _ _ hr2).shape
    simp only [shapeP] at hu1 hu2
    split at h
    · rename_i hr3
      have hu3 := (hE.row _ _ hr3).shape
      simp only [shapeP] at hu3
      refine ⟨?_, newEff_local h⟩
      obtain rfl := h
      obtain rfl := Option.some.inj ha
      have hb := Lib.run_convert_string_bytes (P := P) w src dst e2 s hu1 hu2 hu3
      have hd : HRel ρ mt ct w.drew := hr.drawn rfl
      obtain ⟨k1, k2⟩ := hd.alloc (hn rfl) (Lib.bytesCells w e2 s) e2 ⟨true, false, none⟩ (contAt (.ints .u8 (s.data.toList.map fun b => (b.toNat : Int)))) rfl (by simp) (fun i v hv => by
        simp only [contAt, List.getElem?_map, Option.map_eq_some_iff] at hv
        obtain ⟨a, ⟨q, hq, rfl⟩, rfl⟩ := hv
        refine ⟨.int .u8 q.toNat, rfl, ?_, rfl⟩
        have hi : i < s.data.size := by have := (List.getElem?_eq_some_iff.1 hq).1; simpa using this
        simp only [Lib.bytesCells]
        rw [Array.getElem?_append, if_pos (by simpa using hi)]
        simp at hq
        simp [hq])
      obtain ⟨n, f1, f2, f3⟩ := k1.freeze (P := P) (id := st.nid) (m := ⟨true, false, none⟩) (by simp) rfl (setN_same ..)
      have hm : (markStringish ⟨w.heap.size, 0, none⟩).run P (w.drew.alloc (.cells (Lib.bytesCells w e2 s) e2)) = .ok () (Lib.bytesWorld w e2 s) := by
        have hsh : (w.drew.alloc (.cells (Lib.bytesCells w e2 s) e2)).shape? w.heap.size = some (e2, (Lib.bytesCells w e2 s).size) := by
          simp [World.shape?, World.alloc, World.drew, -World.alloc_eq, -World.drew_eq]
        simp [markStringish, hsh, Lib.bytesWorld]
      rw [show w.drew.heap.size = w.heap.size from rfl] at f1 f2 f3 k1 k2
      rw [f1] at hm
      injection hm with _ hm
      rw [hm] at f2 f3
      refine ⟨_, .slice (some ⟨w.heap.size, 0, none⟩) s.size (grownCap w s.size 0 e2), _, .inl ?_, ?_, f2, (Ext.drawn (n := w.drawn + 1)).trans (k2.trans f3), fun id y hy => ?_⟩
      · simp only [Sem.run_bind, hb, Result.andThen_ok]
        rfl
      · have hg : s.size ≤ grownCap w s.size 0 e2 := grownCap_ge w s.size 0 e2
        have hs : (Lib.bytesCells w e2 s).size = grownCap w s.size 0 e2 := by
          simp only [Lib.bytesCells, Array.size_append, Array.size_map, Array.size_replicate]
          rw [ByteArray.size_data]; omega
        simp [den, denS, setN_same, hs, hg]
      · by_cases e : id = st.nid
        · subst e; exact .inr ⟨Nat.le_refl _, by simp⟩
        · rw [setN_ne _ _ e] at hy; exact .inl hy
    · exact h.elim
  · exact h.elim

end
end Go.LE

/- The local evaluator, part Q: composite values, lengths, new blocks. -/
namespace Go.LE
open Go.RowKit

section
variable {P : Program} {w : World} {ρ : Ren} {mt : MT} {ct : CT}

theorem places_get {E : EnvX} (hE : TabOk P E.toEnv) : ∀ (fs : List Field), (∀ f ∈ fs, ∃ i, P.info? f.type = some i) →
    ∃ places, fs.mapM (fun f => (P.info? f.type).map fun i => (f.offset, i.size)) = some places ∧
      ∀ i, places[i]? = fieldOf E.toEnv (fs.map fun f => (f.offset, f.type)) i ∨ fieldOf E.toEnv (fs.map fun f => (f.offset, f.type)) i = none
  | [], _ => ⟨[], rfl, fun i => by simp [fieldOf, nth_spec]⟩
  | f :: fs, h => by
    obtain ⟨inf, hi⟩ := h f (by simp)
    obtain ⟨pl, h1, h2⟩ := places_get hE fs fun g hg => h g (by simp [hg])
    refine ⟨(f.offset, inf.size) :: pl, by simp [List.mapM_cons, hi, h1], fun i => ?_⟩
    cases i with
    | succ i => simpa [fieldOf, nth_spec] using h2 i
    | zero =>
      simp only [fieldOf, nth_spec, List.map_cons, List.getElem?_cons_zero]
      cases hs : E.size f.type with
      | none => exact .inr rfl
      | some s =>
        obtain ⟨ti, g1, g2, g3⟩ := size_row hE hs
        obtain ⟨inf', k1, k2, _⟩ := g3.info
        rw [hi] at k1
        obtain rfl := Option.some.inj k1
        left
        rw [← g2, ← k2]

theorem buildV_den {E : EnvX} (hE : TabOk P E.toEnv) {t : TypeId} {ps : List (Nat × LVal)} {v : LVal} {ys : List Value} (h : (buildV E.toEnv t ps).res v) (hy : denL ρ (ps.map (·.2)) = some ys)
    (parts : Array (Nat × Value)) (hp : parts.toList = (ps.map (·.1)).zip ys) : ∃ r, den ρ v = some r ∧ (Instr.build t parts).run P w = .ok r w := by
  unfold buildV at h
  split at h
  · rename_i fs size _ z hr
    have hrow := hE.row _ _ hr
    obtain ⟨fields, hu, rfl, hall⟩ := hrow.shape
    obtain ⟨inf, i1, i2, i3, zv, zs, i4, i5, i6, i7, i8⟩ := hrow.info
    obtain ⟨c, hc, h⟩ := Tree.res_bind h
    obtain rfl := h
    obtain ⟨places, p1, p2⟩ := places_get hE fields.toList hall
    obtain ⟨cs, g1, g2, g3⟩ := fillL_den (place' := (places.toArray[·]?)) (fun i => by simpa using p2 i) hc hy (i5 ρ)
    refine ⟨.agg cs.toArray, by simp [den, g1], run_build w t parts cs.toArray ?_⟩
    simp only [Program.built, i1, hu, i4, p1, hp]
    rw [← g3]
    congr 1
    rw [← i6]
  · rename_i n e size _ z hr
    have hrow := hE.row _ _ hr
    have hu := hrow.shape
    simp only [shapeP] at hu
    obtain ⟨inf, i1, i2, i3, zv, zs, i4, i5, i6, i7, i8⟩ := hrow.info
    split at h
    · rename_i s hs
      obtain ⟨ti, t1, t2, t3⟩ := size_row hE hs
      obtain ⟨ie, k1, k2, _⟩ := t3.info
      obtain ⟨c, hc, h⟩ := Tree.res_bind h
      obtain rfl := h
      obtain ⟨cs, g1, g2, g3⟩ := fillL_den (place' := fun i => some (i * s, s)) (fun i => .inl rfl) hc hy (i5 ρ)
      refine ⟨.agg cs.toArray, by simp [den, g1], run_build w t parts cs.toArray ?_⟩
      simp only [Program.built, i1, hu, i4, k1, k2, t2, hp]
      rw [← g3]
      congr 1
      rw [← i6]
    · exact h.elim
  · exact h.elim

theorem run_newVar (t : TypeId) (v : Value) : (newVar t v).run P w = .ok ⟨w.heap.size, 0, none⟩ (w.alloc (.cells v.cells t)) := by
  simp [newVar, newRow]

theorem alloc_op {E : EnvX} (hE : TabOk P E.toEnv) (hr : HRel ρ mt ct w) {st : St} (hn : ρ st.nid = none) {t : TypeId} {i : TI} {e : Eff} (hi : E.tt.get t = some i) (h : (newCells st i.zero).res e) :
    (∃ ρ' x w', OpOut P ((do pure (.value (← Instr.alloc t true (.tuple #[]))) : Sem Next).run P w) ρ mt ct w st.nid e ρ' x w') ∧ LocalW st.hp e.wr := by
  obtain ⟨z, zs, h1, h2, h3, h4, h5⟩ := zeros (w := w) (ρ := ρ) (hE.row _ _ hi)
  refine newCells_out hr hn h h3 t ?_
  simp only [Instr.alloc, Sem.run_bind, h1, Result.andThen_ok, run_newVar, Sem.run_pure]
  rw [← h2]

theorem box_op (hr : HRel ρ mt ct w) {st : St} (hn : ρ st.nid = none) {t : TypeId} {v : LVal} {y : Value} {e : Eff} (hx : den ρ v = some y) (h : (newCells st v.cells).res e) :
    (∃ ρ' x w', OpOut P ((do pure (.value (← Instr.box t y)) : Sem Next).run P w) ρ mt ct w st.nid e ρ' x w') ∧ LocalW st.hp e.wr := by
  have hone : allOne v.cells = true := by
    unfold newCells at h
    split at h
    · rename_i ho; exact ho
    · exact h.elim
  have hd := cells_den' hx (plain_of_one hone)
  refine newCells_out (P := P) (r := (do pure (.value (← Instr.box t y)) : Sem Next).run P w) hr hn h hd t ?_
  simp only [Instr.box, Sem.run_bind, Result.andThen_ok, run_newVar, Sem.run_pure]

theorem buildSlice_op {E : EnvX} (hE : TabOk P E.toEnv) (hr : HRel ρ mt ct w) {st : St} (hn : ρ st.nid = none) {t te : TypeId} {n s : Nat} {i : TI} {ps : List (Nat × LVal)} {cs : List LVal} {e : Eff} {ys : List Value}
    (hut : P.underlying t = some (.slice te)) (hi : E.tt.get te = some i) (hsz : i.size = s + 1) (hc : (fillL (fun j => some (j * (s + 1), s + 1)) (repL n i.zero) ps).res cs) (ho : allOne cs = true) (hsm : n * (s + 1) ≤ 16777216)
    (h : (newEff st (.new cs) (.slice st.nid (.lit 0) (.lit n) (some (.lit n)))).res e) (hy : denL ρ (ps.map (·.2)) = some ys) (parts : Array (Nat × Value)) (hp : parts.toList = (ps.map (·.1)).zip ys) :
    (∃ ρ' x w', OpOut P ((do pure (.value (← Instr.buildSlice t n parts)) : Sem Next).run P w) ρ mt ct w st.nid e ρ' x w') ∧ LocalW st.hp e.wr := by
  obtain rfl := h
  have hrow := hE.row _ _ hi
  obtain ⟨inf, i1, i2, i3, zv, zs, i4, i5, i6, i7, i8⟩ := hrow.info
  have hzl : i.zero.length = s + 1 := by rw [← (denL_get (i5 ρ)).1, i7, hsz]
  have hrep := repL_den (i5 ρ) i6 (by omega) n
  rw [hzl] at hrep
  obtain ⟨xs, g1, g2, g3⟩ := fillL_den (place' := fun j => some (j * (s + 1), s + 1)) (fun j => .inl rfl) hc hy hrep
  have hlen : xs.length = cs.length := (denL_get g1).1
  refine ⟨alloc_out hr hn xs.toArray te (.new cs) (.slice st.nid (.lit 0) (.lit n) (some (.lit n))) (.slice (some ⟨w.heap.size, 0, none⟩) n n) [st.nid] rfl (fun k hk => ?_) (contAt_cells g1 (allOne_den ho g1)) (by simp [den, denS]) ?_, trivial⟩
  · simp [Blk.new] at hk
    simp [hlen, hk]
  · have hs : inf.size = s + 1 := by rw [i2, hsz]
    by_cases h0 : n = 0
    · subst h0
      have hps : Instr.fill (fun j => some (j * (s + 1), s + 1)) #[] parts.toList = some xs.toArray := by
        rw [hp, ← g3]
        have : (repV zv.cells (0 * (s + 1))) = #[] := by rw [Nat.zero_mul]; unfold repV; apply Array.ext <;> simp
        rw [this]
      have he : ∀ f : Nat → Value, Array.map f (Array.range 0) = #[] := fun f => by apply Array.ext <;> simp
      simp [he, Instr.buildSlice, run_underlying hut, sizeOf, typeInfo, i1, hs, hps, newRow]
    · have hpos : ¬ n * inf.size = 0 := by rw [hs]; exact Nat.mul_ne_zero h0 (by omega)
      have := run_buildSlice w t te n parts xs.toArray inf zv hut i1 i4 (by rw [hs]; omega) hpos (by rw [hs, hp, ← g3]; rfl)
      simp only [Sem.run_bind, this, Result.andThen_ok]
      rfl

theorem lenV_den {E : EnvX} (hE : TabOk P E.toEnv) {t : TypeId} {x : LVal} {e : Eff} {a : Value} (h : (lenV E.toEnv t x).res e) (hx : den ρ x = some a) (ts : List TypeId) (ty : TypeId) :
    e.wr = [] ∧ e.cnt = 0 ∧ ∃ r, den ρ e.val = some r ∧ (Builtin.len_ (t :: ts).toArray ty #[a]).run P w = .ok r w := by
  unfold lenV at h
  split at h
  · rename_i hr
    have hu := (hE.row _ _ hr).shape
    simp only [shapeP] at hu
    obtain rfl := h
    rename_i len _
    have hf : ∃ ad cp, a = .slice ad len.v cp := by
      simp only [den] at hx
      rename_i id off cap
      cases hb : ρ id with
      | none => rw [hb] at hx; cases cap <;> cases hx
      | some ob =>
        cases ob with
        | none => obtain ⟨rfl, hl, _⟩ := slice_nil hb (by simpa only [den] using hx); exact ⟨none, 0, by rw [hl]⟩
        | some p => obtain ⟨cp, rfl, _⟩ := slice_form hb (by simpa only [den] using hx); exact ⟨_, cp, rfl⟩
    obtain ⟨ad, cp, rfl⟩ := hf
    exact ⟨rfl, rfl, _, rfl, by simp [Builtin.len_, run_underlying hu, goInt]⟩
  · rename_i hr
    have hu := (hE.row _ _ hr).shape
    simp only [shapeP] at hu
    obtain rfl := h
    rename_i id off l len
    have hf : ∃ ad cp, a = .slice ad len.v cp := by
      have hs := src_cut hx
      simp only [den] at hx
      obtain ⟨_, _, _, _, ob, hb, _⟩ := denC_form hx
      cases ob with
      | none => obtain ⟨rfl, hl⟩ := hs.1 hb; exact ⟨none, 0, by rw [hl]⟩
      | some p => obtain ⟨o', cp, rfl, _⟩ := hs.2 _ _ hb; exact ⟨_, cp, rfl⟩
    obtain ⟨ad, cp, rfl⟩ := hf
    exact ⟨rfl, rfl, _, rfl, by simp [Builtin.len_, run_underlying hu, goInt]⟩
  · rename_i hr
    have hu := (hE.row _ _ hr).shape
    simp only [shapeP] at hu
    obtain rfl := h
    obtain rfl := Option.some.inj hx
    exact ⟨rfl, rfl, _, rfl, by simp [Builtin.len_, run_underlying hu, goInt]⟩
  · rename_i hr
    have hu := (hE.row _ _ hr).shape
    simp only [shapeP] at hu
    obtain rfl := h
    obtain rfl := Option.some.inj hx
    exact ⟨rfl, rfl, _, rfl, by simp [Builtin.len_, run_underlying hu, goInt]⟩
  · rename_i hr
    have hu := (hE.row _ _ hr).shape
    simp only [shapeP] at hu
    obtain rfl := h
    exact ⟨rfl, rfl, _, rfl, by simp [Builtin.len_, run_underlying hu, goInt]⟩
  · rename_i hr
    have hu := (hE.row _ _ hr).shape
    simp only [shapeP] at hu
    split at h
    · rename_i hr2
      have hu2 := (hE.row _ _ hr2).shape
      simp only [shapeP] at hu2
      obtain rfl := h
      exact ⟨rfl, rfl, _, rfl, by simp [Builtin.len_, run_underlying hu, run_underlying hu2, goInt]⟩
    · exact h.elim
  · exact h.elim

theorem capV_den {E : EnvX} (hE : TabOk P E.toEnv) {t : TypeId} {x : LVal} {e : Eff} {a : Value} (h : (capV E.toEnv t x).res e) (hx : den ρ x = some a) (ts : List TypeId) (ty : TypeId) :
    e.wr = [] ∧ e.cnt = 0 ∧ ∃ r, den ρ e.val = some r ∧ (Builtin.cap_ (t :: ts).toArray ty #[a]).run P w = .ok r w := by
  unfold capV at h
  split at h
  · rename_i hr
    have hu := (hE.row _ _ hr).shape
    simp only [shapeP] at hu
    obtain rfl := h
    rename_i c
    have hf : ∃ ad l, a = .slice ad l c.v := by
      have hx' := hx
      simp only [den, Option.map_some] at hx
      rcases denS_some hx with ⟨b, C, _, rfl⟩ | ⟨_, _, hz, rfl⟩
      · exact ⟨_, _, rfl⟩
      · exact ⟨_, _, by rw [hz]⟩
    obtain ⟨ad, l, rfl⟩ := hf
    exact ⟨rfl, rfl, _, rfl, by simp [Builtin.cap_, run_underlying hu, goInt]⟩
  · rename_i hr
    have hu := (hE.row _ _ hr).shape
    simp only [shapeP] at hu
    obtain rfl := h
    obtain rfl := Option.some.inj hx
    exact ⟨rfl, rfl, _, rfl, by simp [Builtin.cap_, run_underlying hu, goInt]⟩
  · exact h.elim

theorem minL_v (a b : LN) : (minL a b).v = if b.v < a.v then b.v else a.v := by
  cases a <;> cases b <;> rfl

end
end Go.LE

/- The local evaluator, part R: every operation. -/
namespace Go.LE
open Go.RowKit

section
variable {P : Program} {w : World} {ρ : Ren} {mt : MT} {ct : CT}

/-- What an operation leaves. -/
structure Res (ρ : Ren) (mt : MT) (ct : CT) (w : World) (nid : Nat) (e : Eff) (ρ' : Ren) (x : Value) (w' : World) : Prop where
  val : den ρ' e.val = some x
  heap : HRel ρ' (mtU mt e.wr) (ctU ct e.wr) w'
  ext : Ext ρ mt w ρ' (mtU mt e.wr) w'
  dom : ∀ id y, ρ' id = some y → ρ id = some y ∨ (nid ≤ id ∧ id < nid + e.cnt)

theorem OpOut.res {r : Result Next} {nid : Nat} {e : Eff} {ρ' : Ren} {x : Value} {w' : World} (h : OpOut P r ρ mt ct w nid e ρ' x w') : Res ρ mt ct w nid e ρ' x w' := ⟨h.val, h.heap, h.ext, h.dom⟩

/-- An operation does what the evaluator says. -/
def OpWp (P : Program) (o : Oper) (a : Act) (ρ : Ren) (mt : MT) (ct : CT) (w : World) (nid : Nat) (e : Eff) : Prop :=
  ∀ (K : Act → World → Prop) (Q : Exit → Act → World → Prop), (∀ ρ' x w', Res ρ mt ct w nid e ρ' x w' → K (a.put o.dst x) w') → o.wp P a w K Q

theorem OpOut.wp {o : Oper} {a : Act} {nid : Nat} {e : Eff} (h : ∃ ρ' x w', OpOut P ((execOp a.eval o).run P w) ρ mt ct w nid e ρ' x w') : OpWp P o a ρ mt ct w nid e := by
  intro K Q hK
  obtain ⟨ρ', x, w', ho⟩ := h
  have hk := hK ρ' x w' ho.res
  unfold Oper.wp
  rcases ho.run with h | ⟨h, rfl⟩ <;> rw [h] <;> exact hk

theorem Res.pure {nid : Nat} {e : Eff} {x : Value} (hr : HRel ρ mt ct w) (hw : e.wr = []) (hx : den ρ e.val = some x) : Res ρ mt ct w nid e ρ x w :=
  ⟨hx, by rw [hw]; exact hr, by rw [hw]; exact Ext.refl _ _ _, fun _ _ h => .inl h⟩

theorem OpWp.pure {o : Oper} {a : Act} {nid : Nat} {e : Eff} {x : Value} (hr : HRel ρ mt ct w) (hw : e.wr = []) (hx : den ρ e.val = some x) (hrun : (execOp a.eval o).run P w = .ok (.value x) w) : OpWp P o a ρ mt ct w nid e :=
  OpOut.wp (OpOut.pure hr hw hx hrun)

/- What is asked of the functions that are called. -/

def Enters (P : Program) (f : FuncId) : Prop := ∀ args w, (callFunc f args).run P w = .ok (.enter f args) w

/-- A contract holds. -/
def OrcOk (P : Program) (f : FuncId) (q : Orc) : Prop := ∀ (ρ : Ren) (mt : MT) (ct : CT) (w : World) (look : Nat → Option Blk) (nid : Nat) (args : List LVal) (vs : List Value) (r : OrcRes),
  denL ρ args = some vs → HRel ρ mt ct w → (∀ id ∈ q.acc args, id < nid → mt id = (look id).map Blk.mt ∧ ∀ i, ct id i = (look id).bind fun b => contAt b.cont i) →
  (∀ id b, look id = some b → id < nid) → (∀ k, nid ≤ k → k < nid + r.cnt → ρ k = none) → (q.run args look nid).res r →
  Calls P f vs.toArray w fun
    | .returned x, w' => ∃ ρ', Res ρ mt ct w nid ⟨r.val, wrOf r.wr, [], r.cnt⟩ ρ' x w'
    | _, _ => False

def ExtOk (P : Program) (f : FuncId) (g : List LVal → Tree LVal) : Prop := ∀ (ρ : Ren) (args : List LVal) (vs : List Value) (v : LVal) (w : World), denL ρ args = some vs → (g args).res v →
  ∃ x, den ρ v = some x ∧ (callFunc f vs.toArray).run P w = .ok (.value x) w

structure EnvOk (P : Program) (E : EnvX) : Prop where
  tab : TabOk P E.toEnv
  orc : ∀ f q, E.orc.get f = some q → Enters P f ∧ OrcOk P f q
  ext : ∀ f g, E.ext.get f = some g → ExtOk P f g
  fns : ∀ f fn, E.fns.get f = some fn → Enters P f ∧ P.funcs[f]? = some fn.1
  mixed : P.follows .mixedOrders = true
  lps : ∀ k c' f, findLp k E.lps = some (c', f) → True

theorem opt_res {x : Option LVal} {k : LVal → Tree Eff} {e : Eff} (h : (opt x k).res e) : ∃ v, x = some v ∧ (k v).res e := by
  cases x with
  | none => exact h.elim
  | some v => exact ⟨v, rfl, h⟩

theorem optO_res {st : St} {x : Option Operand} {k : Option LVal → Tree Eff} {e : Eff} {sl : Nat → Option LVal} {a : Act} (hs : SlotsOk ρ sl a) (hx : ∀ y, x = some y → Sees st sl y) (h : (optO st x k).res e) :
    ∃ v, (k v).res e ∧ denO ρ v (x.map a.eval) := by
  cases x with
  | none => exact ⟨none, h, trivial⟩
  | some o =>
    simp only [optO] at h
    split at h
    · rename_i v hv
      exact ⟨some v, h, oval_den hs (hx o rfl) hv⟩
    · exact h.elim

theorem appendV_cnt {E : Env} {st : St} {t : TypeId} {s x : LVal} {e : Eff} (h : (appendV E st t s x).res e) : e.cnt = 1 := by
  unfold appendV at h
  split at h
  · split at h
    · split at h
      · obtain ⟨ex, _, h⟩ := Tree.res_bind h
        split at h
        · obtain ⟨c, _, h⟩ := Tree.res_bind h
          obtain ⟨_, h⟩ := res_leN h
          obtain rfl := h
          rfl
        · split at h
          · split at h
            · obtain ⟨_, h⟩ := okCap_res h
              obtain ⟨_, _, h⟩ := Tree.res_bind h
              obtain ⟨_, _, h⟩ := Tree.res_bind h
              obtain ⟨_, h⟩ := res_leN h
              obtain rfl := h
              rfl
            · exact h.elim
          · exact h.elim
        · exact h.elim
      · exact h.elim
    · exact h.elim
  · exact h.elim

theorem newEff_cnt {st : St} {b : Blk} {v : LVal} {e : Eff} (h : (newEff st b v).res e) : e.cnt = 1 := by obtain rfl := h; rfl

theorem newCells_cnt {st : St} {l : List LVal} {e : Eff} (h : (newCells st l).res e) : e.cnt = 1 := by
  unfold newCells at h
  split at h
  · exact newEff_cnt h
  · exact h.elim

theorem makeV_cnt {E : Env} {st : St} {t : TypeId} {l c : LVal} {e : Eff} (h : (makeV E st t l c).res e) : e.cnt = 1 := by
  unfold makeV at h
  split at h
  · split at h
    · split at h
      · obtain ⟨_, h⟩ := res_nonneg h
        obtain ⟨_, h⟩ := res_nonneg h
        obtain ⟨_, h⟩ := res_leN h
        obtain ⟨_, h⟩ := res_leN h
        exact newEff_cnt h
      · exact h.elim
    · exact h.elim
  · exact h.elim

theorem calleeOf_den {st : St} {sl : Nat → Option LVal} {a : Act} (hs : SlotsOk ρ sl a) {c : Call} (hx : ∀ x ∈ c.operands, Sees st sl x) {f : FuncId} {vs : List LVal} (h : calleeOf st c = some (f, vs)) (ty : TypeId) :
    ∃ x, c.callee = .value x ∧ ∃ xs, denL ρ vs = some xs ∧ ∀ w, (do let d ← resolve a.eval c ty; invoke d.target d.args : Sem Next).run P w = (callFunc f xs.toArray).run P w := by
  unfold calleeOf at h
  split at h
  · rename_i x hc
    split at h
    · rename_i f' first cap vs' hv hvs
      simp only [Option.some.injEq, Prod.mk.injEq] at h
      obtain ⟨rfl, rfl⟩ := h
      have hf := oval_den hs (hx x (by simp [Call.operands, hc])) hv
      have ha := ovals_den hs (fun y hy => hx y (by simp [Call.operands]; exact .inr (by simpa using hy))) hvs
      simp only [den] at hf
      split at hf
      · rename_i u1 u2 h1 h2
        refine ⟨x, hc, _, denL_append (denL_append h1 ha) h2, fun w => ?_⟩
        have hf' := Option.some.inj hf
        simp only [resolve, hc, Deferred.ofValue, ← hf', Sem.run_bind, Sem.run_pure, Result.andThen_ok, invoke]
        congr 2
        simp
      · cases hf
    · cases h
  · cases h

theorem st_look {st : St} {ids : List Nat} {id : Nat} {b : Blk} (h : st.look ids id = some b) : st.hp.get id = some b := by
  unfold St.look at h
  split at h
  · exact h
  · cases h

theorem st_look_mem {st : St} {ids : List Nat} {id : Nat} (h : id ∈ ids) : st.look ids id = st.hp.get id := by
  unfold St.look
  have : ids.any (Nat.beq id) = true := List.any_eq_true.2 ⟨id, h, Nat.beq_refl id⟩
  rw [this]

theorem builtin_sound {E : EnvX} (hE : EnvOk P E) (hr : HRel ρ mt ct w) {st : St} {a : Act} {o : Oper} {c : Call} {b : Builtin} (hb : c.callee = .builtin b) (ho : o.op = .call c) {vs : List LVal} {e : Eff}
    (hd : denL ρ vs = some (c.args.toList.map a.eval)) (h : (builtinV E.toEnv st b c.argTypes.toList vs).res e)
    (hag : ∀ y ∈ e.acc, y < st.nid → Agree mt ct st.hp y) (hfr : ∀ id bk, st.hp.get id = some bk → id < st.nid) (hfree : ∀ k, st.nid ≤ k → k < st.nid + e.cnt → ρ k = none) : OpWp P o a ρ mt ct w st.nid e := by
  have hT := hE.tab
  have hn : e.cnt = 1 → ρ st.nid = none := fun h => hfree _ (Nat.le_refl _) (by omega)
  have hex : execOp a.eval o = builtin b c.argTypes o.type (c.args.map fun | .const _ => true | _ => false) (c.args.map a.eval) := by
    simp only [execOp, ho, resolve, hb, invoke]
    rfl
  have hty : ∀ l, c.argTypes.toList = l → c.argTypes = l.toArray := fun l h => by rw [← h]
  have hva : ∀ l, c.args.toList.map a.eval = l → c.args.map a.eval = l.toArray := fun l h => by rw [← h]; apply Array.ext'; simp
  unfold builtinV at h
  split at h
  · rename_i t u s x hts
    split at h
    · rename_i hru
      have hu := (hT.row _ _ hru).shape
      simp only [shapeP] at hu
      obtain ⟨y1, r1, d1, hd1, e1⟩ := denL_cons hd
      obtain ⟨y2, d2, rfl⟩ := denL_one hd1
      refine OpOut.wp ?_
      have := (appendV_out (P := P) hT hr (hn (appendV_cnt h)) hu h d1 d2 hag hfr o.type).1
      rw [hex, hty _ hts, hva _ e1]
      exact this
    · exact h.elim
  · rename_i t u s x hts
    obtain ⟨y1, r1, d1, hd1, e1⟩ := denL_cons hd
    obtain ⟨y2, d2, rfl⟩ := denL_one hd1
    refine OpOut.wp ?_
    have := (copyV_out (P := P) (u := u) hT hr h d1 d2 hag hfr o.type st.nid).1
    rw [hex, hty _ hts, hva _ e1]
    exact this
  · rename_i t ts x hts
    obtain ⟨y, d1, e1⟩ := denL_one hd
    obtain ⟨h1, h2, r, k1, k2⟩ := lenV_den (P := P) (w := w) hT h d1 ts o.type
    refine .pure hr h1 k1 ?_
    rw [hex, hty _ hts, hva _ e1]
    simp only [builtin, Sem.run_bind, k2, Result.andThen_ok]
    rfl
  · rename_i t ts x hts
    obtain ⟨y, d1, e1⟩ := denL_one hd
    obtain ⟨h1, h2, r, k1, k2⟩ := capV_den (P := P) (w := w) hT h d1 ts o.type
    refine .pure hr h1 k1 ?_
    rw [hex, hty _ hts, hva _ e1]
    simp only [builtin, Sem.run_bind, k2, Result.andThen_ok]
    rfl
  · rename_i k a' k' c'
    obtain ⟨y1, r1, d1, hd1, e1⟩ := denL_cons hd
    obtain ⟨y2, d2, rfl⟩ := denL_one hd1
    obtain rfl := h
    obtain rfl := Option.some.inj d1
    obtain rfl := Option.some.inj d2
    refine .pure hr rfl rfl ?_
    rw [hex, hva _ e1]
    simp [builtin, Builtin.min_, Builtin.min2, minL_v]
  · exact h.elim

theorem lop_sound {E : EnvX} (hE : EnvOk P E) (hr : HRel ρ mt ct w) {st : St} {sl : Nat → Option LVal} {a : Act} (hs : SlotsOk ρ sl a) {o : Oper} (hx : ∀ x ∈ o.op.operands, Sees st sl x) {e : Eff} (h : (lop E st o).res e)
    (hag : ∀ y ∈ e.acc, y < st.nid → Agree mt ct st.hp y) (hfr : ∀ id bk, st.hp.get id = some bk → id < st.nid) (hfree : ∀ k, st.nid ≤ k → k < st.nid + e.cnt → ρ k = none) : OpWp P o a ρ mt ct w st.nid e := by
  have hT := hE.tab
  have hn : e.cnt = 1 → ρ st.nid = none := fun h => hfree _ (Nat.le_refl _) (by omega)
  unfold lop at h
  split at h
  · rename_i x ho
    obtain ⟨v, hv, h⟩ := opt_res h
    obtain rfl := h
    exact .pure hr rfl (oval_den hs (hx x (by simp [ho, Op.operands])) hv) (by simp [execOp, ho])
  · rename_i x ho
    obtain ⟨v, hv, h⟩ := opt_res h
    obtain rfl := h
    exact .pure hr rfl (oval_den hs (hx x (by simp [ho, Op.operands])) hv) (by simp [execOp, ho])
  · rename_i c y z ho
    have hc : ∀ s q, st.oval c = some (.bool s q) → a.eval c = .bool q := fun s q hq => by
      have := oval_den hs (hx c (by simp [ho, Op.operands])) hq
      exact (Option.some.inj this).symm
    split at h
    · rename_i hq
      obtain ⟨v, hv, h⟩ := opt_res h
      obtain rfl := h
      exact .pure hr rfl (oval_den hs (hx y (by simp [ho, Op.operands])) hv) (by simp [execOp, ho, hc _ _ hq, asBool])
    · rename_i hq
      obtain ⟨v, hv, h⟩ := opt_res h
      obtain rfl := h
      exact .pure hr rfl (oval_den hs (hx z (by simp [ho, Op.operands])) hv) (by simp [execOp, ho, hc _ _ hq, asBool])
    · rename_i b hq
      cases b with
      | true =>
        obtain ⟨v, hv, h⟩ := opt_res (h.1 rfl)
        obtain rfl := h
        exact .pure hr rfl (oval_den hs (hx y (by simp [ho, Op.operands])) hv) (by simp [execOp, ho, hc _ _ hq, asBool])
      | false =>
        obtain ⟨v, hv, h⟩ := opt_res (h.2 rfl)
        obtain rfl := h
        exact .pure hr rfl (oval_den hs (hx z (by simp [ho, Op.operands])) hv) (by simp [execOp, ho, hc _ _ hq, asBool])
    · exact h.elim
  · rename_i t ho
    split at h
    · rename_i i hi
      refine OpOut.wp ?_
      have := (alloc_op (P := P) hT hr (hn (newCells_cnt h)) hi h).1
      simpa only [execOp, ho] using this
    · exact h.elim
  · rename_i t x ho
    obtain ⟨v, hv, h⟩ := opt_res h
    refine OpOut.wp ?_
    have := (box_op (P := P) (t := t) hr (hn (newCells_cnt h)) (oval_den hs (hx x (by simp [ho, Op.operands])) hv) h).1
    simpa only [execOp, ho] using this
  · rename_i t ps ho
    split at h
    · rename_i l hl
      obtain ⟨v, hv, h⟩ := Tree.res_bind h
      obtain rfl := h
      obtain ⟨g1, g2⟩ := pvals_den hs (fun p hp => hx p.2 (by simp [ho, Op.operands]; exact ⟨p.1, by simpa using hp⟩)) hl
      obtain ⟨r, k1, k2⟩ := buildV_den (P := P) (w := w) hT hv g2 (ps.map fun (i, x) => (i, a.eval x)) (by rw [g1, parts_zip]; simp)
      exact .pure hr rfl k1 (by simp only [execOp, ho, Sem.run_bind, k2, Result.andThen_ok]; rfl)
    · exact h.elim
  · rename_i t n ps ho
    split at h
    · rename_i te _ _ _ l hr1 hl
      have hu := (hT.row _ _ hr1).shape
      simp only [shapeP] at hu
      split at h
      · rename_i i hi
        split at h
        · exact h.elim
        · rename_i s hsz
          obtain ⟨cs, hc, h⟩ := Tree.res_bind h
          split at h
          · rename_i h1 h2
            obtain ⟨g1, g2⟩ := pvals_den hs (fun p hp => hx p.2 (by simp [ho, Op.operands]; exact ⟨p.1, by simpa using hp⟩)) hl
            refine OpOut.wp ?_
            have := (buildSlice_op (P := P) hT hr (hn (newEff_cnt h)) hu hi hsz hc h1 (Nat.le_of_ble_eq_true h2) h g2 (ps.map fun (i, x) => (i, a.eval x)) (by rw [g1, parts_zip]; simp)).1
            simpa only [execOp, ho] using this
          · exact h.elim
      · exact h.elim
    · exact h.elim
  · rename_i t x ho
    obtain ⟨v, hv, h⟩ := opt_res h
    obtain ⟨h1, h2, r, k1, k2⟩ := loadV_run (P := P) hT h (oval_den hs (hx x (by simp [ho, Op.operands])) hv) hr hag hfr
    exact .pure hr h1 k1 (by simp only [execOp, ho, Sem.run_bind, k2, Result.andThen_ok]; rfl)
  · rename_i t x y ho
    obtain ⟨v, hv, h⟩ := opt_res h
    obtain ⟨u, hu, h⟩ := opt_res h
    refine OpOut.wp ?_
    have := (storeV_run (P := P) hT h (oval_den hs (hx x (by simp [ho, Op.operands])) hv) (oval_den hs (hx y (by simp [ho, Op.operands])) hu) hr hag hfr st.nid).1
    simpa only [execOp, ho] using this
  · rename_i x ho
    obtain ⟨v, hv, h⟩ := opt_res h
    have hd := oval_den hs (hx x (by simp [ho, Op.operands])) hv
    split at h
    · obtain rfl := h
      have hd' := hd
      simp only [den, denP] at hd
      split at hd
      · rename_i b C hb
        have hd := Option.some.inj hd
        exact .pure hr rfl hd' (by simp [execOp, ho, ← hd])
      · cases hd
    · obtain rfl := h
      have hd' := hd
      simp only [den] at hd
      split at hd
      · have hd := Option.some.inj hd
        exact .pure hr rfl hd' (by simp [execOp, ho, ← hd])
      · cases hd
    · exact h.elim
  · rename_i op t x y _ ho
    obtain ⟨v, hv, h⟩ := opt_res h
    obtain ⟨u, hu, h⟩ := opt_res h
    obtain ⟨q, hq, h⟩ := Tree.res_bind h
    obtain rfl := h
    obtain ⟨r, k1, k2⟩ := binV_den (P := P) (w := w) hT hq (oval_den hs (hx x (by simp [ho, Op.operands])) hv) (oval_den hs (hx y (by simp [ho, Op.operands])) hu) (fun id hid b hb => by
      obtain ⟨ob, h1, h2, _⟩ := hr.at hb (hag id hid (hfr _ _ hb)).1
      exact ⟨ob, h1, h2⟩) x y
    refine .pure hr rfl k1 ?_
    simp only [execOp, ho]
    simp only [Sem.run_bind] at k2 ⊢
    rw [k2]
    rfl
  · rename_i op _ x ho
    obtain ⟨v, hv, h⟩ := opt_res h
    obtain ⟨q, hq, h⟩ := Tree.res_bind h
    obtain rfl := h
    obtain ⟨r, k1, k2⟩ := unV_den (P := P) (w := w) hq (oval_den hs (hx x (by simp [ho, Op.operands])) hv)
    exact .pure hr rfl k1 (by simp only [execOp, ho, Sem.run_bind, k2, Result.andThen_ok]; rfl)
  · rename_i s d x ho
    obtain ⟨v, hv, h⟩ := opt_res h
    refine OpOut.wp ?_
    have := (convV_out (P := P) hT hr hn h (oval_den hs (hx x (by simp [ho, Op.operands])) hv) hag hfr).1
    simpa only [execOp, ho] using this
  · rename_i t x ho
    obtain ⟨v, hv, h⟩ := opt_res h
    obtain ⟨h1, h2, r, k1, k2⟩ := toArrV_den (P := P) (w := w) hT h (oval_den hs (hx x (by simp [ho, Op.operands])) hv)
    exact .pure hr h1 k1 (by simp only [execOp, ho, Sem.run_bind, k2, Result.andThen_ok]; rfl)
  · rename_i f first cap ho
    split at h
    · rename_i u v hu hv
      obtain rfl := h
      have d1 := ovals_den hs (fun y hy => hx y (by simp [ho, Op.operands]; exact .inl (by simpa using hy))) hu
      have d2 := ovals_den hs (fun y hy => hx y (by simp [ho, Op.operands]; exact .inr (by simpa using hy))) hv
      refine .pure hr rfl (x := .func (.func f) (first.map a.eval) (cap.map a.eval)) ?_ (by simp [execOp, ho, Instr.makeFunc])
      simp only [den, d1, d2]
      congr 2 <;> · apply Array.ext'; simp
    · exact h.elim
  · rename_i t x y ho
    obtain ⟨v, hv, h⟩ := opt_res h
    obtain ⟨u, hu, h⟩ := opt_res h
    refine OpOut.wp ?_
    have := (makeV_out (P := P) hT hr (hn (makeV_cnt h)) h (oval_den hs (hx x (by simp [ho, Op.operands])) hv) (oval_den hs (hx y (by simp [ho, Op.operands])) hu)).1
    simpa only [execOp, ho] using this
  · rename_i t x lo hi mx ho
    obtain ⟨v, hv, h⟩ := opt_res h
    obtain ⟨l1, h, d1⟩ := optO_res hs (fun y hy => hx y (by simp [ho, Op.operands, hy])) h
    obtain ⟨l2, h, d2⟩ := optO_res hs (fun y hy => hx y (by simp [ho, Op.operands, hy])) h
    obtain ⟨l3, h, d3⟩ := optO_res hs (fun y hy => hx y (by simp [ho, Op.operands, hy])) h
    obtain ⟨h1, h2, r, k1, k2⟩ := sliceV_den (P := P) (w := w) hT h (oval_den hs (hx x (by simp [ho, Op.operands])) hv) d1 d2 d3
    exact .pure hr h1 k1 (by simp only [execOp, ho, Sem.run_bind, k2, Result.andThen_ok]; rfl)
  · rename_i t x f ho
    obtain ⟨v, hv, h⟩ := opt_res h
    obtain ⟨h1, h2, r, k1, k2⟩ := fieldAddrV_den (P := P) (w := w) hT h (oval_den hs (hx x (by simp [ho, Op.operands])) hv)
    exact .pure hr h1 k1 (by simp only [execOp, ho, Sem.run_bind, k2, Result.andThen_ok]; rfl)
  · rename_i t x f ho
    obtain ⟨v, hv, h⟩ := opt_res h
    obtain ⟨h1, h2, r, k1, k2⟩ := fieldV_den (P := P) (w := w) hT h (oval_den hs (hx x (by simp [ho, Op.operands])) hv)
    exact .pure hr h1 k1 (by simp only [execOp, ho, Sem.run_bind, k2, Result.andThen_ok]; rfl)
  · rename_i t x i ho
    obtain ⟨v, hv, h⟩ := opt_res h
    obtain ⟨u, hu, h⟩ := opt_res h
    obtain ⟨h1, h2, r, k1, k2⟩ := indexAddrV_den (P := P) (w := w) hT h (oval_den hs (hx x (by simp [ho, Op.operands])) hv) (oval_den hs (hx i (by simp [ho, Op.operands])) hu)
    exact .pure hr h1 k1 (by simp only [execOp, ho, Sem.run_bind, k2, Result.andThen_ok]; rfl)
  · rename_i t x i ho
    obtain ⟨v, hv, h⟩ := opt_res h
    obtain ⟨u, hu, h⟩ := opt_res h
    obtain ⟨h1, h2, r, k1, k2⟩ := indexV_den (P := P) (w := w) hT h (oval_den hs (hx x (by simp [ho, Op.operands])) hv) (oval_den hs (hx i (by simp [ho, Op.operands])) hu)
    exact .pure hr h1 k1 (by simp only [execOp, ho, Sem.run_bind, k2, Result.andThen_ok]; rfl)
  · rename_i x i ho
    obtain ⟨v, hv, h⟩ := opt_res h
    have hd := oval_den hs (hx x (by simp [ho, Op.operands])) hv
    split at h
    · rename_i vs
      obtain ⟨u, hu, h⟩ := opt_res h
      obtain rfl := h
      simp only [den] at hd
      split at hd
      · rename_i xs hxs
        have hd := Option.some.inj hd
        rw [nth_spec] at hu
        obtain ⟨y, hy, hyd⟩ := (denL_get hxs).2 i u hu
        exact .pure hr rfl hyd (by simp [execOp, ho, ← hd, Instr.extract, hy])
      · cases hd
    · exact h.elim
  · rename_i c ho
    have hxc : ∀ x ∈ c.operands, Sees st sl x := fun x h => hx x (by simpa [ho, Op.operands] using h)
    split at h
    · rename_i b hb
      split at h
      · rename_i vs hvs
        have hd := ovals_den hs (fun y hy => hxc y (by simp [Call.operands, hb]; simpa using hy)) hvs
        exact builtin_sound hE hr hb ho hd h hag hfr hfree
      · exact h.elim
    · split at h
      · rename_i f vs hf
        obtain ⟨_, _, xs, hd, hrun⟩ := calleeOf_den (P := P) hs hxc hf o.type
        have hex : (execOp a.eval o).run P w = (callFunc f xs.toArray).run P w := by
          rw [← hrun]; simp only [execOp, ho]
        unfold callV at h
        split at h
        · rename_i q hq
          obtain ⟨r, hres, h⟩ := Tree.res_bind h
          obtain rfl := h
          obtain ⟨he, hk⟩ := hE.orc _ _ hq
          intro K Q hK
          unfold Oper.wp
          rw [hex, he, Oper.upon_enter]
          refine Calls.mono (hk ρ mt ct w (st.look (q.acc vs)) st.nid vs xs r hd hr (fun id hid hlt => ?_) (fun id b hb => hfr _ _ (st_look hb)) hfree hres) fun e' w' hw' => ?_
          · obtain ⟨h1, h2⟩ := hag id (by simp [hid]) hlt
            rw [st_look_mem hid]
            refine ⟨h1, fun i => ?_⟩
            rw [h2 i rfl]
            unfold ctOf
            cases st.hp.get id <;> rfl
          · cases e' with
            | returned x =>
              obtain ⟨ρ', hres'⟩ := hw'
              exact hK ρ' x w' ⟨hres'.val, hres'.heap, hres'.ext, hres'.dom⟩
            | panicked _ => exact hw'.elim
            | outgrown => exact hw'.elim
        · split at h
          · rename_i g hg
            obtain ⟨v, hv, h⟩ := Tree.res_bind h
            obtain rfl := h
            obtain ⟨x, k1, k2⟩ := hE.ext _ _ hg ρ vs xs v w hd hv
            exact .pure hr rfl k1 (by rw [hex, k2])
          · exact h.elim
      · exact h.elim
  · exact h.elim

end
end Go.LE

/- The local evaluator, part S: what a state says of a frame and a world; operations one after another. -/
namespace Go.LE
open Go.RowKit

/-- A state holds of a frame and a world. -/
structure StOk (ρ : Ren) (w : World) (st : St) (a : Act) : Prop where
  slots : SlotsOk ρ st.sl.get a
  size : st.nsl ≤ a.tmps.size
  heap : HRel ρ (mtOf st.hp) (ctOf st.hp) w
  low : ∀ id b, st.hp.get id = some b → id < st.nid
  fresh : ∀ k, st.nid ≤ k → ρ k = none

/-- From one state to a later one. -/
structure Goes (ρ : Ren) (w : World) (st : St) (a : Act) (ρ' : Ren) (w' : World) (st' : St) (a' : Act) : Prop where
  ok : StOk ρ' w' st' a'
  ext : Ext ρ (mtOf st.hp) w ρ' (mtOf st'.hp) w'
  defers : a'.defers = a.defers
  nid : st.nid ≤ st'.nid
  dom : ∀ id y, ρ' id = some y → ρ id = some y ∨ st.nid ≤ id

theorem Goes.refl {ρ : Ren} {w : World} {st : St} {a : Act} (h : StOk ρ w st a) : Goes ρ w st a ρ w st a := ⟨h, Ext.refl _ _ _, rfl, Nat.le_refl _, fun _ _ h => .inl h⟩

theorem Goes.trans {ρ ρ1 ρ2 : Ren} {w w1 w2 : World} {st st1 st2 : St} {a a1 a2 : Act} (h : Goes ρ w st a ρ1 w1 st1 a1) (k : Goes ρ1 w1 st1 a1 ρ2 w2 st2 a2) : Goes ρ w st a ρ2 w2 st2 a2 where
  ok := k.ok
  ext := h.ext.trans k.ext
  defers := k.defers.trans h.defers
  nid := Nat.le_trans h.nid k.nid
  dom := fun id y hy => by
    rcases k.dom id y hy with h1 | h1
    · exact h.dom id y h1
    · exact .inr (Nat.le_trans h.nid h1)

theorem put_defers (a : Act) (d : Option Tmp) (v : Value) : (a.put d v).defers = a.defers := by cases d <;> rfl
theorem put_size (a : Act) (d : Option Tmp) (v : Value) : (a.put d v).tmps.size = a.tmps.size := by cases d <;> simp [Act.put]

theorem put_get (a : Act) (t : Tmp) (v : Value) (ht : t < a.tmps.size) (s : Tmp) : (a.put (some t) v).tmps[s]? = if s = t then some v else a.tmps[s]? := by
  simp only [Act.put, Array.getElem?_setIfInBounds]
  by_cases e : t = s
  · subst e; simp [ht]
  · rw [if_neg e, if_neg (Ne.symm e)]

/-- A slot is set. -/
theorem StOk.put {ρ : Ren} {w : World} {st st' : St} {a : Act} {d : Option Tmp} {v : LVal} {x : Value} (h : StOk ρ w st a) (hp : (st.put d v).res st') (hx : den ρ v = some x) :
    StOk ρ w st' (a.put d x) ∧ st'.hp = st.hp ∧ st'.nid = st.nid := by
  obtain ⟨sl, n, hp', k⟩ := st
  cases d with
  | none =>
    obtain rfl := hp
    exact ⟨h, rfl, rfl⟩
  | some t =>
    simp only [St.put] at hp
    split at hp
    · rename_i ht
      obtain rfl := hp
      have ht : t < n := Nat.le_of_ble_eq_true ht
      have hts : t < a.tmps.size := Nat.lt_of_lt_of_le ht h.size
      refine ⟨⟨fun s u hu => ?_, by rw [put_size]; exact h.size, h.heap, h.low, h.fresh⟩, rfl, rfl⟩
      simp only [Trie.get_put] at hu
      rw [put_get a t x hts]
      by_cases e : s = t
      · rw [if_pos e] at hu ⊢
        obtain rfl := Option.some.inj hu
        exact ⟨x, hx, rfl⟩
      · rw [if_neg e] at hu ⊢
        exact h.slots s u hu
    · exact hp.elim

theorem mtOf_put (h : Trie Blk) (id : Nat) (b : Blk) : mtOf (h.put id b) = setN (mtOf h) id (some b.mt) := by
  funext j
  simp only [mtOf, setN, Trie.get_put]
  by_cases e : j = id
  · rw [if_pos e, if_pos e]; rfl
  · rw [if_neg e, if_neg e]

theorem mtOf_del (h : Trie Blk) (id : Nat) : mtOf (h.del id) = setN (mtOf h) id none := by
  funext j
  simp only [mtOf, setN, Trie.get_del]
  by_cases e : j = id
  · rw [if_pos e, if_pos e]; rfl
  · rw [if_neg e, if_neg e]

theorem ctOf_put (h : Trie Blk) (id : Nat) (b : Blk) : ctOf (h.put id b) = setN (ctOf h) id (contAt b.cont) := by
  funext j i
  simp only [ctOf, setN, Trie.get_put]
  by_cases e : j = id
  · rw [if_pos e, if_pos e]
  · rw [if_neg e, if_neg e]; rfl

theorem ctOf_del (h : Trie Blk) (id : Nat) : ctOf (h.del id) = setN (ctOf h) id (fun _ => none) := by
  funext j i
  simp only [ctOf, setN, Trie.get_del]
  by_cases e : j = id
  · rw [if_pos e, if_pos e]
  · rw [if_neg e, if_neg e]; rfl

theorem mtOf_app : ∀ (l : List HWr) (h : Trie Blk), mtOf (hpApp h l) = mtU (mtOf h) l
  | [], _ => rfl
  | ⟨id, some b⟩ :: l, h => by rw [hpApp, mtOf_app l, mtOf_put]; rfl
  | ⟨id, none⟩ :: l, h => by rw [hpApp, mtOf_app l, mtOf_del]; rfl

theorem ctOf_app : ∀ (l : List HWr) (h : Trie Blk), ctOf (hpApp h l) = ctU (ctOf h) l
  | [], _ => rfl
  | ⟨id, some b⟩ :: l, h => by rw [hpApp, ctOf_app l, ctOf_put]; rfl
  | ⟨id, none⟩ :: l, h => by rw [hpApp, ctOf_app l, ctOf_del]; rfl

theorem upd_eq (st : St) (wr : List HWr) (cnt : Nat) : st.upd wr cnt = ⟨st.sl, st.nsl, hpApp st.hp wr, st.nid + cnt⟩ := by
  obtain ⟨sl, n, hp, k⟩ := st
  cases cnt with
  | zero => cases wr <;> rfl
  | succ c => cases wr <;> rfl

theorem SlotsOk.mono {ρ ρ' : Ren} (h : Sub ρ ρ') {sl : Nat → Option LVal} {a : Act} (hs : SlotsOk ρ sl a) : SlotsOk ρ' sl a := fun t v hv => by
  obtain ⟨x, h1, h2⟩ := hs t v hv
  exact ⟨x, den_mono h h1, h2⟩

/-- The blocks that a state has behind some writes: no number is too high. -/
def LowW (nid : Nat) (e : Eff) : Prop := ∀ u ∈ e.wr, ∀ b, u.blk = some b → u.id < nid + e.cnt

theorem low_app : ∀ (l : List HWr) (h : Trie Blk) (n : Nat), (∀ id b, h.get id = some b → id < n) → (∀ u ∈ l, ∀ b, u.blk = some b → u.id < n) → ∀ id b, (hpApp h l).get id = some b → id < n
  | [], _, _, h1, _, id, b, hb => h1 id b hb
  | ⟨i, some c⟩ :: l, h, n, h1, h2, id, b, hb => by
    refine low_app l (h.put i c) n (fun j d hj => ?_) (fun u hu => h2 u (by simp [hu])) id b hb
    rw [Trie.get_put] at hj
    by_cases e : j = i
    · subst e; exact h2 ⟨j, some c⟩ (by simp) c rfl
    · rw [if_neg e] at hj; exact h1 j d hj
  | ⟨i, none⟩ :: l, h, n, h1, h2, id, b, hb => by
    refine low_app l (h.del i) n (fun j d hj => ?_) (fun u hu => h2 u (by simp [hu])) id b hb
    rw [Trie.get_del] at hj
    by_cases e : j = i
    · rw [if_pos e] at hj; cases hj
    · rw [if_neg e] at hj; exact h1 j d hj

/-- What comes of an operation: the state goes on. -/
theorem Goes.app {ρ : Ren} {w : World} {st st' : St} {a : Act} {d : Option Tmp} {e : Eff} {v : LVal} {ρ' : Ren} {x : Value} {w' : World} (h : StOk ρ w st a) (hr : Res ρ (mtOf st.hp) (ctOf st.hp) w st.nid e ρ' x w')
    (hp : ((st.upd e.wr e.cnt).put d v).res st') (hv : den ρ' v = some x) : Goes ρ w st a ρ' w' st' (a.put d x) := by
  rw [upd_eq] at hp
  have hm := mtOf_app e.wr st.hp
  have hc := ctOf_app e.wr st.hp
  have hlow : ∀ id b, (hpApp st.hp e.wr).get id = some b → id < st.nid + e.cnt := fun id b hb => by
    have h1 : mtU (mtOf st.hp) e.wr id = some b.mt := by rw [← hm]; simp [mtOf, hb]
    obtain ⟨ob, hob, _⟩ := hr.heap.blk id _ h1
    rcases hr.dom id ob hob with h2 | h2
    · rcases Nat.lt_or_ge id st.nid with h3 | h3
      · omega
      · rw [h.fresh id h3] at h2; cases h2
    · exact h2.2
  have hmid : StOk ρ' w' ⟨st.sl, st.nsl, hpApp st.hp e.wr, st.nid + e.cnt⟩ a := by
    refine ⟨h.slots.mono hr.ext.sub, h.size, by rw [hm, hc]; exact hr.heap, hlow, fun k hk => ?_⟩
    cases hk' : ρ' k with
    | none => rfl
    | some y =>
      exfalso
      rcases hr.dom k y hk' with h1 | h1
      · rw [h.fresh k (by simp only at hk; omega)] at h1; cases h1
      · simp only at hk; omega
  obtain ⟨h1, h2, h3⟩ := hmid.put hp hv
  refine ⟨h1, by rw [h2]; simp only; rw [hm]; exact hr.ext, put_defers .., by rw [h3]; exact Nat.le_add_right .., fun id y hy => ?_⟩
  rcases hr.dom id y hy with h4 | h4
  · exact .inl h4
  · exact .inr h4.1

/- Guards. -/

theorem wanted_spec {ρ : Ren} {st : St} {sl : Nat → Option LVal} {a : Act} (hs : SlotsOk ρ sl a) {ops : Array Oper} {o : Oper} (hsl : ∀ j want q t, o.guard = some (j, want) → ops[j]? = some q → q.dst = some t → sl t = st.sl.get t)
    {b : Bool} (h : wantedL ops.toList st o = some b) : Region.wanted o (yielded ops a.tmps) = b := by
  unfold wantedL at h
  unfold Region.wanted
  split at h
  · rename_i hg
    simp only [hg]
    exact Option.some.inj h
  · rename_i j want hg
    simp only [hg]
    split at h
    · rename_i q hq
      rw [nth_spec] at hq
      have hq' : ops[j]? = some q := by simpa using hq
      split at h
      · rename_i t ht
        have hget := hsl j want q t hg hq' ht
        have hy : ∀ v x, st.sl.get t = some v → den ρ v = some x → yielded ops a.tmps j = match x with | .bool b => some b | _ => none := fun v x hv hx => by
          obtain ⟨y, h1, h2⟩ := hs t v (by rw [hget]; exact hv)
          rw [hx] at h1
          obtain rfl := Option.some.inj h1
          unfold yielded
          simp only [hq', Option.bind_some, ht, h2]
          cases x <;> rfl
        split at h
        · rename_i c hc
          rw [hy _ (.bool c) hc rfl]
          obtain rfl := Option.some.inj h
          cases c <;> cases want <;> rfl
        · rename_i t' hc
          rw [hy _ (.tuple t') hc rfl]
          obtain rfl := Option.some.inj h
          rfl
        · cases h
      · cases h
    · cases h

/-- A forked value means what it meant. -/
theorem forked_res {α : Type} {g : Bool} {e : Eff} {k : Eff → Tree α} {r : α} (h : (forked g e k).res r) : ∃ v, (∀ ρ, den ρ v = den ρ e.val) ∧ (k { e with val := v }).res r := by
  unfold forked at h
  split at h
  · rename_i c hc
    cases c with
    | true => exact ⟨.bool false true, fun ρ => by rw [hc]; rfl, h.1 rfl⟩
    | false => exact ⟨.bool false false, fun ρ => by rw [hc]; rfl, h.2 rfl⟩
  · exact ⟨e.val, fun _ => rfl, h⟩

/- One operation after another. -/

/-- A function's body is followed rightly. -/
def FnOk (P : Program) (E : EnvX) (ih : Code → St → Tree (LX × St)) : Prop := ∀ (f : FuncId) (fn : Func) (args : List LVal) (vs : List Value) (st : St) (r : LVal × St) (ρ : Ren) (w : World),
  P.funcs[f]? = some fn → (evalFn E ih fn args st).res r → denL ρ args = some vs → HRel ρ (mtOf st.hp) (ctOf st.hp) w → (∀ id b, st.hp.get id = some b → id < st.nid) → (∀ k, st.nid ≤ k → ρ k = none) →
  Calls P f vs.toArray w fun
    | .returned x, w' => ∃ ρ', den ρ' r.1 = some x ∧ HRel ρ' (mtOf r.2.hp) (ctOf r.2.hp) w' ∧ Ext ρ (mtOf st.hp) w ρ' (mtOf r.2.hp) w' ∧ (∀ id b, r.2.hp.get id = some b → id < r.2.nid) ∧ (∀ k, r.2.nid ≤ k → ρ' k = none) ∧
        st.nid ≤ r.2.nid ∧ (∀ id y, ρ' id = some y → ρ id = some y ∨ st.nid ≤ id)
    | _, _ => False

section
variable {P : Program} {w : World} {ρ : Ren}

theorem evalFn_keeps {E : EnvX} {ih : Code → St → Tree (LX × St)} {fn : Func} {args : List LVal} {st : St} {r : LVal × St} (h : (evalFn E ih fn args st).res r) : r.2.sl = st.sl ∧ r.2.nsl = st.nsl := by
  unfold evalFn at h
  split at h
  · obtain ⟨q, _, h⟩ := Tree.res_bind h
    split at h
    · exact h.elim
    · obtain ⟨vs, _, h⟩ := Tree.res_bind h
      obtain rfl := h
      exact ⟨rfl, rfl⟩
  · exact h.elim

theorem inl_spec {E : EnvX} {st : St} {o : Oper} {fn : Func × Bool} {vs : List LVal} (h : inl E st o = some (fn, vs)) : ∃ c f, o.op = .call c ∧ calleeOf st c = some (f, vs) ∧ E.fns.get f = some fn := by
  unfold inl at h
  split at h
  · rename_i c hc
    split at h
    · split at h
      · rename_i f vs' hf
        split at h
        · rename_i fn' hfn
          simp only [Option.some.injEq, Prod.mk.injEq] at h
          obtain ⟨rfl, rfl⟩ := h
          exact ⟨c, f, hc, hf, hfn⟩
        · cases h
      · cases h
    · cases h
  · cases h

theorem opStep_sound {E : EnvX} (hE : EnvOk P E) {ih : Code → St → Tree (LX × St)} (hF : FnOk P E ih) {ops : Array Oper} {i : Nat} {o : Oper} (hi : ops[i]? = some o) {st st' : St} {a : Act} (hst : StOk ρ w st a) (h : (opStep E ih ops.toList i o st).res st')
    {K : Act → World → Prop} {Q : Exit → Act → World → Prop} (hK : ∀ ρ' w' a', Goes ρ w st a ρ' w' st' a' → K a' w') : wpOp P ops Q i K a w := by
  unfold wpOp
  rw [hi]
  unfold opStep at h
  have hw : ∀ b, wantedL ops.toList st o = some b → Region.wanted o (yielded ops a.tmps) = b := fun b hb => wanted_spec hst.slots (fun _ _ _ _ _ _ _ => rfl) hb
  split at h
  · rename_i hb
    simp only [hw _ hb, Bool.false_eq_true, if_false]
    obtain ⟨h1, h2, h3⟩ := hst.put h (x := undef) rfl
    exact hK ρ w _ ⟨h1, by rw [h2]; exact Ext.refl _ _ _, put_defers .., by rw [h3]; exact Nat.le_refl _, fun _ _ h => .inl h⟩
  · rename_i hb
    simp only [hw _ hb, if_true]
    left
    split at h
    · rename_i fn vs hinl
      obtain ⟨c, f, ho, hcal, hfn⟩ := inl_spec hinl
      obtain ⟨r, hr, h⟩ := Tree.res_bind h
      obtain ⟨v, hv, h⟩ := forked_res h
      obtain ⟨hent, hfun⟩ := hE.fns _ _ hfn
      obtain ⟨_, _, xs, hd, hrun⟩ := calleeOf_den (P := P) hst.slots (fun _ _ _ _ => rfl) hcal o.type
      have hex : (execOp a.eval o).run P w = (callFunc f xs.toArray).run P w := by
        rw [← hrun]; simp only [execOp, ho]
      unfold Oper.wp
      rw [hex, hent, Oper.upon_enter]
      refine Calls.mono (hF f fn.1 vs xs st r ρ w hfun hr hd hst.heap hst.low hst.fresh) fun e' w' hw' => ?_
      cases e' with
      | panicked _ => exact hw'.elim
      | outgrown => exact hw'.elim
      | returned x =>
        obtain ⟨ρ', k1, k2, k3, k4, k5, k6, k7⟩ := hw'
        obtain ⟨e1, e2⟩ := evalFn_keeps hr
        have hmid : StOk ρ' w' r.2 a := ⟨by rw [e1]; exact hst.slots.mono k3.sub, by rw [e2]; exact hst.size, k2, k4, k5⟩
        obtain ⟨h1, h2, h3⟩ := hmid.put h (x := x) (by rw [hv]; exact k1)
        exact hK ρ' w' _ ⟨h1, by rw [h2]; exact k3, put_defers .., by rw [h3]; exact k6, k7⟩
    · obtain ⟨e, he, h⟩ := Tree.res_bind h
      obtain ⟨v, hv, h⟩ := forked_res h
      refine lop_sound hE hst.heap hst.slots (fun _ _ _ _ => rfl) he (fun y _ _ => ⟨rfl, fun _ _ => rfl⟩) hst.low (fun k hk _ => hst.fresh k hk) K Q fun ρ' x w' hres => ?_
      exact hK ρ' w' _ (Goes.app hst hres h (by rw [hv]; exact hres.val))
  · exact h.elim

theorem seqOps_sound {E : EnvX} (hE : EnvOk P E) {ih : Code → St → Tree (LX × St)} (hF : FnOk P E ih) {ops : Array Oper} {Q : Exit → Act → World → Prop} : ∀ (l : List Oper) (i : Nat) (st st' : St) (a : Act) (ρ : Ren) (w : World),
    (∀ k o, l[k]? = some o → ops[i + k]? = some o) → StOk ρ w st a → (seqOps E ih ops.toList i l st).res st' → (∀ ρ' w' a', Goes ρ w st a ρ' w' st' a' → Q .normal a' w') → wpOps P ops Q (List.range' i l.length) a w
  | [], i, st, st', a, ρ, w, _, hst, h, hQ => by
    obtain rfl := h
    exact hQ ρ w a (.refl hst)
  | o :: l, i, st, st', a, ρ, w, hl, hst, h, hQ => by
    obtain ⟨st1, h1, h⟩ := Tree.res_bind h
    rw [List.length_cons, List.range'_succ, wpOps_cons]
    refine opStep_sound hE hF (by simpa using hl 0 o rfl) hst h1 fun ρ1 w1 a1 hg => ?_
    refine seqOps_sound hE hF l (i + 1) st1 st' a1 ρ1 w1 (fun k o' hk => ?_) hg.ok h fun ρ2 w2 a2 hg2 => hQ ρ2 w2 a2 (hg.trans hg2)
    have := hl (k + 1) o' (by simpa using hk)
    rwa [show i + 1 + k = i + (k + 1) by omega]

end
end Go.LE

/- The local evaluator, part T: code, and functions. -/
namespace Go.LE
open Go.RowKit

def exitOf : LX → Exit
  | .nrm => .normal
  | .ex i => .exit i
  | .ret => .ret

/-- Code does what the evaluator says. -/
def CodeRes (P : Program) (c : Code) (st : St) (r : LX × St) : Prop := ∀ (ρ : Ren) (w : World) (a : Act) (Q : Exit → Act → World → Prop), StOk ρ w st a →
  (∀ ρ' w' a', Goes ρ w st a ρ' w' r.2 a' → Q (exitOf r.1) a' w') → c.wp P Q a w

def CodeOk (P : Program) (ih : Code → St → Tree (LX × St)) : Prop := ∀ c st r, (ih c st).res r → CodeRes P c st r

def LpsOk (P : Program) (E : EnvX) : Prop := ∀ k c f, findLp k E.lps = some (c, f) → ∀ st r, (f st).res r → CodeRes P c st r

section
variable {P : Program}

theorem mapM_sem {α β : Type} {f : α → Sem β} {w : World} : ∀ (l : List α) (ys : List β), ys.length = l.length → (∀ (j : Nat) x y, l[j]? = some x → ys[j]? = some y → (f x).run P w = .ok y w) → (l.mapM f).run P w = .ok ys w
  | [], ys, h, _ => by
    have : ys = [] := List.length_eq_zero_iff.1 (by simpa using h)
    subst this
    simp
  | x :: l, [], h, _ => by simp at h
  | x :: l, y :: ys, h, hf => by
    have h1 := hf 0 x y rfl rfl
    have h2 := mapM_sem l ys (by simpa using h) fun j x' y' hx hy => hf (j + 1) x' y' (by simpa using hx) (by simpa using hy)
    simp [List.mapM_cons, h1, h2]

theorem resVals_den {E : EnvX} (hE : TabOk P E.toEnv) {ρ : Ren} {w : World} {st : St} {a : Act} (h : StOk ρ w st a) : ∀ (l : List ResultVar) (vs : List LVal), (resVals E.toEnv st l).res vs →
    ∃ xs, denL ρ vs = some xs ∧ xs.length = l.length ∧ ∀ (j : Nat) q x, l[j]? = some q → xs[j]? = some x →
      ((match q with | .tmp t => pure (a.tmps.getD t undef) | .cell s t => do loadVar t (← asAddr (a.tmps.getD s undef)) : Sem Value).run P w) = .ok x w
  | [], vs, hr => by obtain rfl := hr; exact ⟨[], rfl, rfl, by simp⟩
  | .tmp t :: l, vs, hr => by
    simp only [resVals] at hr
    split at hr
    · rename_i v hv
      obtain ⟨r, h1, hr⟩ := Tree.res_bind hr
      obtain rfl := hr
      obtain ⟨xs, g1, g2, g3⟩ := resVals_den hE h l r h1
      obtain ⟨x, k1, k2⟩ := h.slots t v hv
      refine ⟨x :: xs, by simp [denL, k1, g1], by simp [g2], fun j q y hq hy => ?_⟩
      cases j with
      | zero =>
        obtain rfl := Option.some.inj hq
        obtain rfl := Option.some.inj hy
        simp [Array.getD_eq_getD_getElem?, k2]
      | succ j => exact g3 j q y (by simpa using hq) (by simpa using hy)
    · exact hr.elim
  | .cell s t :: l, vs, hr => by
    simp only [resVals] at hr
    split at hr
    · rename_i p hp
      obtain ⟨e, he, hr⟩ := Tree.res_bind hr
      obtain ⟨r, h1, hr⟩ := Tree.res_bind hr
      obtain rfl := hr
      obtain ⟨xs, g1, g2, g3⟩ := resVals_den hE h l r h1
      obtain ⟨y0, k1, k2⟩ := h.slots s p hp
      obtain ⟨_, _, x, k3, k4⟩ := loadV_run (P := P) hE he k1 h.heap (fun _ _ _ => ⟨rfl, fun _ _ => rfl⟩) h.low
      refine ⟨x :: xs, by simp [denL, k3, g1], by simp [g2], fun j q y hq hy => ?_⟩
      cases j with
      | zero =>
        obtain rfl := Option.some.inj hq
        obtain rfl := Option.some.inj hy
        have hptr : ∃ ad, y0 = .pointer (some ad) := by
          unfold loadV at he
          split at he
          · simp only [den, denP] at k1
            split at k1
            · exact ⟨_, (Option.some.inj k1).symm⟩
            · cases k1
          · exact he.elim
        obtain ⟨ad, rfl⟩ := hptr
        simp only [Instr.loadAt, Instr.sureAddr, Sem.run_bind, Sem.run_pure, Result.andThen_ok] at k4
        simp [Array.getD_eq_getD_getElem?, k2, asAddr, k4]
      | succ j => exact g3 j q y (by simpa using hq) (by simpa using hy)
    · exact hr.elim

theorem putArgs_get : ∀ (l : List LVal) (i : Nat) (t : Trie LVal) (k : Nat), (putArgs l i t).get k = if i ≤ k ∧ k < i + l.length then l[k - i]? else t.get k
  | [], i, t, k => by
    rw [putArgs, if_neg (by simp only [List.length_nil]; omega)]
  | v :: l, i, t, k => by
    rw [putArgs, putArgs_get l (i + 1), Trie.get_put]
    simp only [List.length_cons]
    by_cases h1 : i + 1 ≤ k ∧ k < i + 1 + l.length
    · rw [if_pos h1, if_pos (by omega), show k - i = (k - (i + 1)) + 1 by omega]
      rfl
    · rw [if_neg h1]
      by_cases h2 : k = i
      · subst h2
        rw [if_pos rfl, if_pos (by omega), Nat.sub_self]
        rfl
      · rw [if_neg h2, if_neg (by omega)]

theorem fnOk_of {E : EnvX} (hE : EnvOk P E) {ih : Code → St → Tree (LX × St)} (hC : CodeOk P ih) : FnOk P E ih := by
  intro f fn args vs st r ρ w hf h hd hr hlow hfresh
  unfold evalFn at h
  split at h
  · rename_i c hb hle
    obtain ⟨q, hq, h⟩ := Tree.res_bind h
    split at h
    · exact h.elim
    · rename_i hnex
      obtain ⟨us, hus, h⟩ := Tree.res_bind h
      obtain rfl := h
      have hle := Nat.le_of_ble_eq_true hle
      have hlen := (denL_get hd).1
      refine calls_of_wp hf hb ?_
      have hst : StOk ρ w ⟨putArgs args 0 .leaf, fn.ntmps, st.hp, st.nid⟩ { tmps := vs.toArray ++ Array.replicate (fn.ntmps - vs.toArray.size) undef, defers := [] } := by
        refine ⟨fun t v hv => ?_, by simp; omega, hr, hlow, hfresh⟩
        simp only [putArgs_get, Nat.zero_le, true_and, Nat.zero_add, Nat.sub_zero] at hv
        split at hv
        · rename_i ht
          obtain ⟨x, hx, hxd⟩ := (denL_get hd).2 t v hv
          refine ⟨x, hxd, ?_⟩
          rw [Array.getElem?_append, if_pos (by simp; omega)]
          simpa using hx
        · simp [Trie.get_leaf] at hv
      refine hC c _ q hq ρ w _ _ hst fun ρ' w' a' hg => ?_
      obtain ⟨xs, g1, g2, g3⟩ := resVals_den hE.tab hg.ok _ us hus
      have hres : ∃ v, (results fn a'.tmps).run P w' = .ok v w' ∧ den ρ' (packRes us) = some v := by
        refine ⟨if h : xs.toArray.size = 1 then xs.toArray[0] else .tuple xs.toArray, ?_, ?_⟩
        · unfold results
          rw [Sem.run_bind, Array.mapM_eq_mapM_toList, Sem.run_map, mapM_sem (P := P) (w := w') fn.results.toList xs g2 (fun j q x hq hx => by have := g3 j q x hq hx; cases q <;> exact this)]
          rfl
        · unfold packRes
          split
          · obtain ⟨x, hx, rfl⟩ := denL_one g1
            simpa using hx
          · rename_i hne
            have : ¬ xs.length = 1 := fun e => by
              have hl := (denL_get g1).1
              match us, hne with
              | [], _ => rw [e] at hl; simp at hl
              | [v], hne => exact hne v rfl
              | _ :: _ :: _, _ => rw [e] at hl; simp at hl
            simp [den, g1, this]
      obtain ⟨v, hv, hvd⟩ := hres
      have hfin : ∃ ρ'', den ρ'' (packRes us) = some v ∧ HRel ρ'' (mtOf q.2.hp) (ctOf q.2.hp) w' ∧ Ext ρ (mtOf st.hp) w ρ'' (mtOf q.2.hp) w' ∧ (∀ id b, q.2.hp.get id = some b → id < q.2.nid) ∧ (∀ k, q.2.nid ≤ k → ρ'' k = none) ∧
          st.nid ≤ q.2.nid ∧ (∀ id y, ρ'' id = some y → ρ id = some y ∨ st.nid ≤ id) := ⟨ρ', hvd, hg.ok.heap, hg.ext, hg.ok.low, hg.ok.fresh, hg.nid, hg.dom⟩
      obtain ⟨x, st2⟩ := q
      cases x with
      | ex i => exact (hnex i rfl).elim
      | nrm => exact ⟨hg.defers, v, hv, hfin⟩
      | ret => exact ⟨hg.defers, v, hv, hfin⟩
  · exact h.elim

theorem undrawn_sound {E : EnvX} (hE : EnvOk P E) {ih : Code → St → Tree (LX × St)} (hF : FnOk P E ih) {id : Nat} {ops : Array Oper} {st st' : St} (h : (seqOps E ih ops.toList 0 ops.toList st).res st') : CodeRes P (.region id ops false) st (.nrm, st') := by
  intro ρ w a Q hst hQ
  refine wp_region ?_
  have := seqOps_sound hE hF (ops := ops) (Q := Q) ops.toList 0 st st' a ρ w (fun k o hk => by simpa using hk) hst h hQ
  rwa [Array.length_toList, ← List.range_eq_range'] at this

/-- What is asked of a region. -/
def RegionOk (P : Program) (E : EnvX) (ih : Code → St → Tree (LX × St)) : Prop := ∀ id ops d st st', (region E ih ops.toList d st).res st' → CodeRes P (.region id ops d) st (.nrm, st')

theorem leval_sound {E : EnvX} (hL : LpsOk P E) (hR : ∀ ih, CodeOk P ih → RegionOk P E ih) : ∀ n, CodeOk P (leval E n) ∧ ∀ b st r, findLp (firstR b) E.lps = none → (leval E n (.loop b) st).res r →
    ∀ (ρ : Ren) (w : World) (a : Act) (Q : Exit → Act → World → Prop), StOk ρ w st a → (∀ ρ' w' a', Goes ρ w st a ρ' w' r.2 a' → Q (exitOf r.1) a' w') → Code.rounds P b Q n a w
  | 0 => ⟨fun _ _ _ h => h.elim, fun _ _ _ _ h => h.elim⟩
  | n + 1 => by
    obtain ⟨ih, ihl⟩ := leval_sound hL hR n
    have rounds : ∀ b st r, findLp (firstR b) E.lps = none → (leval E (n + 1) (.loop b) st).res r →
        ∀ (ρ : Ren) (w : World) (a : Act) (Q : Exit → Act → World → Prop), StOk ρ w st a → (∀ ρ' w' a', Goes ρ w st a ρ' w' r.2 a' → Q (exitOf r.1) a' w') → Code.rounds P b Q (n + 1) a w := by
      intro b st r hnone h ρ w a Q hst hQ
      simp only [leval, hnone] at h
      obtain ⟨q, hq, h⟩ := Tree.res_bind h
      rw [rounds_succ]
      refine ih b st q hq ρ w a _ hst fun ρ1 w1 a1 hg => ?_
      split at h
      · rename_i hx
        rw [hx]
        exact ihl b q.2 r hnone h ρ1 w1 a1 Q hg.ok fun ρ2 w2 a2 hg2 => hQ ρ2 w2 a2 (hg.trans hg2)
      · rename_i hx
        obtain rfl := h
        have := hQ ρ1 w1 a1 hg
        cases hq1 : q.1 with
        | nrm => exact (hx hq1).elim
        | ex i => rw [hq1] at this; exact this
        | ret => rw [hq1] at this; exact this
    refine ⟨fun c st r h => ?_, rounds⟩
    intro ρ w a Q hst hQ
    cases c with
    | skip =>
      obtain rfl := h
      exact wp_skip (hQ ρ w a (.refl hst))
    | region id ops d =>
      simp only [leval] at h
      obtain ⟨s, hs, h⟩ := Tree.res_bind h
      obtain rfl := h
      exact hR _ ih id ops d st s hs ρ w a Q hst hQ
    | seq x y =>
      simp only [leval] at h
      obtain ⟨q, hq, h⟩ := Tree.res_bind h
      refine wp_seq (ih x st q hq ρ w a _ hst fun ρ1 w1 a1 hg => ?_)
      split at h
      · rename_i hx
        rw [hx]
        exact ih y q.2 r h ρ1 w1 a1 Q hg.ok fun ρ2 w2 a2 hg2 => hQ ρ2 w2 a2 (hg.trans hg2)
      · rename_i hx
        obtain rfl := h
        have := hQ ρ1 w1 a1 hg
        cases hq1 : q.1 with
        | nrm => exact (hx hq1).elim
        | ex i => rw [hq1] at this; exact this
        | ret => rw [hq1] at this; exact this
    | cond x y z =>
      simp only [leval] at h
      have hx : ∀ s b, st.oval x = some (.bool s b) → a.eval x = .bool b := fun s b hb => by
        have := oval_den hst.slots (fun _ _ => rfl) hb
        exact (Option.some.inj this).symm
      split at h
      · rename_i hb
        exact wp_cond_true (hx _ _ hb) (ih y st r h ρ w a Q hst hQ)
      · rename_i hb
        exact wp_cond_false (hx _ _ hb) (ih z st r h ρ w a Q hst hQ)
      · rename_i v hb
        cases v with
        | true => exact wp_cond_true (hx _ _ hb) (ih y st r (h.1 rfl) ρ w a Q hst hQ)
        | false => exact wp_cond_false (hx _ _ hb) (ih z st r (h.2 rfl) ρ w a Q hst hQ)
      · exact h.elim
    | block id b =>
      simp only [leval] at h
      obtain ⟨q, hq, h⟩ := Tree.res_bind h
      refine wp_block (ih b st q hq ρ w a _ hst fun ρ1 w1 a1 hg => ?_)
      split at h
      · rename_i i hx
        split at h
        · rename_i hi
          obtain rfl := h
          have hi := Nat.eq_of_beq_eq_true hi
          rw [hx]
          simp only [exitOf, Exit.inBlock, hi, if_true]
          exact hQ ρ1 w1 a1 hg
        · rename_i hi
          obtain rfl := h
          have hi : ¬ i = id := fun e => by rw [e, Nat.beq_refl] at hi; cases hi
          rw [hx]
          simp only [exitOf, Exit.inBlock, hi, if_false]
          have := hQ ρ1 w1 a1 hg
          rw [hx] at this
          exact this
      · rename_i hx
        obtain rfl := h
        have := hQ ρ1 w1 a1 hg
        cases hq1 : q.1 with
        | ex i => exact (hx i hq1).elim
        | nrm => rw [hq1] at this; exact this
        | ret => rw [hq1] at this; exact this
    | loop b =>
      cases hf : findLp (firstR b) E.lps with
      | none => exact wp_loop_rounds (n + 1) (rounds b st r hf h ρ w a Q hst hQ)
      | some p =>
        obtain ⟨c', f⟩ := p
        simp only [leval, hf] at h
        obtain ⟨he, h⟩ := h
        rw [he]
        exact hL _ c' f hf st r h ρ w a Q hst hQ
    | exit id =>
      obtain rfl := h
      exact wp_exit (hQ ρ w a (.refl hst))
    | scope b =>
      refine wp_scope_straight (ih b st r h ρ w a _ hst fun ρ1 w1 a1 hg => ?_)
      have := hQ ρ1 w1 a1 hg
      cases hq1 : r.1 <;> rw [hq1] at this <;> exact this
    | ret =>
      obtain rfl := h
      exact wp_ret (hQ ρ w a (.refl hst))
    | _ => exact h.elim

end
end Go.LE

/- The local evaluator, part U: a call over some blocks alone. -/
namespace Go.LE
open Go.RowKit

/- Writes, the last one counts. -/

def lastBlk : List HWr → Nat → Option (Option Blk)
  | [], _ => none
  | h :: l, id => match lastBlk l id with
    | some b => some b
    | none => if h.id = id then some h.blk else none

theorem mtU_last : ∀ (l : List HWr) (mt : MT) (id : Nat), mtU mt l id = match lastBlk l id with | some b => b.map Blk.mt | none => mt id
  | [], _, _ => rfl
  | h :: l, mt, id => by
    rw [mtU, mtU_last l, lastBlk]
    cases lastBlk l id with
    | some b => rfl
    | none =>
      simp only [setN]
      by_cases e : h.id = id
      · rw [if_pos e, if_pos e.symm]
      · rw [if_neg e, if_neg (Ne.symm e)]

def contO : Option Blk → Nat → Option LVal
  | some b => contAt b.cont
  | none => fun _ => none

theorem ctU_last : ∀ (l : List HWr) (ct : CT) (id : Nat), ctU ct l id = match lastBlk l id with | some b => contO b | none => ct id
  | [], _, _ => rfl
  | h :: l, ct, id => by
    rw [ctU, ctU_last l, lastBlk]
    cases lastBlk l id with
    | some b => rfl
    | none =>
      simp only [setN]
      by_cases e : h.id = id
      · rw [if_pos e, if_pos e.symm]; unfold ctW contO; rfl
      · rw [if_neg e, if_neg (Ne.symm e)]

theorem lastBlk_none : ∀ (l : List HWr) (id : Nat), lastBlk l id = none ↔ ∀ h ∈ l, h.id ≠ id
  | [], id => by simp [lastBlk]
  | h :: l, id => by
    rw [lastBlk]
    have ih := lastBlk_none l id
    cases hl : lastBlk l id with
    | some b => rw [hl] at ih; simp at ih ⊢; intro _; exact ih
    | none =>
      rw [hl] at ih
      by_cases e : h.id = id
      · simp [e]
      · simp [e]; simpa using ih

theorem lastBlk_fun {l : List HWr} {f : Nat → Option Blk} (hf : ∀ h ∈ l, h.blk = f h.id) (id : Nat) : lastBlk l id = if (∃ h ∈ l, h.id = id) then some (f id) else none := by
  induction l with
  | nil => simp [lastBlk]
  | cons h l ih =>
    have ih := ih fun u hu => hf u (by simp [hu])
    rw [lastBlk, ih]
    by_cases e : ∃ u ∈ l, u.id = id
    · have e' : ∃ u ∈ h :: l, u.id = id := by
        obtain ⟨u, h1, h2⟩ := e
        exact ⟨u, List.mem_cons_of_mem _ h1, h2⟩
      rw [if_pos e, if_pos e']
    · rw [if_neg e]
      by_cases e2 : h.id = id
      · have e' : ∃ u ∈ h :: l, u.id = id := ⟨h, List.mem_cons_self .., e2⟩
        rw [if_pos e', if_pos e2, hf h (List.mem_cons_self ..), e2]
      · have e' : ¬ ∃ u ∈ h :: l, u.id = id := by
          intro hx
          obtain ⟨u, h1, h2⟩ := hx
          rcases List.mem_cons.1 h1 with h3 | h3
          · rw [h3] at h2; exact e2 h2
          · exact e ⟨u, h3, h2⟩
        rw [if_neg e', if_neg e2]

/- Values that name old blocks alone. -/

def cutR (ρ : Ren) (n : Nat) : Ren := fun k => if k < n then ρ k else none

theorem cutR_sub (ρ : Ren) (n : Nat) : Sub (cutR ρ n) ρ := fun id x h => by
  unfold cutR at h
  split at h
  · exact h
  · cases h

mutual
theorem den_congr {ρ ρ' : Ren} : ∀ {v : LVal}, (∀ i ∈ idsV v, ρ i = ρ' i) → den ρ v = den ρ' v
  | .int _ _, _ => rfl
  | .bool _ _, _ => rfl
  | .ptr id _, h => by simp only [den]; rw [h id (by simp [idsV])]
  | .nilp, _ => rfl
  | .slice id _ _ _, h => by simp only [den]; rw [h id (by simp [idsV])]
  | .cut id _ _ _, h => by simp only [den]; rw [h id (by simp [idsV])]
  | .nils, _ => rfl
  | .raw _, _ => rfl
  | .func fn a b, h => by
    simp only [den]
    rw [denL_congr (l := a) fun i hi => h i (by simp [idsV, hi]), denL_congr (l := b) fun i hi => h i (by simp [idsV, hi])]
  | .agg l, h => by simp only [den]; rw [denL_congr (l := l) fun i hi => h i (by simpa [idsV] using hi)]
  | .tup l, h => by simp only [den]; rw [denL_congr (l := l) fun i hi => h i (by simpa [idsV] using hi)]
theorem denL_congr {ρ ρ' : Ren} : ∀ {l : List LVal}, (∀ i ∈ idsL l, ρ i = ρ' i) → denL ρ l = denL ρ' l
  | [], _ => rfl
  | v :: l, h => by
    simp only [denL]
    rw [den_congr (v := v) fun i hi => h i (by simp [idsL, hi]), denL_congr (l := l) fun i hi => h i (by simp [idsL, hi])]
end

theorem idsL_mem : ∀ {l : List LVal} {v : LVal}, v ∈ l → ∀ i ∈ idsV v, i ∈ idsL l
  | u :: l, v, h, i, hi => by
    simp only [idsL, List.mem_append]
    rcases List.mem_cons.1 h with rfl | h
    · exact .inl hi
    · exact .inr (idsL_mem h i hi)

theorem contAt_ids {c : Cont} {i : Nat} {v : LVal} (h : contAt c i = some v) : ∀ j ∈ idsV v, j ∈ idsC c := by
  intro j hj
  cases c with
  | cells l => exact idsL_mem (List.mem_of_getElem? h) j hj
  | ints k l =>
    simp only [contAt, Option.map_eq_some_iff] at h
    obtain ⟨n, _, rfl⟩ := h
    simp [symInt, idsV] at hj
  | win o l =>
    simp only [contAt] at h
    split at h
    · exact idsL_mem (List.mem_of_getElem? h) j hj
    · cases h
  | arr k n f =>
    simp only [contAt] at h
    split at h
    · obtain rfl := Option.some.inj h
      simp [symInt, idsV] at hj
    · cases h
  | seg o k l =>
    simp only [contAt] at h
    split at h
    · simp only [Option.map_eq_some_iff] at h
      obtain ⟨n, _, rfl⟩ := h
      simp [symInt, idsV] at hj
    · cases h

section
variable {P : Program} {w : World} {ρ : Ren} {mt : MT} {ct : CT}

/-- What a call makes of some blocks, seen from all blocks. -/
theorem frame (hr : HRel ρ mt ct w) {mt' mr : MT} {cr : CT} {nid nid' : Nat} {ρR : Ren} {w' : World} {Wr : Nat → Prop}
    (hm : ∀ id m', mt' id = some m' → ∃ m, mt id = some m ∧ (m'.own = true → m.own = true ∧ Wr id))
    (hfree : ∀ k, nid ≤ k → k < nid' → ρ k = none)
    (h2 : HRel ρR mr cr w') (h3 : Ext (cutR ρ nid) mt' w ρR mr w') (hdom : ∀ id y, ρR id = some y → cutR ρ nid id = some y ∨ (nid ≤ id ∧ id < nid'))
    {mt2 : MT} {ct2 : CT} (hin : ∀ id, Wr id → mt2 id = mr id ∧ ct2 id = cr id) (hout : ∀ id, ¬ Wr id → mt2 id = mt id ∧ ct2 id = ct id)
    (hnew : ∀ id, Wr id → nid ≤ id → ∀ m, mr id = some m → m.own = true) (hold : ∀ id, Wr id → id < nid → ∃ m, mt id = some m) :
    ∃ ρ', Sub ρR ρ' ∧ HRel ρ' mt2 ct2 w' ∧ Ext ρ mt w ρ' mt2 w' ∧ ∀ id y, ρ' id = some y → ρ id = some y ∨ (nid ≤ id ∧ id < nid') := by
  let ρ' : Ren := fun k => if nid ≤ k ∧ k < nid' then ρR k else ρ k
  have hs1 : Sub ρR ρ' := fun id y hy => by
    show (if nid ≤ id ∧ id < nid' then ρR id else ρ id) = some y
    by_cases e : nid ≤ id ∧ id < nid'
    · rw [if_pos e]; exact hy
    · rw [if_neg e]
      rcases hdom id y hy with h | h
      · exact cutR_sub ρ nid id y h
      · exact (e h).elim
  have hs2 : Sub ρ ρ' := fun id y hy => by
    show (if nid ≤ id ∧ id < nid' then ρR id else ρ id) = some y
    by_cases e : nid ≤ id ∧ id < nid'
    · rw [hfree id e.1 e.2] at hy; cases hy
    · rw [if_neg e]; exact hy
  have hdom' : ∀ id y, ρ' id = some y → ρ id = some y ∨ (nid ≤ id ∧ id < nid') := fun id y hy => by
    by_cases e : nid ≤ id ∧ id < nid'
    · exact .inr e
    · left
      have : (if nid ≤ id ∧ id < nid' then ρR id else ρ id) = some y := hy
      rwa [if_neg e] at this
  -- what is known of a block is known by the renaming that it was known by
  have inR' : ∀ id m y, mr id = some m → ρ' id = some y → ρR id = some y := fun id m y h1 h2' => by
    obtain ⟨ob, hob, _⟩ := h2.blk id m h1
    rw [hs1 id ob hob] at h2'
    rw [hob, h2']
  have inO : ∀ id m y, mt id = some m → ρ' id = some y → ρ id = some y := fun id m y h1 h2' => by
    obtain ⟨ob, hob, _⟩ := hr.blk id m h1
    rw [hs2 id ob hob] at h2'
    rw [hob, h2']
  have hkeep : ∀ id m b C, ¬ Wr id → mt id = some m → ρ id = some (some (b, C)) → w'.heap[b]? = w.heap[b]? := fun id m b C hno h1 h4 => by
    refine h3.block b (hr.lt id m b C h1 h4) fun id0 m0 C0 g1 g2 g3 => ?_
    obtain ⟨m1, k1, k2⟩ := hm id0 m0 g1
    obtain ⟨k3, k4⟩ := k2 g2
    have hne : id0 ≠ id := fun e => hno (e ▸ k4)
    exact hr.apart id0 id m1 m b C0 b C hne k1 k3 h1 (cutR_sub ρ nid id0 _ g3) h4 rfl
  have hHR : HRel ρ' mt2 ct2 w' := by
    refine ⟨fun id m h1 => ?_, fun id m b C h1 h4 => ?_, fun id m b C i v h1 h4 h5 => ?_, fun id m b C h1 ho h4 => ?_, fun id m b C i v h1 ho h4 h5 => ?_, fun i j mi mj b C b' C' hij h1 ho h4 h5 h6 => ?_⟩
    · by_cases e : Wr id
      · rw [(hin id e).1] at h1
        obtain ⟨ob, g1, g2⟩ := h2.blk id m h1
        exact ⟨ob, hs1 id ob g1, g2⟩
      · rw [(hout id e).1] at h1
        obtain ⟨ob, g1, g2⟩ := hr.blk id m h1
        exact ⟨ob, hs2 id ob g1, g2⟩
    · by_cases e : Wr id
      · rw [(hin id e).1] at h1
        exact h2.lt id m b C h1 (inR' id m _ h1 h4)
      · rw [(hout id e).1] at h1
        exact Nat.lt_of_lt_of_le (hr.lt id m b C h1 (inO id m _ h1 h4)) h3.size
    · by_cases e : Wr id
      · rw [(hin id e).1] at h1
        rw [(hin id e).2] at h5
        obtain ⟨x, g1, g2, g3⟩ := h2.cell id m b C i v h1 (inR' id m _ h1 h4) h5
        exact ⟨x, den_mono hs1 g1, g2, g3⟩
      · rw [(hout id e).1] at h1
        rw [(hout id e).2] at h5
        have h4' := inO id m _ h1 h4
        obtain ⟨x, g1, g2, g3⟩ := hr.cell id m b C i v h1 h4' h5
        refine ⟨x, den_mono hs2 g1, ?_, g3⟩
        rw [← g2]
        exact World.cell?_of_block (w := w) (hkeep id m b C e h1 h4')
    · by_cases e : Wr id
      · rw [(hin id e).1] at h1
        exact h2.own id m b C h1 ho (inR' id m _ h1 h4)
      · rw [(hout id e).1] at h1
        have h4' := inO id m _ h1 h4
        obtain ⟨g1, g2⟩ := hr.own id m b C h1 ho h4'
        exact ⟨by rw [hkeep id m b C e h1 h4']; exact g1, g2⟩
    · by_cases e : Wr id
      · rw [(hin id e).1] at h1
        rw [(hin id e).2] at h5
        exact h2.low id m b C i v h1 ho (inR' id m _ h1 h4) h5
      · rw [(hout id e).1] at h1
        rw [(hout id e).2] at h5
        exact hr.low id m b C i v h1 ho (inO id m _ h1 h4) h5
    · by_cases ei : Wr i <;> by_cases ej : Wr j
      · rw [(hin i ei).1] at h1
        rw [(hin j ej).1] at h4
        exact h2.apart i j mi mj b C b' C' hij h1 ho h4 (inR' i mi _ h1 h5) (inR' j mj _ h4 h6)
      · rw [(hin i ei).1] at h1
        rw [(hout j ej).1] at h4
        have h6' := inO j mj _ h4 h6
        have hb' := hr.lt j mj b' C' h4 h6'
        intro hbb
        obtain ⟨id0, m0, C0, g1, g2, g3⟩ := h3.own i mi b C h1 ho (inR' i mi _ h1 h5) (by omega)
        obtain ⟨m1, k1, k2⟩ := hm id0 m0 g1
        obtain ⟨k3, k4⟩ := k2 g2
        have hne : id0 ≠ j := fun e => ej (e ▸ k4)
        exact hr.apart id0 j m1 mj b C0 b' C' hne k1 k3 h4 (cutR_sub ρ nid id0 _ g3) h6' hbb
      · rw [(hout i ei).1] at h1
        rw [(hin j ej).1] at h4
        have h5' := inO i mi _ h1 h5
        have h6' := inR' j mj _ h4 h6
        rcases hdom j _ h6' with h7 | h7
        · -- an old block
          have hj : j < nid := by
            unfold cutR at h7
            by_cases e : j < nid
            · exact e
            · rw [if_neg e] at h7; cases h7
          obtain ⟨mj0, hj0⟩ := hold j ej hj
          exact hr.apart i j mi mj0 b C b' C' hij h1 ho hj0 h5' (cutR_sub ρ nid j _ h7)
        · -- a new number: its block is new, or one that could be written
          have hown := hnew j ej h7.1 mj h4
          intro hbb
          have hb := hr.lt i mi b C h1 h5'
          obtain ⟨id0, m0, C0, g1, g2, g3⟩ := h3.own j mj b' C' h4 hown h6' (by omega)
          obtain ⟨m1, k1, k2⟩ := hm id0 m0 g1
          obtain ⟨k3, k4⟩ := k2 g2
          have hne : id0 ≠ i := fun e => ei (e ▸ k4)
          exact hr.apart id0 i m1 mi b' C0 b C hne k1 k3 h1 (cutR_sub ρ nid id0 _ g3) h5' hbb.symm
      · rw [(hout i ei).1] at h1
        rw [(hout j ej).1] at h4
        exact hr.apart i j mi mj b C b' C' hij h1 ho h4 (inO i mi _ h1 h5) (inO j mj _ h4 h6)
  refine ⟨ρ', hs1, hHR, ⟨hs2, h3.os, h3.tape, h3.output, h3.size, fun b hb hno => ?_, fun id m b C h1 ho h4 hb => ?_⟩, hdom'⟩
  · refine h3.block b hb fun id0 m0 C0 g1 g2 g3 => ?_
    obtain ⟨m1, k1, k2⟩ := hm id0 m0 g1
    exact hno id0 m1 C0 k1 (k2 g2).1 (cutR_sub ρ nid id0 _ g3)
  · by_cases e : Wr id
    · rw [(hin id e).1] at h1
      obtain ⟨id0, m0, C0, g1, g2, g3⟩ := h3.own id m b C h1 ho (inR' id m _ h1 h4) hb
      obtain ⟨m1, k1, k2⟩ := hm id0 m0 g1
      exact ⟨id0, m1, C0, k1, (k2 g2).1, cutR_sub ρ nid id0 _ g3⟩
    · rw [(hout id e).1] at h1
      exact ⟨id, m, C, h1, ho, inO id m _ h1 h4⟩

end
end Go.LE

/- The local evaluator, part V: a call over some blocks alone, put to the frame. -/
namespace Go.LE
open Go.RowKit

section
variable {P : Program} {w : World} {ρ : Ren} {mt : MT} {ct : CT}

theorem HRel.cut (h : HRel ρ mt ct w) {n : Nat} (h1 : ∀ id m, mt id = some m → id < n) (h2 : ∀ id m i v, mt id = some m → ct id i = some v → ∀ j ∈ idsV v, j < n) : HRel (cutR ρ n) mt ct w := by
  have hc : ∀ id, id < n → cutR ρ n id = ρ id := fun id hid => by unfold cutR; rw [if_pos hid]
  refine ⟨fun id m g => ?_, fun id m b C g g' => ?_, fun id m b C i v g g' g'' => ?_, fun id m b C g go g' => ?_, fun id m b C i v g go g' g'' => ?_, fun i j mi mj b C b' C' hij g go g' e1 e2 => ?_⟩
  · rw [hc id (h1 id m g)]; exact h.blk id m g
  · rw [hc id (h1 id m g)] at g'; exact h.lt id m b C g g'
  · rw [hc id (h1 id m g)] at g'
    obtain ⟨x, k1, k2, k3⟩ := h.cell id m b C i v g g' g''
    refine ⟨x, ?_, k2, k3⟩
    rw [← k1]
    exact den_congr fun j hj => hc j (h2 id m i v g g'' j hj)
  · rw [hc id (h1 id m g)] at g'; exact h.own id m b C g go g'
  · rw [hc id (h1 id m g)] at g'; exact h.low id m b C i v g go g' g''
  · rw [hc i (h1 i mi g)] at e1
    rw [hc j (h1 j mj g')] at e2
    exact h.apart i j mi mj b C b' C' hij g go g' e1 e2

theorem restrict_get (wr : Bool) (h : Trie Blk) : ∀ (ids : List Nat) (r : Trie Blk) (id : Nat) (b : Blk), (restrict wr h ids r).get id = some b →
    r.get id = some b ∨ (id ∈ ids ∧ ∃ b0, h.get id = some b0 ∧ b = { b0 with own := b0.own && wr })
  | [], r, id, b, hb => .inl hb
  | k :: ids, r, id, b, hb => by
    rw [restrict] at hb
    split at hb
    · rename_i b0 hk
      rcases restrict_get wr h ids _ id b hb with h1 | ⟨h1, h2⟩
      · rw [Trie.get_put] at h1
        by_cases e : id = k
        · rw [if_pos e] at h1
          subst e
          exact .inr ⟨by simp, b0, hk, (Option.some.inj h1).symm⟩
        · rw [if_neg e] at h1; exact .inl h1
      · exact .inr ⟨List.mem_cons_of_mem _ h1, h2⟩
    · rcases restrict_get wr h ids _ id b hb with h1 | ⟨h1, h2⟩
      · exact .inl h1
      · exact .inr ⟨List.mem_cons_of_mem _ h1, h2⟩

theorem newWr_mem (h : Trie Blk) : ∀ (n id : Nat) (u : HWr), u ∈ newWr h n id → u.blk = h.get u.id ∧ id ≤ u.id ∧ u.id < id + n ∧ ∃ b, u.blk = some b
  | 0, id, u, hu => by simp [newWr] at hu
  | n + 1, id, u, hu => by
    rw [newWr] at hu
    split at hu
    · rename_i b hb
      rcases List.mem_cons.1 hu with rfl | hu
      · exact ⟨hb.symm, Nat.le_refl _, by simp only; omega, b, rfl⟩
      · obtain ⟨h1, h2, h3, h4⟩ := newWr_mem h n (id + 1) u hu
        exact ⟨h1, by omega, by omega, h4⟩
    · obtain ⟨h1, h2, h3, h4⟩ := newWr_mem h n (id + 1) u hu
      exact ⟨h1, by omega, by omega, h4⟩

theorem inlEff_calls {E : EnvX} {ih : Code → St → Tree (LX × St)} (hF : FnOk P E ih) {f : FuncId} {fn : Func × Bool} (hf : P.funcs[f]? = some fn.1) {vs : List LVal} {xs : List Value} {st : St} {e : Eff} (hr : HRel ρ mt ct w)
    (h : (inlEff E ih fn vs st).res e) (hd : denL ρ vs = some xs) (hag : ∀ y ∈ e.acc, y < st.nid → Agree mt ct st.hp y) (hfr : ∀ id bk, st.hp.get id = some bk → id < st.nid) (hfree : ∀ k, st.nid ≤ k → k < st.nid + e.cnt → ρ k = none) :
    Calls P f xs.toArray w fun
      | .returned x, w' => ∃ ρ', Res ρ mt ct w st.nid e ρ' x w'
      | _, _ => False := by
  unfold inlEff at h
  generalize hids : reach st.hp 200 (idsL vs) [] = ids at h
  simp only at h
  split at h
  · exact h.elim
  · rename_i hbel
    obtain ⟨r, hr1, h⟩ := Tree.res_bind h
    unfold belowAll at hbel
    simp only [Bool.and_eq_true, List.all_eq_true] at hbel
    obtain ⟨hb1, hb2⟩ := hbel
    have hlt : ∀ i, Nat.blt i st.nid = true → i < st.nid := fun i hi => Nat.le_of_ble_eq_true hi
    -- what is asked of the effect
    have hacc : e.cnt = r.2.nid - st.nid ∧ e.val = r.1 ∧ (∀ id ∈ ids, id ∈ e.acc) ∧ ((fn.2 = false ∧ e.wr = []) ∨ (∃ wr, wr = newWr r.2.hp (r.2.nid - st.nid) st.nid ∧ allOwn wr = true ∧ ((fn.2 = false ∧ e.wr = wr) ∨ (fn.2 = true ∧ e.wr = ids.map (fun id => ⟨id, r.2.hp.get id⟩) ++ wr)))) := by
      split at h
      · rename_i h2
        split at h
        · obtain rfl := h
          exact ⟨rfl, rfl, fun id h => h, .inl ⟨h2, rfl⟩⟩
        · split at h
          · rename_i ho
            obtain rfl := h
            exact ⟨rfl, rfl, fun id h => List.mem_append_left _ h, .inr ⟨_, rfl, ho, .inl ⟨h2, rfl⟩⟩⟩
          · exact h.elim
      · rename_i h2
        split at h
        · rename_i ho
          obtain rfl := h
          exact ⟨rfl, rfl, fun id h => List.mem_append_left _ h, .inr ⟨_, rfl, ho, .inr ⟨h2, rfl⟩⟩⟩
        · exact h.elim
    obtain ⟨hcnt, hval, hsub, hwr⟩ := hacc
    have hget : ∀ id ∈ ids, ∃ b, st.hp.get id = some b ∧ id < st.nid ∧ ∀ j ∈ idsC b.cont, j < st.nid := fun id hid => by
      have := hb2 id hid
      cases hg : st.hp.get id with
      | none => simp [hg] at this
      | some b =>
        simp only [hg, List.all_eq_true] at this
        exact ⟨b, rfl, hfr id b hg, fun j hj => hlt j (this j hj)⟩
    have hagr : ∀ id ∈ ids, mt id = mtOf st.hp id ∧ ∀ i, ct id i = ctOf st.hp id i := fun id hid => by
      obtain ⟨b, _, h2, _⟩ := hget id hid
      obtain ⟨h3, h4⟩ := hag id (hsub id hid) h2
      exact ⟨h3, fun i => h4 i rfl⟩
    have hsp : ∀ id b, (restrict fn.2 st.hp ids .leaf).get id = some b → id ∈ ids ∧ ∃ b0, st.hp.get id = some b0 ∧ b = { b0 with own := b0.own && fn.2 } := fun id b hb => by
      rcases restrict_get _ _ _ _ _ _ hb with h1 | h1
      · simp [Trie.get_leaf] at h1
      · exact h1
    have hm : ∀ id m', mtOf (restrict fn.2 st.hp ids .leaf) id = some m' → id ∈ ids ∧ ∃ m, mt id = some m ∧ m'.nil = m.nil ∧ m'.size = m.size ∧ m'.own = (m.own && fn.2) := fun id m' h1 => by
      simp only [mtOf, Option.map_eq_some_iff] at h1
      obtain ⟨b, hb, rfl⟩ := h1
      obtain ⟨h1, b0, h2, rfl⟩ := hsp id b hb
      refine ⟨h1, b0.mt, ?_, rfl, rfl, rfl⟩
      rw [(hagr id h1).1]
      simp [mtOf, h2]
    have hHR : HRel (cutR ρ st.nid) (mtOf (restrict fn.2 st.hp ids .leaf)) (ctOf (restrict fn.2 st.hp ids .leaf)) w := by
      refine HRel.cut (hr.less (fun id m' h1 => ?_) (fun id i v h1 => ?_)) (fun id m h1 => ?_) (fun id m i v h1 h2 => ?_)
      · obtain ⟨_, m, h2, h3, h4, h5⟩ := hm id m' h1
        refine ⟨m, h2, h3, fun ho => ?_⟩
        rw [h5, Bool.and_eq_true] at ho
        exact ⟨ho.1, h4⟩
      · unfold ctOf at h1
        cases hg : (restrict fn.2 st.hp ids .leaf).get id with
        | none => rw [hg] at h1; cases h1
        | some b =>
          obtain ⟨h3, b0, h4, rfl⟩ := hsp id b hg
          rw [hg] at h1
          rw [(hagr id h3).2 i, ctOf_at h4]
          exact h1
      · obtain ⟨h2, _⟩ := hm id m h1
        exact (hget id h2).choose_spec.2.1
      · unfold ctOf at h2
        cases hg : (restrict fn.2 st.hp ids .leaf).get id with
        | none => rw [hg] at h2; cases h2
        | some b =>
          obtain ⟨h3, b0, h4, rfl⟩ := hsp id b hg
          rw [hg] at h2
          obtain ⟨b1, g1, _, g3⟩ := hget id h3
          rw [h4] at g1
          obtain rfl := Option.some.inj g1
          exact fun j hj => g3 j (contAt_ids h2 j hj)
    refine Calls.mono (hF f fn.1 vs xs { st with hp := restrict fn.2 st.hp ids .leaf } r (cutR ρ st.nid) w hf hr1 ?_ hHR (fun id b hb => ?_) (fun k hk => ?_)) fun e' w' hw' => ?_
    · rw [← hd]
      refine denL_congr fun j hj => ?_
      unfold cutR
      rw [if_pos (hlt j (hb1 j hj))]
    · exact (hget id (hsp id b hb).1).choose_spec.2.1
    · unfold cutR; rw [if_neg (by simp only at hk; omega)]
    · cases e' with
      | panicked _ => exact hw'.elim
      | outgrown => exact hw'.elim
      | returned x =>
        obtain ⟨ρR, k1, k2, k3, k4, k5, k6, k7⟩ := hw'
        simp only at k6 k7
        have hnid : st.nid + e.cnt = r.2.nid := by rw [hcnt]; omega
        have hdom : ∀ id y, ρR id = some y → cutR ρ st.nid id = some y ∨ (st.nid ≤ id ∧ id < r.2.nid) := fun id y hy => by
          rcases k7 id y hy with h1 | h1
          · exact .inl h1
          · refine .inr ⟨h1, ?_⟩
            rcases Nat.lt_or_ge id r.2.nid with h2 | h2
            · exact h2
            · rw [k5 id h2] at hy; cases hy
        have hfree' : ∀ k, st.nid ≤ k → k < r.2.nid → ρ k = none := fun k h1 h2 => hfree k h1 (by omega)
        have fin : ∀ (Wr : Nat → Prop), (∀ id m', mtOf (restrict fn.2 st.hp ids .leaf) id = some m' → m'.own = true → Wr id) →
            (∀ id, Wr id → mtU mt e.wr id = mtOf r.2.hp id ∧ ctU ct e.wr id = ctOf r.2.hp id) → (∀ id, ¬ Wr id → mtU mt e.wr id = mt id ∧ ctU ct e.wr id = ct id) →
            (∀ id, Wr id → st.nid ≤ id → ∀ m, mtOf r.2.hp id = some m → m.own = true) → (∀ id, Wr id → id < st.nid → id ∈ ids) → ∃ ρ', Res ρ mt ct w st.nid e ρ' x w' := by
          intro Wr w1 w2 w3 w4 w5
          obtain ⟨ρ', g1, g2, g3, g4⟩ := frame hr (Wr := Wr) (fun id m' h1 => by
            obtain ⟨_, m, h2, _, _, h5⟩ := hm id m' h1
            refine ⟨m, h2, fun ho => ⟨?_, w1 id m' h1 ho⟩⟩
            rw [h5, Bool.and_eq_true] at ho
            exact ho.1) hfree' k2 k3 hdom w2 w3 w4 (fun id h1 h2 => by
              have hid := w5 id h1 h2
              obtain ⟨b, hb, _⟩ := hget id hid
              exact ⟨b.mt, by rw [(hagr id hid).1]; simp [mtOf, hb]⟩)
          exact ⟨ρ', by rw [hval]; exact den_mono g1 k1, g2, g3, fun id y hy => by rw [hnid]; exact g4 id y hy⟩
        rcases hwr with ⟨h2, hw0⟩ | ⟨wr, hwr, ho, hw⟩
        · refine fin (fun _ => False) (fun id m' h1 ho => ?_) (fun _ h => h.elim) (fun id _ => by rw [hw0]; exact ⟨rfl, rfl⟩) (fun _ h => h.elim) (fun _ h => h.elim)
          obtain ⟨_, m, _, _, _, h5⟩ := hm id m' h1
          rw [h5, h2, Bool.and_false] at ho
          cases ho
        · have hnew : ∀ u ∈ wr, u.blk = r.2.hp.get u.id ∧ st.nid ≤ u.id ∧ u.id < st.nid + (r.2.nid - st.nid) ∧ ∃ b, u.blk = some b := fun u hu => newWr_mem _ _ _ u (by rw [← hwr]; exact hu)
          have hfun : ∀ u ∈ e.wr, u.blk = r.2.hp.get u.id := fun u hu => by
            rcases hw with ⟨_, hw⟩ | ⟨_, hw⟩
            · rw [hw] at hu; exact (hnew u hu).1
            · rw [hw] at hu
              rcases List.mem_append.1 hu with hu | hu
              · obtain ⟨id, _, rfl⟩ := List.mem_map.1 hu; rfl
              · exact (hnew u hu).1
          have hownw : ∀ u ∈ wr, ∀ b, r.2.hp.get u.id = some b → b.own = true := fun u hu b hb => by
            have h1 := (List.all_eq_true.1 ho) u hu
            rw [(hnew u hu).1, hb] at h1
            exact h1
          refine fin (fun id => ∃ u ∈ e.wr, u.id = id) (fun id m' h1 ho' => ?_) (fun id h1 => ?_) (fun id h1 => ?_) (fun id h1 h2 m h3 => ?_) (fun id h1 h2 => ?_)
          · obtain ⟨hid, m, _, _, _, h5⟩ := hm id m' h1
            rw [h5, Bool.and_eq_true] at ho'
            rcases hw with ⟨h2, hw⟩ | ⟨_, hw⟩
            · rw [h2] at ho'; cases ho'.2
            · exact ⟨⟨id, r.2.hp.get id⟩, by rw [hw]; exact List.mem_append_left _ (List.mem_map.2 ⟨id, hid, rfl⟩), rfl⟩
          · rw [mtU_last, ctU_last, lastBlk_fun hfun, if_pos h1]
            refine ⟨rfl, ?_⟩
            funext i
            unfold contO ctOf
            cases r.2.hp.get id <;> rfl
          · rw [mtU_last, ctU_last, lastBlk_fun hfun, if_neg h1]
            exact ⟨rfl, rfl⟩
          · obtain ⟨u, hu, rfl⟩ := h1
            have hu' : u ∈ wr := by
              rcases hw with ⟨_, hw⟩ | ⟨_, hw⟩
              · rw [hw] at hu; exact hu
              · rw [hw] at hu
                rcases List.mem_append.1 hu with hu | hu
                · obtain ⟨id, hid, rfl⟩ := List.mem_map.1 hu
                  have := (hget id hid).choose_spec.2.1
                  simp only at h2
                  omega
                · exact hu
            simp only [mtOf, Option.map_eq_some_iff] at h3
            obtain ⟨b, hb, rfl⟩ := h3
            exact hownw u hu' b hb
          · obtain ⟨u, hu, rfl⟩ := h1
            rcases hw with ⟨_, hw⟩ | ⟨_, hw⟩
            · rw [hw] at hu
              have := (hnew u hu).2.1
              omega
            · rw [hw] at hu
              rcases List.mem_append.1 hu with hu | hu
              · obtain ⟨id, hid, rfl⟩ := List.mem_map.1 hu; exact hid
              · have := (hnew u hu).2.1
                omega

end
end Go.LE

/- The local evaluator, part W: regions that draw their order. -/
namespace Go.LE
open Go.RowKit

/- A state as a map that some writers have written, in the order of their numbers. -/

section
variable {κ α : Type}

/-- What the writers of a set have left at a key. -/
def sg (w : Nat → κ → Option α) (s0 : κ → α) (S : Nat → Bool) : Nat → κ → α
  | 0, key => s0 key
  | k + 1, key => match S k with
    | true => match w k key with
      | some v => v
      | none => sg w s0 S k key
    | false => sg w s0 S k key

theorem sg_congr (w : Nat → κ → Option α) (s0 : κ → α) {S T : Nat → Bool} (key : κ) : ∀ n, (∀ k, k < n → w k key ≠ none → S k = T k) → sg w s0 S n key = sg w s0 T n key
  | 0, _ => rfl
  | n + 1, h => by
    have ih := sg_congr w s0 key n fun k hk => h k (by omega)
    simp only [sg]
    cases hw : w n key with
    | none => cases S n <;> cases T n <;> simp [ih]
    | some v =>
      rw [h n (by omega) (by simp [hw])]
      cases T n <;> simp [ih]

theorem sg_upto (w : Nat → κ → Option α) (s0 : κ → α) (S : Nat → Bool) (key : κ) : ∀ n j, j ≤ n → (∀ k, k < n → w k key ≠ none → S k = decide (k < j)) → sg w s0 S n key = sg w s0 (fun _ => true) j key
  | 0, j, hj, h => by
    obtain rfl : j = 0 := by omega
    rfl
  | n + 1, j, hj, h => by
    rcases Nat.lt_or_ge n j with h1 | h1
    · obtain rfl : j = n + 1 := by omega
      exact sg_congr w s0 key (n + 1) fun k hk hw => by rw [h k hk hw]; simp [hk]
    · have ih := sg_upto w s0 S key n j h1 fun k hk => h k (by omega)
      simp only [sg]
      cases hw : w n key with
      | none => cases S n <;> simp [ih]
      | some v =>
        have : S n = false := by rw [h n (by omega) (by simp [hw])]; simp; omega
        simp [this, ih]

theorem sg_last (w : Nat → κ → Option α) (s0 : κ → α) (S : Nat → Bool) (key : κ) (j : Nat) (v : α) (hj : S j = true) (hv : w j key = some v) : ∀ n, j < n → (∀ k, j < k → k < n → S k = true → w k key = none) → sg w s0 S n key = v
  | 0, h, _ => by omega
  | n + 1, h, hk => by
    simp only [sg]
    rcases Nat.lt_or_ge j n with h1 | h1
    · have ih := sg_last w s0 S key j v hj hv n h1 fun k h2 h3 => hk k h2 (by omega)
      cases hs : S n with
      | false => simp [ih]
      | true => rw [hk n h1 (by omega) hs]; simp [ih]
    · obtain rfl : j = n := by omega
      rw [hj, hv]

def setB (S : Nat → Bool) (j : Nat) : Nat → Bool := fun k => if k = j then true else S k

/-- Who comes after its own waits, in whatever order, finds what it reads as the text has it, and leaves what it leaves. -/
structure Order (bef : Nat → Nat → Bool) (w : Nat → κ → Option α) (reads : Nat → κ → Prop) (n : Nat) : Prop where
  wr : ∀ p q key, p < q → q < n → w p key ≠ none → (reads q key ∨ w q key ≠ none) → bef p q = true
  rw : ∀ p q key, p < q → q < n → reads p key → w q key ≠ none → bef p q = true

theorem Order.read {bef : Nat → Nat → Bool} {w : Nat → κ → Option α} {reads : Nat → κ → Prop} {n : Nat} (h : Order bef w reads n) (s0 : κ → α) {S : Nat → Bool} (hS : ∀ p q, q < n → S q = true → bef p q = true → S p = true)
    {j : Nat} (hj : j < n) (hjS : S j = false) (hjr : ∀ p, bef p j = true → S p = true) {key : κ} (hr : reads j key) : sg w s0 S n key = sg w s0 (fun _ => true) j key := by
  refine sg_upto w s0 S key n j (by omega) fun k hk hw => ?_
  by_cases h1 : k < j
  · simp only [h1, decide_true]
    exact hjr k (h.wr k j key h1 hj hw (.inl hr))
  · simp only [h1, decide_false]
    by_cases e : k = j
    · rw [e]; exact hjS
    · cases hs : S k with
      | false => rfl
      | true =>
        have := hS j k hk hs (h.rw j k key (by omega) hk hr hw)
        rw [hjS] at this; cases this

theorem Order.write {bef : Nat → Nat → Bool} {w : Nat → κ → Option α} {reads : Nat → κ → Prop} {n : Nat} (h : Order bef w reads n) (s0 : κ → α) {S : Nat → Bool} (hS : ∀ p q, q < n → S q = true → bef p q = true → S p = true)
    {j : Nat} (hj : j < n) (hjS : S j = false) (key : κ) : sg w s0 (setB S j) n key = match w j key with | some v => v | none => sg w s0 S n key := by
  cases hw : w j key with
  | none =>
    refine sg_congr w s0 key n fun k hk hk' => ?_
    unfold setB
    by_cases e : k = j
    · rw [e, hw] at hk'; exact (hk' rfl).elim
    · rw [if_neg e]
  | some v =>
    refine sg_last w s0 _ key j v (by simp [setB]) hw n hj fun k h1 h2 h3 => ?_
    unfold setB at h3
    rw [if_neg (by omega)] at h3
    cases hk : w k key with
    | none => rfl
    | some u =>
      have := hS j k h2 h3 (h.wr j k key h1 h2 (by simp [hw]) (.inr (by simp [hk])))
      rw [hjS] at this; cases this

end

/- What one operation does. -/

section
variable {P : Program}

/-- An operation of a region, at a state that the text gives it: what it does, wherever what it looks at is as that state has it. -/
def OpE (P : Program) (ops : Array Oper) (i : Nat) (o : Oper) (st : St) (e : Eff) : Prop := ∀ (ρ : Ren) (mt : MT) (ct : CT) (w : World) (sl : Nat → Option LVal) (a : Act) (K : Act → World → Prop) (Q : Exit → Act → World → Prop),
  HRel ρ mt ct w → SlotsOk ρ sl a → (∀ t ∈ slotsOf ops.toList o, sl t = st.sl.get t) → (∀ y ∈ e.acc, y < st.nid → Agree mt ct st.hp y) → (∀ k, st.nid ≤ k → k < st.nid + e.cnt → ρ k = none) →
  (∀ ρ' x w', Res ρ mt ct w st.nid e ρ' x w' → K (a.put o.dst x) w') → wpOp P ops Q i K a w

theorem sees_of {ops : Array Oper} {o : Oper} {st : St} {sl : Nat → Option LVal} (h : ∀ t ∈ slotsOf ops.toList o, sl t = st.sl.get t) : ∀ x ∈ o.op.operands, Sees st sl x := fun x hx t ht => by
  refine h t (List.mem_append_left _ (List.mem_filterMap.2 ⟨x, by simpa using hx, ?_⟩))
  rw [ht]

theorem guard_of {ops : Array Oper} {o : Oper} {st : St} {sl : Nat → Option LVal} (h : ∀ t ∈ slotsOf ops.toList o, sl t = st.sl.get t) :
    ∀ j want q t, o.guard = some (j, want) → ops[j]? = some q → q.dst = some t → sl t = st.sl.get t := fun j want q t hg hq ht => by
  refine h t (List.mem_append_right _ ?_)
  rw [hg]
  simp only [nth_spec, Array.getElem?_toList, hq, ht]
  simp

theorem Res.val_congr {ρ : Ren} {mt : MT} {ct : CT} {w : World} {nid : Nat} {e : Eff} {v : LVal} (hv : ∀ ρ, den ρ v = den ρ e.val) {ρ' : Ren} {x : Value} {w' : World} (h : Res ρ mt ct w nid e ρ' x w') : Res ρ mt ct w nid { e with val := v } ρ' x w' :=
  ⟨by rw [hv]; exact h.val, h.heap, h.ext, h.dom⟩

theorem opEff_sound {E : EnvX} (hE : EnvOk P E) {ih : Code → St → Tree (LX × St)} (hF : FnOk P E ih) {ops : Array Oper} {i : Nat} {o : Oper} (hi : ops[i]? = some o) {st : St} (hlow : ∀ id b, st.hp.get id = some b → id < st.nid)
    {k : Eff → Tree St} {r : St} (h : (opEff E ih ops.toList i o st k).res r) : ∃ e, (k e).res r ∧ OpE P ops i o st e := by
  unfold opEff at h
  split at h
  · rename_i hb
    refine ⟨_, h, fun ρ mt ct w sl a K Q hr hs hsl hag hfree hK => ?_⟩
    unfold wpOp
    rw [hi]
    simp only [wanted_spec hs (guard_of hsl) hb, Bool.false_eq_true, if_false]
    exact hK ρ undef w (.pure hr rfl rfl)
  · rename_i hb
    split at h
    · rename_i fn vs hinl
      obtain ⟨c, f, ho, hcal, hfn⟩ := inl_spec hinl
      obtain ⟨e, he, h⟩ := Tree.res_bind h
      obtain ⟨v, hv, h⟩ := forked_res h
      refine ⟨_, h, fun ρ mt ct w sl a K Q hr hs hsl hag hfree hK => ?_⟩
      obtain ⟨hent, hfun⟩ := hE.fns _ _ hfn
      have hsee := sees_of hsl
      obtain ⟨_, _, xs, hd, hrun⟩ := calleeOf_den (P := P) hs (fun x hx => hsee x (by simpa [ho, Op.operands] using hx)) hcal o.type
      have hex : (execOp a.eval o).run P w = (callFunc f xs.toArray).run P w := by
        rw [← hrun]; simp only [execOp, ho]
      unfold wpOp
      rw [hi]
      simp only [wanted_spec hs (guard_of hsl) hb, if_true]
      left
      unfold Oper.wp
      rw [hex, hent, Oper.upon_enter]
      refine Calls.mono (inlEff_calls hF hfun hr he hd hag hlow hfree) fun e' w' hw' => ?_
      cases e' with
      | panicked _ => exact hw'.elim
      | outgrown => exact hw'.elim
      | returned x =>
        obtain ⟨ρ', hres⟩ := hw'
        exact hK ρ' x w' (hres.val_congr hv)
    · obtain ⟨e, he, h⟩ := Tree.res_bind h
      obtain ⟨v, hv, h⟩ := forked_res h
      refine ⟨_, h, fun ρ mt ct w sl a K Q hr hs hsl hag hfree hK => ?_⟩
      unfold wpOp
      rw [hi]
      simp only [wanted_spec hs (guard_of hsl) hb, if_true]
      left
      exact lop_sound hE hr hs (sees_of hsl) he hag hlow hfree K Q fun ρ' x w' hres => hK ρ' x w' (hres.val_congr hv)
  · exact h.elim

/- Bit masks. -/

theorem mask_bit (acc : List Nat) (i : Nat) : ∀ (l : List Nat) (s : Nat), (mask acc l s).testBit i = true ↔ (s.testBit i = true ∨ ∃ e ∈ l, e = i ∨ (nthD e acc).testBit i = true)
  | [], s => by simp [mask]
  | e :: l, s => by
    rw [mask, mask_bit acc i l]
    simp only [Nat.testBit_or, Nat.testBit_two_pow, Bool.or_eq_true, decide_eq_true_eq, List.mem_cons]
    constructor
    · intro h
      rcases h with h | h
      · rcases h with h | h
        · rcases h with h | h
          · exact .inl h
          · exact .inr ⟨e, .inl rfl, .inl h⟩
        · exact .inr ⟨e, .inl rfl, .inr h⟩
      · obtain ⟨u, h1, h2⟩ := h
        exact .inr ⟨u, .inr h1, h2⟩
    · rintro (h | ⟨u, rfl | h1, h2⟩)
      · exact .inl (.inl (.inl h))
      · rcases h2 with h2 | h2
        · exact .inl (.inl (.inr h2))
        · exact .inl (.inr h2)
      · exact .inr ⟨u, h1, h2⟩

theorem masks_pre : ∀ (l : List Oper) (acc : List Nat), ∃ r, masks l acc = acc ++ r ∧ r.length = l.length
  | [], acc => ⟨[], by simp [masks], rfl⟩
  | o :: l, acc => by
    obtain ⟨r, h1, h2⟩ := masks_pre l (acc ++ [mask acc (edges o) 0])
    exact ⟨mask acc (edges o) 0 :: r, by rw [masks, h1]; simp, by simp [h2]⟩

theorem nthD_get (i : Nat) (l : List Nat) : nthD i l = (l[i]?).getD 0 := by unfold nthD; rw [nth_spec]

theorem masks_at (l : List Oper) : ∀ (acc : List Nat) (k : Nat) (o : Oper), l[k]? = some o → nthD (acc.length + k) (masks l acc) = mask ((masks l acc).take (acc.length + k)) (edges o) 0 := by
  induction l with
  | nil => intro acc k o h; simp at h
  | cons o' l ih =>
    intro acc k o h
    cases k with
    | zero =>
      obtain rfl := Option.some.inj h
      obtain ⟨r, h1, _⟩ := masks_pre l (acc ++ [mask acc (edges o') 0])
      rw [masks, h1, nthD_get]
      simp
    | succ k =>
      have ih := ih (acc ++ [mask acc (edges o') 0]) k o (by simpa using h)
      have hl : (acc ++ [mask acc (edges o') 0]).length + k = acc.length + (k + 1) := by simp; omega
      rw [hl] at ih
      rw [masks]
      exact ih

theorem shapeOk_spec {ops : List Oper} : ∀ (l : List Oper) (j : Nat), shapeOk ops j l = true → ∀ k o, l[k]? = some o → ∀ e ∈ edges o, e < j + k
  | [], _, _, k, o, h => by simp at h
  | o' :: l, j, h, k, o, ho => by
    rw [shapeOk, Bool.and_eq_true, List.all_eq_true] at h
    intro e he
    cases k with
    | zero =>
      obtain rfl := Option.some.inj ho
      exact Nat.le_of_ble_eq_true (h.1 e he)
    | succ k =>
      have := shapeOk_spec l (j + 1) h.2 k o (by simpa using ho) e he
      omega

/-- A set that has what each of its own waits for has all that must be before. -/
theorem bef_closed {ops : List Oper} (hsh : shapeOk ops 0 ops = true) {S : Nat → Bool} (hS : ∀ k o, ops[k]? = some o → S k = true → ∀ e ∈ edges o, S e = true) :
    ∀ (j : Nat) (o : Oper), ops[j]? = some o → (∀ e ∈ edges o, S e = true) → ∀ i, bef (masks ops []) i j = true → S i = true := by
  intro j
  induction j using Nat.strongRecOn with
  | _ j ih =>
    intro o ho he i hb
    unfold bef at hb
    have h1 := masks_at ops [] j o ho
    simp only [List.length_nil, Nat.zero_add] at h1
    rw [h1, mask_bit] at hb
    rcases hb with hb | ⟨e, h2, h3⟩
    · simp at hb
    · have hlt := shapeOk_spec ops 0 hsh j o ho e h2
      simp only [Nat.zero_add] at hlt
      rcases h3 with rfl | h3
      · exact he _ h2
      · have hj : j < ops.length := (List.getElem?_eq_some_iff.1 ho).1
        obtain ⟨oe, hoe⟩ : ∃ oe, ops[e]? = some oe := ⟨ops[e]'(by omega), List.getElem?_eq_getElem (by omega)⟩
        refine ih e hlt oe hoe (hS e oe hoe (he e h2)) i ?_
        unfold bef
        rw [nthD_get] at h3 ⊢
        rw [List.getElem?_take_of_lt hlt] at h3
        exact h3

end
end Go.LE

/- The local evaluator, part X: regions that draw their order, put together. -/
namespace Go.LE
open Go.RowKit

section
variable {P : Program}

theorem heapRow_spec {ms : List Nat} {j : Nat} {y : List HWr × List Acc} : ∀ {l : List (Nat × (List HWr × List Acc))}, heapRow ms j y l = true → ∀ i x, (i, x) ∈ l → bef ms i j = true ∨ confl x y = false
  | [], _, i, x, h => by simp at h
  | (i', x') :: l, h, i, x, hm => by
    rw [heapRow, Bool.and_eq_true, Bool.or_eq_true] at h
    rcases List.mem_cons.1 hm with e | hm
    · obtain ⟨rfl, rfl⟩ := Prod.mk.inj e
      rcases h.1 with h1 | h1
      · exact .inl h1
      · exact .inr (by simpa using h1)
    · exact heapRow_spec h.2 i x hm

theorem confl_empty (y : List HWr × List Acc) : confl ([], []) y = false := by
  simp [confl, hits, wrAcc]

/-- The text's run of a region: its states and what its operations do. -/
structure Run (P : Program) (ops : Array Oper) (ms : List Nat) (l : List Oper) (i : Nat) (sts : Nat → St) (es : Nat → Eff) : Prop where
  op : ∀ k o, l[k]? = some o → OpE P ops (i + k) o (sts k) (es k) ∧ ((sts k).app o.dst (es k)).res (sts (k + 1))
  conf : ∀ p q, p < q → q < l.length → bef ms (i + p) (i + q) = true ∨ confl ((es p).wr, (es p).acc) ((es q).wr, (es q).acc) = false

theorem app_spec {st st' : St} {d : Option Tmp} {e : Eff} (h : (st.app d e).res st') : st'.hp = hpApp st.hp e.wr ∧ st'.nid = st.nid + e.cnt ∧ st'.nsl = st.nsl ∧ (∀ t, d = some t → t < st.nsl) ∧ ∀ t, st'.sl.get t = if d = some t then some e.val else st.sl.get t := by
  unfold St.app at h
  rw [upd_eq] at h
  cases d with
  | none => obtain rfl := h; exact ⟨rfl, rfl, rfl, (fun _ h => by cases h), fun t => rfl⟩
  | some u =>
    simp only [St.put] at h
    split at h
    · rename_i hu
      obtain rfl := h
      refine ⟨rfl, rfl, rfl, fun t ht => ?_, fun t => ?_⟩
      · obtain rfl := Option.some.inj ht
        exact Nat.le_of_ble_eq_true hu
      · simp only [Trie.get_put, Option.some.injEq]
        by_cases e : t = u
        · rw [if_pos e, if_pos e.symm]
        · rw [if_neg e, if_neg (Ne.symm e)]
    · exact h.elim

theorem drawOps_run {E : EnvX} (hE : EnvOk P E) {ih : Code → St → Tree (LX × St)} (hF : FnOk P E ih) {ops : Array Oper} {ms : List Nat} : ∀ (l : List Oper) (i : Nat) (seen : List (Nat × (List HWr × List Acc))) (st st' : St),
    (∀ k o, l[k]? = some o → ops[i + k]? = some o) → (∀ id b, st.hp.get id = some b → id < st.nid) → (drawOps E ih ops.toList ms i l seen st).res st' →
    ∃ sts es, sts 0 = st ∧ sts l.length = st' ∧ Run P ops ms l i sts es ∧ ∀ k, k < l.length → ∀ j x, (j, x) ∈ seen → bef ms j (i + k) = true ∨ confl x ((es k).wr, (es k).acc) = false
  | [], i, seen, st, st', _, _, h => by
    obtain rfl := h
    exact ⟨fun _ => st, fun _ => ⟨noVal, [], [], 0⟩, rfl, rfl, ⟨fun k o h => by simp at h, fun p q _ h => by simp at h⟩, fun k hk => by simp at hk⟩
  | o :: l, i, seen, st, st', hl, hlow, h => by
    rw [drawOps] at h
    obtain ⟨e, h, hop⟩ := opEff_sound hE hF (by simpa using hl 0 o rfl) hlow h
    split at h
    · rename_i hrow
      rw [Bool.and_eq_true] at hrow
      obtain ⟨hrow, hlo⟩ := hrow
      obtain ⟨s1, h1, h⟩ := Tree.res_bind h
      obtain ⟨a1, a2, a3, a4, a5⟩ := app_spec h1
      have hlow1 : ∀ id b, s1.hp.get id = some b → id < s1.nid := by
        rw [a1, a2]
        refine low_app _ _ _ (fun id b hb => Nat.lt_of_lt_of_le (hlow id b hb) (Nat.le_add_right ..)) fun u hu b _ => ?_
        exact Nat.le_of_ble_eq_true ((List.all_eq_true.1 hlo) u hu)
      generalize hseen : seenAdd i e seen = seen' at h
      have hmem : ∀ j x, (j, x) ∈ seen → (j, x) ∈ seen' := fun j x hx => by
        rw [← hseen]
        unfold seenAdd
        split
        · exact hx
        · exact List.mem_cons_of_mem _ hx
      have hmem2 : (i, (e.wr, e.acc)) ∈ seen' ∨ (e.wr, e.acc) = ([], []) := by
        rw [← hseen]
        unfold seenAdd
        split
        · rename_i e1 e2; right; rw [e1, e2]
        · left; exact List.mem_cons_self ..
      obtain ⟨sts, es, e0, en, hrun, hs⟩ := drawOps_run hE hF l (i + 1) seen' s1 st' (fun k o' hk => by
        have := hl (k + 1) o' (by simpa using hk)
        rwa [show i + 1 + k = i + (k + 1) by omega]) hlow1 h
      refine ⟨fun k => match k with | 0 => st | k + 1 => sts k, fun k => match k with | 0 => e | k + 1 => es k, rfl, en, ⟨fun k o' hk => ?_, fun p q hpq hq => ?_⟩, fun k hk j x hx => ?_⟩
      · cases k with
        | zero =>
          obtain rfl := Option.some.inj hk
          exact ⟨hop, by simpa only [e0] using h1⟩
        | succ k =>
          obtain ⟨g1, g2⟩ := hrun.op k o' (by simpa using hk)
          exact ⟨by rw [show i + (k + 1) = i + 1 + k by omega]; exact g1, g2⟩
      · cases q with
        | zero => omega
        | succ q =>
          simp only [List.length_cons] at hq
          cases p with
          | zero =>
            simp only
            rcases hmem2 with h2 | h2
            · have := hs q (by omega) i _ h2
              rwa [show i + 1 + q = i + (q + 1) by omega] at this
            · rw [h2]; exact .inr (confl_empty _)
          | succ p =>
            have := hrun.conf p q (by omega) (by omega)
            rwa [show i + 1 + p = i + (p + 1) by omega, show i + 1 + q = i + (q + 1) by omega] at this
      · cases k with
        | zero => exact heapRow_spec hrow j x hx
        | succ k =>
          have := hs k (by simpa using hk) j x (hmem j x hx)
          rwa [show i + 1 + k = i + (k + 1) by omega] at this
    · exact h.elim

theorem slotsRow_spec {ops : List Oper} {ms : List Nat} {j : Nat} {y : Oper} : ∀ {l : List Oper} {i : Nat}, slotsRow ops ms j y i l = true → ∀ k x, l[k]? = some x → i + k < j → bef ms (i + k) j = true ∨ slotApart ops x y = true
  | [], _, _, k, x, h, _ => by simp at h
  | x' :: l, i, h, k, x, hk, hlt => by
    rw [slotsRow, Bool.and_eq_true] at h
    cases k with
    | zero =>
      obtain rfl := Option.some.inj hk
      have h1 := h.1
      have : Nat.blt i j = true := Nat.ble_eq_true_of_le (show i + 1 ≤ j by omega)
      rw [this] at h1
      simpa [Bool.or_eq_true] using h1
    | succ k =>
      have := slotsRow_spec h.2 k x (by simpa using hk) (by omega)
      rwa [show i + 1 + k = i + (k + 1) by omega] at this

theorem slotsAll_spec {ops : List Oper} {ms : List Nat} : ∀ {l : List Oper} {j : Nat}, slotsAll ops ms j l = true → ∀ k y, l[k]? = some y → slotsRow ops ms (j + k) y 0 ops = true
  | [], _, _, k, y, h => by simp at h
  | y' :: l, j, h, k, y, hk => by
    rw [slotsAll, Bool.and_eq_true] at h
    cases k with
    | zero => obtain rfl := Option.some.inj hk; exact h.1
    | succ k =>
      have := slotsAll_spec h.2 k y (by simpa using hk)
      rwa [show j + 1 + k = j + (k + 1) by omega] at this

theorem hasS_spec {d : Option Nat} {l : List Nat} (h : hasS d l = false) : ∀ t, d = some t → t ∉ l := fun t ht hm => by
  subst ht
  simp only [hasS, List.any_eq_false] at h
  exact h t hm (Nat.beq_refl t)

theorem slotApart_spec {ops : List Oper} {x y : Oper} (h : slotApart ops x y = true) : (∀ t, x.dst = some t → t ∉ slotsOf ops y) ∧ (∀ t, y.dst = some t → t ∉ slotsOf ops x) ∧ (∀ t, x.dst = some t → y.dst ≠ some t) := by
  simp only [slotApart, Bool.and_eq_true, Bool.not_eq_true'] at h
  refine ⟨hasS_spec h.1.1, hasS_spec h.1.2, fun t ht e => ?_⟩
  have := hasS_spec h.2 t ht
  rw [e] at this
  simp at this

/- The three maps. -/

def dstAt (ops : Array Oper) (k : Nat) : Option Tmp := (ops[k]?).bind (·.dst)
def wS (ops : Array Oper) (es : Nat → Eff) (k : Nat) (t : Tmp) : Option (Option LVal) := if dstAt ops k = some t then some (some (es k).val) else none
def wM (es : Nat → Eff) (k : Nat) (id : Nat) : Option (Option Mt) := (lastBlk (es k).wr id).map fun b => b.map Blk.mt
def wC (es : Nat → Eff) (k : Nat) (id : Nat) : Option (Nat → Option LVal) := (lastBlk (es k).wr id).map contO

theorem lastBlk_some {l : List HWr} {id : Nat} (h : lastBlk l id ≠ none) : ∃ u ∈ l, u.id = id := by
  rcases Classical.em (∃ u ∈ l, u.id = id) with e | e
  · exact e
  · exact absurd ((lastBlk_none l id).2 fun u hu he => e ⟨u, hu, he⟩) h

theorem hits_of {wr : List HWr} {acc : List Acc} {id : Nat} (h : ∃ u ∈ wr, u.id = id) (h2 : id ∈ acc) : hits wr acc = true := by
  obtain ⟨u, h1, rfl⟩ := h
  exact List.any_eq_true.2 ⟨u, h1, List.any_eq_true.2 ⟨u.id, h2, Nat.beq_refl _⟩⟩

theorem wrAcc_mem {wr : List HWr} {id : Nat} (h : ∃ u ∈ wr, u.id = id) : id ∈ wrAcc wr := by
  obtain ⟨u, h1, rfl⟩ := h
  exact List.mem_map.2 ⟨u, h1, rfl⟩

section
variable {ops : Array Oper} {sts : Nat → St} {es : Nat → Eff}

theorem order_heap {α : Type} {w : Nat → Nat → Option α} (hw : ∀ k id, w k id ≠ none → ∃ u ∈ (es k).wr, u.id = id) (hrun : Run P ops (masks ops.toList []) ops.toList 0 sts es) :
    Order (bef (masks ops.toList [])) w (fun k id => id ∈ (es k).acc) ops.toList.length := by
  have key : ∀ p q, p < q → q < ops.toList.length → confl ((es p).wr, (es p).acc) ((es q).wr, (es q).acc) = true → bef (masks ops.toList []) p q = true := fun p q h1 h2 h3 => by
    have := hrun.conf p q h1 h2
    simp only [Nat.zero_add] at this
    rcases this with h4 | h4
    · exact h4
    · rw [h4] at h3; cases h3
  refine ⟨fun p q id h1 h2 h3 h4 => key p q h1 h2 ?_, fun p q id h1 h2 h3 h4 => key p q h1 h2 ?_⟩
  · simp only [confl, Bool.or_eq_true]
    left
    refine hits_of (hw p id h3) (List.mem_append.2 ?_)
    rcases h4 with h4 | h4
    · exact .inr h4
    · exact .inl (wrAcc_mem (hw q id h4))
  · simp only [confl, Bool.or_eq_true]
    right
    exact hits_of (hw q id h4) (List.mem_append.2 (.inr h3))

theorem order_slots (hok : slotsAll ops.toList (masks ops.toList []) 0 ops.toList = true) :
    Order (bef (masks ops.toList [])) (wS ops es) (fun k t => ∃ o, ops[k]? = some o ∧ t ∈ slotsOf ops.toList o) ops.toList.length := by
  have key : ∀ p q x y, p < q → ops[p]? = some x → ops[q]? = some y → bef (masks ops.toList []) p q = true ∨ slotApart ops.toList x y = true := fun p q x y h1 h2 h3 => by
    have := slotsRow_spec (slotsAll_spec hok q y (by simpa using h3)) p x (by simpa using h2) (by omega)
    simpa using this
  have hdst : ∀ k t, wS ops es k t ≠ none → ∃ o, ops[k]? = some o ∧ o.dst = some t := fun k t h => by
    unfold wS dstAt at h
    split at h
    · rename_i hd
      cases ho : ops[k]? with
      | none => rw [ho] at hd; cases hd
      | some o => rw [ho] at hd; exact ⟨o, rfl, hd⟩
    · exact (h rfl).elim
  refine ⟨fun p q t h1 h2 h3 h4 => ?_, fun p q t h1 h2 h3 h4 => ?_⟩
  · obtain ⟨x, hx, hxd⟩ := hdst p t h3
    rcases h4 with ⟨y, hy, hm⟩ | h4
    · rcases key p q x y h1 hx hy with h5 | h5
      · exact h5
      · exact ((slotApart_spec h5).1 t hxd hm).elim
    · obtain ⟨y, hy, hyd⟩ := hdst q t h4
      rcases key p q x y h1 hx hy with h5 | h5
      · exact h5
      · exact ((slotApart_spec h5).2.2 t hxd hyd).elim
  · obtain ⟨x, hx, hm⟩ := h3
    obtain ⟨y, hy, hyd⟩ := hdst q t h4
    rcases key p q x y h1 hx hy with h5 | h5
    · exact h5
    · exact ((slotApart_spec h5).2.1 t hyd hm).elim

theorem text_slots (hrun : Run P ops (masks ops.toList []) ops.toList 0 sts es) (t : Tmp) : ∀ k, k ≤ ops.toList.length → (sts k).sl.get t = sg (wS ops es) (sts 0).sl.get (fun _ => true) k t
  | 0, _ => rfl
  | k + 1, h => by
    obtain ⟨o, ho⟩ : ∃ o, ops.toList[k]? = some o := ⟨ops.toList[k]'(by omega), List.getElem?_eq_getElem (by omega)⟩
    obtain ⟨_, _, _, _, h5⟩ := app_spec (hrun.op k o ho).2
    rw [h5, text_slots hrun t k (by omega)]
    have ho' : ops[k]? = some o := by simpa using ho
    simp only [sg, wS, dstAt, ho', Option.bind_some]
    by_cases e : o.dst = some t
    · rw [if_pos e, if_pos e]
    · rw [if_neg e, if_neg e]

theorem text_mt (hrun : Run P ops (masks ops.toList []) ops.toList 0 sts es) (id : Nat) : ∀ k, k ≤ ops.toList.length → mtOf (sts k).hp id = sg (wM es) (mtOf (sts 0).hp) (fun _ => true) k id
  | 0, _ => rfl
  | k + 1, h => by
    obtain ⟨o, ho⟩ : ∃ o, ops.toList[k]? = some o := ⟨ops.toList[k]'(by omega), List.getElem?_eq_getElem (by omega)⟩
    obtain ⟨h1, _⟩ := app_spec (hrun.op k o ho).2
    rw [h1, mtOf_app, mtU_last, text_mt hrun id k (by omega)]
    simp only [sg, wM]
    cases lastBlk (es k).wr id <;> rfl

theorem text_ct (hrun : Run P ops (masks ops.toList []) ops.toList 0 sts es) (id : Nat) : ∀ k, k ≤ ops.toList.length → ctOf (sts k).hp id = sg (wC es) (ctOf (sts 0).hp) (fun _ => true) k id
  | 0, _ => rfl
  | k + 1, h => by
    obtain ⟨o, ho⟩ : ∃ o, ops.toList[k]? = some o := ⟨ops.toList[k]'(by omega), List.getElem?_eq_getElem (by omega)⟩
    obtain ⟨h1, _⟩ := app_spec (hrun.op k o ho).2
    rw [h1, ctOf_app, ctU_last, text_ct hrun id k (by omega)]
    simp only [sg, wC]
    cases lastBlk (es k).wr id <;> rfl

theorem text_nid (hrun : Run P ops (masks ops.toList []) ops.toList 0 sts es) : ∀ k, k < ops.toList.length → (sts (k + 1)).nid = (sts k).nid + (es k).cnt := fun k h => by
  obtain ⟨o, ho⟩ : ∃ o, ops.toList[k]? = some o := ⟨ops.toList[k]'h, List.getElem?_eq_getElem h⟩
  exact (app_spec (hrun.op k o ho).2).2.1

theorem text_nid_mono (hrun : Run P ops (masks ops.toList []) ops.toList 0 sts es) (p : Nat) : ∀ q, p ≤ q → q ≤ ops.toList.length → (sts p).nid ≤ (sts q).nid
  | 0, h, _ => by
    have : p = 0 := by omega
    rw [this]
    exact Nat.le_refl _
  | q + 1, h, h2 => by
    rcases Nat.lt_or_ge q p with h3 | h3
    · obtain rfl : p = q + 1 := by omega
      exact Nat.le_refl _
    · have := text_nid_mono hrun p q h3 (by omega)
      have := text_nid hrun q (by omega)
      omega

theorem text_nsl (hrun : Run P ops (masks ops.toList []) ops.toList 0 sts es) : ∀ k, k ≤ ops.toList.length → (sts k).nsl = (sts 0).nsl
  | 0, _ => rfl
  | k + 1, h => by
    obtain ⟨o, ho⟩ : ∃ o, ops.toList[k]? = some o := ⟨ops.toList[k]'(by omega), List.getElem?_eq_getElem (by omega)⟩
    rw [(app_spec (hrun.op k o ho).2).2.2.1, text_nsl hrun k (by omega)]

end

end
end Go.LE

/- The local evaluator, part Y: regions that draw their order are as the text's order says; code is as the evaluator says. -/
namespace Go.LE
open Go.RowKit

section
variable {P : Program}

def cntS (S : Nat → Bool) : Nat → Nat
  | 0 => 0
  | k + 1 => cntS S k + (if S k then 0 else 1)

theorem cntS_zero {S : Nat → Bool} : ∀ n, cntS S n = 0 → ∀ k, k < n → S k = true
  | 0, _, k, h => by omega
  | n + 1, h, k, hk => by
    simp only [cntS] at h
    rcases Nat.lt_or_ge k n with h1 | h1
    · exact cntS_zero n (by omega) k h1
    · obtain rfl : k = n := by omega
      cases hs : S k with
      | true => rfl
      | false => rw [hs] at h; simp at h

theorem cntS_set {S : Nat → Bool} {j : Nat} (hj : S j = false) : ∀ n, j < n → cntS (setB S j) n + 1 = cntS S n
  | 0, h => by omega
  | n + 1, h => by
    simp only [cntS]
    rcases Nat.lt_or_ge j n with h1 | h1
    · have := cntS_set hj n h1
      have e : setB S j n = S n := by unfold setB; rw [if_neg (by omega)]
      rw [e]
      omega
    · obtain rfl : j = n := by omega
      have e : setB S j j = true := by simp [setB]
      have e2 : ∀ m, m ≤ j → cntS (setB S j) m = cntS S m := by
        intro m
        induction m with
        | zero => intro _; rfl
        | succ m ih =>
          intro hm
          simp only [cntS]
          rw [ih (by omega)]
          have : setB S j m = S m := by unfold setB; rw [if_neg (by omega)]
          rw [this]
      rw [e, e2 j (Nat.le_refl _), hj]
      simp

/-- What holds of a frame and a world when some operations have been carried out. -/
structure Inv (ops : Array Oper) (sts : Nat → St) (es : Nat → Eff) (ρ0 : Ren) (w0 : World) (a0 : Act) (S : Nat → Bool) (a : Act) (w : World) (ρ : Ren) : Prop where
  slots : SlotsOk ρ (sg (wS ops es) (sts 0).sl.get S ops.toList.length) a
  size : (sts 0).nsl ≤ a.tmps.size
  heap : HRel ρ (sg (wM es) (mtOf (sts 0).hp) S ops.toList.length) (sg (wC es) (ctOf (sts 0).hp) S ops.toList.length) w
  ext : Ext ρ0 (mtOf (sts 0).hp) w0 ρ (sg (wM es) (mtOf (sts 0).hp) S ops.toList.length) w
  free : ∀ k, k < ops.toList.length → S k = false → ∀ id, (sts k).nid ≤ id → id < (sts k).nid + (es k).cnt → ρ id = none
  fresh : ∀ id, (sts ops.toList.length).nid ≤ id → ρ id = none
  dom : ∀ id y, ρ id = some y → ρ0 id = some y ∨ (sts 0).nid ≤ id
  defers : a.defers = a0.defers

theorem ready_nil {ops : Array Oper} (hsh : shapeOk ops.toList 0 ops.toList = true) {listed : Array Bool} (hsz : listed.size = ops.size) (h : Region.ready .any ops listed = []) : ∀ k, k < ops.size → listed.getD k false = true := by
  intro k
  induction k using Nat.strongRecOn with
  | _ k ih =>
    intro hk
    cases hl : listed.getD k false with
    | true => rfl
    | false =>
      exfalso
      have hm : k ∈ Region.ready .any ops listed := by
        rw [mem_ready]
        refine ⟨?_, ops[k]'hk, Array.getElem?_eq_getElem hk, fun e he hb => ?_⟩
        · have hk' : k < listed.size := by omega
          simp only [Array.getD_eq_getD_getElem?, Array.getElem?_eq_getElem hk', Option.getD_some] at hl ⊢
          exact hl
        · have hmem : e.on ∈ edges (ops[k]'hk) := List.mem_filterMap.2 ⟨e, by simpa using he, by rw [hb]⟩
          have hlt := shapeOk_spec ops.toList 0 hsh k (ops[k]'hk) (by simp [hk]) e.on hmem
          exact ih e.on (by omega) (by omega)
      rw [h] at hm
      cases hm

theorem set_getD {listed : Array Bool} {i : Nat} (hi : i < listed.size) : (fun k => (listed.setIfInBounds i true).getD k false) = setB (fun k => listed.getD k false) i := by
  funext k
  unfold setB
  by_cases e : k = i
  · subst e
    rw [if_pos rfl]
    simp [hi]
  · rw [if_neg e]
    simp [Array.getElem?_setIfInBounds, Ne.symm e]

theorem drawn_any {ops : Array Oper} {sts : Nat → St} {es : Nat → Eff} (hsh : shapeOk ops.toList 0 ops.toList = true) (hsl : slotsAll ops.toList (masks ops.toList []) 0 ops.toList = true)
    (hrun : Run P ops (masks ops.toList []) ops.toList 0 sts es) {ρ0 : Ren} {w0 : World} {a0 : Act} {Q : Exit → Act → World → Prop}
    (hQ : ∀ ρ' w' a', Goes ρ0 w0 (sts 0) a0 ρ' w' (sts ops.toList.length) a' → Q .normal a' w') :
    ∀ (fuel : Nat) (listed : Array Bool) (a : Act) (w : World) (ρ : Ren), listed.size = ops.size → cntS (fun k => listed.getD k false) ops.toList.length ≤ fuel →
      (∀ k o, ops.toList[k]? = some o → listed.getD k false = true → ∀ e ∈ edges o, listed.getD e false = true) →
      Inv ops sts es ρ0 w0 a0 (fun k => listed.getD k false) a w ρ → wpAny P .any ops Q fuel listed a w := by
  have hlen : ops.toList.length = ops.size := Array.length_toList
  -- the end
  have hend : ∀ (listed : Array Bool) (a : Act) (w : World) (ρ : Ren), (∀ k, k < ops.size → listed.getD k false = true) → Inv ops sts es ρ0 w0 a0 (fun k => listed.getD k false) a w ρ → Q .normal a w := by
    intro listed a w ρ hall hI
    have e1 : sg (wS ops es) (sts 0).sl.get (fun k => listed.getD k false) ops.toList.length = (sts ops.toList.length).sl.get := by
      funext t
      rw [text_slots hrun t _ (Nat.le_refl _)]
      exact sg_congr _ _ t _ fun k hk _ => hall k (by omega)
    have e2 : sg (wM es) (mtOf (sts 0).hp) (fun k => listed.getD k false) ops.toList.length = mtOf (sts ops.toList.length).hp := by
      funext id
      rw [text_mt hrun id _ (Nat.le_refl _)]
      exact sg_congr _ _ id _ fun k hk _ => hall k (by omega)
    have e3 : sg (wC es) (ctOf (sts 0).hp) (fun k => listed.getD k false) ops.toList.length = ctOf (sts ops.toList.length).hp := by
      funext id
      rw [text_ct hrun id _ (Nat.le_refl _)]
      exact sg_congr _ _ id _ fun k hk _ => hall k (by omega)
    have hh := hI.heap
    rw [e2, e3] at hh
    refine hQ ρ w a ⟨⟨?_, ?_, hh, fun id b hb => ?_, hI.fresh⟩, ?_, hI.defers, text_nid_mono hrun 0 _ (Nat.zero_le _) (Nat.le_refl _), hI.dom⟩
    · have := hI.slots; rwa [e1] at this
    · rw [text_nsl hrun _ (Nat.le_refl _)]; exact hI.size
    · have h1 : mtOf (sts ops.toList.length).hp id = some b.mt := by unfold mtOf; rw [hb]; rfl
      obtain ⟨ob, hob, _⟩ := hh.blk id _ h1
      rcases Nat.lt_or_ge id (sts ops.toList.length).nid with h2 | h2
      · exact h2
      · rw [hI.fresh id h2] at hob; cases hob
    · have := hI.ext; rwa [e2] at this
  -- one more operation
  have hstep : ∀ (listed : Array Bool) (a : Act) (w : World) (ρ : Ren), listed.size = ops.size → (∀ k o, ops.toList[k]? = some o → listed.getD k false = true → ∀ e ∈ edges o, listed.getD e false = true) →
      Inv ops sts es ρ0 w0 a0 (fun k => listed.getD k false) a w ρ → ∀ i ∈ Region.ready .any ops listed, ∀ K : Act → World → Prop,
      (∀ a' w' ρ', Inv ops sts es ρ0 w0 a0 (fun k => (listed.setIfInBounds i true).getD k false) a' w' ρ' → K a' w') → wpOp P ops Q i K a w := by
    intro listed a w ρ hsz hcl hI i hi K hK
    obtain ⟨h0, o, ho, hafter⟩ := mem_ready.1 hi
    have hilt : i < ops.size := (Array.getElem?_eq_some_iff.1 ho).1
    have hil : i < ops.toList.length := by omega
    have hoL : ops.toList[i]? = some o := by simpa using ho
    have hiS : listed.getD i false = false := by
      have hk' : i < listed.size := by omega
      simp only [Array.getD_eq_getD_getElem?, Array.getElem?_eq_getElem hk', Option.getD_some] at h0 ⊢
      exact h0
    have hedges : ∀ e ∈ edges o, listed.getD e false = true := fun e he => by
      obtain ⟨ed, h1, h2⟩ := List.mem_filterMap.1 he
      split at h2
      · rename_i hb
        obtain rfl := Option.some.inj h2
        exact hafter ed (by simpa using h1) hb
      · cases h2
    have hclosed : ∀ p q, q < ops.toList.length → listed.getD q false = true → bef (masks ops.toList []) p q = true → listed.getD p false = true := fun p q hq hS hb => by
      obtain ⟨oq, hoq⟩ : ∃ oq, ops.toList[q]? = some oq := ⟨ops.toList[q]'hq, List.getElem?_eq_getElem hq⟩
      exact bef_closed hsh (S := fun k => listed.getD k false) hcl q oq hoq (hcl q oq hoq hS) p hb
    have hpre : ∀ p, bef (masks ops.toList []) p i = true → listed.getD p false = true := fun p hb =>
      bef_closed hsh (S := fun k => listed.getD k false) hcl i o hoL hedges p hb
    have oS := order_slots (es := es) hsl
    have oM := order_heap (w := wM es) (fun k id h => lastBlk_some fun e => h (by simp [wM, e])) hrun
    have oC := order_heap (w := wC es) (fun k id h => lastBlk_some fun e => h (by simp [wC, e])) hrun
    obtain ⟨hop, happ⟩ := hrun.op i o hoL
    obtain ⟨a1, a2, a3, a4, a5⟩ := app_spec happ
    simp only [Nat.zero_add] at hop
    refine hop ρ _ _ w _ a K Q hI.heap hI.slots (fun t ht => ?_) (fun y hy _ => ⟨?_, fun c _ => ?_⟩) (fun k h1 h2 => hI.free i hil hiS k h1 h2) fun ρ' x w' hres => hK _ _ ρ' ?_
    · rw [text_slots hrun t i (by omega)]
      exact oS.read (sts 0).sl.get (S := fun k => listed.getD k false) hclosed hil hiS hpre ⟨o, ho, ht⟩
    · rw [text_mt hrun y i (by omega)]
      exact oM.read (mtOf (sts 0).hp) (S := fun k => listed.getD k false) hclosed hil hiS hpre hy
    · rw [text_ct hrun y i (by omega)]
      exact congrFun (oC.read (ctOf (sts 0).hp) (S := fun k => listed.getD k false) hclosed hil hiS hpre hy) c
    · rw [set_getD (by omega)]
      have eM : mtU (sg (wM es) (mtOf (sts 0).hp) (fun k => listed.getD k false) ops.toList.length) (es i).wr = sg (wM es) (mtOf (sts 0).hp) (setB (fun k => listed.getD k false) i) ops.toList.length := by
        funext id
        rw [mtU_last, oM.write (mtOf (sts 0).hp) (S := fun k => listed.getD k false) hclosed hil hiS id]
        unfold wM
        cases lastBlk (es i).wr id <;> rfl
      have eC : ctU (sg (wC es) (ctOf (sts 0).hp) (fun k => listed.getD k false) ops.toList.length) (es i).wr = sg (wC es) (ctOf (sts 0).hp) (setB (fun k => listed.getD k false) i) ops.toList.length := by
        funext id
        rw [ctU_last, oC.write (ctOf (sts 0).hp) (S := fun k => listed.getD k false) hclosed hil hiS id]
        unfold wC
        cases lastBlk (es i).wr id <;> rfl
      have hh := hres.heap
      have he := hres.ext
      rw [eM] at he
      rw [eM, eC] at hh
      refine ⟨fun t v hv => ?_, by rw [put_size]; exact hI.size, hh, hI.ext.trans he, fun k hk hS id h1 h2 => ?_, fun id hid => ?_, fun id y hy => ?_, by rw [put_defers]; exact hI.defers⟩
      · rw [oS.write (sts 0).sl.get (S := fun k => listed.getD k false) hclosed hil hiS t] at hv
        unfold wS dstAt at hv
        rw [ho] at hv
        simp only [Option.bind_some] at hv
        by_cases e : o.dst = some t
        · rw [if_pos e] at hv
          obtain rfl := Option.some.inj hv
          refine ⟨x, hres.val, ?_⟩
          have ht := a4 t e
          rw [text_nsl hrun i (by omega)] at ht
          rw [e, put_get a t x (Nat.lt_of_lt_of_le ht hI.size), if_pos rfl]
        · rw [if_neg e] at hv
          obtain ⟨y, h1, h2⟩ := hI.slots t v hv
          refine ⟨y, den_mono hres.ext.sub h1, ?_⟩
          cases hd : o.dst with
          | none => exact h2
          | some u =>
            have hne : t ≠ u := fun e' => e (by rw [hd, e'])
            have hu := a4 u hd
            rw [text_nsl hrun i (by omega)] at hu
            rw [put_get a u x (Nat.lt_of_lt_of_le hu hI.size), if_neg hne]
            exact h2
      · unfold setB at hS
        split at hS
        · cases hS
        · rename_i hne
          cases hid : ρ' id with
          | none => rfl
          | some y =>
            exfalso
            rcases hres.dom id y hid with h3 | h3
            · rw [hI.free k hk hS id h1 h2] at h3; cases h3
            · have n1 := text_nid hrun i hil
              have n2 := text_nid hrun k hk
              rcases Nat.lt_or_ge k i with h4 | h4
              · have := text_nid_mono hrun (k + 1) i (by omega) (by omega)
                omega
              · have := text_nid_mono hrun (i + 1) k (by omega) (by omega)
                omega
      · cases hid' : ρ' id with
        | none => rfl
        | some y =>
          exfalso
          rcases hres.dom id y hid' with h3 | h3
          · rw [hI.fresh id hid] at h3; cases h3
          · have n1 := text_nid hrun i hil
            have := text_nid_mono hrun (i + 1) ops.toList.length (by omega) (Nat.le_refl _)
            omega
      · rcases hres.dom id y hy with h3 | h3
        · exact hI.dom id y h3
        · exact .inr (Nat.le_trans (text_nid_mono hrun 0 i (Nat.zero_le _) (by omega)) h3.1)
  intro fuel
  induction fuel with
  | zero =>
    intro listed a w ρ hsz hc hcl hI
    have hall := cntS_zero (S := fun k => listed.getD k false) ops.toList.length (by omega)
    refine ⟨?_, hend listed a w ρ (fun k hk => hall k (by omega)) hI⟩
    cases hr : Region.ready .any ops listed with
    | nil => rfl
    | cons i l =>
      exfalso
      have hm : i ∈ Region.ready .any ops listed := by rw [hr]; exact List.mem_cons_self ..
      obtain ⟨h0, o, ho, _⟩ := mem_ready.1 hm
      have hilt : i < ops.size := (Array.getElem?_eq_some_iff.1 ho).1
      have h1 := hall i (by omega)
      have hk' : i < listed.size := by omega
      simp only [Array.getD_eq_getD_getElem?, Array.getElem?_eq_getElem hk', Option.getD_some] at h0 h1
      rw [h0] at h1
      cases h1
  | succ fuel ih =>
    intro listed a w ρ hsz hc hcl hI
    refine ⟨fun hr => hend listed a w ρ (ready_nil hsh hsz hr) hI, fun i hi => hstep listed a w ρ hsz hcl hI i hi _ fun a' w' ρ' hI' => ?_⟩
    obtain ⟨h0, o, ho, hafter⟩ := mem_ready.1 hi
    have hilt : i < ops.size := (Array.getElem?_eq_some_iff.1 ho).1
    have hiS : listed.getD i false = false := by
      have hk' : i < listed.size := by omega
      simp only [Array.getD_eq_getD_getElem?, Array.getElem?_eq_getElem hk', Option.getD_some] at h0 ⊢
      exact h0
    refine ih _ a' w' ρ' (by simpa using hsz) ?_ (fun k o' hk hS e he => ?_) hI'
    · rw [set_getD (by omega)]
      have := cntS_set (S := fun k => listed.getD k false) hiS ops.toList.length (by omega)
      omega
    · have hset := set_getD (listed := listed) (i := i) (by omega)
      have h1 : setB (fun k => listed.getD k false) i k = true := by rw [← hset]; exact hS
      have h2 : listed.getD e false = true := by
        unfold setB at h1
        split at h1
        · rename_i e'
          subst e'
          have ho' : ops[k]? = some o' := by simpa using hk
          rw [ho] at ho'
          obtain rfl := Option.some.inj ho'
          obtain ⟨ed, g1, g2⟩ := List.mem_filterMap.1 he
          split at g2
          · rename_i hb
            obtain rfl := Option.some.inj g2
            exact hafter ed (by simpa using g1) hb
          · cases g2
        · exact hcl k o' hk h1 e he
      exact getD_set_true h2

theorem drawn_sound {E : EnvX} (hE : EnvOk P E) {ih : Code → St → Tree (LX × St)} (hF : FnOk P E ih) {id : Nat} {ops : Array Oper} {st st' : St} (hok : slotsOk ops.toList = true)
    (h : (drawOps E ih ops.toList (masks ops.toList []) 0 ops.toList [] st).res st') : CodeRes P (.region id ops true) st (.nrm, st') := by
  intro ρ w a Q hst hQ
  obtain ⟨sts, es, e0, en, hrun, _⟩ := drawOps_run hE hF ops.toList 0 [] st st' (fun k o hk => by simpa using hk) hst.low h
  simp only [slotsOk, Bool.and_eq_true] at hok
  subst e0
  subst en
  refine wp_region_any hE.mixed (drawn_any hok.2 hok.1 hrun (ρ0 := ρ) (w0 := w) (a0 := a) hQ ops.size _ a _ ρ (by simp) ?_ (fun k o hk hS => ?_) ?_)
  · have hS : (fun k => (Array.replicate ops.size false).getD k false) = fun _ => false := by
      funext k
      simp only [Array.getD_eq_getD_getElem?, Array.getElem?_replicate]
      split <;> rfl
    rw [hS]
    have : ∀ n, cntS (fun _ => false) n = n := by
      intro n
      induction n with
      | zero => rfl
      | succ n ih => simp [cntS, ih]
    rw [this]
    simp
  · have : (Array.replicate ops.size false).getD k false = false := by
      simp only [Array.getD_eq_getD_getElem?, Array.getElem?_replicate]
      split <;> rfl
    rw [this] at hS
    cases hS
  · have hS : (fun k => (Array.replicate ops.size false).getD k false) = fun _ => false := by
      funext k
      simp only [Array.getD_eq_getD_getElem?, Array.getElem?_replicate]
      split <;> rfl
    rw [hS]
    have z1 : ∀ {κ α : Type} (w : Nat → κ → Option α) (s0 : κ → α) n, sg w s0 (fun _ => false) n = s0 := by
      intro κ α w s0 n
      induction n with
      | zero => rfl
      | succ n ih => funext key; simp only [sg]; rw [ih]
    refine ⟨by rw [z1]; exact hst.slots, hst.size, by rw [z1, z1]; exact hst.heap.drawn rfl, by rw [z1]; exact Ext.drawn, fun k _ _ id h1 _ => hst.fresh id (Nat.le_trans (text_nid_mono hrun 0 k (Nat.zero_le _) (by omega)) h1),
      fun id h1 => hst.fresh id (Nat.le_trans (text_nid_mono hrun 0 _ (Nat.zero_le _) (Nat.le_refl _)) h1), fun _ _ h => .inl h, rfl⟩

theorem region_ok {E : EnvX} (hE : EnvOk P E) (ih : Code → St → Tree (LX × St)) (hC : CodeOk P ih) : RegionOk P E ih := by
  intro id ops d st st' h
  have hF := fnOk_of hE hC
  cases d with
  | false => exact undrawn_sound hE hF h
  | true =>
    simp only [region] at h
    split at h
    · rename_i hok
      exact drawn_sound hE hF hok h
    · exact h.elim

/-- CODE DOES WHAT THE EVALUATOR SAYS. -/
theorem code_ok {E : EnvX} (hE : EnvOk P E) (hL : LpsOk P E) (n : Nat) : CodeOk P (leval E n) := (leval_sound hL (region_ok hE) n).1

/-- A FUNCTION DOES WHAT THE EVALUATOR SAYS. -/
theorem fn_ok {E : EnvX} (hE : EnvOk P E) (hL : LpsOk P E) (n : Nat) : FnOk P E (leval E n) := fnOk_of hE (code_ok hE hL n)

end
end Go.LE

/- The local evaluator, part Z: the table of types is checked; functions without parameters. -/
namespace Go.LE
open Go.RowKit

def sameCell (v : LVal) (x : Value) : Bool :=
  match v, x with
  | .int k (.lit n), .int k' m => decide (k = k') && decide (n = m)
  | .bool _ b, .bool c => b == c
  | .nilp, .pointer none => true
  | .nils, .slice none l c => Nat.beq l 0 && Nat.beq c 0
  | .raw .nilFunc, .nilFunc => true
  | .raw .nilIface, .nilIface => true
  | .raw (.string s), .string t => Nat.beq s.data.size 0 && Nat.beq t.data.size 0
  | _, _ => false

theorem bytes_nil {s : ByteArray} (h : s.data.size = 0) : s = ⟨#[]⟩ := by
  obtain ⟨d⟩ := s
  have : d = #[] := Array.eq_empty_of_size_eq_zero h
  rw [this]

theorem sameCell_ok {v : LVal} {x : Value} (h : sameCell v x = true) : (∀ ρ, den ρ v = some x) ∧ x.oneCell' = true := by
  unfold sameCell at h
  split at h
  · rw [Bool.and_eq_true] at h
    obtain rfl := of_decide_eq_true h.1
    obtain rfl := of_decide_eq_true h.2
    exact ⟨fun _ => rfl, rfl⟩
  · obtain rfl := eq_of_beq h
    exact ⟨fun _ => rfl, rfl⟩
  · exact ⟨fun _ => rfl, rfl⟩
  · rw [Bool.and_eq_true] at h
    obtain rfl := Nat.eq_of_beq_eq_true h.1
    obtain rfl := Nat.eq_of_beq_eq_true h.2
    exact ⟨fun _ => rfl, rfl⟩
  · exact ⟨fun _ => rfl, rfl⟩
  · exact ⟨fun _ => rfl, rfl⟩
  · rename_i s t
    rw [Bool.and_eq_true] at h
    have h1 := bytes_nil (Nat.eq_of_beq_eq_true h.1)
    have h2 := bytes_nil (Nat.eq_of_beq_eq_true h.2)
    subst h1
    subst h2
    exact ⟨fun _ => rfl, rfl⟩
  · cases h

def sameCells : List LVal → List Value → Bool
  | [], [] => true
  | v :: l, x :: r => sameCell v x && sameCells l r
  | _, _ => false

theorem sameCells_ok : ∀ {l : List LVal} {r : List Value}, sameCells l r = true → (∀ ρ, denL ρ l = some r) ∧ ∀ x ∈ r, x.oneCell' = true
  | [], [], _ => ⟨fun _ => rfl, by simp⟩
  | [], x :: r, h => by cases h
  | v :: l, [], h => by cases h
  | v :: l, x :: r, h => by
    simp only [sameCells, Bool.and_eq_true] at h
    obtain ⟨h1, h2⟩ := sameCell_ok h.1
    obtain ⟨h3, h4⟩ := sameCells_ok h.2
    refine ⟨fun ρ => by simp [denL, h1 ρ, h3 ρ], fun y hy => ?_⟩
    rcases List.mem_cons.1 hy with rfl | hy
    · exact h2
    · exact h4 y hy

def samePairs : List (Nat × Nat) → List (Nat × Nat) → Bool
  | [], [] => true
  | (a, b) :: l, (c, d) :: r => Nat.beq a c && Nat.beq b d && samePairs l r
  | _, _ => false

theorem samePairs_ok : ∀ {l r : List (Nat × Nat)}, samePairs l r = true → l = r
  | [], [], _ => rfl
  | [], _ :: _, h => by cases h
  | _ :: _, [], h => by cases h
  | (a, b) :: l, (c, d) :: r, h => by
    simp only [samePairs, Bool.and_eq_true] at h
    rw [Nat.eq_of_beq_eq_true h.1.1, Nat.eq_of_beq_eq_true h.1.2, samePairs_ok h.2]

def shapeChk (P : Program) (d : TypeDesc) (i : TD) : Bool :=
  match i, d with
  | .int k, .int k' => decide (k = k')
  | .bool, .bool => true
  | .str, .string => true
  | .ptr e, .pointer e' => Nat.beq e e'
  | .slice e, .slice e' => Nat.beq e e'
  | .arr n e, .array n' e' => Nat.beq n n' && Nat.beq e e'
  | .struct fs, .struct fields => samePairs (fields.toList.map fun f => (f.offset, f.type)) fs && fields.toList.all fun f => (P.info? f.type).isSome
  | .func, .func _ _ _ => true
  | _, _ => false

theorem shapeChk_ok {P : Program} {t : TypeId} {d : TypeDesc} {i : TD} (hd : P.underlying t = some d) (h : shapeChk P d i = true) : shapeP P t i := by
  unfold shapeChk at h
  split at h
  · obtain rfl := of_decide_eq_true h; exact hd
  · exact hd
  · exact hd
  · obtain rfl := Nat.eq_of_beq_eq_true h; exact hd
  · obtain rfl := Nat.eq_of_beq_eq_true h; exact hd
  · rw [Bool.and_eq_true] at h
    obtain rfl := Nat.eq_of_beq_eq_true h.1
    obtain rfl := Nat.eq_of_beq_eq_true h.2
    exact hd
  · rename_i fs fields
    rw [Bool.and_eq_true, List.all_eq_true] at h
    exact ⟨fields, hd, samePairs_ok h.1, fun f hf => Option.isSome_iff_exists.1 (h.2 f hf)⟩
  · exact ⟨_, _, _, hd⟩
  · cases h

def rowChk (P : Program) (t : TypeId) (i : TI) : Bool :=
  match P.info? t, P.underlying t with
  | some inf, some d => Nat.beq inf.size i.size && Nat.beq inf.bytes i.bytes && shapeChk P d i.d && (match inf.zero with
    | some z => sameCells i.zero z.cells.toList && Nat.beq z.cells.toList.length i.size
    | none => false)
  | _, _ => false

theorem rowChk_ok {P : Program} {t : TypeId} {i : TI} (h : rowChk P t i = true) : RowOk P t i := by
  unfold rowChk at h
  split at h
  · rename_i inf d hi hd
    simp only [Bool.and_eq_true] at h
    obtain ⟨⟨⟨h1, h2⟩, h3⟩, h4⟩ := h
    split at h4
    · rename_i z hz
      rw [Bool.and_eq_true] at h4
      obtain ⟨g1, g2⟩ := sameCells_ok h4.1
      exact ⟨⟨inf, hi, Nat.eq_of_beq_eq_true h1, Nat.eq_of_beq_eq_true h2, z, _, hz, g1, rfl, Nat.eq_of_beq_eq_true h4.2, g2⟩, shapeChk_ok hd h3⟩
    · cases h4
  · cases h

theorem tab_ok {P : Program} {E : Env} {l : List (Nat × TI)} (hE : E.tt = Trie.ofList l) (h : (l.all fun p => rowChk P p.1 p.2) = true) : TabOk P E :=
  ⟨fun t i hi => by
    rw [hE] at hi
    exact rowChk_ok ((List.all_eq_true.1 h) _ (Trie.mem_ofList hi))⟩

/-- A function that the table has, with a body. -/
theorem enters_of {P : Program} {f : FuncId} {fn : Func} (h : P.funcs[f]? = some fn) (hn : (fn.name == "runtime.NumGoroutine") = false) (hb : fn.body.isNone = false) : Enters P f := fun args w => by
  have hn' : fn.name ≠ "runtime.NumGoroutine" := fun e => by rw [e] at hn; simp at hn
  have hb' : fn.body ≠ none := fun e => by rw [e] at hb; simp at hb
  simp [callFunc, h, hn', hb']

/-- The functions, the contracts and what is outside, as lists. -/
def mkEnv (tab : List (Nat × TI)) (fns : List (Nat × (Func × Bool))) (orc : List (Nat × Orc)) (ext : List (Nat × (List LVal → Tree LVal))) (lps : List (Nat × Code × (St → Tree (LX × St)))) : EnvX :=
  { tt := .ofList tab, fns := .ofList fns, orc := .ofList orc, lps := lps, ext := .ofList ext }

theorem mkEnv_ok {P : Program} {tab : List (Nat × TI)} {fns : List (Nat × (Func × Bool))} {orc : List (Nat × Orc)} {ext : List (Nat × (List LVal → Tree LVal))} {lps : List (Nat × Code × (St → Tree (LX × St)))}
    (ht : (tab.all fun p => rowChk P p.1 p.2) = true) (hf : ∀ p ∈ fns, Enters P p.1 ∧ P.funcs[p.1]? = some p.2.1) (ho : ∀ p ∈ orc, Enters P p.1 ∧ OrcOk P p.1 p.2) (he : ∀ p ∈ ext, ExtOk P p.1 p.2) (hm : P.follows .mixedOrders = true) :
    EnvOk P (mkEnv tab fns orc ext lps) where
  tab := tab_ok rfl ht
  orc := fun f q h => ho (f, q) (Trie.mem_ofList h)
  ext := fun f q h => he (f, q) (Trie.mem_ofList h)
  fns := fun f fn h => hf (f, fn) (Trie.mem_ofList h)
  mixed := hm
  lps := fun _ _ _ _ => trivial

theorem noLps {P : Program} {tab : List (Nat × TI)} {fns : List (Nat × (Func × Bool))} {orc : List (Nat × Orc)} {ext : List (Nat × (List LVal → Tree LVal))} : LpsOk P (mkEnv tab fns orc ext []) := fun k c f h => by
  simp [mkEnv, findLp] at h

/- bits.Add64. -/

def sum3 (f : Int → Int) (x y c : LN) : LN :=
  match x, y, c with
  | .lit a, .lit b, .lit d => .lit (f (a + b + d))
  | x, y, c => x.on fun x => y.on fun y => c.on fun c => .sym (f (x + y + c))

theorem sum3_v (f : Int → Int) (x y c : LN) : (sum3 f x y c).v = f (x.v + y.v + c.v) := by
  cases x <;> cases y <;> cases c <;> rfl

def add64E (args : List LVal) : Tree LVal :=
  match args with
  | [.int .u64 x, .int .u64 y, .int .u64 c] => nonneg x (nonneg y (nonneg c (leN c.toNN (.lit 1) (.done (.tup [.int .u64 (sum3 (· % 18446744073709551616) x y c), .int .u64 (sum3 (· / 18446744073709551616) x y c)])))))
  | _ => .fail 170

theorem add64_ext {P : Program} {f : FuncId} (hcall : ∀ args w, (callFunc f args).run P w = ((add64Entry args).run P w).andThen fun v w' => .ok (.value v) w') : ExtOk P f add64E := by
  intro ρ args vs v w hd h
  unfold add64E at h
  split at h
  · rename_i x y c
    obtain ⟨hx, h⟩ := res_nonneg h
    obtain ⟨hy, h⟩ := res_nonneg h
    obtain ⟨hc0, h⟩ := res_nonneg h
    obtain ⟨hc, h⟩ := res_leN h
    obtain rfl := h
    simp only [denL, den, Option.some.injEq] at hd
    subst hd
    simp only [LN.toNN_v, NN.lit_v] at hc
    refine ⟨.tuple #[.int .u64 (sum3 (· % 18446744073709551616) x y c).v, .int .u64 (sum3 (· / 18446744073709551616) x y c).v], by simp [den, denL], ?_⟩
    rw [hcall, run_add64 x.v y.v c.v hx hy hc0 (by omega), sum3_v, sum3_v]
    rfl
  · exact h.elim

/-- What a tree comes to where all its questions are answered. -/
def Tree.yes {α : Type} (f : α → Bool) : Tree α → Bool
  | .fail _ => false
  | .done a => f a
  | .ite c t e => match c with
    | true => t.yes f
    | false => e.yes f
  | .need _ _ => false

theorem Tree.yes_sat {α : Type} {f : α → Bool} : ∀ {t : Tree α}, t.yes f = true → ∃ a, t.res a ∧ f a = true
  | .fail _, h => by cases h
  | .done a, h => ⟨a, rfl, h⟩
  | .ite true t e, h => by
    obtain ⟨a, h1, h2⟩ := Tree.yes_sat (t := t) h
    exact ⟨a, ⟨fun _ => h1, fun h => by cases h⟩, h2⟩
  | .ite false t e, h => by
    obtain ⟨a, h1, h2⟩ := Tree.yes_sat (t := e) h
    exact ⟨a, ⟨(fun h => by cases h), fun _ => h1⟩, h2⟩
  | .need _ _, h => by cases h

def isTrue (v : LVal) : Bool :=
  match v with
  | .bool _ true => true
  | _ => false

/-- The world has at most new blocks. -/
def Kept (W w' : World) : Prop := W.keptBut w' (fun _ => False) ∧ (∀ a : Addr, a.block < W.heap.size → w'.frozen? a = W.frozen? a) ∧ W.heap.size ≤ w'.heap.size

theorem Ext.kept {ρ ρ' : Ren} {mt mt' : MT} {w w' : World} (h : Ext ρ mt w ρ' mt' w') (hno : ∀ id m, mt id = some m → m.own = false) : Kept w w' := by
  have hb : ∀ b, b < w.heap.size → w'.heap[b]? = w.heap[b]? := fun b hb => h.block b hb fun id m _ h1 h2 => by rw [hno id m h1] at h2; cases h2
  refine ⟨⟨h.os, h.output, fun i hi => ?_⟩, fun a ha => by simp only [World.frozen?, hb a.block ha], h.size⟩
  rw [hb i hi]
  obtain ⟨o, ho⟩ : ∃ o, w.heap[i]? = some o := ⟨w.heap[i], Array.getElem?_eq_getElem hi⟩
  rw [ho]
  cases o <;> simp

theorem calls_true {P : Program} {E : EnvX} (hE : EnvOk P E) (hL : LpsOk P E) {f : FuncId} {fn : Func} (hf : P.funcs[f]? = some fn) (n : Nat)
    (h : (evalFn E (leval E n) fn [] ⟨.leaf, 0, .leaf, 0⟩).yes (fun r => isTrue r.1) = true) (w : World) : Calls P f #[] w fun e w' => e = .returned (.bool true) ∧ Kept w w' := by
  obtain ⟨r, hr, ht⟩ := Tree.yes_sat h
  have hr0 : HRel (fun _ => none) (mtOf .leaf) (ctOf .leaf) w :=
    ⟨fun id m h => by simp [mtOf, Trie.get_leaf] at h, fun id m b C h => by simp [mtOf, Trie.get_leaf] at h, fun id m b C i v h => by simp [mtOf, Trie.get_leaf] at h, fun id m b C h => by simp [mtOf, Trie.get_leaf] at h,
      fun id m b C i v h => by simp [mtOf, Trie.get_leaf] at h, fun i j mi mj b C b' C' _ h => by simp [mtOf, Trie.get_leaf] at h⟩
  refine Calls.mono (fn_ok hE hL n f fn [] [] ⟨.leaf, 0, .leaf, 0⟩ r (fun _ => none) w hf hr rfl hr0 (fun id b h => by simp [Trie.get_leaf] at h) (fun _ _ => rfl)) fun e w' hw => ?_
  cases e with
  | panicked _ => exact hw.elim
  | outgrown => exact hw.elim
  | returned x =>
    obtain ⟨ρ', h1, _, h2, _⟩ := hw
    have hx : x = .bool true := by
      obtain ⟨v, st⟩ := r
      unfold isTrue at ht
      split at ht
      · rename_i hv; simp only at hv; rw [hv] at h1; exact (Option.some.inj h1).symm
      · cases ht
    subst hx
    have hk := Ext.kept h2 fun id m h => by simp [mtOf, Trie.get_leaf] at h
    exact ⟨rfl, hk⟩

end Go.LE

/- The field's functions, handed to the evaluator. -/
namespace Go.LE
open Go.Proofs.Try

noncomputable def fdFns : List (Nat × (Func × Bool)) := [(25, (f25, false)), (26, (f26, false)), (27, (f27, false)), (28, (f28, false)), (29, (f29, false)), (30, (f30, false)), (71, (f71, false)), (72, (f72, false)), (73, (f73, false)), (74, (f74, false)), (75, (f75, false)), (76, (f76, false)), (77, (f77, false)), (78, (f78, false)), (79, (f79, false)), (80, (f80, false)), (81, (f81, false)), (82, (f82, false)), (83, (f83, false)), (113, (f113, false)), (114, (f114, false)), (115, (f115, false)), (116, (f116, false)), (117, (f117, false)), (122, (f122, false)), (140, (f140, false))]

theorem tab_all0 : (tabL.all fun p => rowChk prog p.1 p.2) = true := by kernel_rfl

theorem ent25 : Enters prog 25 ∧ prog.funcs[25]? = some f25 := ⟨enters_of func25 (by kernel_rfl) (by kernel_rfl), func25⟩
theorem ent26 : Enters prog 26 ∧ prog.funcs[26]? = some f26 := ⟨enters_of func26 (by kernel_rfl) (by kernel_rfl), func26⟩
theorem ent27 : Enters prog 27 ∧ prog.funcs[27]? = some f27 := ⟨enters_of func27 (by kernel_rfl) (by kernel_rfl), func27⟩
theorem ent28 : Enters prog 28 ∧ prog.funcs[28]? = some f28 := ⟨enters_of func28 (by kernel_rfl) (by kernel_rfl), func28⟩
theorem ent29 : Enters prog 29 ∧ prog.funcs[29]? = some f29 := ⟨enters_of func29 (by kernel_rfl) (by kernel_rfl), func29⟩
theorem ent30 : Enters prog 30 ∧ prog.funcs[30]? = some f30 := ⟨enters_of func30 (by kernel_rfl) (by kernel_rfl), func30⟩
theorem ent71 : Enters prog 71 ∧ prog.funcs[71]? = some f71 := ⟨enters_of func71 (by kernel_rfl) (by kernel_rfl), func71⟩
theorem ent72 : Enters prog 72 ∧ prog.funcs[72]? = some f72 := ⟨enters_of func72 (by kernel_rfl) (by kernel_rfl), func72⟩
theorem ent73 : Enters prog 73 ∧ prog.funcs[73]? = some f73 := ⟨enters_of func73 (by kernel_rfl) (by kernel_rfl), func73⟩
theorem ent74 : Enters prog 74 ∧ prog.funcs[74]? = some f74 := ⟨enters_of func74 (by kernel_rfl) (by kernel_rfl), func74⟩
theorem ent75 : Enters prog 75 ∧ prog.funcs[75]? = some f75 := ⟨enters_of func75 (by kernel_rfl) (by kernel_rfl), func75⟩
theorem ent76 : Enters prog 76 ∧ prog.funcs[76]? = some f76 := ⟨enters_of func76 (by kernel_rfl) (by kernel_rfl), func76⟩
theorem ent77 : Enters prog 77 ∧ prog.funcs[77]? = some f77 := ⟨enters_of func77 (by kernel_rfl) (by kernel_rfl), func77⟩
theorem ent78 : Enters prog 78 ∧ prog.funcs[78]? = some f78 := ⟨enters_of func78 (by kernel_rfl) (by kernel_rfl), func78⟩
theorem ent79 : Enters prog 79 ∧ prog.funcs[79]? = some f79 := ⟨enters_of func79 (by kernel_rfl) (by kernel_rfl), func79⟩
theorem ent80 : Enters prog 80 ∧ prog.funcs[80]? = some f80 := ⟨enters_of func80 (by kernel_rfl) (by kernel_rfl), func80⟩
theorem ent81 : Enters prog 81 ∧ prog.funcs[81]? = some f81 := ⟨enters_of func81 (by kernel_rfl) (by kernel_rfl), func81⟩
theorem ent82 : Enters prog 82 ∧ prog.funcs[82]? = some f82 := ⟨enters_of func82 (by kernel_rfl) (by kernel_rfl), func82⟩
theorem ent83 : Enters prog 83 ∧ prog.funcs[83]? = some f83 := ⟨enters_of func83 (by kernel_rfl) (by kernel_rfl), func83⟩
theorem ent113 : Enters prog 113 ∧ prog.funcs[113]? = some f113 := ⟨enters_of func113 (by kernel_rfl) (by kernel_rfl), func113⟩
theorem ent114 : Enters prog 114 ∧ prog.funcs[114]? = some f114 := ⟨enters_of func114 (by kernel_rfl) (by kernel_rfl), func114⟩
theorem ent115 : Enters prog 115 ∧ prog.funcs[115]? = some f115 := ⟨enters_of func115 (by kernel_rfl) (by kernel_rfl), func115⟩
theorem ent116 : Enters prog 116 ∧ prog.funcs[116]? = some f116 := ⟨enters_of func116 (by kernel_rfl) (by kernel_rfl), func116⟩
theorem ent117 : Enters prog 117 ∧ prog.funcs[117]? = some f117 := ⟨enters_of func117 (by kernel_rfl) (by kernel_rfl), func117⟩
theorem ent122 : Enters prog 122 ∧ prog.funcs[122]? = some f122 := ⟨enters_of func122 (by kernel_rfl) (by kernel_rfl), func122⟩
theorem ent140 : Enters prog 140 ∧ prog.funcs[140]? = some f140 := ⟨enters_of func140 (by kernel_rfl) (by kernel_rfl), func140⟩

theorem fd_ok : ∀ p ∈ fdFns, Enters prog p.1 ∧ prog.funcs[p.1]? = some p.2.1 := by
  unfold fdFns
  simp only [List.forall_mem_cons]
  exact ⟨ent25, ent26, ent27, ent28, ent29, ent30, ent71, ent72, ent73, ent74, ent75, ent76, ent77, ent78, ent79, ent80, ent81, ent82, ent83, ent113, ent114, ent115, ent116, ent117, ent122, ent140, fun x h => by cases h⟩

theorem add64_ok0 : ExtOk prog 118 add64E := add64_ext fun args w => run_callFunc_extern func118 (by kernel_rfl) (by kernel_rfl) (by kernel_rfl) (e := add64Entry) (by kernel_rfl) args w

noncomputable def fdEnv : EnvX := mkEnv tabL fdFns [] [(118, add64E)] []

theorem fdEnv_ok : EnvOk prog fdEnv := mkEnv_ok tab_all0 fd_ok (fun _ h => by cases h) (fun p h => by rw [List.mem_singleton.1 h]; exact add64_ok0) (by kernel_rfl)

theorem fdEnv_lps : LpsOk prog fdEnv := noLps

end Go.LE

/- The local evaluator: a contract for a function of plain values, out of its evaluation. -/
namespace Go.LE
open Go.RowKit

/-- A contract that looks at no block. -/
def pureOrc (f : List LVal → Tree LVal) : Orc := ⟨fun _ => [], fun args _ _ => (f args).bind fun v => .done ⟨v, [], 0⟩⟩

/-- What a contract of plain values asks of the function: its evaluation over no blocks at all comes to a value that means the same. -/
def PureOk (E : EnvX) (fn : Func) (f : List LVal → Tree LVal) : Prop := ∀ args v, (f args).res v →
  ∃ n args' r, (evalFn E (leval E n) fn args' ⟨.leaf, 0, .leaf, 0⟩).res r ∧ (∀ ρ, denL ρ args' = denL ρ args) ∧ idsL args = [] ∧ idsV v = [] ∧ ∀ ρ x, den ρ r.1 = some x → den ρ v = some x

theorem hrel_none (w : World) : HRel (fun _ => none) (mtOf .leaf) (ctOf .leaf) w :=
  ⟨fun id m h => by simp [mtOf, Trie.get_leaf] at h, fun id m b C h => by simp [mtOf, Trie.get_leaf] at h, fun id m b C i v h => by simp [mtOf, Trie.get_leaf] at h, fun id m b C h => by simp [mtOf, Trie.get_leaf] at h,
    fun id m b C i v h => by simp [mtOf, Trie.get_leaf] at h, fun i j mi mj b C b' C' _ h => by simp [mtOf, Trie.get_leaf] at h⟩

theorem pureOrc_ok {P : Program} {E : EnvX} (hE : EnvOk P E) (hL : LpsOk P E) {f : FuncId} {fn : Func} (hf : P.funcs[f]? = some fn) {s : List LVal → Tree LVal} (hs : PureOk E fn s) : OrcOk P f (pureOrc s) := by
  intro ρ mt ct w look nid args vs r hd hr _ _ _ hres
  obtain ⟨v, hv, hres⟩ := Tree.res_bind hres
  obtain rfl := hres
  obtain ⟨n, args', q, hq, hda, ha, hi, hden⟩ := hs args v hv
  have hd0 : denL (fun _ => none) args' = some vs := by
    rw [hda, ← hd]
    exact denL_congr fun i hi => by rw [ha] at hi; cases hi
  refine Calls.mono (fn_ok hE hL n f fn args' vs ⟨.leaf, 0, .leaf, 0⟩ q (fun _ => none) w hf hq hd0 (hrel_none w) (fun id b h => by simp [Trie.get_leaf] at h) (fun _ _ => rfl)) fun e w' hw => ?_
  cases e with
  | panicked _ => exact hw.elim
  | outgrown => exact hw.elim
  | returned x =>
    obtain ⟨ρ', h1, _, h2, _⟩ := hw
    have hb : ∀ b, b < w.heap.size → w'.heap[b]? = w.heap[b]? := fun b hb => h2.block b hb fun id m _ h => by simp [mtOf, Trie.get_leaf] at h
    have hx : den ρ v = some x := by
      rw [← hden ρ' x h1]
      exact den_congr fun i h => by rw [hi] at h; cases h
    exact ⟨ρ, hx, hr.keep h2.size fun id m b C g1 g2 => hb b (hr.lt id m b C g1 g2),
      ⟨Sub.refl _, h2.os, h2.tape, h2.output, h2.size, fun b h _ => hb b h, fun id m b C g1 g2 g3 _ => ⟨id, m, C, g1, g2, g3⟩⟩, fun id y h => .inl h⟩

/-- The value alone of an evaluation. -/
def valOf (t : Tree (LVal × St)) : Tree LVal := t.bind fun r => .done r.1

theorem valOf_res {t : Tree (LVal × St)} {v : LVal} (h : (valOf t).res v) : ∃ r, t.res r ∧ r.1 = v := by
  obtain ⟨r, h1, h2⟩ := Tree.res_bind h
  exact ⟨r, h1, h2⟩

theorem pureOk_of {E : EnvX} {fn : Func} {f : List LVal → Tree LVal} (h : ∀ args v, (f args).res v → ∃ n args' t u, valOf (evalFn E (leval E n) fn args' ⟨.leaf, 0, .leaf, 0⟩) = t ∧ t.res u ∧ (∀ ρ, denL ρ args' = denL ρ args) ∧
    idsL args = [] ∧ idsV v = [] ∧ ∀ ρ x, den ρ u = some x → den ρ v = some x) : PureOk E fn f := fun args v hv => by
  obtain ⟨n, args', t, u, h1, h2, h3, h4, h5, h6⟩ := h args v hv
  rw [← h1] at h2
  obtain ⟨r, h7, h8⟩ := valOf_res h2
  exact ⟨n, args', r, h7, h3, h4, h5, fun ρ x hx => h6 ρ x (by rw [← h8]; exact hx)⟩

end Go.LE

/- bits.Mul64: the product of two numbers of 64 bits. -/
namespace Go.LE
open Go.Proofs.Try

def mHi (x y : Int) : Int :=
  IntKind.u64.wrap (IntKind.u64.wrap (IntKind.u64.wrap (iShr .u64 x 32 * iShr .u64 y 32) + iShr .u64 (IntKind.u64.wrap (IntKind.u64.wrap (iShr .u64 x 32 * iAnd .u64 y 4294967295) + iShr .u64 (IntKind.u64.wrap (iAnd .u64 x 4294967295 * iAnd .u64 y 4294967295)) 32)) 32) +
    iShr .u64 (IntKind.u64.wrap (iAnd .u64 (IntKind.u64.wrap (IntKind.u64.wrap (iShr .u64 x 32 * iAnd .u64 y 4294967295) + iShr .u64 (IntKind.u64.wrap (iAnd .u64 x 4294967295 * iAnd .u64 y 4294967295)) 32)) 4294967295 + IntKind.u64.wrap (iAnd .u64 x 4294967295 * iShr .u64 y 32))) 32)

theorem mul64_eval (x y : Int) : valOf (evalFn fdEnv (leval fdEnv 1000) f140 [.int .u64 (.sym x), .int .u64 (.sym y)] ⟨.leaf, 0, .leaf, 0⟩) = .done (.tup [.int .u64 (.sym (mHi x y)), .int .u64 (.sym (IntKind.u64.wrap (x * y)))]) := by
  kernel_rfl

end Go.LE

/- Laws of the 64 bit operations. -/
namespace Go.LE
open Go.Proofs.Try

theorem u64_wrap (n : Int) : IntKind.u64.wrap n = n % 18446744073709551616 := by
  simp [IntKind.wrap, IntKind.bits, IntKind.signed]

theorem u64_small {n : Int} (h0 : 0 ≤ n) (h : n < 18446744073709551616) : IntKind.u64.wrap n = n := by
  rw [u64_wrap]; omega

theorem iAnd_mask (x : Int) (h0 : 0 ≤ x) (h : x < 18446744073709551616) (n : Nat) (hn : n ≤ 63) : iAnd .u64 x ((2 ^ n - 1 : Nat) : Int) = x % ((2 ^ n : Nat) : Int) := by
  obtain ⟨m, rfl⟩ := Int.eq_ofNat_of_zero_le h0
  have hp : 2 ^ n ≤ 2 ^ 63 := Nat.pow_le_pow_right (by omega) hn
  have hb : ∀ k : Nat, k < 18446744073709551616 → (BitVec.ofInt 64 (k : Int)).toNat = k := fun k hk => by
    rw [BitVec.toNat_ofInt]; omega
  have h1 : ((BitVec.ofInt 64 (m : Int)) &&& BitVec.ofInt 64 ((2 ^ n - 1 : Nat) : Int)).toNat = m % 2 ^ n := by
    rw [BitVec.toNat_and, hb m (by omega), hb _ (by omega), Nat.and_two_pow_sub_one_eq_mod]
  show IntKind.u64.wrap (((BitVec.ofInt 64 (m : Int)) &&& BitVec.ofInt 64 ((2 ^ n - 1 : Nat) : Int)).toNat : Int) = _
  have h2 : m % 2 ^ n < 2 ^ 63 := Nat.lt_of_lt_of_le (Nat.mod_lt _ (Nat.two_pow_pos n)) hp
  rw [h1, u64_small (by omega) (by omega), Int.natCast_emod]

theorem iShr_div (x : Int) (n : Nat) (hn : n ≤ 64) : iShr .u64 x n = x / ((2 ^ n : Nat) : Int) := by
  unfold iShr
  have : min n IntKind.u64.bits = n := by show min n 64 = n; omega
  rw [this, Int.fdiv_eq_ediv_of_nonneg _ (Int.natCast_nonneg _)]

theorem and32 (x : Int) (h0 : 0 ≤ x) (h : x < 18446744073709551616) : iAnd .u64 x 4294967295 = x % 4294967296 := iAnd_mask x h0 h 32 (by omega)
theorem shr32 (x : Int) : iShr .u64 x 32 = x / 4294967296 := iShr_div x 32 (by omega)

theorem mul_bound {a b m n : Int} (ha : 0 ≤ a) (hb : 0 ≤ b) (h1 : a ≤ m) (h2 : b ≤ n) : 0 ≤ a * b ∧ a * b ≤ m * n :=
  ⟨Int.mul_nonneg ha hb, Int.mul_le_mul h1 h2 hb (by omega)⟩

theorem mHi_eq (x y : Int) (hx0 : 0 ≤ x) (hx : x < 18446744073709551616) (hy0 : 0 ≤ y) (hy : y < 18446744073709551616) : mHi x y = x * y / 18446744073709551616 := by
  unfold mHi
  simp only [shr32, and32 x hx0 hx, and32 y hy0 hy]
  have e : x * y = 18446744073709551616 * (x / 4294967296 * (y / 4294967296)) + 4294967296 * (x / 4294967296 * (y % 4294967296)) + 4294967296 * (x % 4294967296 * (y / 4294967296)) + x % 4294967296 * (y % 4294967296) := by
    have ex : x = 4294967296 * (x / 4294967296) + x % 4294967296 := by omega
    have ey : y = 4294967296 * (y / 4294967296) + y % 4294967296 := by omega
    generalize x / 4294967296 = x1 at *
    generalize x % 4294967296 = x0 at *
    generalize y / 4294967296 = y1 at *
    generalize y % 4294967296 = y0 at *
    rw [ex, ey]
    grind
  have bx1 : 0 ≤ x / 4294967296 ∧ x / 4294967296 ≤ 4294967295 := by omega
  have bx0 : 0 ≤ x % 4294967296 ∧ x % 4294967296 ≤ 4294967295 := by omega
  have by1 : 0 ≤ y / 4294967296 ∧ y / 4294967296 ≤ 4294967295 := by omega
  have by0 : 0 ≤ y % 4294967296 ∧ y % 4294967296 ≤ 4294967295 := by omega
  have ba := mul_bound bx0.1 by0.1 bx0.2 by0.2
  have bb := mul_bound bx1.1 by0.1 bx1.2 by0.2
  have bc := mul_bound bx0.1 by1.1 bx0.2 by1.2
  have bd := mul_bound bx1.1 by1.1 bx1.2 by1.2
  rw [e]
  generalize x % 4294967296 * (y % 4294967296) = a at *
  generalize x / 4294967296 * (y % 4294967296) = b at *
  generalize x % 4294967296 * (y / 4294967296) = c at *
  generalize x / 4294967296 * (y / 4294967296) = d at *
  have w1 : IntKind.u64.wrap a = a := u64_small (by omega) (by omega)
  have w2 : IntKind.u64.wrap b = b := u64_small (by omega) (by omega)
  have w3 : IntKind.u64.wrap c = c := u64_small (by omega) (by omega)
  have w4 : IntKind.u64.wrap d = d := u64_small (by omega) (by omega)
  rw [w1, w2, w3, w4]
  have w5 : IntKind.u64.wrap (b + a / 4294967296) = b + a / 4294967296 := u64_small (by omega) (by omega)
  rw [w5, and32 _ (by omega) (by omega)]
  have w6 : IntKind.u64.wrap ((b + a / 4294967296) % 4294967296 + c) = (b + a / 4294967296) % 4294967296 + c := u64_small (by omega) (by omega)
  have w7 : IntKind.u64.wrap (d + (b + a / 4294967296) / 4294967296) = d + (b + a / 4294967296) / 4294967296 := u64_small (by omega) (by omega)
  rw [w6, w7, u64_small (by omega) (by omega)]
  omega

end Go.LE

/- The contract of bits.Mul64, and an environment with it. -/
namespace Go.LE
open Go.Proofs.Try

/-- Is a number of 64 bits? -/
def inU {α : Type} (x : LN) (t : Tree α) : Tree α :=
  match x with
  | .lit n => match decide (0 ≤ n) && decide (n < 18446744073709551616) with
    | true => t
    | false => .fail 171
  | .sym n => .need (0 ≤ n ∧ n < 18446744073709551616) t

theorem res_inU {α : Type} {x : LN} {t : Tree α} {a : α} (h : (inU x t).res a) : (0 ≤ x.v ∧ x.v < 18446744073709551616) ∧ t.res a := by
  unfold inU at h
  split at h
  · split at h
    · rename_i hb
      rw [Bool.and_eq_true] at hb
      exact ⟨⟨of_decide_eq_true hb.1, of_decide_eq_true hb.2⟩, h⟩
    · exact h.elim
  · exact h

def op2 (f : Int → Int → Int) (x y : LN) : LN :=
  match x, y with
  | .lit a, .lit b => .lit (f a b)
  | x, y => x.on fun x => y.on fun y => .sym (f x y)

theorem op2_v (f : Int → Int → Int) (x y : LN) : (op2 f x y).v = f x.v y.v := by
  cases x <;> cases y <;> rfl

def mul64S (args : List LVal) : Tree LVal :=
  match args with
  | [.int .u64 x, .int .u64 y] => inU x (inU y (.done (.tup [.int .u64 (op2 (fun a b => a * b / 18446744073709551616) x y), .int .u64 (op2 (fun a b => a * b % 18446744073709551616) x y)])))
  | _ => .fail 172

theorem mul64_den {ρ : Ren} (x y : LN) (hx : 0 ≤ x.v ∧ x.v < 18446744073709551616) (hy : 0 ≤ y.v ∧ y.v < 18446744073709551616) (z : Value) (hz : den ρ (.tup [.int .u64 (.sym (mHi x.v y.v)), .int .u64 (.sym (IntKind.u64.wrap (x.v * y.v)))]) = some z) :
    den ρ (.tup [.int .u64 (op2 (fun a b => a * b / 18446744073709551616) x y), .int .u64 (op2 (fun a b => a * b % 18446744073709551616) x y)]) = some z := by
  rw [← hz]
  simp only [den, denL, op2_v, LN.sym_v, mHi_eq _ _ hx.1 hx.2 hy.1 hy.2, u64_wrap]

theorem mul64_pure : PureOk fdEnv f140 mul64S := by
  refine pureOk_of fun args v h => ?_
  unfold mul64S at h
  split at h
  · rename_i x y
    obtain ⟨hx, h⟩ := res_inU h
    obtain ⟨hy, h⟩ := res_inU h
    have hv := Tree.res_done.1 h
    subst hv
    exact ⟨1000, [.int .u64 (.sym x.v), .int .u64 (.sym y.v)], _, _, mul64_eval x.v y.v, Tree.res_done.2 rfl, fun ρ => rfl, rfl, rfl, fun ρ z hz => mul64_den x y hx hy z hz⟩
  · exact h.elim

theorem mul64_orc : Enters prog 140 ∧ OrcOk prog 140 (pureOrc mul64S) := ⟨ent140.1, pureOrc_ok fdEnv_ok fdEnv_lps func140 mul64_pure⟩

noncomputable def e2Fns : List (Nat × (Func × Bool)) := [(83, (f83, false)), (117, (f117, false))]

theorem e2_ok : ∀ p ∈ e2Fns, Enters prog p.1 ∧ prog.funcs[p.1]? = some p.2.1 := by
  unfold e2Fns
  simp only [List.forall_mem_cons]
  exact ⟨ent83, ent117, fun x h => by cases h⟩

noncomputable def e2 : EnvX := mkEnv tabL e2Fns [(140, pureOrc mul64S)] [(118, add64E)] []

theorem e2_env : EnvOk prog e2 := mkEnv_ok tab_all0 e2_ok (fun p h => by rw [List.mem_singleton.1 h]; exact mul64_orc) (fun p h => by rw [List.mem_singleton.1 h]; exact add64_ok0) (by kernel_rfl)

theorem e2_lps : LpsOk prog e2 := noLps

end Go.LE

/- The local evaluator: contracts of functions that read and write blocks, out of an evaluation over blocks with numbers of their own. -/
namespace Go.LE
open Go.RowKit

/- Values with other block numbers. -/
mutual
def renV (g : Nat → Nat) : LVal → LVal
  | .int k n => .int k n
  | .bool s b => .bool s b
  | .ptr id o => .ptr (g id) o
  | .nilp => .nilp
  | .slice id o l c => .slice (g id) o l c
  | .cut id o l n => .cut (g id) o l n
  | .nils => .nils
  | .raw v => .raw v
  | .func f a b => .func f (renL g a) (renL g b)
  | .agg l => .agg (renL g l)
  | .tup l => .tup (renL g l)
def renL (g : Nat → Nat) : List LVal → List LVal
  | [] => []
  | v :: l => renV g v :: renL g l
end

mutual
theorem den_renV (g : Nat → Nat) (ρ : Ren) : ∀ v, den ρ (renV g v) = den (fun k => ρ (g k)) v
  | .int _ _ => rfl
  | .bool _ _ => rfl
  | .ptr _ _ => rfl
  | .nilp => rfl
  | .slice _ _ _ _ => rfl
  | .cut _ _ _ _ => rfl
  | .nils => rfl
  | .raw _ => rfl
  | .func f a b => by simp only [renV, den]; rw [den_renL g ρ a, den_renL g ρ b]
  | .agg l => by simp only [renV, den]; rw [den_renL g ρ l]
  | .tup l => by simp only [renV, den]; rw [den_renL g ρ l]
theorem den_renL (g : Nat → Nat) (ρ : Ren) : ∀ l, denL ρ (renL g l) = denL (fun k => ρ (g k)) l
  | [] => rfl
  | v :: l => by simp only [renL, denL]; rw [den_renV g ρ v, den_renL g ρ l]
end

/- The blocks numbered in the order in which they occur: a pointer's block once, a slice's block each time; a slice that is nil has a number, too. -/
inductive Occ where
  | p (id : Nat)
  | s (id : Nat)
  | n

def Occ.id : Occ → Option Nat
  | .p i => some i
  | .s i => some i
  | .n => none

def idxP (id : Nat) : List Occ → Nat → Option Nat
  | [], _ => none
  | .p i :: l, k => match Nat.beq i id with
    | true => some k
    | false => idxP id l (k + 1)
  | _ :: l, k => idxP id l (k + 1)

mutual
def numV : LVal → List Occ → LVal × List Occ
  | .int k n, c => (.int k n, c)
  | .bool s b, c => (.bool s b, c)
  | .ptr id o, c => match idxP id c 0 with
    | some k => (.ptr k o, c)
    | none => (.ptr c.length o, c ++ [.p id])
  | .nilp, c => (.nilp, c)
  | .slice id o l q, c => (.slice c.length o l q, c ++ [.s id])
  | .cut id o l n, c => (.cut c.length o l n, c ++ [.s id])
  | .nils, c => (.slice c.length (.lit 0) (.lit 0) (some (.lit 0)), c ++ [.n])
  | .raw v, c => (.raw v, c)
  | .func f a b, c => match numL a c with
    | (a', c) => match numL b c with
      | (b', c) => (.func f a' b', c)
  | .agg l, c => match numL l c with
    | (l', c) => (.agg l', c)
  | .tup l, c => match numL l c with
    | (l', c) => (.tup l', c)
def numL : List LVal → List Occ → List LVal × List Occ
  | [], c => ([], c)
  | v :: l, c => match numV v c with
    | (v', c) => match numL l c with
      | (l', c) => (v' :: l', c)
end

/-- What a number of the contract stands for. -/
def standsFor (ρ : Ren) : Option Nat → Option (Option (Nat × Nat))
  | some i => ρ i
  | none => some none

theorem idxP_get {id : Nat} : ∀ {l : List Occ} {k j : Nat}, idxP id l k = some j → ∃ d, j = k + d ∧ l[d]? = some (.p id)
  | [], _, _, h => by simp [idxP] at h
  | .p i :: l, k, j, h => by
    simp only [idxP] at h
    split at h
    · rename_i hb
      have := Nat.eq_of_beq_eq_true hb
      exact ⟨0, by rw [← Option.some.inj h]; rfl, by rw [this]; rfl⟩
    · obtain ⟨d, h1, h2⟩ := idxP_get h
      exact ⟨d + 1, by omega, h2⟩
  | .s i :: l, k, j, h => by
    simp only [idxP] at h
    obtain ⟨d, h1, h2⟩ := idxP_get h
    exact ⟨d + 1, by omega, h2⟩
  | .n :: l, k, j, h => by
    simp only [idxP] at h
    obtain ⟨d, h1, h2⟩ := idxP_get h
    exact ⟨d + 1, by omega, h2⟩

mutual
theorem numV_pre : ∀ v c, ∃ e, (numV v c).2 = c ++ e
  | .int _ _, c => ⟨[], by simp [numV]⟩
  | .bool _ _, c => ⟨[], by simp [numV]⟩
  | .ptr id _, c => by
    simp only [numV]
    split
    · exact ⟨[], by simp⟩
    · exact ⟨_, rfl⟩
  | .nilp, c => ⟨[], by simp [numV]⟩
  | .slice _ _ _ _, c => ⟨_, rfl⟩
  | .cut _ _ _ _, c => ⟨_, rfl⟩
  | .nils, c => ⟨_, rfl⟩
  | .raw _, c => ⟨[], by simp [numV]⟩
  | .func f a b, c => by
    obtain ⟨e, h⟩ := numL_pre a c
    obtain ⟨e', h'⟩ := numL_pre b (numL a c).2
    exact ⟨e ++ e', by simp only [numV]; rw [h', h, List.append_assoc]⟩
  | .agg l, c => by
    obtain ⟨e, h⟩ := numL_pre l c
    exact ⟨e, by simp only [numV]; exact h⟩
  | .tup l, c => by
    obtain ⟨e, h⟩ := numL_pre l c
    exact ⟨e, by simp only [numV]; exact h⟩
theorem numL_pre : ∀ l c, ∃ e, (numL l c).2 = c ++ e
  | [], c => ⟨[], by simp [numL]⟩
  | v :: l, c => by
    obtain ⟨e, h⟩ := numV_pre v c
    obtain ⟨e', h'⟩ := numL_pre l (numV v c).2
    exact ⟨e ++ e', by simp only [numL]; rw [h', h, List.append_assoc]⟩
end

/-- A renaming says what the occurrences stand for. -/
def Reads (ρ ρ0 : Ren) (c : List Occ) : Prop := ∀ (k : Nat) o, c[k]? = some o → ρ0 k = standsFor ρ o.id

theorem Reads.left {ρ ρ0 : Ren} {c e : List Occ} (h : Reads ρ ρ0 (c ++ e)) : Reads ρ ρ0 c := fun k o hk =>
  h k o (by rw [List.getElem?_append_left (List.getElem?_eq_some_iff.1 hk).1]; exact hk)

theorem Reads.last {ρ ρ0 : Ren} {c : List Occ} {o : Occ} (h : Reads ρ ρ0 (c ++ [o])) : ρ0 c.length = standsFor ρ o.id :=
  h c.length o (by simp)

mutual
theorem den_numV {ρ ρ0 : Ren} : ∀ v c, Reads ρ ρ0 (numV v c).2 → den ρ0 (numV v c).1 = den ρ v
  | .int _ _, _, _ => rfl
  | .bool _ _, _, _ => rfl
  | .ptr i o, c, h => by
    simp only [numV] at h ⊢
    split at h
    · rename_i k hk
      obtain ⟨d, h1, h2⟩ := idxP_get hk
      have h3 : ρ0 k = ρ i := h k (.p i) (by rw [h1, Nat.zero_add]; exact h2)
      simp only [den]
      rw [h3]
    · rename_i hk
      have h3 : ρ0 c.length = ρ i := Reads.last h
      simp only [den]
      rw [h3]
  | .nilp, _, _ => rfl
  | .slice i _ _ _, c, h => by
    have h3 : ρ0 c.length = ρ i := Reads.last h
    simp only [numV, den]; rw [h3]
  | .cut i _ _ _, c, h => by
    have h3 : ρ0 c.length = ρ i := Reads.last h
    simp only [numV, den]; rw [h3]
  | .nils, c, h => by
    have h3 : ρ0 c.length = some none := Reads.last h
    simp only [numV, den]; rw [h3]; rfl
  | .raw _, _, _ => rfl
  | .func f a b, c, h => by
    simp only [numV] at h ⊢
    simp only [den]
    have hb := h
    obtain ⟨e, he⟩ := numL_pre b (numL a c).2
    rw [he] at h
    rw [denL_numL a c h.left, denL_numL b _ hb]
  | .agg l, c, h => by simp only [numV] at h ⊢; simp only [den]; rw [denL_numL l c h]
  | .tup l, c, h => by simp only [numV] at h ⊢; simp only [den]; rw [denL_numL l c h]
theorem denL_numL {ρ ρ0 : Ren} : ∀ l c, Reads ρ ρ0 (numL l c).2 → denL ρ0 (numL l c).1 = denL ρ l
  | [], _, _ => rfl
  | v :: l, c, h => by
    simp only [numL] at h ⊢
    simp only [denL]
    have hb := h
    obtain ⟨e, he⟩ := numL_pre l (numV v c).2
    rw [he] at h
    rw [den_numV v c h.left, denL_numL l _ hb]
end

mutual
theorem numV_ids : ∀ (v : LVal) (c : List Occ) (o : Occ) (i : Nat), o ∈ (numV v c).2 → o.id = some i → o ∈ c ∨ i ∈ idsV v
  | .int _ _, _, _, _, h, _ => .inl h
  | .bool _ _, _, _, _, h, _ => .inl h
  | .ptr id _, c, o, i, h, hi => by
    simp only [numV] at h
    split at h
    · exact .inl h
    · rcases List.mem_append.1 h with h | h
      · exact .inl h
      · rw [List.mem_singleton.1 h] at hi
        exact .inr (by simp only [idsV]; rw [Option.some.inj hi]; exact List.mem_singleton.2 rfl)
  | .nilp, _, _, _, h, _ => .inl h
  | .slice id _ _ _, c, o, i, h, hi => by
    simp only [numV] at h
    rcases List.mem_append.1 h with h | h
    · exact .inl h
    · rw [List.mem_singleton.1 h] at hi
      exact .inr (by simp only [idsV]; rw [Option.some.inj hi]; exact List.mem_singleton.2 rfl)
  | .cut id _ _ _, c, o, i, h, hi => by
    simp only [numV] at h
    rcases List.mem_append.1 h with h | h
    · exact .inl h
    · rw [List.mem_singleton.1 h] at hi
      exact .inr (by simp only [idsV]; rw [Option.some.inj hi]; exact List.mem_singleton.2 rfl)
  | .nils, c, o, i, h, hi => by
    simp only [numV] at h
    rcases List.mem_append.1 h with h | h
    · exact .inl h
    · rw [List.mem_singleton.1 h] at hi; cases hi
  | .raw _, _, _, _, h, _ => .inl h
  | .func f a b, c, o, i, h, hi => by
    simp only [numV] at h
    simp only [idsV, List.mem_append]
    rcases numL_ids b _ o i h hi with h | h
    · rcases numL_ids a c o i h hi with h | h
      · exact .inl h
      · exact .inr (.inl h)
    · exact .inr (.inr h)
  | .agg l, c, o, i, h, hi => by simp only [numV] at h; simp only [idsV]; exact numL_ids l c o i h hi
  | .tup l, c, o, i, h, hi => by simp only [numV] at h; simp only [idsV]; exact numL_ids l c o i h hi
theorem numL_ids : ∀ (l : List LVal) (c : List Occ) (o : Occ) (i : Nat), o ∈ (numL l c).2 → o.id = some i → o ∈ c ∨ i ∈ idsL l
  | [], _, _, _, h, _ => .inl h
  | v :: l, c, o, i, h, hi => by
    simp only [numL] at h
    simp only [idsL, List.mem_append]
    rcases numL_ids l _ o i h hi with h | h
    · rcases numV_ids v c o i h hi with h | h
      · exact .inl h
      · exact .inr (.inl h)
    · exact .inr (.inr h)
end

def occL (l : List LVal) : List (Option Nat) := (numL l []).2.map Occ.id

theorem occL_ids {l : List LVal} {i : Nat} (h : some i ∈ occL l) : i ∈ idsL l := by
  obtain ⟨o, h1, h2⟩ := List.mem_map.1 h
  rcases numL_ids l [] o i h1 h2 with h | h
  · cases h
  · exact h

theorem denL_occL {ρ ρ0 : Ren} (l : List LVal) (h : ∀ (k : Nat) i, (occL l)[k]? = some i → ρ0 k = standsFor ρ i) : denL ρ0 (numL l []).1 = denL ρ l :=
  denL_numL l [] fun k o hk => h k o.id (by unfold occL; rw [List.getElem?_map, hk]; rfl)

/-- The number that a block of the contract has where it is called. -/
def gOf (ids : List (Option Nat)) (m nid k : Nat) : Nat := match nth k ids with
  | some (some i) => i
  | some none => 0
  | none => nid + (k - m)

/-- The block of a slice that is nil. -/
def nilBlk : Blk := ⟨false, false, true, none, .cells []⟩

def blksOf (look : Nat → Option Blk) : List (Option Nat) → Option (List Blk)
  | [] => some []
  | none :: l => match blksOf look l with
    | some r => some (nilBlk :: r)
    | none => none
  | some id :: l => match look id with
    | some b => match blksOf look l with
      | some r => some (b :: r)
      | none => none
    | none => none

def countN (k : Nat) : List (Option Nat) → Nat
  | [] => 0
  | none :: l => countN k l
  | some i :: l => match Nat.beq i k with
    | true => countN k l + 1
    | false => countN k l

def hasKey (k : Nat) : List (Nat × Blk) → Bool
  | [] => false
  | p :: l => Nat.beq p.1 k || hasKey k l

/-- What is written may be written: blocks of the caller's own that occur once, and new ones. -/
def okWr (ids : List (Option Nat)) (blks : List Blk) (cnt : Nat) : List (Nat × Blk) → Bool
  | [] => true
  | p :: l => !hasKey p.1 l && (match nth p.1 ids, nth p.1 blks with
    | some (some i), some b => b.own && Nat.beq (countN i ids) 1
    | none, none => Nat.blt p.1 (ids.length + cnt)
    | _, _ => false) && okWr ids blks cnt l

def named (ids : List (Option Nat)) (k : Nat) : Bool := match nth k ids with
  | some none => false
  | _ => true

mutual
/-- No value of a result names a slice that was nil. -/
def noNil (ids : List (Option Nat)) : LVal → Bool
  | .ptr k _ => named ids k
  | .slice k _ _ _ => named ids k
  | .cut k _ _ _ => named ids k
  | .func _ a b => noNilL ids a && noNilL ids b
  | .agg l => noNilL ids l
  | .tup l => noNilL ids l
  | _ => true
def noNilL (ids : List (Option Nat)) : List LVal → Bool
  | [] => true
  | v :: l => noNil ids v && noNilL ids l
end

/-- A contract over blocks with numbers of its own. -/
def canOrc (spec : List LVal → List Blk → Tree OrcRes) : Orc :=
  ⟨idsL, fun args look nid => match occL args with
    | ids => match blksOf look ids with
      | none => .fail 190
      | some blks => (spec (numL args []).1 blks).bind fun r => match okWr ids blks r.cnt r.wr && noNil ids r.val with
        | true => .done ⟨renV (gOf ids ids.length nid) r.val, r.wr.map fun p => (gOf ids ids.length nid p.1, p.2), r.cnt⟩
        | false => .fail 191⟩

/-- One block says no more than another one. -/
structure LessBlk (b b' : Blk) : Prop where
  nil : b.nil = b'.nil
  own : b.own = true → b'.own = true
  size : ∀ s, b.mt.size = some s → b'.mt.size = some s
  cont : ∀ i v, contAt b.cont i = some v → ∃ v', contAt b'.cont i = some v' ∧ ∀ ρ ρ' : Ren, den ρ v = den ρ' v'

/-- How many cells the blocks of a contract have; none: a slice that is nil. -/
def Compat (ρ : Ren) (Cf : Nat → Option Nat) (m : Nat) : Prop := ∀ k, k < m → ∃ x, ρ k = some x ∧ x.map Prod.snd = Cf k

/-- What a contract asks of a function: an evaluation over blocks that say no more than the contract's, whose outcome says no less. -/
def SpecOk (E : EnvX) (fn : Func) (spec : List LVal → List Blk → Tree OrcRes) : Prop := ∀ args blks r, (spec args blks).res r →
  ∀ Cf : Nat → Option Nat, (∀ k b, blks[k]? = some b → b.nil = (Cf k).isNone) → (∃ ρ vs, Compat ρ Cf blks.length ∧ denL ρ args = some vs) →
  ∃ n args' st q, (evalFn E (leval E n) fn args' st).res q ∧ st.nid = blks.length ∧ q.2.nid = blks.length + r.cnt ∧ (∀ ρ, Compat ρ Cf blks.length → denL ρ args' = denL ρ args) ∧
    (∀ k b', st.hp.get k = some b' → ∃ b, blks[k]? = some b ∧ LessBlk b' b ∧ (b'.own = true → hasKey k r.wr = true)) ∧
    (∀ ρ x, den ρ q.1 = some x → den ρ r.val = some x) ∧
    (∀ p ∈ r.wr, ∃ b', q.2.hp.get p.1 = some b' ∧ LessBlk p.2 b' ∧ (blks.length ≤ p.1 → b'.own = true))

end Go.LE

/- The local evaluator: contracts over blocks with numbers of their own hold. -/
namespace Go.LE
open Go.RowKit

theorem nth_get {α : Type} : ∀ (n : Nat) (l : List α), nth n l = l[n]?
  | 0, [] => rfl
  | 0, _ :: _ => rfl
  | n + 1, [] => rfl
  | n + 1, _ :: l => by simpa [nth] using nth_get n l

theorem blksOf_get {look : Nat → Option Blk} : ∀ {ids : List (Option Nat)} {blks : List Blk}, blksOf look ids = some blks → blks.length = ids.length ∧ (∀ (k : Nat), ids[k]? = some none → blks[k]? = some nilBlk) ∧
    ∀ (k i : Nat), ids[k]? = some (some i) → ∃ b, blks[k]? = some b ∧ look i = some b
  | [], blks, h => by
    obtain rfl := Option.some.inj h
    exact ⟨rfl, fun k hk => by simp at hk, fun k i hk => by simp at hk⟩
  | none :: l, blks, h => by
    simp only [blksOf] at h
    split at h
    · rename_i r hr
      obtain rfl := Option.some.inj h
      obtain ⟨h1, h2, h3⟩ := blksOf_get hr
      refine ⟨by simp [h1], fun k hk => ?_, fun k i hk => ?_⟩
      · cases k with
        | zero => rfl
        | succ k => exact h2 k (by simpa using hk)
      · cases k with
        | zero => simp at hk
        | succ k => exact h3 k i (by simpa using hk)
    · cases h
  | some id :: l, blks, h => by
    simp only [blksOf] at h
    split at h
    · rename_i b hb
      split at h
      · rename_i r hr
        obtain rfl := Option.some.inj h
        obtain ⟨h1, h2, h3⟩ := blksOf_get hr
        refine ⟨by simp [h1], fun k hk => ?_, fun k i hk => ?_⟩
        · cases k with
          | zero => simp at hk
          | succ k => exact h2 k (by simpa using hk)
        · cases k with
          | zero =>
            simp only [List.getElem?_cons_zero, Option.some.injEq] at hk
            subst hk
            exact ⟨b, rfl, hb⟩
          | succ k => exact h3 k i (by simpa using hk)
      · cases h
    · cases h

theorem countN_zero {i : Nat} : ∀ {l : List (Option Nat)}, countN i l = 0 → ∀ k : Nat, l[k]? ≠ some (some i)
  | [], _, k => by simp
  | none :: l, h, k => by
    simp only [countN] at h
    cases k with
    | zero => simp
    | succ k => simpa using countN_zero h k
  | some a :: l, h, k => by
    simp only [countN] at h
    split at h
    · omega
    · rename_i hb
      cases k with
      | zero => intro e; simp only [List.getElem?_cons_zero, Option.some.injEq] at e; rw [e, Nat.beq_refl] at hb; cases hb
      | succ k => simpa using countN_zero h k

theorem countN_one {i : Nat} : ∀ {l : List (Option Nat)}, countN i l = 1 → ∀ k k' : Nat, l[k]? = some (some i) → l[k']? = some (some i) → k = k'
  | [], h, _, _, _, _ => by simp [countN] at h
  | none :: l, h, k, k', h1, h2 => by
    simp only [countN] at h
    cases k with
    | zero => simp at h1
    | succ k => cases k' with
      | zero => simp at h2
      | succ k' => rw [countN_one h k k' (by simpa using h1) (by simpa using h2)]
  | some a :: l, h, k, k', h1, h2 => by
    simp only [countN] at h
    split at h
    · have h0 := countN_zero (i := i) (l := l) (by omega)
      cases k with
      | zero => cases k' with
        | zero => rfl
        | succ k' => exact absurd (by simpa using h2) (h0 k')
      | succ k => exact absurd (by simpa using h1) (h0 k)
    · rename_i hb
      cases k with
      | zero => simp only [List.getElem?_cons_zero, Option.some.injEq] at h1; rw [h1, Nat.beq_refl] at hb; cases hb
      | succ k => cases k' with
        | zero => simp only [List.getElem?_cons_zero, Option.some.injEq] at h2; rw [h2, Nat.beq_refl] at hb; cases hb
        | succ k' => rw [countN_one h k k' (by simpa using h1) (by simpa using h2)]

theorem hasKey_mem {k : Nat} : ∀ {l : List (Nat × Blk)}, hasKey k l = true ↔ ∃ p, p ∈ l ∧ p.1 = k
  | [] => by simp [hasKey]
  | p :: l => by
    have ih := hasKey_mem (k := k) (l := l)
    simp only [hasKey, Bool.or_eq_true, ih]
    constructor
    · rintro (h | ⟨q, h1, h2⟩)
      · exact ⟨p, List.mem_cons_self .., Nat.eq_of_beq_eq_true h⟩
      · exact ⟨q, List.mem_cons_of_mem _ h1, h2⟩
    · rintro ⟨q, h1, h2⟩
      rcases List.mem_cons.1 h1 with rfl | h1
      · exact .inl (by rw [h2]; exact Nat.beq_refl k)
      · exact .inr ⟨q, h1, h2⟩

theorem okWr_all {ids : List (Option Nat)} {blks : List Blk} {cnt : Nat} : ∀ {l : List (Nat × Blk)}, okWr ids blks cnt l = true → (∀ p ∈ l, ∀ p' ∈ l, p.1 = p'.1 → p = p') ∧
    ∀ p ∈ l, (∃ i b, ids[p.1]? = some (some i) ∧ blks[p.1]? = some b ∧ b.own = true ∧ countN i ids = 1) ∨ (ids[p.1]? = none ∧ p.1 < ids.length + cnt)
  | [], _ => ⟨by simp, by simp⟩
  | q :: l, h => by
    simp only [okWr, Bool.and_eq_true] at h
    obtain ⟨⟨h1, h2⟩, h3⟩ := h
    obtain ⟨g1, g2⟩ := okWr_all h3
    have hno : ∀ p ∈ l, p.1 ≠ q.1 := fun p hp e => by
      rw [hasKey_mem.2 ⟨p, hp, e⟩] at h1
      cases h1
    refine ⟨fun p hp p' hp' e => ?_, fun p hp => ?_⟩
    · rcases List.mem_cons.1 hp with h4 | h4 <;> rcases List.mem_cons.1 hp' with h5 | h5
      · rw [h4, h5]
      · subst h4; exact absurd e.symm (hno p' h5)
      · subst h5; exact absurd e (hno p h4)
      · exact g1 p h4 p' h5 e
    · rcases List.mem_cons.1 hp with rfl | hp
      · rw [nth_get, nth_get] at h2
        split at h2
        · rename_i i b hi hb
          rw [Bool.and_eq_true] at h2
          exact .inl ⟨i, b, hi, hb, h2.1, Nat.eq_of_beq_eq_true h2.2⟩
        · rename_i hi hb
          exact .inr ⟨hi, Nat.le_of_ble_eq_true h2⟩
        · cases h2
      · exact g2 p hp

theorem lastBlk_mem {id : Nat} {b : Option Blk} : ∀ {l : List HWr}, lastBlk l id = some b → ∃ h ∈ l, h.id = id ∧ h.blk = b
  | [], h => by simp [lastBlk] at h
  | a :: l, h => by
    rw [lastBlk] at h
    split at h
    · rename_i c hc
      obtain ⟨u, h1, h2, h3⟩ := lastBlk_mem hc
      exact ⟨u, List.mem_cons_of_mem _ h1, h2, by rw [h3]; exact Option.some.inj h⟩
    · split at h
      · rename_i e
        exact ⟨a, List.mem_cons_self .., e, Option.some.inj h⟩
      · cases h

theorem lastBlk_uniq {l : List HWr} {u : HWr} (hu : u ∈ l) (h : ∀ v ∈ l, v.id = u.id → v.blk = u.blk) : lastBlk l u.id = some u.blk := by
  cases hb : lastBlk l u.id with
  | none => exact absurd rfl ((lastBlk_none l u.id).1 hb u hu)
  | some b =>
    obtain ⟨v, h1, h2, h3⟩ := lastBlk_mem hb
    rw [← h3, h v h1 h2]

theorem gOf_old {ids : List (Option Nat)} {m nid k i : Nat} (h : ids[k]? = some (some i)) : gOf ids m nid k = i := by
  unfold gOf; rw [nth_get, h]

theorem gOf_new {ids : List (Option Nat)} {m nid k : Nat} (h : ids[k]? = none) : gOf ids m nid k = nid + (k - m) := by
  unfold gOf; rw [nth_get, h]

mutual
theorem noNil_ids {ids : List (Option Nat)} : ∀ {v : LVal}, noNil ids v = true → ∀ i ∈ idsV v, ids[i]? ≠ some none
  | .int _ _, _, i, hi => by simp [idsV] at hi
  | .bool _ _, _, i, hi => by simp [idsV] at hi
  | .ptr k _, h, i, hi => by simp only [idsV, List.mem_singleton] at hi; subst hi; exact named_get h
  | .nilp, _, i, hi => by simp [idsV] at hi
  | .slice k _ _ _, h, i, hi => by simp only [idsV, List.mem_singleton] at hi; subst hi; exact named_get h
  | .cut k _ _ _, h, i, hi => by simp only [idsV, List.mem_singleton] at hi; subst hi; exact named_get h
  | .nils, _, i, hi => by simp [idsV] at hi
  | .raw _, _, i, hi => by simp [idsV] at hi
  | .func f a b, h, i, hi => by
    simp only [noNil, Bool.and_eq_true] at h
    simp only [idsV, List.mem_append] at hi
    rcases hi with hi | hi
    · exact noNilL_ids h.1 i hi
    · exact noNilL_ids h.2 i hi
  | .agg l, h, i, hi => by simp only [noNil] at h; simp only [idsV] at hi; exact noNilL_ids h i hi
  | .tup l, h, i, hi => by simp only [noNil] at h; simp only [idsV] at hi; exact noNilL_ids h i hi
theorem noNilL_ids {ids : List (Option Nat)} : ∀ {l : List LVal}, noNilL ids l = true → ∀ i ∈ idsL l, ids[i]? ≠ some none
  | [], _, i, hi => by simp [idsL] at hi
  | v :: l, h, i, hi => by
    simp only [noNilL, Bool.and_eq_true] at h
    simp only [idsL, List.mem_append] at hi
    rcases hi with hi | hi
    · exact noNil_ids h.1 i hi
    · exact noNilL_ids h.2 i hi
theorem named_get {ids : List (Option Nat)} {k : Nat} (h : named ids k = true) : ids[k]? ≠ some none := by
  unfold named at h
  rw [nth_get] at h
  intro e
  rw [e] at h
  cases h
end

theorem den_on {ρ ρ' : Ren} {v : LVal} {x : Value} (h : ∀ i ∈ idsV v, ∀ y, ρ i = some y → ρ' i = some y) (hx : den ρ v = some x) : den ρ' v = some x := by
  classical
  have h1 : Sub ρ (fun i => if i ∈ idsV v then ρ' i else ρ i) := fun i y hy => by
    show (if i ∈ idsV v then ρ' i else ρ i) = some y
    by_cases e : i ∈ idsV v
    · rw [if_pos e]; exact h i e y hy
    · rw [if_neg e]; exact hy
  have h2 := den_mono h1 hx
  rw [← h2]
  exact den_congr fun i hi => (if_pos hi).symm

theorem canOrc_ok {P : Program} {E : EnvX} (hE : EnvOk P E) (hL : LpsOk P E) {f : FuncId} {fn : Func} (hf : P.funcs[f]? = some fn) {spec : List LVal → List Blk → Tree OrcRes} (hs : SpecOk E fn spec) : OrcOk P f (canOrc spec) := by
  intro ρ mt ct w look nid args vs r hd hr hag hlow hfree hres
  simp only [canOrc] at hres
  generalize hids : occL args = ids at hres
  split at hres
  · exact hres.elim
  rename_i blks hblks
  obtain ⟨r0, hr0, hres⟩ := Tree.res_bind hres
  have hok : (okWr ids blks r0.cnt r0.wr && noNil ids r0.val) = true := by
    cases h : okWr ids blks r0.cnt r0.wr && noNil ids r0.val with
    | true => rfl
    | false => rw [h] at hres; exact hres.elim
  rw [hok] at hres
  obtain rfl := hres
  simp only at hfree
  rw [Bool.and_eq_true] at hok
  obtain ⟨hok, hnon⟩ := hok
  obtain ⟨hlen, hnb, hbl⟩ := blksOf_get hblks
  obtain ⟨huniq, hwk⟩ := okWr_all hok
  -- the caller's blocks
  have hcal : ∀ (k i : Nat) (b : Blk), ids[k]? = some (some i) → blks[k]? = some b → i < nid ∧ mt i = some b.mt ∧ ∀ j, ct i j = contAt b.cont j := fun k i b h1 h2 => by
    obtain ⟨b1, g1, g2⟩ := hbl k i h1
    rw [h2] at g1
    obtain rfl := Option.some.inj g1
    have hlt := hlow i b g2
    obtain ⟨g3, g4⟩ := hag i (by
      show i ∈ idsL args
      refine occL_ids ?_
      rw [hids]
      exact List.mem_of_getElem? h1) hlt
    rw [g2] at g3 g4
    exact ⟨hlt, g3, g4⟩
  have hkid : ∀ (k : Nat) (b : Blk), blks[k]? = some b → ids[k]? = some none ∨ ∃ i, ids[k]? = some (some i) := fun k b h => by
    have h1 := (List.getElem?_eq_some_iff.1 h).1
    have h2 : k < ids.length := by omega
    rw [List.getElem?_eq_getElem h2]
    cases ids[k] with
    | none => exact .inl rfl
    | some i => exact .inr ⟨i, rfl⟩
  let ρ0 : Ren := fun k => match ids[k]? with | some i => standsFor ρ i | none => none
  have hρ0 : ∀ (k : Nat) i, ids[k]? = some i → ρ0 k = standsFor ρ i := fun k i h => by show (match ids[k]? with | some i => standsFor ρ i | none => none) = _; rw [h]
  have hρ0n : ∀ k : Nat, ids[k]? = none → ρ0 k = none := fun k h => by show (match ids[k]? with | some i => standsFor ρ i | none => none) = none; rw [h]
  have hd1 : denL ρ0 (numL args []).1 = some vs := by
    rw [denL_occL (ρ := ρ) args fun j i hj => hρ0 j i (by rw [← hids]; exact hj), hd]
  let Cf : Nat → Option Nat := fun k => match ρ0 k with | some x => x.map Prod.snd | none => none
  have hob : ∀ (k : Nat) (b : Blk), blks[k]? = some b → ∃ ob, ρ0 k = some ob ∧ b.nil = ob.isNone := fun k b h => by
    rcases hkid k b h with hi | ⟨i, hi⟩
    · have h1 := hnb k hi
      rw [h] at h1
      obtain rfl := Option.some.inj h1
      exact ⟨none, hρ0 k none hi, rfl⟩
    · obtain ⟨g1, g2, _⟩ := hcal k i b hi h
      obtain ⟨ob, e1, e2⟩ := hr.blk i _ g2
      exact ⟨ob, by rw [hρ0 k _ hi]; exact e1, e2⟩
  have hCf : ∀ k x, ρ0 k = some x → Cf k = x.map Prod.snd := fun k x h => by show (match ρ0 k with | some x => x.map Prod.snd | none => none) = _; rw [h]
  have hcomp : Compat ρ0 Cf blks.length := fun k hk => by
    obtain ⟨ob, e1, _⟩ := hob k _ (List.getElem?_eq_getElem hk)
    exact ⟨ob, e1, (hCf k ob e1).symm⟩
  obtain ⟨n, args', st, q, hq, hnid, hqn, hargs, hblk, hval, hwr⟩ := hs _ _ _ hr0 Cf (fun k b h => by
    obtain ⟨ob, e1, e2⟩ := hob k b h
    rw [hCf k ob e1, e2]
    cases ob <;> rfl) ⟨ρ0, vs, hcomp, hd1⟩
  have hd0 : denL ρ0 args' = some vs := by rw [hargs ρ0 hcomp, hd1]
  -- what is known of a block of the contract
  have hmt0 : ∀ k m', mtOf st.hp k = some m' → ∃ b', st.hp.get k = some b' ∧ m' = b'.mt := fun k m' h => by
    simp only [mtOf, Option.map_eq_some_iff] at h
    obtain ⟨b', h1, h2⟩ := h
    exact ⟨b', h1, h2.symm⟩
  have hknow : ∀ k b' b C, st.hp.get k = some b' → ρ0 k = some (some (b, C)) → ∃ i bb, ids[k]? = some (some i) ∧ blks[k]? = some bb ∧ LessBlk b' bb ∧ i < nid ∧ mt i = some bb.mt ∧ (∀ j, ct i j = contAt bb.cont j) ∧ (b'.own = true → hasKey k r0.wr = true) ∧ ρ i = some (some (b, C)) := fun k b' b C h hρ => by
    obtain ⟨bb, g1, g2, g3⟩ := hblk k b' h
    rcases hkid k bb g1 with hi | ⟨i, hi⟩
    · rw [hρ0 k _ hi] at hρ; cases hρ
    · obtain ⟨g4, g5, g6⟩ := hcal k i bb hi g1
      exact ⟨i, bb, hi, g1, g2, g4, g5, g6, g3, by rw [hρ0 k _ hi] at hρ; exact hρ⟩
  -- a block that is written is no other one's
  have hone : ∀ k i, hasKey k r0.wr = true → ids[k]? = some (some i) → ∀ k' : Nat, ids[k']? = some (some i) → k = k' := fun k i h1 h2 k' h3 => by
    obtain ⟨p, hp, rfl⟩ := hasKey_mem.1 h1
    rcases hwk p hp with ⟨i', b, g1, _, _, g4⟩ | ⟨g1, _⟩
    · rw [h2] at g1
      obtain rfl := Option.some.inj (Option.some.inj g1)
      exact countN_one g4 _ _ h2 h3
    · rw [h2] at g1; cases g1
  have hHR : HRel ρ0 (mtOf st.hp) (ctOf st.hp) w := by
    refine ⟨fun k m' h1 => ?_, fun k m' b C h1 h2 => ?_, fun k m' b C j v h1 h2 h3 => ?_, fun k m' b C h1 h2 h3 => ?_, fun k m' b C j v h1 h2 h3 h4 => ?_, fun k k' mk mk' b C b' C' hne h1 h2 h3 h4 h5 => ?_⟩
    · obtain ⟨b', g1, rfl⟩ := hmt0 k m' h1
      obtain ⟨bb, g2, g3, _⟩ := hblk k b' g1
      obtain ⟨ob, e1, e2⟩ := hob k bb g2
      exact ⟨ob, e1, by rw [← e2]; exact g3.nil⟩
    · obtain ⟨b', g1, rfl⟩ := hmt0 k m' h1
      obtain ⟨i, bb, g2, g3, g4, _, g6, g7, _, g8⟩ := hknow k b' b C g1 h2
      exact hr.lt i _ _ _ g6 g8
    · obtain ⟨b', g1, rfl⟩ := hmt0 k m' h1
      obtain ⟨i, bb, g2, g3, g4, _, g6, g7, _, g8⟩ := hknow k b' b C g1 h2
      rw [ctOf_at g1] at h3
      obtain ⟨v', e1, e2⟩ := g4.cont j v h3
      obtain ⟨x, e3, e4, e5⟩ := hr.cell i _ b C j v' g6 g8 (by rw [g7]; exact e1)
      exact ⟨x, by rw [e2 ρ0 ρ]; exact e3, e4, e5⟩
    · obtain ⟨b', g1, rfl⟩ := hmt0 k m' h1
      obtain ⟨i, bb, g2, g3, g4, _, g6, g7, _, g8⟩ := hknow k b' b C g1 h3
      obtain ⟨e1, e2⟩ := hr.own i _ b C g6 (g4.own h2) g8
      exact ⟨e1, fun s hs => e2 s (g4.size s hs)⟩
    · obtain ⟨b', g1, rfl⟩ := hmt0 k m' h1
      obtain ⟨i, bb, g2, g3, g4, _, g6, g7, _, g8⟩ := hknow k b' b C g1 h3
      rw [ctOf_at g1] at h4
      obtain ⟨v', e1, _⟩ := g4.cont j v h4
      exact hr.low i _ b C j v' g6 (g4.own h2) g8 (by rw [g7]; exact e1)
    · obtain ⟨b1, g1, rfl⟩ := hmt0 k mk h1
      obtain ⟨i, bb, g2, g3, g4, _, g6, g7, g8, g9⟩ := hknow k b1 b C g1 h4
      obtain ⟨b2, g1', rfl⟩ := hmt0 k' mk' h3
      obtain ⟨i', bb', g2', g3', g4', _, g6', g7', g8', g9'⟩ := hknow k' b2 b' C' g1' h5
      have hii : i ≠ i' := fun e => hne (hone k i (g8 h2) g2 k' (by rw [e]; exact g2'))
      exact hr.apart i i' _ _ b C b' C' hii g6 (g4.own h2) g6' g9 g9'
  have hst : ∀ id b, st.hp.get id = some b → id < st.nid := fun k b' h => by
    obtain ⟨b, g1, _⟩ := hblk k b' h
    rw [hnid]
    exact (List.getElem?_eq_some_iff.1 g1).1
  refine Calls.mono (fn_ok hE hL n f fn args' vs st q ρ0 w hf hq hd0 hHR hst fun k hk => hρ0n k (by rw [List.getElem?_eq_none_iff]; omega)) fun e w' hw => ?_
  cases e with
  | panicked _ => exact hw.elim
  | outgrown => exact hw.elim
  | returned x =>
    obtain ⟨ρq, k1, k2, k3, k4, k5, k6, k7⟩ := hw
    generalize hm : ids.length = m at *
    let g := gOf ids m nid
    let ρ' : Ren := fun id => if nid ≤ id ∧ id < nid + r0.cnt then ρq (m + (id - nid)) else ρ id
    have hρn : ∀ id, ¬ (nid ≤ id ∧ id < nid + r0.cnt) → ρ' id = ρ id := fun id h => if_neg h
    have hρy : ∀ id, nid ≤ id → id < nid + r0.cnt → ρ' id = ρq (m + (id - nid)) := fun id h h' => if_pos ⟨h, h'⟩
    have hidlt : ∀ k i : Nat, ids[k]? = some (some i) → i < nid := fun k i h => by
      obtain ⟨b, g1, g2⟩ := hbl k i h
      exact hlow i b g2
    have hs2 : Sub ρ ρ' := fun id y hy => by
      by_cases e : nid ≤ id ∧ id < nid + r0.cnt
      · rw [hfree id e.1 e.2] at hy; cases hy
      · rw [hρn id e]; exact hy
    have hsg : ∀ k y, ids[k]? ≠ some none → ρq k = some y → ρ' (g k) = some y := fun k y hnn hy => by
      by_cases hk : k < m + r0.cnt
      · cases hi : ids[k]? with
        | some i => cases i with
          | none => exact absurd hi hnn
          | some i =>
            have hg : g k = i := gOf_old hi
            have := hidlt k i hi
            rw [hg, hρn i (by omega)]
            rcases k7 k y hy with h | h
            · rw [hρ0 k _ hi] at h; exact h
            · have := (List.getElem?_eq_some_iff.1 hi).1
              omega
        | none =>
          have hg : g k = nid + (k - m) := gOf_new hi
          have := List.getElem?_eq_none_iff.1 hi
          rw [hg, hρy _ (by omega) (by omega), show m + (nid + (k - m) - nid) = k by omega]
          exact hy
      · rw [k5 k (by omega)] at hy; cases hy
    have hwn : ∀ p ∈ r0.wr, ids[p.1]? ≠ some none := fun p hp e => by
      rcases hwk p hp with ⟨i, b, g1, _⟩ | ⟨g1, _⟩
      · rw [e] at g1; cases g1
      · rw [e] at g1; cases g1
    -- what is written
    let wr2 := wrOf (r0.wr.map fun p => (g p.1, p.2))
    have hmem : ∀ h, h ∈ wr2 ↔ ∃ p, p ∈ r0.wr ∧ h = ⟨g p.1, some p.2⟩ := fun h => by
      show h ∈ wrOf (r0.wr.map fun p => (g p.1, p.2)) ↔ _
      unfold wrOf
      simp only [List.map_map, List.mem_map, Function.comp]
      constructor
      · rintro ⟨p, h1, h2⟩; exact ⟨p, h1, h2.symm⟩
      · rintro ⟨p, h1, h2⟩; exact ⟨p, h1, h2.symm⟩
    have hgk : ∀ p ∈ r0.wr, ∀ p' ∈ r0.wr, g p.1 = g p'.1 → p = p' := fun p hp p' hp' e => by
      refine huniq p hp p' hp' ?_
      rcases hwk p hp with ⟨i, b, g1, _, _, g4⟩ | ⟨g1, g2⟩ <;> rcases hwk p' hp' with ⟨i', b', g1', _, _, g4'⟩ | ⟨g1', g2'⟩
      · have e1 : g p.1 = i := gOf_old g1
        have e2 : g p'.1 = i' := gOf_old g1'
        exact hone p.1 i (hasKey_mem.2 ⟨p, hp, rfl⟩) g1 p'.1 (by rw [g1', ← e2, ← e, e1])
      · have e1 : g p.1 = i := gOf_old g1
        have e2 : g p'.1 = nid + (p'.1 - m) := gOf_new g1'
        have := hidlt _ _ g1
        omega
      · have e1 : g p.1 = nid + (p.1 - m) := gOf_new g1
        have e2 : g p'.1 = i' := gOf_old g1'
        have := hidlt _ _ g1'
        omega
      · have e1 : g p.1 = nid + (p.1 - m) := gOf_new g1
        have e2 : g p'.1 = nid + (p'.1 - m) := gOf_new g1'
        have := List.getElem?_eq_none_iff.1 g1
        have := List.getElem?_eq_none_iff.1 g1'
        omega
    have hlast : ∀ p ∈ r0.wr, lastBlk wr2 (g p.1) = some (some p.2) := fun p hp => by
      refine lastBlk_uniq (l := wr2) (u := ⟨g p.1, some p.2⟩) ((hmem _).2 ⟨p, hp, rfl⟩) fun v hv e => ?_
      obtain ⟨p', hp', rfl⟩ := (hmem _).1 hv
      rw [hgk p' hp' p hp e]
    have hin : ∀ p ∈ r0.wr, mtU mt wr2 (g p.1) = some p.2.mt ∧ ctU ct wr2 (g p.1) = contAt p.2.cont := fun p hp => by
      rw [mtU_last, ctU_last, hlast p hp]
      exact ⟨rfl, rfl⟩
    have hout : ∀ id, (∀ p ∈ r0.wr, g p.1 ≠ id) → mtU mt wr2 id = mt id ∧ ctU ct wr2 id = ct id := fun id hno => by
      have : lastBlk wr2 id = none := (lastBlk_none _ _).2 fun h hh e => by
        obtain ⟨p, hp, rfl⟩ := (hmem _).1 hh
        exact hno p hp e
      rw [mtU_last, ctU_last, this]
      exact ⟨rfl, rfl⟩
    -- what the evaluation says of a written block
    have hev : ∀ p ∈ r0.wr, ∃ b', mtOf q.2.hp p.1 = some b'.mt ∧ (∀ j, ctOf q.2.hp p.1 j = contAt b'.cont j) ∧ LessBlk p.2 b' ∧ (m ≤ p.1 → b'.own = true) ∧ ∀ y, ρ' (g p.1) = some y → ρq p.1 = some y := fun p hp => by
      obtain ⟨b', h1, h2, h3⟩ := hwr p hp
      have hmq : mtOf q.2.hp p.1 = some b'.mt := by simp [mtOf, h1]
      refine ⟨b', hmq, fun j => ctOf_at h1 j, h2, fun h => h3 (by omega), fun y hy => ?_⟩
      obtain ⟨ob, hob', _⟩ := k2.blk p.1 _ hmq
      rw [hsg p.1 ob (hwn p hp) hob'] at hy
      rw [hob', hy]
    have inO : ∀ id m y, mt id = some m → ρ' id = some y → ρ id = some y := fun id m y h1 h2 => by
      obtain ⟨ob, hob', _⟩ := hr.blk id m h1
      rw [hs2 id ob hob'] at h2
      rw [hob', h2]
    -- who owns a block here owns it at the caller
    have hownc : ∀ k m0 b C, mtOf st.hp k = some m0 → m0.own = true → ρ0 k = some (some (b, C)) → ∃ i bb, ids[k]? = some (some i) ∧ mt i = some bb ∧ bb.own = true ∧ ρ i = some (some (b, C)) ∧ ∃ p, p ∈ r0.wr ∧ g p.1 = i := fun k m0 b C h1 h2 h3 => by
      obtain ⟨b', g1, rfl⟩ := hmt0 k m0 h1
      obtain ⟨i, bb, g2, g3, g4, _, g6, g7, g8, g9⟩ := hknow k b' b C g1 h3
      obtain ⟨p, hp, hpk⟩ := hasKey_mem.1 (g8 h2)
      exact ⟨i, bb.mt, g2, g6, g4.own h2, g9, p, hp, by rw [hpk]; exact gOf_old g2⟩
    have hkeep : ∀ id m b C, (∀ p ∈ r0.wr, g p.1 ≠ id) → mt id = some m → ρ id = some (some (b, C)) → w'.heap[b]? = w.heap[b]? := fun id m1 b C hno h1 h4 => by
      refine k3.block b (hr.lt id m1 b C h1 h4) fun id0 m0 C0 g1 g2 g3 => ?_
      obtain ⟨i, bb, e1, e2, e3, e4, p, hp, e5⟩ := hownc id0 m0 b C0 g1 g2 g3
      exact hr.apart i id bb m1 b C0 b C (fun e => hno p hp (by rw [e5, e])) e2 e3 h1 e4 h4 rfl
    have hHR2 : HRel ρ' (mtU mt wr2) (ctU ct wr2) w' := by
      have cas : ∀ id, (∃ p, p ∈ r0.wr ∧ g p.1 = id) ∨ ∀ p ∈ r0.wr, g p.1 ≠ id := fun id => by
        by_cases e : ∃ p, p ∈ r0.wr ∧ g p.1 = id
        · exact .inl e
        · exact .inr fun p hp he => e ⟨p, hp, he⟩
      refine ⟨fun id m1 h1 => ?_, fun id m1 b C h1 h2 => ?_, fun id m1 b C j v h1 h2 h3 => ?_, fun id m1 b C h1 h2 h3 => ?_, fun id m1 b C j v h1 h2 h3 h4 => ?_, fun i j mi mj b C b' C' hij h1 ho h4 h5 h6 => ?_⟩
      · rcases cas id with ⟨p, hp, rfl⟩ | hno
        · rw [(hin p hp).1] at h1
          obtain rfl := Option.some.inj h1
          obtain ⟨b', g1, g2, g3, g4, g5⟩ := hev p hp
          obtain ⟨ob, e1, e2⟩ := k2.blk p.1 _ g1
          exact ⟨ob, hsg _ _ (hwn p hp) e1, by rw [← e2]; exact g3.nil⟩
        · rw [(hout id hno).1] at h1
          obtain ⟨ob, e1, e2⟩ := hr.blk id m1 h1
          exact ⟨ob, hs2 id ob e1, e2⟩
      · rcases cas id with ⟨p, hp, rfl⟩ | hno
        · obtain ⟨b', g1, g2, g3, g4, g5⟩ := hev p hp
          exact k2.lt p.1 _ b C g1 (g5 _ h2)
        · rw [(hout id hno).1] at h1
          exact Nat.lt_of_lt_of_le (hr.lt id m1 b C h1 (inO id m1 _ h1 h2)) k3.size
      · rcases cas id with ⟨p, hp, rfl⟩ | hno
        · obtain ⟨b', g1, g2, g3, g4, g5⟩ := hev p hp
          rw [(hin p hp).2] at h3
          obtain ⟨v', e1, e2⟩ := g3.cont j v h3
          obtain ⟨x, e3, e4, e5⟩ := k2.cell p.1 _ b C j v' g1 (g5 _ h2) (by rw [g2]; exact e1)
          exact ⟨x, by rw [e2 ρ' ρq]; exact e3, e4, e5⟩
        · rw [(hout id hno).1] at h1
          rw [(hout id hno).2] at h3
          have h2' := inO id m1 _ h1 h2
          obtain ⟨x, e1, e2, e3⟩ := hr.cell id m1 b C j v h1 h2' h3
          refine ⟨x, den_mono hs2 e1, ?_, e3⟩
          rw [← e2]
          exact World.cell?_of_block (w := w) (hkeep id m1 b C hno h1 h2')
      · rcases cas id with ⟨p, hp, rfl⟩ | hno
        · rw [(hin p hp).1] at h1
          obtain rfl := Option.some.inj h1
          obtain ⟨b', g1, g2, g3, g4, g5⟩ := hev p hp
          obtain ⟨e1, e2⟩ := k2.own p.1 _ b C g1 (g3.own h2) (g5 _ h3)
          exact ⟨e1, fun s hs => e2 s (g3.size s hs)⟩
        · rw [(hout id hno).1] at h1
          have h3' := inO id m1 _ h1 h3
          obtain ⟨e1, e2⟩ := hr.own id m1 b C h1 h2 h3'
          exact ⟨by rw [hkeep id m1 b C hno h1 h3']; exact e1, e2⟩
      · rcases cas id with ⟨p, hp, rfl⟩ | hno
        · rw [(hin p hp).1] at h1
          obtain rfl := Option.some.inj h1
          rw [(hin p hp).2] at h4
          obtain ⟨b', g1, g2, g3, g4, g5⟩ := hev p hp
          obtain ⟨v', e1, _⟩ := g3.cont j v h4
          exact k2.low p.1 _ b C j v' g1 (g3.own h2) (g5 _ h3) (by rw [g2]; exact e1)
        · rw [(hout id hno).1] at h1
          rw [(hout id hno).2] at h4
          exact hr.low id m1 b C j v h1 h2 (inO id m1 _ h1 h3) h4
      · rcases cas i with ⟨p, hp, rfl⟩ | hni <;> rcases cas j with ⟨p', hp', rfl⟩ | hnj
        · rw [(hin p hp).1] at h1
          obtain rfl := Option.some.inj h1
          obtain ⟨b1, g1, g2, g3, g4, g5⟩ := hev p hp
          obtain ⟨b2, g1', g2', g3', g4', g5'⟩ := hev p' hp'
          exact k2.apart p.1 p'.1 _ _ b C b' C' (fun e => hij (by rw [e])) g1 (g3.own ho) g1' (g5 _ h5) (g5' _ h6)
        · rw [(hin p hp).1] at h1
          obtain rfl := Option.some.inj h1
          obtain ⟨b1, g1, g2, g3, g4, g5⟩ := hev p hp
          rw [(hout j hnj).1] at h4
          have h6' := inO j mj _ h4 h6
          have hb' := hr.lt j mj b' C' h4 h6'
          intro hbb
          obtain ⟨id0, m0, C0, e1, e2, e3⟩ := k3.own p.1 _ b C g1 (g3.own ho) (g5 _ h5) (by omega)
          obtain ⟨i0, bb, f1, f2, f3, f4, p0, hp0, f5⟩ := hownc id0 m0 b C0 e1 e2 e3
          exact hr.apart i0 j bb mj b C0 b' C' (fun e => hnj p0 hp0 (by rw [f5, e])) f2 f3 h4 f4 h6' hbb
        · rw [(hout i hni).1] at h1
          have h5' := inO i mi _ h1 h5
          obtain ⟨b2, g1', g2', g3', g4', g5'⟩ := hev p' hp'
          rcases hwk p' hp' with ⟨i', bb, f1, f2, f3, f4⟩ | ⟨f1, f2⟩
          · have eg : g p'.1 = i' := gOf_old f1
            obtain ⟨f5, f6, _⟩ := hcal _ _ _ f1 f2
            rw [eg] at h6 hij
            exact hr.apart i i' mi bb.mt b C b' C' hij h1 ho f6 h5' (inO i' _ _ f6 h6)
          · have hown := g4' (by have := List.getElem?_eq_none_iff.1 f1; omega)
            intro hbb
            have hb := hr.lt i mi b C h1 h5'
            obtain ⟨id0, m0, C0, e1, e2, e3⟩ := k3.own p'.1 _ b' C' g1' hown (g5' _ h6) (by omega)
            obtain ⟨i0, bb, u1, u2, u3, u4, p0, hp0, u5⟩ := hownc id0 m0 b' C0 e1 e2 e3
            exact hr.apart i0 i bb mi b' C0 b C (fun e => hni p0 hp0 (by rw [u5, e])) u2 u3 h1 u4 h5' hbb.symm
        · rw [(hout i hni).1] at h1
          rw [(hout j hnj).1] at h4
          exact hr.apart i j mi mj b C b' C' hij h1 ho h4 (inO i mi _ h1 h5) (inO j mj _ h4 h6)
    refine ⟨ρ', ?_, hHR2, ⟨hs2, k3.os, k3.tape, k3.output, k3.size, fun b hb hno => ?_, fun id m1 b C h1 ho h4 hb => ?_⟩, fun id y hy => ?_⟩
    · show den ρ' (renV (gOf ids m nid) r0.val) = some x
      rw [den_renV]
      exact den_on (fun i hi y hy => hsg i y (noNil_ids hnon i hi) hy) (hval ρq x k1)
    · refine k3.block b hb fun id0 m0 C0 g1 g2 g3 => ?_
      obtain ⟨i, bb, e1, e2, e3, e4, _⟩ := hownc id0 m0 b C0 g1 g2 g3
      exact hno i bb C0 e2 e3 e4
    · by_cases e : ∃ p, p ∈ r0.wr ∧ g p.1 = id
      · obtain ⟨p, hp, rfl⟩ := e
        have h1' := (hin p hp).1
        rw [h1'] at h1
        obtain rfl := Option.some.inj h1
        obtain ⟨b1, g1, g2, g3, g4, g5⟩ := hev p hp
        obtain ⟨id0, m0, C0, e1, e2, e3⟩ := k3.own p.1 _ b C g1 (g3.own ho) (g5 _ h4) hb
        obtain ⟨i, bb, f1, f2, f3, f4, _⟩ := hownc id0 m0 b C0 e1 e2 e3
        exact ⟨i, bb, C0, f2, f3, f4⟩
      · have hno : ∀ p ∈ r0.wr, g p.1 ≠ id := fun p hp he => e ⟨p, hp, he⟩
        have h1' := (hout id hno).1
        rw [h1'] at h1
        exact ⟨id, m1, C, h1, ho, inO id m1 _ h1 h4⟩
    · by_cases e : nid ≤ id ∧ id < nid + r0.cnt
      · exact .inr e
      · rw [hρn id e] at hy; exact .inl hy

end Go.LE
