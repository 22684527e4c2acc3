/- An evaluator for the translated program, proved against its model, and what functions of the program come to. Conditions: those that stand in each theorem. -/
import Derived.Test.YtiocbpimlemafaaSk2
import Derived.WalkKit
import Derived.ProofKit
import Derived.OpenShut
import Derived.ChangeOld
import Derived.Below
import Derived.Test.YtiocbpimlemafaaProg

/- The local evaluator: states that say less, loops, and loops that are summed up. -/
namespace Go.LE
open Go.RowKit

/-- One block says no more than another one that is owned alike. -/
structure BlkLe (b b' : Blk) : Prop where
  nil : b.nil = b'.nil
  own : b.own = b'.own
  size : ∀ s, b.mt.size = some s → b'.mt.size = some s
  cont : ∀ i v, contAt b.cont i = some v → ∃ v', contAt b'.cont i = some v' ∧ ∀ ρ : Ren, den ρ v' = den ρ v

theorem BlkLe.refl (b : Blk) : BlkLe b b := ⟨rfl, rfl, fun _ h => h, fun _ v h => ⟨v, h, fun _ => rfl⟩⟩

/-- One state says no more than another one. -/
structure StLe (st st' : St) : Prop where
  nsl : st.nsl ≤ st'.nsl
  nid : st.nid = st'.nid
  slots : ∀ t v, st.sl.get t = some v → ∃ v', st'.sl.get t = some v' ∧ ∀ ρ : Ren, den ρ v' = den ρ v
  blk : ∀ id b, st.hp.get id = some b → ∃ b', st'.hp.get id = some b' ∧ BlkLe b b'

theorem BlkLe.trans {a b c : Blk} (h : BlkLe a b) (k : BlkLe b c) : BlkLe a c :=
  ⟨h.nil.trans k.nil, h.own.trans k.own, fun s hs => k.size s (h.size s hs), fun i v hv => by
    obtain ⟨v1, h1, h2⟩ := h.cont i v hv
    obtain ⟨v2, h3, h4⟩ := k.cont i v1 h1
    exact ⟨v2, h3, fun ρ => (h4 ρ).trans (h2 ρ)⟩⟩

theorem StLe.refl (st : St) : StLe st st := ⟨Nat.le_refl _, rfl, fun _ v h => ⟨v, h, fun _ => rfl⟩, fun _ b h => ⟨b, h, .refl b⟩⟩

theorem StLe.trans {a b c : St} (h : StLe a b) (k : StLe b c) : StLe a c :=
  ⟨Nat.le_trans h.nsl k.nsl, h.nid.trans k.nid, fun t v hv => by
    obtain ⟨v1, h1, h2⟩ := h.slots t v hv
    obtain ⟨v2, h3, h4⟩ := k.slots t v1 h1
    exact ⟨v2, h3, fun ρ => (h4 ρ).trans (h2 ρ)⟩, fun id b hb => by
    obtain ⟨b1, h1, h2⟩ := h.blk id b hb
    obtain ⟨b2, h3, h4⟩ := k.blk id b1 h1
    exact ⟨b2, h3, h2.trans h4⟩⟩

theorem StLe.own {st st' : St} (h : StLe st st') {id : Nat} {m : Mt} (hm : mtOf st.hp id = some m) : ∃ m', mtOf st'.hp id = some m' ∧ m.own = m'.own ∧ m.nil = m'.nil ∧ ∀ s, m.size = some s → m'.size = some s := by
  simp only [mtOf, Option.map_eq_some_iff] at hm
  obtain ⟨b, hb, rfl⟩ := hm
  obtain ⟨b', h1, h2⟩ := h.blk id b hb
  exact ⟨b'.mt, by simp [mtOf, h1], h2.own, h2.nil, h2.size⟩

theorem StLe.ok {ρ : Ren} {w : World} {st st' : St} {a : Act} (h : StLe st st') (k : StOk ρ w st' a) : StOk ρ w st a := by
  refine ⟨fun t v hv => ?_, Nat.le_trans h.nsl k.size, ⟨fun id m h1 => ?_, fun id m b C h1 h2 => ?_, fun id m b C i v h1 h2 h3 => ?_, fun id m b C h1 h2 h3 => ?_, fun id m b C i v h1 h2 h3 h4 => ?_, fun i j mi mj b C b' C' hij h1 h2 h3 h4 h5 => ?_⟩, fun id b hb => ?_, fun n hn => k.fresh n (by rw [← h.nid]; exact hn)⟩
  · obtain ⟨v', h1, h2⟩ := h.slots t v hv
    obtain ⟨x, h3, h4⟩ := k.slots t v' h1
    exact ⟨x, by rw [← h2 ρ]; exact h3, h4⟩
  · obtain ⟨m', g1, g2, g3, g4⟩ := h.own h1
    obtain ⟨ob, e1, e2⟩ := k.heap.blk id m' g1
    exact ⟨ob, e1, by rw [g3]; exact e2⟩
  · obtain ⟨m', g1, g2, g3, g4⟩ := h.own h1
    exact k.heap.lt id m' b C g1 h2
  · simp only [mtOf, Option.map_eq_some_iff] at h1
    obtain ⟨bk, hb, rfl⟩ := h1
    obtain ⟨b', g1, g2⟩ := h.blk id bk hb
    rw [ctOf_at hb] at h3
    obtain ⟨v', e1, e2⟩ := g2.cont i v h3
    obtain ⟨x, e3, e4, e5⟩ := k.heap.cell id b'.mt b C i v' (by simp [mtOf, g1]) h2 (by rw [ctOf_at g1]; exact e1)
    exact ⟨x, by rw [← e2 ρ]; exact e3, e4, e5⟩
  · obtain ⟨m', g1, g2, g3, g4⟩ := h.own h1
    obtain ⟨e1, e2⟩ := k.heap.own id m' b C g1 (by rw [← g2]; exact h2) h3
    exact ⟨e1, fun s hs => e2 s (g4 s hs)⟩
  · simp only [mtOf, Option.map_eq_some_iff] at h1
    obtain ⟨bk, hb, rfl⟩ := h1
    obtain ⟨b', g1, g2⟩ := h.blk id bk hb
    rw [ctOf_at hb] at h4
    obtain ⟨v', e1, e2⟩ := g2.cont i v h4
    exact k.heap.low id b'.mt b C i v' (by simp [mtOf, g1]) (by show b'.own = true; rw [← g2.own]; exact h2) h3 (by rw [ctOf_at g1]; exact e1)
  · obtain ⟨m', g1, g2, g3, g4⟩ := h.own h1
    obtain ⟨m2, g1', g2', g3', g4'⟩ := h.own h3
    exact k.heap.apart i j m' m2 b C b' C' hij g1 (by rw [← g2]; exact h2) g1' h4 h5
  · obtain ⟨b', g1, _⟩ := h.blk id b hb
    rw [h.nid]
    exact k.low id b' g1

theorem Ext.le {ρ ρ' : Ren} {w w' : World} {st st0 s s0 : St} (h : Ext ρ (mtOf st.hp) w ρ' (mtOf s.hp) w') (h1 : StLe st st0) (h2 : StLe s0 s) : Ext ρ (mtOf st0.hp) w ρ' (mtOf s0.hp) w' := by
  refine ⟨h.sub, h.os, h.tape, h.output, h.size, fun b hb hno => h.block b hb fun id m C g1 g2 g3 => ?_, fun id m b C g1 g2 g3 hb => ?_⟩
  · obtain ⟨m', e1, e2, _⟩ := h1.own g1
    exact hno id m' C e1 (by rw [← e2]; exact g2) g3
  · obtain ⟨m', e1, e2, _⟩ := h2.own g1
    obtain ⟨id0, m0, C0, k1, k2, k3⟩ := h.own id m' b C e1 (by rw [← e2]; exact g2) g3 hb
    obtain ⟨m1, e3, e4, _⟩ := h1.own k1
    exact ⟨id0, m1, C0, e3, by rw [← e4]; exact k2, k3⟩

theorem Goes.le {ρ ρ' : Ren} {w w' : World} {st st0 s s0 : St} {a a' : Act} (h : Goes ρ w st a ρ' w' s a') (h1 : StLe st st0) (h2 : StLe s0 s) : Goes ρ w st0 a ρ' w' s0 a' :=
  ⟨h2.ok h.ok, h.ext.le h1 h2, h.defers, by rw [← h1.nid, h2.nid]; exact h.nid, fun id y hy => by rw [← h1.nid]; exact h.dom id y hy⟩

theorem CodeRes.le {P : Program} {c : Code} {st st0 s0 : St} {r : LX × St} (h : CodeRes P c st r) (h1 : StLe st st0) (h2 : StLe s0 r.2) : CodeRes P c st0 (r.1, s0) := fun ρ w a Q hs hQ =>
  h ρ w a Q (h1.ok hs) fun ρ' w' a' hg => hQ ρ' w' a' (hg.le h1 h2)

/-- A later state that says less, with fewer block numbers. -/
structure CutLe (s0 s : St) : Prop where
  nsl : s0.nsl ≤ s.nsl
  nid : s0.nid ≤ s.nid
  slots : ∀ t v, s0.sl.get t = some v → (∃ v', s.sl.get t = some v' ∧ ∀ ρ : Ren, den ρ v' = den ρ v) ∧ ∀ i ∈ idsV v, i < s0.nid
  blk : ∀ id b, s0.hp.get id = some b → id < s0.nid ∧ (∀ i ∈ idsC b.cont, i < s0.nid) ∧ ∃ b', s.hp.get id = some b' ∧ BlkLe b b'

theorem cutR_lt {ρ : Ren} {n k : Nat} (h : k < n) : cutR ρ n k = ρ k := if_pos h

theorem Goes.cut {ρ ρ' : Ren} {w w' : World} {st s s0 : St} {a a' : Act} (h : Goes ρ w st a ρ' w' s a') (hs : StOk ρ w st a) (hc : CutLe s0 s) (hn : st.nid ≤ s0.nid) : Goes ρ w st a (cutR ρ' s0.nid) w' s0 a' := by
  have hmt : ∀ id m, mtOf s0.hp id = some m → id < s0.nid ∧ ∃ m', mtOf s.hp id = some m' ∧ m.own = m'.own ∧ m.nil = m'.nil ∧ ∀ x, m.size = some x → m'.size = some x := fun id m hm => by
    simp only [mtOf, Option.map_eq_some_iff] at hm
    obtain ⟨b, hb, rfl⟩ := hm
    obtain ⟨h1, _, b', h2, h3⟩ := hc.blk id b hb
    exact ⟨h1, b'.mt, by simp [mtOf, h2], h3.own, h3.nil, h3.size⟩
  refine ⟨⟨fun t v hv => ?_, Nat.le_trans hc.nsl h.ok.size, ⟨fun id m h1 => ?_, fun id m b C h1 h2 => ?_, fun id m b C i v h1 h2 h3 => ?_, fun id m b C h1 h2 h3 => ?_, fun id m b C i v h1 h2 h3 h4 => ?_, fun i j mi mj b C b' C' hij h1 h2 h3 h4 h5 => ?_⟩, fun id b hb => (hc.blk id b hb).1, fun k hk => ?_⟩,
    ⟨fun id y hy => ?_, h.ext.os, h.ext.tape, h.ext.output, h.ext.size, h.ext.block, fun id m b C h1 h2 h3 hb => ?_⟩, h.defers, hn, fun id y hy => ?_⟩
  · obtain ⟨⟨v', h1, h2⟩, h3⟩ := hc.slots t v hv
    obtain ⟨x, h4, h5⟩ := h.ok.slots t v' h1
    refine ⟨x, ?_, h5⟩
    rw [← h4, h2]
    exact den_congr fun i hi => cutR_lt (h3 i hi)
  · obtain ⟨hlt, m', g1, g2, g3, g4⟩ := hmt id m h1
    obtain ⟨ob, e1, e2⟩ := h.ok.heap.blk id m' g1
    exact ⟨ob, by rw [cutR_lt hlt]; exact e1, by rw [g3]; exact e2⟩
  · obtain ⟨hlt, m', g1, g2, g3, g4⟩ := hmt id m h1
    rw [cutR_lt hlt] at h2
    exact h.ok.heap.lt id m' b C g1 h2
  · simp only [mtOf, Option.map_eq_some_iff] at h1
    obtain ⟨bk, hb, rfl⟩ := h1
    obtain ⟨hlt, hids, b', g1, g2⟩ := hc.blk id bk hb
    rw [cutR_lt hlt] at h2
    rw [ctOf_at hb] at h3
    obtain ⟨v', e1, e2⟩ := g2.cont i v h3
    obtain ⟨x, e3, e4, e5⟩ := h.ok.heap.cell id b'.mt b C i v' (by simp [mtOf, g1]) h2 (by rw [ctOf_at g1]; exact e1)
    refine ⟨x, ?_, e4, e5⟩
    rw [← e3, e2]
    exact den_congr fun k hk => cutR_lt (hids k (contAt_ids h3 k hk))
  · obtain ⟨hlt, m', g1, g2, g3, g4⟩ := hmt id m h1
    rw [cutR_lt hlt] at h3
    obtain ⟨e1, e2⟩ := h.ok.heap.own id m' b C g1 (by rw [← g2]; exact h2) h3
    exact ⟨e1, fun s hs => e2 s (g4 s hs)⟩
  · simp only [mtOf, Option.map_eq_some_iff] at h1
    obtain ⟨bk, hb, rfl⟩ := h1
    obtain ⟨hlt, hids, b', g1, g2⟩ := hc.blk id bk hb
    rw [cutR_lt hlt] at h3
    rw [ctOf_at hb] at h4
    obtain ⟨v', e1, e2⟩ := g2.cont i v h4
    exact h.ok.heap.low id b'.mt b C i v' (by simp [mtOf, g1]) (by show b'.own = true; rw [← g2.own]; exact h2) h3 (by rw [ctOf_at g1]; exact e1)
  · obtain ⟨hlt, m', g1, g2, g3, g4⟩ := hmt i mi h1
    obtain ⟨hlt', m2, g1', g2', g3', g4'⟩ := hmt j mj h3
    rw [cutR_lt hlt] at h4
    rw [cutR_lt hlt'] at h5
    exact h.ok.heap.apart i j m' m2 b C b' C' hij g1 (by rw [← g2]; exact h2) g1' h4 h5
  · unfold cutR
    rw [if_neg (by omega)]
  · have h1 := h.ext.sub id y hy
    by_cases e : id < s0.nid
    · rw [cutR_lt e]; exact h1
    · exfalso
      rcases Nat.lt_or_ge id st.nid with g | g
      · omega
      · -- the first state knows no such number
        exact absurd hy (by rw [hs.fresh id g]; simp)
  · obtain ⟨hlt, m', g1, g2, g3, g4⟩ := hmt id m h1
    rw [cutR_lt hlt] at h3
    exact h.ext.own id m' b C g1 (by rw [← g2]; exact h2) h3 hb
  · exact h.dom id y (cutR_sub ρ' s0.nid id y hy)

theorem CodeRes.cut {P : Program} {c : Code} {st s0 : St} {r : LX × St} (h : CodeRes P c st r) (h2 : CutLe s0 r.2) (hn : st.nid ≤ s0.nid) : CodeRes P c st (r.1, s0) := fun ρ w a Q hs hQ =>
  h ρ w a Q hs fun ρ' w' a' hg => hQ _ w' a' (hg.cut hs h2 hn)

/- Loops. -/

/-- What a loop's rounds come to. -/
def LoopRes (P : Program) (b : Code) (st : St) (r : LX × St) : Prop := ∃ n, ∀ (ρ : Ren) (w : World) (a : Act) (Q : Exit → Act → World → Prop), StOk ρ w st a →
  (∀ ρ' w' a', Goes ρ w st a ρ' w' r.2 a' → Q (exitOf r.1) a' w') → Code.rounds P b Q n a w

theorem LoopRes.step {P : Program} {b : Code} {st s : St} {r : LX × St} (h : CodeRes P b st (.nrm, s)) (k : LoopRes P b s r) : LoopRes P b st r := by
  obtain ⟨n, k⟩ := k
  refine ⟨n + 1, fun ρ w a Q hs hQ => ?_⟩
  rw [rounds_succ]
  exact h ρ w a _ hs fun ρ1 w1 a1 hg => k ρ1 w1 a1 Q hg.ok fun ρ2 w2 a2 hg2 => hQ ρ2 w2 a2 (hg.trans hg2)

theorem LoopRes.out {P : Program} {b : Code} {st : St} {r : LX × St} (h : CodeRes P b st r) (hr : r.1 ≠ .nrm) : LoopRes P b st r := by
  refine ⟨1, fun ρ w a Q hs hQ => ?_⟩
  rw [rounds_succ]
  refine h ρ w a _ hs fun ρ1 w1 a1 hg => ?_
  have := hQ ρ1 w1 a1 hg
  cases hr1 : r.1 with
  | nrm => exact (hr hr1).elim
  | ex i => rw [hr1] at this; exact this
  | ret => rw [hr1] at this; exact this

theorem LoopRes.le {P : Program} {b : Code} {st st0 s0 : St} {r : LX × St} (h : LoopRes P b st r) (h1 : StLe st st0) (h2 : StLe s0 r.2) : LoopRes P b st0 (r.1, s0) := by
  obtain ⟨n, h⟩ := h
  exact ⟨n, fun ρ w a Q hs hQ => h ρ w a Q (h1.ok hs) fun ρ' w' a' hg => hQ ρ' w' a' (hg.le h1 h2)⟩

theorem LoopRes.cut {P : Program} {b : Code} {st s0 : St} {r : LX × St} (h : LoopRes P b st r) (h2 : CutLe s0 r.2) (hn : st.nid ≤ s0.nid) : LoopRes P b st (r.1, s0) := by
  obtain ⟨n, h⟩ := h
  exact ⟨n, fun ρ w a Q hs hQ => h ρ w a Q hs fun ρ' w' a' hg => hQ _ w' a' (hg.cut hs h2 hn)⟩

theorem LoopRes.code {P : Program} {b : Code} {st : St} {r : LX × St} (h : LoopRes P b st r) : CodeRes P (.loop b) st r := by
  obtain ⟨n, h⟩ := h
  exact fun ρ w a Q hs hQ => wp_loop_rounds n (h ρ w a Q hs hQ)

/- Loops that are summed up. -/

/-- Some slots alone. -/
def keepS (sl : Trie LVal) : List Nat → Trie LVal → Trie LVal
  | [], t => t
  | n :: l, t => match sl.get n with
    | some v => keepS sl l (t.put n v)
    | none => keepS sl l t

/-- Some blocks alone. -/
def keepB (hp : Trie Blk) : List Nat → Trie Blk → Trie Blk
  | [], t => t
  | n :: l, t => match hp.get n with
    | some v => keepB hp l (t.put n v)
    | none => keepB hp l t

theorem keepS_get {sl : Trie LVal} : ∀ (l : List Nat) (t : Trie LVal) (n : Nat) (v : LVal), (keepS sl l t).get n = some v → t.get n = some v ∨ (sl.get n = some v ∧ n ∈ l)
  | [], t, n, v, hv => .inl hv
  | m :: l, t, n, v, hv => by
    simp only [keepS] at hv
    split at hv
    · rename_i u hu
      rcases keepS_get l _ n v hv with h | ⟨h1, h2⟩
      · rw [Trie.get_put] at h
        split at h
        · rename_i e; exact .inr ⟨by rw [e, hu]; exact h, by rw [e]; exact List.mem_cons_self ..⟩
        · exact .inl h
      · exact .inr ⟨h1, List.mem_cons_of_mem _ h2⟩
    · rcases keepS_get l _ n v hv with h | ⟨h1, h2⟩
      · exact .inl h
      · exact .inr ⟨h1, List.mem_cons_of_mem _ h2⟩

theorem keepB_get {hp : Trie Blk} : ∀ (l : List Nat) (t : Trie Blk) (n : Nat) (v : Blk), (keepB hp l t).get n = some v → t.get n = some v ∨ (hp.get n = some v ∧ n ∈ l)
  | [], t, n, v, hv => .inl hv
  | m :: l, t, n, v, hv => by
    simp only [keepB] at hv
    split at hv
    · rename_i u hu
      rcases keepB_get l _ n v hv with h | ⟨h1, h2⟩
      · rw [Trie.get_put] at h
        split at h
        · rename_i e; exact .inr ⟨by rw [e, hu]; exact h, by rw [e]; exact List.mem_cons_self ..⟩
        · exact .inl h
      · exact .inr ⟨h1, List.mem_cons_of_mem _ h2⟩
    · rcases keepB_get l _ n v hv with h | ⟨h1, h2⟩
      · exact .inl h
      · exact .inr ⟨h1, List.mem_cons_of_mem _ h2⟩

/-- Some slots and some blocks alone. -/
def St.keep (st : St) (l b : List Nat) : St := ⟨keepS st.sl l .leaf, st.nsl, keepB st.hp b .leaf, st.nid⟩

theorem keep_le (st : St) (l b : List Nat) : StLe (st.keep l b) st :=
  ⟨Nat.le_refl _, rfl, fun t v h => ⟨v, by
    rcases keepS_get l .leaf t v h with h | h
    · rw [Trie.get_leaf] at h; cases h
    · exact h.1, fun _ => rfl⟩, fun id v h => ⟨v, by
    rcases keepB_get b .leaf id v h with h | h
    · rw [Trie.get_leaf] at h; cases h
    · exact h.1, .refl v⟩⟩

/-- Some slots and some blocks alone, and fewer numbers. -/
def St.prune (st : St) (l b : List Nat) (n : Nat) : St := ⟨keepS st.sl l .leaf, st.nsl, keepB st.hp b .leaf, n⟩

def allLt (n : Nat) : List Nat → Bool
  | [] => true
  | i :: l => Nat.blt i n && allLt n l

theorem allLt_mem {n : Nat} : ∀ {l : List Nat}, allLt n l = true → ∀ i ∈ l, i < n
  | [], _, i, hi => by simp at hi
  | j :: l, h, i, hi => by
    simp only [allLt, Bool.and_eq_true] at h
    rcases List.mem_cons.1 hi with rfl | hi
    · exact Nat.le_of_ble_eq_true h.1
    · exact allLt_mem h.2 i hi

def slotsLt (sl : Trie LVal) (n : Nat) : List Nat → Bool
  | [] => true
  | t :: l => (match sl.get t with
    | some v => allLt n (idsV v)
    | none => true) && slotsLt sl n l

def blksLt (hp : Trie Blk) (n : Nat) : List Nat → Bool
  | [] => true
  | t :: l => Nat.blt t n && (match hp.get t with
    | some b => allLt n (idsC b.cont)
    | none => true) && blksLt hp n l

theorem slotsLt_mem {sl : Trie LVal} {n : Nat} : ∀ {l : List Nat}, slotsLt sl n l = true → ∀ t ∈ l, ∀ v, sl.get t = some v → ∀ i ∈ idsV v, i < n
  | [], _, t, ht => by simp at ht
  | u :: l, h, t, ht => by
    simp only [slotsLt, Bool.and_eq_true] at h
    rcases List.mem_cons.1 ht with rfl | ht
    · intro v hv
      rw [hv] at h
      exact allLt_mem h.1
    · exact slotsLt_mem h.2 t ht

theorem blksLt_mem {hp : Trie Blk} {n : Nat} : ∀ {l : List Nat}, blksLt hp n l = true → ∀ t ∈ l, t < n ∧ ∀ b, hp.get t = some b → ∀ i ∈ idsC b.cont, i < n
  | [], _, t, ht => by simp at ht
  | u :: l, h, t, ht => by
    simp only [blksLt, Bool.and_eq_true] at h
    rcases List.mem_cons.1 ht with rfl | ht
    · refine ⟨Nat.le_of_ble_eq_true h.1.1, fun b hb => ?_⟩
      have h2 := h.1.2
      rw [hb] at h2
      exact allLt_mem h2
    · exact blksLt_mem h.2 t ht

theorem prune_cut {st : St} {l b : List Nat} {n : Nat} (hn : n ≤ st.nid) (h : (slotsLt st.sl n l && blksLt st.hp n b) = true) : CutLe (st.prune l b n) st := by
  rw [Bool.and_eq_true] at h
  refine ⟨Nat.le_refl _, hn, fun t v hv => ?_, fun id bk hb => ?_⟩
  · rcases keepS_get l .leaf t v hv with h1 | ⟨h1, h2⟩
    · rw [Trie.get_leaf] at h1; cases h1
    · exact ⟨⟨v, h1, fun _ => rfl⟩, slotsLt_mem h.1 t h2 v h1⟩
  · rcases keepB_get b .leaf id bk hb with h1 | ⟨h1, h2⟩
    · rw [Trie.get_leaf] at h1; cases h1
    · obtain ⟨g1, g2⟩ := blksLt_mem h.2 id h2
      exact ⟨g1, g2 bk h1, bk, h1, .refl bk⟩

/- A block's cells told in another way. -/

def Cont.asInts (k : IntKind) : Cont → Cont
  | .cells l => match LVal.intsOf k l with
    | some a => .ints k a
    | none => .cells l
  | c => c

def Blk.asInts (k : IntKind) (b : Blk) : Blk := { b with cont := b.cont.asInts k }

theorem asInts_le (k : IntKind) (b : Blk) : BlkLe (b.asInts k) b := by
  refine ⟨rfl, rfl, fun _ h => h, fun i v hv => ?_⟩
  simp only [Blk.asInts, Cont.asInts] at hv
  split at hv
  · rename_i l hl
    split at hv
    · rename_i a ha
      simp only [contAt, Option.map_eq_some_iff] at hv
      obtain ⟨n, h1, rfl⟩ := hv
      obtain ⟨hlen, h2⟩ := intsOf_get (ρ := fun _ => none) ha
      have hi : i < l.length := by rw [← hlen]; exact (List.getElem?_eq_some_iff.1 h1).1
      refine ⟨l[i], by rw [hl]; simp only [contAt]; exact List.getElem?_eq_getElem hi, fun ρ => ?_⟩
      obtain ⟨m, h3, h4⟩ := (intsOf_get (ρ := ρ) ha).2 i _ (List.getElem?_eq_getElem hi)
      rw [h1] at h3
      obtain rfl := Option.some.inj h3
      rw [h4]; rfl
    · exact ⟨v, by rw [hl]; exact hv, fun _ => rfl⟩
  · exact ⟨v, hv, fun _ => rfl⟩

/-- An array's cells told as a function. -/
def Cont.asArr (k : IntKind) : Cont → Cont
  | .cells l => match LVal.intsOf k l with
    | some a => .arr k a.length (fun i => a.getD i 0)
    | none => .cells l
  | c => c

def Blk.asArr (k : IntKind) (b : Blk) : Blk := { b with cont := b.cont.asArr k }

theorem asArr_le (k : IntKind) (b : Blk) : BlkLe (b.asArr k) b := by
  refine ⟨rfl, rfl, fun _ h => h, fun i v hv => ?_⟩
  simp only [Blk.asArr, Cont.asArr] at hv
  split at hv
  · rename_i l hl
    split at hv
    · rename_i a ha
      simp only [contAt] at hv
      split at hv
      · rename_i hi
        obtain rfl := Option.some.inj hv
        obtain ⟨hlen, h2⟩ := intsOf_get (ρ := fun _ => none) ha
        have hi' : i < l.length := by omega
        refine ⟨l[i], by rw [hl]; simp only [contAt]; exact List.getElem?_eq_getElem hi', fun ρ => ?_⟩
        obtain ⟨m, h3, h4⟩ := (intsOf_get (ρ := ρ) ha).2 i _ (List.getElem?_eq_getElem hi')
        rw [List.getElem?_eq_getElem hi] at h3
        rw [h4, ← Option.some.inj h3]
        simp [symInt, List.getD, List.getElem?_eq_getElem hi, den]
      · cases hv
    · exact ⟨v, by rw [hl]; exact hv, fun _ => rfl⟩
  · exact ⟨v, hv, fun _ => rfl⟩

def Cont.asCells : Cont → Cont
  | .arr k n f => .cells (arrFrom k f 0 n)
  | c => c

def Blk.asCells (b : Blk) : Blk := { b with cont := b.cont.asCells }

theorem asCells_le (b : Blk) : BlkLe b.asCells b := by
  refine ⟨rfl, rfl, fun _ h => h, fun i v hv => ?_⟩
  simp only [Blk.asCells, Cont.asCells] at hv
  split at hv
  · rename_i k n f hl
    simp only [contAt] at hv
    have hi : i < n := by
      have := (List.getElem?_eq_some_iff.1 hv).1
      rwa [arrFrom_length] at this
    rw [arrFrom_get k f n 0 i hi, Nat.zero_add] at hv
    exact ⟨v, by rw [hl]; simp only [contAt]; rw [if_pos hi]; exact hv, fun _ => rfl⟩
  · exact ⟨v, hv, fun _ => rfl⟩

/-- Some blocks' cells told as arrays. -/
def St.arrs (st : St) : List (Nat × IntKind) → St
  | [] => st
  | (id, k) :: l => match st.hp.get id with
    | some b => St.arrs ⟨st.sl, st.nsl, st.hp.put id (b.asArr k), st.nid⟩ l
    | none => St.arrs st l

theorem put_le {st : St} {id : Nat} {b b' : Blk} (hb : st.hp.get id = some b) (h : BlkLe b' b) : StLe ⟨st.sl, st.nsl, st.hp.put id b', st.nid⟩ st := by
  refine ⟨Nat.le_refl _, rfl, fun t v h => ⟨v, h, fun _ => rfl⟩, fun id' c hc => ?_⟩
  simp only [Trie.get_put] at hc
  split at hc
  · rename_i e
    obtain rfl := Option.some.inj hc
    exact ⟨b, by rw [e]; exact hb, h⟩
  · exact ⟨c, hc, .refl c⟩

theorem arrs_le : ∀ (l : List (Nat × IntKind)) (st : St), StLe (st.arrs l) st
  | [], st => .refl st
  | (id, k) :: l, st => by
    simp only [St.arrs]
    split
    · rename_i b hb
      exact (arrs_le l _).trans (put_le hb (asArr_le k b))
    · exact arrs_le l st

/-- Some blocks' cells told one by one. -/
def St.cells (st : St) : List Nat → St
  | [] => st
  | id :: l => match st.hp.get id with
    | some b => St.cells ⟨st.sl, st.nsl, st.hp.put id b.asCells, st.nid⟩ l
    | none => St.cells st l

theorem cells_le : ∀ (l : List Nat) (st : St), StLe (st.cells l) st
  | [], st => .refl st
  | id :: l, st => by
    simp only [St.cells]
    split
    · rename_i b hb
      exact (cells_le l _).trans (put_le hb (asCells_le b))
    · exact cells_le l st

/-- Some blocks' cells told as numbers. -/
def St.ints (st : St) : List (Nat × IntKind) → St
  | [] => st
  | (id, k) :: l => match st.hp.get id with
    | some b => St.ints ⟨st.sl, st.nsl, st.hp.put id (b.asInts k), st.nid⟩ l
    | none => St.ints st l

theorem ints_le : ∀ (l : List (Nat × IntKind)) (st : St), StLe (st.ints l) st
  | [], st => .refl st
  | (id, k) :: l, st => by
    simp only [St.ints]
    split
    · rename_i b hb
      refine (ints_le l _).trans ⟨Nat.le_refl _, rfl, fun t v h => ⟨v, h, fun _ => rfl⟩, fun id' b' h => ?_⟩
      simp only [Trie.get_put] at h
      split at h
      · rename_i e
        obtain rfl := Option.some.inj h
        exact ⟨b, by rw [e]; exact hb, asInts_le k b⟩
      · exact ⟨b', h, .refl b'⟩
    · exact ints_le l st

/-- The numbers that a list begins with, as values. -/
def symsOf (k : IntKind) (l : List Int) (n : Nat) : List LVal := (List.range n).map fun i => .int k (.sym (l.getD i 0))

theorem symsOf_le {k : IntKind} {l : List Int} {n : Nat} {b : Blk} (hb : b.cont = .ints k l) (hl : l.length = n) : BlkLe { b with cont := .cells (symsOf k l n) } b := by
  refine ⟨rfl, rfl, fun _ h => h, fun i v hv => ?_⟩
  simp only [contAt, symsOf, List.getElem?_map, Option.map_eq_some_iff] at hv
  obtain ⟨j, h1, rfl⟩ := hv
  obtain ⟨h2, h3⟩ := List.getElem?_eq_some_iff.1 h1
  simp only [List.length_range] at h2
  simp only [List.getElem_range] at h3
  subst h3
  refine ⟨symInt k (l[i]'(by omega)), by rw [hb]; simp only [contAt]; rw [List.getElem?_eq_getElem (by omega)]; rfl, fun ρ => ?_⟩
  simp [symInt, List.getD, List.getElem?_eq_getElem (show i < l.length by omega)]

/-- A loop's summary: the parameters are read out of a state. -/
def sumUp {α : Type} (get : St → Option α) (pre : α → Prop) (out : α → LX × St) : St → Tree (LX × St) := fun st =>
  match get st with
  | none => .fail 192
  | some p => .need (pre p) (.done (out p))

theorem sumUp_ok {P : Program} {α : Type} {c : Code} {get : St → Option α} {shape : α → St} {pre : α → Prop} {out : α → LX × St} (hg : ∀ st p, get st = some p → StLe (shape p) st) (h : ∀ p, pre p → CodeRes P c (shape p) (out p)) {st : St} {r : LX × St}
    (hr : (sumUp get pre out st).res r) : CodeRes P c st r := by
  simp only [sumUp] at hr
  split at hr
  · exact hr.elim
  · rename_i p hp'
    obtain ⟨h2, rfl⟩ := hr
    exact (h p h2).le (hg st p hp') (.refl _)

/-- A state out of lists. -/
def mkSt (sl : List (Nat × LVal)) (nsl : Nat) (hp : List (Nat × Blk)) (nid : Nat) : St := ⟨.ofList sl, nsl, .ofList hp, nid⟩

theorem mkSt_nid (sl : List (Nat × LVal)) (nsl : Nat) (hp : List (Nat × Blk)) (nid : Nat) : (mkSt sl nsl hp nid).nid = nid := rfl

theorem mkSt_le {sl : List (Nat × LVal)} {nsl : Nat} {hp : List (Nat × Blk)} {nid : Nat} {st : St} (h1 : nsl ≤ st.nsl) (h2 : nid = st.nid) (h3 : ∀ p ∈ sl, ∃ v', st.sl.get p.1 = some v' ∧ ∀ ρ : Ren, den ρ v' = den ρ p.2)
    (h4 : ∀ p ∈ hp, ∃ b', st.hp.get p.1 = some b' ∧ BlkLe p.2 b') : StLe (mkSt sl nsl hp nid) st :=
  ⟨h1, h2, fun t v h => h3 (t, v) (Trie.mem_ofList h), fun id b h => h4 (id, b) (Trie.mem_ofList h)⟩

def relL {α : Type} (R : α → α → Prop) : List (Nat × α) → List (Nat × α) → Prop
  | [], [] => True
  | p :: l, q :: r => p.1 = q.1 ∧ R p.2 q.2 ∧ relL R l r
  | _, _ => False

theorem ofList_rel {α : Type} {R : α → α → Prop} : ∀ {l r : List (Nat × α)}, relL R l r → ∀ t v, (Trie.ofList l).get t = some v → ∃ v', (Trie.ofList r).get t = some v' ∧ R v v'
  | [], [], _, t, v, h => by simp [Trie.ofList, Trie.get_leaf] at h
  | [], _ :: _, h, _, _, _ => h.elim
  | _ :: _, [], h, _, _, _ => h.elim
  | (k, x) :: l, (j, y) :: r, h, t, v, hv => by
    obtain ⟨h1, h2, h3⟩ := h
    simp only at h1 h2
    subst h1
    simp only [Trie.ofList, Trie.get_put] at hv ⊢
    split at hv
    · rename_i e
      rw [if_pos e]
      obtain rfl := Option.some.inj hv
      exact ⟨y, rfl, h2⟩
    · rename_i e
      rw [if_neg e]
      exact ofList_rel h3 t v hv

/-- The same values and blocks, told in another way. -/
theorem mkSt_rel {sl sl' : List (Nat × LVal)} {nsl nid : Nat} {hp hp' : List (Nat × Blk)} (h1 : relL (fun v v' => ∀ ρ : Ren, den ρ v' = den ρ v) sl sl') (h2 : relL BlkLe hp hp') : StLe (mkSt sl nsl hp nid) (mkSt sl' nsl hp' nid) :=
  ⟨Nat.le_refl _, rfl, fun t v h => ofList_rel h1 t v h, fun t b h => ofList_rel h2 t b h⟩

/- What is kept of what an evaluation comes to. -/

def keepT (l b : List Nat) (t : Tree (LX × St)) : Tree (LX × St) := t.bind fun r => .done (r.1, r.2.keep l b)

def pruneT (l b : List Nat) (n : Nat) (t : Tree (LX × St)) : Tree (LX × St) := t.bind fun r => match Nat.ble n r.2.nid && (slotsLt r.2.sl n l && blksLt r.2.hp n b) with
  | true => .done (r.1, r.2.prune l b n)
  | false => .fail 198

theorem keepT_ok {P : Program} {c : Code} {st : St} {l b : List Nat} {t : Tree (LX × St)} {r : LX × St} (ht : ∀ r, t.res r → CodeRes P c st r) (h : (keepT l b t).res r) : CodeRes P c st r := by
  obtain ⟨q, h1, h2⟩ := Tree.res_bind h
  obtain rfl := Tree.res_done.1 h2
  exact (ht q h1).le (.refl _) (keep_le _ l b)

theorem pruneT_ok {P : Program} {c : Code} {st : St} {l b : List Nat} {n : Nat} {t : Tree (LX × St)} {r : LX × St} (ht : ∀ r, t.res r → CodeRes P c st r) (hn : st.nid ≤ n) (h : (pruneT l b n t).res r) : CodeRes P c st r := by
  obtain ⟨q, h1, h2⟩ := Tree.res_bind h
  split at h2
  · rename_i hc
    rw [Bool.and_eq_true] at hc
    obtain rfl := Tree.res_done.1 h2
    exact (ht q h1).cut (prune_cut (Nat.le_of_ble_eq_true hc.1) hc.2) hn
  · exact h2.elim

end Go.LE

/- The local evaluator: slices of numbers that a contract is given. -/
namespace Go.LE
open Go.RowKit

def elsInts (k : IntKind) (b : Blk) (off len : NN) : Tree (List Int) := (elsOf b off len).bind fun e => match e with
  | .vals l => match LVal.intsOf k l with
    | some r => .done r
    | none => .fail 193
  | .ints k' l => match decide (k = k') with
    | true => .done l
    | false => .fail 194

theorem elsInts_cont {k : IntKind} {b : Blk} {off len : NN} {L : List Int} (h : (elsInts k b off len).res L) : L.length = len.v ∧ ∀ j (hj : j < L.length), ∃ v, contAt b.cont (off.v + j) = some v ∧ ∀ ρ : Ren, den ρ v = some (.int k L[j]) := by
  obtain ⟨e, he, h⟩ := Tree.res_bind h
  obtain ⟨h1, h2⟩ := elsOf_cont he
  cases e with
  | vals l =>
    simp only at h
    split at h
    · rename_i r hr
      obtain rfl := h
      obtain ⟨g1, _⟩ := intsOf_get (ρ := fun _ => none) hr
      refine ⟨by rw [g1]; exact h1, fun j hj => ?_⟩
      obtain ⟨v, e1, e2⟩ := h2 j (by rw [← h1]; simp only [Els.lv]; omega)
      refine ⟨v, e2, fun ρ => ?_⟩
      obtain ⟨n, e3, e4⟩ := (intsOf_get (ρ := ρ) hr).2 j v e1
      rw [e4]
      rw [List.getElem?_eq_getElem hj] at e3
      rw [Option.some.inj e3]
    · exact h.elim
  | ints k' l =>
    simp only at h
    split at h
    · rename_i hk
      obtain rfl := of_decide_eq_true hk
      obtain rfl := h
      simp only [Els.lv, List.length_map] at h1
      refine ⟨h1, fun j hj => ?_⟩
      obtain ⟨v, e1, e2⟩ := h2 j (by omega)
      refine ⟨v, e2, fun ρ => ?_⟩
      simp only [Els.lv, List.getElem?_map, List.getElem?_eq_getElem hj, Option.map_some, Option.some.injEq] at e1
      subst e1
      rfl
    · exact h.elim

def leCap {α : Type} (len : NN) (cap : Option NN) (t : Tree α) : Tree α :=
  match cap with
  | some c => leN len c t
  | none => t

/-- The numbers of a slice that a contract is given, and its block's number. -/
def argL (k : IntKind) (blks : List Blk) (v : LVal) : Tree (Nat × List Int) :=
  match v with
  | .slice id off len cap => match nth id blks with
    | some b => leCap len cap ((elsInts k b off len).bind fun l => .done (id, l))
    | none => .fail 195
  | .cut id off l len => match nth id blks with
    | some b => (elsInts k b (off.add l) len).bind fun r => .done (id, r)
    | none => .fail 196
  | _ => .fail 197

theorem res_leCap {α : Type} {len : NN} {cap : Option NN} {t : Tree α} {x : α} (h : (leCap len cap t).res x) : (∀ c, cap = some c → len.v ≤ c.v) ∧ t.res x := by
  unfold leCap at h
  split at h
  · obtain ⟨h1, h2⟩ := res_leN h
    exact ⟨fun c e => by rw [← Option.some.inj e]; exact h1, h2⟩
  · exact ⟨fun c e => (by cases e), h⟩

structure ArgOk (k : IntKind) (blks : List Blk) (Cf : Nat → Option Nat) (v : LVal) (id : Nat) (L : List Int) (b : Blk) (o c : Nat) : Prop where
  blk : blks[id]? = some b
  cap : L.length ≤ c
  den : ∀ ρ : Ren, Compat ρ Cf blks.length → den ρ (.slice id (.sym o) (.sym L.length) (some (.sym c))) = den ρ v
  cont : ∀ j (hj : j < L.length), ∃ v', contAt b.cont (o + j) = some v' ∧ ∀ ρ : Ren, Go.LE.den ρ v' = some (.int k L[j])
  nil : b.nil = true → L = []

theorem argL_norm {k : IntKind} {blks : List Blk} {v : LVal} {id : Nat} {L : List Int} (h : (argL k blks v).res (id, L)) {Cf : Nat → Option Nat} (hnil : ∀ k b, blks[k]? = some b → b.nil = (Cf k).isNone) {ρ1 : Ren} {x : Value} (hc1 : Compat ρ1 Cf blks.length) (hx : den ρ1 v = some x) :
    ∃ b o c, ArgOk k blks Cf v id L b o c := by
  have hρ : ∀ {id : Nat} {b : Blk}, blks[id]? = some b → ∀ ρ : Ren, Compat ρ Cf blks.length → ∃ y, ρ id = some y ∧ y.map Prod.snd = Cf id := fun hb ρ hc => hc _ (List.getElem?_eq_some_iff.1 hb).1
  unfold argL at h
  split at h
  · rename_i id' off len cap
    split at h
    · rename_i b hb
      obtain ⟨hcap, h⟩ := res_leCap h
      obtain ⟨l, hl, h⟩ := Tree.res_bind h
      obtain ⟨rfl, rfl⟩ := Prod.mk.inj (Tree.res_done.1 h)
      obtain ⟨h1, h2⟩ := elsInts_cont hl
      rw [nth_get] at hb
      have hn := hnil _ _ hb
      obtain ⟨y1, hy1, hz1⟩ := hρ hb ρ1 hc1
      cases hC : Cf id' with
      | none =>
        rw [hC] at hn hz1
        have hy : y1 = none := by cases y1 with
          | none => rfl
          | some _ => simp at hz1
        subst hy
        have h0 : l.length = 0 ∧ ∀ c, cap = some c → c.v = 0 := by
          simp only [den, hy1] at hx
          cases cap with
          | none =>
            simp only [Option.map_none, denS] at hx
            split at hx
            · rename_i e; exact ⟨by omega, fun c e => by cases e⟩
            · cases hx
          | some c =>
            simp only [Option.map_some, denS] at hx
            split at hx
            · rename_i e; exact ⟨by omega, fun c' e' => by rw [← Option.some.inj e']; exact e.2⟩
            · cases hx
        have hl0 : l = [] := List.length_eq_zero_iff.1 h0.1
        subst hl0
        refine ⟨b, off.v, 0, hb, Nat.le_refl _, fun ρ hc => ?_, fun j hj => by simp at hj, fun _ => rfl⟩
        obtain ⟨y, hy, hz⟩ := hρ hb ρ hc
        rw [hC] at hz
        have : y = none := by cases y with
          | none => rfl
          | some _ => simp at hz
        subst this
        have hlen : len.v = 0 := by rw [← h1]; rfl
        cases cap with
        | none => simp [den, hy, denS, hlen]
        | some c => simp [den, hy, denS, hlen, h0.2 c rfl]
      | some C =>
        rw [hC] at hn
        have hyC : ∀ ρ : Ren, Compat ρ Cf blks.length → ∃ b0, ρ id' = some (some (b0, C)) := fun ρ hc => by
          obtain ⟨y, hy, hz⟩ := hρ hb ρ hc
          rw [hC] at hz
          cases y with
          | none => simp at hz
          | some p =>
            simp only [Option.map_some, Option.some.injEq] at hz
            exact ⟨p.1, by rw [hy, ← hz]⟩
        have hnl : b.nil = true → l = [] := fun e => by rw [hn] at e; cases e
        cases cap with
        | some c =>
          refine ⟨b, off.v, c.v, hb, by rw [h1]; exact hcap c rfl, fun ρ hc => ?_, h2, hnl⟩
          obtain ⟨b0, hy⟩ := hyC ρ hc
          simp [den, hy, denS, h1]
        | none =>
          have hle : off.v + len.v ≤ C := by
            obtain ⟨b0, hy⟩ := hyC ρ1 hc1
            simp only [den, hy, Option.map_none, denS] at hx
            split at hx
            · assumption
            · cases hx
          refine ⟨b, off.v, C - off.v, hb, by omega, fun ρ hc => ?_, h2, hnl⟩
          obtain ⟨b0, hy⟩ := hyC ρ hc
          simp only [den, hy, Option.map_none, Option.map_some, denS, NN.sym_v]
          rw [if_pos hle, h1]
    · exact h.elim
  · rename_i id' off cl len
    split at h
    · rename_i b hb
      obtain ⟨l, hl, h⟩ := Tree.res_bind h
      obtain ⟨rfl, rfl⟩ := Prod.mk.inj (Tree.res_done.1 h)
      obtain ⟨h1, h2⟩ := elsInts_cont hl
      rw [nth_get] at hb
      have hn := hnil _ _ hb
      obtain ⟨y1, hy1, hz1⟩ := hρ hb ρ1 hc1
      cases hC : Cf id' with
      | none =>
        rw [hC] at hn hz1
        have hy : y1 = none := by cases y1 with
          | none => rfl
          | some _ => simp at hz1
        subst hy
        have h0 : len.v = 0 := by
          simp only [den, hy1, denC] at hx
          split at hx
          · assumption
          · cases hx
        have hl0 : l = [] := List.length_eq_zero_iff.1 (by omega)
        subst hl0
        refine ⟨b, off.v, 0, hb, Nat.le_refl _, fun ρ hc => ?_, fun j hj => by simp at hj, fun _ => rfl⟩
        obtain ⟨y, hy, hz⟩ := hρ hb ρ hc
        rw [hC] at hz
        have : y = none := by cases y with
          | none => rfl
          | some _ => simp at hz
        subst this
        simp [den, hy, denS, denC, h0]
      | some C =>
        rw [hC] at hn
        have hyC : ∀ ρ : Ren, Compat ρ Cf blks.length → ∃ b0, ρ id' = some (some (b0, C)) := fun ρ hc => by
          obtain ⟨y, hy, hz⟩ := hρ hb ρ hc
          rw [hC] at hz
          cases y with
          | none => simp at hz
          | some p =>
            simp only [Option.map_some, Option.some.injEq] at hz
            exact ⟨p.1, by rw [hy, ← hz]⟩
        have hnl : b.nil = true → l = [] := fun e => by rw [hn] at e; cases e
        have hle : off.v + cl.v + len.v ≤ C := by
          obtain ⟨b0, hy⟩ := hyC ρ1 hc1
          simp only [den, hy, denC] at hx
          split at hx
          · assumption
          · cases hx
        refine ⟨b, if C = off.v + cl.v then off.v else off.v + cl.v, C - (off.v + cl.v), hb, by omega, fun ρ hc => ?_, fun j hj => ?_, hnl⟩
        · obtain ⟨b0, hy⟩ := hyC ρ hc
          simp only [den, hy, Option.map_some, denS, denC, NN.sym_v]
          rw [if_pos hle, h1]
        · rw [if_neg (by omega)]
          have := h2 j hj
          rwa [NN.add_v] at this
    · exact h.elim
  · exact h.elim

/-- The block of a slice that a contract is given, as it is told to the evaluation. -/
def segBlk (k : IntKind) (o : Nat) (L : List Int) (z : Bool) : Blk := ⟨false, true, z, none, .seg (.sym o) k L⟩

theorem ArgOk.less {k : IntKind} {blks : List Blk} {Cf : Nat → Option Nat} {v : LVal} {id : Nat} {L : List Int} {b : Blk} {o c : Nat} (h : ArgOk k blks Cf v id L b o c) : LessBlk (segBlk k o L b.nil) b := by
  refine ⟨rfl, fun h => (by cases h), fun s hs => (by simp [segBlk, Blk.mt] at hs), fun i u hu => ?_⟩
  have hu : (if o ≤ i then (L[i - o]?).map (symInt k) else none) = some u := hu
  by_cases hi : o ≤ i
  · rw [if_pos hi] at hu
    simp only [Option.map_eq_some_iff] at hu
    obtain ⟨n, h1, rfl⟩ := hu
    obtain ⟨h2, h3⟩ := List.getElem?_eq_some_iff.1 h1
    obtain ⟨v', e1, e2⟩ := h.cont (i - o) h2
    rw [show o + (i - o) = i by omega] at e1
    exact ⟨v', e1, fun ρ ρ' => by rw [e2, h3]; rfl⟩
  · rw [if_neg hi] at hu; cases hu

end Go.LE

/- The local evaluator: arrays that a contract is given, by pointer; trees that only ask. -/
namespace Go.LE
open Go.RowKit

/-- An array's numbers, as a function. -/
def arrOf (k : IntKind) (n : Nat) (c : Cont) : Option (Nat → Int) :=
  match c with
  | .arr k' m f => match decide (k = k'), Nat.beq n m with
    | true, true => some f
    | _, _ => none
  | .cells l => match LVal.intsOf k l with
    | some a => match Nat.beq n a.length with
      | true => some fun i => a.getD i 0
      | false => none
    | none => none
  | _ => none

theorem arrOf_cont {k : IntKind} {n : Nat} {c : Cont} {f : Nat → Int} (h : arrOf k n c = some f) (i : Nat) (v : LVal) (hv : contAt (.arr k n f) i = some v) : ∃ v', contAt c i = some v' ∧ ∀ ρ ρ' : Ren, den ρ v = den ρ' v' := by
  unfold arrOf at h
  split at h
  · split at h
    · rename_i h1 h2
      obtain rfl := of_decide_eq_true h1
      obtain rfl := Nat.eq_of_beq_eq_true h2
      obtain rfl := Option.some.inj h
      refine ⟨v, hv, fun ρ ρ' => ?_⟩
      simp only [contAt] at hv
      split at hv
      · obtain rfl := Option.some.inj hv; rfl
      · cases hv
    · cases h
  · rename_i l
    split at h
    · rename_i a ha
      split at h
      · rename_i h2
        obtain rfl := Nat.eq_of_beq_eq_true h2
        obtain rfl := Option.some.inj h
        simp only [contAt] at hv
        split at hv
        · rename_i hi
          obtain rfl := Option.some.inj hv
          obtain ⟨hlen, _⟩ := intsOf_get (ρ := fun _ => none) ha
          have hi' : i < l.length := by omega
          refine ⟨l[i], by simp only [contAt]; exact List.getElem?_eq_getElem hi', fun ρ ρ' => ?_⟩
          obtain ⟨m, h3, h4⟩ := (intsOf_get (ρ := ρ') ha).2 i _ (List.getElem?_eq_getElem hi')
          rw [List.getElem?_eq_getElem hi] at h3
          rw [h4, ← Option.some.inj h3]
          simp [symInt, List.getD, List.getElem?_eq_getElem hi, den]
        · cases hv
      · cases h
    · cases h
  · cases h

theorem arrOf_ble {k : IntKind} {n : Nat} {c : Cont} {f : Nat → Int} (h : arrOf k n c = some f) (o a a' z : Bool) (s : Option NN) : BlkLe ⟨o, a, z, s, .arr k n f⟩ ⟨o, a', z, s, c⟩ :=
  ⟨rfl, rfl, fun _ h => h, fun i v hv => by
    obtain ⟨v', h1, h2⟩ := arrOf_cont h i v hv
    exact ⟨v', h1, fun ρ => (h2 ρ ρ).symm⟩⟩

theorem seg_ble (o a z : Bool) (s : Option NN) (ob : NN) (k : IntKind) (L : List Int) : BlkLe ⟨o, a, z, s, .seg (.sym ob.v) k L⟩ ⟨o, a, z, s, .seg ob k L⟩ :=
  ⟨rfl, rfl, fun _ h => h, fun i v hv => ⟨v, hv, fun _ => rfl⟩⟩

/-- A tree that asks, and comes to something. -/
def needs {α : Type} : List Prop → Tree α → Tree α
  | [], t => t
  | p :: l, t => .need p (needs l t)

theorem needs_res {α : Type} {t : Tree α} {x : α} : ∀ {l : List Prop}, (∀ p ∈ l, p) → t.res x → (needs l t).res x
  | [], _, h => h
  | _ :: _, hl, h => ⟨hl _ (List.mem_cons_self ..), needs_res (fun p hp => hl p (List.mem_cons_of_mem _ hp)) h⟩

theorem nil_all : ∀ p ∈ ([] : List Prop), p := fun _ h => by cases h
theorem cons_all {q : Prop} {l : List Prop} (h : q) (k : ∀ p ∈ l, p) : ∀ p ∈ q :: l, p := fun p hp => by
  rcases List.mem_cons.1 hp with rfl | hp
  · exact h
  · exact k p hp

theorem LessBlk.refl_plain {b : Blk} (h : ∀ i v, contAt b.cont i = some v → ∀ ρ ρ' : Ren, den ρ v = den ρ' v) : LessBlk b b := ⟨rfl, fun h => h, fun _ h => h, fun i v hv => ⟨v, hv, h i v hv⟩⟩

theorem arr_plain {k : IntKind} {n : Nat} {f : Nat → Int} : ∀ i v, contAt (.arr k n f) i = some v → ∀ ρ ρ' : Ren, den ρ v = den ρ' v := fun i v hv ρ ρ' => by
  simp only [contAt] at hv
  split at hv
  · obtain rfl := Option.some.inj hv; rfl
  · cases hv

theorem ints_plain {k : IntKind} {l : List Int} : ∀ i v, contAt (.ints k l) i = some v → ∀ ρ ρ' : Ren, den ρ v = den ρ' v := fun i v hv ρ ρ' => by
  simp only [contAt, Option.map_eq_some_iff] at hv
  obtain ⟨n, _, rfl⟩ := hv
  rfl

/-- Cells that are plain values. -/
def plainC : List LVal → Bool
  | [] => true
  | .int _ _ :: l => plainC l
  | .bool _ _ :: l => plainC l
  | _ => false

theorem plainC_den : ∀ {l : List LVal}, plainC l = true → ∀ v ∈ l, ∀ ρ ρ' : Ren, den ρ v = den ρ' v
  | [], _, v, hv => by cases hv
  | .int _ _ :: l, h, v, hv => by
    rcases List.mem_cons.1 hv with rfl | hv
    · exact fun _ _ => rfl
    · exact plainC_den (l := l) h v hv
  | .bool _ _ :: l, h, v, hv => by
    rcases List.mem_cons.1 hv with rfl | hv
    · exact fun _ _ => rfl
    · exact plainC_den (l := l) h v hv

theorem cells_plain {l : List LVal} (h : plainC l = true) : ∀ i v, contAt (.cells l) i = some v → ∀ ρ ρ' : Ren, den ρ v = den ρ' v := fun i v hv => plainC_den h v (List.mem_of_getElem? hv)

theorem intsOf_ids {k : IntKind} : ∀ {l : List LVal} {a : List Int}, LVal.intsOf k l = some a → idsL l = []
  | [], _, _ => rfl
  | v :: l, a, h => by
    cases v <;> simp only [LVal.intsOf, LN.on_v] at h <;> try cases h
    split at h
    · split at h
      · rename_i r hr
        simp only [idsL, idsV, List.nil_append]
        exact intsOf_ids hr
      · cases h
    · cases h

theorem arrFrom_ids (k : IntKind) (f : Nat → Int) : ∀ (n o : Nat), idsL (arrFrom k f o n) = []
  | 0, _ => rfl
  | n + 1, o => by simp only [arrFrom, idsL, idsV, List.nil_append]; exact arrFrom_ids k f n (o + 1)

theorem arrFrom_congr {k : IntKind} {f g : Nat → Int} : ∀ (n o : Nat), (∀ i, o ≤ i → i < o + n → f i = g i) → arrFrom k f o n = arrFrom k g o n
  | 0, _, _ => rfl
  | n + 1, o, h => by
    simp only [arrFrom]
    rw [h o (Nat.le_refl _) (by omega), arrFrom_congr n (o + 1) fun i h1 h2 => h i (by omega) (by omega)]

theorem arrFrom_shift {k : IntKind} {f : Nat → Int} : ∀ (n o : Nat), arrFrom k f (o + 1) n = arrFrom k (fun i => f (i + 1)) o n
  | 0, _ => rfl
  | n + 1, o => by simp only [arrFrom]; rw [arrFrom_shift n (o + 1)]

/-- Values that are numbers mean what their numbers mean. -/
theorem arrFrom_den {k : IntKind} {ρ : Ren} : ∀ {l : List LVal} {a : List Int}, LVal.intsOf k l = some a → denL ρ (arrFrom k (fun i => a.getD i 0) 0 l.length) = denL ρ l
  | [], _, _ => rfl
  | v :: l, a, h => by
    cases v <;> simp only [LVal.intsOf, LN.on_v] at h <;> try cases h
    rename_i k' n
    split at h
    · rename_i hk
      obtain rfl := of_decide_eq_true hk
      split at h
      · rename_i r hr
        obtain rfl := Option.some.inj h
        simp only [List.length_cons, arrFrom, denL]
        rw [arrFrom_shift]
        have h1 := arrFrom_den (ρ := ρ) hr
        have h2 : (fun i => (n.v :: r).getD (i + 1) 0) = fun i => r.getD i 0 := by funext i; simp [List.getD]
        rw [h2, h1]
        simp [den, List.getD]
      · cases h
    · cases h

/-- What is kept of what a function comes to: its value, and some blocks. -/
def keepR (b : List Nat) (t : Tree (LVal × St)) : Tree (LVal × St) := t.bind fun r => .done (r.1, ⟨.leaf, 0, keepB r.2.hp b .leaf, r.2.nid⟩)

/-- A tree comes to something (a wrapper, so that nobody unfolds the tree). -/
structure Ok {α : Type} (t : Tree α) (x : α) : Prop where
  res : t.res x

theorem specOk_of {E : EnvX} {fn : Func} {spec : List LVal → List Blk → Tree OrcRes} (h : ∀ args blks r, (spec args blks).res r →
    ∀ Cf : Nat → Option Nat, (∀ k b, blks[k]? = some b → b.nil = (Cf k).isNone) → (∃ ρ vs, Compat ρ Cf blks.length ∧ denL ρ args = some vs) →
    ∃ n args' st q bs, Ok (keepR bs (evalFn E (leval E n) fn args' st)) q ∧ st.nid = blks.length ∧ q.2.nid = blks.length + r.cnt ∧ (∀ ρ, Compat ρ Cf blks.length → denL ρ args' = denL ρ args) ∧
      (∀ k b', st.hp.get k = some b' → ∃ b, blks[k]? = some b ∧ LessBlk b' b ∧ (b'.own = true → hasKey k r.wr = true)) ∧
      (∀ ρ x, den ρ q.1 = some x → den ρ r.val = some x) ∧
      (∀ p ∈ r.wr, ∃ b', q.2.hp.get p.1 = some b' ∧ LessBlk p.2 b' ∧ (blks.length ≤ p.1 → b'.own = true))) : SpecOk E fn spec := by
  intro args blks r hr Cf h1 h2
  obtain ⟨n, args', st, q, bs, h3, h4, h5, h6, h7, h8, h9⟩ := h args blks r hr Cf h1 h2
  obtain ⟨q0, g1, g2⟩ := Tree.res_bind h3.res
  obtain rfl := Tree.res_done.1 g2
  refine ⟨n, args', st, q0, g1, h4, h5, h6, h7, h8, fun p hp => ?_⟩
  obtain ⟨b', e1, e2⟩ := h9 p hp
  refine ⟨b', ?_, e2⟩
  rcases keepB_get bs .leaf p.1 b' e1 with e | e
  · rw [Trie.get_leaf] at e; cases e
  · exact e.1

/- A function's loops, by their first region. -/
def findLoop (k : Nat) : Code → Option Code
  | .loop b => match Nat.beq (firstR b) k with
    | true => some b
    | false => findLoop k b
  | .seq a b => match findLoop k a with
    | some r => some r
    | none => findLoop k b
  | .cond _ a b => match findLoop k a with
    | some r => some r
    | none => findLoop k b
  | .block _ c => findLoop k c
  | .scope c => findLoop k c
  | _ => none

def loopB (k : Nat) (fn : Func) : Code := match fn.body with
  | some c => (findLoop k c).getD .skip
  | none => .skip

/-- For looks alone: the state at a loop's head. -/
def stopAt (k : Nat) : Nat × Code × (St → Tree (LX × St)) := (k, .skip, fun st => .done (.ret, st))

def bodyOf (fn : Func) : Code := fn.body.getD .skip

end Go.LE

/- From the model's arguments to the evaluator's: rows of numbers, arrays of numbers. -/
namespace Go.LE
open Go.ChangeShapes Go.WideShapes Go.ChangeAt Go.RowKit

/-- A slice of numbers that came in: nil, or a row that lies in a block. -/
def Laid (w : World) (k : IntKind) (v : Value) (len cap : Nat) (L : List Int) (ob : Option (Nat × Nat)) : Prop :=
  len = L.length ∧ len ≤ cap ∧ (∀ n ∈ L, (Lit.int k n).wf = true) ∧ (∀ b o, ob = some (b, o) → v = .slice (some ⟨b, o, none⟩) len cap ∧ b < w.heap.size ∧ ∀ i, i < L.length → w.cell? ⟨b, o + i, none⟩ = some (.int k (L.getD i 0))) ∧
    (ob = none → v = .slice none 0 0 ∧ L = [] ∧ cap = 0)

theorem shape_lt {w : World} {b : Nat} {x : TypeId × Nat} (h : w.shape? b = some x) : b < w.heap.size := by
  unfold World.shape? at h
  by_cases hb : b < w.heap.size
  · exact hb
  · rw [Array.getElem?_eq_none (by omega)] at h
    cases h

section
variable {H : Type} {enc : TypeId × Value → H} {P : Program} {w : World} {base b0 : Nat} {spare : Nat → Bool} {held : Bool}

theorem laid_of {t e : TypeId} {k : IntKind} {v : Value} {d : DataW H} {ps : List MemPlace} {r : Reach} (ht : P.underlying t = some (.slice e)) (he : P.underlying e = some (.int k)) (hc : P.cellsOf e = 1)
    (hval : Value.okWide P w r b0 t v) (hd : DataW.Trod enc P w base spare held t v d ps) : ∃ len cap L ob, Laid w k v len cap L ob := by
  obtain ⟨a, len, cap, rfl⟩ := okWide_slice ht hval
  obtain ⟨fuel, hf⟩ := hd
  rcases open_ints ht he hc hf with ⟨hcs, _⟩ | ⟨x, l, c, zs, hcs, _, hl, hm, hz, _, hcell, hwz⟩
  · simp [Value.cells] at hcs
    obtain ⟨rfl, rfl, rfl⟩ := hcs
    exact ⟨0, 0, [], none, rfl, Nat.le_refl _, (fun _ h => by cases h), (fun _ _ h => by cases h), fun _ => ⟨rfl, rfl, rfl⟩⟩
  · simp [Value.cells] at hcs
    obtain ⟨rfl, rfl, rfl⟩ := hcs
    simp only [Value.okWide, ht, Cell.okWide, Cell.ok] at hval
    obtain ⟨_, _, _, hspot, row, cells, hsh, _⟩ := hval
    obtain ⟨b, o, spot⟩ := x
    simp only at hspot hsh
    subst hspot
    have hlen : len ≤ zs.length := by
      rw [hz]; split <;> omega
    refine ⟨len, cap, zs.take len, some (b, o), by rw [List.length_take]; omega, hl, fun n hn => hwz n (List.mem_of_mem_take hn), fun b' o' h => ?_, fun h => by cases h⟩
    obtain ⟨rfl, rfl⟩ := Prod.mk.inj (Option.some.inj h)
    refine ⟨rfl, shape_lt hsh, fun i hi => ?_⟩
    rw [List.length_take] at hi
    have := hcell i (by omega)
    rw [show (⟨b, o, none⟩ : Addr).add i = ⟨b, o + i, none⟩ by
      unfold Addr.add
      split
      · rename_i e; rw [e]; rfl
      · rfl] at this
    rw [this]
    simp only [List.getD, List.getElem?_take]
    rw [if_pos (by omega)]

/-- An array of numbers that came in. -/
theorem array_of {t e : TypeId} {n : Nat} {k : IntKind} {v : Value} {d : DataW H} {ps : List MemPlace} {r : Reach} (ht : P.underlying t = some (.array n e)) (he : P.underlying e = some (.int k)) (hc : P.cellsOf e = 1) (hn : P.cellsOf t = n)
    (hval : Value.okWide P w r b0 t v) (hd : DataW.Trod enc P w base spare held t v d ps) : ∃ f : Nat → Int, v = .agg ((List.range n).map fun i => .int k (f i)).toArray ∧ ∀ i, i < n → (Lit.int k (f i)).wf = true := by
  simp only [Value.okWide, ht] at hval
  obtain ⟨cs, rfl, hs, _⟩ := hval
  obtain ⟨fuel, hf⟩ := hd
  obtain ⟨xs, m, _, _, hl, hx, hel⟩ := DataW.trod_array ht hf
  have hcs : (Value.cells (.agg cs)).toList = cs.toList := rfl
  rw [hcs] at hel hl
  have key : ∀ i, i < n → ∃ z, cs.toList[i]? = some (.int k z) ∧ (Lit.int k z).wf = true := fun i hi => by
    have hE := hel i hi
    rw [hc, Nat.mul_one, List.getElem?_eq_getElem (by omega)] at hE
    obtain ⟨z, e1, e2, e3⟩ := DataW.trod_int he hE
    refine ⟨z, ?_, e3⟩
    have h0 : ((cs.toList.drop i).take 1)[0]? = some (.int k z) := by rw [e1]; rfl
    simpa using h0
  let f : Nat → Int := fun i => match cs.toList[i]? with
    | some (.int _ z) => z
    | _ => 0
  refine ⟨f, ?_, fun i hi => ?_⟩
  · congr 1
    apply Array.ext'
    apply List.ext_getElem?
    intro i
    by_cases hi : i < n
    · obtain ⟨z, e1, _⟩ := key i hi
      have hz : f i = z := by simp only [f, e1]
      rw [e1]
      simp [hi, hz]
    · have h1 : cs.toList.length ≤ i := by omega
      rw [List.getElem?_eq_none h1, List.getElem?_eq_none (by simp; omega)]
  · obtain ⟨z, e1, e2⟩ := key i hi
    have hz : f i = z := by simp only [f, e1]
    rw [hz]; exact e2

end

theorem arrFrom_den' {k : IntKind} {ρ : Ren} {f : Nat → Int} : ∀ (n o : Nat), denL ρ (arrFrom k f o n) = some ((List.range n).map fun i => .int k (f (o + i)))
  | 0, _ => rfl
  | n + 1, o => by
    simp only [arrFrom, denL, den, LN.sym_v]
    rw [arrFrom_den' n (o + 1), List.range_succ_eq_map]
    simp only [List.map_cons, List.map_map, Nat.add_zero, Option.some.injEq, List.cons.injEq, true_and]
    apply List.map_congr_left
    intro i _
    simp only [Function.comp]
    rw [show o + 1 + i = o + i.succ by omega]

theorem array_den {k : IntKind} {f : Nat → Int} {n : Nat} (ρ : Ren) : den ρ (.agg (arrFrom k f 0 n)) = some (.agg ((List.range n).map fun i => .int k (f i)).toArray) := by
  simp only [den]
  rw [arrFrom_den']
  simp

/-- What a world is told to be: nothing is known of its blocks. -/
theorem hrel_leaf (w : World) : HRel (fun _ => none) (mtOf .leaf) (ctOf .leaf) w := hrel_none w

def renOf (ρ : Ren) (n : Nat) (ob : Option (Nat × Nat)) : Ren := setN ρ n (some (ob.map fun p => (p.1, 0)))

/-- One more row that came in. -/
theorem laid_hrel {w : World} {k : IntKind} {v : Value} {len cap : Nat} {L : List Int} {ob : Option (Nat × Nat)} (h : Laid w k v len cap L ob) {ρ : Ren} {hp : Trie Blk} {n : Nat} (hr : HRel ρ (mtOf hp) (ctOf hp) w) (hn : ρ n = none) (hno : ∀ id b, hp.get id = some b → b.own = false) :
    HRel (renOf ρ n ob) (mtOf (hp.put n (segBlk k ((ob.map Prod.snd).getD 0) L ob.isNone))) (ctOf (hp.put n (segBlk k ((ob.map Prod.snd).getD 0) L ob.isNone))) w := by
  obtain ⟨h1, h2, h3, h4, h5⟩ := h
  have e1 : mtOf (hp.put n (segBlk k ((ob.map Prod.snd).getD 0) L ob.isNone)) = setN (mtOf hp) n (some (segBlk k ((ob.map Prod.snd).getD 0) L ob.isNone).mt) := by
    funext id
    simp only [mtOf, Trie.get_put, setN]
    split <;> rfl
  have e2 : ctOf (hp.put n (segBlk k ((ob.map Prod.snd).getD 0) L ob.isNone)) = setN (ctOf hp) n (contAt (.seg (.sym ((ob.map Prod.snd).getD 0)) k L)) := by
    funext id i
    by_cases e : id = n
    · subst e
      simp only [ctOf, Trie.get_put, setN, if_pos, segBlk]
    · simp only [ctOf, Trie.get_put, setN, if_neg e]
  rw [e1, e2]
  refine hr.add hn _ _ _ (by cases ob <;> rfl) (fun b C e => ?_) (fun b C i u e hu => ?_) (fun b C _ ho => by cases ho) (fun b C i u _ ho => by cases ho) (fun b C j mj b' C' _ hj ho => ?_)
  · cases ob with
    | none => cases e
    | some p =>
      obtain ⟨rfl, rfl⟩ := Prod.mk.inj (Option.some.inj e)
      exact (h4 p.1 p.2 rfl).2.1
  · cases ob with
    | none => cases e
    | some p =>
      obtain ⟨rfl, rfl⟩ := Prod.mk.inj (Option.some.inj e)
      have hu : (if p.2 ≤ i then (L[i - p.2]?).map (symInt k) else none) = some u := hu
      by_cases hi : p.2 ≤ i
      · rw [if_pos hi] at hu
        simp only [Option.map_eq_some_iff] at hu
        obtain ⟨z, g1, rfl⟩ := hu
        obtain ⟨g2, g3⟩ := List.getElem?_eq_some_iff.1 g1
        have := (h4 p.1 p.2 rfl).2.2 (i - p.2) g2
        rw [show p.2 + (i - p.2) = i by omega] at this
        refine ⟨_, rfl, ?_, rfl⟩
        rw [this]
        simp [List.getD, g1, symInt]
      · rw [if_neg hi] at hu; cases hu
  · exfalso
    rcases ho with ho | ho
    · cases ho
    · simp only [mtOf, Option.map_eq_some_iff] at hj
      obtain ⟨b1, g1, rfl⟩ := hj
      have := hno j b1 g1
      simp only [Blk.mt] at ho
      rw [this] at ho; cases ho

theorem laid_den {w : World} {k : IntKind} {v : Value} {len cap : Nat} {L : List Int} {ob : Option (Nat × Nat)} (h : Laid w k v len cap L ob) {ρ : Ren} {n : Nat} (hρ : ρ n = some (ob.map fun p => (p.1, 0))) : den ρ (.slice n (.sym ((ob.map Prod.snd).getD 0)) (.sym L.length) (some (.sym cap))) = some v := by
  obtain ⟨h1, h2, h3, h4, h5⟩ := h
  cases ob with
  | none =>
    obtain ⟨rfl, rfl, rfl⟩ := h5 rfl
    simp [den, hρ, denS]
  | some p =>
    obtain ⟨rfl, _⟩ := h4 p.1 p.2 rfl
    simp [den, hρ, denS, h1]

/-- THE WALK: an evaluation that comes to true, over blocks that are nobody's to write. -/
theorem walk_true {P : Program} {E : EnvX} (hE : EnvOk P E) (hL : LpsOk P E) {f : FuncId} {fn : Func} (hf : P.funcs[f]? = some fn) {n : Nat} {args : List LVal} {vs : List Value} {st : St} {bs : List Nat} {s : Bool} {q : St} {ρ : Ren} {w : World}
    (h : Ok (keepR bs (evalFn E (leval E n) fn args st)) (.bool s true, q)) (hd : denL ρ args = some vs) (hr : HRel ρ (mtOf st.hp) (ctOf st.hp) w) (hno : ∀ id b, st.hp.get id = some b → b.own = false)
    (hid : ∀ id b, st.hp.get id = some b → id < st.nid) (hfree : ∀ k, st.nid ≤ k → ρ k = none) : Calls P f vs.toArray w fun e w' => e = .returned (.bool true) ∧ Below w.heap.size w w' := by
  obtain ⟨q0, g1, g2⟩ := Tree.res_bind h.res
  obtain ⟨e1, -⟩ := Prod.mk.inj (Tree.res_done.1 g2)
  refine Calls.mono (fn_ok hE hL n f fn args vs st q0 ρ w hf g1 hd hr hid hfree) fun e w' hw => ?_
  cases e with
  | panicked _ => exact hw.elim
  | outgrown => exact hw.elim
  | returned x =>
    obtain ⟨ρ', h1, _, h2, _⟩ := hw
    rw [e1] at h1
    obtain rfl := Option.some.inj h1
    refine ⟨rfl, h2.os, h2.tape, h2.output, h2.size, fun b hb => h2.block b hb fun id m C hm ho => ?_⟩
    simp only [mtOf, Option.map_eq_some_iff] at hm
    obtain ⟨b1, g3, rfl⟩ := hm
    have := hno id b1 g3
    simp only [Blk.mt] at ho
    rw [this] at ho; cases ho

end Go.LE

/- The functions of the program, handed to the evaluator; the table of types; what is outside. -/
namespace Go.LE
open Go.Proofs.Try

theorem tab_all : (tabL.all fun p => rowChk prog p.1 p.2) = true := by kernel_rfl

noncomputable def e_causewaylaw02_FieldNames : Nat × (Func × Bool) := (3, (f3, false))
theorem e_causewaylaw02_FieldNames_ok : Enters prog e_causewaylaw02_FieldNames.1 ∧ prog.funcs[e_causewaylaw02_FieldNames.1]? = some e_causewaylaw02_FieldNames.2.1 := ⟨enters_of func3 (by kernel_rfl) (by kernel_rfl), func3⟩
noncomputable def e_causewaylaw03_CurveNames : Nat × (Func × Bool) := (4, (f4, false))
theorem e_causewaylaw03_CurveNames_ok : Enters prog e_causewaylaw03_CurveNames.1 ∧ prog.funcs[e_causewaylaw03_CurveNames.1]? = some e_causewaylaw03_CurveNames.2.1 := ⟨enters_of func4 (by kernel_rfl) (by kernel_rfl), func4⟩
noncomputable def e_causewaylaw09_CipherOnce : Nat × (Func × Bool) := (5, (f5, false))
theorem e_causewaylaw09_CipherOnce_ok : Enters prog e_causewaylaw09_CipherOnce.1 ∧ prog.funcs[e_causewaylaw09_CipherOnce.1]? = some e_causewaylaw09_CipherOnce.2.1 := ⟨enters_of func5 (by kernel_rfl) (by kernel_rfl), func5⟩
noncomputable def e_causewaylaw09_CipherOrder : Nat × (Func × Bool) := (6, (f6, false))
theorem e_causewaylaw09_CipherOrder_ok : Enters prog e_causewaylaw09_CipherOrder.1 ∧ prog.funcs[e_causewaylaw09_CipherOrder.1]? = some e_causewaylaw09_CipherOrder.2.1 := ⟨enters_of func6 (by kernel_rfl) (by kernel_rfl), func6⟩
noncomputable def e_causewaylaw09_CipherAny : Nat × (Func × Bool) := (7, (f7, false))
theorem e_causewaylaw09_CipherAny_ok : Enters prog e_causewaylaw09_CipherAny.1 ∧ prog.funcs[e_causewaylaw09_CipherAny.1]? = some e_causewaylaw09_CipherAny.2.1 := ⟨enters_of func7 (by kernel_rfl) (by kernel_rfl), func7⟩
noncomputable def e_causewaylaw09_CipherBoxes : Nat × (Func × Bool) := (8, (f8, false))
theorem e_causewaylaw09_CipherBoxes_ok : Enters prog e_causewaylaw09_CipherBoxes.1 ∧ prog.funcs[e_causewaylaw09_CipherBoxes.1]? = some e_causewaylaw09_CipherBoxes.2.1 := ⟨enters_of func8 (by kernel_rfl) (by kernel_rfl), func8⟩
noncomputable def e_causewaylaw09_CipherSkips : Nat × (Func × Bool) := (9, (f9, false))
theorem e_causewaylaw09_CipherSkips_ok : Enters prog e_causewaylaw09_CipherSkips.1 ∧ prog.funcs[e_causewaylaw09_CipherSkips.1]? = some e_causewaylaw09_CipherSkips.2.1 := ⟨enters_of func9 (by kernel_rfl) (by kernel_rfl), func9⟩
noncomputable def e_causewaylaw09_CipherRekey : Nat × (Func × Bool) := (10, (f10, false))
theorem e_causewaylaw09_CipherRekey_ok : Enters prog e_causewaylaw09_CipherRekey.1 ∧ prog.funcs[e_causewaylaw09_CipherRekey.1]? = some e_causewaylaw09_CipherRekey.2.1 := ⟨enters_of func10 (by kernel_rfl) (by kernel_rfl), func10⟩
noncomputable def e_causewaylaw09_CipherChanges : Nat × (Func × Bool) := (11, (f11, false))
theorem e_causewaylaw09_CipherChanges_ok : Enters prog e_causewaylaw09_CipherChanges.1 ∧ prog.funcs[e_causewaylaw09_CipherChanges.1]? = some e_causewaylaw09_CipherChanges.2.1 := ⟨enters_of func11 (by kernel_rfl) (by kernel_rfl), func11⟩
noncomputable def e_causewaylaw09_CipherPlays : Nat × (Func × Bool) := (12, (f12, false))
theorem e_causewaylaw09_CipherPlays_ok : Enters prog e_causewaylaw09_CipherPlays.1 ∧ prog.funcs[e_causewaylaw09_CipherPlays.1]? = some e_causewaylaw09_CipherPlays.2.1 := ⟨enters_of func12 (by kernel_rfl) (by kernel_rfl), func12⟩
noncomputable def e_causewaylaw09_CipherNames : Nat × (Func × Bool) := (13, (f13, false))
theorem e_causewaylaw09_CipherNames_ok : Enters prog e_causewaylaw09_CipherNames.1 ∧ prog.funcs[e_causewaylaw09_CipherNames.1]? = some e_causewaylaw09_CipherNames.2.1 := ⟨enters_of func13 (by kernel_rfl) (by kernel_rfl), func13⟩
noncomputable def e_causewaylaw10_HandTurns : Nat × (Func × Bool) := (14, (f14, false))
theorem e_causewaylaw10_HandTurns_ok : Enters prog e_causewaylaw10_HandTurns.1 ∧ prog.funcs[e_causewaylaw10_HandTurns.1]? = some e_causewaylaw10_HandTurns.2.1 := ⟨enters_of func14 (by kernel_rfl) (by kernel_rfl), func14⟩
noncomputable def e_causewaylaw10_HandLengths : Nat × (Func × Bool) := (15, (f15, false))
theorem e_causewaylaw10_HandLengths_ok : Enters prog e_causewaylaw10_HandLengths.1 ∧ prog.funcs[e_causewaylaw10_HandLengths.1]? = some e_causewaylaw10_HandLengths.2.1 := ⟨enters_of func15 (by kernel_rfl) (by kernel_rfl), func15⟩
noncomputable def e_causewaylaw10_HandOthers : Nat × (Func × Bool) := (16, (f16, false))
theorem e_causewaylaw10_HandOthers_ok : Enters prog e_causewaylaw10_HandOthers.1 ∧ prog.funcs[e_causewaylaw10_HandOthers.1]? = some e_causewaylaw10_HandOthers.2.1 := ⟨enters_of func16 (by kernel_rfl) (by kernel_rfl), func16⟩
noncomputable def e_causewaylaw10_HandPoints : Nat × (Func × Bool) := (17, (f17, false))
theorem e_causewaylaw10_HandPoints_ok : Enters prog e_causewaylaw10_HandPoints.1 ∧ prog.funcs[e_causewaylaw10_HandPoints.1]? = some e_causewaylaw10_HandPoints.2.1 := ⟨enters_of func17 (by kernel_rfl) (by kernel_rfl), func17⟩
noncomputable def e_causewaylaw02_FieldFrom : Nat × (Func × Bool) := (18, (f18, false))
theorem e_causewaylaw02_FieldFrom_ok : Enters prog e_causewaylaw02_FieldFrom.1 ∧ prog.funcs[e_causewaylaw02_FieldFrom.1]? = some e_causewaylaw02_FieldFrom.2.1 := ⟨enters_of func18 (by kernel_rfl) (by kernel_rfl), func18⟩
noncomputable def e_causewaylaw02_FieldAdd : Nat × (Func × Bool) := (19, (f19, false))
theorem e_causewaylaw02_FieldAdd_ok : Enters prog e_causewaylaw02_FieldAdd.1 ∧ prog.funcs[e_causewaylaw02_FieldAdd.1]? = some e_causewaylaw02_FieldAdd.2.1 := ⟨enters_of func19 (by kernel_rfl) (by kernel_rfl), func19⟩
noncomputable def e_causewaylaw02_FieldSub : Nat × (Func × Bool) := (20, (f20, false))
theorem e_causewaylaw02_FieldSub_ok : Enters prog e_causewaylaw02_FieldSub.1 ∧ prog.funcs[e_causewaylaw02_FieldSub.1]? = some e_causewaylaw02_FieldSub.2.1 := ⟨enters_of func20 (by kernel_rfl) (by kernel_rfl), func20⟩
noncomputable def e_causewaylaw02_FieldMul : Nat × (Func × Bool) := (21, (f21, false))
theorem e_causewaylaw02_FieldMul_ok : Enters prog e_causewaylaw02_FieldMul.1 ∧ prog.funcs[e_causewaylaw02_FieldMul.1]? = some e_causewaylaw02_FieldMul.2.1 := ⟨enters_of func21 (by kernel_rfl) (by kernel_rfl), func21⟩
noncomputable def e_causewaylaw02_FieldBytes : Nat × (Func × Bool) := (22, (f22, false))
theorem e_causewaylaw02_FieldBytes_ok : Enters prog e_causewaylaw02_FieldBytes.1 ∧ prog.funcs[e_causewaylaw02_FieldBytes.1]? = some e_causewaylaw02_FieldBytes.2.1 := ⟨enters_of func22 (by kernel_rfl) (by kernel_rfl), func22⟩
noncomputable def e_causewaylaw02_FieldInverse : Nat × (Func × Bool) := (23, (f23, false))
theorem e_causewaylaw02_FieldInverse_ok : Enters prog e_causewaylaw02_FieldInverse.1 ∧ prog.funcs[e_causewaylaw02_FieldInverse.1]? = some e_causewaylaw02_FieldInverse.2.1 := ⟨enters_of func23 (by kernel_rfl) (by kernel_rfl), func23⟩
noncomputable def e_causewaylaw02_FieldSwap : Nat × (Func × Bool) := (24, (f24, false))
theorem e_causewaylaw02_FieldSwap_ok : Enters prog e_causewaylaw02_FieldSwap.1 ∧ prog.funcs[e_causewaylaw02_FieldSwap.1]? = some e_causewaylaw02_FieldSwap.2.1 := ⟨enters_of func24 (by kernel_rfl) (by kernel_rfl), func24⟩
noncomputable def e_field_Inv : Nat × (Func × Bool) := (25, (f25, false))
theorem e_field_Inv_ok : Enters prog e_field_Inv.1 ∧ prog.funcs[e_field_Inv.1]? = some e_field_Inv.2.1 := ⟨enters_of func25 (by kernel_rfl) (by kernel_rfl), func25⟩
noncomputable def e_field_Small : Nat × (Func × Bool) := (26, (f26, false))
theorem e_field_Small_ok : Enters prog e_field_Small.1 ∧ prog.funcs[e_field_Small.1]? = some e_field_Small.2.1 := ⟨enters_of func26 (by kernel_rfl) (by kernel_rfl), func26⟩
noncomputable def e_field_Elem_Bytes : Nat × (Func × Bool) := (27, (f27, false))
theorem e_field_Elem_Bytes_ok : Enters prog e_field_Elem_Bytes.1 ∧ prog.funcs[e_field_Elem_Bytes.1]? = some e_field_Elem_Bytes.2.1 := ⟨enters_of func27 (by kernel_rfl) (by kernel_rfl), func27⟩
noncomputable def e_causewaylaw02_awake : Nat × (Func × Bool) := (28, (f28, false))
theorem e_causewaylaw02_awake_ok : Enters prog e_causewaylaw02_awake.1 ∧ prog.funcs[e_causewaylaw02_awake.1]? = some e_causewaylaw02_awake.2.1 := ⟨enters_of func28 (by kernel_rfl) (by kernel_rfl), func28⟩
noncomputable def e_field_Elem_Zero : Nat × (Func × Bool) := (29, (f29, false))
theorem e_field_Elem_Zero_ok : Enters prog e_field_Elem_Zero.1 ∧ prog.funcs[e_field_Elem_Zero.1]? = some e_field_Elem_Zero.2.1 := ⟨enters_of func29 (by kernel_rfl) (by kernel_rfl), func29⟩
noncomputable def e_causewaylaw02_same : Nat × (Func × Bool) := (30, (f30, false))
theorem e_causewaylaw02_same_ok : Enters prog e_causewaylaw02_same.1 ∧ prog.funcs[e_causewaylaw02_same.1]? = some e_causewaylaw02_same.2.1 := ⟨enters_of func30 (by kernel_rfl) (by kernel_rfl), func30⟩
noncomputable def e_causewaylaw03_hex : Nat × (Func × Bool) := (31, (f31, false))
theorem e_causewaylaw03_hex_ok : Enters prog e_causewaylaw03_hex.1 ∧ prog.funcs[e_causewaylaw03_hex.1]? = some e_causewaylaw03_hex.2.1 := ⟨enters_of func31 (by kernel_rfl) (by kernel_rfl), func31⟩
noncomputable def e_curve_X : Nat × (Func × Bool) := (32, (f32, false))
theorem e_curve_X_ok : Enters prog e_curve_X.1 ∧ prog.funcs[e_curve_X.1]? = some e_curve_X.2.1 := ⟨enters_of func32 (by kernel_rfl) (by kernel_rfl), func32⟩
noncomputable def e_causewaylaw03_CurveX : Nat × (Func × Bool) := (33, (f33, false))
theorem e_causewaylaw03_CurveX_ok : Enters prog e_causewaylaw03_CurveX.1 ∧ prog.funcs[e_causewaylaw03_CurveX.1]? = some e_causewaylaw03_CurveX.2.1 := ⟨enters_of func33 (by kernel_rfl) (by kernel_rfl), func33⟩
noncomputable def e_causewaylaw03_awake : Nat × (Func × Bool) := (34, (f34, false))
theorem e_causewaylaw03_awake_ok : Enters prog e_causewaylaw03_awake.1 ∧ prog.funcs[e_causewaylaw03_awake.1]? = some e_causewaylaw03_awake.2.1 := ⟨enters_of func34 (by kernel_rfl) (by kernel_rfl), func34⟩
noncomputable def e_causewaylaw03_CurveLow : Nat × (Func × Bool) := (35, (f35, false))
theorem e_causewaylaw03_CurveLow_ok : Enters prog e_causewaylaw03_CurveLow.1 ∧ prog.funcs[e_causewaylaw03_CurveLow.1]? = some e_causewaylaw03_CurveLow.2.1 := ⟨enters_of func35 (by kernel_rfl) (by kernel_rfl), func35⟩
noncomputable def e_causewaylaw03_alice : Nat × (Func × Bool) := (36, (f36, false))
theorem e_causewaylaw03_alice_ok : Enters prog e_causewaylaw03_alice.1 ∧ prog.funcs[e_causewaylaw03_alice.1]? = some e_causewaylaw03_alice.2.1 := ⟨enters_of func36 (by kernel_rfl) (by kernel_rfl), func36⟩
noncomputable def e_causewaylaw03_CurveNumber : Nat × (Func × Bool) := (37, (f37, false))
theorem e_causewaylaw03_CurveNumber_ok : Enters prog e_causewaylaw03_CurveNumber.1 ∧ prog.funcs[e_causewaylaw03_CurveNumber.1]? = some e_causewaylaw03_CurveNumber.2.1 := ⟨enters_of func37 (by kernel_rfl) (by kernel_rfl), func37⟩
noncomputable def e_causewaylaw03_bob : Nat × (Func × Bool) := (38, (f38, false))
theorem e_causewaylaw03_bob_ok : Enters prog e_causewaylaw03_bob.1 ∧ prog.funcs[e_causewaylaw03_bob.1]? = some e_causewaylaw03_bob.2.1 := ⟨enters_of func38 (by kernel_rfl) (by kernel_rfl), func38⟩
noncomputable def e_cipher_New : Nat × (Func × Bool) := (39, (f39, false))
theorem e_cipher_New_ok : Enters prog e_cipher_New.1 ∧ prog.funcs[e_cipher_New.1]? = some e_cipher_New.2.1 := ⟨enters_of func39 (by kernel_rfl) (by kernel_rfl), func39⟩
noncomputable def e_causewayref09_New : Nat × (Func × Bool) := (40, (f40, false))
theorem e_causewayref09_New_ok : Enters prog e_causewayref09_New.1 ∧ prog.funcs[e_causewayref09_New.1]? = some e_causewayref09_New.2.1 := ⟨enters_of func40 (by kernel_rfl) (by kernel_rfl), func40⟩
noncomputable def e_cipher_State_Seal : Nat × (Func × Bool) := (41, (f41, true))
theorem e_cipher_State_Seal_ok : Enters prog e_cipher_State_Seal.1 ∧ prog.funcs[e_cipher_State_Seal.1]? = some e_cipher_State_Seal.2.1 := ⟨enters_of func41 (by kernel_rfl) (by kernel_rfl), func41⟩
noncomputable def e_causewayref09_State_Seal : Nat × (Func × Bool) := (42, (f42, true))
theorem e_causewayref09_State_Seal_ok : Enters prog e_causewayref09_State_Seal.1 ∧ prog.funcs[e_causewayref09_State_Seal.1]? = some e_causewayref09_State_Seal.2.1 := ⟨enters_of func42 (by kernel_rfl) (by kernel_rfl), func42⟩
noncomputable def e_causewayref00_EqBytes : Nat × (Func × Bool) := (43, (f43, false))
theorem e_causewayref00_EqBytes_ok : Enters prog e_causewayref00_EqBytes.1 ∧ prog.funcs[e_causewayref00_EqBytes.1]? = some e_causewayref00_EqBytes.2.1 := ⟨enters_of func43 (by kernel_rfl) (by kernel_rfl), func43⟩
noncomputable def e_cipher_State_Next : Nat × (Func × Bool) := (44, (f44, false))
theorem e_cipher_State_Next_ok : Enters prog e_cipher_State_Next.1 ∧ prog.funcs[e_cipher_State_Next.1]? = some e_cipher_State_Next.2.1 := ⟨enters_of func44 (by kernel_rfl) (by kernel_rfl), func44⟩
noncomputable def e_causewayref09_State_Next : Nat × (Func × Bool) := (45, (f45, false))
theorem e_causewayref09_State_Next_ok : Enters prog e_causewayref09_State_Next.1 ∧ prog.funcs[e_causewayref09_State_Next.1]? = some e_causewayref09_State_Next.2.1 := ⟨enters_of func45 (by kernel_rfl) (by kernel_rfl), func45⟩
noncomputable def e_causewaylaw09_awake : Nat × (Func × Bool) := (46, (f46, false))
theorem e_causewaylaw09_awake_ok : Enters prog e_causewaylaw09_awake.1 ∧ prog.funcs[e_causewaylaw09_awake.1]? = some e_causewaylaw09_awake.2.1 := ⟨enters_of func46 (by kernel_rfl) (by kernel_rfl), func46⟩
noncomputable def e_causewayref00_CopyBytes : Nat × (Func × Bool) := (47, (f47, false))
theorem e_causewayref00_CopyBytes_ok : Enters prog e_causewayref00_CopyBytes.1 ∧ prog.funcs[e_causewayref00_CopyBytes.1]? = some e_causewayref00_CopyBytes.2.1 := ⟨enters_of func47 (by kernel_rfl) (by kernel_rfl), func47⟩
noncomputable def e_cipher_State_Open : Nat × (Func × Bool) := (48, (f48, true))
theorem e_cipher_State_Open_ok : Enters prog e_cipher_State_Open.1 ∧ prog.funcs[e_cipher_State_Open.1]? = some e_cipher_State_Open.2.1 := ⟨enters_of func48 (by kernel_rfl) (by kernel_rfl), func48⟩
noncomputable def e_causewayref00_Bring : Nat × (Func × Bool) := (49, (f49, false))
theorem e_causewayref00_Bring_ok : Enters prog e_causewayref00_Bring.1 ∧ prog.funcs[e_causewayref00_Bring.1]? = some e_causewayref00_Bring.2.1 := ⟨enters_of func49 (by kernel_rfl) (by kernel_rfl), func49⟩
noncomputable def e_cipher_State_OpenAt : Nat × (Func × Bool) := (50, (f50, true))
theorem e_cipher_State_OpenAt_ok : Enters prog e_cipher_State_OpenAt.1 ∧ prog.funcs[e_cipher_State_OpenAt.1]? = some e_cipher_State_OpenAt.2.1 := ⟨enters_of func50 (by kernel_rfl) (by kernel_rfl), func50⟩
noncomputable def e_cipher_State_Skip : Nat × (Func × Bool) := (51, (f51, true))
theorem e_cipher_State_Skip_ok : Enters prog e_cipher_State_Skip.1 ∧ prog.funcs[e_cipher_State_Skip.1]? = some e_cipher_State_Skip.2.1 := ⟨enters_of func51 (by kernel_rfl) (by kernel_rfl), func51⟩
noncomputable def e_aead_Nonce : Nat × (Func × Bool) := (52, (f52, false))
theorem e_aead_Nonce_ok : Enters prog e_aead_Nonce.1 ∧ prog.funcs[e_aead_Nonce.1]? = some e_aead_Nonce.2.1 := ⟨enters_of func52 (by kernel_rfl) (by kernel_rfl), func52⟩
noncomputable def e_aead_Seal : Nat × (Func × Bool) := (53, (f53, false))
theorem e_aead_Seal_ok : Enters prog e_aead_Seal.1 ∧ prog.funcs[e_aead_Seal.1]? = some e_aead_Seal.2.1 := ⟨enters_of func53 (by kernel_rfl) (by kernel_rfl), func53⟩
noncomputable def e_cipher_State_Rekey : Nat × (Func × Bool) := (54, (f54, true))
theorem e_cipher_State_Rekey_ok : Enters prog e_cipher_State_Rekey.1 ∧ prog.funcs[e_cipher_State_Rekey.1]? = some e_cipher_State_Rekey.2.1 := ⟨enters_of func54 (by kernel_rfl) (by kernel_rfl), func54⟩
noncomputable def e_causewayref09_State_Rekey : Nat × (Func × Bool) := (55, (f55, true))
theorem e_causewayref09_State_Rekey_ok : Enters prog e_causewayref09_State_Rekey.1 ∧ prog.funcs[e_causewayref09_State_Rekey.1]? = some e_causewayref09_State_Rekey.2.1 := ⟨enters_of func55 (by kernel_rfl) (by kernel_rfl), func55⟩
noncomputable def e_causewaylaw09_Do_kind : Nat × (Func × Bool) := (56, (f56, false))
theorem e_causewaylaw09_Do_kind_ok : Enters prog e_causewaylaw09_Do_kind.1 ∧ prog.funcs[e_causewaylaw09_Do_kind.1]? = some e_causewaylaw09_Do_kind.2.1 := ⟨enters_of func56 (by kernel_rfl) (by kernel_rfl), func56⟩
noncomputable def e_causewaylaw09_both_step : Nat × (Func × Bool) := (57, (f57, true))
theorem e_causewaylaw09_both_step_ok : Enters prog e_causewaylaw09_both_step.1 ∧ prog.funcs[e_causewaylaw09_both_step.1]? = some e_causewaylaw09_both_step.2.1 := ⟨enters_of func57 (by kernel_rfl) (by kernel_rfl), func57⟩
noncomputable def e_causewaylaw09_usual : Nat × (Func × Bool) := (58, (f58, false))
theorem e_causewaylaw09_usual_ok : Enters prog e_causewaylaw09_usual.1 ∧ prog.funcs[e_causewaylaw09_usual.1]? = some e_causewaylaw09_usual.2.1 := ⟨enters_of func58 (by kernel_rfl) (by kernel_rfl), func58⟩
noncomputable def e_causewaylaw10_Pair_made : Nat × (Func × Bool) := (59, (f59, false))
theorem e_causewaylaw10_Pair_made_ok : Enters prog e_causewaylaw10_Pair_made.1 ∧ prog.funcs[e_causewaylaw10_Pair_made.1]? = some e_causewaylaw10_Pair_made.2.1 := ⟨enters_of func59 (by kernel_rfl) (by kernel_rfl), func59⟩
noncomputable def e_causewaylaw10_Pair_setups : Nat × (Func × Bool) := (60, (f60, false))
theorem e_causewaylaw10_Pair_setups_ok : Enters prog e_causewaylaw10_Pair_setups.1 ∧ prog.funcs[e_causewaylaw10_Pair_setups.1]? = some e_causewaylaw10_Pair_setups.2.1 := ⟨enters_of func60 (by kernel_rfl) (by kernel_rfl), func60⟩
noncomputable def e_hand_New : Nat × (Func × Bool) := (61, (f61, true))
theorem e_hand_New_ok : Enters prog e_hand_New.1 ∧ prog.funcs[e_hand_New.1]? = some e_hand_New.2.1 := ⟨enters_of func61 (by kernel_rfl) (by kernel_rfl), func61⟩
noncomputable def e_hand_Hand_Write : Nat × (Func × Bool) := (62, (f62, true))
theorem e_hand_Hand_Write_ok : Enters prog e_hand_Hand_Write.1 ∧ prog.funcs[e_hand_Hand_Write.1]? = some e_hand_Hand_Write.2.1 := ⟨enters_of func62 (by kernel_rfl) (by kernel_rfl), func62⟩
noncomputable def e_hand_Hand_Digest : Nat × (Func × Bool) := (63, (f63, true))
theorem e_hand_Hand_Digest_ok : Enters prog e_hand_Hand_Digest.1 ∧ prog.funcs[e_hand_Hand_Digest.1]? = some e_hand_Hand_Digest.2.1 := ⟨enters_of func63 (by kernel_rfl) (by kernel_rfl), func63⟩
noncomputable def e_hand_Hand_Split : Nat × (Func × Bool) := (64, (f64, true))
theorem e_hand_Hand_Split_ok : Enters prog e_hand_Hand_Split.1 ∧ prog.funcs[e_hand_Hand_Split.1]? = some e_hand_Hand_Split.2.1 := ⟨enters_of func64 (by kernel_rfl) (by kernel_rfl), func64⟩
noncomputable def e_hand_Hand_Read : Nat × (Func × Bool) := (65, (f65, true))
theorem e_hand_Hand_Read_ok : Enters prog e_hand_Hand_Read.1 ∧ prog.funcs[e_hand_Hand_Read.1]? = some e_hand_Hand_Read.2.1 := ⟨enters_of func65 (by kernel_rfl) (by kernel_rfl), func65⟩
noncomputable def e_causewaylaw10_awake : Nat × (Func × Bool) := (66, (f66, false))
theorem e_causewaylaw10_awake_ok : Enters prog e_causewaylaw10_awake.1 ∧ prog.funcs[e_causewaylaw10_awake.1]? = some e_causewaylaw10_awake.2.1 := ⟨enters_of func66 (by kernel_rfl) (by kernel_rfl), func66⟩
noncomputable def e_causewaylaw10_usual : Nat × (Func × Bool) := (67, (f67, false))
theorem e_causewaylaw10_usual_ok : Enters prog e_causewaylaw10_usual.1 ∧ prog.funcs[e_causewaylaw10_usual.1]? = some e_causewaylaw10_usual.2.1 := ⟨enters_of func67 (by kernel_rfl) (by kernel_rfl), func67⟩
noncomputable def e_causewaylaw10_all : Nat × (Func × Bool) := (68, (f68, false))
theorem e_causewaylaw10_all_ok : Enters prog e_causewaylaw10_all.1 ∧ prog.funcs[e_causewaylaw10_all.1]? = some e_causewaylaw10_all.2.1 := ⟨enters_of func68 (by kernel_rfl) (by kernel_rfl), func68⟩
noncomputable def e_curve_Public : Nat × (Func × Bool) := (69, (f69, false))
theorem e_curve_Public_ok : Enters prog e_curve_Public.1 ∧ prog.funcs[e_curve_Public.1]? = some e_curve_Public.2.1 := ⟨enters_of func69 (by kernel_rfl) (by kernel_rfl), func69⟩
noncomputable def e_hand_Hand_Remote : Nat × (Func × Bool) := (70, (f70, true))
theorem e_hand_Hand_Remote_ok : Enters prog e_hand_Hand_Remote.1 ∧ prog.funcs[e_hand_Hand_Remote.1]? = some e_hand_Hand_Remote.2.1 := ⟨enters_of func70 (by kernel_rfl) (by kernel_rfl), func70⟩
noncomputable def e_field_From : Nat × (Func × Bool) := (71, (f71, false))
theorem e_field_From_ok : Enters prog e_field_From.1 ∧ prog.funcs[e_field_From.1]? = some e_field_From.2.1 := ⟨enters_of func71 (by kernel_rfl) (by kernel_rfl), func71⟩
noncomputable def e_causewayref02_From : Nat × (Func × Bool) := (72, (f72, false))
theorem e_causewayref02_From_ok : Enters prog e_causewayref02_From.1 ∧ prog.funcs[e_causewayref02_From.1]? = some e_causewayref02_From.2.1 := ⟨enters_of func72 (by kernel_rfl) (by kernel_rfl), func72⟩
noncomputable def e_causewayref02_Bytes : Nat × (Func × Bool) := (73, (f73, false))
theorem e_causewayref02_Bytes_ok : Enters prog e_causewayref02_Bytes.1 ∧ prog.funcs[e_causewayref02_Bytes.1]? = some e_causewayref02_Bytes.2.1 := ⟨enters_of func73 (by kernel_rfl) (by kernel_rfl), func73⟩
noncomputable def e_causewaylaw02_is : Nat × (Func × Bool) := (74, (f74, false))
theorem e_causewaylaw02_is_ok : Enters prog e_causewaylaw02_is.1 ∧ prog.funcs[e_causewaylaw02_is.1]? = some e_causewaylaw02_is.2.1 := ⟨enters_of func74 (by kernel_rfl) (by kernel_rfl), func74⟩
noncomputable def e_causewayref02_Small : Nat × (Func × Bool) := (75, (f75, false))
theorem e_causewayref02_Small_ok : Enters prog e_causewayref02_Small.1 ∧ prog.funcs[e_causewayref02_Small.1]? = some e_causewayref02_Small.2.1 := ⟨enters_of func75 (by kernel_rfl) (by kernel_rfl), func75⟩
noncomputable def e_field_Add : Nat × (Func × Bool) := (76, (f76, false))
theorem e_field_Add_ok : Enters prog e_field_Add.1 ∧ prog.funcs[e_field_Add.1]? = some e_field_Add.2.1 := ⟨enters_of func76 (by kernel_rfl) (by kernel_rfl), func76⟩
noncomputable def e_causewayref02_Add : Nat × (Func × Bool) := (77, (f77, false))
theorem e_causewayref02_Add_ok : Enters prog e_causewayref02_Add.1 ∧ prog.funcs[e_causewayref02_Add.1]? = some e_causewayref02_Add.2.1 := ⟨enters_of func77 (by kernel_rfl) (by kernel_rfl), func77⟩
noncomputable def e_field_Sub : Nat × (Func × Bool) := (78, (f78, false))
theorem e_field_Sub_ok : Enters prog e_field_Sub.1 ∧ prog.funcs[e_field_Sub.1]? = some e_field_Sub.2.1 := ⟨enters_of func78 (by kernel_rfl) (by kernel_rfl), func78⟩
noncomputable def e_causewayref02_Sub : Nat × (Func × Bool) := (79, (f79, false))
theorem e_causewayref02_Sub_ok : Enters prog e_causewayref02_Sub.1 ∧ prog.funcs[e_causewayref02_Sub.1]? = some e_causewayref02_Sub.2.1 := ⟨enters_of func79 (by kernel_rfl) (by kernel_rfl), func79⟩
noncomputable def e_field_Mul : Nat × (Func × Bool) := (80, (f80, false))
theorem e_field_Mul_ok : Enters prog e_field_Mul.1 ∧ prog.funcs[e_field_Mul.1]? = some e_field_Mul.2.1 := ⟨enters_of func80 (by kernel_rfl) (by kernel_rfl), func80⟩
noncomputable def e_causewayref02_Mul : Nat × (Func × Bool) := (81, (f81, false))
theorem e_causewayref02_Mul_ok : Enters prog e_causewayref02_Mul.1 ∧ prog.funcs[e_causewayref02_Mul.1]? = some e_causewayref02_Mul.2.1 := ⟨enters_of func81 (by kernel_rfl) (by kernel_rfl), func81⟩
noncomputable def e_field_Swap : Nat × (Func × Bool) := (82, (f82, false))
theorem e_field_Swap_ok : Enters prog e_field_Swap.1 ∧ prog.funcs[e_field_Swap.1]? = some e_field_Swap.2.1 := ⟨enters_of func82 (by kernel_rfl) (by kernel_rfl), func82⟩
noncomputable def e_field_carried : Nat × (Func × Bool) := (83, (f83, false))
theorem e_field_carried_ok : Enters prog e_field_carried.1 ∧ prog.funcs[e_field_carried.1]? = some e_field_carried.2.1 := ⟨enters_of func83 (by kernel_rfl) (by kernel_rfl), func83⟩
noncomputable def e_curve_Clamp : Nat × (Func × Bool) := (84, (f84, false))
theorem e_curve_Clamp_ok : Enters prog e_curve_Clamp.1 ∧ prog.funcs[e_curve_Clamp.1]? = some e_curve_Clamp.2.1 := ⟨enters_of func84 (by kernel_rfl) (by kernel_rfl), func84⟩
noncomputable def e_curve_swap : Nat × (Func × Bool) := (85, (f85, true))
theorem e_curve_swap_ok : Enters prog e_curve_swap.1 ∧ prog.funcs[e_curve_swap.1]? = some e_curve_swap.2.1 := ⟨enters_of func85 (by kernel_rfl) (by kernel_rfl), func85⟩
noncomputable def e_curve_ladder : Nat × (Func × Bool) := (86, (f86, true))
theorem e_curve_ladder_ok : Enters prog e_curve_ladder.1 ∧ prog.funcs[e_curve_ladder.1]? = some e_curve_ladder.2.1 := ⟨enters_of func86 (by kernel_rfl) (by kernel_rfl), func86⟩
noncomputable def e_causewayref03_X : Nat × (Func × Bool) := (87, (f87, false))
theorem e_causewayref03_X_ok : Enters prog e_causewayref03_X.1 ∧ prog.funcs[e_causewayref03_X.1]? = some e_causewayref03_X.2.1 := ⟨enters_of func87 (by kernel_rfl) (by kernel_rfl), func87⟩
noncomputable def e_curve_Share : Nat × (Func × Bool) := (88, (f88, false))
theorem e_curve_Share_ok : Enters prog e_curve_Share.1 ∧ prog.funcs[e_curve_Share.1]? = some e_curve_Share.2.1 := ⟨enters_of func88 (by kernel_rfl) (by kernel_rfl), func88⟩
noncomputable def e_cipher_State_once : Nat × (Func × Bool) := (89, (f89, true))
theorem e_cipher_State_once_ok : Enters prog e_cipher_State_once.1 ∧ prog.funcs[e_cipher_State_once.1]? = some e_cipher_State_once.2.1 := ⟨enters_of func89 (by kernel_rfl) (by kernel_rfl), func89⟩
noncomputable def e_causewayref06_Nonce : Nat × (Func × Bool) := (90, (f90, false))
theorem e_causewayref06_Nonce_ok : Enters prog e_causewayref06_Nonce.1 ∧ prog.funcs[e_causewayref06_Nonce.1]? = some e_causewayref06_Nonce.2.1 := ⟨enters_of func90 (by kernel_rfl) (by kernel_rfl), func90⟩
noncomputable def e_causewayref06_Seal : Nat × (Func × Bool) := (91, (f91, false))
theorem e_causewayref06_Seal_ok : Enters prog e_causewayref06_Seal.1 ∧ prog.funcs[e_causewayref06_Seal.1]? = some e_causewayref06_Seal.2.1 := ⟨enters_of func91 (by kernel_rfl) (by kernel_rfl), func91⟩
noncomputable def e_cipher_State_none : Nat × (Func × Bool) := (92, (f92, false))
theorem e_cipher_State_none_ok : Enters prog e_cipher_State_none.1 ∧ prog.funcs[e_cipher_State_none.1]? = some e_cipher_State_none.2.1 := ⟨enters_of func92 (by kernel_rfl) (by kernel_rfl), func92⟩
noncomputable def e_causewaylaw09_opens : Nat × (Func × Bool) := (93, (f93, false))
theorem e_causewaylaw09_opens_ok : Enters prog e_causewaylaw09_opens.1 ∧ prog.funcs[e_causewaylaw09_opens.1]? = some e_causewaylaw09_opens.2.1 := ⟨enters_of func93 (by kernel_rfl) (by kernel_rfl), func93⟩
noncomputable def e_aead_Open : Nat × (Func × Bool) := (94, (f94, false))
theorem e_aead_Open_ok : Enters prog e_aead_Open.1 ∧ prog.funcs[e_aead_Open.1]? = some e_aead_Open.2.1 := ⟨enters_of func94 (by kernel_rfl) (by kernel_rfl), func94⟩
noncomputable def e_cipher_State_at : Nat × (Func × Bool) := (95, (f95, true))
theorem e_cipher_State_at_ok : Enters prog e_cipher_State_at.1 ∧ prog.funcs[e_cipher_State_at.1]? = some e_cipher_State_at.2.1 := ⟨enters_of func95 (by kernel_rfl) (by kernel_rfl), func95⟩
noncomputable def e_chacha_Xor : Nat × (Func × Bool) := (96, (f96, false))
theorem e_chacha_Xor_ok : Enters prog e_chacha_Xor.1 ∧ prog.funcs[e_chacha_Xor.1]? = some e_chacha_Xor.2.1 := ⟨enters_of func96 (by kernel_rfl) (by kernel_rfl), func96⟩
noncomputable def e_aead_tag : Nat × (Func × Bool) := (97, (f97, false))
theorem e_aead_tag_ok : Enters prog e_aead_tag.1 ∧ prog.funcs[e_aead_tag.1]? = some e_aead_tag.2.1 := ⟨enters_of func97 (by kernel_rfl) (by kernel_rfl), func97⟩
noncomputable def e_causewayref09_State_Open : Nat × (Func × Bool) := (98, (f98, true))
theorem e_causewayref09_State_Open_ok : Enters prog e_causewayref09_State_Open.1 ∧ prog.funcs[e_causewayref09_State_Open.1]? = some e_causewayref09_State_Open.2.1 := ⟨enters_of func98 (by kernel_rfl) (by kernel_rfl), func98⟩
noncomputable def e_causewayref09_State_OpenAt : Nat × (Func × Bool) := (99, (f99, true))
theorem e_causewayref09_State_OpenAt_ok : Enters prog e_causewayref09_State_OpenAt.1 ∧ prog.funcs[e_causewayref09_State_OpenAt.1]? = some e_causewayref09_State_OpenAt.2.1 := ⟨enters_of func99 (by kernel_rfl) (by kernel_rfl), func99⟩
noncomputable def e_causewayref09_State_Skip : Nat × (Func × Bool) := (100, (f100, true))
theorem e_causewayref09_State_Skip_ok : Enters prog e_causewayref09_State_Skip.1 ∧ prog.funcs[e_causewayref09_State_Skip.1]? = some e_causewayref09_State_Skip.2.1 := ⟨enters_of func100 (by kernel_rfl) (by kernel_rfl), func100⟩
noncomputable def e_hand_name : Nat × (Func × Bool) := (101, (f101, true))
theorem e_hand_name_ok : Enters prog e_hand_name.1 ∧ prog.funcs[e_hand_name.1]? = some e_hand_name.2.1 := ⟨enters_of func101 (by kernel_rfl) (by kernel_rfl), func101⟩
noncomputable def e_blake_Sum : Nat × (Func × Bool) := (102, (f102, false))
theorem e_blake_Sum_ok : Enters prog e_blake_Sum.1 ∧ prog.funcs[e_blake_Sum.1]? = some e_blake_Sum.2.1 := ⟨enters_of func102 (by kernel_rfl) (by kernel_rfl), func102⟩
noncomputable def e_hand_mixer_mix : Nat × (Func × Bool) := (103, (f103, true))
theorem e_hand_mixer_mix_ok : Enters prog e_hand_mixer_mix.1 ∧ prog.funcs[e_hand_mixer_mix.1]? = some e_hand_mixer_mix.2.1 := ⟨enters_of func103 (by kernel_rfl) (by kernel_rfl), func103⟩
noncomputable def e_hand_Hand_none : Nat × (Func × Bool) := (104, (f104, true))
theorem e_hand_Hand_none_ok : Enters prog e_hand_Hand_none.1 ∧ prog.funcs[e_hand_Hand_none.1]? = some e_hand_Hand_none.2.1 := ⟨enters_of func104 (by kernel_rfl) (by kernel_rfl), func104⟩
noncomputable def e_hand_Hand_turn : Nat × (Func × Bool) := (105, (f105, true))
theorem e_hand_Hand_turn_ok : Enters prog e_hand_Hand_turn.1 ∧ prog.funcs[e_hand_Hand_turn.1]? = some e_hand_Hand_turn.2.1 := ⟨enters_of func105 (by kernel_rfl) (by kernel_rfl), func105⟩
noncomputable def e_hand_Hand_second : Nat × (Func × Bool) := (106, (f106, true))
theorem e_hand_Hand_second_ok : Enters prog e_hand_Hand_second.1 ∧ prog.funcs[e_hand_Hand_second.1]? = some e_hand_Hand_second.2.1 := ⟨enters_of func106 (by kernel_rfl) (by kernel_rfl), func106⟩
noncomputable def e_hand_Hand_first : Nat × (Func × Bool) := (107, (f107, true))
theorem e_hand_Hand_first_ok : Enters prog e_hand_Hand_first.1 ∧ prog.funcs[e_hand_Hand_first.1]? = some e_hand_Hand_first.2.1 := ⟨enters_of func107 (by kernel_rfl) (by kernel_rfl), func107⟩
noncomputable def e_hand_Hand_does : Nat × (Func × Bool) := (108, (f108, true))
theorem e_hand_Hand_does_ok : Enters prog e_hand_Hand_does.1 ∧ prog.funcs[e_hand_Hand_does.1]? = some e_hand_Hand_does.2.1 := ⟨enters_of func108 (by kernel_rfl) (by kernel_rfl), func108⟩
noncomputable def e___hand_Hand__Write_1 : Nat × (Func × Bool) := (109, (f109, false))
theorem e___hand_Hand__Write_1_ok : Enters prog e___hand_Hand__Write_1.1 ∧ prog.funcs[e___hand_Hand__Write_1.1]? = some e___hand_Hand__Write_1.2.1 := ⟨enters_of func109 (by kernel_rfl) (by kernel_rfl), func109⟩
noncomputable def e_kdf_Two : Nat × (Func × Bool) := (110, (f110, false))
theorem e_kdf_Two_ok : Enters prog e_kdf_Two.1 ∧ prog.funcs[e_kdf_Two.1]? = some e_kdf_Two.2.1 := ⟨enters_of func110 (by kernel_rfl) (by kernel_rfl), func110⟩
noncomputable def e_hand_Hand_readFirst : Nat × (Func × Bool) := (111, (f111, true))
theorem e_hand_Hand_readFirst_ok : Enters prog e_hand_Hand_readFirst.1 ∧ prog.funcs[e_hand_Hand_readFirst.1]? = some e_hand_Hand_readFirst.2.1 := ⟨enters_of func111 (by kernel_rfl) (by kernel_rfl), func111⟩
noncomputable def e_hand_Hand_readSecond : Nat × (Func × Bool) := (112, (f112, true))
theorem e_hand_Hand_readSecond_ok : Enters prog e_hand_Hand_readSecond.1 ∧ prog.funcs[e_hand_Hand_readSecond.1]? = some e_hand_Hand_readSecond.2.1 := ⟨enters_of func112 (by kernel_rfl) (by kernel_rfl), func112⟩
noncomputable def e_causewayref02_prime : Nat × (Func × Bool) := (113, (f113, false))
theorem e_causewayref02_prime_ok : Enters prog e_causewayref02_prime.1 ∧ prog.funcs[e_causewayref02_prime.1]? = some e_causewayref02_prime.2.1 := ⟨enters_of func113 (by kernel_rfl) (by kernel_rfl), func113⟩
noncomputable def e_causewayref02_less : Nat × (Func × Bool) := (114, (f114, false))
theorem e_causewayref02_less_ok : Enters prog e_causewayref02_less.1 ∧ prog.funcs[e_causewayref02_less.1]? = some e_causewayref02_less.2.1 := ⟨enters_of func114 (by kernel_rfl) (by kernel_rfl), func114⟩
noncomputable def e_causewayref02_minus : Nat × (Func × Bool) := (115, (f115, false))
theorem e_causewayref02_minus_ok : Enters prog e_causewayref02_minus.1 ∧ prog.funcs[e_causewayref02_minus.1]? = some e_causewayref02_minus.2.1 := ⟨enters_of func115 (by kernel_rfl) (by kernel_rfl), func115⟩
noncomputable def e_causewayref02_carried : Nat × (Func × Bool) := (116, (f116, false))
theorem e_causewayref02_carried_ok : Enters prog e_causewayref02_carried.1 ∧ prog.funcs[e_causewayref02_carried.1]? = some e_causewayref02_carried.2.1 := ⟨enters_of func116 (by kernel_rfl) (by kernel_rfl), func116⟩
noncomputable def e_field_wide_plus : Nat × (Func × Bool) := (117, (f117, false))
theorem e_field_wide_plus_ok : Enters prog e_field_wide_plus.1 ∧ prog.funcs[e_field_wide_plus.1]? = some e_field_wide_plus.2.1 := ⟨enters_of func117 (by kernel_rfl) (by kernel_rfl), func117⟩
noncomputable def e_curve_square : Nat × (Func × Bool) := (119, (f119, false))
theorem e_curve_square_ok : Enters prog e_curve_square.1 ∧ prog.funcs[e_curve_square.1]? = some e_curve_square.2.1 := ⟨enters_of func119 (by kernel_rfl) (by kernel_rfl), func119⟩
noncomputable def e_causewayref03_Clamp : Nat × (Func × Bool) := (120, (f120, false))
theorem e_causewayref03_Clamp_ok : Enters prog e_causewayref03_Clamp.1 ∧ prog.funcs[e_causewayref03_Clamp.1]? = some e_causewayref03_Clamp.2.1 := ⟨enters_of func120 (by kernel_rfl) (by kernel_rfl), func120⟩
noncomputable def e_causewayref03_step : Nat × (Func × Bool) := (121, (f121, false))
theorem e_causewayref03_step_ok : Enters prog e_causewayref03_step.1 ∧ prog.funcs[e_causewayref03_step.1]? = some e_causewayref03_step.2.1 := ⟨enters_of func121 (by kernel_rfl) (by kernel_rfl), func121⟩
noncomputable def e_causewayref02_Inv : Nat × (Func × Bool) := (122, (f122, false))
theorem e_causewayref02_Inv_ok : Enters prog e_causewayref02_Inv.1 ∧ prog.funcs[e_causewayref02_Inv.1]? = some e_causewayref02_Inv.2.1 := ⟨enters_of func122 (by kernel_rfl) (by kernel_rfl), func122⟩
noncomputable def e_causewayref04_Xor : Nat × (Func × Bool) := (123, (f123, false))
theorem e_causewayref04_Xor_ok : Enters prog e_causewayref04_Xor.1 ∧ prog.funcs[e_causewayref04_Xor.1]? = some e_causewayref04_Xor.2.1 := ⟨enters_of func123 (by kernel_rfl) (by kernel_rfl), func123⟩
noncomputable def e_causewayref06_tag : Nat × (Func × Bool) := (124, (f124, false))
theorem e_causewayref06_tag_ok : Enters prog e_causewayref06_tag.1 ∧ prog.funcs[e_causewayref06_tag.1]? = some e_causewayref06_tag.2.1 := ⟨enters_of func124 (by kernel_rfl) (by kernel_rfl), func124⟩
noncomputable def e_poly_Same : Nat × (Func × Bool) := (125, (f125, false))
theorem e_poly_Same_ok : Enters prog e_poly_Same.1 ∧ prog.funcs[e_poly_Same.1]? = some e_poly_Same.2.1 := ⟨enters_of func125 (by kernel_rfl) (by kernel_rfl), func125⟩
noncomputable def e_chacha_Block : Nat × (Func × Bool) := (126, (f126, false))
theorem e_chacha_Block_ok : Enters prog e_chacha_Block.1 ∧ prog.funcs[e_chacha_Block.1]? = some e_chacha_Block.2.1 := ⟨enters_of func126 (by kernel_rfl) (by kernel_rfl), func126⟩
noncomputable def e_poly_New : Nat × (Func × Bool) := (127, (f127, false))
theorem e_poly_New_ok : Enters prog e_poly_New.1 ∧ prog.funcs[e_poly_New.1]? = some e_poly_New.2.1 := ⟨enters_of func127 (by kernel_rfl) (by kernel_rfl), func127⟩
noncomputable def e_poly_Poly_Write : Nat × (Func × Bool) := (128, (f128, true))
theorem e_poly_Poly_Write_ok : Enters prog e_poly_Poly_Write.1 ∧ prog.funcs[e_poly_Poly_Write.1]? = some e_poly_Poly_Write.2.1 := ⟨enters_of func128 (by kernel_rfl) (by kernel_rfl), func128⟩
noncomputable def e_poly_Poly_Sum : Nat × (Func × Bool) := (129, (f129, false))
theorem e_poly_Poly_Sum_ok : Enters prog e_poly_Poly_Sum.1 ∧ prog.funcs[e_poly_Poly_Sum.1]? = some e_poly_Poly_Sum.2.1 := ⟨enters_of func129 (by kernel_rfl) (by kernel_rfl), func129⟩
noncomputable def e_causewayref06_Open : Nat × (Func × Bool) := (130, (f130, false))
theorem e_causewayref06_Open_ok : Enters prog e_causewayref06_Open.1 ∧ prog.funcs[e_causewayref06_Open.1]? = some e_causewayref06_Open.2.1 := ⟨enters_of func130 (by kernel_rfl) (by kernel_rfl), func130⟩
noncomputable def e_blake_Of : Nat × (Func × Bool) := (131, (f131, false))
theorem e_blake_Of_ok : Enters prog e_blake_Of.1 ∧ prog.funcs[e_blake_Of.1]? = some e_blake_Of.2.1 := ⟨enters_of func131 (by kernel_rfl) (by kernel_rfl), func131⟩
noncomputable def e_slices_Concat : Nat × (Func × Bool) := (132, (f132, false))
theorem e_slices_Concat_ok : Enters prog e_slices_Concat.1 ∧ prog.funcs[e_slices_Concat.1]? = some e_slices_Concat.2.1 := ⟨enters_of func132 (by kernel_rfl) (by kernel_rfl), func132⟩
noncomputable def e_hand_Hand_point : Nat × (Func × Bool) := (133, (f133, true))
theorem e_hand_Hand_point_ok : Enters prog e_hand_Hand_point.1 ∧ prog.funcs[e_hand_Hand_point.1]? = some e_hand_Hand_point.2.1 := ⟨enters_of func133 (by kernel_rfl) (by kernel_rfl), func133⟩
noncomputable def e_hand_Hand_both : Nat × (Func × Bool) := (134, (f134, true))
theorem e_hand_Hand_both_ok : Enters prog e_hand_Hand_both.1 ∧ prog.funcs[e_hand_Hand_both.1]? = some e_hand_Hand_both.2.1 := ⟨enters_of func134 (by kernel_rfl) (by kernel_rfl), func134⟩
noncomputable def e_hand_Hand_shared : Nat × (Func × Bool) := (135, (f135, true))
theorem e_hand_Hand_shared_ok : Enters prog e_hand_Hand_shared.1 ∧ prog.funcs[e_hand_Hand_shared.1]? = some e_hand_Hand_shared.2.1 := ⟨enters_of func135 (by kernel_rfl) (by kernel_rfl), func135⟩
noncomputable def e_hand_mixer_seal : Nat × (Func × Bool) := (136, (f136, true))
theorem e_hand_mixer_seal_ok : Enters prog e_hand_mixer_seal.1 ∧ prog.funcs[e_hand_mixer_seal.1]? = some e_hand_mixer_seal.2.1 := ⟨enters_of func136 (by kernel_rfl) (by kernel_rfl), func136⟩
noncomputable def e_hand_mixer_share : Nat × (Func × Bool) := (137, (f137, true))
theorem e_hand_mixer_share_ok : Enters prog e_hand_mixer_share.1 ∧ prog.funcs[e_hand_mixer_share.1]? = some e_hand_mixer_share.2.1 := ⟨enters_of func137 (by kernel_rfl) (by kernel_rfl), func137⟩
noncomputable def e_kdf_chain : Nat × (Func × Bool) := (138, (f138, false))
theorem e_kdf_chain_ok : Enters prog e_kdf_chain.1 ∧ prog.funcs[e_kdf_chain.1]? = some e_kdf_chain.2.1 := ⟨enters_of func138 (by kernel_rfl) (by kernel_rfl), func138⟩
noncomputable def e_hand_mixer_open : Nat × (Func × Bool) := (139, (f139, true))
theorem e_hand_mixer_open_ok : Enters prog e_hand_mixer_open.1 ∧ prog.funcs[e_hand_mixer_open.1]? = some e_hand_mixer_open.2.1 := ⟨enters_of func139 (by kernel_rfl) (by kernel_rfl), func139⟩
noncomputable def e_bits_Mul64 : Nat × (Func × Bool) := (140, (f140, false))
theorem e_bits_Mul64_ok : Enters prog e_bits_Mul64.1 ∧ prog.funcs[e_bits_Mul64.1]? = some e_bits_Mul64.2.1 := ⟨enters_of func140 (by kernel_rfl) (by kernel_rfl), func140⟩
noncomputable def e_causewayref04_Block : Nat × (Func × Bool) := (141, (f141, false))
theorem e_causewayref04_Block_ok : Enters prog e_causewayref04_Block.1 ∧ prog.funcs[e_causewayref04_Block.1]? = some e_causewayref04_Block.2.1 := ⟨enters_of func141 (by kernel_rfl) (by kernel_rfl), func141⟩
noncomputable def e_causewayref06_filled : Nat × (Func × Bool) := (142, (f142, false))
theorem e_causewayref06_filled_ok : Enters prog e_causewayref06_filled.1 ∧ prog.funcs[e_causewayref06_filled.1]? = some e_causewayref06_filled.2.1 := ⟨enters_of func142 (by kernel_rfl) (by kernel_rfl), func142⟩
noncomputable def e_causewayref06_long : Nat × (Func × Bool) := (143, (f143, false))
theorem e_causewayref06_long_ok : Enters prog e_causewayref06_long.1 ∧ prog.funcs[e_causewayref06_long.1]? = some e_causewayref06_long.2.1 := ⟨enters_of func143 (by kernel_rfl) (by kernel_rfl), func143⟩
noncomputable def e_causewayref05_Tag : Nat × (Func × Bool) := (144, (f144, false))
theorem e_causewayref05_Tag_ok : Enters prog e_causewayref05_Tag.1 ∧ prog.funcs[e_causewayref05_Tag.1]? = some e_causewayref05_Tag.2.1 := ⟨enters_of func144 (by kernel_rfl) (by kernel_rfl), func144⟩
noncomputable def e_chacha_word : Nat × (Func × Bool) := (145, (f145, false))
theorem e_chacha_word_ok : Enters prog e_chacha_word.1 ∧ prog.funcs[e_chacha_word.1]? = some e_chacha_word.2.1 := ⟨enters_of func145 (by kernel_rfl) (by kernel_rfl), func145⟩
noncomputable def e_chacha_quarter : Nat × (Func × Bool) := (146, (f146, true))
theorem e_chacha_quarter_ok : Enters prog e_chacha_quarter.1 ∧ prog.funcs[e_chacha_quarter.1]? = some e_chacha_quarter.2.1 := ⟨enters_of func146 (by kernel_rfl) (by kernel_rfl), func146⟩
noncomputable def e_chacha_put : Nat × (Func × Bool) := (147, (f147, true))
theorem e_chacha_put_ok : Enters prog e_chacha_put.1 ∧ prog.funcs[e_chacha_put.1]? = some e_chacha_put.2.1 := ⟨enters_of func147 (by kernel_rfl) (by kernel_rfl), func147⟩
noncomputable def e_poly_number : Nat × (Func × Bool) := (148, (f148, false))
theorem e_poly_number_ok : Enters prog e_poly_number.1 ∧ prog.funcs[e_poly_number.1]? = some e_poly_number.2.1 := ⟨enters_of func148 (by kernel_rfl) (by kernel_rfl), func148⟩
noncomputable def e_poly_Poly_take : Nat × (Func × Bool) := (149, (f149, true))
theorem e_poly_Poly_take_ok : Enters prog e_poly_Poly_take.1 ∧ prog.funcs[e_poly_Poly_take.1]? = some e_poly_Poly_take.2.1 := ⟨enters_of func149 (by kernel_rfl) (by kernel_rfl), func149⟩
noncomputable def e_blake_New : Nat × (Func × Bool) := (150, (f150, false))
theorem e_blake_New_ok : Enters prog e_blake_New.1 ∧ prog.funcs[e_blake_New.1]? = some e_blake_New.2.1 := ⟨enters_of func150 (by kernel_rfl) (by kernel_rfl), func150⟩
noncomputable def e_blake_Hash_Write : Nat × (Func × Bool) := (151, (f151, true))
theorem e_blake_Hash_Write_ok : Enters prog e_blake_Hash_Write.1 ∧ prog.funcs[e_blake_Hash_Write.1]? = some e_blake_Hash_Write.2.1 := ⟨enters_of func151 (by kernel_rfl) (by kernel_rfl), func151⟩
noncomputable def e_blake_Hash_Sum : Nat × (Func × Bool) := (152, (f152, false))
theorem e_blake_Hash_Sum_ok : Enters prog e_blake_Hash_Sum.1 ∧ prog.funcs[e_blake_Hash_Sum.1]? = some e_blake_Hash_Sum.2.1 := ⟨enters_of func152 (by kernel_rfl) (by kernel_rfl), func152⟩
noncomputable def e_slices_Grow : Nat × (Func × Bool) := (153, (f153, false))
theorem e_slices_Grow_ok : Enters prog e_slices_Grow.1 ∧ prog.funcs[e_slices_Grow.1]? = some e_slices_Grow.2.1 := ⟨enters_of func153 (by kernel_rfl) (by kernel_rfl), func153⟩
noncomputable def e_hand_mixer_mixKey : Nat × (Func × Bool) := (154, (f154, true))
theorem e_hand_mixer_mixKey_ok : Enters prog e_hand_mixer_mixKey.1 ∧ prog.funcs[e_hand_mixer_mixKey.1]? = some e_hand_mixer_mixKey.2.1 := ⟨enters_of func154 (by kernel_rfl) (by kernel_rfl), func154⟩
noncomputable def e_hand_mixer_mixShared : Nat × (Func × Bool) := (155, (f155, true))
theorem e_hand_mixer_mixShared_ok : Enters prog e_hand_mixer_mixShared.1 ∧ prog.funcs[e_hand_mixer_mixShared.1]? = some e_hand_mixer_mixShared.2.1 := ⟨enters_of func155 (by kernel_rfl) (by kernel_rfl), func155⟩
noncomputable def e_slices_Clone : Nat × (Func × Bool) := (156, (f156, false))
theorem e_slices_Clone_ok : Enters prog e_slices_Clone.1 ∧ prog.funcs[e_slices_Clone.1]? = some e_slices_Clone.2.1 := ⟨enters_of func156 (by kernel_rfl) (by kernel_rfl), func156⟩
noncomputable def e_hand_mixer_state : Nat × (Func × Bool) := (157, (f157, true))
theorem e_hand_mixer_state_ok : Enters prog e_hand_mixer_state.1 ∧ prog.funcs[e_hand_mixer_state.1]? = some e_hand_mixer_state.2.1 := ⟨enters_of func157 (by kernel_rfl) (by kernel_rfl), func157⟩
noncomputable def e_kdf_Expand : Nat × (Func × Bool) := (158, (f158, false))
theorem e_kdf_Expand_ok : Enters prog e_kdf_Expand.1 ∧ prog.funcs[e_kdf_Expand.1]? = some e_kdf_Expand.2.1 := ⟨enters_of func158 (by kernel_rfl) (by kernel_rfl), func158⟩
noncomputable def e_kdf_Extract : Nat × (Func × Bool) := (159, (f159, false))
theorem e_kdf_Extract_ok : Enters prog e_kdf_Extract.1 ∧ prog.funcs[e_kdf_Extract.1]? = some e_kdf_Extract.2.1 := ⟨enters_of func159 (by kernel_rfl) (by kernel_rfl), func159⟩
noncomputable def e_causewayref04_number : Nat × (Func × Bool) := (160, (f160, false))
theorem e_causewayref04_number_ok : Enters prog e_causewayref04_number.1 ∧ prog.funcs[e_causewayref04_number.1]? = some e_causewayref04_number.2.1 := ⟨enters_of func160 (by kernel_rfl) (by kernel_rfl), func160⟩
noncomputable def e_causewayref04_places : Nat × (Func × Bool) := (161, (f161, false))
theorem e_causewayref04_places_ok : Enters prog e_causewayref04_places.1 ∧ prog.funcs[e_causewayref04_places.1]? = some e_causewayref04_places.2.1 := ⟨enters_of func161 (by kernel_rfl) (by kernel_rfl), func161⟩
noncomputable def e_causewayref04_Quarter : Nat × (Func × Bool) := (162, (f162, false))
theorem e_causewayref04_Quarter_ok : Enters prog e_causewayref04_Quarter.1 ∧ prog.funcs[e_causewayref04_Quarter.1]? = some e_causewayref04_Quarter.2.1 := ⟨enters_of func162 (by kernel_rfl) (by kernel_rfl), func162⟩
noncomputable def e_causewayref05_r : Nat × (Func × Bool) := (163, (f163, false))
theorem e_causewayref05_r_ok : Enters prog e_causewayref05_r.1 ∧ prog.funcs[e_causewayref05_r.1]? = some e_causewayref05_r.2.1 := ⟨enters_of func163 (by kernel_rfl) (by kernel_rfl), func163⟩
noncomputable def e_causewayref05_times : Nat × (Func × Bool) := (164, (f164, false))
theorem e_causewayref05_times_ok : Enters prog e_causewayref05_times.1 ∧ prog.funcs[e_causewayref05_times.1]? = some e_causewayref05_times.2.1 := ⟨enters_of func164 (by kernel_rfl) (by kernel_rfl), func164⟩
noncomputable def e_causewayref05_carry : Nat × (Func × Bool) := (165, (f165, false))
theorem e_causewayref05_carry_ok : Enters prog e_causewayref05_carry.1 ∧ prog.funcs[e_causewayref05_carry.1]? = some e_causewayref05_carry.2.1 := ⟨enters_of func165 (by kernel_rfl) (by kernel_rfl), func165⟩
noncomputable def e_causewayref05_least : Nat × (Func × Bool) := (166, (f166, false))
theorem e_causewayref05_least_ok : Enters prog e_causewayref05_least.1 ∧ prog.funcs[e_causewayref05_least.1]? = some e_causewayref05_least.2.1 := ⟨enters_of func166 (by kernel_rfl) (by kernel_rfl), func166⟩
noncomputable def e_bits_RotateLeft32 : Nat × (Func × Bool) := (167, (f167, false))
theorem e_bits_RotateLeft32_ok : Enters prog e_bits_RotateLeft32.1 ∧ prog.funcs[e_bits_RotateLeft32.1]? = some e_bits_RotateLeft32.2.1 := ⟨enters_of func167 (by kernel_rfl) (by kernel_rfl), func167⟩
noncomputable def e_poly_Poly_add : Nat × (Func × Bool) := (168, (f168, true))
theorem e_poly_Poly_add_ok : Enters prog e_poly_Poly_add.1 ∧ prog.funcs[e_poly_Poly_add.1]? = some e_poly_Poly_add.2.1 := ⟨enters_of func168 (by kernel_rfl) (by kernel_rfl), func168⟩
noncomputable def e_poly_Poly_times : Nat × (Func × Bool) := (169, (f169, true))
theorem e_poly_Poly_times_ok : Enters prog e_poly_Poly_times.1 ∧ prog.funcs[e_poly_Poly_times.1]? = some e_poly_Poly_times.2.1 := ⟨enters_of func169 (by kernel_rfl) (by kernel_rfl), func169⟩
noncomputable def e_blake_start : Nat × (Func × Bool) := (170, (f170, false))
theorem e_blake_start_ok : Enters prog e_blake_start.1 ∧ prog.funcs[e_blake_start.1]? = some e_blake_start.2.1 := ⟨enters_of func170 (by kernel_rfl) (by kernel_rfl), func170⟩
noncomputable def e_blake_Hash_press : Nat × (Func × Bool) := (171, (f171, true))
theorem e_blake_Hash_press_ok : Enters prog e_blake_Hash_press.1 ∧ prog.funcs[e_blake_Hash_press.1]? = some e_blake_Hash_press.2.1 := ⟨enters_of func171 (by kernel_rfl) (by kernel_rfl), func171⟩
noncomputable def e_kdf_Three : Nat × (Func × Bool) := (172, (f172, false))
theorem e_kdf_Three_ok : Enters prog e_kdf_Three.1 ∧ prog.funcs[e_kdf_Three.1]? = some e_kdf_Three.2.1 := ⟨enters_of func172 (by kernel_rfl) (by kernel_rfl), func172⟩
noncomputable def e_kdf_Hmac : Nat × (Func × Bool) := (173, (f173, false))
theorem e_kdf_Hmac_ok : Enters prog e_kdf_Hmac.1 ∧ prog.funcs[e_kdf_Hmac.1]? = some e_kdf_Hmac.2.1 := ⟨enters_of func173 (by kernel_rfl) (by kernel_rfl), func173⟩
noncomputable def e_causewayref04_turn : Nat × (Func × Bool) := (174, (f174, false))
theorem e_causewayref04_turn_ok : Enters prog e_causewayref04_turn.1 ∧ prog.funcs[e_causewayref04_turn.1]? = some e_causewayref04_turn.2.1 := ⟨enters_of func174 (by kernel_rfl) (by kernel_rfl), func174⟩
noncomputable def e_blake_word : Nat × (Func × Bool) := (175, (f175, false))
theorem e_blake_word_ok : Enters prog e_blake_word.1 ∧ prog.funcs[e_blake_word.1]? = some e_blake_word.2.1 := ⟨enters_of func175 (by kernel_rfl) (by kernel_rfl), func175⟩
noncomputable def e_blake_orders : Nat × (Func × Bool) := (176, (f176, false))
theorem e_blake_orders_ok : Enters prog e_blake_orders.1 ∧ prog.funcs[e_blake_orders.1]? = some e_blake_orders.2.1 := ⟨enters_of func176 (by kernel_rfl) (by kernel_rfl), func176⟩
noncomputable def e___blake_Hash__press_1 : Nat × (Func × Bool) := (177, (f177, false))
theorem e___blake_Hash__press_1_ok : Enters prog e___blake_Hash__press_1.1 ∧ prog.funcs[e___blake_Hash__press_1.1]? = some e___blake_Hash__press_1.2.1 := ⟨enters_of func177 (by kernel_rfl) (by kernel_rfl), func177⟩
noncomputable def e_blake_mix : Nat × (Func × Bool) := (178, (f178, true))
theorem e_blake_mix_ok : Enters prog e_blake_mix.1 ∧ prog.funcs[e_blake_mix.1]? = some e_blake_mix.2.1 := ⟨enters_of func178 (by kernel_rfl) (by kernel_rfl), func178⟩
noncomputable def e_kdf_Hmac_1 : Nat × (Func × Bool) := (179, (f179, false))
theorem e_kdf_Hmac_1_ok : Enters prog e_kdf_Hmac_1.1 ∧ prog.funcs[e_kdf_Hmac_1.1]? = some e_kdf_Hmac_1.2.1 := ⟨enters_of func179 (by kernel_rfl) (by kernel_rfl), func179⟩

theorem add64_ok : ExtOk prog 118 add64E := add64_ext fun args w => run_callFunc_extern func118 (by kernel_rfl) (by kernel_rfl) (by kernel_rfl) (e := add64Entry) (by kernel_rfl) args w

/-- An environment out of functions that are followed, contracts and summaries. -/
noncomputable def env (fns : List (Nat × (Func × Bool))) (orc : List (Nat × Orc)) (lps : List (Nat × Code × (St → Tree (LX × St)))) : EnvX := mkEnv tabL fns orc [(118, add64E)] lps

theorem env_ok {fns : List (Nat × (Func × Bool))} {orc : List (Nat × Orc)} {lps : List (Nat × Code × (St → Tree (LX × St)))} (hf : ∀ p ∈ fns, Enters prog p.1 ∧ prog.funcs[p.1]? = some p.2.1) (ho : ∀ p ∈ orc, Enters prog p.1 ∧ OrcOk prog p.1 p.2) :
    EnvOk prog (env fns orc lps) := mkEnv_ok tab_all hf ho (fun p h => by rw [List.mem_singleton.1 h]; exact add64_ok) (by kernel_rfl)

theorem env_noLps {fns : List (Nat × (Func × Bool))} {orc : List (Nat × Orc)} : LpsOk prog (env fns orc []) := noLps

theorem allNil {α : Type} {p : α → Prop} : ∀ x ∈ ([] : List α), p x := fun _ h => by cases h
theorem allCons {α : Type} {p : α → Prop} {a : α} {l : List α} (h : p a) (k : ∀ x ∈ l, p x) : ∀ x ∈ a :: l, p x := fun x hx => by
  rcases List.mem_cons.1 hx with rfl | hx
  · exact h
  · exact k x hx

theorem lps_cons {fns : List (Nat × (Func × Bool))} {orc : List (Nat × Orc)} {lps : List (Nat × Code × (St → Tree (LX × St)))} {k : Nat} {c : Code} {f : St → Tree (LX × St)} (h : ∀ st r, (f st).res r → CodeRes prog c st r)
    (hl : LpsOk prog (env fns orc lps)) : LpsOk prog (env fns orc ((k, c, f) :: lps)) := by
  intro j c' f' hf
  simp only [env, mkEnv, findLp] at hf
  split at hf
  · obtain ⟨rfl, rfl⟩ := Prod.mk.inj (Option.some.inj hf)
    exact h
  · exact hl j c' f' hf

end Go.LE

/- bits.RotateLeft32. -/
namespace Go.LE
open Go.Proofs.Try

def rotl (s : Nat) (x : Int) : Int := iOr .u32 (iShl .u32 x s) (iShr .u32 x (32 - s))

noncomputable def rotEnv : EnvX := env [] [] []
theorem rotEnv_ok : EnvOk prog rotEnv := env_ok allNil allNil

def rotBy : Int → Option Nat
  | .ofNat 16 => some 16
  | .ofNat 12 => some 12
  | .ofNat 8 => some 8
  | .ofNat 7 => some 7
  | .negSucc 15 => some 16
  | .negSucc 11 => some 20
  | .negSucc 7 => some 24
  | .negSucc 6 => some 25
  | _ => none

def rotS (args : List LVal) : Tree LVal :=
  match args with
  | [.int .u32 x, .int .i64 (.lit k)] => match rotBy k with
    | some s => x.on fun x => .done (.int .u32 (.sym (rotl s x)))
    | none => .fail 300
  | _ => .fail 301

theorem rot_eval {k : Int} {s : Nat} (h : rotBy k = some s) (x : Int) : valOf (evalFn rotEnv (leval rotEnv 1000) f167 [.int .u32 (.sym x), .int .i64 (.lit k)] ⟨.leaf, 0, .leaf, 0⟩) = .done (.int .u32 (.sym (rotl s x))) := by
  unfold rotBy at h
  split at h <;> first | (cases h; done) | (obtain rfl := Option.some.inj h; kernel_rfl)

theorem rot_pure : PureOk rotEnv f167 rotS := by
  refine pureOk_of fun args v h => ?_
  unfold rotS at h
  simp only [LN.on_v] at h
  split at h
  · rename_i x k
    split at h
    · rename_i s hs
      obtain rfl := Tree.res_done.1 h
      exact ⟨1000, [.int .u32 (.sym x.v), .int .i64 (.lit k)], _, _, rot_eval hs x.v, Tree.res_done.2 rfl, fun ρ => rfl, rfl, rfl, fun ρ z hz => hz⟩
    · exact h.elim
  · exact h.elim

noncomputable def rot_orc : Nat × Orc := (167, pureOrc rotS)
theorem rot_orc_ok : Enters prog rot_orc.1 ∧ OrcOk prog rot_orc.1 rot_orc.2 := ⟨e_bits_RotateLeft32_ok.1, pureOrc_ok rotEnv_ok env_noLps e_bits_RotateLeft32_ok.2 rot_pure⟩

end Go.LE

/- chacha.quarter: the contract, for four places of one array. -/
namespace Go.LE
open Go.Proofs.Try

def addAt (f : Nat → Int) (i j : Nat) : Nat → Int := upd f i (IntKind.u32.wrap (f i + f j))
def rotAt (s : Nat) (f : Nat → Int) (i j : Nat) : Nat → Int := upd f i (rotl s (iXor .u32 (f i) (f j)))

/-- A quarter round at four places. -/
def quarterF (f : Nat → Int) (a b c d : Nat) : Nat → Int :=
  rotAt 7 (addAt (rotAt 8 (addAt (rotAt 12 (addAt (rotAt 16 (addAt f a b) d a) c d) b c) a b) d a) c d) b c

noncomputable def quEnv : EnvX := env [] [rot_orc] []
theorem quEnv_ok : EnvOk prog quEnv := env_ok allNil (allCons rot_orc_ok allNil)

def arrBlk (k : IntKind) (n : Nat) (f : Nat → Int) : Blk := ⟨true, false, false, none, .arr k n f⟩

theorem quarter_eval (f : Nat → Int) (a b c d : Nat) : evalFn quEnv (leval quEnv 1000) f146 [.ptr 0 (.sym a), .ptr 0 (.sym b), .ptr 0 (.sym c), .ptr 0 (.sym d)] ⟨.leaf, 0, Trie.put .leaf 0 (arrBlk .u32 16 f), 1⟩ =
    needs [a + 1 ≤ 16, b + 1 ≤ 16, a + 1 ≤ 16, d + 1 ≤ 16, a + 1 ≤ 16, d + 1 ≤ 16, c + 1 ≤ 16, d + 1 ≤ 16, c + 1 ≤ 16, b + 1 ≤ 16, c + 1 ≤ 16, b + 1 ≤ 16, a + 1 ≤ 16, b + 1 ≤ 16, a + 1 ≤ 16, d + 1 ≤ 16, a + 1 ≤ 16, d + 1 ≤ 16, c + 1 ≤ 16, d + 1 ≤ 16, c + 1 ≤ 16, b + 1 ≤ 16, c + 1 ≤ 16, b + 1 ≤ 16]
      (.done (.tup [], ⟨.leaf, 0, .node (some (arrBlk .u32 16 (quarterF f a b c d))) .leaf .leaf, 1⟩)) := by
  kernel_rfl

def quarterS (args : List LVal) (blks : List Blk) : Tree OrcRes :=
  match args, blks with
  | [.ptr 0 a, .ptr 0 b, .ptr 0 c, .ptr 0 d], [⟨true, _, false, _, cont⟩] => match arrOf .u32 16 cont with
    | some f => leN (a.add (.lit 1)) (.lit 16) (leN (b.add (.lit 1)) (.lit 16) (leN (c.add (.lit 1)) (.lit 16) (leN (d.add (.lit 1)) (.lit 16) (a.on fun a => b.on fun b => c.on fun c => d.on fun d => .done ⟨.tup [], [(0, arrBlk .u32 16 (quarterF f a b c d))], 0⟩))))
    | none => .fail 302
  | _, _ => .fail 303

theorem quarter_spec : SpecOk quEnv f146 quarterS := by
  intro args blks r h Cf hnil hw
  unfold quarterS at h
  simp only [NN.on_v] at h
  split at h
  · rename_i a b c d _ _ cont
    split at h
    · rename_i f hf
      obtain ⟨ha, h⟩ := res_leN h
      obtain ⟨hb, h⟩ := res_leN h
      obtain ⟨hc, h⟩ := res_leN h
      obtain ⟨hd, h⟩ := res_leN h
      obtain rfl := Tree.res_done.1 h
      simp only [NN.add_v, NN.lit_v] at ha hb hc hd
      refine ⟨1000, [.ptr 0 (.sym a.v), .ptr 0 (.sym b.v), .ptr 0 (.sym c.v), .ptr 0 (.sym d.v)], ⟨.leaf, 0, Trie.put .leaf 0 (arrBlk .u32 16 f), 1⟩, (.tup [], ⟨.leaf, 0, .node (some (arrBlk .u32 16 (quarterF f a.v b.v c.v d.v))) .leaf .leaf, 1⟩), ?_, rfl, rfl, fun ρ _ => rfl, fun k b' hk => ?_, fun ρ x hx => hx, fun p hp => ?_⟩
      · rw [quarter_eval]
        refine needs_res ?_ (Tree.res_done.2 rfl)
        simp only [List.forall_mem_cons]
        exact ⟨ha, hb, ha, hd, ha, hd, hc, hd, hc, hb, hc, hb, ha, hb, ha, hd, ha, hd, hc, hd, hc, hb, hc, hb, nil_all⟩
      · rw [Trie.get_put] at hk
        split at hk
        · rename_i e
          subst e
          obtain rfl := Option.some.inj hk
          exact ⟨_, rfl, ⟨rfl, fun _ => rfl, fun s hs => (by cases hs), arrOf_cont hf⟩, fun _ => rfl⟩
        · rw [Trie.get_leaf] at hk; cases hk
      · rw [List.mem_singleton.1 hp]
        exact ⟨_, rfl, .refl_plain arr_plain, fun _ => rfl⟩
    · exact h.elim
  · exact h.elim

noncomputable def quarter_orc : Nat × Orc := (146, canOrc quarterS)
theorem quarter_orc_ok : Enters prog quarter_orc.1 ∧ OrcOk prog quarter_orc.1 quarter_orc.2 := ⟨e_chacha_quarter_ok.1, canOrc_ok quEnv_ok env_noLps e_chacha_quarter_ok.2 quarter_spec⟩

end Go.LE

/- chacha.Block: what it comes to, and its contract. -/
namespace Go.LE
open Go.Proofs.Try

def word4 (a b c d : Int) : Int := iOr .u32 (iOr .u32 (iOr .u32 (iOr .u32 0 (iShl .u32 (IntKind.u32.wrap a) 0)) (iShl .u32 (IntKind.u32.wrap b) 8)) (iShl .u32 (IntKind.u32.wrap c) 16)) (iShl .u32 (IntKind.u32.wrap d) 24)

/-- The block's 16 numbers at the start. -/
def startL (k : Nat → Int) (n : Int) (c : Nat → Int) : List Int :=
  [1634760805, 857760878, 2036477234, 1797285236, word4 (k 0) (k 1) (k 2) (k 3), word4 (k 4) (k 5) (k 6) (k 7), word4 (k 8) (k 9) (k 10) (k 11), word4 (k 12) (k 13) (k 14) (k 15),
    word4 (k 16) (k 17) (k 18) (k 19), word4 (k 20) (k 21) (k 22) (k 23), word4 (k 24) (k 25) (k 26) (k 27), word4 (k 28) (k 29) (k 30) (k 31), n, word4 (c 0) (c 1) (c 2) (c 3), word4 (c 4) (c 5) (c 6) (c 7), word4 (c 8) (c 9) (c 10) (c 11)]

def evenF (f : Nat → Int) : Nat → Int := quarterF (quarterF (quarterF (quarterF f 0 4 8 12) 1 5 9 13) 2 6 10 14) 3 7 11 15
def oddF (f : Nat → Int) : Nat → Int := quarterF (quarterF (quarterF (quarterF f 0 5 10 15) 1 6 11 12) 2 7 8 13) 3 4 9 14
def twiceF : Nat → (Nat → Int) → Nat → Int
  | 0, f => f
  | n + 1, f => twiceF n (oddF (evenF f))

/-- A byte of a block of the key stream. -/
def blockB (k : Nat → Int) (n : Int) (c : Nat → Int) (j : Nat) : Int :=
  IntKind.u8.wrap (iShr .u32 (IntKind.u32.wrap (twiceF 10 (fun i => (startL k n c).getD i 0) (j / 4) + (startL k n c).getD (j / 4) 0)) (8 * (j % 4)))

noncomputable def blEnv : EnvX := env [e_chacha_word, e_chacha_put] [rot_orc, quarter_orc] []
theorem blEnv_ok : EnvOk prog blEnv := env_ok (allCons e_chacha_word_ok (allCons e_chacha_put_ok allNil)) (allCons rot_orc_ok (allCons quarter_orc_ok allNil))

theorem block_eval (k c : Nat → Int) (n : Int) : valOf (evalFn blEnv (leval blEnv 3000) f126 [.agg (arrFrom .u8 k 0 32), .int .u32 (.sym n), .agg (arrFrom .u8 c 0 12)] ⟨.leaf, 0, .leaf, 0⟩) = .done (.agg (arrFrom .u8 (blockB k n c) 0 64)) := by
  kernel_rfl

/-- The numbers of an array of so many bytes. -/
def bytesOf (n : Nat) (l : List LVal) : Option (List Int) :=
  match LVal.intsOf .u8 l with
  | some a => match Nat.beq l.length n with
    | true => some a
    | false => none
  | none => none

theorem bytesOf_eq {n : Nat} {l : List LVal} {a : List Int} (h : bytesOf n l = some a) : LVal.intsOf .u8 l = some a ∧ l.length = n := by
  unfold bytesOf at h
  split at h
  · rename_i r hr
    split at h
    · rename_i hb
      obtain rfl := Option.some.inj h
      exact ⟨hr, Nat.eq_of_beq_eq_true hb⟩
    · cases h
  · cases h

def fnL (l : List Int) (i : Nat) : Int := l.getD i 0

theorem bytesOf_den {n : Nat} {l : List LVal} {a : List Int} (h : bytesOf n l = some a) (ρ : Ren) : den ρ (.agg (arrFrom .u8 (fnL a) 0 n)) = den ρ (.agg l) := by
  obtain ⟨h1, rfl⟩ := bytesOf_eq h
  simp only [den]
  rw [show fnL a = fun i => a.getD i 0 from rfl, arrFrom_den h1]

theorem bytesOf_ids {n : Nat} {l : List LVal} {a : List Int} (h : bytesOf n l = some a) : idsL l = [] := intsOf_ids (bytesOf_eq h).1

def blockS (args : List LVal) : Tree LVal :=
  match args with
  | [.agg k, .int .u32 n, .agg c] => match bytesOf 32 k, bytesOf 12 c with
    | some K, some C => n.on fun n => .done (.agg (arrFrom .u8 (blockB (fnL K) n (fnL C)) 0 64))
    | _, _ => .fail 304
  | _ => .fail 305

theorem block_pure : PureOk blEnv f126 blockS := by
  refine pureOk_of fun args v h => ?_
  unfold blockS at h
  simp only [LN.on_v] at h
  split at h
  · rename_i k n c
    split at h
    · rename_i K C hK hC
      obtain rfl := Tree.res_done.1 h
      refine ⟨3000, _, _, _, block_eval (fnL K) (fnL C) n.v, Tree.res_done.2 rfl, fun ρ => ?_, ?_, ?_, fun ρ z hz => hz⟩
      · simp only [denL]
        rw [bytesOf_den hK, bytesOf_den hC]
        rfl
      · simp [idsL, idsV, bytesOf_ids hK, bytesOf_ids hC]
      · simp [idsV, arrFrom_ids]
    · exact h.elim
  · exact h.elim

noncomputable def block_orc : Nat × Orc := (126, pureOrc blockS)
theorem block_orc_ok : Enters prog block_orc.1 ∧ OrcOk prog block_orc.1 block_orc.2 := ⟨e_chacha_Block_ok.1, pureOrc_ok blEnv_ok env_noLps e_chacha_Block_ok.2 block_pure⟩

end Go.LE

/- chacha.Xor's inner loop. -/
namespace Go.LE
open Go.Proofs.Try

structure XrP where
  v1 : LVal
  v3 : LVal
  v4 : LVal
  v6 : LVal
  b1 : Blk
  b2 : Blk
  a : Int
  n46 : Int
  o : Nat
  n : Nat
  c : Nat
  ob : Nat
  om : Nat
  oc : Nat
  L : List Int
  z : Bool
  osz : Option NN
  ssz : Option NN
  f : Nat → Int

def xrSt (q : XrP) (i : Int) (out : List Int) : St :=
  mkSt [(1, q.v1), (3, q.v3), (4, q.v4), (6, q.v6), (10, .slice 3 (.lit 0) (.sym q.om) (some (.sym q.oc))), (11, .int .i64 (.sym q.a)), (12, .ptr 4 (.lit 0)), (45, .slice 0 (.sym q.o) (.sym q.n) (some (.sym q.c))), (46, .int .i64 (.sym q.n46)), (47, .int .i64 (.sym i))] 66
    [(0, segBlk .u8 q.ob q.L q.z), (1, q.b1), (2, q.b2), (3, ⟨true, false, false, q.osz, .ints .u8 out⟩), (4, ⟨true, false, false, q.ssz, .arr .u8 64 q.f⟩)] 5

noncomputable def xrEnv : EnvX := env [] [] []
theorem xrEnv_ok : EnvOk prog xrEnv := env_ok allNil allNil

theorem xr_body (q : XrP) (i : Int) (out : List Int) : keepT [1, 3, 4, 6, 10, 11, 12, 45, 46, 47] [0, 1, 2, 3, 4] (leval xrEnv 1000 (loopB 9 f96) (xrSt q i out)) =
    .ite (decide (i < q.n46)) (needs [0 ≤ i, i.toNat + 1 ≤ q.n, q.z = false, q.ob ≤ q.o + i.toNat * 1 ∧ q.o + i.toNat * 1 - q.ob < q.L.length, 0 ≤ i, i.toNat + 1 ≤ 64, 0 + i.toNat * 1 + 1 ≤ 64,
        0 ≤ IntKind.i64.wrap (q.a + i), (IntKind.i64.wrap (q.a + i)).toNat + 1 ≤ q.om, 0 + (IntKind.i64.wrap (q.a + i)).toNat * 1 < out.length]
      (.done (.nrm, xrSt q (IntKind.i64.wrap (i + 1)) (out.set (0 + (IntKind.i64.wrap (q.a + i)).toNat * 1) (iXor .u8 (q.L.getD (q.o + i.toNat * 1 - q.ob) 0) (q.f (0 + i.toNat * 1)))))))
      (.done (.ex 2, xrSt q i out)) := by
  kernel_rfl

/-- A row of bytes laid from a place on. -/
def xrow (f src : Nat → Int) (a : Nat) : Nat → List Int → List Int
  | 0, out => out
  | n + 1, out => (xrow f src a n out).set (a + n) (iXor .u8 (src n) (f n))

theorem xrow_length (f src : Nat → Int) (a : Nat) : ∀ n out, (xrow f src a n out).length = out.length
  | 0, _ => rfl
  | n + 1, out => by simp [xrow, xrow_length f src a n out]

theorem i64_small {n : Int} (h0 : -9223372036854775808 ≤ n) (h : n < 9223372036854775808) : IntKind.i64.wrap n = n := by
  simp only [IntKind.wrap, IntKind.bits, IntKind.signed]
  simp
  split <;> omega

def xrSrc (q : XrP) (j : Nat) : Int := q.L.getD (q.o + j - q.ob) 0

theorem xr_loop (q : XrP) (a : Nat) (ha : q.a = a) (hn : q.n46 = q.n) (h64 : q.n ≤ 64) (hz : q.n ≠ 0 → q.z = false) (hL : q.n ≠ 0 → q.ob ≤ q.o ∧ q.o - q.ob + q.n ≤ q.L.length) (hom : a + q.n ≤ q.om) (hbig : a + 64 < 9223372036854775808)
    (out : List Int) (hlen : a + q.n ≤ out.length) : ∀ d i, i + d = q.n → LoopRes prog (loopB 9 f96) (xrSt q i (xrow q.f (xrSrc q) a i out)) (.ex 2, xrSt q q.n (xrow q.f (xrSrc q) a q.n out))
  | 0, i, hi => by
    obtain rfl : i = q.n := by omega
    refine .out (keepT_ok (l := [1, 3, 4, 6, 10, 11, 12, 45, 46, 47]) (b := [0, 1, 2, 3, 4]) (fun r h => code_ok xrEnv_ok env_noLps 1000 _ _ _ h) ?_) (by simp)
    rw [xr_body, hn]
    exact ⟨fun h => absurd (of_decide_eq_true h) (by omega), fun _ => rfl⟩
  | d + 1, i, hi => by
    refine .step (s := xrSt q (i + 1 : Nat) (xrow q.f (xrSrc q) a (i + 1) out)) (keepT_ok (l := [1, 3, 4, 6, 10, 11, 12, 45, 46, 47]) (b := [0, 1, 2, 3, 4]) (fun r h => code_ok xrEnv_ok env_noLps 1000 _ _ _ h) ?_) (xr_loop q a ha hn h64 hz hL hom hbig out hlen d (i + 1) (by omega))
    rw [xr_body, hn, ha]
    have e1 : IntKind.i64.wrap ((a : Int) + (i : Int)) = ((a + i : Nat) : Int) := by rw [i64_small (by omega) (by omega)]; omega
    have e2 : IntKind.i64.wrap ((i : Int) + 1) = ((i + 1 : Nat) : Int) := by rw [i64_small (by omega) (by omega)]; omega
    obtain ⟨h1, h2⟩ := hL (by omega)
    refine ⟨fun _ => ?_, fun h => absurd h (by simp; omega)⟩
    rw [e1, e2]
    refine needs_res ?_ ?_
    · simp only [List.forall_mem_cons, Int.toNat_natCast, Nat.mul_one, Nat.zero_add, xrow_length]
      exact ⟨by omega, by omega, hz (by omega), ⟨by omega, by omega⟩, by omega, by omega, by omega, by omega, by omega, by omega, nil_all⟩
    · refine Tree.res_done.2 ?_
      simp only [Int.toNat_natCast, Nat.mul_one, Nat.zero_add]
      rfl

/-- The parameters of the loop, read out of a state. -/
def xrGet (st : St) : Option (XrP × List Int) :=
  match st.sl.get 1, st.sl.get 3, st.sl.get 4, st.sl.get 6 with
  | some v1, some v3, some v4, some v6 => match st.sl.get 10, st.sl.get 11, st.sl.get 12 with
    | some (.slice 3 (.lit 0) om (some oc)), some (.int .i64 a), some (.ptr 4 (.lit 0)) => match st.sl.get 45, st.sl.get 46, st.sl.get 47 with
      | some (.slice 0 o n (some c)), some (.int .i64 n46), some (.int .i64 (.lit 0)) => match st.hp.get 0, st.hp.get 1, st.hp.get 2 with
        | some ⟨false, true, z, none, .seg ob .u8 L⟩, some b1, some b2 => match st.hp.get 3, st.hp.get 4 with
          | some ⟨true, false, false, osz, .ints .u8 out⟩, some ⟨true, false, false, ssz, cont⟩ => match arrOf .u8 64 cont, Nat.beq 66 st.nsl, Nat.beq 5 st.nid with
            | some f, true, true => some (⟨v1, v3, v4, v6, b1, b2, a.v, n46.v, o.v, n.v, c.v, ob.v, om.v, oc.v, L, z, osz, ssz, f⟩, out)
            | _, _, _ => none
          | _, _ => none
        | _, _, _ => none
      | _, _, _ => none
    | _, _, _ => none
  | _, _, _, _ => none

theorem xrGet_ok (st : St) (p : XrP × List Int) (h : xrGet st = some p) : StLe (xrSt p.1 0 p.2) st := by
  unfold xrGet at h
  split at h <;> try (cases h; done)
  split at h <;> try (cases h; done)
  split at h <;> try (cases h; done)
  split at h <;> try (cases h; done)
  split at h <;> try (cases h; done)
  split at h <;> try (cases h; done)
  rename_i hf hs hd
  obtain rfl := Option.some.inj h
  refine mkSt_le (Nat.le_of_eq (Nat.eq_of_beq_eq_true hs)) (Nat.eq_of_beq_eq_true hd) ?_ ?_
  · simp only [List.forall_mem_cons]
    refine ⟨?_, ?_, ?_, ?_, ?_, ?_, ?_, ?_, ?_, ?_, fun _ h => by cases h⟩ <;> (refine ⟨_, by assumption, ?_⟩; exact fun _ => rfl)
  · simp only [List.forall_mem_cons]
    refine ⟨?_, ?_, ?_, ?_, ?_, fun _ h => by cases h⟩ <;> (refine ⟨_, by assumption, ?_⟩; first | exact .refl _ | exact arrOf_ble hf _ _ _ _ _ | exact seg_ble _ _ _ _ _ _ _)

structure XrPre (p : XrP × List Int) : Prop where
  a : p.1.a = (p.1.a.toNat : Int)
  n46 : p.1.n46 = p.1.n
  n64 : p.1.n ≤ 64
  z : p.1.n ≠ 0 → p.1.z = false
  L : p.1.n ≠ 0 → p.1.ob ≤ p.1.o ∧ p.1.o - p.1.ob + p.1.n ≤ p.1.L.length
  om : p.1.a.toNat + p.1.n ≤ p.1.om
  big : p.1.a.toNat + 64 < 9223372036854775808
  len : p.1.a.toNat + p.1.n ≤ p.2.length

def xrOut (p : XrP × List Int) : LX × St := (.ex 2, xrSt p.1 p.1.n (xrow p.1.f (xrSrc p.1) p.1.a.toNat p.1.n p.2))

noncomputable def xr_lp : Nat × Code × (St → Tree (LX × St)) := (9, .loop (loopB 9 f96), sumUp xrGet XrPre xrOut)

theorem xr_lp_ok : ∀ st r, (sumUp xrGet XrPre xrOut st).res r → CodeRes prog (.loop (loopB 9 f96)) st r := fun st r h =>
  sumUp_ok (shape := fun p => xrSt p.1 0 p.2) xrGet_ok (fun p hp => (xr_loop p.1 p.1.a.toNat hp.a hp.n46 hp.n64 hp.z hp.L hp.om hp.big p.2 hp.len p.1.n 0 (by omega)).code) h

end Go.LE

/- chacha.Xor's outer loop. -/
namespace Go.LE
open Go.Proofs.Try

structure XoP where
  k : Nat → Int
  c : Nat → Int
  o : Nat
  m : Nat
  cp : Nat
  L : List Int
  z : Bool

def xoSt (q : XoP) (n a : Int) (out : List Int) : St :=
  mkSt [(1, .int .u32 (.sym n)), (3, .slice 0 (.sym q.o) (.sym q.m) (some (.sym q.cp))), (4, .ptr 1 (.lit 0)), (6, .ptr 2 (.lit 0)), (10, .slice 3 (.lit 0) (.sym q.m) (some (.sym q.m))), (11, .int .i64 (.sym a))] 66
    [(0, segBlk .u8 q.o q.L q.z), (1, arrBlk .u8 32 q.k), (2, arrBlk .u8 12 q.c), (3, ⟨true, false, false, some (.sym q.m), .ints .u8 out⟩)] 4

noncomputable def xoEnv : EnvX := env [] [block_orc] [xr_lp]
theorem xoEnv_ok : EnvOk prog xoEnv := env_ok allNil (allCons block_orc_ok allNil)
theorem xoEnv_lps : LpsOk prog xoEnv := lps_cons xr_lp_ok env_noLps

/-- To where a row goes. -/
def xoTo (m : Nat) (a : Int) : Int := if (m : Int) < IntKind.i64.wrap (a + 64) then m else IntKind.i64.wrap (a + 64)

/-- The inner loop's parameters. -/
def xoIn (q : XoP) (n a : Int) (out : List Int) : XrP × List Int :=
  (⟨.int .u32 (.sym n), .slice 0 (.sym q.o) (.sym q.m) (some (.sym q.cp)), .ptr 1 (.lit 0), .ptr 2 (.lit 0), arrBlk .u8 32 q.k, arrBlk .u8 12 q.c, a, (((xoTo q.m a).toNat - a.toNat : Nat) : Int), if q.cp = a.toNat then q.o else q.o + a.toNat * 1,
    (xoTo q.m a).toNat - a.toNat, q.cp - a.toNat, q.o, q.m, q.m, q.L, q.z, some (.sym q.m), some (.lit 64), fnL (rangeF (blockB (fnL (rangeF q.k 0 32)) n (fnL (rangeF q.c 0 12))) 0 64)⟩, out)

theorem xo_body (q : XoP) (n a : Int) (out : List Int) : pruneT [1, 3, 4, 6, 10, 11] [0, 1, 2, 3] 4 (leval xoEnv 1000 (loopB 5 f96) (xoSt q n a out)) =
    .ite (decide (a < q.m)) (needs [q.cp ≤ q.cp, 0 ≤ xoTo q.m a, (xoTo q.m a).toNat ≤ q.cp, 0 ≤ a, a.toNat ≤ (xoTo q.m a).toNat, Code.loop (loopB 9 f96) = .loop (loopB 9 f96), XrPre (xoIn q n a out)]
      (.done (.nrm, xoSt q (IntKind.u32.wrap (n + 1)) (IntKind.i64.wrap (a + 64)) (xrow (xoIn q n a out).1.f (xrSrc (xoIn q n a out).1) a.toNat ((xoTo q.m a).toNat - a.toNat) out))))
      (.done (.ex 0, xoSt q n a out)) := by
  kernel_rfl

end Go.LE

/- chacha.Xor: what it comes to. -/
namespace Go.LE
open Go.Proofs.Try

/-- A byte behind the key stream that begins at block n. -/
def xorB (k : Nat → Int) (n : Int) (c : Nat → Int) (L : List Int) (j : Nat) : Int := iXor .u8 (L.getD j 0) (blockB k (IntKind.u32.wrap (n + (j / 64 : Nat))) c (j % 64))

/-- The first t bytes are done. -/
def upTo (X : Nat → Int) (m t : Nat) : List Int := (List.range m).map fun j => if j < t then X j else 0

theorem upTo_length (X : Nat → Int) (m t : Nat) : (upTo X m t).length = m := by simp [upTo]

theorem upTo_set {X : Nat → Int} {m t : Nat} (h : t < m) : (upTo X m t).set t (X t) = upTo X m (t + 1) := by
  apply List.ext_getElem?
  intro j
  rw [List.getElem?_set]
  simp only [upTo_length]
  by_cases hj : t = j
  · subst hj
    rw [if_pos rfl, if_pos h]
    simp [upTo, h]
  · rw [if_neg hj]
    simp only [upTo, List.getElem?_map]
    cases hr : (List.range m)[j]? with
    | none => rfl
    | some x =>
      obtain ⟨h1, h2⟩ := List.getElem?_eq_some_iff.1 hr
      simp only [List.getElem_range] at h2
      subst h2
      simp only [Option.map_some]
      by_cases h3 : j < t
      · rw [if_pos h3, if_pos (by omega)]
      · rw [if_neg h3, if_neg (by omega)]

theorem upTo_zero (X : Nat → Int) (m : Nat) : upTo X m 0 = List.replicate m 0 := by
  apply List.ext_getElem?
  intro j
  simp only [upTo, List.getElem?_map, List.getElem?_replicate]
  by_cases h : j < m
  · rw [if_pos h, List.getElem?_eq_getElem (by simpa using h)]
    simp
  · rw [if_neg h, List.getElem?_eq_none (by simpa using h)]
    rfl

theorem upTo_full {X : Nat → Int} {m t : Nat} (h : m ≤ t) : upTo X m t = (List.range m).map X := by
  apply List.map_congr_left
  intro j hj
  rw [List.mem_range] at hj
  rw [if_pos (by omega)]

theorem xrow_upTo {f src X : Nat → Int} {a m : Nat} : ∀ n, a + n ≤ m → (∀ j, j < n → iXor .u8 (src j) (f j) = X (a + j)) → xrow f src a n (upTo X m a) = upTo X m (a + n)
  | 0, _, _ => rfl
  | n + 1, h, hx => by
    rw [xrow, xrow_upTo n (by omega) fun j hj => hx j (by omega), hx n (by omega), upTo_set (by omega)]
    rfl

theorem rangeF_getD (f : Nat → Int) {n j : Nat} (h : j < n) : (rangeF f 0 n).getD j 0 = f j := by
  simp [List.getD, rangeF_get f n 0 j h]

theorem u32_wrap (n : Int) : IntKind.u32.wrap n = n % 4294967296 := by
  simp [IntKind.wrap, IntKind.bits, IntKind.signed]

theorem startL_congr {k k' c c' : Nat → Int} (n : Int) (h1 : ∀ i, i < 32 → k i = k' i) (h2 : ∀ i, i < 12 → c i = c' i) : startL k n c = startL k' n c' := by
  unfold startL
  rw [h1 0 (by omega), h1 1 (by omega), h1 2 (by omega), h1 3 (by omega), h1 4 (by omega), h1 5 (by omega), h1 6 (by omega), h1 7 (by omega), h1 8 (by omega), h1 9 (by omega), h1 10 (by omega), h1 11 (by omega), h1 12 (by omega), h1 13 (by omega), h1 14 (by omega), h1 15 (by omega),
    h1 16 (by omega), h1 17 (by omega), h1 18 (by omega), h1 19 (by omega), h1 20 (by omega), h1 21 (by omega), h1 22 (by omega), h1 23 (by omega), h1 24 (by omega), h1 25 (by omega), h1 26 (by omega), h1 27 (by omega), h1 28 (by omega), h1 29 (by omega), h1 30 (by omega), h1 31 (by omega),
    h2 0 (by omega), h2 1 (by omega), h2 2 (by omega), h2 3 (by omega), h2 4 (by omega), h2 5 (by omega), h2 6 (by omega), h2 7 (by omega), h2 8 (by omega), h2 9 (by omega), h2 10 (by omega), h2 11 (by omega)]

theorem blockB_congr {k k' c c' : Nat → Int} (n : Int) (h1 : ∀ i, i < 32 → k i = k' i) (h2 : ∀ i, i < 12 → c i = c' i) : blockB k n c = blockB k' n c' := by
  funext j
  unfold blockB
  rw [startL_congr n h1 h2]

theorem xoSt_nid (q : XoP) (n a : Int) (out : List Int) : (xoSt q n a out).nid ≤ 4 := by
  unfold xoSt
  rw [mkSt_nid]
  omega

theorem xo_code (q : XoP) (n a : Int) (out : List Int) (r : LX × St) : (pruneT [1, 3, 4, 6, 10, 11] [0, 1, 2, 3] 4 (leval xoEnv 1000 (loopB 5 f96) (xoSt q n a out))).res r → CodeRes prog (loopB 5 f96) (xoSt q n a out) r :=
  pruneT_ok (code_ok xoEnv_ok xoEnv_lps 1000 (loopB 5 f96) (xoSt q n a out)) (xoSt_nid q n a out)

structure XoPre (q : XoP) : Prop where
  z : q.z = true → q.m = 0
  cp : q.m ≤ q.cp
  L : q.L.length = q.m
  big : q.m ≤ 1099511627776

theorem xo_loop (q : XoP) (n : Int) (h : XoPre q) : ∀ d r : Nat, 64 * r < q.m + 64 → q.m + 64 ≤ 64 * r + 64 * d → LoopRes prog (loopB 5 f96) (xoSt q (IntKind.u32.wrap (n + (r : Nat))) (64 * r : Nat) (upTo (xorB q.k n q.c q.L) q.m (64 * r)))
    (.ex 0, xoSt q (IntKind.u32.wrap (n + ((q.m + 63) / 64 : Nat))) (64 * ((q.m + 63) / 64) : Nat) ((List.range q.m).map (xorB q.k n q.c q.L))) := by
  obtain ⟨hz, hcp, hL, hbig⟩ := h
  intro d
  induction d with
  | zero => intro r h1 h2; omega
  | succ d ih =>
    intro r h1 h2
    by_cases hlt : 64 * r < q.m
    · refine .step (s := xoSt q (IntKind.u32.wrap (n + ((r + 1 : Nat) : Nat))) (64 * (r + 1) : Nat) (upTo (xorB q.k n q.c q.L) q.m (64 * (r + 1)))) (xo_code _ _ _ _ _ ?_) (ih (r + 1) (by omega) (by omega))
      rw [xo_body]
      refine ⟨fun _ => ?_, fun h => absurd h (by simp; omega)⟩
      have hto : xoTo q.m (64 * r : Nat) = (min (64 * r + 64) q.m : Nat) := by
        unfold xoTo
        rw [i64_small (by omega) (by omega)]
        split <;> omega
      generalize ht : min (64 * r + 64) q.m = t at hto
      have hat : (((64 * r : Nat) : Int)).toNat = 64 * r := Int.toNat_natCast _
      have hne : ¬ q.cp = 64 * r := by omega
      refine needs_res ?_ ?_
      · rw [hto, hat, Int.toNat_natCast]
        refine cons_all (Nat.le_refl _) (cons_all (by omega) (cons_all (by omega) (cons_all (by omega) (cons_all (by omega) (cons_all rfl (cons_all ⟨?_, ?_, ?_, ?_, ?_, ?_, ?_, ?_⟩ nil_all))))))
        · show ((64 * r : Nat) : Int) = ((((64 * r : Nat) : Int)).toNat : Int)
          rw [hat]
        · rfl
        · show (xoTo q.m (64 * r : Nat)).toNat - _ ≤ 64
          rw [hto, hat, Int.toNat_natCast]; omega
        · intro _
          show q.z = false
          cases hq : q.z with
          | false => rfl
          | true => have := hz hq; omega
        · intro _
          show q.o ≤ (if q.cp = (((64 * r : Nat) : Int)).toNat then q.o else q.o + (((64 * r : Nat) : Int)).toNat * 1) ∧ (if q.cp = (((64 * r : Nat) : Int)).toNat then q.o else q.o + (((64 * r : Nat) : Int)).toNat * 1) - q.o + ((xoTo q.m (64 * r : Nat)).toNat - (((64 * r : Nat) : Int)).toNat) ≤ q.L.length
          rw [hat, if_neg hne, hto, Int.toNat_natCast]; omega
        · show (((64 * r : Nat) : Int)).toNat + ((xoTo q.m (64 * r : Nat)).toNat - (((64 * r : Nat) : Int)).toNat) ≤ q.m
          rw [hat, hto, Int.toNat_natCast]; omega
        · show (((64 * r : Nat) : Int)).toNat + 64 < 9223372036854775808
          rw [hat]; omega
        · show (((64 * r : Nat) : Int)).toNat + ((xoTo q.m (64 * r : Nat)).toNat - (((64 * r : Nat) : Int)).toNat) ≤ (upTo _ q.m _).length
          rw [hat, hto, Int.toNat_natCast, upTo_length]; omega
      · refine Tree.res_done.2 ?_
        have e1 : IntKind.u32.wrap (IntKind.u32.wrap (n + (r : Nat)) + 1) = IntKind.u32.wrap (n + ((r + 1 : Nat) : Nat)) := by
          rw [u32_wrap, u32_wrap, u32_wrap]; omega
        have e2 : IntKind.i64.wrap (((64 * r : Nat) : Int) + 64) = ((64 * (r + 1) : Nat) : Int) := by
          rw [i64_small (by omega) (by omega)]; omega
        rw [e1, e2, hat, hto, Int.toNat_natCast]
        have e3 : xrow (xoIn q (IntKind.u32.wrap (n + (r : Nat))) (64 * r : Nat) (upTo (xorB q.k n q.c q.L) q.m (64 * r))).1.f (xrSrc (xoIn q (IntKind.u32.wrap (n + (r : Nat))) (64 * r : Nat) (upTo (xorB q.k n q.c q.L) q.m (64 * r))).1) (64 * r) (t - 64 * r) (upTo (xorB q.k n q.c q.L) q.m (64 * r)) =
            upTo (xorB q.k n q.c q.L) q.m (64 * r + (t - 64 * r)) := by
          refine xrow_upTo (t - 64 * r) (by omega) fun j hj => ?_
          have hj64 : j < 64 := by omega
          have g1 : (xoIn q (IntKind.u32.wrap (n + (r : Nat))) (64 * r : Nat) (upTo (xorB q.k n q.c q.L) q.m (64 * r))).1.f j = blockB q.k (IntKind.u32.wrap (n + (r : Nat))) q.c j := by
            show (rangeF (blockB (fnL (rangeF q.k 0 32)) (IntKind.u32.wrap (n + (r : Nat))) (fnL (rangeF q.c 0 12))) 0 64).getD j 0 = _
            rw [rangeF_getD _ hj64]
            exact congrFun (blockB_congr _ (fun i hi => rangeF_getD q.k hi) fun i hi => rangeF_getD q.c hi) j
          have g2 : xrSrc (xoIn q (IntKind.u32.wrap (n + (r : Nat))) (64 * r : Nat) (upTo (xorB q.k n q.c q.L) q.m (64 * r))).1 j = q.L.getD (64 * r + j) 0 := by
            show q.L.getD ((if q.cp = (((64 * r : Nat) : Int)).toNat then q.o else q.o + (((64 * r : Nat) : Int)).toNat * 1) + j - q.o) 0 = _
            rw [hat, if_neg hne]
            congr 1
            omega
          rw [g1, g2]
          unfold xorB
          rw [show (64 * r + j) / 64 = r by omega, show (64 * r + j) % 64 = j by omega]
        rw [e3]
        by_cases h5 : 64 * r + 64 ≤ q.m
        · rw [show 64 * r + (t - 64 * r) = 64 * (r + 1) by omega]
        · rw [show 64 * r + (t - 64 * r) = q.m by omega, upTo_full (Nat.le_refl _), ← upTo_full (t := 64 * (r + 1)) (by omega)]
    · have hr : (q.m + 63) / 64 = r := by omega
      refine .out (xo_code _ _ _ _ _ ?_) (by simp)
      rw [xo_body]
      refine ⟨fun h => absurd (of_decide_eq_true h) (by omega), fun _ => ?_⟩
      refine Tree.res_done.2 ?_
      rw [hr, upTo_full (by omega)]

end Go.LE

/- chacha.Xor: its contract. -/
namespace Go.LE
open Go.Proofs.Try

structure XoG where
  q : XoP
  n : Int
  m1 : Nat
  m2 : Nat
  m3 : Nat
  ob : Nat
  out : List Int

def xgSt (p : XoG) : St :=
  mkSt [(1, .int .u32 (.sym p.n)), (3, .slice 0 (.sym p.q.o) (.sym p.q.m) (some (.sym p.q.cp))), (4, .ptr 1 (.lit 0)), (6, .ptr 2 (.lit 0)), (10, .slice 3 (.lit 0) (.sym p.m1) (some (.sym p.m2))), (11, .int .i64 (.sym 0))] 66
    [(0, segBlk .u8 p.ob p.q.L p.q.z), (1, arrBlk .u8 32 p.q.k), (2, arrBlk .u8 12 p.q.c), (3, ⟨true, false, false, some (.sym p.m3), .ints .u8 p.out⟩)] 4

def xgGet (st : St) : Option XoG :=
  match st.sl.get 1, st.sl.get 3, st.sl.get 4, st.sl.get 6 with
  | some (.int .u32 n), some (.slice 0 o m (some cp)), some (.ptr 1 (.lit 0)), some (.ptr 2 (.lit 0)) => match st.sl.get 10, st.sl.get 11 with
    | some (.slice 3 (.lit 0) m1 (some m2)), some (.int .i64 (.lit 0)) => match st.hp.get 0, st.hp.get 1, st.hp.get 2, st.hp.get 3 with
      | some ⟨false, true, z, none, .seg ob .u8 L⟩, some ⟨true, false, false, _, kc⟩, some ⟨true, false, false, _, cc⟩, some ⟨true, false, false, some m3, .ints .u8 out⟩ => match arrOf .u8 32 kc, arrOf .u8 12 cc, Nat.beq 66 st.nsl, Nat.beq 4 st.nid with
        | some k, some c, true, true => n.on fun n => o.on fun o => m.on fun m => cp.on fun cp => m1.on fun m1 => m2.on fun m2 => m3.on fun m3 => ob.on fun ob => some ⟨⟨k, c, o, m, cp, L, z⟩, n, m1, m2, m3, ob, out⟩
        | _, _, _, _ => none
      | _, _, _, _ => none
    | _, _ => none
  | _, _, _, _ => none

theorem arrOf_ble' {k : IntKind} {n : Nat} {c : Cont} {f : Nat → Int} (h : arrOf k n c = some f) (o a a' z : Bool) (s : Option NN) : BlkLe ⟨o, a, z, none, .arr k n f⟩ ⟨o, a', z, s, c⟩ :=
  ⟨rfl, rfl, fun _ h => (by cases h), fun i v hv => by
    obtain ⟨v', h1, h2⟩ := arrOf_cont h i v hv
    exact ⟨v', h1, fun ρ => (h2 ρ ρ).symm⟩⟩

theorem size_ble (o a z : Bool) (s : NN) (c : Cont) : BlkLe ⟨o, a, z, some (.sym s.v), c⟩ ⟨o, a, z, some s, c⟩ :=
  ⟨rfl, rfl, fun x h => by simpa [Blk.mt] using h, fun i v hv => ⟨v, hv, fun _ => rfl⟩⟩

theorem xgGet_ok (st : St) (p : XoG) (h : xgGet st = some p) : StLe (xgSt p) st := by
  unfold xgGet at h
  split at h <;> try (cases h; done)
  split at h <;> try (cases h; done)
  split at h <;> try (cases h; done)
  split at h <;> try (cases h; done)
  rename_i hk hc hs hd
  simp only [NN.on_v, LN.on_v] at h
  obtain rfl := Option.some.inj h
  refine mkSt_le (Nat.le_of_eq (Nat.eq_of_beq_eq_true hs)) (Nat.eq_of_beq_eq_true hd) ?_ ?_
  · simp only [List.forall_mem_cons]
    refine ⟨?_, ?_, ?_, ?_, ?_, ?_, fun _ h => by cases h⟩ <;> (refine ⟨_, by assumption, ?_⟩; exact fun _ => rfl)
  · simp only [List.forall_mem_cons]
    refine ⟨?_, ?_, ?_, ?_, fun _ h => by cases h⟩ <;> (refine ⟨_, by assumption, ?_⟩; first | exact seg_ble _ _ _ _ _ _ _ | exact arrOf_ble' hk _ _ _ _ _ | exact arrOf_ble' hc _ _ _ _ _ | exact size_ble _ _ _ _ _)

structure XgPre (p : XoG) : Prop where
  q : XoPre p.q
  m1 : p.m1 = p.q.m
  m2 : p.m2 = p.q.m
  m3 : p.m3 = p.q.m
  ob : p.ob = p.q.o
  out : p.out = List.replicate p.q.m 0
  n : 0 ≤ p.n ∧ p.n < 4294967296

def xgOut (p : XoG) : LX × St := (.ex 0, xoSt p.q (IntKind.u32.wrap (p.n + ((p.q.m + 63) / 64 : Nat))) (64 * ((p.q.m + 63) / 64) : Nat) ((List.range p.q.m).map (xorB p.q.k p.n p.q.c p.q.L)))

theorem xg_code (p : XoG) (h : XgPre p) : CodeRes prog (.loop (loopB 5 f96)) (xgSt p) (xgOut p) := by
  obtain ⟨q, n, m1, m2, m3, ob, out⟩ := p
  obtain ⟨h0, h1, h2, h3, h4, h5, h6⟩ := h
  simp only at h0 h1 h2 h3 h4 h5 h6
  subst h1 h2 h3 h4 h5
  have := (xo_loop q n h0 ((q.m + 127) / 64) 0 (by omega) (by omega)).code
  have e : IntKind.u32.wrap (n + ((0 : Nat) : Int)) = n := by rw [u32_wrap]; omega
  rw [e, Nat.mul_zero, upTo_zero] at this
  exact this

noncomputable def xo_lp : Nat × Code × (St → Tree (LX × St)) := (5, .loop (loopB 5 f96), sumUp xgGet XgPre xgOut)

theorem xo_lp_ok : ∀ st r, (sumUp xgGet XgPre xgOut st).res r → CodeRes prog (.loop (loopB 5 f96)) st r := fun _ _ =>
  sumUp_ok xgGet_ok xg_code

noncomputable def xfEnv : EnvX := env [] [block_orc] [xo_lp]
theorem xfEnv_ok : EnvOk prog xfEnv := env_ok allNil (allCons block_orc_ok allNil)
theorem xfEnv_lps : LpsOk prog xfEnv := lps_cons xo_lp_ok env_noLps

theorem xor_eval (k c : Nat → Int) (n : Int) (o m cp : Nat) (L : List Int) (z : Bool) : keepR [3] (evalFn xfEnv (leval xfEnv 1000) f96 [.agg (arrFrom .u8 k 0 32), .int .u32 (.sym n), .agg (arrFrom .u8 c 0 12), .slice 0 (.sym o) (.sym m) (some (.sym cp))]
    ⟨.leaf, 0, Trie.put .leaf 0 (segBlk .u8 o L z), 1⟩) =
    .ite (decide (IntKind.u64.wrap (IntKind.u64.wrap n + IntKind.u64.wrap ((IntKind.u64.wrap (IntKind.i64.wrap (IntKind.i64.wrap ((m : Int) + 64) - 1))).tdiv 64)) > 4294967296))
      (.done (.tup [.nils, .int .i64 (.lit 5)], ⟨.leaf, 0, .leaf, 3⟩))
      (needs [0 ≤ (m : Int), 0 ≤ (m : Int), (m : Int).toNat ≤ (m : Int).toNat, (m : Int).toNat * 1 ≤ 140737488355328, Code.loop (loopB 5 f96) = .loop (loopB 5 f96),
          XgPre ⟨⟨fnL (rangeF k 0 32), fnL (rangeF c 0 12), o, m, cp, L, z⟩, n, (m : Int).toNat, (m : Int).toNat, (m : Int).toNat, o, List.replicate (m : Int).toNat 0⟩]
        (.done (.tup [.slice 3 (.lit 0) (.sym m) (some (.sym m)), .int .i64 (.lit 0)], ⟨.leaf, 0, Trie.put .leaf 3 ⟨true, false, false, some (.sym m), .ints .u8 ((List.range m).map (xorB (fnL (rangeF k 0 32)) n (fnL (rangeF c 0 12)) L))⟩, 4⟩))) := by
  kernel_rfl

/-- Bytes behind the key stream that begins at block n. -/
def xorL (k : Nat → Int) (n : Int) (c : Nat → Int) (L : List Int) : List Int := (List.range L.length).map (xorB k n c L)

theorem xorL_length (k : Nat → Int) (n : Int) (c : Nat → Int) (L : List Int) : (xorL k n c L).length = L.length := by simp [xorL]

def small {α : Type} (n : Nat) (L : List Int) (t : Tree α) : Tree α := .need (L.length ≤ n) t

def xorS (args : List LVal) (blks : List Blk) : Tree OrcRes :=
  match args with
  | [.agg k, .int .u32 n, .agg c, s] => match bytesOf 32 k, bytesOf 12 c, blks with
    | some K, some C, [_] => (argL .u8 blks s).bind fun p => match p with
      | (0, L) => n.on fun n => .need (0 ≤ n ∧ n ≤ 1000000) (.need (L.length ≤ 1000000) (.done ⟨.tup [.slice 3 (.lit 0) (.sym L.length) (some (.sym L.length)), .int .i64 (.lit 0)],
          [(3, ⟨true, false, false, some (.sym L.length), .ints .u8 (xorL (fnL K) n (fnL C) L)⟩)], 3⟩))
      | _ => .fail 306
    | _, _, _ => .fail 307
  | _ => .fail 308

theorem xorB_congr {k k' c c' : Nat → Int} (n : Int) (L : List Int) (h1 : ∀ i, i < 32 → k i = k' i) (h2 : ∀ i, i < 12 → c i = c' i) : xorB k n c L = xorB k' n c' L := by
  funext j
  unfold xorB
  rw [blockB_congr _ h1 h2]

theorem u64_id {n : Int} (h0 : 0 ≤ n) (h : n < 18446744073709551616) : IntKind.u64.wrap n = n := by
  simp only [IntKind.wrap, IntKind.bits, IntKind.signed]
  simp
  omega

theorem xor_spec : SpecOk xfEnv f96 xorS := by
  refine specOk_of fun args blks r h Cf hnil hw => ?_
  unfold xorS at h
  split at h
  · rename_i k n c s
    split at h
    · rename_i K C b hK hC
      obtain ⟨⟨id, L⟩, hp, h⟩ := Tree.res_bind h
      obtain ⟨ρ1, vs, hc1, hd1⟩ := hw
      have hx : ∃ x, den ρ1 s = some x := by
        obtain ⟨x1, r1, _, h1, _⟩ := denL_cons hd1
        obtain ⟨x2, r2, _, h2, _⟩ := denL_cons h1
        obtain ⟨x3, r3, _, h3, _⟩ := denL_cons h2
        obtain ⟨x4, r4, h4, _, _⟩ := denL_cons h3
        exact ⟨x4, h4⟩
      obtain ⟨x, hx⟩ := hx
      obtain ⟨b', o, cp, hA⟩ := argL_norm hp hnil hc1 hx
      cases id with
      | succ _ => exact h.elim
      | zero =>
        simp only [LN.on_v] at h
        obtain ⟨hn, h⟩ := h
        obtain ⟨hL, h⟩ := h
        obtain rfl := Tree.res_done.1 h
        have hb : b' = b := by
          have := hA.blk
          simp only [List.getElem?_cons_zero, Option.some.injEq] at this
          exact this.symm
        subst hb
        have hcd : ¬ (IntKind.u64.wrap (IntKind.u64.wrap n.v + IntKind.u64.wrap ((IntKind.u64.wrap (IntKind.i64.wrap (IntKind.i64.wrap ((L.length : Int) + 64) - 1))).tdiv 64)) > 4294967296) := by
          rw [i64_small (n := (L.length : Int) + 64) (by omega) (by omega), i64_small (by omega) (by omega), u64_id (n := (L.length : Int) + 64 - 1) (by omega) (by omega)]
          have : ((L.length : Int) + 64 - 1).tdiv 64 = ((L.length : Int) + 63) / 64 := by
            rw [Int.tdiv_eq_ediv_of_nonneg (by omega)]; congr 1; omega
          rw [this, u64_id (n := n.v) (by omega) (by omega), u64_id (n := ((L.length : Int) + 63) / 64) (by omega) (by omega), u64_id (by omega) (by omega)]
          omega
        refine ⟨1000, [.agg (arrFrom .u8 (fnL K) 0 32), .int .u32 (.sym n.v), .agg (arrFrom .u8 (fnL C) 0 12), .slice 0 (.sym o) (.sym L.length) (some (.sym cp))], ⟨.leaf, 0, Trie.put .leaf 0 (segBlk .u8 o L b'.nil), 1⟩, (.tup [.slice 3 (.lit 0) (.sym L.length) (some (.sym L.length)), .int .i64 (.lit 0)], ⟨.leaf, 0, Trie.put .leaf 3 ⟨true, false, false, some (.sym L.length), .ints .u8 ((List.range L.length).map (xorB (fnL (rangeF (fnL K) 0 32)) n.v (fnL (rangeF (fnL C) 0 12)) L))⟩, 4⟩), [3], ?_, rfl, rfl, ?_, ?_, fun ρ x hx => hx, ?_⟩
        · constructor
          rw [xor_eval]
          refine ⟨fun h => absurd (of_decide_eq_true h) hcd, fun _ => needs_res (cons_all (by omega) (cons_all (by omega) (cons_all (Nat.le_refl _) (cons_all (by omega) (cons_all rfl (cons_all ?_ nil_all)))))) (Tree.res_done.2 rfl)⟩
          refine ⟨⟨fun hz => ?_, hA.cap, rfl, by show L.length ≤ _; omega⟩, Int.toNat_natCast _, Int.toNat_natCast _, Int.toNat_natCast _, rfl, by rw [Int.toNat_natCast], by show 0 ≤ n.v ∧ n.v < _; omega⟩
          show L.length = 0
          rw [hA.nil hz]; rfl
        · intro ρ hρ
          simp only [denL]
          rw [bytesOf_den hK, bytesOf_den hC, hA.den ρ hρ]
          rfl
        · intro k' b2 hk
          rw [Trie.get_put] at hk
          split at hk
          · rename_i e
            subst e
            obtain rfl := Option.some.inj hk
            exact ⟨b', rfl, hA.less, fun h => (by cases h)⟩
          · rw [Trie.get_leaf] at hk; cases hk
        · intro p hp'
          rw [List.mem_singleton.1 hp']
          refine ⟨_, by rw [Trie.get_put, if_pos rfl], ?_, fun _ => rfl⟩
          have e : (List.range L.length).map (xorB (fnL (rangeF (fnL K) 0 32)) n.v (fnL (rangeF (fnL C) 0 12)) L) = xorL (fnL K) n.v (fnL C) L := by
            unfold xorL
            rw [xorB_congr (k := fnL (rangeF (fnL K) 0 32)) (c := fnL (rangeF (fnL C) 0 12)) n.v L (fun i hi => rangeF_getD (fnL K) hi) fun i hi => rangeF_getD (fnL C) hi]
          rw [e]
          exact .refl_plain ints_plain
    · exact h.elim
  · exact h.elim

noncomputable def xor_orc : Nat × Orc := (96, canOrc xorS)
theorem xor_orc_ok : Enters prog xor_orc.1 ∧ OrcOk prog xor_orc.1 xor_orc.2 := ⟨e_chacha_Xor_ok.1, canOrc_ok xfEnv_ok xfEnv_lps e_chacha_Xor_ok.2 xor_spec⟩

end Go.LE

/- poly.times: the inner loop. -/
namespace Go.LE
open Go.Proofs.Try

/-- A carry goes on through so many places from one on. -/
def propag : Nat → Nat → (Nat → Int) → Int → Int → Nat → Int
  | 0, _, f, _, _ => f
  | d + 1, a, f, x, u => propag d (a + 1) (upd f a ((f a + x + u) % 18446744073709551616)) 0 ((f a + x + u) / 18446744073709551616)

def InW (f : Nat → Int) (n : Nat) : Prop := ∀ i, i < n → 0 ≤ f i ∧ f i < 18446744073709551616

theorem upd_self {f : Nat → Int} {i : Nat} {x : Int} (h : x = f i) : upd f i x = f := by
  funext j
  unfold upd
  split
  · rename_i e; rw [e, h]
  · rfl

theorem InW.upd {f : Nat → Int} {n : Nat} (h : InW f n) (i : Nat) (x : Int) : InW (upd f i (x % 18446744073709551616)) n := fun j hj => by
  unfold Go.LE.upd
  split
  · exact ⟨Int.emod_nonneg _ (by decide), Int.emod_lt_of_pos _ (by decide)⟩
  · exact h j hj

theorem propag_inW : ∀ (d a : Nat) (f : Nat → Int) (x u : Int) (n : Nat), InW f n → InW (propag d a f x u) n
  | 0, _, _, _, _, _, h => h
  | d + 1, a, f, x, u, n, h => propag_inW d (a + 1) _ _ _ n (h.upd a _)

theorem propag_zero : ∀ (d a : Nat) (f : Nat → Int), InW f (a + d) → propag d a f 0 0 = f
  | 0, _, _, _ => rfl
  | d + 1, a, f, h => by
    have h1 := h a (by omega)
    rw [propag, upd_self (f := f) (i := a) (x := (f a + 0 + 0) % 18446744073709551616) (by omega), show (f a + 0 + 0) / 18446744073709551616 = 0 by omega]
    exact propag_zero d (a + 1) f (by rw [show a + 1 + d = a + (d + 1) by omega]; exact h)

structure PgP where
  v0 : LVal
  v3 : LVal
  v4 : LVal
  v5 : LVal
  v17 : LVal
  v18 : LVal
  v25 : LVal
  v26 : LVal
  b0 : Blk

def pgSt (q : PgP) (l : List (Nat × LVal)) (f : Nat → Int) : St :=
  mkSt (l ++ [(0, q.v0), (2, .ptr 1 (.lit 0)), (3, q.v3), (4, q.v4), (5, q.v5), (17, q.v17), (18, q.v18), (25, q.v25), (26, q.v26)]) 120 [(0, q.b0), (1, arrBlk .u64 4 f)] 2

def pgL (a x u : Int) : List (Nat × LVal) := [(9, .int .u64 (.sym u)), (10, .int .i64 (.sym a)), (11, .int .u64 (.sym x))]

def pgNeeds (f : Nat → Int) (a x u : Int) (t : Tree (LX × St)) : Tree (LX × St) :=
  needs [0 ≤ a, a.toNat + 1 ≤ 4, 0 + a.toNat * 1 + 1 ≤ 4, 0 ≤ f (0 + a.toNat * 1), 0 ≤ x, 0 ≤ u, u.toNat ≤ 1, 0 ≤ a, a.toNat + 1 ≤ 4, 0 + a.toNat * 1 + 1 ≤ 4] t

theorem pg_body (q : PgP) (f : Nat → Int) (a x u : Int) : keepT [9, 10, 11, 0, 2, 3, 4, 5, 17, 18, 25, 26] [0, 1] (leval xrEnv 1000 (loopB 11 f169) (pgSt q (pgL a x u) f)) =
    .ite (decide (a < 4)) (.ite (decide (x > 0))
      (pgNeeds f a x u (.done (.nrm, mkSt [(9, .int .u64 (.sym ((f (0 + a.toNat * 1) + x + u) / 18446744073709551616))), (10, .int .i64 (.sym (IntKind.i64.wrap (a + 1)))), (11, .int .u64 (.lit 0)), (0, q.v0), (2, .ptr 1 (.lit 0)), (3, q.v3), (4, q.v4), (5, q.v5), (17, q.v17), (18, q.v18), (25, q.v25), (26, q.v26)] 120
        [(0, q.b0), (1, arrBlk .u64 4 (upd f (0 + a.toNat * 1) ((f (0 + a.toNat * 1) + x + u) % 18446744073709551616)))] 2)))
      (.ite (decide (u > 0))
        (pgNeeds f a x u (.done (.nrm, mkSt [(9, .int .u64 (.sym ((f (0 + a.toNat * 1) + x + u) / 18446744073709551616))), (10, .int .i64 (.sym (IntKind.i64.wrap (a + 1)))), (11, .int .u64 (.lit 0)), (0, q.v0), (2, .ptr 1 (.lit 0)), (3, q.v3), (4, q.v4), (5, q.v5), (17, q.v17), (18, q.v18), (25, q.v25), (26, q.v26)] 120
          [(0, q.b0), (1, arrBlk .u64 4 (upd f (0 + a.toNat * 1) ((f (0 + a.toNat * 1) + x + u) % 18446744073709551616)))] 2)))
        (.done (.ex 4, pgSt q (pgL a x u) f))))
      (.done (.ex 4, pgSt q (pgL a x u) f)) := by
  kernel_rfl

theorem pg_next (q : PgP) (f : Nat → Int) (a u : Int) : StLe (pgSt q (pgL a 0 u) f) (mkSt [(9, .int .u64 (.sym u)), (10, .int .i64 (.sym a)), (11, .int .u64 (.lit 0)), (0, q.v0), (2, .ptr 1 (.lit 0)), (3, q.v3), (4, q.v4), (5, q.v5), (17, q.v17), (18, q.v18), (25, q.v25), (26, q.v26)] 120
    [(0, q.b0), (1, arrBlk .u64 4 f)] 2) := by
  refine mkSt_rel ?_ ?_
  · exact ⟨rfl, fun _ => rfl, rfl, fun _ => rfl, rfl, fun _ => rfl, rfl, fun _ => rfl, rfl, fun _ => rfl, rfl, fun _ => rfl, rfl, fun _ => rfl, rfl, fun _ => rfl, rfl, fun _ => rfl, rfl, fun _ => rfl, rfl, fun _ => rfl, rfl, fun _ => rfl, trivial⟩
  · exact ⟨rfl, .refl _, rfl, .refl _, trivial⟩

theorem pg_code (q : PgP) (f : Nat → Int) (a x u : Int) (r : LX × St) : (keepT [9, 10, 11, 0, 2, 3, 4, 5, 17, 18, 25, 26] [0, 1] (leval xrEnv 1000 (loopB 11 f169) (pgSt q (pgL a x u) f))).res r → CodeRes prog (loopB 11 f169) (pgSt q (pgL a x u) f) r :=
  keepT_ok (code_ok xrEnv_ok env_noLps 1000 _ _)

/-- Slots that the loop leaves are forgotten. -/
theorem pg_forget (q : PgP) (f : Nat → Int) (a x u : Int) : StLe (pgSt q [] f) (pgSt q (pgL a x u) f) := by
  refine ⟨Nat.le_refl _, rfl, fun t v h => ⟨v, ?_, fun _ => rfl⟩, fun t b h => ⟨b, h, .refl b⟩⟩
  have h' : (Trie.ofList ([] ++ [(0, q.v0), (2, .ptr 1 (.lit 0)), (3, q.v3), (4, q.v4), (5, q.v5), (17, q.v17), (18, q.v18), (25, q.v25), (26, q.v26)])).get t = some v := h
  show (Trie.ofList (pgL a x u ++ [(0, q.v0), (2, .ptr 1 (.lit 0)), (3, q.v3), (4, q.v4), (5, q.v5), (17, q.v17), (18, q.v18), (25, q.v25), (26, q.v26)])).get t = some v
  have hm := Trie.mem_ofList h'
  have ht : t ≠ 9 ∧ t ≠ 10 ∧ t ≠ 11 := by
    simp only [List.nil_append, List.mem_cons, Prod.mk.injEq, List.not_mem_nil, or_false] at hm
    omega
  simp only [pgL, List.cons_append, List.nil_append, Trie.ofList, Trie.get_put] at h' ⊢
  rw [if_neg ht.1, if_neg ht.2.1, if_neg ht.2.2]
  exact h'

theorem pg_loop (q : PgP) : ∀ (d : Nat) (a : Nat) (f : Nat → Int) (x u : Int), a + d = 4 → InW f 4 → 0 ≤ x ∧ x < 18446744073709551616 → 0 ≤ u ∧ u ≤ 1 →
    LoopRes prog (loopB 11 f169) (pgSt q (pgL a x u) f) (.ex 4, pgSt q [] (propag d a f x u))
  | 0, a, f, x, u, h, hf, hx, hu => by
    have h4 : LoopRes prog (loopB 11 f169) (pgSt q (pgL a x u) f) (.ex 4, pgSt q (pgL a x u) f) := by
      refine .out (pg_code _ _ _ _ _ _ ?_) (by simp)
      rw [pg_body]
      exact ⟨fun h => absurd (of_decide_eq_true h) (by omega), fun _ => rfl⟩
    exact h4.le (.refl _) (pg_forget _ _ _ _ _)
  | d + 1, a, f, x, u, h, hf, hx, hu => by
    have hfa := hf a (by omega)
    have e1 : IntKind.i64.wrap ((a : Int) + 1) = ((a + 1 : Nat) : Int) := by rw [i64_small (by omega) (by omega)]; omega
    have hall : ∀ p ∈ [0 ≤ (a : Int), (a : Int).toNat + 1 ≤ 4, 0 + (a : Int).toNat * 1 + 1 ≤ 4, 0 ≤ f (0 + (a : Int).toNat * 1), 0 ≤ x, 0 ≤ u, u.toNat ≤ 1, 0 ≤ (a : Int), (a : Int).toNat + 1 ≤ 4, 0 + (a : Int).toNat * 1 + 1 ≤ 4], p := by
      rw [Int.toNat_natCast, Nat.mul_one, Nat.zero_add]
      exact cons_all (by omega) (cons_all (by omega) (cons_all (by omega) (cons_all (by omega) (cons_all (by omega) (cons_all (by omega) (cons_all (by omega) (cons_all (by omega) (cons_all (by omega) (cons_all (by omega) nil_all)))))))))
    have step : LoopRes prog (loopB 11 f169) (mkSt [(9, .int .u64 (.sym ((f (0 + (a : Int).toNat * 1) + x + u) / 18446744073709551616))), (10, .int .i64 (.sym (IntKind.i64.wrap ((a : Int) + 1)))), (11, .int .u64 (.lit 0)), (0, q.v0), (2, .ptr 1 (.lit 0)), (3, q.v3), (4, q.v4), (5, q.v5), (17, q.v17), (18, q.v18), (25, q.v25), (26, q.v26)] 120
          [(0, q.b0), (1, arrBlk .u64 4 (upd f (0 + (a : Int).toNat * 1) ((f (0 + (a : Int).toNat * 1) + x + u) % 18446744073709551616)))] 2) (.ex 4, pgSt q [] (propag (d + 1) a f x u)) := by
      rw [Int.toNat_natCast, Nat.mul_one, Nat.zero_add, e1]
      exact (pg_loop q d (a + 1) _ 0 _ (by omega) (hf.upd a _) ⟨by omega, by omega⟩ ⟨by omega, by omega⟩).le (pg_next _ _ _ _) (.refl _)
    by_cases h1 : 0 < x
    · refine .step (pg_code _ _ _ _ _ _ ?_) step
      rw [pg_body]
      exact ⟨fun _ => ⟨fun _ => needs_res hall (Tree.res_done.2 rfl), fun h => absurd h (by simp; omega)⟩, fun h => absurd h (by simp; omega)⟩
    · by_cases h2 : 0 < u
      · refine .step (pg_code _ _ _ _ _ _ ?_) step
        rw [pg_body]
        exact ⟨fun _ => ⟨fun h => absurd (of_decide_eq_true h) (by omega), fun _ => ⟨fun _ => needs_res hall (Tree.res_done.2 rfl), fun h => absurd h (by simp; omega)⟩⟩, fun h => absurd h (by simp; omega)⟩
      · have hx0 : x = 0 := by omega
        have hu0 : u = 0 := by omega
        subst hx0 hu0
        have h4 : LoopRes prog (loopB 11 f169) (pgSt q (pgL a 0 0) f) (.ex 4, pgSt q (pgL a 0 0) f) := by
          refine .out (pg_code _ _ _ _ _ _ ?_) (by simp)
          rw [pg_body]
          exact ⟨fun _ => ⟨fun h => absurd (of_decide_eq_true h) (by omega), fun _ => ⟨fun h => absurd (of_decide_eq_true h) (by omega), fun _ => rfl⟩⟩, fun h => absurd h (by simp; omega)⟩
        rw [propag_zero (d + 1) a f (by rw [h]; exact hf)]
        exact h4.le (.refl _) (pg_forget _ _ _ _ _)

/-- The parameters of the loop, read out of a state. -/
def pgGet (st : St) : Option (PgP × (Nat → Int) × Int × Int × Int) :=
  match st.sl.get 0, st.sl.get 2, st.sl.get 3, st.sl.get 4, st.sl.get 5 with
  | some v0, some (.ptr 1 (.lit 0)), some v3, some v4, some v5 => match st.sl.get 17, st.sl.get 18, st.sl.get 25, st.sl.get 26 with
    | some v17, some v18, some v25, some v26 => match st.sl.get 9, st.sl.get 10, st.sl.get 11 with
      | some (.int .u64 u), some (.int .i64 a), some (.int .u64 x) => match st.hp.get 0, st.hp.get 1 with
        | some b0, some ⟨true, false, false, _, c⟩ => match arrOf .u64 4 c, Nat.beq 120 st.nsl, Nat.beq 2 st.nid with
          | some f, true, true => u.on fun u => a.on fun a => x.on fun x => some (⟨v0, v3, v4, v5, v17, v18, v25, v26, b0⟩, f, a, x, u)
          | _, _, _ => none
        | _, _ => none
      | _, _, _ => none
    | _, _, _, _ => none
  | _, _, _, _, _ => none

theorem pgGet_ok (st : St) (p : PgP × (Nat → Int) × Int × Int × Int) (h : pgGet st = some p) : StLe (pgSt p.1 (pgL p.2.2.1 p.2.2.2.1 p.2.2.2.2) p.2.1) st := by
  unfold pgGet at h
  split at h <;> try (cases h; done)
  split at h <;> try (cases h; done)
  split at h <;> try (cases h; done)
  split at h <;> try (cases h; done)
  split at h <;> try (cases h; done)
  rename_i hk hs hd
  simp only [LN.on_v] at h
  obtain rfl := Option.some.inj h
  refine mkSt_le (Nat.le_of_eq (Nat.eq_of_beq_eq_true hs)) (Nat.eq_of_beq_eq_true hd) ?_ ?_
  · simp only [pgL, List.cons_append, List.nil_append, List.forall_mem_cons]
    refine ⟨?_, ?_, ?_, ?_, ?_, ?_, ?_, ?_, ?_, ?_, ?_, ?_, fun _ h => by cases h⟩ <;> (refine ⟨_, by assumption, ?_⟩; exact fun _ => rfl)
  · simp only [List.forall_mem_cons]
    refine ⟨?_, ?_, fun _ h => by cases h⟩ <;> (refine ⟨_, by assumption, ?_⟩; first | exact .refl _ | exact arrOf_ble' hk _ _ _ _ _)

structure PgOk (f : Nat → Int) (a x u : Int) : Prop where
  a : 0 ≤ a ∧ a ≤ 4
  f : InW f 4
  x : 0 ≤ x ∧ x < 18446744073709551616
  u : 0 ≤ u ∧ u ≤ 1

def PgPre (p : PgP × (Nat → Int) × Int × Int × Int) : Prop := PgOk p.2.1 p.2.2.1 p.2.2.2.1 p.2.2.2.2

def pgOut (p : PgP × (Nat → Int) × Int × Int × Int) : LX × St := (.ex 4, pgSt p.1 [] (propag (4 - p.2.2.1.toNat) p.2.2.1.toNat p.2.1 p.2.2.2.1 p.2.2.2.2))

theorem pg_res (p : PgP × (Nat → Int) × Int × Int × Int) (h : PgPre p) : CodeRes prog (.loop (loopB 11 f169)) (pgSt p.1 (pgL p.2.2.1 p.2.2.2.1 p.2.2.2.2) p.2.1) (pgOut p) := by
  obtain ⟨q, f, a, x, u⟩ := p
  obtain ⟨h1, h2, h3, h4⟩ := h
  simp only at h1 h2 h3 h4
  have := (pg_loop q (4 - a.toNat) a.toNat f x u (by omega) h2 h3 h4).code
  rw [Int.toNat_of_nonneg h1.1] at this
  exact this

noncomputable def pg_lp : Nat × Code × (St → Tree (LX × St)) := (11, .loop (loopB 11 f169), sumUp pgGet PgPre pgOut)

theorem pg_lp_ok : ∀ st r, (sumUp pgGet PgPre pgOut st).res r → CodeRes prog (.loop (loopB 11 f169)) st r := fun _ _ => sumUp_ok pgGet_ok pg_res

end Go.LE

/- poly: its object as a contract sees it; add. -/
namespace Go.LE
open Go.Proofs.Try

structure PolyV where
  r0 : Int
  r1 : Int
  s0 : Int
  s1 : Int
  h0 : Int
  h1 : Int
  h2 : Int
  f : Nat → Int
  n : Int

def polyC (v : PolyV) : List LVal :=
  .bool false true :: .int .u64 (.sym v.r0) :: .int .u64 (.sym v.r1) :: .int .u64 (.sym v.s0) :: .int .u64 (.sym v.s1) :: .int .u64 (.sym v.h0) :: .int .u64 (.sym v.h1) :: .int .u64 (.sym v.h2) :: (arrFrom .u8 v.f 0 16 ++ [.int .i64 (.sym v.n)])

def polyBlk (v : PolyV) : Blk := ⟨true, false, false, none, .cells (polyC v)⟩

def polyOf (l : List LVal) : Option PolyV :=
  match l with
  | .bool false true :: .int .u64 r0 :: .int .u64 r1 :: .int .u64 s0 :: .int .u64 s1 :: .int .u64 h0 :: .int .u64 h1 :: .int .u64 h2 :: l => match takeL 16 l, dropL 16 l with
    | some fs, [.int .i64 n] => match bytesOf 16 fs with
      | some F => r0.on fun r0 => r1.on fun r1 => s0.on fun s0 => s1.on fun s1 => h0.on fun h0 => h1.on fun h1 => h2.on fun h2 => n.on fun n => some ⟨r0, r1, s0, s1, h0, h1, h2, fnL F, n⟩
      | none => none
    | _, _ => none
  | _ => none

/-- Lists of values that mean the same, whatever the numbers of blocks mean. -/
def RelC : List LVal → List LVal → Prop
  | [], [] => True
  | v :: l, u :: r => (∀ ρ ρ' : Ren, den ρ v = den ρ' u) ∧ RelC l r
  | _, _ => False

theorem RelC.get : ∀ {l r : List LVal}, RelC l r → ∀ (i : Nat) v, l[i]? = some v → ∃ u, r[i]? = some u ∧ ∀ ρ ρ' : Ren, den ρ v = den ρ' u
  | [], [], _, i, v, h => by simp at h
  | [], _ :: _, h, _, _, _ => h.elim
  | _ :: _, [], h, _, _, _ => h.elim
  | v :: l, u :: r, h, i, x, hx => by
    cases i with
    | zero =>
      simp only [List.getElem?_cons_zero, Option.some.injEq] at hx
      subst hx
      exact ⟨u, rfl, h.1⟩
    | succ i => exact RelC.get h.2 i x (by simpa using hx)

theorem RelC.app : ∀ {a b c d : List LVal}, RelC a b → RelC c d → RelC (a ++ c) (b ++ d)
  | [], [], _, _, _, h => h
  | [], _ :: _, _, _, h, _ => h.elim
  | _ :: _, [], _, _, h, _ => h.elim
  | _ :: _, _ :: _, _, _, h, k => ⟨h.1, RelC.app h.2 k⟩

theorem relC_ints {k : IntKind} : ∀ {l : List LVal} {a : List Int}, LVal.intsOf k l = some a → RelC (arrFrom k (fnL a) 0 l.length) l
  | [], _, _ => trivial
  | v :: l, a, h => by
    cases v <;> simp only [LVal.intsOf, LN.on_v] at h <;> try cases h
    rename_i k' n
    split at h
    · rename_i hk
      obtain rfl := of_decide_eq_true hk
      split at h
      · rename_i r hr
        obtain rfl := Option.some.inj h
        refine ⟨fun _ _ => rfl, ?_⟩
        have h1 := relC_ints hr
        rw [arrFrom_shift]
        exact h1
      · cases h
    · cases h

theorem takeL_dropL {α : Type} : ∀ {n : Nat} {l r : List α}, takeL n l = some r → l = r ++ dropL n l
  | 0, _, _, h => by rw [← Option.some.inj h]; rfl
  | _ + 1, [], _, h => by cases h
  | n + 1, a :: l, r, h => by
    simp only [takeL] at h
    split at h
    · rename_i q hq
      obtain rfl := Option.some.inj h
      simp only [dropL, List.cons_append]
      rw [← takeL_dropL hq]
    · cases h

theorem polyOf_rel {l : List LVal} {v : PolyV} (h : polyOf l = some v) : RelC (polyC v) l := by
  unfold polyOf at h
  split at h
  · rename_i r0 r1 s0 s1 h0 h1 h2 l
    split at h
    · rename_i fs n ht hd
      split at h
      · rename_i F hF
        simp only [LN.on_v] at h
        obtain rfl := Option.some.inj h
        obtain ⟨g1, g2⟩ := bytesOf_eq hF
        refine ⟨fun _ _ => rfl, fun _ _ => rfl, fun _ _ => rfl, fun _ _ => rfl, fun _ _ => rfl, fun _ _ => rfl, fun _ _ => rfl, fun _ _ => rfl, ?_⟩
        rw [takeL_dropL ht, hd]
        refine RelC.app ?_ ⟨fun _ _ => rfl, trivial⟩
        have := relC_ints g1
        rw [g2] at this
        exact this
      · cases h
    · cases h
  · cases h

theorem cells_less {l r : List LVal} (h : RelC l r) (o z a a' : Bool) (s : Option NN) : LessBlk ⟨o, a, z, none, .cells l⟩ ⟨o, a', z, s, .cells r⟩ :=
  ⟨rfl, fun h => h, fun _ h => (by cases h), fun i v hv => RelC.get h i v hv⟩

theorem plainC_rel : ∀ {l : List LVal}, plainC l = true → RelC l l
  | [], _ => trivial
  | .int _ _ :: l, h => ⟨fun _ _ => rfl, plainC_rel (l := l) h⟩
  | .bool _ _ :: l, h => ⟨fun _ _ => rfl, plainC_rel (l := l) h⟩

theorem polyC_plain (v : PolyV) : RelC (polyC v) (polyC v) := plainC_rel rfl

/-- A number of 129 bits more. -/
def addV (v : PolyV) (low high top : Int) : PolyV :=
  ⟨v.r0, v.r1, v.s0, v.s1, (v.h0 + low + 0) % 18446744073709551616, (v.h1 + high + (v.h0 + low + 0) / 18446744073709551616) % 18446744073709551616,
    IntKind.u64.wrap (v.h2 + IntKind.u64.wrap (top + (v.h1 + high + (v.h0 + low + 0) / 18446744073709551616) / 18446744073709551616)), v.f, v.n⟩

theorem add_eval_po (v : PolyV) (low high top : Int) : keepR [0] (evalFn xrEnv (leval xrEnv 1000) f168 [.ptr 0 (.lit 0), .int .u64 (.sym low), .int .u64 (.sym high), .int .u64 (.sym top)] ⟨.leaf, 0, Trie.put .leaf 0 (polyBlk v), 1⟩) =
    needs [0 ≤ v.h0, 0 ≤ low, 0 ≤ v.h1, 0 ≤ high, 0 ≤ (v.h0 + low + 0) / 18446744073709551616, ((v.h0 + low + 0) / 18446744073709551616).toNat ≤ 1]
      (.done (.tup [], ⟨.leaf, 0, Trie.put .leaf 0 (polyBlk (addV v low high top)), 1⟩)) := by
  kernel_rfl

def inU2 {α : Type} (x : Int) (t : Tree α) : Tree α := .need (0 ≤ x ∧ x < 18446744073709551616) t

def addS (args : List LVal) (blks : List Blk) : Tree OrcRes :=
  match args, blks with
  | [.ptr 0 (.lit 0), .int .u64 low, .int .u64 high, .int .u64 top], [⟨true, _, false, _, .cells l⟩] => match polyOf l with
    | some v => low.on fun low => high.on fun high => top.on fun top => inU2 v.h0 (inU2 v.h1 (inU2 low (inU2 high (.done ⟨.tup [], [(0, polyBlk (addV v low high top))], 0⟩))))
    | none => .fail 310
  | _, _ => .fail 311

/-- A canonical state of one poly alone. -/
theorem poly_st {l : List LVal} {v : PolyV} {nils : Bool} {sz : Option NN} (hv : polyOf l = some v) {wr : List (Nat × Blk)} (hk : hasKey 0 wr = true) : ∀ k b', (Trie.put .leaf 0 (polyBlk v) : Trie Blk).get k = some b' →
    ∃ b, [(⟨true, nils, false, sz, .cells l⟩ : Blk)][k]? = some b ∧ LessBlk b' b ∧ (b'.own = true → hasKey k wr = true) := fun k b' h => by
  rw [Trie.get_put] at h
  split at h
  · rename_i e
    subst e
    obtain rfl := Option.some.inj h
    exact ⟨_, rfl, cells_less (polyOf_rel hv) true false false nils sz, fun _ => hk⟩
  · rw [Trie.get_leaf] at h; cases h

theorem polyBlk_refl (v : PolyV) : LessBlk (polyBlk v) (polyBlk v) := cells_less (polyC_plain v) true false false false none

theorem add_spec : SpecOk xrEnv f168 addS := by
  refine specOk_of fun args blks r h Cf hnil hw => ?_
  unfold addS at h
  split at h
  · rename_i low high top nils sz l
    split at h
    · rename_i v hv
      simp only [LN.on_v] at h
      obtain ⟨h1, h⟩ := h
      obtain ⟨h2, h⟩ := h
      obtain ⟨h3, h⟩ := h
      obtain ⟨h4, h⟩ := h
      obtain rfl := Tree.res_done.1 h
      refine ⟨1000, [.ptr 0 (.lit 0), .int .u64 (.sym low.v), .int .u64 (.sym high.v), .int .u64 (.sym top.v)], ⟨.leaf, 0, Trie.put .leaf 0 (polyBlk v), 1⟩, (.tup [], ⟨.leaf, 0, Trie.put .leaf 0 (polyBlk (addV v low.v high.v top.v)), 1⟩), [0], ?_, rfl, rfl, fun ρ _ => rfl, poly_st hv rfl, fun ρ x hx => hx, fun p hp => ?_⟩
      · constructor
        rw [add_eval_po]
        exact needs_res (cons_all h1.1 (cons_all h3.1 (cons_all h2.1 (cons_all h4.1 (cons_all (by omega) (cons_all (by omega) nil_all)))))) (Tree.res_done.2 rfl)
      · rw [List.mem_singleton.1 hp]
        exact ⟨_, by rw [Trie.get_put, if_pos rfl], polyBlk_refl _, fun _ => rfl⟩
    · exact h.elim
  · exact h.elim

noncomputable def add_po : Nat × Orc := (168, canOrc addS)
theorem add_po_ok : Enters prog add_po.1 ∧ OrcOk prog add_po.1 add_po.2 := ⟨e_poly_Poly_add_ok.1, canOrc_ok xrEnv_ok env_noLps e_poly_Poly_add_ok.2 add_spec⟩

end Go.LE

/- poly.times: its contract. -/
namespace Go.LE
open Go.Proofs.Try

/-- One product is laid to the sum. -/
def mulT {β : Type} (h r : Int) (j : Nat) (f : Nat → Int) (t : (Nat → Int) → Tree β) : Tree β :=
  needs [0 ≤ h ∧ h < 18446744073709551616, 0 ≤ r ∧ r < 18446744073709551616, 0 ≤ f j, 0 ≤ h * r % 18446744073709551616, Code.loop (loopB 11 f169) = .loop (loopB 11 f169),
      PgOk (upd f j ((f j + h * r % 18446744073709551616 + 0) % 18446744073709551616)) ((j + 1 : Nat) : Int) (h * r / 18446744073709551616) ((f j + h * r % 18446744073709551616 + 0) / 18446744073709551616)]
    (t (propag (3 - j) (j + 1) (upd f j ((f j + h * r % 18446744073709551616 + 0) % 18446744073709551616)) (h * r / 18446744073709551616) ((f j + h * r % 18446744073709551616 + 0) / 18446744073709551616)))

def mulT0 {β : Type} (h r : Int) (t : (Nat → Int) → Tree β) : Tree β :=
  needs [0 ≤ h ∧ h < 18446744073709551616, 0 ≤ r ∧ r < 18446744073709551616, 0 ≤ h * r % 18446744073709551616, Code.loop (loopB 11 f169) = .loop (loopB 11 f169),
      PgOk (fnL [(0 + h * r % 18446744073709551616 + 0) % 18446744073709551616, 0, 0, 0]) 1 (h * r / 18446744073709551616) ((0 + h * r % 18446744073709551616 + 0) / 18446744073709551616)]
    (t (propag 3 1 (fnL [(0 + h * r % 18446744073709551616 + 0) % 18446744073709551616, 0, 0, 0]) (h * r / 18446744073709551616) ((0 + h * r % 18446744073709551616 + 0) / 18446744073709551616)))

noncomputable def tmEnv : EnvX := env [] [(140, pureOrc mul64S), add_po] [pg_lp]
theorem tmEnv_ok : EnvOk prog tmEnv := env_ok allNil (allCons mul64_orc (allCons add_po_ok allNil))
theorem tmEnv_lps : LpsOk prog tmEnv := lps_cons pg_lp_ok env_noLps

/-- What is above 2^130 is folded. -/
def foldV (v : PolyV) (F : Nat → Int) : PolyV := addV (addV ⟨v.r0, v.r1, v.s0, v.s1, F 0, F 1, iAnd .u64 (F 2) 3, v.f, v.n⟩ (iAndNot .u64 (F 2) 3) (F 3) 0) (iOr .u64 (iShr .u64 (F 2) 2) (iShl .u64 (F 3) 62)) (iShr .u64 (F 3) 2) 0

def addT {β : Type} (v : PolyV) (low high : Int) (t : PolyV → Tree β) : Tree β := inU2 v.h0 (inU2 v.h1 (inU2 low (inU2 high (t (addV v low high 0)))))

theorem times_eval (v : PolyV) : keepR [0] (evalFn tmEnv (leval tmEnv 1000) f169 [.ptr 0 (.lit 0)] ⟨.leaf, 0, Trie.put .leaf 0 (polyBlk v), 1⟩) =
    mulT0 v.h0 v.r0 fun F => mulT v.h0 v.r1 1 F fun F => mulT v.h1 v.r0 1 F fun F => mulT v.h1 v.r1 2 F fun F => mulT v.h2 v.r0 2 F fun F => mulT v.h2 v.r1 3 F fun F =>
      addT ⟨v.r0, v.r1, v.s0, v.s1, F 0, F 1, iAnd .u64 (F 2) 3, v.f, v.n⟩ (iAndNot .u64 (F 2) 3) (F 3) fun w => addT w (iOr .u64 (iShr .u64 (F 2) 2) (iShl .u64 (F 3) 62)) (iShr .u64 (F 3) 2) fun w =>
        .done (.tup [], ⟨.leaf, 0, Trie.put .leaf 0 (polyBlk w), 4⟩) := by
  kernel_rfl

def stepF (h r : Int) (j : Nat) (f : Nat → Int) : Nat → Int :=
  propag (3 - j) (j + 1) (upd f j ((f j + h * r % 18446744073709551616 + 0) % 18446744073709551616)) (h * r / 18446744073709551616) ((f j + h * r % 18446744073709551616 + 0) / 18446744073709551616)

def U64 (x : Int) : Prop := 0 ≤ x ∧ x < 18446744073709551616

theorem mul_range {h r : Int} (hh : U64 h) (hr : U64 r) : 0 ≤ h * r ∧ h * r / 18446744073709551616 < 18446744073709551616 := by
  obtain ⟨h1, h2⟩ := hh
  obtain ⟨h3, h4⟩ := hr
  have := mul_bound h1 h3 (m := 18446744073709551615) (n := 18446744073709551615) (by omega) (by omega)
  omega

theorem mulT_res {β : Type} {h r : Int} {j : Nat} {f : Nat → Int} {t : (Nat → Int) → Tree β} {x : β} (hh : U64 h) (hr : U64 r) (hj : j < 4) (hf : InW f 4) (ht : (t (stepF h r j f)).res x) : (mulT h r j f t).res x := by
  have hm := mul_range hh hr
  have hfj := hf j hj
  refine needs_res (cons_all hh (cons_all hr (cons_all hfj.1 (cons_all ?_ (cons_all rfl (cons_all ⟨?_, hf.upd j _, ?_, ?_⟩ nil_all)))))) ht
  · generalize h * r = m at *; omega
  · omega
  · generalize h * r = m at *; omega
  · generalize h * r = m at *; omega

theorem stepF_inW {h r : Int} {j : Nat} {f : Nat → Int} (hf : InW f 4) : InW (stepF h r j f) 4 := propag_inW _ _ _ _ _ 4 (hf.upd j _)

def step0 (h r : Int) : Nat → Int := propag 3 1 (fnL [(0 + h * r % 18446744073709551616 + 0) % 18446744073709551616, 0, 0, 0]) (h * r / 18446744073709551616) ((0 + h * r % 18446744073709551616 + 0) / 18446744073709551616)

theorem first_inW (x : Int) : InW (fnL [x % 18446744073709551616, 0, 0, 0]) 4 := fun i hi => by
  match i, hi with
  | 0, _ => exact ⟨Int.emod_nonneg _ (by decide), Int.emod_lt_of_pos _ (by decide)⟩
  | 1, _ => exact ⟨Int.le_refl 0, (by omega : (0 : Int) < 18446744073709551616)⟩
  | 2, _ => exact ⟨Int.le_refl 0, (by omega : (0 : Int) < 18446744073709551616)⟩
  | 3, _ => exact ⟨Int.le_refl 0, (by omega : (0 : Int) < 18446744073709551616)⟩
  | n + 4, h => omega

theorem step0_inW (h r : Int) : InW (step0 h r) 4 := propag_inW _ _ _ _ _ 4 (first_inW _)

theorem mulT0_res {β : Type} {h r : Int} {t : (Nat → Int) → Tree β} {x : β} (hh : U64 h) (hr : U64 r) (ht : (t (step0 h r)).res x) : (mulT0 h r t).res x := by
  have hm := mul_range hh hr
  refine needs_res (cons_all hh (cons_all hr (cons_all ?_ (cons_all rfl (cons_all ⟨?_, first_inW _, ?_, ?_⟩ nil_all))))) ht
  · generalize h * r = m at *; omega
  · omega
  · generalize h * r = m at *; omega
  · generalize h * r = m at *; omega

/-- The product's four limbs. -/
def prodF (v : PolyV) : Nat → Int := stepF v.h2 v.r1 3 (stepF v.h2 v.r0 2 (stepF v.h1 v.r1 2 (stepF v.h1 v.r0 1 (stepF v.h0 v.r1 1 (step0 v.h0 v.r0)))))

def timesV (v : PolyV) : PolyV := foldV v (prodF v)

structure PolyIn (v : PolyV) : Prop where
  r0 : U64 v.r0
  r1 : U64 v.r1
  h0 : U64 v.h0
  h1 : U64 v.h1
  h2 : U64 v.h2

theorem u64_in (n : Int) : U64 (IntKind.u64.wrap n) := by
  rw [u64_wrap]
  exact ⟨Int.emod_nonneg _ (by decide), Int.emod_lt_of_pos _ (by decide)⟩

theorem iShr_in {x : Int} (h : U64 x) (n : Nat) : U64 (iShr .u64 x n) := by
  unfold iShr
  have hp : (0 : Int) < ((2 ^ (min n IntKind.u64.bits) : Nat) : Int) := by exact_mod_cast Nat.two_pow_pos _
  rw [Int.fdiv_eq_ediv_of_nonneg _ (by omega)]
  obtain ⟨h1, h2⟩ := h
  refine ⟨Int.ediv_nonneg h1 (by omega), Int.lt_of_le_of_lt (Int.ediv_le_self _ h1) h2⟩

theorem mod_in (x : Int) : U64 (x % 18446744073709551616) := ⟨Int.emod_nonneg _ (by decide), Int.emod_lt_of_pos _ (by decide)⟩

theorem addV_in {v : PolyV} (h : PolyIn v) (low high top : Int) : PolyIn (addV v low high top) := ⟨h.r0, h.r1, mod_in _, mod_in _, u64_in _⟩

theorem addT_res {β : Type} {v : PolyV} {low high : Int} {t : PolyV → Tree β} {x : β} (h0 : U64 v.h0) (h1 : U64 v.h1) (h2 : U64 low) (h3 : U64 high) (ht : (t (addV v low high 0)).res x) : (addT v low high t).res x := ⟨h0, h1, h2, h3, ht⟩

theorem prodF_in (v : PolyV) : InW (prodF v) 4 := stepF_inW (stepF_inW (stepF_inW (stepF_inW (stepF_inW (step0_inW _ _)))))

theorem timesV_in {v : PolyV} (h : PolyIn v) : PolyIn (timesV v) := by
  have hp := prodF_in v
  have hW : PolyIn ⟨v.r0, v.r1, v.s0, v.s1, prodF v 0, prodF v 1, iAnd .u64 (prodF v 2) 3, v.f, v.n⟩ := ⟨h.r0, h.r1, hp 0 (by omega), hp 1 (by omega), u64_in _⟩
  exact addV_in (addV_in hW _ _ _) _ _ _

theorem times_res {v : PolyV} (h : PolyIn v) : Ok (keepR [0] (evalFn tmEnv (leval tmEnv 1000) f169 [.ptr 0 (.lit 0)] ⟨.leaf, 0, Trie.put .leaf 0 (polyBlk v), 1⟩)) (.tup [], ⟨.leaf, 0, Trie.put .leaf 0 (polyBlk (timesV v)), 4⟩) := by
  constructor
  rw [times_eval]
  have i0 := step0_inW v.h0 v.r0
  have i1 : InW (stepF v.h0 v.r1 1 (step0 v.h0 v.r0)) 4 := stepF_inW i0
  have i2 : InW (stepF v.h1 v.r0 1 _) 4 := stepF_inW (h := v.h1) (r := v.r0) (j := 1) i1
  have i3 : InW (stepF v.h1 v.r1 2 _) 4 := stepF_inW (h := v.h1) (r := v.r1) (j := 2) i2
  have i4 : InW (stepF v.h2 v.r0 2 _) 4 := stepF_inW (h := v.h2) (r := v.r0) (j := 2) i3
  have hp := prodF_in v
  refine mulT0_res h.h0 h.r0 (mulT_res h.h0 h.r1 (by omega) i0 (mulT_res h.h1 h.r0 (by omega) i1 (mulT_res h.h1 h.r1 (by omega) i2 (mulT_res h.h2 h.r0 (by omega) i3 (mulT_res h.h2 h.r1 (by omega) i4 ?_)))))
  refine addT_res (hp 0 (by omega)) (hp 1 (by omega)) (u64_in _) (hp 3 (by omega)) (addT_res (mod_in _) (mod_in _) (u64_in _) (iShr_in (hp 3 (by omega)) _) (Tree.res_done.2 rfl))

def timesS (args : List LVal) (blks : List Blk) : Tree OrcRes :=
  match args, blks with
  | [.ptr 0 (.lit 0)], [⟨true, _, false, _, .cells l⟩] => match polyOf l with
    | some v => .need (PolyIn v) (.done ⟨.tup [], [(0, polyBlk (timesV v))], 3⟩)
    | none => .fail 312
  | _, _ => .fail 313

theorem times_spec : SpecOk tmEnv f169 timesS := by
  refine specOk_of fun args blks r h Cf hnil hw => ?_
  unfold timesS at h
  split at h
  · rename_i nils sz l
    split at h
    · rename_i v hv
      obtain ⟨h1, h⟩ := h
      obtain rfl := Tree.res_done.1 h
      refine ⟨1000, [.ptr 0 (.lit 0)], ⟨.leaf, 0, Trie.put .leaf 0 (polyBlk v), 1⟩, (.tup [], ⟨.leaf, 0, Trie.put .leaf 0 (polyBlk (timesV v)), 4⟩), [0], times_res h1, rfl, rfl, fun ρ _ => rfl, poly_st hv rfl, fun ρ x hx => hx, fun p hp => ?_⟩
      rw [List.mem_singleton.1 hp]
      exact ⟨_, by rw [Trie.get_put, if_pos rfl], polyBlk_refl _, fun _ => rfl⟩
    · exact h.elim
  · exact h.elim

noncomputable def times_po : Nat × Orc := (169, canOrc timesS)
theorem times_po_ok : Enters prog times_po.1 ∧ OrcOk prog times_po.1 times_po.2 := ⟨e_poly_Poly_times_ok.1, canOrc_ok tmEnv_ok tmEnv_lps e_poly_Poly_times_ok.2 times_spec⟩

end Go.LE

/- poly.take of a whole block: its contract. -/
namespace Go.LE
open Go.Proofs.Try

/-- The number of eight bytes. -/
def num8 (f : Nat → Int) (o : Nat) : Int :=
  iOr .u64 (iOr .u64 (iOr .u64 (iOr .u64 (iOr .u64 (iOr .u64 (iOr .u64 (iOr .u64 0 (iShl .u64 (IntKind.u64.wrap (f o)) 0)) (iShl .u64 (IntKind.u64.wrap (f (o + 1))) 8)) (iShl .u64 (IntKind.u64.wrap (f (o + 2))) 16)) (iShl .u64 (IntKind.u64.wrap (f (o + 3))) 24))
    (iShl .u64 (IntKind.u64.wrap (f (o + 4))) 32)) (iShl .u64 (IntKind.u64.wrap (f (o + 5))) 40)) (iShl .u64 (IntKind.u64.wrap (f (o + 6))) 48)) (iShl .u64 (IntKind.u64.wrap (f (o + 7))) 56)

theorem num8_in (f : Nat → Int) (o : Nat) : U64 (num8 f o) := u64_in _

/-- A whole block is taken in. -/
def takeV (v : PolyV) : PolyV := timesV (addV v (num8 v.f 0) (num8 v.f 8) 1)

theorem takeV_in {v : PolyV} (h : PolyIn v) : PolyIn (takeV v) := timesV_in (addV_in h _ _ _)

theorem takeV_f (v : PolyV) : (takeV v).f = v.f := rfl
theorem takeV_n (v : PolyV) : (takeV v).n = v.n := rfl

noncomputable def tkEnv : EnvX := env [e_poly_number] [add_po, times_po] []
theorem tkEnv_ok : EnvOk prog tkEnv := env_ok (allCons e_poly_number_ok allNil) (allCons add_po_ok (allCons times_po_ok allNil))

theorem take_eval (v : PolyV) : keepR [0] (evalFn tkEnv (leval tkEnv 1000) f149 [.ptr 0 (.lit 0), .int .i64 (.lit 16)] ⟨.leaf, 0, Trie.put .leaf 0 (polyBlk v), 1⟩) =
    inU2 v.h0 (inU2 v.h1 (inU2 (num8 (fnL (rangeF v.f 0 16)) 0) (inU2 (num8 (fnL (rangeF v.f 0 16)) 8) (.need (PolyIn ⟨v.r0, v.r1, v.s0, v.s1, (addV v (num8 (fnL (rangeF v.f 0 16)) 0) (num8 (fnL (rangeF v.f 0 16)) 8) 1).h0, (addV v (num8 (fnL (rangeF v.f 0 16)) 0) (num8 (fnL (rangeF v.f 0 16)) 8) 1).h1,
        (addV v (num8 (fnL (rangeF v.f 0 16)) 0) (num8 (fnL (rangeF v.f 0 16)) 8) 1).h2, fnL (rangeF v.f 0 16), v.n⟩)
      (.done (.tup [], ⟨.leaf, 0, Trie.put .leaf 0 (polyBlk (timesV ⟨v.r0, v.r1, v.s0, v.s1, (addV v (num8 (fnL (rangeF v.f 0 16)) 0) (num8 (fnL (rangeF v.f 0 16)) 8) 1).h0, (addV v (num8 (fnL (rangeF v.f 0 16)) 0) (num8 (fnL (rangeF v.f 0 16)) 8) 1).h1,
        (addV v (num8 (fnL (rangeF v.f 0 16)) 0) (num8 (fnL (rangeF v.f 0 16)) 8) 1).h2, fnL (rangeF v.f 0 16), v.n⟩)), 5⟩)))))) := by
  kernel_rfl

/-- The same, as far as 16 bytes go. -/
def PEq (v w : PolyV) : Prop := v = { w with f := v.f } ∧ ∀ j, j < 16 → v.f j = w.f j

theorem polyC_congr {v w : PolyV} (h : PEq v w) : polyC v = polyC w := by
  obtain ⟨h1, h2⟩ := h
  rw [h1]
  unfold polyC
  simp only
  rw [arrFrom_congr 16 0 fun i _ hi => h2 i (by omega)]

theorem num8_congr {f g : Nat → Int} {o : Nat} (h : ∀ j, o ≤ j → j < o + 8 → f j = g j) : num8 f o = num8 g o := by
  unfold num8
  rw [h o (by omega) (by omega), h (o + 1) (by omega) (by omega), h (o + 2) (by omega) (by omega), h (o + 3) (by omega) (by omega), h (o + 4) (by omega) (by omega), h (o + 5) (by omega) (by omega), h (o + 6) (by omega) (by omega), h (o + 7) (by omega) (by omega)]

theorem PEq.take {v w : PolyV} (h : PEq v w) : PEq (takeV v) (takeV w) := by
  obtain ⟨h1, h2⟩ := h
  have e0 : num8 v.f 0 = num8 w.f 0 := num8_congr fun j _ hj => h2 j (by omega)
  have e8 : num8 v.f 8 = num8 w.f 8 := num8_congr fun j _ hj => h2 j (by omega)
  refine ⟨?_, h2⟩
  have : takeV v = { timesV (addV w (num8 v.f 0) (num8 v.f 8) 1) with f := v.f } := by
    show timesV (addV v (num8 v.f 0) (num8 v.f 8) 1) = _
    have h3 : addV v (num8 v.f 0) (num8 v.f 8) 1 = { addV w (num8 v.f 0) (num8 v.f 8) 1 with f := v.f } := by
      generalize num8 v.f 0 = a
      generalize num8 v.f 8 = b
      rw [h1]
      rfl
    rw [h3]
    rfl
  rw [this, e0, e8]
  rfl

def takeS (args : List LVal) (blks : List Blk) : Tree OrcRes :=
  match args, blks with
  | [.ptr 0 (.lit 0), .int .i64 (.lit 16)], [⟨true, _, false, _, .cells l⟩] => match polyOf l with
    | some v => .need (PolyIn v) (.done ⟨.tup [], [(0, polyBlk (takeV v))], 4⟩)
    | none => .fail 314
  | _, _ => .fail 315

theorem take_spec : SpecOk tkEnv f149 takeS := by
  refine specOk_of fun args blks r h Cf hnil hw => ?_
  unfold takeS at h
  split at h
  · rename_i nils sz l
    split at h
    · rename_i v hv
      obtain ⟨h1, h⟩ := h
      obtain rfl := Tree.res_done.1 h
      have e0 : num8 (fnL (rangeF v.f 0 16)) 0 = num8 v.f 0 := num8_congr fun j _ hj => rangeF_getD v.f (by omega)
      have e8 : num8 (fnL (rangeF v.f 0 16)) 8 = num8 v.f 8 := num8_congr fun j _ hj => rangeF_getD v.f (by omega)
      have hin := addV_in h1 (num8 v.f 0) (num8 v.f 8) 1
      have eP : PEq (timesV ⟨v.r0, v.r1, v.s0, v.s1, (addV v (num8 v.f 0) (num8 v.f 8) 1).h0, (addV v (num8 v.f 0) (num8 v.f 8) 1).h1, (addV v (num8 v.f 0) (num8 v.f 8) 1).h2, fnL (rangeF v.f 0 16), v.n⟩) (takeV v) := ⟨rfl, fun j hj => rangeF_getD v.f hj⟩
      refine ⟨1000, [.ptr 0 (.lit 0), .int .i64 (.lit 16)], ⟨.leaf, 0, Trie.put .leaf 0 (polyBlk v), 1⟩, (.tup [], ⟨.leaf, 0, Trie.put .leaf 0 (polyBlk (timesV ⟨v.r0, v.r1, v.s0, v.s1, (addV v (num8 v.f 0) (num8 v.f 8) 1).h0, (addV v (num8 v.f 0) (num8 v.f 8) 1).h1, (addV v (num8 v.f 0) (num8 v.f 8) 1).h2, fnL (rangeF v.f 0 16), v.n⟩)), 5⟩), [0], ?_, rfl, rfl, fun ρ _ => rfl, poly_st hv rfl, fun ρ x hx => hx, fun p hp => ?_⟩
      · constructor
        rw [take_eval, e0, e8]
        exact ⟨h1.h0, h1.h1, num8_in _ _, num8_in _ _, ⟨hin.r0, hin.r1, hin.h0, hin.h1, hin.h2⟩, rfl⟩
      · rw [List.mem_singleton.1 hp]
        refine ⟨_, by rw [Trie.get_put, if_pos rfl], ?_, fun _ => rfl⟩
        have : polyBlk (takeV v) = polyBlk (timesV ⟨v.r0, v.r1, v.s0, v.s1, (addV v (num8 v.f 0) (num8 v.f 8) 1).h0, (addV v (num8 v.f 0) (num8 v.f 8) 1).h1, (addV v (num8 v.f 0) (num8 v.f 8) 1).h2, fnL (rangeF v.f 0 16), v.n⟩) := by
          unfold polyBlk
          rw [polyC_congr eP]
        rw [this]
        exact polyBlk_refl _
    · exact h.elim
  · exact h.elim

noncomputable def take_po : Nat × Orc := (149, canOrc takeS)
theorem take_po_ok : Enters prog take_po.1 ∧ OrcOk prog take_po.1 take_po.2 := ⟨e_poly_Poly_take_ok.1, canOrc_ok tkEnv_ok env_noLps e_poly_Poly_take_ok.2 take_spec⟩

/- Write's loop. -/

def polyCn (v : PolyV) (n : LN) : List LVal :=
  .bool false true :: .int .u64 (.sym v.r0) :: .int .u64 (.sym v.r1) :: .int .u64 (.sym v.s0) :: .int .u64 (.sym v.s1) :: .int .u64 (.sym v.h0) :: .int .u64 (.sym v.h1) :: .int .u64 (.sym v.h2) :: (arrFrom .u8 v.f 0 16 ++ [.int .i64 n])

def wrSt (cl : List LVal) (o m c ob : Nat) (L : List Int) (z : Bool) : St :=
  mkSt [(0, .ptr 0 (.lit 0)), (1, .slice 1 (.sym o) (.sym m) (some (.sym c)))] 48 [(0, ⟨true, false, false, none, .cells cl⟩), (1, segBlk .u8 ob L z)] 2

/-- The block with bytes of a list laid from a place on. -/
def laid (f : Nat → Int) (n m : Nat) (S : List Int) (j : Nat) : Int := if j < n then f j else if j - n < m then S.getD (j - n) 0 else f j

noncomputable def wrEnv : EnvX := env [] [take_po] []
theorem wrEnv_ok : EnvOk prog wrEnv := env_ok allNil (allCons take_po_ok allNil)

def wrBody (v : PolyV) (n o m c ob : Nat) (L : List Int) (z : Bool) : Tree (LX × St) :=
  .ite (decide ((m : Int) > 0)) (needs [ob ≤ o, o - ob + m ≤ L.length, c ≤ c, m ≤ c, 0 ≤ ((m.min (16 - n) : Nat) : Int), ((m.min (16 - n) : Nat) : Int).toNat ≤ m]
    (.ite (IntKind.i64.wrap ((n : Int) + ((m.min (16 - n) : Nat) : Int)) == 16)
      (.need (PolyIn ⟨v.r0, v.r1, v.s0, v.s1, v.h0, v.h1, v.h2, fnL (rangeF (laid v.f n m (subL L (o - ob) m)) 0 16), IntKind.i64.wrap ((n : Int) + ((m.min (16 - n) : Nat) : Int))⟩)
        (.done (.nrm, wrSt (polyCn (takeV ⟨v.r0, v.r1, v.s0, v.s1, v.h0, v.h1, v.h2, fnL (rangeF (laid v.f n m (subL L (o - ob) m)) 0 16), IntKind.i64.wrap ((n : Int) + ((m.min (16 - n) : Nat) : Int))⟩) (.lit 0))
          (if c = ((m.min (16 - n) : Nat) : Int).toNat then o else o + ((m.min (16 - n) : Nat) : Int).toNat * 1) (m - ((m.min (16 - n) : Nat) : Int).toNat) (c - ((m.min (16 - n) : Nat) : Int).toNat) ob L z)))
      (.done (.nrm, wrSt (polyCn ⟨v.r0, v.r1, v.s0, v.s1, v.h0, v.h1, v.h2, laid v.f n m (subL L (o - ob) m), 0⟩ (.sym (IntKind.i64.wrap ((n : Int) + ((m.min (16 - n) : Nat) : Int)))))
          (if c = ((m.min (16 - n) : Nat) : Int).toNat then o else o + ((m.min (16 - n) : Nat) : Int).toNat * 1) (m - ((m.min (16 - n) : Nat) : Int).toNat) (c - ((m.min (16 - n) : Nat) : Int).toNat) ob L z))))
    (.done (.ex 0, wrSt (polyCn v (.lit (n : Int))) o m c ob L z))

theorem wr_body (v : PolyV) (o m c ob : Nat) (L : List Int) (z : Bool) : ∀ n : Nat, n < 16 → pruneT [0, 1] [0, 1] 2 (leval wrEnv 1000 (loopB 1 f128) (wrSt (polyCn v (.lit (n : Int))) o m c ob L z)) = wrBody v n o m c ob L z
  | 0, _ => by kernel_rfl
  | 1, _ => by kernel_rfl
  | 2, _ => by kernel_rfl
  | 3, _ => by kernel_rfl
  | 4, _ => by kernel_rfl
  | 5, _ => by kernel_rfl
  | 6, _ => by kernel_rfl
  | 7, _ => by kernel_rfl
  | 8, _ => by kernel_rfl
  | 9, _ => by kernel_rfl
  | 10, _ => by kernel_rfl
  | 11, _ => by kernel_rfl
  | 12, _ => by kernel_rfl
  | 13, _ => by kernel_rfl
  | 14, _ => by kernel_rfl
  | 15, _ => by kernel_rfl
  | n + 16, h => absurd h (by omega)

end Go.LE

/- poly.Write: its contract. -/
namespace Go.LE
open Go.Proofs.Try

/-- A byte is taken in. -/
def push (v : PolyV) (b : Int) : PolyV :=
  if v.n = 15 then { takeV { v with f := upd v.f v.n.toNat b, n := 16 } with n := 0 } else { v with f := upd v.f v.n.toNat b, n := v.n + 1 }

def writeV (v : PolyV) (L : List Int) : PolyV := L.foldl push v

/-- Bytes laid from a place on. -/
def lay (f : Nat → Int) (k : Nat) : List Int → Nat → Int
  | [] => f
  | b :: l => lay (upd f k b) (k + 1) l

theorem lay_get : ∀ (l : List Int) (f : Nat → Int) (k j : Nat), lay f k l j = if j < k then f j else if j - k < l.length then l.getD (j - k) 0 else f j
  | [], f, k, j => by simp [lay]
  | b :: l, f, k, j => by
    rw [lay, lay_get l]
    by_cases h1 : j < k
    · rw [if_pos (by omega), if_pos h1]
      unfold upd; rw [if_neg (by omega)]
    · rw [if_neg h1]
      by_cases h2 : j = k
      · subst h2
        rw [if_pos (by omega)]
        simp [upd]
      · rw [if_neg (by omega)]
        have e : j - k = (j - (k + 1)) + 1 := by omega
        simp only [List.length_cons]
        by_cases h3 : j - (k + 1) < l.length
        · rw [if_pos h3, if_pos (by omega), e]
          simp [List.getD]
        · rw [if_neg h3, if_neg (by omega)]
          unfold upd; rw [if_neg h2]

theorem push_many : ∀ (l : List Int) (v : PolyV) (k : Nat), v.n = k → k + l.length < 16 → writeV v l = { v with f := lay v.f k l, n := ((k + l.length : Nat) : Int) }
  | [], v, k, h, _ => by
    obtain ⟨r0, r1, s0, s1, h0, h1, h2, f, n⟩ := v
    simp only at h
    subst h
    rfl
  | b :: l, v, k, h, hl => by
    simp only [List.length_cons] at hl ⊢
    show writeV (push v b) l = _
    unfold push
    rw [if_neg (by omega)]
    rw [push_many l _ (k + 1) (by show v.n + 1 = _; omega) (by omega)]
    rw [h, Int.toNat_natCast]
    simp only [lay]
    rw [show k + 1 + l.length = k + (l.length + 1) by omega]

theorem push_block : ∀ (l : List Int) (v : PolyV) (k : Nat), v.n = k → l ≠ [] → k + l.length = 16 → writeV v l = { takeV { v with f := lay v.f k l, n := 16 } with n := 0 }
  | [], v, k, h, hne, _ => absurd rfl hne
  | b :: l, v, k, h, _, hl => by
    simp only [List.length_cons] at hl
    show writeV (push v b) l = _
    unfold push
    by_cases h15 : v.n = 15
    · rw [if_pos h15]
      have : l = [] := List.length_eq_zero_iff.1 (by omega)
      subst this
      simp only [lay]
      rw [h, Int.toNat_natCast]
      rfl
    · rw [if_neg h15]
      have hne : l ≠ [] := fun e => by subst e; simp only [List.length_nil] at hl; omega
      rw [push_block l _ (k + 1) (by show v.n + 1 = _; omega) hne (by omega)]
      rw [h, Int.toNat_natCast]
      rfl

theorem writeV_app (v : PolyV) (a b : List Int) : writeV v (a ++ b) = writeV (writeV v a) b := by
  unfold writeV; rw [List.foldl_append]

theorem push_in {v : PolyV} (h : PolyIn v) (b : Int) : PolyIn (push v b) := by
  unfold push
  split
  · have := takeV_in (v := { v with f := upd v.f v.n.toNat b, n := 16 }) ⟨h.r0, h.r1, h.h0, h.h1, h.h2⟩
    exact ⟨this.r0, this.r1, this.h0, this.h1, this.h2⟩
  · exact ⟨h.r0, h.r1, h.h0, h.h1, h.h2⟩

theorem writeV_in : ∀ (l : List Int) {v : PolyV}, PolyIn v → PolyIn (writeV v l)
  | [], _, h => h
  | b :: l, v, h => writeV_in l (push_in h b)

/-- How many bytes wait. -/
theorem push_n {v : PolyV} (h : 0 ≤ v.n ∧ v.n < 16) (b : Int) : (push v b).n = (v.n + 1) % 16 := by
  unfold push
  split
  · show (0 : Int) = _; omega
  · show v.n + 1 = _; omega

theorem writeV_n : ∀ (l : List Int) {v : PolyV}, 0 ≤ v.n ∧ v.n < 16 → (writeV v l).n = (v.n + l.length) % 16
  | [], v, h => by show v.n = _; simp; omega
  | b :: l, v, h => by
    have h1 := push_n h b
    show (writeV (push v b) l).n = _
    rw [writeV_n l (by omega), h1]
    simp only [List.length_cons]
    omega

theorem PEq.refl (v : PolyV) : PEq v v := ⟨rfl, fun _ _ => rfl⟩

theorem PEq.push {v w : PolyV} (h : PEq v w) (hn : 0 ≤ v.n ∧ v.n < 16) (b : Int) : PEq (push v b) (push w b) := by
  obtain ⟨h1, h2⟩ := h
  have hv : v.n = w.n := by rw [h1]
  have hf : ∀ j, j < 16 → upd v.f v.n.toNat b j = upd w.f w.n.toNat b j := fun j hj => by
    rw [hv]
    unfold upd
    split
    · rfl
    · exact h2 j hj
  unfold Go.LE.push
  rw [hv] at hf ⊢
  split
  · have := PEq.take (v := { v with f := upd v.f w.n.toNat b, n := 16 }) (w := { w with f := upd w.f w.n.toNat b, n := 16 }) ⟨by rw [h1], hf⟩
    refine ⟨?_, this.2⟩
    have e := this.1
    generalize takeV { v with f := upd v.f w.n.toNat b, n := 16 } = x at *
    generalize takeV { w with f := upd w.f w.n.toNat b, n := 16 } = y at *
    rw [e]
  · exact ⟨by rw [h1], hf⟩

theorem PEq.write : ∀ (l : List Int) {v w : PolyV}, PEq v w → 0 ≤ v.n ∧ v.n < 16 → PEq (writeV v l) (writeV w l)
  | [], _, _, h, _ => h
  | b :: l, v, w, h, hn => PEq.write l (h.push hn b) (by rw [push_n hn]; omega)

theorem wr_code (v : PolyV) (n : Nat) (hn : n < 16) (o m c ob : Nat) (L : List Int) (z : Bool) (r : LX × St) : (wrBody v n o m c ob L z).res r → CodeRes prog (loopB 1 f128) (wrSt (polyCn v (.lit (n : Int))) o m c ob L z) r := by
  rw [← wr_body v o m c ob L z n hn]
  exact pruneT_ok (code_ok wrEnv_ok env_noLps 1000 _ _) (Nat.le_of_eq (mkSt_nid ..))

/-- What is left behind the loop. -/
def wrEnd (v : PolyV) : St := mkSt [] 48 [(0, polyBlk v)] 2

theorem polyCn_rel (v : PolyV) (x y : LN) (h : x.v = y.v) : RelC (polyCn v x) (polyCn v y) := by
  unfold polyCn
  refine ⟨fun _ _ => rfl, fun _ _ => rfl, fun _ _ => rfl, fun _ _ => rfl, fun _ _ => rfl, fun _ _ => rfl, fun _ _ => rfl, fun _ _ => rfl, ?_⟩
  refine RelC.app (plainC_rel rfl) ⟨fun ρ ρ' => ?_, trivial⟩
  simp only [den, h]

theorem relC_ble {l r : List LVal} (h : RelC l r) (o a z : Bool) (s : Option NN) : BlkLe ⟨o, a, z, s, .cells l⟩ ⟨o, a, z, s, .cells r⟩ :=
  ⟨rfl, rfl, fun _ h => h, fun i v hv => by
    obtain ⟨u, h1, h2⟩ := RelC.get h i v hv
    exact ⟨u, h1, fun ρ => (h2 ρ ρ).symm⟩⟩

theorem wrSt_rel {a b : List LVal} (h : RelC a b) (o m c ob : Nat) (L : List Int) (z : Bool) : StLe (wrSt a o m c ob L z) (wrSt b o m c ob L z) :=
  mkSt_rel ⟨rfl, fun _ => rfl, rfl, fun _ => rfl, trivial⟩ ⟨rfl, relC_ble h _ _ _ _, rfl, .refl _, trivial⟩

theorem wrEnd_le {v : PolyV} {cl : List LVal} (h : RelC (polyC v) cl) (o m c ob : Nat) (L : List Int) (z : Bool) : StLe (wrEnd v) (wrSt cl o m c ob L z) := by
  refine ⟨Nat.le_refl _, rfl, fun t v h => ?_, fun t b hb => ?_⟩
  · have h' : (Trie.leaf : Trie LVal).get t = some v := h
    rw [Trie.get_leaf] at h'; cases h'
  · have hb' : (Trie.put .leaf 0 (polyBlk v) : Trie Blk).get t = some b := hb
    rw [Trie.get_put] at hb'
    split at hb'
    · rename_i e
      subst e
      obtain rfl := Option.some.inj hb'
      exact ⟨_, rfl, relC_ble h _ _ _ _⟩
    · rw [Trie.get_leaf] at hb'; cases hb'

theorem subL_length {l : List Int} {o n : Nat} (h : o + n ≤ l.length) : (subL l o n).length = n := by
  simp [subL]; omega

theorem subL_drop {l : List Int} {o n t : Nat} : (subL l o n).drop t = subL l (o + t) (n - t) := by
  unfold subL
  rw [List.drop_take, List.drop_drop]

theorem lay_laid {f : Nat → Int} {k m t : Nat} {S : List Int} (hS : S.length = m) (ht : t = min m (16 - k)) (hk : k < 16) : ∀ j, j < 16 → laid f k m S j = lay f k (S.take t) j := fun j hj => by
  rw [lay_get]
  unfold laid
  by_cases h1 : j < k
  · rw [if_pos h1, if_pos h1]
  · rw [if_neg h1, if_neg h1, List.length_take]
    by_cases h2 : j - k < m
    · rw [if_pos h2, if_pos (by omega)]
      simp only [List.getD]
      rw [List.getElem?_take_of_lt (by omega)]
    · rw [if_neg h2, if_neg (by omega)]

theorem wr_loop (ob : Nat) (L : List Int) (z : Bool) : ∀ (d m : Nat) (v : PolyV) (k o c : Nat), m ≤ d → k < 16 → v.n = k → PolyIn v → m ≤ c → ob ≤ o → o - ob + m ≤ L.length →
    LoopRes prog (loopB 1 f128) (wrSt (polyCn v (.lit (k : Int))) o m c ob L z) (.ex 0, wrEnd (writeV v (subL L (o - ob) m))) := by
  intro d
  induction d with
  | zero =>
    intro m v k o c hd hk hn hin hc ho hL
    obtain rfl : m = 0 := by omega
    have h4 : LoopRes prog (loopB 1 f128) (wrSt (polyCn v (.lit (k : Int))) o 0 c ob L z) (.ex 0, wrSt (polyCn v (.lit (k : Int))) o 0 c ob L z) := by
      refine .out (wr_code v k hk _ _ _ _ _ _ _ ?_) (by simp)
      exact ⟨fun h => absurd (of_decide_eq_true h) (by omega), fun _ => rfl⟩
    have e : subL L (o - ob) 0 = [] := by simp [subL]
    rw [e]
    exact h4.le (.refl _) (wrEnd_le (polyCn_rel v (.sym v.n) (.lit k) hn) _ _ _ _ _ _)
  | succ d ih =>
    intro m v k o c hd hk hn hin hc ho hL
    by_cases hm : m = 0
    · subst hm
      exact ih 0 v k o c (by omega) hk hn hin hc ho hL
    · have hS : (subL L (o - ob) m).length = m := subL_length hL
      have htdef : m.min (16 - k) = min m (16 - k) := rfl
      generalize ht : min m (16 - k) = t at htdef
      have ht1 : t ≤ m := by omega
      have ht2 : 0 < t := by omega
      have e1 : IntKind.i64.wrap ((k : Int) + ((t : Nat) : Int)) = ((k + t : Nat) : Int) := by rw [i64_small (by omega) (by omega)]; omega
      have hall : ∀ p ∈ [ob ≤ o, o - ob + m ≤ L.length, c ≤ c, m ≤ c, 0 ≤ ((m.min (16 - k) : Nat) : Int), ((m.min (16 - k) : Nat) : Int).toNat ≤ m], p := by
        rw [htdef, Int.toNat_natCast]
        exact cons_all ho (cons_all hL (cons_all (Nat.le_refl _) (cons_all hc (cons_all (by omega) (cons_all ht1 nil_all)))))
      -- where the slice goes on
      let o' := if c = t then o else o + t * 1
      have ho' : ob ≤ o' ∧ o' - ob + (m - t) ≤ L.length ∧ subL L (o' - ob) (m - t) = (subL L (o - ob) m).drop t := by
        show ob ≤ (if c = t then o else o + t * 1) ∧ (if c = t then o else o + t * 1) - ob + (m - t) ≤ L.length ∧ subL L ((if c = t then o else o + t * 1) - ob) (m - t) = _
        rw [subL_drop, Nat.mul_one]
        by_cases hct : c = t
        · rw [if_pos hct]
          have : m - t = 0 := by omega
          refine ⟨ho, by omega, ?_⟩
          rw [this]; simp [subL]
        · rw [if_neg hct]
          refine ⟨by omega, by omega, ?_⟩
          rw [show o + t - ob = o - ob + t by omega]
      have hsplit : writeV v (subL L (o - ob) m) = writeV (writeV v ((subL L (o - ob) m).take t)) ((subL L (o - ob) m).drop t) := by
        rw [← writeV_app, List.take_append_drop]
      have htl : ((subL L (o - ob) m).take t).length = t := by rw [List.length_take]; omega
      have hlay := lay_laid (f := v.f) (k := k) hS ht.symm hk
      by_cases h16 : k + t = 16
      · -- a block is full
        let w : PolyV := ⟨v.r0, v.r1, v.s0, v.s1, v.h0, v.h1, v.h2, fnL (rangeF (laid v.f k m (subL L (o - ob) m)) 0 16), ((k + t : Nat) : Int)⟩
        have hwin : PolyIn w := ⟨hin.r0, hin.r1, hin.h0, hin.h1, hin.h2⟩
        have hwk := push_block ((subL L (o - ob) m).take t) v k hn (fun e => by rw [e] at htl; simp at htl; omega) (by omega)
        have hPE : PEq { takeV w with n := 0 } (writeV v ((subL L (o - ob) m).take t)) := by
          rw [hwk]
          have h5 : PEq w { v with f := lay v.f k ((subL L (o - ob) m).take t), n := 16 } := ⟨by show w = _; simp only [w]; rw [h16]; rfl, fun j hj => by
            show (rangeF (laid v.f k m (subL L (o - ob) m)) 0 16).getD j 0 = _
            rw [rangeF_getD _ hj]
            exact hlay j hj⟩
          have h6 := h5.take
          refine ⟨?_, h6.2⟩
          have e := h6.1
          generalize takeV w = x at *
          generalize takeV { v with f := lay v.f k ((subL L (o - ob) m).take t), n := 16 } = y at *
          rw [e]
        have hnx : (writeV { takeV w with n := 0 } ((subL L (o - ob) m).drop t)).n = _ := rfl
        have hend : wrEnd (writeV v (subL L (o - ob) m)) = wrEnd (writeV { takeV w with n := 0 } (subL L (o' - ob) (m - t))) := by
          rw [hsplit, ho'.2.2]
          have := PEq.write ((subL L (o - ob) m).drop t) hPE ⟨Int.le_refl 0, by show (0 : Int) < 16; omega⟩
          unfold wrEnd polyBlk
          rw [polyC_congr this]
        have hin2 := takeV_in hwin
        have hgo := ih (m - t) { takeV w with n := 0 } 0 o' (c - t) (by omega) (by omega) rfl ⟨hin2.r0, hin2.r1, hin2.h0, hin2.h1, hin2.h2⟩ (by omega) ho'.1 ho'.2.1
        rw [hend]
        refine .step (wr_code v k hk _ _ _ _ _ _ (.nrm, wrSt (polyCn (takeV w) (.lit 0)) o' (m - t) (c - t) ob L z) ?_) hgo
        refine ⟨fun _ => needs_res hall ?_, fun h => absurd h (by simp; omega)⟩
        rw [htdef, e1, Int.toNat_natCast]
        refine ⟨fun _ => ⟨hwin, rfl⟩, fun h => absurd h (by rw [h16]; decide)⟩
      · -- bytes wait
        have hm2 : m - t = 0 := by omega
        have hwk := push_many ((subL L (o - ob) m).take t) v k hn (by omega)
        rw [htl] at hwk
        let w : PolyV := ⟨v.r0, v.r1, v.s0, v.s1, v.h0, v.h1, v.h2, laid v.f k m (subL L (o - ob) m), ((k + t : Nat) : Int)⟩
        have hPE : PEq w (writeV v ((subL L (o - ob) m).take t)) := by
          rw [hwk]
          exact ⟨rfl, hlay⟩
        have hend : wrEnd (writeV v (subL L (o - ob) m)) = wrEnd (writeV w (subL L (o' - ob) (m - t))) := by
          rw [hsplit, ho'.2.2]
          have := PEq.write ((subL L (o - ob) m).drop t) hPE ⟨by show (0 : Int) ≤ ((k + t : Nat) : Int); omega, by show ((k + t : Nat) : Int) < 16; omega⟩
          unfold wrEnd polyBlk
          rw [polyC_congr this]
        have hgo := ih (m - t) w (k + t) o' (c - t) (by omega) (by omega) rfl ⟨hin.r0, hin.r1, hin.h0, hin.h1, hin.h2⟩ (by omega) ho'.1 ho'.2.1
        rw [hend]
        refine .step (wr_code v k hk _ _ _ _ _ _ (.nrm, wrSt (polyCn ⟨v.r0, v.r1, v.s0, v.s1, v.h0, v.h1, v.h2, laid v.f k m (subL L (o - ob) m), 0⟩ (.sym ((k + t : Nat) : Int))) o' (m - t) (c - t) ob L z) ?_) (hgo.le (wrSt_rel (polyCn_rel w (.lit ((k + t : Nat) : Int)) (.sym ((k + t : Nat) : Int)) rfl) _ _ _ _ _ _) (.refl _))
        refine ⟨fun _ => needs_res hall ?_, fun h => absurd h (by simp; omega)⟩
        rw [htdef, e1, Int.toNat_natCast]
        refine ⟨fun h => absurd (eq_of_beq h) (by omega), fun _ => rfl⟩

end Go.LE

/- poly.Write: its contract. -/
namespace Go.LE
open Go.Proofs.Try

structure WrP where
  v : PolyV
  o : Nat
  m : Nat
  c : Nat
  ob : Nat
  L : List Int
  z : Bool

def wrGet (st : St) : Option WrP :=
  match st.sl.get 0, st.sl.get 1, st.hp.get 0, st.hp.get 1 with
  | some (.ptr 0 (.lit 0)), some (.slice 1 o m (some c)), some ⟨true, false, false, _, .cells l⟩, some ⟨false, true, z, none, .seg ob .u8 L⟩ => match polyOf l, Nat.beq 48 st.nsl, Nat.beq 2 st.nid with
    | some v, true, true => o.on fun o => m.on fun m => c.on fun c => ob.on fun ob => some ⟨v, o, m, c, ob, L, z⟩
    | _, _, _ => none
  | _, _, _, _ => none

theorem relC_ble' {l r : List LVal} (h : RelC l r) (o a z : Bool) (s : Option NN) : BlkLe ⟨o, a, z, none, .cells l⟩ ⟨o, a, z, s, .cells r⟩ :=
  ⟨rfl, rfl, fun _ h => (by cases h), fun i v hv => by
    obtain ⟨u, h1, h2⟩ := RelC.get h i v hv
    exact ⟨u, h1, fun ρ => (h2 ρ ρ).symm⟩⟩

theorem wrGet_ok (st : St) (p : WrP) (h : wrGet st = some p) : StLe (wrSt (polyC p.v) p.o p.m p.c p.ob p.L p.z) st := by
  unfold wrGet at h
  split at h <;> try (cases h; done)
  split at h <;> try (cases h; done)
  rename_i hv hs hd
  simp only [NN.on_v] at h
  obtain rfl := Option.some.inj h
  refine mkSt_le (Nat.le_of_eq (Nat.eq_of_beq_eq_true hs)) (Nat.eq_of_beq_eq_true hd) ?_ ?_
  · simp only [List.forall_mem_cons]
    refine ⟨?_, ?_, fun _ h => by cases h⟩ <;> (refine ⟨_, by assumption, ?_⟩; exact fun _ => rfl)
  · simp only [List.forall_mem_cons]
    refine ⟨?_, ?_, fun _ h => by cases h⟩ <;> (refine ⟨_, by assumption, ?_⟩; first | exact relC_ble' (polyOf_rel hv) _ _ _ _ | exact seg_ble _ _ _ _ _ _ _)

structure WrPre (p : WrP) : Prop where
  v : PolyIn p.v
  n : 0 ≤ p.v.n ∧ p.v.n < 16
  c : p.m ≤ p.c
  o : p.ob ≤ p.o
  L : p.o - p.ob + p.m ≤ p.L.length

def wrOut (p : WrP) : LX × St := (.ex 0, wrEnd (writeV p.v (subL p.L (p.o - p.ob) p.m)))

theorem wr_res (p : WrP) (h : WrPre p) : CodeRes prog (.loop (loopB 1 f128)) (wrSt (polyC p.v) p.o p.m p.c p.ob p.L p.z) (wrOut p) := by
  have := (wr_loop p.ob p.L p.z p.m p.m p.v p.v.n.toNat p.o p.c (Nat.le_refl _) (by have := h.n; omega) (by have := h.n; omega) h.v h.c h.o h.L).code
  rw [Int.toNat_of_nonneg h.n.1] at this
  exact this.le (wrSt_rel (polyCn_rel p.v (.lit p.v.n) (.sym p.v.n) rfl) _ _ _ _ _ _) (.refl _)

noncomputable def wr_lp : Nat × Code × (St → Tree (LX × St)) := (1, .loop (loopB 1 f128), sumUp wrGet WrPre wrOut)

theorem wr_lp_ok : ∀ st r, (sumUp wrGet WrPre wrOut st).res r → CodeRes prog (.loop (loopB 1 f128)) st r := fun _ _ => sumUp_ok wrGet_ok wr_res

noncomputable def wfEnv : EnvX := env [] [] [wr_lp]
theorem wfEnv_ok : EnvOk prog wfEnv := env_ok allNil allNil
theorem wfEnv_lps : LpsOk prog wfEnv := lps_cons wr_lp_ok env_noLps

/-- As far as 16 bytes go. -/
def cutV16 (v : PolyV) : PolyV := ⟨v.r0, v.r1, v.s0, v.s1, v.h0, v.h1, v.h2, fnL (rangeF v.f 0 16), v.n⟩

theorem cut_peq (v : PolyV) : PEq (cutV16 v) v := ⟨rfl, fun j hj => rangeF_getD v.f hj⟩

theorem write_eval (v : PolyV) (o m c : Nat) (L : List Int) (z : Bool) : keepR [0] (evalFn wfEnv (leval wfEnv 1000) f128 [.ptr 0 (.lit 0), .slice 1 (.sym o) (.sym m) (some (.sym c))] ⟨.leaf, 0, (Trie.put .leaf 1 (segBlk .u8 o L z)).put 0 (polyBlk v), 2⟩) =
    needs [Code.loop (loopB 1 f128) = .loop (loopB 1 f128), WrPre ⟨cutV16 v, o, m, c, o, L, z⟩] (.done (.tup [], ⟨.leaf, 0, Trie.put .leaf 0 (polyBlk (writeV (cutV16 v) (subL L (o - o) m))), 2⟩)) := by
  kernel_rfl

def writeS (args : List LVal) (blks : List Blk) : Tree OrcRes :=
  match args, blks with
  | [.ptr 0 (.lit 0), s], [⟨true, nils, false, sz, .cells l⟩, b] => match polyOf l with
    | some v => (argL .u8 [⟨true, nils, false, sz, .cells l⟩, b] s).bind fun p => match p with
      | (1, L) => .need (PolyIn v ∧ 0 ≤ v.n ∧ v.n < 16) (.done ⟨.tup [], [(0, polyBlk (writeV v L))], 0⟩)
      | _ => .fail 316
    | none => .fail 317
  | _, _ => .fail 318

theorem write_spec : SpecOk wfEnv f128 writeS := by
  refine specOk_of fun args blks r h Cf hnil hw => ?_
  unfold writeS at h
  split at h
  · rename_i s nils sz l b
    split at h
    · rename_i v hv
      obtain ⟨⟨id, L⟩, hp, h⟩ := Tree.res_bind h
      obtain ⟨ρ1, vs, hc1, hd1⟩ := hw
      obtain ⟨x1, r1, _, h1, _⟩ := denL_cons hd1
      obtain ⟨x, r2, hx, _, _⟩ := denL_cons h1
      obtain ⟨b', o, c, hA⟩ := argL_norm hp hnil hc1 hx
      split at h
      · rename_i L' heq
        obtain ⟨rfl, rfl⟩ := Prod.mk.inj heq
        obtain ⟨⟨g1, g2⟩, h⟩ := h
        obtain rfl := Tree.res_done.1 h
        have hb : b' = b := by
          have := hA.blk
          simp only [List.getElem?_cons_succ, List.getElem?_cons_zero, Option.some.injEq] at this
          exact this.symm
        subst hb
        have eS : subL L (o - o) L.length = L := by simp [subL]
        refine ⟨1000, [.ptr 0 (.lit 0), .slice 1 (.sym o) (.sym L.length) (some (.sym c))], ⟨.leaf, 0, (Trie.put .leaf 1 (segBlk .u8 o L b'.nil)).put 0 (polyBlk v), 2⟩, (.tup [], ⟨.leaf, 0, Trie.put .leaf 0 (polyBlk (writeV (cutV16 v) (subL L (o - o) L.length))), 2⟩), [0], ?_, rfl, rfl, ?_, ?_, fun ρ x hx => hx, fun p hp => ?_⟩
        · constructor
          rw [write_eval]
          exact ⟨rfl, ⟨⟨g1.r0, g1.r1, g1.h0, g1.h1, g1.h2⟩, g2, hA.cap, Nat.le_refl _, by show o - o + L.length ≤ L.length; omega⟩, rfl⟩
        · intro ρ hρ
          simp only [denL]
          rw [hA.den ρ hρ]
        · intro k b2 hk
          rw [Trie.get_put, Trie.get_put] at hk
          split at hk
          · rename_i e
            subst e
            obtain rfl := Option.some.inj hk
            exact ⟨_, rfl, cells_less (polyOf_rel hv) true false false nils sz, fun _ => rfl⟩
          · split at hk
            · rename_i e
              subst e
              obtain rfl := Option.some.inj hk
              exact ⟨b', rfl, hA.less, fun h => (by cases h)⟩
            · rw [Trie.get_leaf] at hk; cases hk
        · rw [List.mem_singleton.1 hp]
          refine ⟨_, by rw [Trie.get_put, if_pos rfl], ?_, fun _ => rfl⟩
          have : polyBlk (writeV v L) = polyBlk (writeV (cutV16 v) (subL L (o - o) L.length)) := by
            rw [eS]
            unfold polyBlk
            rw [polyC_congr (PEq.write L (cut_peq v) g2)]
          rw [this]
          exact polyBlk_refl _
      · exact h.elim
    · exact h.elim
  · exact h.elim

noncomputable def write_po : Nat × Orc := (128, canOrc writeS)
theorem write_po_ok : Enters prog write_po.1 ∧ OrcOk prog write_po.1 write_po.2 := ⟨e_poly_Poly_Write_ok.1, canOrc_ok wfEnv_ok wfEnv_lps e_poly_Poly_Write_ok.2 write_spec⟩

end Go.LE

/- poly.New, poly.Sum: their contracts. -/
namespace Go.LE
open Go.Proofs.Try

/-- Nothing is taken in yet. -/
def newV (k : Nat → Int) : PolyV := ⟨iAnd .u64 (num8 k 0) 1152921487695413247, iAnd .u64 (num8 k 8) 1152921487695413244, num8 k 16, num8 k 24, 0, 0, 0, fun _ => 0, 0⟩

theorem newV_in (k : Nat → Int) : PolyIn (newV k) ∧ U64 (newV k).s0 ∧ U64 (newV k).s1 ∧ (newV k).n = 0 :=
  ⟨⟨u64_in _, u64_in _, ⟨Int.le_refl 0, by show (0 : Int) < _; omega⟩, ⟨Int.le_refl 0, by show (0 : Int) < _; omega⟩, ⟨Int.le_refl 0, by show (0 : Int) < _; omega⟩⟩, u64_in _, u64_in _, rfl⟩

noncomputable def nwEnv : EnvX := env [e_poly_number] [] []
theorem nwEnv_ok : EnvOk prog nwEnv := env_ok (allCons e_poly_number_ok allNil) allNil

def zeros8 : Nat → List LVal
  | 0 => []
  | n + 1 => .int .u8 (.lit 0) :: zeros8 n

def newCl (k : Nat → Int) : List LVal :=
  .bool false true :: .int .u64 (.sym (iAnd .u64 (num8 k 0) 1152921487695413247)) :: .int .u64 (.sym (iAnd .u64 (num8 k 8) 1152921487695413244)) :: .int .u64 (.sym (num8 k 16)) :: .int .u64 (.sym (num8 k 24)) ::
    .int .u64 (.lit 0) :: .int .u64 (.lit 0) :: .int .u64 (.lit 0) :: (zeros8 16 ++ [.int .i64 (.lit 0)])

theorem new_eval (k : Nat → Int) : keepR [1] (evalFn nwEnv (leval nwEnv 1000) f127 [.agg (arrFrom .u8 k 0 32)] ⟨.leaf, 0, .leaf, 0⟩) =
    .done (.ptr 1 (.lit 0), ⟨.leaf, 0, Trie.put .leaf 1 ⟨true, false, false, some (.lit 25), .cells (newCl k)⟩, 2⟩) := by
  kernel_rfl

def newS (args : List LVal) (blks : List Blk) : Tree OrcRes :=
  match args, blks with
  | [.agg k], [] => match bytesOf 32 k with
    | some K => .done ⟨.ptr 1 (.lit 0), [(1, polyBlk (newV (fnL K)))], 2⟩
    | none => .fail 320
  | _, _ => .fail 321

theorem new_spec : SpecOk nwEnv f127 newS := by
  refine specOk_of fun args blks r h Cf hnil hw => ?_
  unfold newS at h
  split at h
  · rename_i k
    split at h
    · rename_i K hK
      obtain rfl := Tree.res_done.1 h
      refine ⟨1000, [.agg (arrFrom .u8 (fnL K) 0 32)], ⟨.leaf, 0, .leaf, 0⟩, (.ptr 1 (.lit 0), ⟨.leaf, 0, Trie.put .leaf 1 ⟨true, false, false, some (.lit 25), .cells (newCl (fnL K))⟩, 2⟩), [1], ?_, rfl, rfl, ?_, fun k b' hk => ?_, fun ρ x hx => hx, fun p hp => ?_⟩
      · constructor
        rw [new_eval]
        rfl
      · intro ρ _
        simp only [denL]
        rw [bytesOf_den hK]
      · rw [Trie.get_leaf] at hk; cases hk
      · rw [List.mem_singleton.1 hp]
        refine ⟨_, by rw [Trie.get_put, if_pos rfl], cells_less ?_ true false false false (some (.lit 25)), fun _ => rfl⟩
        refine ⟨fun _ _ => rfl, fun _ _ => rfl, fun _ _ => rfl, fun _ _ => rfl, fun _ _ => rfl, fun _ _ => rfl, fun _ _ => rfl, fun _ _ => rfl, RelC.app ?_ ⟨fun _ _ => rfl, trivial⟩⟩
        exact ⟨fun _ _ => rfl, fun _ _ => rfl, fun _ _ => rfl, fun _ _ => rfl, fun _ _ => rfl, fun _ _ => rfl, fun _ _ => rfl, fun _ _ => rfl, fun _ _ => rfl, fun _ _ => rfl, fun _ _ => rfl, fun _ _ => rfl, fun _ _ => rfl, fun _ _ => rfl, fun _ _ => rfl, fun _ _ => rfl, trivial⟩
    · exact h.elim
  · exact h.elim

noncomputable def new_po : Nat × Orc := (127, canOrc newS)
theorem new_po_ok : Enters prog new_po.1 ∧ OrcOk prog new_po.1 new_po.2 := ⟨e_poly_New_ok.1, canOrc_ok nwEnv_ok env_noLps e_poly_New_ok.2 new_spec⟩

/- Sum. -/

def lessT {β : Type} (a b c : Int) (t : Int → Int → Int → Tree β) : Tree β :=
  needs [0 ≤ a, 0 ≤ b, 0 ≤ (a + 5 + 0) / 18446744073709551616, ((a + 5 + 0) / 18446744073709551616).toNat ≤ 1]
    (.ite (decide (IntKind.u64.wrap (c + (b + 0 + (a + 5 + 0) / 18446744073709551616) / 18446744073709551616) ≥ 4))
      (t ((a + 5 + 0) % 18446744073709551616) ((b + 0 + (a + 5 + 0) / 18446744073709551616) % 18446744073709551616) (IntKind.u64.wrap (IntKind.u64.wrap (c + (b + 0 + (a + 5 + 0) / 18446744073709551616) / 18446744073709551616) - 4)))
      (t a b c))

/-- A byte of the tag out of its two halves. -/
def halfB (lo hi : Int) (j : Nat) : Int := if j < 8 then IntKind.u8.wrap (iShr .u64 lo (8 * j)) else IntKind.u8.wrap (iShr .u64 hi (8 * (j - 8)))

def outT (a b s0 s1 : Int) : Tree (LVal × St) :=
  needs [0 ≤ a, 0 ≤ s0, 0 ≤ b, 0 ≤ s1, 0 ≤ (a + s0 + 0) / 18446744073709551616, ((a + s0 + 0) / 18446744073709551616).toNat ≤ 1]
    (.done (.agg (arrFrom .u8 (halfB ((a + s0 + 0) % 18446744073709551616) ((b + s1 + (a + s0 + 0) / 18446744073709551616) % 18446744073709551616)) 0 16), ⟨.leaf, 0, .leaf, 3⟩))

def roBlk (l : List LVal) : Blk := ⟨false, false, false, none, .cells l⟩

theorem sum_eval (v : PolyV) : keepR [] (evalFn xrEnv (leval xrEnv 2000) f129 [.ptr 0 (.lit 0)] ⟨.leaf, 0, Trie.put .leaf 0 (roBlk (polyCn v (.lit 0))), 1⟩) =
    lessT v.h0 v.h1 v.h2 fun a b c => lessT a b c fun a b _ => outT a b v.s0 v.s1 := by
  kernel_rfl

/-- One subtraction of 2^130 - 5, where it fits. -/
def less1 (p : Int × Int × Int) : Int × Int × Int :=
  if IntKind.u64.wrap (p.2.2 + (p.2.1 + 0 + (p.1 + 5 + 0) / 18446744073709551616) / 18446744073709551616) ≥ 4 then
    ((p.1 + 5 + 0) % 18446744073709551616, (p.2.1 + 0 + (p.1 + 5 + 0) / 18446744073709551616) % 18446744073709551616, IntKind.u64.wrap (IntKind.u64.wrap (p.2.2 + (p.2.1 + 0 + (p.1 + 5 + 0) / 18446744073709551616) / 18446744073709551616) - 4))
  else p

theorem less1_in {a b c : Int} (ha : U64 a) (hb : U64 b) : U64 (less1 (a, b, c)).1 ∧ U64 (less1 (a, b, c)).2.1 := by
  unfold less1
  split
  · exact ⟨mod_in _, mod_in _⟩
  · exact ⟨ha, hb⟩

theorem lessT_res {β : Type} {a b c : Int} {t : Int → Int → Int → Tree β} {x : β} (ha : U64 a) (hb : U64 b) (h : (t (less1 (a, b, c)).1 (less1 (a, b, c)).2.1 (less1 (a, b, c)).2.2).res x) : (lessT a b c t).res x := by
  obtain ⟨a0, a1⟩ := ha
  refine needs_res (cons_all a0 (cons_all hb.1 (cons_all (by omega) (cons_all (by omega) nil_all)))) ?_
  unfold less1 at h
  simp only at h
  refine ⟨fun hc => ?_, fun hc => ?_⟩
  · rw [if_pos (of_decide_eq_true hc)] at h
    exact h
  · rw [if_neg (of_decide_eq_false hc)] at h
    exact h

/-- The tag of what was taken in. -/
def sumB (v : PolyV) : Nat → Int :=
  let p := less1 (less1 (v.h0, v.h1, v.h2))
  halfB ((p.1 + v.s0 + 0) % 18446744073709551616) ((p.2.1 + v.s1 + (p.1 + v.s0 + 0) / 18446744073709551616) % 18446744073709551616)

theorem sum_res {v : PolyV} (h : PolyIn v) (h0 : U64 v.s0) (h1 : U64 v.s1) : Ok (keepR [] (evalFn xrEnv (leval xrEnv 2000) f129 [.ptr 0 (.lit 0)] ⟨.leaf, 0, Trie.put .leaf 0 (roBlk (polyCn v (.lit 0))), 1⟩)) (.agg (arrFrom .u8 (sumB v) 0 16), ⟨.leaf, 0, .leaf, 3⟩) := by
  constructor
  rw [sum_eval]
  have i1 := less1_in (c := v.h2) h.h0 h.h1
  have i2 := less1_in (c := (less1 (v.h0, v.h1, v.h2)).2.2) i1.1 i1.2
  refine lessT_res h.h0 h.h1 (lessT_res i1.1 i1.2 ?_)
  obtain ⟨⟨a0, a1⟩, ⟨b0, b1⟩⟩ := i2
  obtain ⟨c0, c1⟩ := h0
  exact needs_res (cons_all a0 (cons_all c0 (cons_all b0 (cons_all h1.1 (cons_all (by omega) (cons_all (by omega) nil_all)))))) (Tree.res_done.2 rfl)

def sumS (args : List LVal) (blks : List Blk) : Tree OrcRes :=
  match args, blks with
  | [.ptr 0 (.lit 0)], [⟨_, _, false, _, .cells l⟩] => match polyOf l with
    | some v => .need (PolyIn v ∧ U64 v.s0 ∧ U64 v.s1 ∧ v.n = 0) (.done ⟨.agg (arrFrom .u8 (sumB v) 0 16), [], 2⟩)
    | none => .fail 322
  | _, _ => .fail 323

theorem RelC.trans : ∀ {a b c : List LVal}, RelC a b → RelC b c → RelC a c
  | [], [], [], _, _ => trivial
  | _ :: _, _ :: _, _ :: _, h, k => ⟨fun ρ ρ' => (h.1 ρ ρ).trans (k.1 ρ ρ'), RelC.trans h.2 k.2⟩
  | [], [], _ :: _, _, h => h.elim
  | [], _ :: _, _, h, _ => h.elim
  | _ :: _, [], _, h, _ => h.elim
  | _ :: _, _ :: _, [], _, h => h.elim

theorem sum_spec : SpecOk xrEnv f129 sumS := by
  refine specOk_of fun args blks r h Cf hnil hw => ?_
  unfold sumS at h
  split at h
  · rename_i ow nils sz l
    split at h
    · rename_i v hv
      obtain ⟨⟨g1, g2, g3, g4⟩, h⟩ := h
      obtain rfl := Tree.res_done.1 h
      refine ⟨2000, [.ptr 0 (.lit 0)], ⟨.leaf, 0, Trie.put .leaf 0 (roBlk (polyCn v (.lit 0))), 1⟩, (.agg (arrFrom .u8 (sumB v) 0 16), ⟨.leaf, 0, .leaf, 3⟩), [], sum_res g1 g2 g3, rfl, rfl, fun ρ _ => rfl, fun k b' hk => ?_, fun ρ x hx => hx, fun p hp => by cases hp⟩
      rw [Trie.get_put] at hk
      split at hk
      · rename_i e
        subst e
        obtain rfl := Option.some.inj hk
        refine ⟨_, rfl, ⟨rfl, fun h => (by cases h), fun s hs => (by cases hs), fun i u hu => RelC.get ((polyCn_rel v (.lit 0) (.sym v.n) g4.symm).trans (polyOf_rel hv)) i u hu⟩, fun h => (by cases h)⟩
      · rw [Trie.get_leaf] at hk; cases hk
    · exact h.elim
  · exact h.elim

noncomputable def sum_po : Nat × Orc := (129, canOrc sumS)
theorem sum_po_ok : Enters prog sum_po.1 ∧ OrcOk prog sum_po.1 sum_po.2 := ⟨e_poly_Poly_Sum_ok.1, canOrc_ok xrEnv_ok env_noLps e_poly_Poly_Sum_ok.2 sum_spec⟩

end Go.LE

/- aead.tag: what it comes to, and its contract. -/
namespace Go.LE
open Go.Proofs.Try

def wT {β : Type} (v : PolyV) (L : List Int) (t : PolyV → Tree β) : Tree β := .need (PolyIn (cutV16 v) ∧ 0 ≤ (cutV16 v).n ∧ (cutV16 v).n < 16) (t (writeV (cutV16 v) L))

/-- How many bytes 0 make a length a multiple of 16. -/
def padN (m : Nat) : Int := iAnd .i64 (IntKind.i64.wrap (0 - (m : Int))) 15

def padT {β : Type} (m : Nat) (v : PolyV) (t : PolyV → Tree β) : Tree β :=
  needs [0 ≤ padN m, 0 ≤ padN m, (padN m).toNat ≤ (padN m).toNat, (padN m).toNat * 1 ≤ 140737488355328, (padN m).toNat ≤ (padN m).toNat, 0 + (padN m).toNat ≤ (List.replicate (padN m).toNat (0 : Int)).length]
    (wT v (subL (List.replicate (padN m).toNat 0) 0 (padN m).toNat) t)

/-- A length in 8 bytes. -/
def lenB (m : Nat) (j : Nat) : Int := IntKind.u8.wrap (iShr .i64 (m : Int) (8 * j))

def lens (a b : Nat) : List Int := rangeF (lenB a) 0 8 ++ rangeF (lenB b) 0 8

/-- The key of once, out of the first block. -/
def onceK (k c : Nat → Int) : Nat → Int := blockB k 0 c

noncomputable def tgEnv : EnvX := env [] [block_orc, new_po, write_po, sum_po] []
theorem tgEnv_ok : EnvOk prog tgEnv := env_ok allNil (allCons block_orc_ok (allCons new_po_ok (allCons write_po_ok (allCons sum_po_ok allNil))))

theorem tag_eval (k c : Nat → Int) (oa ma ca : Nat) (A : List Int) (za : Bool) (ob mb cb : Nat) (B : List Int) (zb : Bool) : keepR [] (evalFn tgEnv (leval tgEnv 1000) f97 [.agg (arrFrom .u8 k 0 32), .agg (arrFrom .u8 c 0 12), .slice 0 (.sym oa) (.sym ma) (some (.sym ca)), .slice 1 (.sym ob) (.sym mb) (some (.sym cb))]
    ⟨.leaf, 0, (Trie.put .leaf 1 (segBlk .u8 ob B zb)).put 0 (segBlk .u8 oa A za), 2⟩) =
    needs [ma ≤ ca, oa ≤ oa ∧ oa - oa + ma ≤ A.length] (wT (newV (fnL (rangeF (onceK (fnL (rangeF k 0 32)) (fnL (rangeF c 0 12))) 0 32))) (subL A (oa - oa) ma) fun v => padT ma v fun v =>
      needs [mb ≤ cb, ob ≤ ob ∧ ob - ob + mb ≤ B.length] (wT v (subL B (ob - ob) mb) fun v => padT mb v fun v => wT v (lens ma mb) fun v =>
        .need (PolyIn (cutV16 v) ∧ U64 (cutV16 v).s0 ∧ U64 (cutV16 v).s1 ∧ (cutV16 v).n = 0) (.done (.agg (arrFrom .u8 (sumB (cutV16 v)) 0 16), ⟨.leaf, 0, .leaf, 14⟩)))) := by
  kernel_rfl

theorem iAnd15 (x : Int) : iAnd .i64 x 15 = x % 16 := by
  have h1 : ((BitVec.ofInt 64 x) &&& BitVec.ofInt 64 15).toNat = (x % 16).toNat := by
    rw [BitVec.toNat_and, BitVec.toNat_ofInt, BitVec.toNat_ofInt]
    have : ((15 : Int) % ((2 ^ 64 : Nat) : Int)).toNat = 2 ^ 4 - 1 := by decide
    rw [this, Nat.and_two_pow_sub_one_eq_mod]
    omega
  show IntKind.i64.wrap ((((BitVec.ofInt 64 x) &&& BitVec.ofInt 64 15).toNat : Nat) : Int) = _
  rw [h1, i64_small (by omega) (by omega)]
  omega

theorem padN_eq {m : Nat} (h : m < 9223372036854775808) : padN m = (((16 - m % 16) % 16 : Nat) : Int) := by
  unfold padN
  rw [i64_small (by omega) (by omega), iAnd15]
  omega

def padZ (m : Nat) : List Int := List.replicate ((16 - m % 16) % 16) 0

theorem padZ_length (m : Nat) : (padZ m).length = (16 - m % 16) % 16 := by simp [padZ]

/-- The bytes of which a tag is made. -/
def tagMsg (A B : List Int) : List Int := A ++ (padZ A.length ++ (B ++ (padZ B.length ++ lens A.length B.length)))

/-- A tag's bytes. -/
def tagB (k c : Nat → Int) (A B : List Int) : Nat → Int := sumB (writeV (newV (onceK k c)) (tagMsg A B))

theorem cut_in {v : PolyV} (h : PolyIn v) : PolyIn (cutV16 v) := ⟨h.r0, h.r1, h.h0, h.h1, h.h2⟩

theorem wT_res {β : Type} {v : PolyV} {L : List Int} {t : PolyV → Tree β} {x : β} (h : PolyIn v) (hn : 0 ≤ v.n ∧ v.n < 16) (ht : (t (writeV (cutV16 v) L)).res x) : (wT v L t).res x := ⟨⟨cut_in h, hn.1, hn.2⟩, ht⟩

/-- What stands for what was taken in so far. -/
structure Went (v w : PolyV) (n : Int) : Prop where
  eq : PEq v w
  inp : PolyIn v
  cnt : v.n = n
  lt : 0 ≤ n ∧ n < 16

theorem Went.write {v w : PolyV} {n : Int} (h : Went v w n) (L : List Int) : Went (writeV (cutV16 v) L) (writeV w L) ((n + L.length) % 16) := by
  have hc : PEq (cutV16 v) w := by
    refine ⟨?_, fun j hj => ?_⟩
    · have := h.eq.1
      show (⟨v.r0, v.r1, v.s0, v.s1, v.h0, v.h1, v.h2, fnL (rangeF v.f 0 16), v.n⟩ : PolyV) = _
      rw [this]
      rfl
    · show (rangeF v.f 0 16).getD j 0 = _
      rw [rangeF_getD _ hj]
      exact h.eq.2 j hj
  have hn : (cutV16 v).n = n := h.cnt
  refine ⟨PEq.write L hc (by rw [hn]; exact h.lt), writeV_in L (cut_in h.inp), ?_, ⟨by omega, by omega⟩⟩
  rw [writeV_n L (by rw [hn]; exact h.lt), hn]

theorem padT_res {β : Type} {m : Nat} {v w : PolyV} {n : Int} {t : PolyV → Tree β} {x : β} (hm : m < 1000000000) (h : Went v w n) (ht : (t (writeV (cutV16 v) (padZ m))).res x) : (padT m v t).res x := by
  have e := padN_eq (m := m) (by omega)
  unfold padT
  rw [e, Int.toNat_natCast]
  refine needs_res (cons_all (by omega) (cons_all (by omega) (cons_all (Nat.le_refl _) (cons_all (by omega) (cons_all (Nat.le_refl _) (cons_all (by simp) nil_all)))))) (wT_res h.inp (by rw [h.cnt]; exact h.lt) ?_)
  have e2 : subL (List.replicate ((16 - m % 16) % 16) (0 : Int)) 0 ((16 - m % 16) % 16) = padZ m := by
    unfold subL padZ
    rw [List.drop_zero, List.take_of_length_le (by simp)]
  rw [e2]
  exact ht

theorem writeV_s : ∀ (L : List Int) (v : PolyV), (writeV v L).s0 = v.s0 ∧ (writeV v L).s1 = v.s1
  | [], _ => ⟨rfl, rfl⟩
  | b :: L, v => by
    have h := writeV_s L (push v b)
    have h2 : (push v b).s0 = v.s0 ∧ (push v b).s1 = v.s1 := by
      unfold push
      split <;> exact ⟨rfl, rfl⟩
    exact ⟨h.1.trans h2.1, h.2.trans h2.2⟩

theorem newV_congr {k k' : Nat → Int} (h : ∀ i, i < 32 → k i = k' i) : newV k = newV k' := by
  unfold newV
  rw [num8_congr (f := k) (g := k') (o := 0) fun j _ hj => h j (by omega), num8_congr (f := k) (g := k') (o := 8) fun j _ hj => h j (by omega), num8_congr (f := k) (g := k') (o := 16) fun j _ hj => h j (by omega), num8_congr (f := k) (g := k') (o := 24) fun j _ hj => h j (by omega)]

theorem sumB_congr {v w : PolyV} (h : PEq v w) : sumB v = sumB w := by
  rw [h.1]; rfl

theorem lens_length (a b : Nat) : (lens a b).length = 16 := by simp [lens, rangeF_length]

theorem tag_res (k c : Nat → Int) (oa ca : Nat) (A : List Int) (za : Bool) (ob cb : Nat) (B : List Int) (zb : Bool) (hA : A.length ≤ ca) (hB : B.length ≤ cb) (lA : A.length < 1000000000) (lB : B.length < 1000000000) :
    Ok (keepR [] (evalFn tgEnv (leval tgEnv 1000) f97 [.agg (arrFrom .u8 k 0 32), .agg (arrFrom .u8 c 0 12), .slice 0 (.sym oa) (.sym A.length) (some (.sym ca)), .slice 1 (.sym ob) (.sym B.length) (some (.sym cb))]
      ⟨.leaf, 0, (Trie.put .leaf 1 (segBlk .u8 ob B zb)).put 0 (segBlk .u8 oa A za), 2⟩)) (.agg (arrFrom .u8 (tagB k c A B) 0 16), ⟨.leaf, 0, .leaf, 14⟩) := by
  constructor
  rw [tag_eval]
  have e1 : onceK (fnL (rangeF k 0 32)) (fnL (rangeF c 0 12)) = onceK k c := blockB_congr 0 (fun i hi => rangeF_getD k hi) fun i hi => rangeF_getD c hi
  have e2 : newV (fnL (rangeF (onceK k c) 0 32)) = newV (onceK k c) := newV_congr fun i hi => rangeF_getD _ hi
  rw [e1, e2]
  have eA : subL A (oa - oa) A.length = A := by simp [subL]
  have eB : subL B (ob - ob) B.length = B := by simp [subL]
  rw [eA, eB]
  obtain ⟨n1, n2, n3, n4⟩ := newV_in (onceK k c)
  have w0 : Went (newV (onceK k c)) (newV (onceK k c)) 0 := ⟨.refl _, n1, n4, ⟨Int.le_refl 0, by omega⟩⟩
  have w1 := w0.write A
  have w2 := w1.write (padZ A.length)
  have w3 := w2.write B
  have w4 := w3.write (padZ B.length)
  have w5 := w4.write (lens A.length B.length)
  have hmsg : writeV (writeV (writeV (writeV (writeV (newV (onceK k c)) A) (padZ A.length)) B) (padZ B.length)) (lens A.length B.length) = writeV (newV (onceK k c)) (tagMsg A B) := by
    unfold tagMsg
    rw [writeV_app, writeV_app, writeV_app, writeV_app]
  rw [hmsg] at w5
  refine needs_res (cons_all hA (cons_all ⟨Nat.le_refl _, by omega⟩ nil_all)) (wT_res n1 (by rw [n4]; omega) (padT_res lA w1 (needs_res (cons_all hB (cons_all ⟨Nat.le_refl _, by omega⟩ nil_all))
    (wT_res w2.inp (by rw [w2.cnt]; exact w2.lt) (padT_res lB w3 (wT_res w4.inp (by rw [w4.cnt]; exact w4.lt) ?_))))))
  refine ⟨⟨cut_in w5.inp, ?_, ?_, ?_⟩, ?_⟩
  · have := (writeV_s (tagMsg A B) (newV (onceK k c))).1
    have h5 := w5.eq.1
    show U64 (PolyV.s0 _)
    rw [h5]
    show U64 (writeV (newV (onceK k c)) (tagMsg A B)).s0
    rw [this]; exact n2
  · have := (writeV_s (tagMsg A B) (newV (onceK k c))).2
    have h5 := w5.eq.1
    show U64 (PolyV.s1 _)
    rw [h5]
    show U64 (writeV (newV (onceK k c)) (tagMsg A B)).s1
    rw [this]; exact n3
  · refine Eq.trans (show (cutV16 _).n = _ from w5.cnt) ?_
    rw [padZ_length, padZ_length, lens_length]
    omega
  · refine Tree.res_done.2 ?_
    have : sumB (writeV (cutV16 (writeV (cutV16 (writeV (cutV16 (writeV (cutV16 (writeV (cutV16 (newV (onceK k c))) A)) (padZ A.length))) B)) (padZ B.length))) (lens A.length B.length)) = tagB k c A B := sumB_congr w5.eq
    rw [← this]
    rfl

def tagS (args : List LVal) (blks : List Blk) : Tree OrcRes :=
  match args with
  | [.agg k, .agg c, s1, s2] => match bytesOf 32 k, bytesOf 12 c, blks with
    | some K, some C, [b1, b2] => (argL .u8 [b1, b2] s1).bind fun p1 => (argL .u8 [b1, b2] s2).bind fun p2 => match p1, p2 with
      | (0, A), (1, B) => .need (A.length < 1000000000) (.need (B.length < 1000000000) (.done ⟨.agg (arrFrom .u8 (tagB (fnL K) (fnL C) A B) 0 16), [], 12⟩))
      | _, _ => .fail 330
    | _, _, _ => .fail 331
  | _ => .fail 332

/-- A canonical state of two slices. -/
theorem two_st {b1 b2 : Blk} {Cf : Nat → Option Nat} {s1 s2 : LVal} {A B : List Int} {o1 c1 o2 c2 : Nat} (h1 : ArgOk .u8 [b1, b2] Cf s1 0 A b1 o1 c1) (h2 : ArgOk .u8 [b1, b2] Cf s2 1 B b2 o2 c2) {wr : List (Nat × Blk)} : ∀ k b', ((Trie.put .leaf 1 (segBlk .u8 o2 B b2.nil)).put 0 (segBlk .u8 o1 A b1.nil) : Trie Blk).get k = some b' →
    ∃ b, [b1, b2][k]? = some b ∧ LessBlk b' b ∧ (b'.own = true → hasKey k wr = true) := fun k b' hk => by
  rw [Trie.get_put, Trie.get_put] at hk
  split at hk
  · rename_i e
    subst e
    obtain rfl := Option.some.inj hk
    exact ⟨b1, rfl, h1.less, fun h => (by cases h)⟩
  · split at hk
    · rename_i e
      subst e
      obtain rfl := Option.some.inj hk
      exact ⟨b2, rfl, h2.less, fun h => (by cases h)⟩
    · rw [Trie.get_leaf] at hk; cases hk

theorem tag_spec : SpecOk tgEnv f97 tagS := by
  refine specOk_of fun args blks r h Cf hnil hw => ?_
  unfold tagS at h
  split at h
  · rename_i k c s1 s2
    split at h
    · rename_i K C b1 b2 hK hC
      obtain ⟨⟨i1, A⟩, hp1, h⟩ := Tree.res_bind h
      obtain ⟨⟨i2, B⟩, hp2, h⟩ := Tree.res_bind h
      obtain ⟨ρ1, vs, hc1, hd1⟩ := hw
      obtain ⟨_, r1, _, h1, _⟩ := denL_cons hd1
      obtain ⟨_, r2, _, h2, _⟩ := denL_cons h1
      obtain ⟨x1, r3, hx1, h3, _⟩ := denL_cons h2
      obtain ⟨x2, r4, hx2, _, _⟩ := denL_cons h3
      obtain ⟨b1', o1, c1, hA⟩ := argL_norm hp1 hnil hc1 hx1
      obtain ⟨b2', o2, c2, hB⟩ := argL_norm hp2 hnil hc1 hx2
      split at h
      · rename_i heq1 heq2
        obtain ⟨rfl, rfl⟩ := Prod.mk.inj heq1
        obtain ⟨rfl, rfl⟩ := Prod.mk.inj heq2
        obtain ⟨lA, h⟩ := h
        obtain ⟨lB, h⟩ := h
        obtain rfl := Tree.res_done.1 h
        have hb1 : b1' = b1 := (Option.some.inj hA.blk).symm
        have hb2 : b2' = b2 := (Option.some.inj hB.blk).symm
        subst hb1 hb2
        exact ⟨1000, [.agg (arrFrom .u8 (fnL K) 0 32), .agg (arrFrom .u8 (fnL C) 0 12), .slice 0 (.sym o1) (.sym A.length) (some (.sym c1)), .slice 1 (.sym o2) (.sym B.length) (some (.sym c2))], ⟨.leaf, 0, (Trie.put .leaf 1 (segBlk .u8 o2 B b2'.nil)).put 0 (segBlk .u8 o1 A b1'.nil), 2⟩,
          (.agg (arrFrom .u8 (tagB (fnL K) (fnL C) A B) 0 16), ⟨.leaf, 0, .leaf, 14⟩), [], tag_res _ _ _ _ _ _ _ _ _ _ hA.cap hB.cap lA lB, rfl, rfl, fun ρ hρ => by
            simp only [denL]
            rw [bytesOf_den hK, bytesOf_den hC, hA.den ρ hρ, hB.den ρ hρ], two_st hA hB, fun ρ x hx => hx, fun p hp => by cases hp⟩
      · exact h.elim
    · exact h.elim
  · exact h.elim

noncomputable def tag_ae : Nat × Orc := (97, canOrc tagS)
theorem tag_ae_ok : Enters prog tag_ae.1 ∧ OrcOk prog tag_ae.1 tag_ae.2 := ⟨e_aead_tag_ok.1, canOrc_ok tgEnv_ok env_noLps e_aead_tag_ok.2 tag_spec⟩

end Go.LE

/- aead.Seal: its contract. -/
namespace Go.LE
open Go.Proofs.Try

noncomputable def aeEnv : EnvX := env [e_poly_Same] [xor_orc, tag_ae] []
theorem aeEnv_ok : EnvOk prog aeEnv := env_ok (allCons e_poly_Same_ok allNil) (allCons xor_orc_ok (allCons tag_ae_ok allNil))

/-- A key's and a nonce's bytes, as a call hands them on. -/
def c32 (k : Nat → Int) : Nat → Int := fnL (rangeF k 0 32)
def c12 (k : Nat → Int) : Nat → Int := fnL (rangeF k 0 12)

def twoSt (oa : Nat) (A : List Int) (za : Bool) (ob : Nat) (B : List Int) (zb : Bool) : St := ⟨.leaf, 0, (Trie.put .leaf 1 (segBlk .u8 ob B zb)).put 0 (segBlk .u8 oa A za), 2⟩

theorem seal_eval (k c : Nat → Int) (oa ma ca : Nat) (A : List Int) (za : Bool) (ob mb cb : Nat) (B : List Int) (zb : Bool) : keepR [20] (evalFn aeEnv (leval aeEnv 1000) f53 [.agg (arrFrom .u8 k 0 32), .agg (arrFrom .u8 c 0 12), .slice 0 (.sym oa) (.sym ma) (some (.sym ca)), .slice 1 (.sym ob) (.sym mb) (some (.sym cb))] (twoSt oa A za ob B zb)) =
    .ite (decide ((ma : Int) > 4096)) (.done (.tup [.nils, .int .i64 (.lit 5)], ⟨.leaf, 0, .leaf, 4⟩))
      (.ite (decide ((mb : Int) > 4096)) (.done (.tup [.nils, .int .i64 (.lit 5)], ⟨.leaf, 0, .leaf, 4⟩))
        (needs [mb ≤ cb, ob ≤ ob ∧ ob - ob + mb ≤ B.length, 0 ≤ (1 : Int) ∧ (1 : Int) ≤ 1000000, (subL B (ob - ob) mb).length ≤ 1000000, ma ≤ ca, oa ≤ oa ∧ oa - oa + ma ≤ A.length, (subL B (ob - ob) mb).length ≤ (subL B (ob - ob) mb).length,
            0 + (subL B (ob - ob) mb).length ≤ (xorL (c32 k) 1 (c12 c) (subL B (ob - ob) mb)).length, (subL A (oa - oa) ma).length < 1000000000, (subL (xorL (c32 k) 1 (c12 c) (subL B (ob - ob) mb)) 0 (subL B (ob - ob) mb).length).length < 1000000000,
            (subL B (ob - ob) mb).length = (subL B (ob - ob) mb).length, 0 + (subL B (ob - ob) mb).length ≤ (xorL (c32 k) 1 (c12 c) (subL B (ob - ob) mb)).length, ((subL B (ob - ob) mb).length + 16) * 1 ≤ 140737488355328]
          (.done (.tup [.slice 20 (.lit 0) (.sym ((subL B (ob - ob) mb).length + 16)) none, .int .i64 (.lit 0)], ⟨.leaf, 0, Trie.put .leaf 20 ⟨true, false, false, none, .ints .u8 (subL (xorL (c32 k) 1 (c12 c) (subL B (ob - ob) mb)) 0 (subL B (ob - ob) mb).length ++
            rangeF (tagB (c32 k) (c12 c) (subL A (oa - oa) ma) (subL (xorL (c32 k) 1 (c12 c) (subL B (ob - ob) mb)) 0 (subL B (ob - ob) mb).length)) 0 16)⟩, 21⟩)))) := by
  kernel_rfl

/-- A box. -/
def sealL (k c : Nat → Int) (A B : List Int) : List Int := xorL k 1 c B ++ rangeF (tagB k c A (xorL k 1 c B)) 0 16

theorem sealL_length (k c : Nat → Int) (A B : List Int) : (sealL k c A B).length = B.length + 16 := by
  simp [sealL, xorL_length, rangeF_length]

theorem tagB_congr {k k' c c' : Nat → Int} (A B : List Int) (h1 : ∀ i, i < 32 → k i = k' i) (h2 : ∀ i, i < 12 → c i = c' i) : tagB k c A B = tagB k' c' A B := by
  unfold tagB onceK
  rw [blockB_congr 0 h1 h2]

theorem xorL_congr {k k' c c' : Nat → Int} (n : Int) (L : List Int) (h1 : ∀ i, i < 32 → k i = k' i) (h2 : ∀ i, i < 12 → c i = c' i) : xorL k n c L = xorL k' n c' L := by
  unfold xorL
  rw [xorB_congr n L h1 h2]

theorem sealL_congr {k k' c c' : Nat → Int} (A B : List Int) (h1 : ∀ i, i < 32 → k i = k' i) (h2 : ∀ i, i < 12 → c i = c' i) : sealL k c A B = sealL k' c' A B := by
  unfold sealL
  rw [xorL_congr 1 B h1 h2, tagB_congr A _ h1 h2]

theorem c32_eq (k : Nat → Int) : ∀ i, i < 32 → c32 k i = k i := fun _ hi => rangeF_getD k hi
theorem c12_eq (k : Nat → Int) : ∀ i, i < 12 → c12 k i = k i := fun _ hi => rangeF_getD k hi

theorem subL_all (L : List Int) (o : Nat) : subL L (o - o) L.length = L := by simp [subL]
theorem subL_all0 {L : List Int} {n : Nat} (h : L.length = n) : subL L 0 n = L := by subst h; simp [subL]

theorem seal_res (k c : Nat → Int) (oa ca : Nat) (A : List Int) (za : Bool) (ob cb : Nat) (B : List Int) (zb : Bool) (hA : A.length ≤ ca) (hB : B.length ≤ cb) (lA : A.length ≤ 4096) (lB : B.length ≤ 4096) :
    Ok (keepR [20] (evalFn aeEnv (leval aeEnv 1000) f53 [.agg (arrFrom .u8 k 0 32), .agg (arrFrom .u8 c 0 12), .slice 0 (.sym oa) (.sym A.length) (some (.sym ca)), .slice 1 (.sym ob) (.sym B.length) (some (.sym cb))] (twoSt oa A za ob B zb)))
      (.tup [.slice 20 (.lit 0) (.sym (B.length + 16)) none, .int .i64 (.lit 0)], ⟨.leaf, 0, Trie.put .leaf 20 ⟨true, false, false, none, .ints .u8 (sealL k c A B)⟩, 21⟩) := by
  constructor
  rw [seal_eval, subL_all, subL_all, subL_all0 (xorL_length _ _ _ _), xorL_congr 1 B (c32_eq k) (c12_eq c), tagB_congr A _ (c32_eq k) (c12_eq c)]
  refine ⟨fun h => absurd (of_decide_eq_true h) (by omega), fun _ => ⟨fun h => absurd (of_decide_eq_true h) (by omega), fun _ => needs_res ?_ (Tree.res_done.2 rfl)⟩⟩
  rw [xorL_length]
  exact cons_all hB (cons_all ⟨Nat.le_refl _, by omega⟩ (cons_all ⟨by omega, by omega⟩ (cons_all (by omega) (cons_all hA (cons_all ⟨Nat.le_refl _, by omega⟩ (cons_all (Nat.le_refl _) (cons_all (by omega) (cons_all (by omega) (cons_all (by omega) (cons_all rfl (cons_all (by omega) (cons_all (by omega) nil_all))))))))))))

theorem seal_err (k c : Nat → Int) (oa ma ca : Nat) (A : List Int) (za : Bool) (ob mb cb : Nat) (B : List Int) (zb : Bool) (h : 4096 < ma ∨ 4096 < mb) :
    Ok (keepR [20] (evalFn aeEnv (leval aeEnv 1000) f53 [.agg (arrFrom .u8 k 0 32), .agg (arrFrom .u8 c 0 12), .slice 0 (.sym oa) (.sym ma) (some (.sym ca)), .slice 1 (.sym ob) (.sym mb) (some (.sym cb))] (twoSt oa A za ob B zb)))
      (.tup [.nils, .int .i64 (.lit 5)], ⟨.leaf, 0, .leaf, 4⟩) := by
  constructor
  rw [seal_eval]
  refine ⟨fun _ => rfl, fun h1 => ⟨fun _ => rfl, fun h2 => ?_⟩⟩
  have := of_decide_eq_false h1
  have := of_decide_eq_false h2
  omega

/-- Two slices' bytes, a key's and a nonce's. -/
def sealGo (args : List LVal) (blks : List Blk) (t : (Nat → Int) → (Nat → Int) → List Int → List Int → Tree OrcRes) : Tree OrcRes :=
  match args with
  | [.agg k, .agg c, s1, s2] => match bytesOf 32 k, bytesOf 12 c, blks with
    | some K, some C, [b1, b2] => (argL .u8 [b1, b2] s1).bind fun p1 => (argL .u8 [b1, b2] s2).bind fun p2 => match p1, p2 with
      | (0, A), (1, B) => t (fnL K) (fnL C) A B
      | _, _ => .fail 340
    | _, _, _ => .fail 341
  | _ => .fail 342

def sealT (k c : Nat → Int) (A B : List Int) : Tree OrcRes := .ite (decide (4096 < A.length) || decide (4096 < B.length)) (.done ⟨.tup [.nils, .int .i64 (.lit 5)], [], 2⟩)
  (.done ⟨.tup [.slice 20 (.lit 0) (.sym (B.length + 16)) none, .int .i64 (.lit 0)], [(20, ⟨true, false, false, none, .ints .u8 (sealL k c A B)⟩)], 19⟩)

def sealS (args : List LVal) (blks : List Blk) : Tree OrcRes := sealGo args blks sealT

theorem seal_spec : SpecOk aeEnv f53 sealS := by
  refine specOk_of fun args blks r h Cf hnil hw => ?_
  unfold sealS sealGo at h
  split at h
  · rename_i k c s1 s2
    split at h
    · rename_i K C b1 b2 hK hC
      obtain ⟨⟨i1, A⟩, hp1, ha⟩ := Tree.res_bind h
      clear h
      obtain ⟨⟨i2, B⟩, hp2, hT⟩ := Tree.res_bind ha
      clear ha
      obtain ⟨ρ1, vs, hc1, hd1⟩ := hw
      obtain ⟨_, r1, _, h1, _⟩ := denL_cons hd1
      obtain ⟨_, r2, _, h2, _⟩ := denL_cons h1
      obtain ⟨x1, r3, hx1, h3, _⟩ := denL_cons h2
      obtain ⟨x2, r4, hx2, _, _⟩ := denL_cons h3
      obtain ⟨b1', o1, c1, hA⟩ := argL_norm hp1 hnil hc1 hx1
      obtain ⟨b2', o2, c2, hB⟩ := argL_norm hp2 hnil hc1 hx2
      split at hT
      · rename_i heq1 heq2
        obtain ⟨rfl, rfl⟩ := Prod.mk.inj heq1
        obtain ⟨rfl, rfl⟩ := Prod.mk.inj heq2
        have hb1 : b1' = b1 := (Option.some.inj hA.blk).symm
        have hb2 : b2' = b2 := (Option.some.inj hB.blk).symm
        subst hb1 hb2
        have hargs : ∀ ρ, Compat ρ Cf [b1', b2'].length → denL ρ [.agg (arrFrom .u8 (fnL K) 0 32), .agg (arrFrom .u8 (fnL C) 0 12), .slice 0 (.sym o1) (.sym A.length) (some (.sym c1)), .slice 1 (.sym o2) (.sym B.length) (some (.sym c2))] = denL ρ [.agg k, .agg c, s1, s2] := fun ρ hρ => by
          simp only [denL]
          rw [bytesOf_den hK, bytesOf_den hC, hA.den ρ hρ, hB.den ρ hρ]
        unfold sealT at hT
        by_cases hl : 4096 < A.length ∨ 4096 < B.length
        · have h := hT.1 (by simp only [Bool.or_eq_true, decide_eq_true_eq]; exact hl)
          obtain rfl := Tree.res_done.1 h
          exact ⟨1000, _, _, _, [20], seal_err (fnL K) (fnL C) o1 A.length c1 A b1'.nil o2 B.length c2 B b2'.nil hl, rfl, rfl, hargs, two_st hA hB, fun ρ x hx => hx, fun p hp => by cases hp⟩
        · have h := hT.2 (by simp only [Bool.or_eq_false_iff, decide_eq_false_iff_not]; omega)
          obtain rfl := Tree.res_done.1 h
          refine ⟨1000, _, _, _, [20], seal_res (fnL K) (fnL C) o1 c1 A b1'.nil o2 c2 B b2'.nil hA.cap hB.cap (by omega) (by omega), rfl, rfl, hargs, two_st hA hB, fun ρ x hx => hx, fun p hp => ?_⟩
          rw [List.mem_singleton.1 hp]
          exact ⟨_, by rw [Trie.get_put, if_pos rfl], .refl_plain ints_plain, fun _ => rfl⟩
      · exact hT.elim
    · exact h.elim
  · exact h.elim

noncomputable def seal_ae : Nat × Orc := (53, canOrc sealS)
theorem seal_ae_ok : Enters prog seal_ae.1 ∧ OrcOk prog seal_ae.1 seal_ae.2 := ⟨e_aead_Seal_ok.1, canOrc_ok aeEnv_ok env_noLps e_aead_Seal_ok.2 seal_spec⟩

end Go.LE
