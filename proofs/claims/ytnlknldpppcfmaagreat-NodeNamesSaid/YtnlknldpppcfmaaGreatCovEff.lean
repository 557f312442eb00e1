/-
  Proved here: operations that turn the abstract store. Conditions: none.
-/
import Derived.Test.YtnlknldpppcfmaaGreatCovVal
import Derived.IntWalk
import Derived.Laws.IdiomStrings

namespace Go.Cov
open Go.RowKit
variable {P : Program} {g : Ghost} {A : Store} {w : World}

def Store.put (A : Store) (id : Nat) (o : AObj) : Store := { A with objs := fun j => if j = id then some o else A.objs j }
def Store.del (A : Store) (id : Nat) : Store := { A with objs := fun j => if j = id then none else A.objs j }
def Store.bump (A : Store) (n : Nat) : Store := { A with next := A.next + n }
def Store.tok (A : Store) (k : Room) : Store := { A with live := fun t => if t = A.ntok then true else if k = .tok t then false else A.live t, ntok := A.ntok + 1 }
def setCells : List AVal → Nat → List AVal → List AVal
  | cs, _, [] => cs
  | cs, off, v :: r => setCells (cs.set off v) (off + 1) r

@[simp] theorem setCells_length (vs : List AVal) : ∀ (cs : List AVal) (off : Nat), (setCells cs off vs).length = cs.length := by
  induction vs with
  | nil => intro cs off; rfl
  | cons v vs ih => intro cs off; simp [setCells, ih]
theorem setCells_get (vs : List AVal) : ∀ (cs : List AVal) (off i : Nat), off + vs.length ≤ cs.length → (setCells cs off vs).getD i .junk = if off ≤ i ∧ i < off + vs.length then vs.getD (i - off) .junk else cs.getD i .junk := by
  induction vs with
  | nil => intro cs off i _; simp [setCells]; intro h1 h2; omega
  | cons v vs ih =>
    intro cs off i h
    simp only [List.length_cons] at h
    simp only [setCells, ih (cs.set off v) (off + 1) i (by simp; omega), List.length_cons]
    by_cases hi : i = off
    · subst hi
      rw [if_neg (by omega), if_pos (by omega)]
      have : i < cs.length := by omega
      simp [List.getD, this]
    · by_cases hr : off + 1 ≤ i ∧ i < off + 1 + vs.length
      · rw [if_pos hr, if_pos (by omega)]
        have e : i - off = (i - (off + 1)) + 1 := by omega
        rw [e, List.getD_cons_succ]
      · rw [if_neg hr, if_neg (by omega)]
        simp only [List.getD, List.getElem?_set]
        rw [if_neg (by omega)]

theorem getD_getElem {cs : List AVal} {i : Nat} (h : i < cs.length) : cs[i] = cs.getD i .junk := by simp [List.getD, List.getElem?_eq_getElem h]

/-! ### Extensions by one operation -/
structure IExt (g : Ghost) (id : Nat) (g' : Ghost) : Prop where
  mu : ∀ j, j ≠ id → g'.mu j = g.mu j
  muid : g.mu id = none ∨ g'.mu id = g.mu id
  io : ∀ b o v, g.io b o = some v → g'.io b o = some v
  tk : ∀ t x, g.tk t = some x → g'.tk t = some x
  pf : ∀ b s, g.pf b = some s → g'.pf b = some s
  dfr : ∀ b t, g.dfr b = some t → g'.dfr b = some t
  w0 : g'.w0 = g.w0
theorem PExt.iext {g g' : Ghost} (h : PExt g g') (id : Nat) : IExt g id g' := ⟨fun _ _ => by rw [h.mu], .inr (by rw [h.mu]), h.io, fun _ _ k => by rw [h.tk]; exact k, fun _ _ k => by rw [h.pf]; exact k, fun _ _ k => by rw [h.dfr]; exact k, h.w0⟩
theorem IExt.ext {g g' : Ghost} {id n : Nat} (h : IExt g id g') (hn : n ≤ id) : g.Ext n g' :=
  ⟨fun j b k => by
    by_cases hj : j = id
    · subst hj
      rcases h.muid with h' | h'
      · rw [h'] at k; cases k
      · rw [h']; exact k
    · rw [h.mu j hj]; exact k, fun j hj => h.mu j (by omega), h.io, h.tk, h.pf, h.dfr, h.w0⟩

/-- A new object. -/
theorem Rel.new {cs : List AVal} {c : Array Value} {id : Nat} (hR : Rel g A w) (hc : RelC g cs c) (hid : g.mu id = none) (hlt : id < A.next) (e : TypeId) :
    ∃ g', IExt g id g' ∧ g'.mu id = some w.heap.size ∧ Rel g' (A.put id (.cells cs)) (w.alloc (.cells c e)) := by
  have hno : A.objs id = none := by
    cases h : A.objs id with
    | none => rfl
    | some o => obtain ⟨b, hb, _⟩ := hR.objs _ _ h; rw [hid] at hb; cases hb
  have hx : IExt g id { g with mu := fun j => if j = id then some w.heap.size else g.mu j } :=
    ⟨fun j hj => by simp [hj], .inl hid, fun _ _ _ h => h, fun _ _ h => h, fun _ _ h => h, fun _ _ h => h, rfl⟩
  have hE : ∀ n, n ≤ id → g.Ext n { g with mu := fun j => if j = id then some w.heap.size else g.mu j } := fun n hn => hx.ext hn
  have hold : ∀ j b, (A.objs j).isSome → g.mu j = some b → b ≠ w.heap.size := fun j b h1 h2 => by
    obtain ⟨o, ho⟩ := Option.isSome_iff_exists.1 h1
    have := hR.blk ho h2; omega
  have hmu : ∀ j b, ((A.put id (.cells cs)).objs j).isSome → (if j = id then some w.heap.size else g.mu j) = some b → (j = id ∧ b = w.heap.size) ∨ (j ≠ id ∧ (A.objs j).isSome ∧ g.mu j = some b) := by
    intro j b h1 h2
    by_cases hj : j = id
    · rw [if_pos hj] at h2; cases h2; exact .inl ⟨hj, rfl⟩
    · rw [if_neg hj] at h2
      simp only [Store.put, if_neg hj] at h1
      exact .inr ⟨hj, h1, h2⟩
  refine ⟨_, hx, by simp, ?_⟩
  exact {
    next := fun j hj => by
      have hj' : j ≠ id := by have : A.next ≤ j := hj; omega
      simp only [Store.put, if_neg hj']
      exact hR.next j hj
    objs := fun j o ho => by
      by_cases hj : j = id
      · subst hj
        simp only [Store.put, if_true] at ho
        cases ho
        refine ⟨w.heap.size, by simp, ⟨c, e, (0, 0), ?_, ?_, fun i hi => (hc.2 i hi).1.mono (hE 0 (Nat.zero_le _)), fun i _ => by omega, fun i hi => (hc.2 i hi).2⟩, hR.below.size⟩
        · show (w.heap.push _)[w.heap.size]? = _; simp
        · rw [hc.1]; exact Nat.le_refl _
      · simp only [Store.put, if_neg hj] at ho
        obtain ⟨b, hb, hobj, hle⟩ := hR.objs j o ho
        exact ⟨b, by simp [hj, hb], hobj.move (hE 0 (Nat.zero_le _)) (Below.heap_alloc _ _ _ (hR.blk ho hb)), hle⟩
    inj := fun j j' b h1 h2 h3 h4 => by
      rcases hmu j b h1 h3 with ⟨e1, rfl⟩ | ⟨n1, s1, m1⟩ <;> rcases hmu j' _ h2 h4 with ⟨e2, e3⟩ | ⟨n2, s2, m2⟩
      · rw [e1, e2]
      · exact absurd rfl (hold _ _ s2 m2)
      · exact absurd e3 (hold _ _ s1 m1)
      · exact hR.inj j j' b s1 s2 m1 m2
    io := fun b o v h => by
      have := hR.io b o v h
      exact ⟨by rw [World.cell?_alloc_lt _ _ _ (cell_lt this.1)]; exact this.1, this.2⟩
    sep := fun j b o h1 h2 => by
      rcases hmu j b h1 h2 with ⟨e1, rfl⟩ | ⟨n1, s1, m1⟩
      · cases h : g.io w.heap.size o with
        | none => rfl
        | some v => have := cell_lt (hR.io _ _ _ h).1; omega
      · exact hR.sep j b o s1 m1
    ntok := hR.ntok
    toks := fun t ht => by
      obtain ⟨b, fin, lim, h1, h0, c', e', fr, h2, h3, h4, h5, h6, h7⟩ := hR.toks t ht
      have hbl : b < w.heap.size := (Array.getElem?_eq_some_iff.1 h2).1
      refine ⟨b, fin, lim, h1, h0, c', e', fr, (Below.heap_alloc _ _ _ hbl).trans h2, h3, h4, h5, h6, fun j hj hm => ?_⟩
      rcases hmu j b hj hm with ⟨e1, rfl⟩ | ⟨n1, s1, m1⟩
      · omega
      · exact h7 j s1 m1
    tokinj := hR.tokinj
    below := hR.below.alloc hR.below.size _
    pf := fun b s h => by
      obtain ⟨c', e', fr, h1, h2⟩ := hR.pf b s h
      exact ⟨c', e', fr, (Below.heap_alloc _ _ _ (Array.getElem?_eq_some_iff.1 h1).1).trans h1, h2⟩
    dfr := fun b t h => ⟨(hR.dfr b t h).1, by rw [show (w.alloc _).heap[b]? = w.heap[b]? from Below.heap_alloc _ _ _ (hR.dfr b t h).2.lt]; exact (hR.dfr b t h).2⟩ }

end Go.Cov

namespace Go.Cov
open Go.RowKit
variable {P : Program} {g : Ghost} {A : Store} {w : World}

/-- The world w' is w, but for the cells of block b, of which some have been written. -/
structure Wrote (w w' : World) (b off : Nat) (vs : List Value) (c : Array Value) (e : TypeId) (fr : Nat × Nat) : Prop where
  os : w'.os = w.os
  tape : w'.tape = w.tape
  output : w'.output = w.output
  drawn : w'.drawn = w.drawn
  size : w'.heap.size = w.heap.size
  other : ∀ k, k ≠ b → w'.heap[k]? = w.heap[k]?
  blk : ∃ c', w'.heap[b]? = some (.cells c' e fr) ∧ c'.size = c.size ∧ ∀ i, c'.getD i undef = if off ≤ i ∧ i < off + vs.length then vs.getD (i - off) undef else c.getD i undef

theorem run_store' {w : World} {a : Addr} {v u : Value} (hv : v.oneCell' = true) (hc : w.cell? a = some u) (hf : w.frozen? a = false) : (store a v).run P w = .ok () (w.setCell a v) := by
  rw [run_store P w a v .plain hv]
  simp [hc, hf]

theorem setCell_blk {w : World} {b o : Nat} {c : Array Value} {e : TypeId} {fr : Nat × Nat} (v : Value) (h : w.heap[b]? = some (.cells c e fr)) :
    (w.setCell ⟨b, o, none⟩ v).heap[b]? = some (.cells (c.setIfInBounds o v) e fr) := by
  simp only [World.setCell, Array.getElem?_modify, if_true, h, Option.map_some]
  simp

theorem run_storeCells (vs : List Value) : ∀ (w : World) (b off i : Nat) (c : Array Value) (e : TypeId) (fr : Nat × Nat), w.heap[b]? = some (.cells c e fr) → off + i + vs.length ≤ c.size →
    (∀ j, j < c.size → ¬ (fr.1 ≤ j ∧ j < fr.2)) → (∀ v, v ∈ vs → v.oneCell' = true) →
    ∃ w', (storeCells ⟨b, off, none⟩ vs i).run P w = .ok () w' ∧ Wrote w w' b (off + i) vs c e fr := by
  induction vs with
  | nil => intro w b off i c e fr h _ _ _; exact ⟨w, by simp [storeCells], rfl, rfl, rfl, rfl, rfl, fun _ _ => rfl, c, h, rfl, fun j => by simp; intro h1 h2; omega⟩
  | cons v vs ih =>
    intro w b off i c e fr h hl hf ho
    simp only [List.length_cons] at hl
    have hcell : w.cell? ⟨b, off + i, none⟩ = some (c[off + i]'(by omega)) := by
      simp [World.cell?, h]
    have hfr : w.frozen? ⟨b, off + i, none⟩ = false := by
      simp only [World.frozen?, h]
      have := hf (off + i) (by omega)
      simp only [Bool.and_eq_false_iff, decide_eq_false_iff_not]
      rcases Nat.lt_or_ge (off + i) fr.1 with h1 | h1
      · exact .inl (by omega)
      · exact .inr (fun h2 => this ⟨h1, h2⟩)
    have hrun := run_store' (P := P) (ho v (by simp)) hcell hfr
    have hb' := setCell_blk (o := off + i) v h
    obtain ⟨w', hr, hw⟩ := ih (w.setCell ⟨b, off + i, none⟩ v) b off (i + 1) _ e fr hb' (by simp; omega) (by simpa using hf) (fun u hu => ho u (by simp [hu]))
    obtain ⟨c', h1, h2, h3⟩ := hw.blk
    refine ⟨w', ?_, hw.os, hw.tape, hw.output, hw.drawn, hw.size.trans (by simp), fun k hk => (hw.other k hk).trans (Below.heap_setCell _ _ _ _ (by simpa using hk)), c', h1, by simpa using h2, fun j => ?_⟩
    · rw [storeCells]
      simp only [Sem.run_bind, addr_add, hrun, Result.andThen_ok]
      exact hr
    · rw [h3 j]
      simp only [List.length_cons]
      by_cases hj : j = off + i
      · subst hj
        rw [if_neg (by omega), if_pos (by omega)]
        have : off + i < c.size := by omega
        simp [Array.getD_eq_getD_getElem?, this]
      · by_cases hr : off + (i + 1) ≤ j ∧ j < off + (i + 1) + vs.length
        · rw [if_pos hr, if_pos (by omega)]
          have e1 : j - (off + i) = (j - (off + (i + 1))) + 1 := by omega
          rw [e1, List.getD_cons_succ]
        · rw [if_neg hr, if_neg (by omega)]
          simp only [Array.getD_eq_getD_getElem?, Array.getElem?_setIfInBounds]
          rw [if_neg (by omega)]

/-- Cells of an object have been written. -/
theorem Rel.wrote {w' : World} {id b off : Nat} {cs vs : List AVal} {cvs : List Value} {c : Array Value} {e : TypeId} {fr : Nat × Nat} (hR : Rel g A w) (ho : A.objs id = some (.cells cs)) (hm : g.mu id = some b)
    (hb : w.heap[b]? = some (.cells c e fr)) (hw : Wrote w w' b off cvs c e fr) (hl : off + vs.length ≤ cs.length) (hlv : cvs.length = vs.length)
    (hv : ∀ i (h : i < vs.length), RelV g vs[i] (cvs.getD i undef) ∧ (cvs.getD i undef).oneCell' = true) : Rel g (A.put id (.cells (setCells cs off vs))) w' := by
  obtain ⟨b', hb', hobj, hle⟩ := hR.objs id _ ho
  rw [hm] at hb'; cases hb'
  obtain ⟨c0, e0, fr0, g1, g2, g3, g4, g5⟩ := hobj
  rw [hb] at g1; cases g1
  obtain ⟨c', h1, h2, h3⟩ := hw.blk
  have hsome : ∀ j, ((A.put id (.cells (setCells cs off vs))).objs j).isSome = (A.objs j).isSome := by
    intro j
    by_cases hj : j = id
    · subst hj; simp [Store.put, ho]
    · simp [Store.put, hj]
  have hne : ∀ j, j ≠ id → (A.objs j).isSome → g.mu j ≠ some b := fun j hj h hmj => hj (hR.inj j id b h (by simp [ho]) hmj hm)
  exact {
    next := fun j hj => by
      have := hR.next j hj
      have hji : j ≠ id := fun e => by subst e; rw [ho] at this; cases this.2
      exact ⟨this.1, by simp [Store.put, hji, this.2]⟩
    objs := fun j o hj => by
      by_cases hji : j = id
      · subst hji
        simp only [Store.put, if_true, Option.some.injEq] at hj
        subst hj
        refine ⟨b, hm, ⟨c', e, fr, h1, by simp; omega, fun i hi => ?_, by rw [h2]; exact g4, fun i hi => ?_⟩, hle⟩
        · have hi' : i < cs.length := by simpa using hi
          rw [getD_getElem hi, setCells_get vs cs off i hl, h3 i]
          by_cases hin : off ≤ i ∧ i < off + vs.length
          · rw [if_pos hin, if_pos (by omega)]
            have := (hv (i - off) (by omega)).1
            rw [getD_getElem] at this; exact this
          · rw [if_neg hin, if_neg (by omega)]
            have := g3 i hi'
            rw [getD_getElem] at this; exact this
        · have hi' : i < cs.length := by simpa using hi
          rw [h3 i]
          by_cases hin : off ≤ i ∧ i < off + vs.length
          · rw [if_pos (by omega)]; exact (hv (i - off) (by omega)).2
          · rw [if_neg (by omega)]; exact g5 i hi'
      · simp only [Store.put, if_neg hji] at hj
        obtain ⟨bj, hbj, hobj, hlj⟩ := hR.objs j o hj
        have : bj ≠ b := fun e => hne j hji (by simp [hj]) (by rw [hbj, e])
        exact ⟨bj, hbj, hobj.move (.refl g 0) (hw.other bj this), hlj⟩
    inj := fun j j' bb k1 k2 => hR.inj j j' bb (by rw [← hsome]; exact k1) (by rw [← hsome]; exact k2)
    io := fun bb o v h => by
      have := hR.io bb o v h
      have hbb : bb ≠ b := fun e => by subst e; rw [hR.sep id bb o (by simp [ho]) hm] at h; cases h
      refine ⟨?_, this.2⟩
      rw [← this.1]
      exact World.cell?_of_block (w := w) (hw.other bb hbb)
    sep := fun j bb o k1 k2 => hR.sep j bb o (by rw [← hsome]; exact k1) k2
    ntok := hR.ntok
    toks := fun t ht => by
      obtain ⟨bb, fin, lim, k1, k0, cc, ee, frr, k2, k3, k4, k5, k6, k7⟩ := hR.toks t ht
      have hbb : bb ≠ b := fun e => k7 id (by simp [ho]) (by rw [hm, e])
      exact ⟨bb, fin, lim, k1, k0, cc, ee, frr, (hw.other bb hbb).trans k2, k3, k4, k5, k6, fun j hj => k7 j (by rw [← hsome]; exact hj)⟩
    tokinj := hR.tokinj
    below := by
      refine hR.below.trans ⟨hw.os, hw.tape, hw.output, by rw [hw.size]; exact Nat.le_refl _, fun k hk => hw.other k (by omega)⟩
    pf := fun bb s h => by
      obtain ⟨cc, ee, frr, k1, k2⟩ := hR.pf bb s h
      by_cases hbb : bb = b
      · subst hbb
        rw [hb] at k1; cases k1
        exact ⟨c', e, fr, h1, by rw [h2]; exact k2⟩
      · exact ⟨cc, ee, frr, (hw.other bb hbb).trans k1, k2⟩
    dfr := fun bb t h => by
      have k1 := hR.dfr bb t h
      have hbb : bb ≠ b := fun e => by subst e; rw [hb] at k1; exact k1.2.cells
      exact ⟨k1.1, by rw [hw.other bb hbb]; exact k1.2⟩ }

end Go.Cov

namespace Go.Cov
open Go.RowKit
variable {P : Program} {g : Ghost} {A : Store} {w : World}

theorem growBy_le (newLen : Nat) : ∀ (r c : Nat), Builtin.growBy newLen r c ≤ max c (newLen + (newLen + 768) / 4) := by
  intro r
  induction r with
  | zero => intro c; simp [Builtin.growBy]; omega
  | succ r ih =>
    intro c
    unfold Builtin.growBy
    split
    · omega
    · have := ih (c + (c + 768) / 4); omega
theorem nextslicecap_le {need old : Nat} (h : old < need) : Builtin.nextslicecap need old ≤ 2 * need + 192 := by
  unfold Builtin.nextslicecap
  split
  · omega
  · split
    · omega
    · have := growBy_le need 4 old; omega

/-- Room: tokens that are live. -/
def Store.room (A : Store) : Room → Prop
  | .full => True
  | .tok t => A.live t = true
  | .lost => False

def Ghost.addTok (g : Ghost) (t : Nat) (x : Nat × Nat × Nat) : Ghost := { g with tk := fun t1 => if t1 = t then some x else g.tk t1 }
def Ghost.claim (g : Ghost) (b fin n : Nat) (f : Nat → Value) : Ghost := { g with io := fun b1 o => if b1 = b ∧ fin ≤ o ∧ o < fin + n then some (f (o - fin)) else g.io b1 o }
theorem Ghost.addTok_tk (g : Ghost) (t : Nat) (x : Nat × Nat × Nat) (t1 : Nat) : (g.addTok t x).tk t1 = if t1 = t then some x else g.tk t1 := rfl
theorem Ghost.claim_io (g : Ghost) (b fin n : Nat) (f : Nat → Value) (b1 o : Nat) : (g.claim b fin n f).io b1 o = if b1 = b ∧ fin ≤ o ∧ o < fin + n then some (f (o - fin)) else g.io b1 o := rfl

/-- The new row's token. -/
theorem Rel.rowTok {cs : List AVal} {c : Array Value} (hR : Rel g A w) (hc : RelC g cs (c.extract 0 cs.length)) (hl : cs.length ≤ c.size) (e : TypeId) (k : Room) :
    ∃ g', IExt g A.next g' ∧ (g'.mu = g.mu) ∧ g'.tk A.ntok = some (w.heap.size, cs.length, c.size) ∧ Rel g' (A.tok k) (w.alloc (.cells c e)) ∧
      (∀ i, i < cs.length → g'.io w.heap.size (0 + i) = some (c.getD i undef)) ∧ ∀ i (h : i < cs.length), RelV g' cs[i] (c.getD i undef) := by
  obtain ⟨g1, hx, hR1, hio, hno, hoth, hrel⟩ := hR.row hc hl e
  have hx2 : g1.Ext 0 (g1.addTok A.ntok (w.heap.size, cs.length, c.size)) := by
    refine ⟨fun _ _ h => h, fun _ _ => rfl, fun _ _ _ h => h, fun t x h => ?_, fun _ _ h => h, fun _ _ h => h, rfl⟩
    have : t ≠ A.ntok := fun e => by subst e; rw [(hR1.ntok _ (Nat.le_refl _)).1] at h; cases h
    rw [Ghost.addTok_tk, if_neg this]; exact h
  have hlive : ∀ t, (A.tok k).live t = true → t = A.ntok ∨ (t ≠ A.ntok ∧ A.live t = true ∧ k ≠ .tok t) := by
    intro t ht
    simp only [Store.tok] at ht
    by_cases e1 : t = A.ntok
    · exact .inl e1
    · rw [if_neg e1] at ht
      by_cases e2 : k = .tok t
      · rw [if_pos e2] at ht; cases ht
      · rw [if_neg e2] at ht; exact .inr ⟨e1, ht, e2⟩
  have hblk : ∀ t b f l, A.live t = true → g1.tk t = some (b, f, l) → b < w.heap.size := by
    intro t b f l h1 h2
    obtain ⟨b', f', l', k1, _, c', e', fr, k2, _⟩ := hR.toks t h1
    rw [hx.tk, k1] at h2; cases h2
    exact (Array.getElem?_eq_some_iff.1 k2).1
  refine ⟨g1.addTok A.ntok (w.heap.size, cs.length, c.size), ⟨fun _ _ => by show g1.mu _ = _; rw [hx.mu], .inr (by show g1.mu _ = _; rw [hx.mu]), fun b o v h => hx.io b o v h, fun t x h => hx2.tk t x (by rw [hx.tk]; exact h), fun b s h => by show g1.pf b = _; rw [hx.pf]; exact h, fun b t h => by show g1.dfr b = _; rw [hx.dfr]; exact h, hx.w0⟩, hx.mu, by rw [Ghost.addTok_tk, if_pos rfl], ?_, hio, fun i hi => (hrel i hi).mono hx2⟩
  exact {
    next := hR1.next
    objs := fun id o ho => by
      obtain ⟨b, hb, hobj, hle⟩ := hR1.objs id o ho
      exact ⟨b, hb, hobj.move hx2 rfl, hle⟩
    inj := hR1.inj
    io := hR1.io
    sep := hR1.sep
    ntok := fun t ht => by
      have ht' : A.ntok + 1 ≤ t := ht
      have h1 := hR1.ntok t (by omega)
      refine ⟨by rw [Ghost.addTok_tk, if_neg (by omega)]; exact h1.1, ?_⟩
      simp only [Store.tok]
      rw [if_neg (by omega)]
      split
      · rfl
      · exact h1.2
    toks := fun t ht => by
      rcases hlive t ht with rfl | ⟨n1, l1, _⟩
      · refine ⟨w.heap.size, cs.length, c.size, by rw [Ghost.addTok_tk, if_pos rfl], by show g1.w0.heap.size ≤ _; rw [hx.w0]; exact hR.below.size, c, e, (0, 0), ?_, Nat.le_refl _, hl, fun i _ => by omega, fun o ho => hno o ho, fun id hid hm => ?_⟩
        · show (w.heap.push _)[w.heap.size]? = _; simp
        · obtain ⟨o, ho⟩ := Option.isSome_iff_exists.1 hid
          have hm' : g1.mu id = some w.heap.size := hm
          rw [hx.mu] at hm'
          have := hR.blk ho hm'; omega
      · obtain ⟨b, f, l, k1, k0, r⟩ := hR1.toks t l1
        exact ⟨b, f, l, by rw [Ghost.addTok_tk, if_neg n1]; exact k1, k0, r⟩
    tokinj := fun t t' b f l f' l' h1 h2 h3 h4 => by
      rw [Ghost.addTok_tk] at h3 h4
      rcases hlive t h1 with rfl | ⟨n1, l1, _⟩ <;> rcases hlive t' h2 with rfl | ⟨n2, l2, _⟩
      · rfl
      · rw [if_pos rfl] at h3; cases h3
        rw [if_neg n2] at h4
        have := hblk _ _ _ _ l2 h4; omega
      · rw [if_pos rfl] at h4; cases h4
        rw [if_neg n1] at h3
        have := hblk _ _ _ _ l1 h3; omega
      · rw [if_neg n1] at h3; rw [if_neg n2] at h4
        exact hR1.tokinj t t' b f l f' l' l1 l2 h3 h4
    below := hR1.below
    pf := hR1.pf
    dfr := hR1.dfr }

/-- Room that a token owns has been written. -/
theorem Rel.fill {w' : World} {t b fin lim : Nat} {vs : List AVal} {cvs : List Value} {c : Array Value} {e : TypeId} {fr : Nat × Nat} (hR : Rel g A w) (ht : A.live t = true) (htk : g.tk t = some (b, fin, lim))
    (hb : w.heap[b]? = some (.cells c e fr)) (hw : Wrote w w' b fin cvs c e fr) (hlv : cvs.length = vs.length) (hl : fin + vs.length ≤ lim)
    (hv : ∀ i (h : i < vs.length), RelV g vs[i] (cvs.getD i undef) ∧ (cvs.getD i undef).oneCell' = true) :
    ∃ g', IExt g A.next g' ∧ g'.mu = g.mu ∧ g'.tk A.ntok = some (b, fin + vs.length, lim) ∧ Rel g' (A.tok (.tok t)) w' ∧ (∀ i, i < vs.length → g'.io b (fin + i) = some (cvs.getD i undef)) ∧ ∀ i (h : i < vs.length), RelV g' vs[i] (cvs.getD i undef) := by
  obtain ⟨b', fin', lim', k1, k0, c', e', fr', k2, k3, k4, k5, k6, k7⟩ := hR.toks t ht
  rw [htk] at k1; cases k1
  rw [hb] at k2; cases k2
  obtain ⟨c'', h1, h2, h3⟩ := hw.blk
  have hnt : t ≠ A.ntok := fun e => by have := (hR.ntok t (by omega)).2; rw [ht] at this; cases this
  have hx : g.Ext A.next ((g.claim b fin vs.length fun i => cvs.getD i undef).addTok A.ntok (b, fin + vs.length, lim)) := by
    refine ⟨fun _ _ h => h, fun _ _ => rfl, fun b1 o v h => ?_, fun t1 x h => ?_, fun _ _ h => h, fun _ _ h => h, rfl⟩
    · show (g.claim b fin vs.length fun i => cvs.getD i undef).io b1 o = _
      rw [Ghost.claim_io, if_neg]
      · exact h
      · rintro ⟨rfl, ho, _⟩; rw [k6 o ho] at h; cases h
    · have : t1 ≠ A.ntok := fun e => by subst e; rw [(hR.ntok _ (Nat.le_refl _)).1] at h; cases h
      rw [Ghost.addTok_tk, if_neg this]; exact h
  have hlive : ∀ t1, (A.tok (.tok t)).live t1 = true → t1 = A.ntok ∨ (t1 ≠ A.ntok ∧ A.live t1 = true ∧ t1 ≠ t) := by
    intro t1 h
    simp only [Store.tok] at h
    by_cases e1 : t1 = A.ntok
    · exact .inl e1
    · rw [if_neg e1] at h
      by_cases e2 : t1 = t
      · subst e2; rw [if_pos rfl] at h; cases h
      · rw [if_neg (by intro e; cases e; exact e2 rfl)] at h; exact .inr ⟨e1, h, e2⟩
  refine ⟨(g.claim b fin vs.length fun i => cvs.getD i undef).addTok A.ntok (b, fin + vs.length, lim), ⟨fun _ _ => rfl, .inr rfl, hx.io, hx.tk, hx.pf, hx.dfr, rfl⟩, rfl, by rw [Ghost.addTok_tk, if_pos rfl], ?_, fun i hi => ?_, fun i hi => ((hv i hi).1).mono hx⟩
  · exact {
      next := hR.next
      objs := fun id o ho => by
        obtain ⟨bj, hbj, hobj, hlj⟩ := hR.objs id o ho
        have : bj ≠ b := fun e => k7 id (Option.isSome_iff_exists.2 ⟨o, ho⟩) (by rw [hbj, e])
        exact ⟨bj, hbj, hobj.move hx (hw.other bj this), hlj⟩
      inj := hR.inj
      io := fun b1 o v hh => by
        have h : (if b1 = b ∧ fin ≤ o ∧ o < fin + vs.length then some (cvs.getD (o - fin) undef) else g.io b1 o) = some v := hh
        clear hh
        split at h
        · rename_i hc
          obtain ⟨rfl, ho1, ho2⟩ := hc
          cases h
          refine ⟨?_, (hv (o - fin) (by omega)).2⟩
          have hlt : o < c''.size := by omega
          have := h3 o
          rw [if_pos (by omega)] at this
          simp only [World.cell?, h1]
          rw [← this]; simp [Array.getD, hlt]
        · rename_i hc
          have hcl := hR.io b1 o v h
          refine ⟨?_, hcl.2⟩
          by_cases hbb : b1 = b
          · subst hbb
            have hof : ¬ fin ≤ o := fun hf => by rw [k6 o hf] at h; cases h
            have hcell := hcl.1
            simp only [World.cell?, hb] at hcell
            simp only [World.cell?, h1]
            have := h3 o
            rw [if_neg (by omega)] at this
            have hos : o < c.size := by
              simp at hcell; exact (Array.getElem?_eq_some_iff.1 hcell).1
            have hos' : o < c''.size := by omega
            simp only [Array.getD_eq_getD_getElem?, Array.getElem?_eq_getElem hos, Array.getElem?_eq_getElem hos', Option.getD_some] at this
            simp only [Option.isSome_none, Bool.false_eq_true, if_false, Array.getElem?_eq_getElem hos, Array.getElem?_eq_getElem hos'] at hcell ⊢
            rw [this]; exact hcell
          · rw [← hcl.1]; exact World.cell?_of_block (w := w) (hw.other b1 hbb)
      sep := fun id b1 o h1' h2' => by
        show (g.claim b fin vs.length fun i => cvs.getD i undef).io b1 o = none
        rw [Ghost.claim_io, if_neg]
        · exact hR.sep id b1 o h1' h2'
        · rintro ⟨rfl, _⟩; exact k7 id h1' h2'
      ntok := fun t1 h => by
        have ht' : A.ntok + 1 ≤ t1 := h
        have h1 := hR.ntok t1 (by omega)
        refine ⟨by rw [Ghost.addTok_tk, if_neg (by omega)]; exact h1.1, ?_⟩
        simp only [Store.tok]
        rw [if_neg (by omega)]
        split
        · rfl
        · exact h1.2
      toks := fun t1 h => by
        rcases hlive t1 h with rfl | ⟨n1, l1, n2⟩
        · refine ⟨b, fin + vs.length, lim, by rw [Ghost.addTok_tk, if_pos rfl], k0, c'', e, fr, h1, by omega, hl, by rw [h2]; exact k5, fun o ho => ?_, k7⟩
          show (g.claim b fin vs.length fun i => cvs.getD i undef).io b o = none
          rw [Ghost.claim_io, if_neg (by omega)]
          exact k6 o (by omega)
        · obtain ⟨b1, f1, l1', q1, q0, c1, e1, fr1, q2, q3, q4, q5, q6, q7⟩ := hR.toks t1 l1
          have hbb : b1 ≠ b := fun e => n2 (hR.tokinj t1 t b f1 l1' fin lim l1 ht (by rw [q1, e]) htk)
          refine ⟨b1, f1, l1', by rw [Ghost.addTok_tk, if_neg n1]; exact q1, q0, c1, e1, fr1, (hw.other b1 hbb).trans q2, q3, q4, q5, fun o ho => ?_, q7⟩
          show (g.claim b fin vs.length fun i => cvs.getD i undef).io b1 o = none
          rw [Ghost.claim_io, if_neg (by simp [hbb])]; exact q6 o ho
      tokinj := fun t1 t2 b1 f1 l1 f2 l2 h1' h2' h3' h4' => by
        rw [Ghost.addTok_tk] at h3' h4'
        rcases hlive t1 h1' with rfl | ⟨n1, v1, m1⟩ <;> rcases hlive t2 h2' with rfl | ⟨n2, v2, m2⟩
        · rfl
        · rw [if_pos rfl] at h3'; cases h3'
          rw [if_neg n2] at h4'
          exact absurd (hR.tokinj _ _ _ _ _ _ _ v2 ht h4' htk) m2
        · rw [if_pos rfl] at h4'; cases h4'
          rw [if_neg n1] at h3'
          exact absurd (hR.tokinj _ _ _ _ _ _ _ v1 ht h3' htk) m1
        · rw [if_neg n1] at h3'; rw [if_neg n2] at h4'
          exact hR.tokinj _ _ _ _ _ _ _ v1 v2 h3' h4'
      below := hR.below.trans ⟨hw.os, hw.tape, hw.output, by rw [hw.size]; exact Nat.le_refl _, fun k hk => hw.other k (by omega)⟩
      pf := fun bb s h => by
        have h : g.pf bb = some s := h
        obtain ⟨cc, ee, frr, k1, k2⟩ := hR.pf bb s h
        by_cases hbb : bb = b
        · subst hbb
          rw [hb] at k1; cases k1
          exact ⟨c'', e, fr, h1, by rw [h2]; exact k2⟩
        · exact ⟨cc, ee, frr, (hw.other bb hbb).trans k1, k2⟩
      dfr := fun bb t h => by
        have k1 := hR.dfr bb t h
        have hbb : bb ≠ b := fun e => by subst e; rw [hb] at k1; exact k1.2.cells
        exact ⟨k1.1, by rw [hw.other bb hbb]; exact k1.2⟩ }
  · show (g.claim b fin vs.length fun i => cvs.getD i undef).io b (fin + i) = _
    rw [Ghost.claim_io, if_pos ⟨rfl, by omega, by omega⟩]
    congr 2; omega

end Go.Cov

namespace Go.Cov
open Go.RowKit
variable {P : Program} {g : Ghost} {A : Store} {w : World}

/-- What is appended, or copied from: how many elements, and their cells. -/
def srcA (A : Store) (es : Nat) : AVal → Option (Nat × List AVal × Cd)
  | .list _ _ k ds => some (k, ds, cd (ds.length = k * es))
  | .sl id off k _ _ => match A.objs id with
    | some (.cells cs) => some (k, cut cs off (k * es), cd (off + k * es ≤ cs.length))
    | _ => none
  | _ => none

theorem srcA_sound {es k : Nat} {x : AVal} {cx : Value} {ds : List AVal} {p : Cd} (h : srcA A es x = some (k, ds, p)) (hp : p.p) (hx : RelV g x cx) (hR : Rel g A w) :
    (∀ w, (Builtin.lenOf cx).run P w = .ok k w) ∧ ds.length = k * es ∧ ∃ c, (∀ w' : World, (∀ a, w'.cell? a = w.cell? a) → (Builtin.firstCells es k cx).run P w' = .ok c w') ∧ RelC g ds c := by
  unfold srcA at h
  split at h
  · rename_i nil r k' ds'
    simp only [Option.some.injEq, Prod.mk.injEq] at h
    obtain ⟨rfl, rfl, rfl⟩ := h
    cases hx with
    | listNil => exact ⟨fun _ => by simp [Builtin.lenOf], by simp, #[], fun _ _ => by simp [Builtin.firstCells], by simp, fun i hi => by simp at hi⟩
    | list f hn hr g1 g2 =>
      rename_i b base cap
      obtain ⟨c, h1, h2, h3, h4⟩ := run_loadCells_at (P := P) (g := g) (w := w) (b := b) (base := base) (cs := ds') ⟨f, fun i hi => hR.io _ _ _ (g1 i hi), g2⟩
      rw [hp] at h1
      exact ⟨fun _ => by simp [Builtin.lenOf], hp, c, fun w' hw' => by simp [Builtin.firstCells, h1 w' hw'], h2, fun i hi => ⟨h3 i hi, h4 i hi⟩⟩
  · rename_i id off k' m e0
    split at h
    · rename_i cs ho
      simp only [Option.some.injEq, Prod.mk.injEq] at h
      obtain ⟨rfl, rfl, rfl⟩ := h
      cases hx with
      | slE => exact ⟨fun _ => by simp [Builtin.lenOf], by simp [cut], #[], fun _ _ => by simp [Builtin.firstCells, loadCells, loadCellsFrom], by simp [cut], fun i hi => by simp [cut] at hi⟩
      | sl hm hn hm' hq =>
        rename_i b cap
        obtain ⟨b', hb', hobj, _⟩ := hR.objs _ _ ho
        rw [hm] at hb'; cases hb'
        have hat := hobj.cellsAt.cutAt off (k' * es)
        have hlen : (cut cs off (k' * es)).length = k' * es := by simp [cut]; omega
        obtain ⟨c, h1, h2, h3, h4⟩ := run_loadCells_at (P := P) hat
        rw [hlen, Nat.zero_add] at h1
        exact ⟨fun _ => by simp [Builtin.lenOf], hlen, c, fun w' hw' => by simp [Builtin.firstCells, h1 w' hw'], h2, fun i hi => ⟨h3 i hi, h4 i hi⟩⟩
    · cases h
  · cases h

theorem zeroCells_size (zero : Array Value) (n : Nat) : (Builtin.zeroCells zero n).size = n * zero.size := by simp [Builtin.zeroCells]

theorem run_append_room {sT xT el ty : TypeId} {d : TypeDesc} {es n k cap : Nat} {base : Option Addr} {cx : Value} {c : Array Value} {w' : World} (hu : P.underlying sT = some (.slice el)) (hs : tsz P el = some es)
    (hd : P.underlying xT = some d) (hnd : ∀ k, d ≠ .int k) (hl : (Builtin.lenOf cx).run P w = .ok k w) (hf : (Builtin.firstCells es k cx).run P w = .ok c w) (hr : n + k ≤ cap)
    (hst : (match base with | some a => storeCells (a.add (n * es)) c.toList | none => pure ()).run P w = .ok () w') :
    (Builtin.append_ #[sT, xT] ty #[.slice base n cap, cx]).run P w = .ok (.slice base (n + k) cap) w' := by
  have hz : (match d with | .int _ => true | _ => false) = false := by cases d <;> first | rfl | exact absurd rfl (hnd _)
  simp only [Builtin.append_]
  simp [run_underlying' hu, run_sizeOf' hs, run_underlying' hd]
  cases d with
  | int k => exact absurd rfl (hnd _)
  | _ =>
    simp [hl, hr, hf]
    cases base <;> simp at hst ⊢ <;> first | (subst hst; rfl) | simp [hst]

end Go.Cov

namespace Go.Cov
open Go.RowKit
variable {P : Program} {g : Ghost} {A : Store} {w : World}

def tbytes (P : Program) (t : TypeId) : Option Nat := (P.info? t).map (·.bytes)
theorem run_tbytes {t : TypeId} {b : Nat} (h : tbytes P t = some b) : ∃ i, P.info? t = some i ∧ i.bytes = b := by
  unfold tbytes at h
  cases hi : P.info? t with
  | none => simp [hi] at h
  | some i => simp [hi] at h; exact ⟨i, rfl, h⟩

theorem cut_choose (need old : Nat) (el : TypeId) (t : Nat) : need ≤ Question.cut (.appendCap need old el) t := by simp [Question.cut]

theorem run_append_grow {sT xT el ty : TypeId} {d : TypeDesc} {es n k cap bt : Nat} {base : Option Addr} {cx z : Value} {c c0 : Array Value} (hu : P.underlying sT = some (.slice el)) (hs : tsz P el = some es)
    (hd : P.underlying xT = some d) (hnd : ∀ k, d ≠ .int k) (hbt : tbytes P el = some bt) (hb0 : 0 < bt) (hlim : (n + k) * bt ≤ 35184372088832) (hbl : bt ≤ 1048576)
    (hl : ∀ w, (Builtin.lenOf cx).run P w = .ok k w) (hf : ∀ w' : World, (∀ a, w'.cell? a = w.cell? a) → (Builtin.firstCells es k cx).run P w' = .ok c w') (hr : cap < n + k)
    (h0 : ∀ w' : World, (∀ a, w'.cell? a = w.cell? a) → (Builtin.firstCells es n (.slice base n cap)).run P w' = .ok c0 w') (hz : ∀ w, (zeroValue el).run P w = .ok z w) :
    ∃ cap', n + k ≤ cap' ∧ (Builtin.append_ #[sT, xT] ty #[.slice base n cap, cx]).run P w =
      .ok (.slice (some ⟨w.heap.size, 0, none⟩) (n + k) cap') (w.drew.alloc (.cells (c0 ++ c ++ Builtin.zeroCells z.cells (cap' - (n + k))) el)) := by
  obtain ⟨i, hi, hib⟩ := run_tbytes hbt
  have hti : ∀ w : World, (typeInfo el).run P w = .ok i w := fun w => run_typeInfo hi
  have hcap : Builtin.nextslicecap (n + k) cap * bt ≤ 281474976710656 := by
    have := nextslicecap_le (need := n + k) (old := cap) (by omega)
    calc Builtin.nextslicecap (n + k) cap * bt ≤ (2 * (n + k) + 192) * bt := Nat.mul_le_mul_right _ this
      _ = 2 * ((n + k) * bt) + 192 * bt := by rw [Nat.add_mul, Nat.mul_assoc]
      _ ≤ 281474976710656 := by omega
  refine ⟨Question.cut (.appendCap (n + k) cap el) (w.tape w.drawn (.appendCap (n + k) cap el)), cut_choose _ _ _ _, ?_⟩
  have hle : ¬ (n + k ≤ cap) := by omega
  have hcap' : ¬ (281474976710656 < Builtin.nextslicecap (n + k) cap * bt) := by omega
  have hbz : ¬ bt = 0 := by omega
  simp only [Builtin.append_]
  simp [run_underlying' hu, run_sizeOf' hs, run_underlying' hd]
  cases d with
  | int k => exact absurd rfl (hnd _)
  | _ =>
    simp [hl, hle, hti, hib, hbz, hcap', hf w.drew (fun _ => rfl), h0 w.drew (fun _ => rfl), hz, newRow, Question.forced]


/-- Some, or nothing. The continuation stays closed to simp till the first part is known. -/
def optK {α : Type} (o : Option α) (K : α → Prop) : Prop := match o with | some a => K a | none => False
def cellsK (A : Store) (id : Nat) : Option (List AVal) := match A.objs id with | some (.cells cs) => some cs | _ => none
def listOf : AVal → Option (Bool × Room × Nat × List AVal) | .list nil r n cs => some (nil, r, n, cs) | _ => none

/-- The rule: what an append comes to. -/
def appendA (P : Program) (A : Store) (sT xT : TypeId) (s x : AVal) (K : AVal → Store → Prop) : Prop :=
  optK (slE P sT) fun el => optK (listOf s) fun q => optK (tsz P el) fun es => optK (tbytes P el) fun bt => optK (zeroA P el) fun zs => optK (srcA A es x) fun u =>
    (tk P xT = .slice ∧ zs.length = es ∧ 0 < bt ∧ bt ≤ 1048576) ∧ q.2.2.2.length = q.2.2.1 * es ∧ u.2.2.p ∧ (q.2.2.1 + u.1) * bt ≤ 35184372088832 ∧ A.room q.2.1 ∧ (q.1 = true → q.2.1 = .full) ∧ (q.2.2.1 = 0 → q.2.1 = .full ∨ es = 1) ∧
    ((u.1 = 0 ∧ q.2.1 = .full → K (.list q.1 .full q.2.2.1 q.2.2.2) A) ∧ (¬ (u.1 = 0 ∧ q.2.1 = .full) → K (.list false (.tok A.ntok) (q.2.2.1 + u.1) (q.2.2.2 ++ u.2.1)) (A.tok q.2.1)))

theorem appendA_inv {A : Store} {sT xT : TypeId} {s x : AVal} {K : AVal → Store → Prop} (h : appendA P A sT xT s x K) : ∃ el nil r n cs es bt zs k ds p, slE P sT = some el ∧ s = .list nil r n cs ∧ tsz P el = some es ∧ tbytes P el = some bt ∧ zeroA P el = some zs ∧
    srcA A es x = some (k, ds, p) ∧ (tk P xT = .slice ∧ zs.length = es ∧ 0 < bt ∧ bt ≤ 1048576) ∧ cs.length = n * es ∧ p.p ∧ (n + k) * bt ≤ 35184372088832 ∧ A.room r ∧ (nil = true → r = .full) ∧ (n = 0 → r = .full ∨ es = 1) ∧
    ((k = 0 ∧ r = .full → K (.list nil .full n cs) A) ∧ (¬ (k = 0 ∧ r = .full) → K (.list false (.tok A.ntok) (n + k) (cs ++ ds)) (A.tok r))) := by
  unfold appendA optK at h
  split at h
  · split at h
    · rename_i q hq
      unfold listOf at hq
      split at hq
      · cases hq
        split at h
        · split at h
          · split at h
            · split at h
              · rename_i u hu
                obtain ⟨k, ds, p⟩ := u
                exact ⟨_, _, _, _, _, _, _, _, _, _, _, ‹_›, rfl, ‹_›, ‹_›, ‹_›, hu, h⟩
              · exact h.elim
            · exact h.elim
          · exact h.elim
        · exact h.elim
      · cases hq
    · exact h.elim
  · exact h.elim

theorem listRel_append {cs ds : List AVal} {b base n k cap : Nat} {t : Nat} {es : Nat} {g' : Ghost} {lim : Nat} (f f' : Nat → Value) (hcs : cs.length = n * es) (hds : ds.length = k * es)
    (h1 : ∀ i, i < cs.length → g'.io b (base + i) = some (f i)) (h2 : ∀ i (h : i < cs.length), RelV g' cs[i] (f i))
    (k1 : ∀ i, i < ds.length → g'.io b (base + cs.length + i) = some (f' i)) (k2 : ∀ i (h : i < ds.length), RelV g' ds[i] (f' i))
    (hn : n + k ≤ cap) (hn0 : n = 0 → es = 1) (ht : g'.tk t = some (b, base + cs.length + ds.length, lim)) (hlim : lim = base + cap * es) :
    RelV g' (.list false (.tok t) (n + k) (cs ++ ds)) (.slice (some ⟨b, base, none⟩) (n + k) cap) := by
  refine .list (fun i => if i < cs.length then f i else f' (i - cs.length)) hn ⟨lim, es, ?_, ?_, ?_, fun h => hn0 (by omega)⟩ (fun i hi => ?_) (fun i hi => ?_)
  · rw [ht, List.length_append, Nat.add_assoc]
  · rw [List.length_append, hcs, hds, Nat.add_mul]
  · rw [hlim, List.length_append, hcs, hds, Nat.add_assoc, ← Nat.add_mul, ← Nat.add_mul]; congr 2; omega
  · by_cases hc : i < cs.length
    · rw [if_pos hc]; exact h1 i hc
    · rw [if_neg hc]
      have := k1 (i - cs.length) (by simp at hi; omega)
      rw [← this]; congr 1; omega
  · by_cases hc : i < cs.length
    · rw [if_pos hc, List.getElem_append_left hc]; exact h2 i hc
    · rw [if_neg hc, List.getElem_append_right (by omega)]; exact k2 _ (by simp at hi; omega)

/-- What the rule's ends ask. -/
def AEnd (P : Program) (g : Ghost) (A : Store) (K : AVal → Store → Prop) (w : World) (s : Sem Value) : Prop :=
  ∃ cv w' g' v A', s.run P w = .ok cv w' ∧ K v A' ∧ IExt g A.next g' ∧ g'.mu = g.mu ∧ RelV g' v cv ∧ Rel g' A' w' ∧ A'.next = A.next

structure AppH (P : Program) (g : Ghost) (A : Store) (w : World) (sT xT el : TypeId) (es bt n k : Nat) (zs cs ds : List AVal) (cx : Value) (c : Array Value) : Prop where
  hu : P.underlying sT = some (.slice el)
  hes : tsz P el = some es
  hbt : tbytes P el = some bt
  hz : zeroA P el = some zs
  hzl : zs.length = es
  hb0 : 0 < bt
  hbl : bt ≤ 1048576
  hd : ∃ d, P.underlying xT = some d ∧ ∀ k, d ≠ .int k
  hcs : cs.length = n * es
  hlim : (n + k) * bt ≤ 35184372088832
  hdl : ds.length = k * es
  hl : ∀ w, (Builtin.lenOf cx).run P w = .ok k w
  hf : ∀ w' : World, (∀ a, w'.cell? a = w.cell? a) → (Builtin.firstCells es k cx).run P w' = .ok c w'
  hc : RelC g ds c

theorem zero_any {el : TypeId} {zs : List AVal} (hz : zeroA P el = some zs) : ∃ z : Value, (∀ w, (zeroValue el).run P w = .ok z w) ∧ ∀ g, RelC g zs z.cells := by
  unfold zeroA at hz
  split at hz
  · rename_i i hi
    split at hz
    · rename_i z hzz
      split at hz
      · rename_i hall
        cases hz
        refine ⟨z, fun w => by simp [zeroValue, typeInfo, hi, hzz], fun g => ⟨by simp, fun j hj => ?_⟩⟩
        have hj' : j < z.cells.size := by simpa using hj
        have e : z.cells.getD j undef = z.cells[j] := by simp [Array.getD, hj']
        rw [e]
        exact ⟨by simpa using RelV.ofVal0 g (z.cells[j]), List.all_eq_true.1 hall _ (by simp)⟩
      · cases hz
    · cases hz
  · cases hz

theorem AppH.grow {sT xT el ty : TypeId} {es bt n k : Nat} {zs cs ds : List AVal} {cx : Value} {c : Array Value} (H : AppH P g A w sT xT el es bt n k zs cs ds cx c) (hR : Rel g A w) {base : Option Addr} {cap : Nat} {c0 : Array Value} {K : AVal → Store → Prop} {r : Room}
    (hr : cap < n + k) (hc0 : RelC g cs c0) (h0 : ∀ w' : World, (∀ a, w'.cell? a = w.cell? a) → (Builtin.firstCells es n (.slice base n cap)).run P w' = .ok c0 w')
    (hK : K (.list false (.tok A.ntok) (n + k) (cs ++ ds)) (A.tok r)) : AEnd P g A K w (Builtin.append_ #[sT, xT] ty #[.slice base n cap, cx]) := by
  obtain ⟨d, hd, hnd⟩ := H.hd
  obtain ⟨z, hzr, hzc⟩ := zero_any H.hz
  obtain ⟨cap', hcap', hrun⟩ := run_append_grow (ty := ty) (base := base) (cx := cx) H.hu H.hes hd hnd H.hbt H.hb0 H.hlim H.hbl H.hl H.hf hr h0 hzr
  have hcc := hc0.append H.hc
  have hsz : (c0 ++ c).size = (cs ++ ds).length := hcc.1
  generalize hC : c0 ++ c = C at hcc hsz hrun
  have hext : (C ++ Builtin.zeroCells z.cells (cap' - (n + k))).extract 0 (cs ++ ds).length = C := by
    rw [← hsz, Array.extract_append]; simp
  obtain ⟨g', hx1, hx2, hx3, hR', hio, hrel⟩ := (hR.draw).rowTok (cs := cs ++ ds) (c := C ++ Builtin.zeroCells z.cells (cap' - (n + k))) (by rw [hext]; exact hcc) (by rw [← hsz]; simp) el r
  have hlen : (cs ++ ds).length = (n + k) * es := by rw [List.length_append, H.hcs, H.hdl, Nat.add_mul]
  have hw0 : w.drew.heap.size = w.heap.size := rfl
  rw [hw0] at hio hx3
  refine ⟨_, _, g', .list false (.tok A.ntok) (n + k) (cs ++ ds), A.tok r, hrun, hK, hx1, hx2, ?_, hR', rfl⟩
  refine .list (fun i => (C ++ Builtin.zeroCells z.cells (cap' - (n + k))).getD i undef) hcap' ⟨_, es, hx3.trans (by rw [Nat.zero_add]), hlen, ?_, fun h => by omega⟩ hio hrel
  have hzs : z.cells.size = es := by rw [(hzc g).1, H.hzl]
  rw [Array.size_append, hsz, zeroCells_size, hzs, Nat.zero_add]

theorem AppH.room {sT xT el ty : TypeId} {es bt n k : Nat} {zs cs ds : List AVal} {cx : Value} {c : Array Value} (H : AppH P g A w sT xT el es bt n k zs cs ds cx c) (hR : Rel g A w) {b base cap t lim e : Nat} {K : AVal → Store → Prop}
    (f : Nat → Value) (h1 : ∀ i, i < cs.length → g.io b (base + i) = some (f i)) (h2 : ∀ i (h : i < cs.length), RelV g cs[i] (f i)) (ht : A.live t = true)
    (htk : g.tk t = some (b, base + cs.length, lim)) (he : cs.length = n * e) (hlim : lim = base + cs.length + (cap - n) * e) (hee : n = 0 → e = es) (hn0 : n = 0 → es = 1) (hr : n + k ≤ cap)
    (hK : K (.list false (.tok A.ntok) (n + k) (cs ++ ds)) (A.tok (.tok t))) : AEnd P g A K w (Builtin.append_ #[sT, xT] ty #[.slice (some ⟨b, base, none⟩) n cap, cx]) := by
  obtain ⟨d, hd, hnd⟩ := H.hd
  have hE : e = es := by
    by_cases hn : n = 0
    · exact hee hn
    · have := H.hcs.symm.trans he
      exact (Nat.eq_of_mul_eq_mul_left (Nat.pos_of_ne_zero hn) this).symm
  subst hE
  obtain ⟨b', fin, lim', k1, k0, c', e', fr, k2, k3, k4, k5, k6, k7⟩ := hR.toks t ht
  rw [htk] at k1; cases k1
  have hfit : base + cs.length + ds.length ≤ lim := by
    rw [hlim, H.hdl]
    have : k * e ≤ (cap - n) * e := Nat.mul_le_mul_right _ (by omega)
    omega
  have hcl : c.toList.length = ds.length := by simpa using H.hc.1
  obtain ⟨w', hrun, hw⟩ := run_storeCells (P := P) c.toList w b (base + cs.length) 0 c' e' fr k2 (by rw [hcl]; omega) k5 (fun v hv => by
    obtain ⟨i, hi, rfl⟩ := List.getElem_of_mem hv
    have := (H.hc.2 i (by omega)).2
    have hi' : i < c.size := by simpa using hi
    simpa [Array.getD, hi'] using this)
  have hst : (storeCells ((⟨b, base, none⟩ : Addr).add (n * e)) c.toList).run P w = .ok () w' := by
    rw [addr_add, ← H.hcs]; exact hrun
  have hap := run_append_room (ty := ty) (base := some ⟨b, base, none⟩) (w' := w') H.hu H.hes hd hnd (H.hl w) (H.hf w fun _ => rfl) hr hst
  obtain ⟨g', hx1, hx2, hx3, hR', hio, hrel⟩ := hR.fill ht htk k2 hw hcl hfit (fun i hi => by
    have := H.hc.2 i hi
    simpa [List.getD, Array.getD_eq_getD_getElem?] using this)
  have hX := hx1.ext (n := 0) (Nat.zero_le _)
  refine ⟨_, w', g', _, _, hap, hK, hx1, hx2, ?_, hR', rfl⟩
  refine listRel_append (es := e) f (fun i => c.toList.getD i undef) H.hcs H.hdl (fun i hi => hX.io _ _ _ (h1 i hi)) (fun i hi => (h2 i hi).mono hX) hio hrel hr hn0 hx3 ?_
  rw [hlim, H.hcs, Nat.add_assoc, ← Nat.add_mul]; congr 2; omega

theorem appendA_sound {sT xT ty : TypeId} {s x : AVal} {cs' cx : Value} {K : AVal → Store → Prop} (h : appendA P A sT xT s x K) (hs : RelV g s cs') (hx : RelV g x cx) (hR : Rel g A w) :
    AEnd P g A K w (Builtin.append_ #[sT, xT] ty #[cs', cx]) := by
  obtain ⟨el, nil, r, n, cs, es, bt, zs, k, ds, p, hE, rfl, hes, hbt, hz, hsrc, ⟨htk, hzl, hb0, hbl⟩, hcs, hp, hlim, hroom, hnil, hne, hK1, hK2⟩ := appendA_inv h
  · · · skip
        have hu : P.underlying sT = some (.slice el) := by
          unfold slE at hE; split at hE
          · rename_i e he; cases hE; exact he
          · cases hE
        obtain ⟨d, hd, hdk⟩ := tk_inv htk (by simp)
        have hnd : ∀ k, d ≠ .int k := by intro k e; subst e; simp [tkd] at hdk
        obtain ⟨hl, hdl, c, hf, hc⟩ := srcA_sound (P := P) hsrc hp hx hR
        have H : AppH P g A w sT xT el es bt n k zs cs ds cx c := ⟨hu, hes, hbt, hz, hzl, hb0, hbl, ⟨d, hd, hnd⟩, hcs, hlim, hdl, hl, hf, hc⟩
        cases hs with
        | listNil r =>
          obtain rfl := hnil rfl
          by_cases hk : k = 0
          · subst hk
            have hds0 : ds = [] := by cases ds with
              | nil => rfl
              | cons => simp at hdl
            have hc0 : c = #[] := by apply Array.eq_empty_of_size_eq_zero; rw [hc.1, hds0]; rfl
            have hrun := run_append_room (ty := ty) (n := 0) (base := none) (cap := 0) (w' := w) hu hes hd hnd (hl w) (hf w fun _ => rfl) (by omega) (by simp)
            exact ⟨_, w, g, _, A, hrun, hK1 ⟨rfl, rfl⟩, (PExt.refl g).iext _, rfl, .listNil _, hR, rfl⟩
          · exact H.grow hR (base := none) (cap := 0) (c0 := #[]) (by omega) ⟨by simp, fun i hi => by simp at hi⟩ (fun w' _ => by simp [Builtin.firstCells]) (hK2 (fun hh => hk hh.1))
        | list f hn hr h1 h2 =>
          rename_i b base cap
          by_cases hroomy : n + k ≤ cap
          · cases r with
            | full =>
              simp only [RoomRel] at hr
              have hk : k = 0 := by omega
              subst hk
              have hds0 : ds = [] := by cases ds with
                | nil => rfl
                | cons => simp at hdl
              have hc0 : c = #[] := by apply Array.eq_empty_of_size_eq_zero; rw [hc.1, hds0]; rfl
              subst hc0
              have hrun := run_append_room (ty := ty) (n := n) (base := some ⟨b, base, none⟩) (cap := cap) (w' := w) hu hes hd hnd (hl w) (hf w fun _ => rfl) hroomy (by simp [storeCells])
              exact ⟨_, w, g, _, A, hrun, hK1 ⟨rfl, rfl⟩, (PExt.refl g).iext _, rfl, .list f hn hr h1 h2, hR, rfl⟩
            | tok t =>
              obtain ⟨lim, e, q1, q2, q3, q4⟩ := hr
              have hn1 : n = 0 → es = 1 := fun h => by rcases hne h with h' | h'; cases h'; exact h'
              exact H.room hR f h1 h2 hroom q1 q2 q3 (fun h => by rw [q4 h, hn1 h]) hn1 hroomy (hK2 (fun hh => by cases hh.2))
            | lost => exact hroom.elim
          · obtain ⟨c0, g1, g2, g3, g4⟩ := run_loadCells_at (P := P) (g := g) (w := w) (b := b) (base := base) (cs := cs) ⟨f, fun i hi => hR.io _ _ _ (h1 i hi), h2⟩
            refine H.grow hR (base := some ⟨b, base, none⟩) (cap := cap) (c0 := c0) (by omega) ⟨g2, fun i hi => ⟨g3 i hi, g4 i hi⟩⟩ (fun w' hw' => ?_) (hK2 ?_)
            · rw [hcs] at g1
              simp [Builtin.firstCells, g1 w' hw']
            · rintro ⟨rfl, rfl⟩
              simp only [RoomRel] at hr; omega

end Go.Cov

namespace Go.Cov
open Go.RowKit
variable {P : Program} {g : Ghost} {A F : Store} {w : World}

/-- A store, and another one beside it. -/
def Store.plus (A F : Store) : Store :=
  { A with objs := fun i => match A.objs i with | some o => some o | none => F.objs i, live := fun t => A.live t || F.live t }
structure Dis (A F : Store) : Prop where
  objs : ∀ i, F.objs i ≠ none → A.objs i = none
  next : ∀ i, A.next ≤ i → F.objs i = none
  live : ∀ t, F.live t = true → A.live t = false ∧ t < A.ntok

theorem Store.plus_some {i : Nat} {o : AObj} (h : A.objs i = some o) : (A.plus F).objs i = some o := by simp [Store.plus, h]
theorem Store.plus_put (A F : Store) (i : Nat) (o : AObj) : (A.put i o).plus F = (A.plus F).put i o := by
  simp only [Store.plus, Store.put, Store.mk.injEq, and_true]
  exact funext fun j => by by_cases h : j = i <;> simp [h]
theorem Store.plus_bump (A F : Store) (n : Nat) : (A.bump n).plus F = (A.plus F).bump n := rfl
theorem Store.plus_tok (h : Dis A F) (k : Room) (hk : ∀ t, k = .tok t → A.live t = true) : (A.tok k).plus F = (A.plus F).tok k := by
  simp only [Store.plus, Store.tok, Store.mk.injEq, and_true, true_and]
  refine funext fun t => ?_
  by_cases h1 : t = A.ntok
  · simp [h1]
  · by_cases h2 : k = .tok t
    · have : F.live t = false := by
        cases hf : F.live t with
        | false => rfl
        | true => have := (h.live t hf).1; rw [hk t h2] at this; cases this
      simp [h1, h2, this]
    · simp [h1, h2]

theorem Dis.put (h : Dis A F) {i : Nat} (o : AObj) (hi : F.objs i = none) : Dis (A.put i o) F :=
  ⟨fun j hj => by
    have : j ≠ i := by rintro rfl; exact hj hi
    simp [Store.put, this, h.objs j hj], h.next, h.live⟩
theorem Dis.none (h : Dis A F) {i : Nat} {o : AObj} (hi : A.objs i = some o) : F.objs i = none := by
  cases hf : F.objs i with
  | none => rfl
  | some x => have := h.objs i (by simp [hf]); rw [hi] at this; cases this
theorem Dis.bump (h : Dis A F) (n : Nat) : Dis (A.bump n) F := ⟨h.objs, fun i hi => h.next i (by have : A.next + n ≤ i := hi; omega), h.live⟩
theorem Dis.tok (h : Dis A F) (k : Room) : Dis (A.tok k) F :=
  ⟨h.objs, h.next, fun t ht => by
    obtain ⟨h1, h2⟩ := h.live t ht
    refine ⟨?_, by show t < A.ntok + 1; omega⟩
    have : t ≠ A.ntok := by omega
    simp [Store.tok, this, h1]⟩
def emptyS (n t : Nat) : Store := ⟨fun _ => none, fun _ => false, n, t⟩
theorem Dis.empty (A : Store) (n t : Nat) : Dis A (emptyS n t) := ⟨fun _ h => absurd rfl h, fun _ _ => rfl, fun _ h => by cases h⟩
theorem Store.plus_empty (A : Store) (n t : Nat) : A.plus (emptyS n t) = A := by
  cases A
  simp only [Store.plus, emptyS, Store.mk.injEq, and_true, Bool.or_false]
  exact funext fun i => by split <;> simp_all

/-- What is said of the store, with the frame beside it. -/
def KF (F : Store) (K : AVal → Store → Prop) : AVal → Store → Prop := fun v B => ∃ A', K v A' ∧ B = A'.plus F ∧ Dis A' F

/-! ### Reading -/
def Sub (A B : Store) : Prop := ∀ id o, A.objs id = some o → B.objs id = some o
theorem sub_plus (A F : Store) : Sub A (A.plus F) := fun _ _ h => Store.plus_some h
section
variable {B : Store}
theorem convA_sub (hS : Sub A B) {s d : TypeId} {x : AVal} {r : Cd × AVal} (h : convA P A s d x = some r) : convA P B s d x = some r := by
  unfold convA at h ⊢
  split at h <;> try exact h
  rename_i id off n m e0
  split at h
  · rename_i hc
    rw [if_pos hc]
    split at h
    · rename_i cs ho; rw [hS _ _ ho]; exact h
    · cases h
  · cases h
theorem lenA_sub (hS : Sub A B) {t : TypeId} {x : AVal} {r : Cd × AVal} (h : lenA P A t x = some r) : lenA P B t x = some r := by
  unfold lenA at h ⊢
  split at h <;> try exact h
  rename_i id
  split at h
  · rename_i cs ho; rw [hS _ _ ho]; exact h
  · cases h
theorem pureBuiltin_sub (hS : Sub A B) {b : Builtin} {ts : List TypeId} {xs : List AVal} {r : Cd × AVal} (h : pureBuiltin P A b ts xs = some r) : pureBuiltin P B b ts xs = some r := by
  unfold pureBuiltin at h ⊢
  split at h <;> first | exact lenA_sub hS h | exact h
theorem pureOp_sub (hS : Sub A B) [Cmp P] {e : Operand → AVal} {o : Op} {r : Cd × AVal} (h : pureOp P e A o = some r) : pureOp P e B o = some r := by
  unfold pureOp at h ⊢
  split at h <;> try exact h
  · split at h <;> try exact h
    rename_i id off hx
    split at h
    · rename_i cs ho; simp only [hS _ _ ho]; exact h
    · cases h
  · exact convA_sub hS h
  · split at h
    · exact pureBuiltin_sub hS h
    · cases h
theorem pureOp_plus [Cmp P] {e : Operand → AVal} {o : Op} {r : Cd × AVal} (h : pureOp P e A o = some r) : pureOp P e (A.plus F) o = some r := pureOp_sub (sub_plus A F) h
end
theorem cellsK_plus {id : Nat} {cs : List AVal} (h : cellsK A id = some cs) : cellsK (A.plus F) id = some cs := by
  unfold cellsK at h ⊢
  split at h
  · rename_i o ho; rw [Store.plus_some ho]; exact h
  · cases h
theorem cellsK_inv {id : Nat} {cs : List AVal} (h : cellsK A id = some cs) : A.objs id = some (.cells cs) := by
  unfold cellsK at h
  split at h
  · rename_i o ho; cases h; exact ho
  · cases h
theorem srcA_plus {es : Nat} {x : AVal} {r : Nat × List AVal × Cd} (h : srcA A es x = some r) : srcA (A.plus F) es x = some r := by
  unfold srcA at h ⊢
  split at h <;> try exact h
  rename_i id off k m e0
  split at h
  · rename_i cs ho; rw [Store.plus_some ho]; exact h
  · cases h

theorem optK_mono {α : Type} {o o' : Option α} {K K' : α → Prop} (h : optK o K) (ho : ∀ a, o = some a → o' = some a) (hK : ∀ a, o = some a → K a → K' a) : optK o' K' := by
  unfold optK at h ⊢
  split at h
  · rename_i a; rw [ho a rfl]; exact hK a rfl h
  · exact h.elim

theorem appendA_plus (hD : Dis A F) {s t : TypeId} {x y : AVal} {K : AVal → Store → Prop} (h : appendA P A s t x y K) : appendA P (A.plus F) s t x y (KF F K) := by
  unfold appendA at h ⊢
  refine optK_mono h (fun _ h => h) fun el _ h => optK_mono h (fun _ h => h) fun q _ h => optK_mono h (fun _ h => h) fun es _ h => optK_mono h (fun _ h => h) fun bt _ h => optK_mono h (fun _ h => h) fun zs _ h =>
    optK_mono h (fun _ h => srcA_plus h) fun u _ h => ?_
  obtain ⟨h1, h2, h3, h4, h5, h6, h7, h8, h9⟩ := h
  refine ⟨h1, h2, h3, h4, ?_, h6, h7, fun hc => ⟨A, h8 hc, rfl, hD⟩, fun hc => ⟨_, h9 hc, (Store.plus_tok hD _ ?_).symm, hD.tok _⟩⟩
  · revert h5
    cases q.2.1 with
    | tok t => intro h5; simp only [Store.room, Store.plus] at h5 ⊢; simp [h5]
    | _ => exact fun h => h
  · intro t ht
    rw [ht] at h5
    exact h5
end Go.Cov

namespace Go.Cov
open Go.RowKit

/-- What goes with a program: which structs are compared; what package-level tables hold. -/
class Env (P : Program) extends Cmp P where
  gl : Nat → AVal
  mixed : P.follows .mixedOrders = true
  keyS : TypeId → Bool
  keyOK : ∀ t, keyS t = true → (match P.underlying t with | some (.array _ _) | some (.struct _) => true | _ => false) = true ∧
    ∀ ks, kinds t = some ks → ∀ (w : World) (em : Bool) (xs : List Value), xs.map vck = ks.map some → (Instr.checkKey em 10000 t (.agg xs.toArray)).run P w = .ok () w

variable {P : Program} {g : Ghost} {A : Store} {w : World}

def GlobOK (P : Program) [E : Env P] (g : Ghost) : Prop := ∀ i, RelV g (E.gl i) (.pointer (some ⟨i, 0, none⟩))
theorem GlobOK.mono [Env P] {g' : Ghost} {n : Nat} (h : GlobOK P g) (hx : g.Ext n g') : GlobOK P g' := fun i => (h i).mono hx

abbrev Fr := List AVal
def ev (P : Program) [E : Env P] (fr : Fr) : Operand → AVal
  | .tmp t => fr.getD t .junk
  | .const v => ofVal v
  | .global i => E.gl i
  | .func f => .func (.func f) [] []

def RelFr (g : Ghost) (fr : Fr) (a : Act) : Prop := a.tmps.size = fr.length ∧ ∀ i (h : i < fr.length), RelV g fr[i] (a.tmps.getD i undef)
theorem RelFr.mono {g' : Ghost} {n : Nat} {fr : Fr} {a : Act} (h : RelFr g fr a) (hx : g.Ext n g') : RelFr g' fr a := ⟨h.1, fun i hi => (h.2 i hi).mono hx⟩
theorem RelFr.ev [Env P] {fr : Fr} {a : Act} (h : RelFr g fr a) (hg : GlobOK P g) (x : Operand) : RelV g (ev P fr x) (a.eval x) := by
  cases x with
  | tmp t =>
    simp only [Cov.ev, Act.eval]
    by_cases ht : t < fr.length
    · have := h.2 t ht
      rw [getD_getElem] at this; exact this
    · have : fr.getD t .junk = .junk := by simp [List.getD, List.getElem?_eq_none (Nat.le_of_not_lt ht)]
      rw [this]; exact .junk _
  | const v => exact RelV.ofVal g v
  | global i => exact hg i
  | func f => exact .func #[] #[] rfl rfl (fun i hi => by simp at hi) (fun i hi => by simp at hi)

def putF (fr : Fr) (dst : Option Tmp) (v : AVal) : Fr := match dst with | some d => fr.set d v | none => fr
theorem RelFr.put {fr : Fr} {a : Act} (h : RelFr g fr a) (dst : Option Tmp) {v : AVal} {cv : Value} (hv : RelV g v cv) : RelFr g (putF fr dst v) (a.put dst cv) := by
  cases dst with
  | none => exact h
  | some d =>
    refine ⟨by simp [putF, Act.put, h.1], fun i hi => ?_⟩
    have hi' : i < fr.length := by simpa [putF] using hi
    have hia : i < a.tmps.size := by rw [h.1]; exact hi'
    simp only [putF, Act.put]
    by_cases hd : d = i
    · subst hd
      simp [Array.getD_eq_getD_getElem?, hia, hv]
    · have := h.2 i hi'
      rw [List.getElem_set_ne hd]
      simp only [Array.getD_eq_getD_getElem?, Array.getElem?_setIfInBounds] at this ⊢
      rw [if_neg hd]; exact this
theorem put_defers (a : Act) (dst : Option Tmp) (v : Value) : (a.put dst v).defers = a.defers := by cases dst <;> rfl

/-! ### One operation -/
structure OExt (g : Ghost) (n id : Nat) (g' : Ghost) : Prop where
  mu : ∀ j b, g.mu j = some b → g'.mu j = some b
  old : ∀ j, j < n → j ≠ id → g'.mu j = g.mu j
  io : ∀ b o v, g.io b o = some v → g'.io b o = some v
  tk : ∀ t x, g.tk t = some x → g'.tk t = some x
  pf : ∀ b s, g.pf b = some s → g'.pf b = some s
  dfr : ∀ b t, g.dfr b = some t → g'.dfr b = some t
  w0 : g'.w0 = g.w0
theorem IExt.oext {g g' : Ghost} {id : Nat} (h : IExt g id g') (n : Nat) : OExt g n id g' := ⟨(h.ext (Nat.zero_le _)).mu, fun j _ hj => h.mu j hj, h.io, h.tk, h.pf, h.dfr, h.w0⟩
theorem IExt.oext' {g g' : Ghost} {n : Nat} (h : IExt g n g') (hm : g'.mu = g.mu) (id : Nat) : OExt g n id g' := ⟨(h.ext (Nat.zero_le _)).mu, fun _ _ _ => by rw [hm], h.io, h.tk, h.pf, h.dfr, h.w0⟩
theorem PExt.oext {g g' : Ghost} (h : PExt g g') (n id : Nat) : OExt g n id g' := (h.iext id).oext n
theorem Ghost.Ext.oext {g g' : Ghost} {n : Nat} (h : g.Ext n g') (id : Nat) : OExt g n id g' := ⟨h.mu, fun j hj _ => h.old j hj, h.io, h.tk, h.pf, h.dfr, h.w0⟩
theorem OExt.ext {g g' : Ghost} {n id m : Nat} (h : OExt g n id g') (hm : m ≤ id) (hn : m ≤ n) : g.Ext m g' := ⟨h.mu, fun j hj => h.old j (by omega) (by omega), h.io, h.tk, h.pf, h.dfr, h.w0⟩

/-- The fence of all: every function, any depth; in a round, or not. -/
def FR (ro : Option Nat) : Fence := { Fence.wide with round := ro }
theorem FR_fn (ro : Option Nat) (f : FuncId) : (FR ro).fn f := trivial
theorem FR_room (ro : Option Nat) (n : Nat) : (FR ro).room n := fun _ h => by simp [FR, Fence.wide] at h

def enters (P : Program) (f : FuncId) : Bool := match P.funcs[f]? with | some fn => fn.body.isSome && !(fn.name == "runtime.NumGoroutine") | none => false
theorem run_callFunc {f : FuncId} {args : Array Value} (h : enters P f = true) : (callFunc f args).run P w = .ok (.enter f args) w := by
  unfold enters at h
  split at h
  · rename_i fn hf
    simp only [Bool.and_eq_true, Bool.not_eq_true'] at h
    have hn : ¬ fn.name = "runtime.NumGoroutine" := by have := h.2; simpa using this
    have hbn : ¬ fn.body = none := by cases hb' : fn.body <;> simp [hb'] at h ⊢
    simp [callFunc, hf, hn, hbn]
  · cases h

/-- Of a call: with nothing beside the store; and with whatever may stand beside it. -/
def callVC0 (P : Program) [Env P] (f : FuncId) (args : List AVal) (A : Store) (K : AVal → Store → Prop) : Prop :=
  enters P f = true ∧ ∀ (g : Ghost) (w : World) (cargs : Array Value), GlobOK P g → RelVs g args cargs → Rel g A w →
    CallsIn Fence.wide 0 P f cargs w fun e w' => ∃ v cv g' A', e = .returned cv ∧ K v A' ∧ g.Ext A.next g' ∧ RelV g' v cv ∧ Rel g' A' w' ∧ A.next ≤ A'.next
def callVC (P : Program) [Env P] (f : FuncId) (args : List AVal) (A : Store) (K : AVal → Store → Prop) : Prop := ∀ F, Dis A F → callVC0 P f args (A.plus F) (KF F K)
theorem KF.mono {F : Store} {K K' : AVal → Store → Prop} (hK : ∀ v A', K v A' → K' v A') : ∀ v A', KF F K v A' → KF F K' v A' := fun _ _ ⟨A', h, r⟩ => ⟨A', hK _ _ h, r⟩
theorem callVC0.mono [Env P] {f : FuncId} {args : List AVal} {K K' : AVal → Store → Prop} (h : callVC0 P f args A K) (hK : ∀ v A', K v A' → K' v A') : callVC0 P f args A K' :=
  ⟨h.1, fun g w cargs hg ha hR => (h.2 g w cargs hg ha hR).mono fun _ _ ⟨v, cv, g', A', e, k, r⟩ => ⟨v, cv, g', A', e, hK _ _ k, r⟩⟩
theorem callVC.mono [Env P] {f : FuncId} {args : List AVal} {K K' : AVal → Store → Prop} (h : callVC P f args A K) (hK : ∀ v A', K v A' → K' v A') : callVC P f args A K' :=
  fun F hD => (h F hD).mono (KF.mono hK)

/-- What an operation must do, said of the model. -/
def OpSem0 (P : Program) [Env P] (fr : Fr) (A : Store) (o : Oper) (id : Nat) (K : AVal → Store → Prop) : Prop :=
  ∀ (ro : Option Nat) (g : Ghost) (w : World) (a : Act), GlobOK P g → RelFr g fr a → Rel g A w → g.mu id = none → id < A.next → ∀ (next : Act → World → Prop) (Q : Exit → Act → World → Prop),
    (∀ v A' g' cv w', K v A' → OExt g A.next id g' → RelV g' v cv → Rel g' A' w' → A.next ≤ A'.next → next (a.put o.dst cv) w') → o.wpIn (FR ro) 0 P a w next Q
def Same (P : Program) [Env P] (o : Oper) (fr fr' : Fr) : Prop := ∀ x ∈ o.op.operands, ev P fr' x = ev P fr x
def OpSem (P : Program) [Env P] (fr : Fr) (A : Store) (o : Oper) (id : Nat) (K : AVal → Store → Prop) : Prop := ∀ F, Dis A F → F.objs id = none → ∀ fr', Same P o fr fr' → OpSem0 P fr' (A.plus F) o id (KF F K)
theorem Same.refl [Env P] (o : Oper) (fr : Fr) : Same P o fr fr := fun _ _ => rfl
theorem OpSem0.mono [Env P] {fr : Fr} {o : Oper} {id : Nat} {K K' : AVal → Store → Prop} (h : OpSem0 P fr A o id K) (hK : ∀ v A', K v A' → K' v A') : OpSem0 P fr A o id K' :=
  fun ro g w a hg hf hR hid hlt next Q hn => h ro g w a hg hf hR hid hlt next Q fun v A' g' cv w' hk => hn v A' g' cv w' (hK _ _ hk)
theorem OpSem.mono [Env P] {fr : Fr} {o : Oper} {id : Nat} {K K' : AVal → Store → Prop} (h : OpSem P fr A o id K) (hK : ∀ v A', K v A' → K' v A') : OpSem P fr A o id K' :=
  fun F hD hid fr' hs => (h F hD hid fr' hs).mono (KF.mono hK)
theorem OpSem.same [Env P] {fr fr' : Fr} {o : Oper} {id : Nat} {K : AVal → Store → Prop} (h : OpSem P fr A o id K) (hs : Same P o fr fr') : OpSem P fr' A o id K :=
  fun F hD hid fr'' hs' => h F hD hid fr'' fun x hx => (hs' x hx).trans (hs x hx)

theorem about_any {ro : Option Nat} {o : Oper} {w : World} {ρ : Operand → Value} : ∀ f, o.about P w ρ = some f → (FR ro).fn f := fun _ _ => trivial

theorem wpIn_value {ro : Option Nat} {o : Oper} {a : Act} {next : Act → World → Prop} {Q : Exit → Act → World → Prop} {cv : Value} {w' : World} (hd : ∀ c, o.op ≠ .defer c)
    (hr : (execOp a.eval o).run P w = .ok (.value cv) w') (hn : next (a.put o.dst cv) w') : o.wpIn (FR ro) 0 P a w next Q := by
  refine ⟨about_any, ?_⟩
  rw [Oper.semAt_eq _ _ _ hd, hr]; exact hn
theorem wpIn_skipped {ro : Option Nat} {o : Oper} {a : Act} {next : Act → World → Prop} {Q : Exit → Act → World → Prop} {w' : World} (hd : ∀ c, o.op ≠ .defer c)
    (hr : (execOp a.eval o).run P w = .ok .skip w') (hn : next (a.put o.dst undef) w') : o.wpIn (FR ro) 0 P a w next Q := by
  refine ⟨about_any, ?_⟩
  rw [Oper.semAt_eq _ _ _ hd, hr]; exact hn

def resK (o : Option (Cd × AVal)) (K : AVal → Prop) : Prop := match o with | some (p, v) => p.p ∧ K v | none => False
def ptrOf : AVal → Option (Nat × Nat) | .ptr id off => some (id, off) | _ => none
def funK (v : AVal) (K : FuncId → List AVal → List AVal → Prop) (other : Prop) : Prop := match v with | .func (.func k) a b => K k a b | _ => other
theorem resK_mono {o o' : Option (Cd × AVal)} {K K' : AVal → Prop} (h : resK o K) (ho : ∀ a, o = some a → o' = some a) (hK : ∀ v, K v → K' v) : resK o' K' := by
  unfold resK at h ⊢
  split at h
  · rename_i p v; rw [ho _ rfl]; exact ⟨h.1, hK v h.2⟩
  · exact h.elim
theorem resK_inv {o : Option (Cd × AVal)} {K : AVal → Prop} (h : resK o K) : ∃ p v, o = some (p, v) ∧ p.p ∧ K v := by
  unfold resK at h
  split at h
  · exact ⟨_, _, rfl, h⟩
  · exact h.elim
theorem optK_inv {α : Type} {o : Option α} {K : α → Prop} (h : optK o K) : ∃ a, o = some a ∧ K a := by
  unfold optK at h
  split at h
  · exact ⟨_, rfl, h⟩
  · exact h.elim
theorem ptrOf_inv {v : AVal} {q : Nat × Nat} (h : ptrOf v = some q) : v = .ptr q.1 q.2 := by
  unfold ptrOf at h; split at h
  · cases h; rfl
  · cases h

/-- What a store comes to. -/
def storeA (P : Program) (A : Store) (t : TypeId) (a v : AVal) (K : AVal → Store → Prop) : Prop :=
  optK (ptrOf a) fun q => optK (cellsK A q.1) fun cs => optK (cellsOf v) fun vs => optK (tsz P t) fun n =>
    (vs.length = n ∧ q.2 + vs.length ≤ cs.length) ∧ K (.tup []) (A.put q.1 (.cells (setCells cs q.2 vs)))

def isStrToBytes (P : Program) (s d : TypeId) : Bool := decide (tk P s = .str) && isU8 P d

abbrev CallP := FuncId → List AVal → Store → (AVal → Store → Prop) → Prop
abbrev OpP := Fr → Store → Oper → Nat → (AVal → Store → Prop) → Prop

def opVCg (P : Program) [Env P] (CV : CallP) (OS : OpP) (fr : Fr) (A : Store) (o : Oper) (id : Nat) (K : AVal → Store → Prop) : Prop :=
  match o.op with
  | .alloc t => optK (zeroA P t) fun zs => K (.ptr id 0) (A.put id (.cells zs))
  | .box _ x => optK (cellsOf (ev P fr x)) fun cs => K (.ptr id 0) (A.put id (.cells cs))
  | .store t a x => storeA P A t (ev P fr a) (ev P fr x) K
  | .call c => match c.callee with
    | .value f => funK (ev P fr f) (fun k first cap => CV k (first ++ c.args.toList.map (ev P fr) ++ cap) A K) (OS fr A o id K)
    | .invoke _ _ => OS fr A o id K
    | .builtin b => match b, c.argTypes.toList, c.args.toList with
      | .append, [t, u], [s, x] => appendA P A t u (ev P fr s) (ev P fr x) K
      | .len, _, _ | .max, _, _ | .min, _, _ => resK (pureOp P (ev P fr) A (.call c)) fun v => K v A
      | _, _, _ => OS fr A o id K
  | .lookup .. | .mapUpdate .. | .makeMap .. | .range .. | .next .. | .entry .. | .typeAssert .. | .makeSlice .. | .panic .. | .defer .. => OS fr A o id K
  | .convert s d x => if isStrToBytes P s d then OS fr A o id K else resK (pureOp P (ev P fr) A (.convert s d x)) fun v => K v A
  | op => resK (pureOp P (ev P fr) A op) fun v => K v A
def opVC (P : Program) [Env P] := opVCg P (callVC P) (OpSem P)

/-- The frame goes along. -/
theorem opVC_frame [Env P] {fr : Fr} {o : Oper} {id : Nat} {K : AVal → Store → Prop} {F : Store} (hD : Dis A F) (hid : F.objs id = none) (h : opVC P fr A o id K) :
    opVCg P (callVC0 P) (OpSem0 P) fr (A.plus F) o id (KF F K) := by
  obtain ⟨dst, op, type, pos, after, guard⟩ := o
  have pur : ∀ {op : Op}, (resK (pureOp P (ev P fr) A op) fun v => K v A) → resK (pureOp P (ev P fr) (A.plus F) op) fun v => KF F K v (A.plus F) :=
    fun h => resK_mono h (fun _ h => pureOp_plus h) fun v hv => ⟨A, hv, rfl, hD⟩
  cases op with
  | alloc t => exact optK_mono h (fun _ h => h) fun zs _ hk => ⟨_, hk, (Store.plus_put ..).symm, hD.put _ hid⟩
  | box t x => exact optK_mono h (fun _ h => h) fun zs _ hk => ⟨_, hk, (Store.plus_put ..).symm, hD.put _ hid⟩
  | store t a x =>
    exact optK_mono h (fun _ h => h) fun q _ h => optK_mono h (fun _ h => cellsK_plus h) fun cs hc h => optK_mono h (fun _ h => h) fun vs _ h => optK_mono h (fun _ h => h) fun n _ h =>
      ⟨h.1, _, h.2, (Store.plus_put ..).symm, hD.put _ (hD.none (cellsK_inv hc))⟩
  | call c =>
    obtain ⟨callee, cargs, argTypes⟩ := c
    cases callee with
    | value f =>
      simp only [opVC, opVCg, funK] at h ⊢
      split at h
      · exact h F hD
      · exact h F hD hid _ (.refl _ _)
    | invoke r m => exact h F hD hid _ (.refl _ _)
    | builtin b =>
      simp only [opVC, opVCg] at h ⊢
      split at h <;> first | exact appendA_plus hD h | exact pur h | exact h F hD hid _ (.refl _ _)
  | convert s d x =>
    simp only [opVC, opVCg] at h ⊢
    split at h
    · rename_i hc; rw [if_pos hc]; exact h F hD hid _ (.refl _ _)
    · rename_i hc; rw [if_neg hc]; exact pur h
  | lookup => exact h F hD hid _ (.refl _ _)
  | mapUpdate => exact h F hD hid _ (.refl _ _)
  | makeMap => exact h F hD hid _ (.refl _ _)
  | range => exact h F hD hid _ (.refl _ _)
  | next => exact h F hD hid _ (.refl _ _)
  | entry => exact h F hD hid _ (.refl _ _)
  | typeAssert => exact h F hD hid _ (.refl _ _)
  | makeSlice => exact h F hD hid _ (.refl _ _)
  | panic => exact h F hD hid _ (.refl _ _)
  | defer => exact h F hD hid _ (.refl _ _)
  | _ => simp only [opVC, opVCg] at h ⊢; exact pur h

theorem opVC_mono [Env P] {fr : Fr} {o : Oper} {id : Nat} {K K' : AVal → Store → Prop} (h : opVC P fr A o id K) (hK : ∀ v A', K v A' → K' v A') : opVC P fr A o id K' := by
  obtain ⟨dst, op, type, pos, after, guard⟩ := o
  have pur : ∀ {op : Op}, (resK (pureOp P (ev P fr) A op) fun v => K v A) → resK (pureOp P (ev P fr) A op) fun v => K' v A := fun h => resK_mono h (fun _ h => h) fun v hv => hK _ _ hv
  cases op with
  | alloc t => exact optK_mono h (fun _ h => h) fun zs _ hk => hK _ _ hk
  | box t x => exact optK_mono h (fun _ h => h) fun zs _ hk => hK _ _ hk
  | store t a x =>
    exact optK_mono h (fun _ h => h) fun q _ h => optK_mono h (fun _ h => h) fun cs hc h => optK_mono h (fun _ h => h) fun vs _ h => optK_mono h (fun _ h => h) fun n _ h => ⟨h.1, hK _ _ h.2⟩
  | call c =>
    obtain ⟨callee, cargs, argTypes⟩ := c
    cases callee with
    | value f =>
      simp only [opVC, opVCg, funK] at h ⊢
      split at h
      · exact h.mono hK
      · exact OpSem.mono h hK
    | invoke r m => exact OpSem.mono h hK
    | builtin b =>
      simp only [opVC, opVCg] at h ⊢
      split at h
      · refine optK_mono h (fun _ h => h) fun el _ h => optK_mono h (fun _ h => h) fun q _ h => optK_mono h (fun _ h => h) fun es _ h => optK_mono h (fun _ h => h) fun bt _ h => optK_mono h (fun _ h => h) fun zs _ h =>
          optK_mono h (fun _ h => h) fun u _ h => ?_
        obtain ⟨h1, h2, h3, h4, h5, h6, h7, h8, h9⟩ := h
        exact ⟨h1, h2, h3, h4, h5, h6, h7, fun hc => hK _ _ (h8 hc), fun hc => hK _ _ (h9 hc)⟩
      all_goals first | exact pur h | exact OpSem.mono h hK
  | convert s d x =>
    simp only [opVC, opVCg] at h ⊢
    split at h
    · rename_i hc; rw [if_pos hc]; exact OpSem.mono h hK
    · rename_i hc; rw [if_neg hc]; exact pur h
  | lookup => exact OpSem.mono h hK
  | mapUpdate => exact OpSem.mono h hK
  | makeMap => exact OpSem.mono h hK
  | range => exact OpSem.mono h hK
  | next => exact OpSem.mono h hK
  | entry => exact OpSem.mono h hK
  | typeAssert => exact OpSem.mono h hK
  | makeSlice => exact OpSem.mono h hK
  | panic => exact OpSem.mono h hK
  | defer => exact OpSem.mono h hK
  | _ => simp only [opVC, opVCg] at h ⊢; exact pur h

theorem pure_opSem [Env P] {fr : Fr} {o : Oper} {id : Nat} {K : AVal → Store → Prop} {p : Cd} {v : AVal} (h : pureOp P (ev P fr) A o.op = some (p, v)) (hp : p.p) (hK : K v A) (hd : ∀ c, o.op ≠ .defer c) : OpSem0 P fr A o id K := by
  intro ro g w a hg hf hR hid hlt next Q hn
  obtain ⟨cv, w', g', hr, hx, hv, hR'⟩ := pureOp_sound (P := P) (e := ev P fr) (ρ := a.eval) (hf.ev hg) (o := o) h hp hR
  exact wpIn_value hd hr (hn v A g' cv w' hK (hx.oext _ _) hv hR' (Nat.le_refl _))

theorem opVC0_sound [Env P] {fr : Fr} {o : Oper} {id : Nat} {K : AVal → Store → Prop} (h : opVCg P (callVC0 P) (OpSem0 P) fr A o id K) : OpSem0 P fr A o id K := by
  obtain ⟨dst, op, type, pos, after, guard⟩ := o
  have pur : ∀ (hd : ∀ c, op ≠ .defer c), (resK (pureOp P (ev P fr) A op) fun v => K v A) → OpSem0 P fr A ⟨dst, op, type, pos, after, guard⟩ id K := by
    intro hd h
    obtain ⟨p, v, hpo, hp, hk⟩ := resK_inv h
    exact pure_opSem hpo hp hk hd
  cases op with
  | alloc t =>
    obtain ⟨zs, hz, h⟩ := optK_inv h
    intro ro g w a hg hf hR hid hlt next Q hn
    obtain ⟨z, hzr, hzc⟩ := zero_any hz
    obtain ⟨g', hx, hm, hR'⟩ := hR.new (hzc g) hid hlt t
    refine wpIn_value (by simp) (cv := .pointer (some ⟨w.heap.size, 0, none⟩)) (w' := w.alloc (.cells z.cells t)) ?_ (hn _ _ g' _ _ h (hx.oext _) (.ptr hm) hR' (Nat.le_refl _))
    simp [execOp, Instr.alloc, hzr, newVar, newRow]
  | box t x =>
    obtain ⟨cs, hc, h⟩ := optK_inv h
    intro ro g w a hg hf hR hid hlt next Q hn
    have hxr := hf.ev hg x
    obtain ⟨g', hx, hm, hR'⟩ := hR.new (hxr.relC hc) hid hlt t
    refine wpIn_value (by simp) (cv := .pointer (some ⟨w.heap.size, 0, none⟩)) (w' := w.alloc (.cells (a.eval x).cells t)) ?_ (hn _ _ g' _ _ h (hx.oext _) (.ptr hm) hR' (Nat.le_refl _))
    simp [execOp, Instr.box, newVar, newRow]
  | store t pa x =>
    obtain ⟨⟨oid, off⟩, hpa, h⟩ := optK_inv h
    obtain ⟨cs, ho, h⟩ := optK_inv h
    obtain ⟨vs, hvs, h⟩ := optK_inv h
    obtain ⟨n, hsz, h⟩ := optK_inv h
    obtain ⟨⟨hl, hfit⟩, hK⟩ := h
    have hpa := ptrOf_inv hpa
    have ho := cellsK_inv ho
    simp only at hpa ho hfit hK
    intro ro g w a hg hf hR hid hlt next Q hn
    have hpr := hf.ev hg pa
    rw [hpa] at hpr
    have hxr := (hf.ev hg x).relC hvs
    cases hcp : a.eval pa <;> rw [hcp] at hpr <;> cases hpr
    rename_i b hm
    obtain ⟨b', hb', hobj, hle⟩ := hR.objs oid _ ho
    rw [hm] at hb'; cases hb'
    obtain ⟨c, e, fr', g1, g2, g3, g4, g5⟩ := hobj
    have hcl : (a.eval x).cells.toList.length = vs.length := by simpa using hxr.1
    obtain ⟨w', hrun, hw⟩ := run_storeCells (P := P) (a.eval x).cells.toList w b off 0 c e fr' g1 (by rw [hcl]; omega) g4 (fun v hv => by
      obtain ⟨i, hi, rfl⟩ := List.getElem_of_mem hv
      have := (hxr.2 i (by omega)).2
      have hi' : i < (a.eval x).cells.size := by simpa using hi
      simpa [Array.getD, hi'] using this)
    have hR' := hR.wrote ho hm g1 hw hfit hcl (fun i hi => by
      have := hxr.2 i hi
      simpa [List.getD, Array.getD_eq_getD_getElem?] using this)
    refine wpIn_skipped (by simp) (w' := w') ?_ (hn (.tup []) _ g undef w' hK ((PExt.refl g).oext _ _) (.tup #[] rfl (fun i hi => by simp at hi)) hR' (Nat.le_refl _))
    have hsz' : (a.eval x).cells.size = n := by rw [hxr.1, hl]
    simp [execOp, hcp, Instr.storeAt, Instr.sureAddr, storeVar, run_sizeOf' hsz, hsz', hrun]
  | call c =>
    obtain ⟨callee, cargs, argTypes⟩ := c
    cases callee with
    | value f =>
      simp only [opVCg, funK] at h
      split at h
      · rename_i k first cap hfv
        intro ro g w a hg hf hR hid hlt next Q hn
        have hfr := hf.ev hg f
        rw [hfv] at hfr
        cases hcf : a.eval f <;> rw [hcf] at hfr <;> cases hfr
        rename_i ff fc hs1 h1 hs2 h2
        obtain ⟨h3, h4⟩ := relOps (hf.ev hg) cargs
        have hargs : RelVs g (first ++ cargs.toList.map (ev P fr) ++ cap) (ff ++ cargs.map a.eval ++ fc) := by
          refine ⟨by simp [hs1, hs2], fun i hi => ?_⟩
          rw [getD_append]
          by_cases hc : i < (first ++ cargs.toList.map (ev P fr)).length
          · have hsz : (ff ++ cargs.map a.eval).size = (first ++ cargs.toList.map (ev P fr)).length := by simp [hs1]
            rw [if_pos (by rw [hsz]; exact hc), List.getElem_append_left hc, getD_append]
            by_cases hc2 : i < first.length
            · rw [if_pos (by rw [hs1]; exact hc2), List.getElem_append_left hc2]; exact h1 i hc2
            · rw [if_neg (by rw [hs1]; exact hc2), List.getElem_append_right (by omega), hs1]; exact h4 _ (by simp at hc ⊢; omega)
          · have hsz : (ff ++ cargs.map a.eval).size = (first ++ cargs.toList.map (ev P fr)).length := by simp [hs1]
            rw [if_neg (by rw [hsz]; exact hc), List.getElem_append_right (by omega), hsz]; exact h2 _ (by simp at hi hc ⊢; omega)
        refine ⟨about_any, ?_⟩
        rw [Oper.semAt_eq _ _ _ (by simp)]
        have hrun : (execOp a.eval ⟨dst, .call ⟨.value f, cargs, argTypes⟩, type, pos, after, guard⟩).run P w = .ok (.enter k (ff ++ cargs.map a.eval ++ fc)) w := by
          simp [execOp, resolve, hcf, Deferred.ofValue, invoke, run_callFunc h.1]
        rw [hrun]
        refine ⟨fun hh => by simp [FR, Fence.wide] at hh, ?_⟩
        refine CallsIn.mono (F := FR ro) (h.2 g w _ hg hargs hR) ?_
        rintro e w' ⟨v, cv, g', A', rfl, hK, hx, hv, hR', hle⟩
        exact hn v A' g' cv w' hK (hx.oext _) hv hR' hle
      · exact h
    | invoke r m => exact h
    | builtin b =>
      simp only [opVCg] at h
      split at h
      · rename_i t u s x hts hxs
        intro ro g w a hg hf hR hid hlt next Q hn
        obtain ⟨cv, w', g', v, A', hr, hK, hx, hm, hv, hR', hnx⟩ := appendA_sound (P := P) (ty := type) h (hf.ev hg s) (hf.ev hg x) hR
        refine wpIn_value (by simp) (cv := cv) (w' := w') ?_ (hn v A' g' cv w' hK (hx.oext' hm _) hv hR' (by omega))
        have e1 : argTypes = #[t, u] := by apply Array.ext'; simpa using hts
        have e2 : cargs = #[s, x] := by apply Array.ext'; simpa using hxs
        subst e1 e2
        simp [execOp, resolve, invoke, builtin, hr]
      · exact pur (by simp) h
      · exact pur (by simp) h
      · exact pur (by simp) h
      · exact h
  | convert s d x =>
    simp only [opVCg] at h
    split at h
    · exact h
    · exact pur (by simp) h
  | lookup => exact h
  | mapUpdate => exact h
  | makeMap => exact h
  | range => exact h
  | next => exact h
  | entry => exact h
  | typeAssert => exact h
  | makeSlice => exact h
  | panic => exact h
  | defer => exact h
  | _ => exact pur (by simp) h

theorem opVC_sound [Env P] {fr : Fr} {o : Oper} {id : Nat} {K : AVal → Store → Prop} (h : opVC P fr A o id K) {F : Store} (hD : Dis A F) (hid : F.objs id = none) : OpSem0 P fr (A.plus F) o id (KF F K) :=
  opVC0_sound (opVC_frame hD hid h)

/-! ### Only the operands matter -/
theorem map_same {α β : Type} {f g : α → β} {l : List α} (h : ∀ x ∈ l, f x = g x) : l.map f = l.map g := List.map_congr_left h
theorem pureOp_same [Cmp P] {e e' : Operand → AVal} {o : Op} (h : ∀ x ∈ o.operands, e' x = e x) (A : Store) : pureOp P e' A o = pureOp P e A o := by
  have pairs : ∀ ps : Array (Nat × Operand), (∀ x ∈ (ps.toList.map (·.2)), e' x = e x) → (ps.toList.map fun q => (q.1, e' q.2)) = ps.toList.map fun q => (q.1, e q.2) := fun ps hp =>
    map_same fun q hq => by rw [hp q.2 (List.mem_map.2 ⟨q, hq, rfl⟩)]
  cases o <;> simp only [Op.operands] at h <;> simp only [pureOp]
  case build t ps => rw [pairs ps fun x hx => h x (by simpa using hx)]
  case buildSlice t n ps => rw [pairs ps fun x hx => h x (by simpa using hx)]
  case makeFunc fn first captured =>
    rw [map_same (l := first.toList) fun x hx => h x (by simp at hx ⊢; exact .inl hx), map_same (l := captured.toList) fun x hx => h x (by simp at hx ⊢; exact .inr hx)]
  case call c =>
    have : c.args.toList.map e' = c.args.toList.map e := map_same fun x hx => h x (by simp [Call.operands]; exact .inr (by simpa using hx))
    rw [this]
  case slice t x lo hi mx => cases lo <;> cases hi <;> cases mx <;> simp_all
  all_goals first | rfl | (simp_all; done) | (simp at h; simp [h])

theorem opVC_same [Env P] {fr fr' : Fr} {o : Oper} {id : Nat} {K : AVal → Store → Prop} (hs : Same P o fr fr') (h : opVC P fr A o id K) : opVC P fr' A o id K := by
  obtain ⟨dst, op, type, pos, after, guard⟩ := o
  have hs' : ∀ x ∈ op.operands, ev P fr' x = ev P fr x := hs
  have pur : ∀ {op' : Op}, op' = op → (resK (pureOp P (ev P fr) A op') fun v => K v A) → resK (pureOp P (ev P fr') A op') fun v => K v A := by
    rintro _ rfl h; rw [pureOp_same hs']; exact h
  cases op with
  | alloc t => exact h
  | box t x => simp only [opVC, opVCg] at h ⊢; rw [hs' x (by simp [Op.operands])]; exact h
  | store t a x => simp only [opVC, opVCg] at h ⊢; rw [hs' x (by simp [Op.operands]), hs' a (by simp [Op.operands])]; exact h
  | call c =>
    obtain ⟨callee, cargs, argTypes⟩ := c
    cases callee with
    | value f =>
      have e1 : cargs.toList.map (ev P fr') = cargs.toList.map (ev P fr) := map_same fun x hx => hs' x (by simp [Op.operands, Call.operands]; exact .inr (by simpa using hx))
      simp only [opVC, opVCg] at h ⊢
      rw [hs' f (by simp [Op.operands, Call.operands]), e1]
      unfold funK at h ⊢
      split at h
      · exact h
      · exact OpSem.same h hs
    | invoke r m => exact OpSem.same h hs
    | builtin b =>
      have e1 : ∀ x ∈ cargs.toList, ev P fr' x = ev P fr x := fun x hx => hs' x (by simp [Op.operands, Call.operands]; simpa using hx)
      simp only [opVC, opVCg] at h ⊢
      split at h
      · rename_i hx; rw [e1 _ (by rw [hx]; simp), e1 _ (by rw [hx]; simp)]; exact h
      all_goals first | exact pur rfl h | exact OpSem.same h hs
  | convert s d x =>
    simp only [opVC, opVCg] at h ⊢
    split at h
    · rename_i hc; rw [if_pos hc]; exact OpSem.same h hs
    · rename_i hc; rw [if_neg hc]; exact pur rfl h
  | lookup => exact OpSem.same h hs
  | mapUpdate => exact OpSem.same h hs
  | makeMap => exact OpSem.same h hs
  | range => exact OpSem.same h hs
  | next => exact OpSem.same h hs
  | entry => exact OpSem.same h hs
  | typeAssert => exact OpSem.same h hs
  | makeSlice => exact OpSem.same h hs
  | panic => exact OpSem.same h hs
  | defer => exact OpSem.same h hs
  | _ => simp only [opVC, opVCg] at h ⊢; exact pur rfl h

theorem opVC_opSem [Env P] {fr : Fr} {o : Oper} {id : Nat} {K : AVal → Store → Prop} (h : opVC P fr A o id K) : OpSem P fr A o id K :=
  fun _ hD hid _ hs => opVC_sound (opVC_same hs h) hD hid

end Go.Cov

namespace Go.Cov
open Go.RowKit
variable {P : Program} {g : Ghost} {A : Store} {w : World}

/-- A new object, whose row may be longer than what is known of it. -/
theorem Rel.newCap {cs : List AVal} {c : Array Value} {id : Nat} (hR : Rel g A w) (hc : RelC g cs (c.extract 0 cs.length)) (hl : cs.length ≤ c.size) (hid : g.mu id = none) (hlt : id < A.next) (e : TypeId) (fr : Nat × Nat := (0, 0)) (hfr : ∀ i, i < c.size → ¬ (fr.1 ≤ i ∧ i < fr.2) := by intro i _ h; omega) :
    ∃ g', IExt g id g' ∧ g'.mu id = some w.heap.size ∧ g'.pf w.heap.size = some c.size ∧ Rel g' (A.put id (.cells cs)) (w.alloc (.cells c e fr)) := by
  have hno : A.objs id = none := by
    cases h : A.objs id with
    | none => rfl
    | some o => obtain ⟨b, hb, _⟩ := hR.objs _ _ h; rw [hid] at hb; cases hb
  have hpf : g.pf w.heap.size = none := by
    cases h : g.pf w.heap.size with
    | none => rfl
    | some s => obtain ⟨_, _, _, h1, _⟩ := hR.pf _ _ h; have := (Array.getElem?_eq_some_iff.1 h1).1; omega
  have hx : IExt g id { g with mu := fun j => if j = id then some w.heap.size else g.mu j, pf := fun b => if b = w.heap.size then some c.size else g.pf b } :=
    ⟨fun j hj => by simp [hj], .inl hid, fun _ _ _ h => h, fun _ _ h => h, fun b s h => by
      have : b ≠ w.heap.size := by rintro rfl; rw [hpf] at h; cases h
      simp [this, h], fun _ _ h => h, rfl⟩
  have hE : ∀ n, n ≤ id → g.Ext n _ := fun n hn => hx.ext hn
  have hget : ∀ i, i < cs.length → (c.extract 0 cs.length).getD i undef = c.getD i undef := by
    intro i hi
    have : i < c.size := by omega
    simp only [Array.getD_eq_getD_getElem?, Array.getElem?_extract]
    rw [if_pos (by omega)]; simp
  have hold : ∀ j b, (A.objs j).isSome → g.mu j = some b → b ≠ w.heap.size := fun j b h1 h2 => by
    obtain ⟨o, ho⟩ := Option.isSome_iff_exists.1 h1
    have := hR.blk ho h2; omega
  have hmu : ∀ j b, ((A.put id (.cells cs)).objs j).isSome → (if j = id then some w.heap.size else g.mu j) = some b → (j = id ∧ b = w.heap.size) ∨ (j ≠ id ∧ (A.objs j).isSome ∧ g.mu j = some b) := by
    intro j b h1 h2
    by_cases hj : j = id
    · rw [if_pos hj] at h2; cases h2; exact .inl ⟨hj, rfl⟩
    · rw [if_neg hj] at h2
      simp only [Store.put, if_neg hj] at h1
      exact .inr ⟨hj, h1, h2⟩
  refine ⟨_, hx, by simp, by simp, ?_⟩
  exact {
    next := fun j hj => by
      have hj' : j ≠ id := by have : A.next ≤ j := hj; omega
      simp only [Store.put, if_neg hj']
      exact hR.next j hj
    objs := fun j o ho => by
      by_cases hj : j = id
      · subst hj
        simp only [Store.put, if_true] at ho
        cases ho
        refine ⟨w.heap.size, by simp, ⟨c, e, fr, ?_, hl, fun i hi => ?_, hfr, fun i hi => ?_⟩, hR.below.size⟩
        · show (w.heap.push _)[w.heap.size]? = _; simp
        · rw [← hget i hi]; exact (hc.2 i hi).1.mono (hE 0 (Nat.zero_le _))
        · rw [← hget i hi]; exact (hc.2 i hi).2
      · simp only [Store.put, if_neg hj] at ho
        obtain ⟨b, hb, hobj, hle⟩ := hR.objs j o ho
        exact ⟨b, by simp [hj, hb], hobj.move (hE 0 (Nat.zero_le _)) (Below.heap_alloc _ _ _ (hR.blk ho hb)), hle⟩
    inj := fun j j' b h1 h2 h3 h4 => by
      rcases hmu j b h1 h3 with ⟨e1, rfl⟩ | ⟨n1, s1, m1⟩ <;> rcases hmu j' _ h2 h4 with ⟨e2, e3⟩ | ⟨n2, s2, m2⟩
      · rw [e1, e2]
      · exact absurd rfl (hold _ _ s2 m2)
      · exact absurd e3 (hold _ _ s1 m1)
      · exact hR.inj j j' b s1 s2 m1 m2
    io := fun b o v h => by
      have := hR.io b o v h
      exact ⟨by rw [World.cell?_alloc_lt _ _ _ (cell_lt this.1)]; exact this.1, this.2⟩
    sep := fun j b o h1 h2 => by
      rcases hmu j b h1 h2 with ⟨e1, rfl⟩ | ⟨n1, s1, m1⟩
      · cases h : g.io w.heap.size o with
        | none => rfl
        | some v => have := cell_lt (hR.io _ _ _ h).1; omega
      · exact hR.sep j b o s1 m1
    ntok := hR.ntok
    toks := fun t ht => by
      obtain ⟨b, fin, lim, h1, h0, c', e', fr, h2, h3, h4, h5, h6, h7⟩ := hR.toks t ht
      have hbl : b < w.heap.size := (Array.getElem?_eq_some_iff.1 h2).1
      refine ⟨b, fin, lim, h1, h0, c', e', fr, (Below.heap_alloc _ _ _ hbl).trans h2, h3, h4, h5, h6, fun j hj hm => ?_⟩
      rcases hmu j b hj hm with ⟨e1, rfl⟩ | ⟨n1, s1, m1⟩
      · omega
      · exact h7 j s1 m1
    tokinj := hR.tokinj
    below := hR.below.alloc hR.below.size _
    pf := fun b s h => by
      have hh : (if b = w.heap.size then some c.size else g.pf b) = some s := h
      clear h
      by_cases hb : b = w.heap.size
      · rw [if_pos hb] at hh
        have hh := Option.some.inj hh
        subst hb
        exact ⟨c, e, fr, by show (w.heap.push _)[w.heap.size]? = _; simp, by omega⟩
      · rw [if_neg hb] at hh
        obtain ⟨c', e', fr, h1, h2⟩ := hR.pf b s hh
        exact ⟨c', e', fr, (Below.heap_alloc _ _ _ (Array.getElem?_eq_some_iff.1 h1).1).trans h1, h2⟩
    dfr := fun b t h => ⟨(hR.dfr b t h).1, by rw [show (w.alloc _).heap[b]? = w.heap[b]? from Below.heap_alloc _ _ _ (hR.dfr b t h).2.lt]; exact (hR.dfr b t h).2⟩ }

/-- What is known may be let go. -/
theorem Rel.forget (hR : Rel g A w) (id : Nat) : Rel g (A.del id) w := by
  have hsome : ∀ j, ((A.del id).objs j).isSome → (A.objs j).isSome := fun j h => by
    simp only [Store.del] at h; split at h
    · cases h
    · exact h
  exact {
    next := fun j hj => ⟨(hR.next j hj).1, by simp only [Store.del]; split; rfl; exact (hR.next j hj).2⟩
    objs := fun j o ho => hR.objs j o (by simp only [Store.del] at ho; split at ho; cases ho; exact ho)
    inj := fun j j' b h1 h2 => hR.inj j j' b (hsome _ h1) (hsome _ h2)
    io := hR.io
    sep := fun j b o h1 => hR.sep j b o (hsome _ h1)
    ntok := hR.ntok
    toks := fun t ht => by
      obtain ⟨b, fin, lim, h1, h0, c', e', fr, h2, h3, h4, h5, h6, h7⟩ := hR.toks t ht
      exact ⟨b, fin, lim, h1, h0, c', e', fr, h2, h3, h4, h5, h6, fun j hj => h7 j (hsome _ hj)⟩
    tokinj := hR.tokinj
    below := hR.below
    pf := hR.pf
    dfr := hR.dfr }

/-- A row goes on in its own block: a new object stands for it, the old one is let go. -/
theorem Rel.extend {w' : World} {id id' b off : Nat} {cs vs : List AVal} {cvs : List Value} {c : Array Value} {e : TypeId} {fr : Nat × Nat} (hR : Rel g A w) (ho : A.objs id = some (.cells cs)) (hm : g.mu id = some b)
    (hb : w.heap[b]? = some (.cells c e fr)) (hw : Wrote w w' b off cvs c e fr) (hoff : off ≤ cs.length) (hfit : off + vs.length ≤ c.size) (hlv : cvs.length = vs.length)
    (hv : ∀ i (h : i < vs.length), RelV g vs[i] (cvs.getD i undef) ∧ (cvs.getD i undef).oneCell' = true) (hid' : g.mu id' = none) (hlt : id' < A.next) :
    ∃ g', IExt g id' g' ∧ g'.mu id' = some b ∧ g'.pf = g.pf ∧ Rel g' ((A.del id).put id' (.cells (cs.take off ++ vs))) w' := by
  obtain ⟨b', hb', hobj, hle⟩ := hR.objs id _ ho
  rw [hm] at hb'; cases hb'
  obtain ⟨c0, e0, fr0, g1, g2, g3, g4, g5⟩ := hobj
  rw [hb] at g1; cases g1
  obtain ⟨c', h1, h2, h3⟩ := hw.blk
  have hii : id ≠ id' := by rintro rfl; rw [hm] at hid'; cases hid'
  have hx : IExt g id' { g with mu := fun j => if j = id' then some b else g.mu j } := ⟨fun j hj => by simp [hj], .inl hid', fun _ _ _ h => h, fun _ _ h => h, fun _ _ h => h, fun _ _ h => h, rfl⟩
  have hX := hx.ext (n := 0) (Nat.zero_le _)
  have hne : ∀ j, j ≠ id → (A.objs j).isSome → g.mu j ≠ some b := fun j hj h hmj => hj (hR.inj j id b h (by simp [ho]) hmj hm)
  have hmu : ∀ j bb, (((A.del id).put id' (.cells (cs.take off ++ vs))).objs j).isSome → (if j = id' then some b else g.mu j) = some bb → (j = id' ∧ bb = b) ∨ (j ≠ id' ∧ j ≠ id ∧ (A.objs j).isSome ∧ g.mu j = some bb) := by
    intro j bb k1 k2
    by_cases hj : j = id'
    · rw [if_pos hj] at k2; cases k2; exact .inl ⟨hj, rfl⟩
    · rw [if_neg hj] at k2
      simp only [Store.put, Store.del, if_neg hj] at k1
      by_cases hj2 : j = id
      · rw [if_pos hj2] at k1; cases k1
      · rw [if_neg hj2] at k1; exact .inr ⟨hj, hj2, k1, k2⟩
  refine ⟨_, hx, by simp, rfl, ?_⟩
  exact {
    next := fun j hj => by
      have hj : A.next ≤ j := hj
      have := hR.next j hj
      have hj' : j ≠ id' := by omega
      refine ⟨by simp [hj', this.1], ?_⟩
      simp only [Store.put, Store.del, if_neg hj']
      split
      · rfl
      · exact this.2
    objs := fun j o hj => by
      by_cases hji : j = id'
      · subst hji
        simp only [Store.put, if_true, Option.some.injEq] at hj
        subst hj
        have hlen : (cs.take off ++ vs).length = off + vs.length := by simp [Nat.min_eq_left hoff]
        refine ⟨b, by simp, ⟨c', e, fr, h1, by omega, fun i hi => ?_, by rw [h2]; exact g4, fun i hi => ?_⟩, hle⟩
        · rw [h3 i, List.getElem_append]
          by_cases hin : i < off
          · rw [if_neg (by omega), dif_pos (by simp; omega)]
            have := g3 i (by omega)
            simp only [List.getElem_take]
            exact this.mono hX
          · rw [if_pos (by omega), dif_neg (by simp; omega)]
            have := (hv (i - off) (by omega)).1
            have e1 : i - (cs.take off).length = i - off := by simp [Nat.min_eq_left hoff]
            simp only [e1]
            exact this.mono hX
        · rw [h3 i]
          by_cases hin : i < off
          · rw [if_neg (by omega)]; exact g5 i (by omega)
          · rw [if_pos (by omega)]; exact (hv (i - off) (by omega)).2
      · simp only [Store.put, Store.del, if_neg hji] at hj
        by_cases hj2 : j = id
        · rw [if_pos hj2] at hj; cases hj
        · rw [if_neg hj2] at hj
          obtain ⟨bj, hbj, hobj, hlj⟩ := hR.objs j o hj
          have : bj ≠ b := fun e => hne j hj2 (by simp [hj]) (by rw [hbj, e])
          exact ⟨bj, by simp [hji, hbj], hobj.move hX (hw.other bj this), hlj⟩
    inj := fun j j' bb k1 k2 k3 k4 => by
      rcases hmu j bb k1 k3 with ⟨e1, rfl⟩ | ⟨n1, m1, s1, q1⟩ <;> rcases hmu j' _ k2 k4 with ⟨e2, e3⟩ | ⟨n2, m2, s2, q2⟩
      · rw [e1, e2]
      · exact absurd q2 (hne _ m2 s2)
      · subst e3; exact absurd q1 (hne _ m1 s1)
      · exact hR.inj j j' bb s1 s2 q1 q2
    io := fun bb o v h => by
      have := hR.io bb o v h
      have hbb : bb ≠ b := fun e => by subst e; rw [hR.sep id bb o (by simp [ho]) hm] at h; cases h
      refine ⟨?_, this.2⟩
      rw [← this.1]
      exact World.cell?_of_block (w := w) (hw.other bb hbb)
    sep := fun j bb o k1 k2 => by
      rcases hmu j bb k1 k2 with ⟨e1, rfl⟩ | ⟨n1, m1, s1, q1⟩
      · exact hR.sep id _ o (by simp [ho]) hm
      · exact hR.sep j bb o s1 q1
    ntok := hR.ntok
    toks := fun t ht => by
      obtain ⟨bb, fin, lim, k1, k0, cc, ee, frr, k2, k3, k4, k5, k6, k7⟩ := hR.toks t ht
      have hbb : bb ≠ b := fun e => k7 id (by simp [ho]) (by rw [hm, e])
      refine ⟨bb, fin, lim, k1, k0, cc, ee, frr, (hw.other bb hbb).trans k2, k3, k4, k5, k6, fun j hj hmj => ?_⟩
      rcases hmu j bb hj hmj with ⟨e1, e2⟩ | ⟨n1, m1, s1, q1⟩
      · exact hbb e2
      · exact k7 j s1 q1
    tokinj := hR.tokinj
    below := by
      refine hR.below.trans ⟨hw.os, hw.tape, hw.output, by rw [hw.size]; exact Nat.le_refl _, fun k hk => hw.other k (by omega)⟩
    pf := fun bb s h => by
      obtain ⟨cc, ee, frr, k1, k2⟩ := hR.pf bb s h
      by_cases hbb : bb = b
      · subst hbb
        rw [hb] at k1; cases k1
        exact ⟨c', e, fr, h1, by rw [h2]; exact k2⟩
      · exact ⟨cc, ee, frr, (hw.other bb hbb).trans k1, k2⟩
    dfr := fun bb t h => by
      have k1 := hR.dfr bb t h
      have hbb : bb ≠ b := fun e => by subst e; rw [hb] at k1; exact k1.2.cells
      exact ⟨k1.1, by rw [hw.other bb hbb]; exact k1.2⟩ }

end Go.Cov

namespace Go.Cov
open Go.RowKit
variable {P : Program} {g : Ghost} {A : Store} {w : World}

/-- The end of an append: like 'AEnd', but the new object's id may have come into use. -/
def MEnd (P : Program) (g : Ghost) (A : Store) (id : Nat) (v : AVal) (A' : Store) (w : World) (s : Sem Value) : Prop :=
  ∃ cv w' g', s.run P w = .ok cv w' ∧ IExt g id g' ∧ RelV g' v cv ∧ Rel g' A' w'

/-- What is appended: its cells, as the model comes by them. -/
structure SrcH (P : Program) (g : Ghost) (w : World) (el : TypeId) (es bt n k : Nat) (zs ds : List AVal) (c : Array Value) : Prop where
  hes : tsz P el = some es
  hbt : tbytes P el = some bt
  hz : zeroA P el = some zs
  hzl : zs.length = es
  hb0 : 0 < bt
  hbl : bt ≤ 1048576
  hlim : (n + k) * bt ≤ 35184372088832
  hdl : ds.length = k * es
  hc : RelC g ds c

/-- The two ways of the model's 'append', of whatever is appended. -/
structure AppRun (P : Program) (w : World) (s : Sem Value) (base : Option Addr) (es n k cap : Nat) (c : Array Value) (el : TypeId) : Prop where
  room : n + k ≤ cap → ∀ w', (match base with | some a => storeCells (a.add (n * es)) c.toList | none => pure ()).run P w = .ok () w' → s.run P w = .ok (.slice base (n + k) cap) w'
  grow : cap < n + k → ∀ c0 z, (∀ w' : World, (∀ a, w'.cell? a = w.cell? a) → (Builtin.firstCells es n (.slice base n cap)).run P w' = .ok c0 w') → (∀ w, (zeroValue el).run P w = .ok z w) →
    ∃ cap', n + k ≤ cap' ∧ s.run P w = .ok (.slice (some ⟨w.heap.size, 0, none⟩) (n + k) cap') (w.drew.alloc (.cells (c0 ++ c ++ Builtin.zeroCells z.cells (cap' - (n + k))) el))

theorem grow_obj {s : Sem Value} {el : TypeId} {es bt n k cap id : Nat} {zs cs ds : List AVal} {c c0 : Array Value} {base : Option Addr} (H : SrcH P g w el es bt n k zs ds c) (hr : AppRun P w s base es n k cap c el)
    (hR : Rel g A w) (hid : g.mu id = none) (hlt : id < A.next) (hcs : cs.length = n * es) (hc0 : RelC g cs c0)
    (h0 : ∀ w' : World, (∀ a, w'.cell? a = w.cell? a) → (Builtin.firstCells es n (.slice base n cap)).run P w' = .ok c0 w') (hlt' : cap < n + k) :
    ∃ cv w' g', s.run P w = .ok cv w' ∧ IExt g id g' ∧ RelV g' (.sl id 0 (n + k) (n + k) es) cv ∧ Rel g' (A.put id (.cells (cs ++ ds))) w' := by
  obtain ⟨z, hzr, hzc⟩ := zero_any H.hz
  obtain ⟨cap', hcap', hrun⟩ := hr.grow hlt' c0 z h0 hzr
  have hcc := hc0.append H.hc
  have hsz : (c0 ++ c).size = (cs ++ ds).length := hcc.1
  generalize hC : c0 ++ c = C at hcc hsz hrun
  have hext : (C ++ Builtin.zeroCells z.cells (cap' - (n + k))).extract 0 (cs ++ ds).length = C := by
    rw [← hsz, Array.extract_append]; simp
  obtain ⟨g', hx, hm, hpf, hR'⟩ := (hR.draw).newCap (cs := cs ++ ds) (c := C ++ Builtin.zeroCells z.cells (cap' - (n + k))) (by rw [hext]; exact hcc) (by rw [← hsz]; simp) hid hlt el
  have hlen : (cs ++ ds).length = (n + k) * es := by rw [List.length_append, hcs, H.hdl, Nat.add_mul]
  have hzs : z.cells.size = es := by rw [(hzc g).1, H.hzl]
  have hw0 : w.drew.heap.size = w.heap.size := rfl
  rw [hw0] at hm hpf
  refine ⟨_, _, g', hrun, hx, .sl hm (Nat.le_refl _) hcap' (.inr ⟨_, hpf, ?_⟩), hR'⟩
  rw [Array.size_append, hsz, zeroCells_size, hzs, hlen, ← Nat.add_mul, Nat.zero_add]
  apply Nat.le_of_eq; congr 1; omega

/-- To a list without room. -/
theorem appM_list {s : Sem Value} {el : TypeId} {es bt n k id : Nat} {zs cs ds : List AVal} {c : Array Value} {nil : Bool} {cv : Value} (H : SrcH P g w el es bt n k zs ds c)
    (hr : ∀ base cap, cv = .slice base n cap → AppRun P w s base es n k cap c el) (hs : RelV g (.list nil .full n cs) cv)
    (hR : Rel g A w) (hid : g.mu id = none) (hlt : id < A.next) (hcs : cs.length = n * es) :
    (k = 0 → MEnd P g A id (.list nil .full n cs) A w s) ∧ (k ≠ 0 → MEnd P g A id (.sl id 0 (n + k) (n + k) es) (A.put id (.cells (cs ++ ds))) w s) := by
  have hd0 : k = 0 → c = #[] := fun hk => by
    apply Array.eq_empty_of_size_eq_zero
    rw [H.hc.1, H.hdl, hk, Nat.zero_mul]
  cases hs with
  | listNil r =>
    have hr := hr none 0 rfl
    refine ⟨fun hk => ?_, fun hk => ?_⟩
    · subst hk
      exact ⟨_, w, g, hr.room (Nat.le_refl _) w rfl, (PExt.refl g).iext _, .listNil _, hR⟩
    · exact grow_obj H hr hR hid hlt hcs (c0 := #[]) ⟨by simp, fun i hi => by simp at hi⟩ (fun w' _ => by simp [Builtin.firstCells]) (by omega)
  | list f hn hrr h1 h2 =>
    rename_i b base cap
    simp only [RoomRel] at hrr
    subst hrr
    have hr := hr _ _ rfl
    refine ⟨fun hk => ?_, fun hk => ?_⟩
    · have hc := hd0 hk
      subst hk hc
      exact ⟨_, w, g, hr.room (Nat.le_refl _) w (by simp [storeCells]), (PExt.refl g).iext _, .list f hn rfl h1 h2, hR⟩
    · obtain ⟨c0, g1, g2, g3, g4⟩ := run_loadCells_at (P := P) (g := g) (w := w) (b := b) (base := base) (cs := cs) ⟨f, fun i hi => hR.io _ _ _ (h1 i hi), h2⟩
      refine grow_obj H hr hR hid hlt hcs (c0 := c0) ⟨g2, fun i hi => ⟨g3 i hi, g4 i hi⟩⟩ (fun w' hw' => ?_) (by omega)
      rw [hcs] at g1
      simp [Builtin.firstCells, g1 w' hw']

theorem cut_zero (cs : List AVal) (n : Nat) : cut cs 0 n = cs.take n := by simp [cut]

/-- To a slice of an object's. -/
theorem appM_sl {s : Sem Value} {el : TypeId} {es bt n k id sid off m e : Nat} {zs cs ds : List AVal} {c : Array Value} {cv : Value} (H : SrcH P g w el es bt n k zs ds c)
    (hr : ∀ base cap, cv = .slice base n cap → AppRun P w s base es n k cap c el) (hs : RelV g (.sl sid off n m e) cv) (ho : A.objs sid = some (.cells cs))
    (hR : Rel g A w) (hid : g.mu id = none) (hlt : id < A.next) :
    (k = 0 → MEnd P g A id (.sl sid off n m e) A w s) ∧
    (n + k ≤ m → off + (n + k) * es ≤ cs.length → MEnd P g A id (.sl sid off (n + k) m e) (A.put sid (.cells (setCells cs (off + n * es) ds))) w s) ∧
    (m < n + k → off = 0 → e = es → n * es ≤ cs.length → MEnd P g A id (.sl id 0 (n + k) (n + k) es) ((A.del sid).put id (.cells (cs.take (n * es) ++ ds))) w s) := by
  have hd0 : k = 0 → c = #[] := fun hk => by
    apply Array.eq_empty_of_size_eq_zero
    rw [H.hc.1, H.hdl, hk, Nat.zero_mul]
  obtain ⟨sb, hsb, hobj, hle⟩ := hR.objs sid _ ho
  obtain ⟨c1, e1, fr1, q1, q2, q3, q4, q5⟩ := hobj
  have hcl : c.toList.length = ds.length := by simpa using H.hc.1
  have hone : ∀ v ∈ c.toList, v.oneCell' = true := fun v hv => by
    obtain ⟨i, hi, rfl⟩ := List.getElem_of_mem hv
    have := (H.hc.2 i (by omega)).2
    have hi' : i < c.size := by simpa using hi
    simpa [Array.getD, hi'] using this
  have hrelv : ∀ i (h : i < ds.length), RelV g ds[i] (c.toList.getD i undef) ∧ (c.toList.getD i undef).oneCell' = true := fun i hi => by
    have := H.hc.2 i hi
    simpa [List.getD, Array.getD_eq_getD_getElem?] using this
  cases hs with
  | slE =>
    rename_i b o
    have hr := hr _ _ rfl
    refine ⟨fun hk => ?_, fun hk _ => ?_, fun hk hoff he hfit => ?_⟩
    · have hc := hd0 hk
      subst hk hc
      exact ⟨_, w, g, hr.room (Nat.le_refl _) w (by simp [storeCells]), (PExt.refl g).iext _, .slE, hR⟩
    · have hk0 : k = 0 := by omega
      have hc := hd0 hk0
      have hds : ds = [] := by cases ds with
        | nil => rfl
        | cons => have := H.hdl; simp [hk0] at this
      subst hk0 hc hds
      refine ⟨_, w, g, hr.room (Nat.le_refl _) w (by simp [storeCells]), (PExt.refl g).iext _, .slE, ?_⟩
      have : A.put sid (.cells (setCells cs (off + 0 * es) [])) = A := by
        cases A
        simp only [Store.put, setCells, Store.mk.injEq, and_true]
        funext j; by_cases hj : j = sid
        · subst hj; simp at ho; simp [ho]
        · simp [hj]
      rw [this]; exact hR
    · have := grow_obj H hr (hR.forget sid) hid hlt (cs := cs.take (0 * es)) (c0 := #[]) (by simp) ⟨by simp, fun i hi => by simp at hi⟩ (fun w' _ => by simp [Builtin.firstCells, loadCells, loadCellsFrom]) (by omega)
      exact this
  | sl hm hn hm' hq =>
    rename_i b cap
    rw [hsb] at hm
    obtain rfl : sb = b := Option.some.inj hm
    have hr := hr _ _ rfl
    refine ⟨fun hk => ?_, fun hk hfit => ?_, fun hk hoff he hfit => ?_⟩
    · have hc := hd0 hk
      subst hk hc
      exact ⟨_, w, g, hr.room (by omega) w (by simp [storeCells]), (PExt.refl g).iext _, .sl hsb hn hm' hq, hR⟩
    · have hlen : off + n * es + ds.length ≤ cs.length := by rw [H.hdl, Nat.add_assoc, ← Nat.add_mul]; exact hfit
      obtain ⟨w', hrun, hw⟩ := run_storeCells (P := P) c.toList w sb (off + n * es) 0 c1 e1 fr1 q1 (by rw [hcl]; omega) q4 hone
      refine ⟨_, w', g, hr.room (by omega) w' (by simp only [addr_add]; exact hrun), (PExt.refl g).iext _, .sl hsb hk hm' hq, ?_⟩
      exact hR.wrote ho hsb q1 hw hlen hcl hrelv
    · subst hoff he
      by_cases hroom : n + k ≤ cap
      · obtain ⟨s0, hpf, hs0⟩ : ∃ s, g.pf sb = some s ∧ 0 + cap * e ≤ s := by
          rcases hq with h | h
          · omega
          · exact h
        obtain ⟨c2, e2, fr2, p1, p2⟩ := hR.pf sb s0 hpf
        rw [q1] at p1; cases p1
        have hfit2 : n * e + ds.length ≤ c1.size := by
          have : n * e + k * e ≤ cap * e := by rw [← Nat.add_mul]; exact Nat.mul_le_mul_right _ hroom
          rw [H.hdl]; omega
        obtain ⟨w', hrun, hw⟩ := run_storeCells (P := P) c.toList w sb (n * e) 0 c1 e1 fr1 q1 (by rw [hcl]; omega) q4 hone
        obtain ⟨g', hx, hm2, hpf2, hR'⟩ := hR.extend (id' := id) ho hsb q1 hw hfit hfit2 hcl hrelv hid hlt
        exact ⟨_, w', g', hr.room hroom w' (by simp only [addr_add, Nat.zero_add]; exact hrun), hx, .sl hm2 (Nat.le_refl _) hroom (.inr ⟨s0, by rw [hpf2]; exact hpf, hs0⟩), hR'⟩
      · have hat : CellsAt g w sb 0 cs := ObjRel.cellsAt ⟨c1, e1, fr1, q1, q2, q3, q4, q5⟩
        have hat := hat.cutAt 0 (n * e)
        rw [cut_zero] at hat
        obtain ⟨c0, g1, g2, g3, g4⟩ := run_loadCells_at (P := P) hat
        have hlen : (cs.take (n * e)).length = n * e := by simp [Nat.min_eq_left hfit]
        rw [hlen] at g1
        exact grow_obj H hr (hR.forget sid) hid hlt hlen (c0 := c0) ⟨g2, fun i hi => ⟨g3 i hi, g4 i hi⟩⟩ (fun w' hw' => by simp [Builtin.firstCells, g1 w' hw']) (by omega)

/-! ### The model's runs -/
theorem appRun_src {sT xT el ty : TypeId} {d : TypeDesc} {es n k cap bt : Nat} {base : Option Addr} {cx : Value} {c : Array Value} (hu : P.underlying sT = some (.slice el)) (hs : tsz P el = some es)
    (hd : P.underlying xT = some d) (hnd : ∀ k, d ≠ .int k) (hbt : tbytes P el = some bt) (hb0 : 0 < bt) (hlim : (n + k) * bt ≤ 35184372088832) (hbl : bt ≤ 1048576)
    (hl : ∀ w, (Builtin.lenOf cx).run P w = .ok k w) (hf : ∀ w' : World, (∀ a, w'.cell? a = w.cell? a) → (Builtin.firstCells es k cx).run P w' = .ok c w') :
    AppRun P w (Builtin.append_ #[sT, xT] ty #[.slice base n cap, cx]) base es n k cap c el where
  room := fun hr w' hst => run_append_room hu hs hd hnd (hl w) (hf w fun _ => rfl) hr hst
  grow := fun hr c0 z h0 hz => run_append_grow hu hs hd hnd hbt hb0 hlim hbl hl hf hr h0 hz

theorem wrap_small {x : Int} (h0 : 0 ≤ x) (h1 : x < 9223372036854775808) : IntKind.i64.wrap x = x := IntWalk.i64_in x (by omega)

theorem appRun_make {sT xT el ty : TypeId} {kk k2 : IntKind} {es n k cap bt : Nat} {base : Option Addr} {z : Value} (hu : P.underlying sT = some (.slice el)) (hs : tsz P el = some es)
    (hd : P.underlying xT = some (.int kk)) (hbt : tbytes P el = some bt) (hb0 : 0 < bt) (hlim : (n + k) * bt ≤ 35184372088832) (hbl : bt ≤ 1048576)
    (hz : ∀ w, (zeroValue el).run P w = .ok z w) (hzs : z.cells.size = es) (he : 0 < es) :
    AppRun P w (Builtin.append_ #[sT, xT] ty #[.slice base n cap, .int k2 k]) base es n k cap (Builtin.zeroCells z.cells k) el := by
  obtain ⟨i, hi, hib⟩ := run_tbytes hbt
  have hti : ∀ w : World, (typeInfo el).run P w = .ok i w := fun w => run_typeInfo hi
  have hkb : k * bt ≤ 35184372088832 := Nat.le_trans (Nat.mul_le_mul_right _ (by omega)) hlim
  have hk : k ≤ 35184372088832 := Nat.le_trans (Nat.le_mul_of_pos_right _ hb0) hkb
  have hw : IntKind.i64.wrap (k : Int) = k := wrap_small (by omega) (by omega)
  have hneg : ¬ ((k : Int) < 0) := by omega
  have hbig : ¬ (281474976710656 < (k : Int) * (bt : Int)) := by
    have h2 : ((k * bt : Nat) : Int) ≤ ((35184372088832 : Nat) : Int) := Int.ofNat_le.2 hkb
    rw [Int.natCast_mul] at h2
    generalize (k : Int) * (bt : Int) = q at h2 ⊢
    omega
  have hzc : k = 0 ∨ es = 0 → Builtin.zeroCells z.cells k = #[] := by
    rintro (rfl | h)
    · simp [Builtin.zeroCells]
    · omega
  have hzz : ∀ w : World, (if k * es = 0 then pure #[] else do pure (Builtin.zeroCells (← zeroValue el).cells k) : Sem (Array Value)).run P w = .ok (Builtin.zeroCells z.cells k) w := by
    intro w
    split
    · rename_i h
      have hk0 : k = 0 := by rcases Nat.mul_eq_zero.1 h with h | h <;> omega
      rw [hzc (.inl hk0)]; rfl
    · simp [hz]
  constructor
  · intro hr w' hst
    simp only [Builtin.append_]
    simp [run_underlying' hu, run_sizeOf' hs, run_underlying' hd, asInt, asIntOf, hw, hneg, hti, hib, hbig, hr]
    by_cases hk0 : k * es = 0
    · have hk1 : k = 0 := by rcases Nat.mul_eq_zero.1 hk0 with h | h <;> omega
      subst hk1
      rw [hzc (.inl rfl)] at hst
      rw [if_pos hk0]
      cases base <;> simp at hst ⊢ <;> first | (subst hst; rfl) | simp [hst]
    · rw [if_neg hk0]
      simp [hz]
      cases base <;> simp at hst ⊢ <;> first | (subst hst; rfl) | simp [hst]
  · intro hr c0 z' h0 hz'
    have hcap : Builtin.nextslicecap (n + k) cap * bt ≤ 281474976710656 := by
      have := nextslicecap_le (need := n + k) (old := cap) (by omega)
      calc Builtin.nextslicecap (n + k) cap * bt ≤ (2 * (n + k) + 192) * bt := Nat.mul_le_mul_right _ this
        _ = 2 * ((n + k) * bt) + 192 * bt := by rw [Nat.add_mul, Nat.mul_assoc]
        _ ≤ 281474976710656 := by omega
    refine ⟨Question.cut (.appendCap (n + k) cap el) (w.tape w.drawn (.appendCap (n + k) cap el)), cut_choose _ _ _ _, ?_⟩
    have hle : ¬ (n + k ≤ cap) := by omega
    have hcap' : ¬ (281474976710656 < Builtin.nextslicecap (n + k) cap * bt) := by omega
    have hbz : ¬ bt = 0 := by omega
    have hnk : n + k ≤ 35184372088832 := Nat.le_trans (Nat.le_mul_of_pos_right _ hb0) hlim
    have hnk' : ¬ ((9223372036854775807 : Int) < (n : Int) + (k : Int)) := by omega
    have hnk2 : ¬ ((9223372036854775807 : Int) < (n : Int) + max (k : Int) 0) := by omega
    have e1 : z'.cells = z.cells := by
      have h1 := hz w; have h2 := hz' w
      rw [h1] at h2; cases h2; rfl
    rw [e1]
    simp only [Builtin.append_]
    simp [run_underlying' hu, run_sizeOf' hs, run_underlying' hd, asInt, asIntOf, hw, hneg, hti, hib, hbig, hle, hnk', hcap', hbz, h0 w.drew (fun _ => rfl), newRow, Question.forced]
    by_cases hk0 : k * es = 0
    · have hk1 : k = 0 := by rcases Nat.mul_eq_zero.1 hk0 with h | h <;> omega
      rw [if_pos hk0, hzc (.inl hk1)]
      simp [hz]
    · rw [if_neg hk0]
      simp [hz]

end Go.Cov

namespace Go.Cov
open Go.RowKit
variable {P : Program} {g : Ghost} {A : Store} {w : World}

/-- The first j of what is copied. -/
theorem src_first {es k j : Nat} {x : AVal} {cx : Value} {ds : List AVal} {p : Cd} (h : srcA A es x = some (k, ds, p)) (hp : p.p) (hx : RelV g x cx) (hR : Rel g A w) (hj : j ≤ k) :
    (∀ w, (Builtin.lenOf cx).run P w = .ok k w) ∧ (ds.take (j * es)).length = j * es ∧ ∃ c, (Builtin.firstCells es j cx).run P w = .ok c w ∧ RelC g (ds.take (j * es)) c := by
  have hje : j * es ≤ k * es := Nat.mul_le_mul_right _ hj
  obtain ⟨hl, hdl, hgone⟩ := srcA_sound (P := P) h hp hx hR
  clear hgone
  have hlen : (ds.take (j * es)).length = j * es := by rw [List.length_take, hdl]; omega
  refine ⟨hl, hlen, ?_⟩
  unfold srcA at h
  split at h
  · rename_i nil r k' ds'
    simp only [Option.some.injEq, Prod.mk.injEq] at h
    obtain ⟨rfl, rfl, rfl⟩ := h
    cases hx with
    | listNil => exact ⟨#[], by simp [Builtin.firstCells], by simp, fun i hi => by simp at hi⟩
    | list f hn hr g1 g2 =>
      rename_i b base cap
      have hat : CellsAt g w b base ds' := ⟨f, fun i hi => hR.io _ _ _ (g1 i hi), g2⟩
      have hat := hat.cutAt 0 (j * es)
      rw [cut_zero, Nat.add_zero] at hat
      obtain ⟨c, h1, h2, h3, h4⟩ := run_loadCells_at (P := P) hat
      rw [hlen] at h1
      exact ⟨c, by simp [Builtin.firstCells, h1 w (fun _ => rfl)], h2, fun i hi => ⟨h3 i hi, h4 i hi⟩⟩
  · rename_i id off k' m e0
    split at h
    · rename_i cs ho
      simp only [Option.some.injEq, Prod.mk.injEq] at h
      obtain ⟨rfl, rfl, rfl⟩ := h
      cases hx with
      | slE =>
        obtain rfl : j = 0 := by omega
        exact ⟨#[], by simp [Builtin.firstCells, loadCells, loadCellsFrom], by simp, fun i hi => by simp at hi⟩
      | sl hm hn hm' hq =>
        rename_i b cap
        obtain ⟨b', hb', hobj, _⟩ := hR.objs _ _ ho
        rw [hm] at hb'; cases hb'
        have hat := hobj.cellsAt.cutAt off (j * es)
        have e1 : cut cs off (j * es) = (cut cs off (k' * es)).take (j * es) := by
          simp only [cut, List.take_take]; rw [Nat.min_eq_left hje]
        rw [e1, Nat.zero_add] at hat
        obtain ⟨c, h1, h2, h3, h4⟩ := run_loadCells_at (P := P) hat
        rw [hlen] at h1
        exact ⟨c, by simp [Builtin.firstCells, h1 w (fun _ => rfl)], h2, fun i hi => ⟨h3 i hi, h4 i hi⟩⟩
    · cases h
  · cases h

/-- Cells of a row, written. -/
theorem write_row {sid off n m e : Nat} {cs vs : List AVal} {c : Array Value} {b : Nat} (hR : Rel g A w) (ho : A.objs sid = some (.cells cs)) (hm : g.mu sid = some b) (hfit : off + vs.length ≤ cs.length) (hc : RelC g vs c) :
    ∃ w', (storeCells ⟨b, off, none⟩ c.toList).run P w = .ok () w' ∧ Rel g (A.put sid (.cells (setCells cs off vs))) w' := by
  obtain ⟨sb, hsb, hobj, hle⟩ := hR.objs sid _ ho
  rw [hm] at hsb; cases hsb
  obtain ⟨c1, e1, fr1, q1, q2, q3, q4, q5⟩ := hobj
  have hcl : c.toList.length = vs.length := by simpa using hc.1
  obtain ⟨w', hrun, hw⟩ := run_storeCells (P := P) c.toList w b off 0 c1 e1 fr1 q1 (by rw [hcl]; omega) q4 (fun v hv => by
    obtain ⟨i, hi, rfl⟩ := List.getElem_of_mem hv
    have := (hc.2 i (by omega)).2
    have hi' : i < c.size := by simpa using hi
    simpa [Array.getD, hi'] using this)
  exact ⟨w', hrun, hR.wrote ho hm q1 hw hfit hcl (fun i hi => by
    have := hc.2 i hi
    simpa [List.getD, Array.getD_eq_getD_getElem?] using this)⟩

theorem copy_sl {dT xT ty el : TypeId} {es k n sid off m e : Nat} {x : AVal} {cx cv : Value} {cs ds : List AVal} {p : Cd} (hu : P.underlying dT = some (.slice el)) (hs : tsz P el = some es) (h : srcA A es x = some (k, ds, p)) (hp : p.p) (hx : RelV g x cx)
    (hR : Rel g A w) (hd : RelV g (.sl sid off n m e) cv) (ho : A.objs sid = some (.cells cs)) (hfit : off + min k n * es ≤ cs.length) :
    ∃ w', (Builtin.copy_ #[dT, xT] ty #[cv, cx]).run P w = .ok (.int .i64 (min k n : Nat)) w' ∧ Rel g (A.put sid (.cells (setCells cs off (ds.take (min k n * es))))) w' := by
  obtain ⟨hl, hlen, c, hf, hc⟩ := src_first (P := P) (j := min k n) h hp hx hR (Nat.min_le_left _ _)
  cases hd with
  | slE =>
    rename_i b o
    have hc0 : c = #[] := by
      apply Array.eq_empty_of_size_eq_zero; rw [hc.1, hlen]; simp
    have e0 : ds.take (min k 0 * es) = [] := by simp
    refine ⟨w, ?_, ?_⟩
    · subst hc0
      simp [Builtin.copy_, run_underlying' hu, run_sizeOf' hs, hl w, Nat.min_def] at hf ⊢
      simp [hf, storeCells, goInt]
    · rw [e0]
      have : A.put sid (.cells (setCells cs off [])) = A := by
        cases A
        simp only [Store.put, setCells, Store.mk.injEq, and_true]
        funext j; by_cases hj : j = sid
        · subst hj; simp at ho; simp [ho]
        · simp [hj]
      rw [this]; exact hR
  | sl hm hn hm' hq =>
    rename_i b cap
    obtain ⟨w', hrun, hR'⟩ := write_row (P := P) (n := n) (m := m) (e := e) hR ho hm (by rw [hlen]; exact hfit) hc
    refine ⟨w', ?_, hR'⟩
    have hmin : Nat.min k n = min k n := rfl
    simp [Builtin.copy_, run_underlying' hu, run_sizeOf' hs, hl w, hmin, hf, hrun, goInt]

/-! ### Zero values, one behind the other -/
def repl (zs : List AVal) (n : Nat) : List AVal := Nat.rec (motive := fun _ => List AVal) [] (fun _ ih => zs ++ ih) n
theorem repl_length (zs : List AVal) (n : Nat) : (repl zs n).length = n * zs.length := by
  induction n with
  | zero => have : repl zs 0 = [] := rfl
            rw [this]; simp
  | succ n ih =>
    have : repl zs (n + 1) = zs ++ repl zs n := rfl
    rw [this, List.length_append, ih, Nat.add_mul]; omega
theorem repl_get (zs : List AVal) (n : Nat) : ∀ i, i < n * zs.length → (repl zs n)[i]? = zs[i % zs.length]? := by
  induction n with
  | zero => intro i hi; omega
  | succ n ih =>
    intro i hi
    have : repl zs (n + 1) = zs ++ repl zs n := rfl
    rw [this, List.getElem?_append]
    split
    · rename_i h; rw [Nat.mod_eq_of_lt h]
    · rename_i h
      rw [Nat.add_mul, Nat.one_mul] at hi
      rw [ih (i - zs.length) (by omega)]
      congr 1
      have h : zs.length ≤ i := by omega
      rw [Nat.mod_eq_sub_mod h]
theorem repl_relC {zs : List AVal} {z : Array Value} (h : RelC g zs z) (n : Nat) : RelC g (repl zs n) (Builtin.zeroCells z n) := by
  refine ⟨by rw [zeroCells_size, repl_length, h.1], fun i hi => ?_⟩
  have hi' : i < n * zs.length := by rw [repl_length] at hi; exact hi
  have hpos : 0 < zs.length := by
    rcases Nat.eq_zero_or_pos zs.length with h0 | h0
    · rw [h0] at hi'; simp at hi'
    · exact h0
  have hm : i % zs.length < zs.length := Nat.mod_lt _ hpos
  have hg : (repl zs n)[i] = zs[i % zs.length] := by
    have := repl_get zs n i hi'
    rw [List.getElem?_eq_getElem hi, List.getElem?_eq_getElem hm] at this
    exact Option.some.inj this
  have hz : (Builtin.zeroCells z n).getD i undef = z.getD (i % zs.length) undef := by
    have h1 : i < n * z.size := by rw [h.1]; exact hi'
    have h2 : i % zs.length < z.size := by rw [h.1]; exact hm
    rw [h.1] at h1
    have h3 : z[i % zs.length]! = z[i % zs.length] := by simp [h2]
    simp [Builtin.zeroCells, Array.getD_eq_getD_getElem?, h.1, hi']
    rw [h3, Array.getElem?_eq_getElem h2]; rfl
  rw [hg, hz]
  exact h.2 _ hm

theorem clear_sl {t ty el : TypeId} {es n sid off m e : Nat} {cv : Value} {cs zs : List AVal} (hu : P.underlying t = some (.slice el)) (hz : zeroA P el = some zs)
    (hR : Rel g A w) (hd : RelV g (.sl sid off n m e) cv) (ho : A.objs sid = some (.cells cs)) (hn0 : n ≠ 0) (hfit : off + n * zs.length ≤ cs.length) :
    ∃ w', (Builtin.clear_ #[t] ty #[cv]).run P w = .ok (.tuple #[]) w' ∧ Rel g (A.put sid (.cells (setCells cs off (repl zs n)))) w' := by
  obtain ⟨z, hzr, hzc⟩ := zero_any hz
  cases hd with
  | slE => exact absurd rfl hn0
  | sl hm hn hm' hq =>
    rename_i b cap
    obtain ⟨w', hrun, hR'⟩ := write_row (P := P) (n := n) (m := m) (e := e) hR ho hm (by rw [repl_length]; exact hfit) (repl_relC (hzc g) n)
    refine ⟨w', ?_, hR'⟩
    cases n with
    | zero => exact absurd rfl hn0
    | succ n => simp [Builtin.clear_, run_underlying' hu, hzr, hrun]

/-- A string's bytes, in a new row. -/
theorem bytes_obj {src dst e : TypeId} {s : ByteArray} {id : Nat} (hs : P.underlying src = some .string) (hd : P.underlying dst = some (.slice e)) (he : P.underlying e = some (.int .u8)) (hes : tsz P e = some 1)
    (hR : Rel g A w) (hid : g.mu id = none) (hlt : id < A.next) : MEnd P g A id (.sl id 0 s.size s.size 1) (A.put id (.cells (byteCells s))) w (convert src dst (.string s)) := by
  have hrun := run_bytes_of_string w src dst e s hs hd he
  generalize hcap : grownCap w s.size 0 e = cap at hrun
  have hle : s.size ≤ cap := by rw [← hcap]; exact cut_choose _ _ _ _
  have hsz : (bytesRow s cap).size = cap := by
    simp only [bytesRow, Array.size_append, Array.size_map, Array.size_replicate]
    have : s.data.size = s.size := rfl
    omega
  have hlen : (byteCells s).length = s.size := by simp [byteCells]
  have hget : ∀ i (h : i < s.size), (bytesRow s cap).getD i undef = .int .u8 ((s.data.toList.getD i 0).toNat : Int) := by
    intro i h
    have h' : i < s.data.size := h
    simp [bytesRow, Array.getD_eq_getD_getElem?, Array.getElem?_append, h, List.getD, Array.getElem?_eq_getElem h']
  have hrel : RelC g (byteCells s) ((bytesRow s cap).extract 0 (byteCells s).length) := by
    refine ⟨by rw [hlen]; simp [hsz]; omega, fun i hi => ?_⟩
    rw [hlen] at hi
    have h' : i < s.data.size := hi
    have e1 : ((bytesRow s cap).extract 0 (byteCells s).length).getD i undef = (bytesRow s cap).getD i undef := by
      simp only [Array.getD_eq_getD_getElem?, Array.getElem?_extract]
      rw [if_pos (by rw [hlen, hsz]; omega)]; simp
    rw [e1, hget i hi]
    simp [byteCells, List.getD, Array.getElem?_eq_getElem h']
    exact ⟨.int _ _, rfl⟩
  obtain ⟨g', hx, hm, hpf, hR'⟩ := (hR.draw).newCap (cs := byteCells s) (c := bytesRow s cap) hrel (by rw [hlen, hsz]; exact hle) hid hlt e ((bytesRow s cap).size, (bytesRow s cap).size + 1) (by intro i hi h; omega)
  have hw0 : w.drew.heap.size = w.heap.size := rfl
  rw [hw0] at hm hpf
  exact ⟨_, _, g', hrun, hx, .sl hm (Nat.le_refl _) hle (.inr ⟨_, hpf, by rw [hsz]; omega⟩), hR'⟩

end Go.Cov

namespace Go.Cov
open Go.RowKit
variable {P : Program} {g : Ghost} {A : Store} {w : World}

def putObj (w : World) (b : Nat) (o : Obj) : World := { w with heap := w.heap.setIfInBounds b o }
def noRow (o : Obj) : Prop := ∀ c e fr, o ≠ .cells c e fr
theorem run_setObj {b : Nat} {o o' : Obj} (h : w.heap[b]? = some o') (hn : noRow o') : (setObj b o).run P w = .ok () (putObj w b o) := by
  cases o' with
  | cells c e fr => exact absurd rfl (hn c e fr)
  | _ => simp only [setObj, Sem.run, h, putObj]
theorem run_newObj {o : Obj} : (newObj o).run P w = .ok w.heap.size (w.alloc o) := rfl
theorem run_getObj {b : Nat} {o : Obj} (h : w.heap[b]? = some o) (hn : noRow o) : (getObj b).run P w = .ok o w := by
  cases o with
  | cells c e fr => exact absurd rfl (hn c e fr)
  | _ => simp only [getObj, Sem.run, h]

structure Touched (w w' : World) (b : Nat) : Prop where
  os : w'.os = w.os
  tape : w'.tape = w.tape
  output : w'.output = w.output
  size : w'.heap.size = w.heap.size
  other : ∀ k, k ≠ b → w'.heap[k]? = w.heap[k]?
theorem touched_put (w : World) (b : Nat) (o : Obj) : Touched w (putObj w b o) b :=
  ⟨rfl, rfl, rfl, by simp [putObj], fun k hk => by simp [putObj, Array.getElem?_setIfInBounds, Ne.symm hk]⟩
theorem heap_putObj {b : Nat} {o : Obj} (h : b < w.heap.size) : (putObj w b o).heap[b]? = some o := by
  simp [putObj, h]

/-- What stands for no row is at no row's place. -/
theorem ObjRel.norow {b : Nat} {o : AObj} (h : ObjRel g w b o) (hnc : ∀ cs, o ≠ .cells cs) : ∀ c e fr, w.heap[b]? ≠ some (.cells c e fr) := by
  intro c e fr hc
  cases o with
  | cells cs => exact hnc cs rfl
  | map es k => obtain ⟨_, h, _⟩ := h; rw [hc] at h; cases h
  | iter _ _ _ _ => obtain ⟨_, h, _⟩ := h; rw [hc] at h; cases h
  | loop _ _ _ _ _ _ => obtain ⟨_, h, _⟩ := h; rw [hc] at h; cases h

/-- A block that is no row becomes another one. -/
theorem Rel.touch {w' : World} {b id : Nat} {o o' : AObj} (hR : Rel g A w) (ho : A.objs id = some o) (hm : g.mu id = some b) (hnr : ∀ c e fr, w.heap[b]? ≠ some (.cells c e fr)) (ht : Touched w w' b)
    (hobj : ObjRel g w' b o') (hsp : ∀ t, g.dfr b = some t → Special t w'.heap[b]?) : Rel g (A.put id o') w' := by
  have hle : g.w0.heap.size ≤ b := by
    obtain ⟨b', hb', _, hle⟩ := hR.objs id o ho
    rw [hm] at hb'; cases hb'; exact hle
  have hsome : ∀ j, ((A.put id o').objs j).isSome → (A.objs j).isSome := fun j h => by
    by_cases hj : j = id
    · subst hj; simp [ho]
    · simpa [Store.put, hj] using h
  have hcell : ∀ bb o v, w.cell? ⟨bb, o, none⟩ = some v → bb ≠ b := by
    rintro bb o v h rfl
    unfold World.cell? at h
    split at h
    · rename_i c e fr hc; exact hnr _ _ _ hc
    · cases h
  exact {
    next := fun j hj => by
      have := hR.next j hj
      refine ⟨this.1, ?_⟩
      have hne : j ≠ id := by rintro rfl; rw [hm] at this; cases this.1
      simp [Store.put, hne, this.2]
    objs := fun j oo hj => by
      by_cases hji : j = id
      · subst hji
        simp only [Store.put, if_true, Option.some.injEq] at hj
        subst hj
        exact ⟨b, hm, hobj, hle⟩
      · simp only [Store.put, if_neg hji] at hj
        obtain ⟨bj, hbj, hobj, hlj⟩ := hR.objs j oo hj
        have hne : bj ≠ b := fun e => hji (hR.inj j id b (by simp [hj]) (by simp [ho]) (e ▸ hbj) hm)
        exact ⟨bj, hbj, hobj.move (.refl g 0) (ht.other bj hne), hlj⟩
    inj := fun j j' bb k1 k2 => hR.inj j j' bb (hsome _ k1) (hsome _ k2)
    io := fun bb o v h => by
      have := hR.io bb o v h
      have hbb := hcell _ _ _ this.1
      exact ⟨by rw [← this.1]; exact World.cell?_of_block (w := w) (ht.other bb hbb), this.2⟩
    sep := fun j bb o k1 => hR.sep j bb o (hsome _ k1)
    ntok := hR.ntok
    toks := fun t htl => by
      obtain ⟨bb, fin, lim, k1, k0, cc, ee, frr, k2, k3, k4, k5, k6, k7⟩ := hR.toks t htl
      have hbb : bb ≠ b := fun e => by subst e; exact hnr _ _ _ k2
      exact ⟨bb, fin, lim, k1, k0, cc, ee, frr, (ht.other bb hbb).trans k2, k3, k4, k5, k6, fun j hj => k7 j (hsome _ hj)⟩
    tokinj := hR.tokinj
    below := hR.below.trans ⟨ht.os, ht.tape, ht.output, by rw [ht.size]; exact Nat.le_refl _, fun k hk => ht.other k (by omega)⟩
    pf := fun bb s h => by
      obtain ⟨cc, ee, frr, k1, k2⟩ := hR.pf bb s h
      have hbb : bb ≠ b := fun e => by subst e; exact hnr _ _ _ k1
      exact ⟨cc, ee, frr, (ht.other bb hbb).trans k1, k2⟩
    dfr := fun bb t h => by
      have k1 := hR.dfr bb t h
      refine ⟨k1.1, ?_⟩
      by_cases hbb : bb = b
      · subst hbb; exact hsp t h
      · rw [ht.other bb hbb]; exact k1.2 }

/-- A new object of any kind. -/
theorem Rel.newAny {ob : Obj} {o : AObj} {id : Nat} (df : Option Bool) (hR : Rel g A w) (hid : g.mu id = none) (hlt : id < A.next) (hdf : ∀ t, df = some t → Special t (some ob))
    (hobj : ∀ g', (∀ n, n ≤ id → g.Ext n g') → g'.mu id = some w.heap.size → g'.dfr w.heap.size = df → ObjRel g' (w.alloc ob) w.heap.size o) :
    ∃ g', IExt g id g' ∧ g'.mu id = some w.heap.size ∧ g'.dfr w.heap.size = df ∧ Rel g' (A.put id o) (w.alloc ob) := by
  have hdn : g.dfr w.heap.size = none := by
    cases h : g.dfr w.heap.size with
    | none => rfl
    | some t => have := (hR.dfr _ _ h).2.lt; omega
  have hx : IExt g id { g with mu := fun j => if j = id then some w.heap.size else g.mu j, dfr := fun b => if b = w.heap.size then df else g.dfr b } :=
    ⟨fun j hj => by simp [hj], .inl hid, fun _ _ _ h => h, fun _ _ h => h, fun _ _ h => h, fun b t h => by
      have : b ≠ w.heap.size := by rintro rfl; rw [hdn] at h; cases h
      simp [this, h], rfl⟩
  have hE : ∀ n, n ≤ id → g.Ext n _ := fun n hn => hx.ext hn
  have hold : ∀ j b, (A.objs j).isSome → g.mu j = some b → b ≠ w.heap.size := fun j b h1 h2 => by
    obtain ⟨o, ho⟩ := Option.isSome_iff_exists.1 h1
    have := hR.blk ho h2; omega
  have hmu : ∀ j b, ((A.put id o).objs j).isSome → (if j = id then some w.heap.size else g.mu j) = some b → (j = id ∧ b = w.heap.size) ∨ (j ≠ id ∧ (A.objs j).isSome ∧ g.mu j = some b) := by
    intro j b h1 h2
    by_cases hj : j = id
    · rw [if_pos hj] at h2; cases h2; exact .inl ⟨hj, rfl⟩
    · rw [if_neg hj] at h2
      simp only [Store.put, if_neg hj] at h1
      exact .inr ⟨hj, h1, h2⟩
  have hob := hobj _ hE (by simp) (by simp)
  refine ⟨_, hx, by simp, by simp, ?_⟩
  exact {
    next := fun j hj => by
      have hj' : j ≠ id := by have : A.next ≤ j := hj; omega
      simp only [Store.put, if_neg hj']
      exact hR.next j hj
    objs := fun j oo ho => by
      by_cases hj : j = id
      · subst hj
        simp only [Store.put, if_true] at ho
        cases ho
        exact ⟨w.heap.size, by simp, hob, hR.below.size⟩
      · simp only [Store.put, if_neg hj] at ho
        obtain ⟨b, hb, hobj, hle⟩ := hR.objs j oo ho
        exact ⟨b, by simp [hj, hb], hobj.move (hE 0 (Nat.zero_le _)) (Below.heap_alloc _ _ _ (hR.blk ho hb)), hle⟩
    inj := fun j j' b h1 h2 h3 h4 => by
      rcases hmu j b h1 h3 with ⟨e1, rfl⟩ | ⟨n1, s1, m1⟩ <;> rcases hmu j' _ h2 h4 with ⟨e2, e3⟩ | ⟨n2, s2, m2⟩
      · rw [e1, e2]
      · exact absurd rfl (hold _ _ s2 m2)
      · exact absurd e3 (hold _ _ s1 m1)
      · exact hR.inj j j' b s1 s2 m1 m2
    io := fun b o v h => by
      have := hR.io b o v h
      exact ⟨by rw [World.cell?_alloc_lt _ _ _ (cell_lt this.1)]; exact this.1, this.2⟩
    sep := fun j b o h1 h2 => by
      rcases hmu j b h1 h2 with ⟨e1, rfl⟩ | ⟨n1, s1, m1⟩
      · cases h : g.io w.heap.size o with
        | none => rfl
        | some v => have := cell_lt (hR.io _ _ _ h).1; omega
      · exact hR.sep j b o s1 m1
    ntok := hR.ntok
    toks := fun t ht => by
      obtain ⟨b, fin, lim, h1, h0, c', e', fr, h2, h3, h4, h5, h6, h7⟩ := hR.toks t ht
      have hbl : b < w.heap.size := (Array.getElem?_eq_some_iff.1 h2).1
      refine ⟨b, fin, lim, h1, h0, c', e', fr, (Below.heap_alloc _ _ _ hbl).trans h2, h3, h4, h5, h6, fun j hj hm => ?_⟩
      rcases hmu j b hj hm with ⟨e1, rfl⟩ | ⟨n1, s1, m1⟩
      · omega
      · exact h7 j s1 m1
    tokinj := hR.tokinj
    below := hR.below.alloc hR.below.size _
    pf := fun b s h => by
      obtain ⟨c', e', fr, h1, h2⟩ := hR.pf b s h
      exact ⟨c', e', fr, (Below.heap_alloc _ _ _ (Array.getElem?_eq_some_iff.1 h1).1).trans h1, h2⟩
    dfr := fun b t h => by
      have h : (if b = w.heap.size then df else g.dfr b) = some t := h
      by_cases hb : b = w.heap.size
      · subst hb
        rw [if_pos rfl] at h
        refine ⟨hR.below.size, ?_⟩
        have := hdf t h
        rw [show (w.alloc ob).heap[w.heap.size]? = some ob by show (w.heap.push _)[w.heap.size]? = _; simp]
        exact this
      · rw [if_neg hb] at h
        have := hR.dfr b t h
        refine ⟨this.1, ?_⟩
        rw [show (w.alloc ob).heap[b]? = w.heap[b]? from Below.heap_alloc _ _ _ this.2.lt]
        exact this.2 }


/-- A new block for the calls that rounds defer. -/
theorem Rel.newDfr (hR : Rel g A w) : ∃ g' : Ghost, g'.mu = g.mu ∧ g'.io = g.io ∧ g.dfr w.heap.size = none ∧ g'.dfr w.heap.size = some true ∧ (∀ b, b ≠ w.heap.size → g'.dfr b = g.dfr b) ∧ (∀ n, g.Ext n g') ∧ Rel g' A (w.alloc (.deferred (some []))) := by
  have hdn : g.dfr w.heap.size = none := by
    cases h : g.dfr w.heap.size with
    | none => rfl
    | some t => have := (hR.dfr _ _ h).2.lt; omega
  have hE : ∀ n, g.Ext n { g with dfr := fun b => if b = w.heap.size then some true else g.dfr b } := fun n =>
    ⟨fun _ _ h => h, fun _ _ => rfl, fun _ _ _ h => h, fun _ _ h => h, fun _ _ h => h, fun b t h => by
      have : b ≠ w.heap.size := by rintro rfl; rw [hdn] at h; cases h
      simp [this, h], rfl⟩
  refine ⟨{ g with dfr := fun b => if b = w.heap.size then some true else g.dfr b }, rfl, rfl, hdn, by simp, fun b hb => by simp [hb], hE, ?_⟩
  exact {
    next := hR.next
    objs := fun j oo ho => by
      obtain ⟨b, hb, hobj, hle⟩ := hR.objs j oo ho
      exact ⟨b, hb, hobj.move (hE 0) (Below.heap_alloc _ _ _ (hR.blk ho hb)), hle⟩
    inj := hR.inj
    io := fun b o v h => by
      have := hR.io b o v h
      exact ⟨by rw [World.cell?_alloc_lt _ _ _ (cell_lt this.1)]; exact this.1, this.2⟩
    sep := hR.sep
    ntok := hR.ntok
    toks := fun t ht => by
      obtain ⟨b, fin, lim, h1, h0, c', e', fr, h2, h3, h4, h5, h6, h7⟩ := hR.toks t ht
      have hbl : b < w.heap.size := (Array.getElem?_eq_some_iff.1 h2).1
      exact ⟨b, fin, lim, h1, h0, c', e', fr, (Below.heap_alloc _ _ _ hbl).trans h2, h3, h4, h5, h6, h7⟩
    tokinj := hR.tokinj
    below := hR.below.alloc hR.below.size _
    pf := fun b s h => by
      obtain ⟨c', e', fr, h1, h2⟩ := hR.pf b s h
      exact ⟨c', e', fr, (Below.heap_alloc _ _ _ (Array.getElem?_eq_some_iff.1 h1).1).trans h1, h2⟩
    dfr := fun b t h => by
      have h : (if b = w.heap.size then some true else g.dfr b) = some t := h
      by_cases hb : b = w.heap.size
      · subst hb
        rw [if_pos rfl] at h
        cases h
        refine ⟨hR.below.size, ?_⟩
        show (w.heap.push _)[w.heap.size]? = _
        simp
      · rw [if_neg hb] at h
        have := hR.dfr b t h
        refine ⟨this.1, ?_⟩
        rw [show (w.alloc (.deferred (some []))).heap[b]? = w.heap[b]? from Below.heap_alloc _ _ _ this.2.lt]
        exact this.2 }

theorem RoomRel.dfrD {b fin n cap len : Nat} {r : Room} (h : RoomRel g b fin n cap len r) (d : Nat → Option Bool) : RoomRel { g with dfr := d } b fin n cap len r := by
  cases r <;> exact h
/-- The ghost's knowledge of such blocks is nothing to values. -/
theorem RelV.dfrD {v : AVal} {cv : Value} (h : RelV g v cv) (d : Nat → Option Bool) : RelV { g with dfr := d } v cv := by
  induction h with
  | junk v => exact .junk v
  | bool b => exact .bool b
  | int k n => exact .int k n
  | str s => exact .str s
  | ptr0 => exact .ptr0
  | ptr hm => exact .ptr hm
  | lptr f h1 _ ih => exact .lptr f h1 ih
  | listNil r => exact .listNil r
  | list f hn hr h1 _ ih => exact .list f hn (hr.dfrD d) h1 ih
  | sl hm hn hm' hq => exact .sl hm hn hm' hq
  | slE => exact .slE
  | map0 => exact .map0
  | map hm => exact .map hm
  | func0 => exact .func0
  | func ff fc hf hc _ _ ih1 ih2 => exact .func ff fc hf hc ih1 ih2
  | iface0 => exact .iface0
  | iface _ ih => exact .iface ih
  | agg c hs _ ih => exact .agg c hs ih
  | tup c hs _ ih => exact .tup c hs ih
  | yld hm => exact .yld hm

/-- Such a block is taken: the ghost knows no more of it. -/
theorem Rel.takeDfr {b : Nat} (hR : Rel g A w) (hd : g.dfr b = some true) : Rel { g with dfr := fun x => if x = b then none else g.dfr x } A (putObj w b (.deferred none)) := by
  have hb := hR.dfr b true hd
  have hblk : w.heap[b]? = some (.deferred (some [])) := hb.2
  have ht := touched_put w b (.deferred none)
  have hcell : ∀ bb o v, w.cell? ⟨bb, o, none⟩ = some v → bb ≠ b := by
    rintro bb o v h rfl
    simp [World.cell?, hblk] at h
  exact {
    next := hR.next
    objs := fun j oo hj => by
      obtain ⟨bj, hbj, hobj, hlj⟩ := hR.objs j oo hj
      have hne : bj ≠ b := by
        rintro rfl
        cases oo with
        | cells cs => obtain ⟨_, _, _, h, _⟩ := hobj; rw [hblk] at h; cases h
        | map es k => obtain ⟨_, h, _⟩ := hobj; rw [hblk] at h; cases h
        | iter _ _ _ _ => obtain ⟨_, h, _⟩ := hobj; rw [hblk] at h; cases h
        | loop _ _ _ _ _ _ => obtain ⟨_, h, _⟩ := hobj; rw [hblk] at h; cases h
      refine ⟨bj, hbj, ?_, hlj⟩
      have hmv : ObjRel g (putObj w b (.deferred none)) bj oo := hobj.move (.refl g 0) (ht.other bj hne)
      have rv : ∀ {v : AVal} {cv : Value}, RelV g v cv → RelV { g with dfr := fun x => if x = b then none else g.dfr x } v cv := fun h => h.dfrD _
      cases oo with
      | cells cs => obtain ⟨c, e, fr, h1, h2, h3, h4⟩ := hmv; exact ⟨c, e, fr, h1, h2, fun i hi => rv (h3 i hi), h4⟩
      | map es k => obtain ⟨c, h1, h2, h3⟩ := hmv; exact ⟨c, h1, h2, fun i hi => ⟨rv (h3 i hi).1, rv (h3 i hi).2.1, (h3 i hi).2.2⟩⟩
      | iter m s n l => exact hmv
      | loop _ _ _ _ _ _ =>
        obtain ⟨r, h1, h2, h3, h4, h5, h6, h7, h8, h9⟩ := hmv
        exact ⟨r, h1, h2, h3, h4, h5, h6, by show (if bj = b then none else g.dfr bj) = _; rw [if_neg hne]; exact h7, fun i => rv (h8 i), h9⟩
    inj := hR.inj
    io := fun bb o v h => by
      have := hR.io bb o v h
      have hbb := hcell _ _ _ this.1
      exact ⟨by rw [← this.1]; exact World.cell?_of_block (w := w) (ht.other bb hbb), this.2⟩
    sep := hR.sep
    ntok := hR.ntok
    toks := fun t htl => by
      obtain ⟨bb, fin, lim, k1, k0, cc, ee, frr, k2, k3, k4, k5, k6, k7⟩ := hR.toks t htl
      have hbb : bb ≠ b := fun e => by subst e; rw [hblk] at k2; cases k2
      exact ⟨bb, fin, lim, k1, k0, cc, ee, frr, (ht.other bb hbb).trans k2, k3, k4, k5, k6, k7⟩
    tokinj := hR.tokinj
    below := hR.below.trans ⟨ht.os, ht.tape, ht.output, by rw [ht.size]; exact Nat.le_refl _, fun k hk => ht.other k (by have := hb.1; omega)⟩
    pf := fun bb s h => by
      obtain ⟨cc, ee, frr, k1, k2⟩ := hR.pf bb s h
      have hbb : bb ≠ b := fun e => by subst e; rw [hblk] at k1; cases k1
      exact ⟨cc, ee, frr, (ht.other bb hbb).trans k1, k2⟩
    dfr := fun bb t h => by
      have h : (if bb = b then none else g.dfr bb) = some t := h
      by_cases hbb : bb = b
      · rw [if_pos hbb] at h; cases h
      · rw [if_neg hbb] at h
        have k1 := hR.dfr bb t h
        refine ⟨k1.1, ?_⟩
        rw [ht.other bb hbb]; exact k1.2 }


end Go.Cov
