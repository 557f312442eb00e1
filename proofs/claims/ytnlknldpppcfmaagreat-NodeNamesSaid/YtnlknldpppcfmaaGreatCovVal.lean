/-
  Proved here: abstract values, the worlds that they stand for, and the operations that leave the store alone. Conditions: none.
-/
import Derived.CallsIn
import Derived.WalkKit

namespace Go.Cov
open Go.RowKit

/-- What is known of the room behind a list's end: none at all; token t owns it; nothing. -/
inductive Room where
  | full | tok (t : Nat) | lost
  deriving DecidableEq

/-- Abstract values. 'list': an immutable slice of n elements, its cells written out; 'lptr': a pointer into such cells;
'ptr', 'sl', 'map': into an object of the abstract store. -/
inductive AVal where
  | junk
  | bool (b : Bool)
  | int (k : IntKind) (n : Int)
  | str (s : ByteArray)
  | ptr0
  | ptr (id off : Nat)
  | lptr (cs : List AVal) (off : Nat)
  | list (isNil : Bool) (r : Room) (n : Nat) (cs : List AVal)
  | sl (id off n m e : Nat)
  | map0
  | map (id : Nat)
  | func0
  | func (fn : Fn) (first cap : List AVal)
  | iface0
  | iface (t : TypeId) (v : AVal)
  | agg (cs : List AVal)
  | tup (vs : List AVal)
  | yld (id : Nat)

instance : Inhabited AVal := ⟨.junk⟩

inductive AObj where
  | cells (cs : List AVal)
  | map (es : List (AVal × AVal × Nat)) (clock : Nat)
  | iter (m : Option Nat) (since : Nat) (seen : List Nat) (last : Nat)
  | loop (st : LoopState) (pend : Option Code) (fr : Nat → AVal) (ps : List Nat) (assign body : Code)

structure Store where
  objs : Nat → Option AObj
  live : Nat → Bool
  next : Nat
  ntok : Nat

structure Ghost where
  mu : Nat → Option Nat
  io : Nat → Nat → Option Value
  tk : Nat → Option (Nat × Nat × Nat)
  pf : Nat → Option Nat
  dfr : Nat → Option Bool
  w0 : World

def RoomRel (g : Ghost) (b fin n cap len : Nat) : Room → Prop
  | .full => cap = n
  | .tok t => ∃ lim e, g.tk t = some (b, fin, lim) ∧ len = n * e ∧ lim = fin + (cap - n) * e ∧ (n = 0 → e = 1)
  | .lost => True

inductive RelV (g : Ghost) : AVal → Value → Prop
  | junk (v : Value) : RelV g .junk v
  | bool (b : Bool) : RelV g (.bool b) (.bool b)
  | int (k : IntKind) (n : Int) : RelV g (.int k n) (.int k n)
  | str (s : ByteArray) : RelV g (.str s) (.string s)
  | ptr0 : RelV g .ptr0 (.pointer none)
  | ptr {id off b : Nat} (h : g.mu id = some b) : RelV g (.ptr id off) (.pointer (some ⟨b, off, none⟩))
  | lptr {cs : List AVal} {off b base : Nat} (f : Nat → Value) (h1 : ∀ i, i < cs.length → g.io b (base + i) = some (f i))
      (h2 : ∀ i (h : i < cs.length), RelV g cs[i] (f i)) : RelV g (.lptr cs off) (.pointer (some ⟨b, base + off, none⟩))
  | listNil (r : Room) : RelV g (.list true r 0 []) (.slice none 0 0)
  | list {r : Room} {n : Nat} {cs : List AVal} {b base cap : Nat} (f : Nat → Value) (hn : n ≤ cap) (hr : RoomRel g b (base + cs.length) n cap cs.length r)
      (h1 : ∀ i, i < cs.length → g.io b (base + i) = some (f i)) (h2 : ∀ i (h : i < cs.length), RelV g cs[i] (f i)) :
      RelV g (.list false r n cs) (.slice (some ⟨b, base, none⟩) n cap)
  | sl {id off n m e b cap : Nat} (h : g.mu id = some b) (hn : n ≤ m) (hm : m ≤ cap) (hq : cap = m ∨ ∃ s, g.pf b = some s ∧ off + cap * e ≤ s) : RelV g (.sl id off n m e) (.slice (some ⟨b, off, none⟩) n cap)
  | slE {id off e b o : Nat} : RelV g (.sl id off 0 0 e) (.slice (some ⟨b, o, none⟩) 0 0)
  | map0 : RelV g .map0 (.map none)
  | map {id b : Nat} (h : g.mu id = some b) : RelV g (.map id) (.map (some b))
  | func0 : RelV g .func0 .nilFunc
  | func {fn : Fn} {fs cs : List AVal} (ff fc : Array Value) (hf : ff.size = fs.length) (hc : fc.size = cs.length)
      (h1 : ∀ i (h : i < fs.length), RelV g fs[i] (ff.getD i undef)) (h2 : ∀ i (h : i < cs.length), RelV g cs[i] (fc.getD i undef)) :
      RelV g (.func fn fs cs) (.func fn ff fc)
  | iface0 : RelV g .iface0 .nilIface
  | iface {t : TypeId} {v : AVal} {cv : Value} (h : RelV g v cv) : RelV g (.iface t v) (.iface t cv)
  | agg {cs : List AVal} (c : Array Value) (hs : c.size = cs.length) (h : ∀ i (h : i < cs.length), RelV g cs[i] (c.getD i undef)) : RelV g (.agg cs) (.agg c)
  | tup {cs : List AVal} (c : Array Value) (hs : c.size = cs.length) (h : ∀ i (h : i < cs.length), RelV g cs[i] (c.getD i undef)) : RelV g (.tup cs) (.tuple c)
  | yld {id b : Nat} (h : g.mu id = some b) : RelV g (.yld id) (.func (.yield b) #[] #[])

/-- Values, one by one. -/
def RelVs (g : Ghost) (vs : List AVal) (cs : Array Value) : Prop := cs.size = vs.length ∧ ∀ i (h : i < vs.length), RelV g vs[i] (cs.getD i undef)

/-- All slots that a code writes are a frame's own. -/
def okC (n : Nat) : Code → Bool
  | .region _ ops _ => ops.toList.all fun o => match o.dst with | some d => decide (d < n) | none => true
  | .seq a b => okC n a && okC n b
  | .cond _ a b => okC n a && okC n b
  | .block _ a => okC n a
  | .loop a => okC n a
  | .rangeFunc _ ps a b => (ps.toList.all fun p => decide (p < n)) && okC n a && okC n b
  | _ => true

def ObjRel (g : Ghost) (w : World) (b : Nat) : AObj → Prop
  | .cells cs => ∃ (c : Array Value) (e : TypeId) (fr : Nat × Nat), w.heap[b]? = some (.cells c e fr) ∧ cs.length ≤ c.size ∧
      (∀ i (h : i < cs.length), RelV g cs[i] (c.getD i undef)) ∧ (∀ i, i < c.size → ¬ (fr.1 ≤ i ∧ i < fr.2)) ∧ (∀ i, i < cs.length → (c.getD i undef).oneCell' = true)
  | .map es k => ∃ ces : Array MapEntry, w.heap[b]? = some (.map ces k) ∧ ces.size = es.length ∧
      (∀ i (h : i < es.length), RelV g (es[i]).1 (ces.getD i default).key ∧ RelV g (es[i]).2.1 (ces.getD i default).val ∧ (ces.getD i default).born = (es[i]).2.2)
  | .iter m since seen last => ∃ mb : Option Nat, w.heap[b]? = some (.mapIter mb since seen.toArray last) ∧ (match m with | none => mb = none | some i => ∃ c, g.mu i = some c ∧ mb = some c)
  | .loop st pend fr ps assign body => ∃ r : Loop, w.heap[b]? = some (.loop r) ∧ r.state = st ∧ r.pending = pend ∧ r.params.toList = ps ∧ r.assign = assign ∧ r.body = body ∧
      g.dfr b = some false ∧ (∀ i, RelV g (fr i) (r.tmps.getD i undef)) ∧ (∀ i, r.tmps.size ≤ i → fr i = .junk) ∧ okC r.tmps.size assign = true ∧ okC r.tmps.size body = true ∧ (ps.all fun p => decide (p < r.tmps.size)) = true

/-- A block that is no row: for the calls that rounds defer; a loop's record. -/
def Special (t : Bool) (o : Option Obj) : Prop := match t with | true => o = some (.deferred (some [])) | false => ∃ r, o = some (.loop r)
theorem Special.cells {t : Bool} {c : Array Value} {e : TypeId} {fr : Nat × Nat} (h : Special t (some (.cells c e fr))) : False := by
  cases t with
  | true => cases h
  | false => obtain ⟨r, h⟩ := h; cases h
theorem Special.lt {t : Bool} {w : World} {b : Nat} (h : Special t w.heap[b]?) : b < w.heap.size := by
  cases t with
  | true => exact (Array.getElem?_eq_some_iff.1 h).1
  | false => obtain ⟨r, h⟩ := h; exact (Array.getElem?_eq_some_iff.1 h).1

structure Rel (g : Ghost) (A : Store) (w : World) : Prop where
  next : ∀ id, A.next ≤ id → g.mu id = none ∧ A.objs id = none
  objs : ∀ id o, A.objs id = some o → ∃ b, g.mu id = some b ∧ ObjRel g w b o ∧ g.w0.heap.size ≤ b
  inj : ∀ id id' b, (A.objs id).isSome → (A.objs id').isSome → g.mu id = some b → g.mu id' = some b → id = id'
  io : ∀ b o v, g.io b o = some v → w.cell? ⟨b, o, none⟩ = some v ∧ v.oneCell' = true
  sep : ∀ id b o, (A.objs id).isSome → g.mu id = some b → g.io b o = none
  ntok : ∀ t, A.ntok ≤ t → g.tk t = none ∧ A.live t = false
  toks : ∀ t, A.live t = true → ∃ b fin lim, g.tk t = some (b, fin, lim) ∧ g.w0.heap.size ≤ b ∧
    ∃ (c : Array Value) (e : TypeId) (fr : Nat × Nat), w.heap[b]? = some (.cells c e fr) ∧ lim ≤ c.size ∧ fin ≤ lim ∧
      (∀ i, i < c.size → ¬ (fr.1 ≤ i ∧ i < fr.2)) ∧ (∀ o, fin ≤ o → g.io b o = none) ∧ (∀ id, (A.objs id).isSome → g.mu id ≠ some b)
  tokinj : ∀ t t' b f l f' l', A.live t = true → A.live t' = true → g.tk t = some (b, f, l) → g.tk t' = some (b, f', l') → t = t'
  below : Below g.w0.heap.size g.w0 w
  pf : ∀ b s, g.pf b = some s → ∃ (c : Array Value) (e : TypeId) (fr : Nat × Nat), w.heap[b]? = some (.cells c e fr) ∧ s ≤ c.size
  dfr : ∀ b t, g.dfr b = some t → g.w0.heap.size ≤ b ∧ Special t w.heap[b]?

/-- A ghost goes on to another one, whose ids below n are as they were. -/
structure Ghost.Ext (g : Ghost) (n : Nat) (g' : Ghost) : Prop where
  mu : ∀ id b, g.mu id = some b → g'.mu id = some b
  old : ∀ id, id < n → g'.mu id = g.mu id
  io : ∀ b o v, g.io b o = some v → g'.io b o = some v
  tk : ∀ t x, g.tk t = some x → g'.tk t = some x
  pf : ∀ b s, g.pf b = some s → g'.pf b = some s
  dfr : ∀ b t, g.dfr b = some t → g'.dfr b = some t
  w0 : g'.w0 = g.w0

theorem Ghost.Ext.refl (g : Ghost) (n : Nat) : g.Ext n g := ⟨fun _ _ h => h, fun _ _ => rfl, fun _ _ _ h => h, fun _ _ h => h, fun _ _ h => h, fun _ _ h => h, rfl⟩
theorem Ghost.Ext.trans {g g' g'' : Ghost} {n m : Nat} (h : g.Ext n g') (h' : g'.Ext m g'') (hm : n ≤ m) : g.Ext n g'' :=
  ⟨fun _ _ k => h'.mu _ _ (h.mu _ _ k), fun id hi => (h'.old id (by omega)).trans (h.old id hi), fun _ _ _ k => h'.io _ _ _ (h.io _ _ _ k), fun _ _ k => h'.tk _ _ (h.tk _ _ k), fun _ _ k => h'.pf _ _ (h.pf _ _ k), fun _ _ k => h'.dfr _ _ (h.dfr _ _ k), h'.w0.trans h.w0⟩

theorem RoomRel.mono {g g' : Ghost} {n : Nat} (h : g.Ext n g') {b fin k cap len : Nat} {r : Room} (hr : RoomRel g b fin k cap len r) : RoomRel g' b fin k cap len r := by
  cases r with
  | full => exact hr
  | tok t => obtain ⟨lim, e, h1, h2⟩ := hr; exact ⟨lim, e, h.tk _ _ h1, h2⟩
  | lost => trivial

theorem RelV.mono {g g' : Ghost} {n : Nat} (h : g.Ext n g') {v : AVal} {cv : Value} (hv : RelV g v cv) : RelV g' v cv := by
  induction hv with
  | junk v => exact .junk v
  | bool b => exact .bool b
  | int k n => exact .int k n
  | str s => exact .str s
  | ptr0 => exact .ptr0
  | ptr hm => exact .ptr (h.mu _ _ hm)
  | lptr f h1 _ ih => exact .lptr f (fun i hi => h.io _ _ _ (h1 i hi)) ih
  | listNil r => exact .listNil r
  | list f hn hr h1 _ ih => exact .list f hn (hr.mono h) (fun i hi => h.io _ _ _ (h1 i hi)) ih
  | sl hm hn hm' hq => exact .sl (h.mu _ _ hm) hn hm' (hq.imp id fun ⟨s, k, l⟩ => ⟨s, h.pf _ _ k, l⟩)
  | slE => exact .slE
  | map0 => exact .map0
  | map hm => exact .map (h.mu _ _ hm)
  | func0 => exact .func0
  | func ff fc hf hc _ _ ih1 ih2 => exact .func ff fc hf hc ih1 ih2
  | iface0 => exact .iface0
  | iface _ ih => exact .iface ih
  | agg c hs _ ih => exact .agg c hs ih
  | tup c hs _ ih => exact .tup c hs ih
  | yld hm => exact .yld (h.mu _ _ hm)

theorem RelVs.mono {g g' : Ghost} {n : Nat} (h : g.Ext n g') {vs : List AVal} {cs : Array Value} (hv : RelVs g vs cs) : RelVs g' vs cs :=
  ⟨hv.1, fun i hi => (hv.2 i hi).mono h⟩

/-! ### Constants -/
def ofVal0 : Value → AVal
  | .bool b => .bool b
  | .int k n => .int k n
  | .string s => .str s
  | .pointer none => .ptr0
  | .slice none 0 0 => .list true .full 0 []
  | .map none => .map0
  | .nilFunc => .func0
  | .nilIface => .iface0
  | _ => .junk

def ofVal : Value → AVal
  | .agg cs => .agg (cs.toList.map ofVal0)
  | .tuple cs => .tup (cs.toList.map ofVal0)
  | v => ofVal0 v

theorem RelV.ofVal0 (g : Ghost) (v : Value) : RelV g (ofVal0 v) v := by
  unfold Cov.ofVal0
  split
  · exact .bool _
  · exact .int _ _
  · exact .str _
  · exact .ptr0
  · exact .listNil _
  · exact .map0
  · exact .func0
  · exact .iface0
  · exact .junk _

theorem RelV.ofVal (g : Ghost) (v : Value) : RelV g (ofVal v) v := by
  unfold Cov.ofVal
  split
  · rename_i cs
    refine .agg cs (by simp) fun i hi => ?_
    have hi' : i < cs.size := by simpa using hi
    simp only [List.getElem_map, Array.getElem_toList]
    have : cs.getD i undef = cs[i] := by simp [Array.getD, hi']
    rw [this]; exact RelV.ofVal0 g _
  · rename_i cs
    refine .tup cs (by simp) fun i hi => ?_
    have hi' : i < cs.size := by simpa using hi
    simp only [List.getElem_map, Array.getElem_toList]
    have : cs.getD i undef = cs[i] := by simp [Array.getD, hi']
    rw [this]; exact RelV.ofVal0 g _
  · exact RelV.ofVal0 g _

end Go.Cov

namespace Go.Cov
open Go.RowKit

/-! ### Types, as far as operations ask -/
def tsz (P : Program) (t : TypeId) : Option Nat := (P.info? t).map (·.size)
def descAgg : TypeDesc → Bool | .struct _ => true | .array _ _ => true | _ => false
def tagg (P : Program) (t : TypeId) : Option Bool := (P.underlying t).map descAgg
def offA (P : Program) (s : TypeId) (f : Nat) : Option Nat :=
  match P.underlying s with
  | some (.struct fs) => match fs[f]? with
    | some fd => match tsz P fd.type with
      | some (_ + 1) => some fd.offset
      | _ => none
    | none => none
  | _ => none
def fldA (P : Program) (s : TypeId) (f : Nat) : Option (Nat × TypeId) :=
  match P.underlying s with
  | some (.struct fs) => (fs[f]?).map fun fd => (fd.offset, fd.type)
  | _ => none
def arrA (P : Program) (t : TypeId) : Option (Nat × Nat) :=
  match P.underlying t with
  | some (.array n e) => (tsz P e).map fun s => (n, s)
  | _ => none
def arrE (P : Program) (t : TypeId) : Option (Nat × TypeId) :=
  match P.underlying t with
  | some (.array n e) => some (n, e)
  | _ => none
def slA (P : Program) (t : TypeId) : Option Nat :=
  match P.underlying t with
  | some (.slice e) => tsz P e
  | _ => none
def slE (P : Program) (t : TypeId) : Option TypeId :=
  match P.underlying t with
  | some (.slice e) => some e
  | _ => none
def zeroA (P : Program) (t : TypeId) : Option (List AVal) :=
  match P.info? t with
  | some i => match i.zero with
    | some z => if z.cells.toList.all (·.oneCell') then some (z.cells.toList.map ofVal0) else none
    | none => none
  | none => none

/-- A condition, and how it is decided. -/
structure Cd where
  p : Prop
  [d : Decidable p]
abbrev cd (p : Prop) [Decidable p] : Cd := ⟨p⟩
def Cd.b (c : Cd) : Bool := @decide c.p c.d
theorem Cd.of_b {c : Cd} (h : c.b = true) : c.p := @of_decide_eq_true c.p c.d h
def Cd.and (c e : Cd) : Cd := @Cd.mk (c.p ∧ e.p) (@instDecidableAnd _ _ c.d e.d)
theorem Cd.and_p (c e : Cd) : (c.and e).p = (c.p ∧ e.p) := rfl
theorem cd_p (p : Prop) [Decidable p] : (cd p).p = p := rfl

def cut (cs : List AVal) (off n : Nat) : List AVal := (cs.drop off).take n
def loadA (P : Program) (t : TypeId) (cs : List AVal) (off : Nat) : Option (Cd × AVal) :=
  match tagg P t, tsz P t with
  | some true, some n => some (cd (off + n ≤ cs.length), .agg (cut cs off n))
  | some false, _ => some (cd (off < cs.length), cs.getD off .junk)
  | _, _ => none

/-! ### Ends -/
structure PExt (g g' : Ghost) : Prop where
  mu : g'.mu = g.mu
  tk : g'.tk = g.tk
  pf : g'.pf = g.pf
  dfr : g'.dfr = g.dfr
  w0 : g'.w0 = g.w0
  io : ∀ b o v, g.io b o = some v → g'.io b o = some v
theorem PExt.refl (g : Ghost) : PExt g g := ⟨rfl, rfl, rfl, rfl, rfl, fun _ _ _ h => h⟩
theorem PExt.trans {g g' g'' : Ghost} (h : PExt g g') (h' : PExt g' g'') : PExt g g'' :=
  ⟨h'.mu.trans h.mu, h'.tk.trans h.tk, h'.pf.trans h.pf, h'.dfr.trans h.dfr, h'.w0.trans h.w0, fun _ _ _ k => h'.io _ _ _ (h.io _ _ _ k)⟩
theorem PExt.ext {g g' : Ghost} (h : PExt g g') (n : Nat) : g.Ext n g' :=
  ⟨fun _ _ k => by rw [h.mu]; exact k, fun _ _ => by rw [h.mu], h.io, fun _ _ k => by rw [h.tk]; exact k, fun _ _ k => by rw [h.pf]; exact k, fun _ _ k => by rw [h.dfr]; exact k, h.w0⟩

def POK (P : Program) (g : Ghost) (A : Store) (w : World) (s : Sem Next) (v : AVal) : Prop :=
  ∃ cv w' g', s.run P w = .ok (.value cv) w' ∧ PExt g g' ∧ RelV g' v cv ∧ Rel g' A w'
theorem POK.same {P : Program} {g : Ghost} {A : Store} {w : World} {s : Sem Next} {v : AVal} {cv : Value} (hr : s.run P w = .ok (.value cv) w)
    (hv : RelV g v cv) (hR : Rel g A w) : POK P g A w s v := ⟨cv, w, g, hr, .refl g, hv, hR⟩

variable {P : Program} {g : Ghost} {A : Store} {w : World}

theorem run_typeInfo {t : TypeId} {i : TypeInfo} (h : P.info? t = some i) : (typeInfo t).run P w = .ok i w := by
  simp [typeInfo, h]
theorem run_underlying' {t : TypeId} {d : TypeDesc} (h : P.underlying t = some d) : (underlying t).run P w = .ok d w := by
  simp [underlying, h]
theorem run_sizeOf' {t : TypeId} {n : Nat} (h : tsz P t = some n) : (sizeOf t).run P w = .ok n w := by
  unfold tsz at h
  cases hi : P.info? t with
  | none => simp [hi] at h
  | some i => simp [hi] at h; simp [sizeOf, typeInfo, hi, h]
theorem run_isAgg' {t : TypeId} {b : Bool} (h : tagg P t = some b) : (isAgg t).run P w = .ok b w := by
  unfold tagg at h
  cases hd : P.underlying t with
  | none => simp [hd] at h
  | some d => simp [hd] at h; subst h; cases d <;> simp [isAgg, underlying, hd, descAgg]

theorem addr_add (b base n : Nat) : (⟨b, base, none⟩ : Addr).add n = ⟨b, base + n, none⟩ := by
  unfold Addr.add; split
  · rename_i h; subst h; simp
  · rfl

/-- Cells that may be read at an address, whatever holds them. -/
def CellsAt (g : Ghost) (w : World) (b base : Nat) (cs : List AVal) : Prop := ∃ f : Nat → Value, (∀ i, i < cs.length → w.cell? ⟨b, base + i, none⟩ = some (f i) ∧ (f i).oneCell' = true) ∧ ∀ i (h : i < cs.length), RelV g cs[i] (f i)

theorem RelV.cellsAt_lptr {cs : List AVal} {off : Nat} {cv : Value} (h : RelV g (.lptr cs off) cv) (hR : Rel g A w) :
    ∃ b base, cv = .pointer (some ⟨b, base + off, none⟩) ∧ CellsAt g w b base cs := by
  cases h with
  | lptr f h1 h2 => exact ⟨_, _, rfl, f, fun i hi => hR.io _ _ _ (h1 i hi), h2⟩

theorem ObjRel.cellsAt {b : Nat} {cs : List AVal} (h : ObjRel g w b (.cells cs)) : CellsAt g w b 0 cs := by
  obtain ⟨c, e, fr, hb, hl, hr, _, ho⟩ := h
  refine ⟨fun i => c.getD i undef, fun i hi => ⟨?_, ho i hi⟩, hr⟩
  have hi' : i < c.size := by omega
  simp [World.cell?, hb, hi', Array.getD]

theorem RelV.cellsAt_ptr {id off : Nat} {cv : Value} {cs : List AVal} (h : RelV g (.ptr id off) cv) (hR : Rel g A w) (ho : A.objs id = some (.cells cs)) :
    ∃ b, cv = .pointer (some ⟨b, 0 + off, none⟩) ∧ CellsAt g w b 0 cs := by
  cases h with
  | ptr hm =>
    obtain ⟨b', hb', hobj, _⟩ := hR.objs _ _ ho
    rw [hm] at hb'; cases hb'
    exact ⟨_, by simp, hobj.cellsAt⟩

theorem CellsAt.cutAt {b base : Nat} {cs : List AVal} (h : CellsAt g w b base cs) (off n : Nat) : CellsAt g w b (base + off) (cut cs off n) := by
  obtain ⟨f, h1, h2⟩ := h
  have key : ∀ i, i < (cut cs off n).length → off + i < cs.length := by
    intro i hi; simp [cut] at hi; omega
  refine ⟨fun i => f (off + i), fun i hi => ?_, fun i hi => ?_⟩
  · have := h1 (off + i) (key i hi); rw [Nat.add_assoc]; exact this
  · have := h2 (off + i) (key i hi); simpa [cut] using this

theorem run_loadCells_at {b base : Nat} {cs : List AVal} (h : CellsAt g w b base cs) :
    ∃ c : Array Value, (∀ w' : World, (∀ a, w'.cell? a = w.cell? a) → (loadCells ⟨b, base, none⟩ cs.length).run P w' = .ok c w') ∧ c.size = cs.length ∧ (∀ i (h : i < cs.length), RelV g cs[i] (c.getD i undef)) ∧ (∀ i, i < cs.length → (c.getD i undef).oneCell' = true) := by
  obtain ⟨f, h1, h2⟩ := h
  refine ⟨((List.range cs.length).map f).toArray, fun w' hw' => run_loadCells w' _ _ f (fun j hj => by rw [addr_add, hw']; exact (h1 j hj).1), by simp, fun i hi => ?_, fun i hi => ?_⟩
  · have : (((List.range cs.length).map f).toArray).getD i undef = f i := by simp [Array.getD, hi]
    rw [this]; exact h2 i hi
  · have : (((List.range cs.length).map f).toArray).getD i undef = f i := by simp [Array.getD, hi]
    rw [this]; exact (h1 i hi).2

theorem run_loadVar_at {t : TypeId} {b base off : Nat} {cs : List AVal} (h : CellsAt g w b base cs) {p : Cd} {v : AVal} (hl : loadA P t cs off = some (p, v)) (hp : p.p) :
    ∃ cv, (loadVar t ⟨b, base + off, none⟩).run P w = .ok cv w ∧ RelV g v cv := by
  unfold loadA at hl
  split at hl
  · rename_i n hagg hsz
    simp only [Option.some.injEq, Prod.mk.injEq] at hl
    obtain ⟨rfl, rfl⟩ := hl
    have hc := h.cutAt off n
    have hlen : (cut cs off n).length = n := by simp [cut]; omega
    obtain ⟨c, hr, hs, hrel, _⟩ := run_loadCells_at (P := P) hc
    have hr := hr w (fun _ => rfl)
    rw [hlen] at hr
    refine ⟨.agg c, ?_, .agg c hs hrel⟩
    simp [loadVar, run_isAgg' hagg, run_sizeOf' hsz, hr]
  · rename_i hagg
    have hoff : off < cs.length ∧ v = cs.getD off .junk := by
      simp only [Option.some.injEq, Prod.mk.injEq] at hl
      obtain ⟨rfl, rfl⟩ := hl
      exact ⟨hp, rfl⟩
    obtain ⟨hlt, rfl⟩ := hoff
    obtain ⟨f, h1, h2⟩ := h
    refine ⟨f off, ?_, by have := h2 off hlt; simpa [List.getD, List.getElem?_eq_getElem hlt] using this⟩
    simp [loadVar, run_isAgg' hagg, (h1 off hlt).1]
  · cases hl

end Go.Cov

namespace Go.Cov
open Go.RowKit
variable {P : Program} {g : Ghost} {A : Store} {w : World}

theorem Rel.blk {b : Nat} {o : AObj} {id : Nat} (hR : Rel g A w) (ho : A.objs id = some o) (hm : g.mu id = some b) : b < w.heap.size := by
  obtain ⟨b', hb', hobj, _⟩ := hR.objs _ _ ho
  rw [hm] at hb'; cases hb'
  cases o with
  | cells cs => obtain ⟨c, e, fr, hb, _⟩ := hobj; exact (Array.getElem?_eq_some_iff.1 hb).1
  | map es k => obtain ⟨c, hb, _⟩ := hobj; exact (Array.getElem?_eq_some_iff.1 hb).1
  | iter _ _ _ _ => obtain ⟨c, hb, _⟩ := hobj; exact (Array.getElem?_eq_some_iff.1 hb).1
  | loop _ _ _ _ _ _ => obtain ⟨c, hb, _⟩ := hobj; exact (Array.getElem?_eq_some_iff.1 hb).1

theorem cell_lt {w : World} {b o : Nat} {v : Value} (h : w.cell? ⟨b, o, none⟩ = some v) : b < w.heap.size := World.block_lt_of_cell? w _ h

theorem ObjRel.move {g g' : Ghost} {n : Nat} {w w' : World} {b : Nat} {o : AObj} (h : ObjRel g w b o) (hx : g.Ext n g') (hb : w'.heap[b]? = w.heap[b]?) : ObjRel g' w' b o := by
  cases o with
  | cells cs =>
    obtain ⟨c, e, fr, h1, h2, h3, h4, h5⟩ := h
    exact ⟨c, e, fr, hb.trans h1, h2, fun i hi => (h3 i hi).mono hx, h4, h5⟩
  | map es k =>
    obtain ⟨c, h1, h2, h3⟩ := h
    exact ⟨c, hb.trans h1, h2, fun i hi => ⟨(h3 i hi).1.mono hx, (h3 i hi).2.1.mono hx, (h3 i hi).2.2⟩⟩
  | iter m s n l =>
    obtain ⟨mb, h1, h2⟩ := h
    refine ⟨mb, hb.trans h1, ?_⟩
    cases m with
    | none => exact h2
    | some i => obtain ⟨c, k, e⟩ := h2; exact ⟨c, hx.mu _ _ k, e⟩
  | loop st pend fr ps assign body =>
    obtain ⟨r, h1, h2, h3, h4, h5, h6, h7, h8, h9⟩ := h
    exact ⟨r, hb.trans h1, h2, h3, h4, h5, h6, hx.dfr _ _ h7, fun i => (h8 i).mono hx, h9⟩

/-- The world has grown; claims have come for new blocks alone. -/
theorem Rel.world {g' : Ghost} {w' : World} (hR : Rel g A w) (hx : PExt g g') (hw : Below w.heap.size w w')
    (hio : ∀ b o v, g'.io b o = some v → g.io b o = some v ∨ (w.heap.size ≤ b ∧ w'.cell? ⟨b, o, none⟩ = some v ∧ v.oneCell' = true)) : Rel g' A w' where
  next := fun id hi => by rw [hx.mu]; exact hR.next id hi
  objs := fun id o ho => by
    obtain ⟨b, hb, hobj, hle⟩ := hR.objs id o ho
    exact ⟨b, by rw [hx.mu]; exact hb, hobj.move (hx.ext 0) (hw.block b (hR.blk ho hb)), by rw [hx.w0]; exact hle⟩
  inj := fun id id' b h1 h2 h3 h4 => by rw [hx.mu] at h3 h4; exact hR.inj id id' b h1 h2 h3 h4
  io := fun b o v h => by
    rcases hio b o v h with h | ⟨_, h, h'⟩
    · have := hR.io b o v h
      exact ⟨by rw [hw.cell (cell_lt this.1)]; exact this.1, this.2⟩
    · exact ⟨h, h'⟩
  sep := fun id b o h1 h2 => by
    rw [hx.mu] at h2
    cases h : g'.io b o with
    | none => rfl
    | some v =>
      exfalso
      obtain ⟨o', ho'⟩ := Option.isSome_iff_exists.1 h1
      rcases hio b o v h with h | ⟨hge, _⟩
      · rw [hR.sep id b o h1 h2] at h; cases h
      · have := hR.blk ho' h2; omega
  ntok := fun t ht => by rw [hx.tk]; exact hR.ntok t ht
  toks := fun t ht => by
    obtain ⟨b, fin, lim, h1, h0, c, e, fr, h2, h3, h4, h5, h6, h7⟩ := hR.toks t ht
    have hlt : b < w.heap.size := (Array.getElem?_eq_some_iff.1 h2).1
    refine ⟨b, fin, lim, by rw [hx.tk]; exact h1, by rw [hx.w0]; exact h0, c, e, fr, (hw.block b hlt).trans h2, h3, h4, h5, fun o ho => ?_, fun id hid => by rw [hx.mu]; exact h7 id hid⟩
    cases h : g'.io b o with
    | none => rfl
    | some v =>
      exfalso
      rcases hio b o v h with h | ⟨hge, _⟩
      · rw [h6 o ho] at h; cases h
      · omega
  tokinj := fun t t' b f l f' l' h1 h2 h3 h4 => by rw [hx.tk] at h3 h4; exact hR.tokinj t t' b f l f' l' h1 h2 h3 h4
  below := by rw [hx.w0]; exact hR.below.trans (hw.mono hR.below.size)
  pf := fun b s h => by
    rw [hx.pf] at h
    obtain ⟨c, e, fr, h1, h2⟩ := hR.pf b s h
    exact ⟨c, e, fr, (hw.block b (Array.getElem?_eq_some_iff.1 h1).1).trans h1, h2⟩
  dfr := fun b t h => by
    rw [hx.dfr] at h
    have h1 := hR.dfr b t h
    rw [hx.w0]
    exact ⟨h1.1, by rw [hw.block b h1.2.lt]; exact h1.2⟩

theorem Rel.draw (hR : Rel g A w) : Rel g A w.drew := hR.world (.refl g) (Below.refl _ _).drew (fun _ _ _ h => .inl h)

/-! ### Rows of cells -/
def RelC (g : Ghost) (cs : List AVal) (c : Array Value) : Prop := c.size = cs.length ∧ ∀ i (h : i < cs.length), RelV g cs[i] (c.getD i undef) ∧ (c.getD i undef).oneCell' = true

def AVal.one : AVal → Bool | .junk | .agg _ | .tup _ => false | _ => true
def cellsOf : AVal → Option (List AVal)
  | .agg cs => if cs.all AVal.one then some cs else none
  | .junk | .tup _ => none
  | v => some [v]

theorem RelV.one {v : AVal} {cv : Value} (h : RelV g v cv) (ho : v.one = true) : cv.oneCell' = true := by
  cases h <;> first | rfl | (simp [AVal.one] at ho)
theorem cells_one {cv : Value} (h : cv.oneCell' = true) : cv.cells = #[cv] := by
  cases cv <;> first | rfl | (simp [Value.oneCell'] at h)

theorem relC_single {v : AVal} {cv : Value} (h : RelV g v cv) (ho : v.one = true) : RelC g [v] cv.cells := by
  have hone := h.one ho
  rw [cells_one hone]
  exact ⟨rfl, fun i hi => by simp at hi; subst hi; exact ⟨by simpa [Array.getD] using h, by simpa [Array.getD] using hone⟩⟩

theorem RelV.relC {v : AVal} {cv : Value} {vs : List AVal} (h : RelV g v cv) (hc : cellsOf v = some vs) : RelC g vs cv.cells := by
  cases v with
  | agg cs =>
    simp only [cellsOf] at hc
    split at hc
    · rename_i hall
      cases hc
      cases h with
      | agg c hs hr => exact ⟨hs, fun i hi => ⟨hr i hi, (hr i hi).one (List.all_eq_true.1 hall _ (List.getElem_mem hi))⟩⟩
    · cases hc
  | junk => cases hc
  | tup => cases hc
  | _ => cases hc; exact relC_single h rfl

theorem RelC.mono {g' : Ghost} {n : Nat} {cs : List AVal} {c : Array Value} (h : RelC g cs c) (hx : g.Ext n g') : RelC g' cs c :=
  ⟨h.1, fun i hi => ⟨(h.2 i hi).1.mono hx, (h.2 i hi).2⟩⟩

theorem getD_append {a b : Array Value} (i : Nat) : (a ++ b).getD i undef = if i < a.size then a.getD i undef else b.getD (i - a.size) undef := by
  simp only [Array.getD_eq_getD_getElem?, Array.getElem?_append]
  split <;> rfl

theorem RelC.append {cs ds : List AVal} {c d : Array Value} (h : RelC g cs c) (k : RelC g ds d) : RelC g (cs ++ ds) (c ++ d) := by
  refine ⟨by simp [h.1, k.1], fun i hi => ?_⟩
  rw [getD_append]
  by_cases hc : i < cs.length
  · rw [if_pos (by rw [h.1]; exact hc), List.getElem_append_left hc]; exact h.2 i hc
  · rw [if_neg (by rw [h.1]; exact hc), List.getElem_append_right (by omega), h.1]; exact k.2 _ (by simp at hi; omega)

theorem zero_relC {t : TypeId} {zs : List AVal} (hz : zeroA P t = some zs) : ∃ z : Value, (zeroValue t).run P w = .ok z w ∧ RelC g zs z.cells := by
  unfold zeroA at hz
  split at hz
  · rename_i i hi
    split at hz
    · rename_i z hzz
      split at hz
      · rename_i hall
        cases hz
        refine ⟨z, by simp [zeroValue, typeInfo, hi, hzz], by simp, fun j hj => ?_⟩
        have hj' : j < z.cells.size := by simpa using hj
        have e : z.cells.getD j undef = z.cells[j] := by simp [Array.getD, hj']
        rw [e]
        refine ⟨by simpa using RelV.ofVal0 g (z.cells[j]), ?_⟩
        exact List.all_eq_true.1 hall _ (by simp)
      · cases hz
    · cases hz
  · cases hz

/-- A new immutable row. -/
theorem Rel.row {cs : List AVal} {c : Array Value} (hR : Rel g A w) (hc : RelC g cs (c.extract 0 cs.length)) (hl : cs.length ≤ c.size) (e : TypeId) :
    ∃ g', PExt g g' ∧ Rel g' A (w.alloc (.cells c e)) ∧ (∀ i, i < cs.length → g'.io w.heap.size (0 + i) = some (c.getD i undef)) ∧ (∀ o, cs.length ≤ o → g'.io w.heap.size o = none) ∧ (∀ b o, b ≠ w.heap.size → g'.io b o = g.io b o) ∧ ∀ i (h : i < cs.length), RelV g' cs[i] (c.getD i undef) := by
  have hnone : ∀ o, g.io w.heap.size o = none := by
    intro o
    cases h : g.io w.heap.size o with
    | none => rfl
    | some v => have := cell_lt (hR.io _ _ _ h).1; omega
  have hx : PExt g { g with io := fun b o => if b = w.heap.size then (if o < cs.length then some (c.getD o undef) else none) else g.io b o } := by
    refine ⟨rfl, rfl, rfl, rfl, rfl, fun b o v h => ?_⟩
    show (if b = w.heap.size then _ else _) = _
    split
    · rename_i hb; subst hb; rw [hnone] at h; cases h
    · exact h
  have hget : ∀ i, i < cs.length → (c.extract 0 cs.length).getD i undef = c.getD i undef := by
    intro i hi
    have : i < c.size := by omega
    simp only [Array.getD_eq_getD_getElem?, Array.getElem?_extract]
    rw [if_pos (by omega)]; simp
  refine ⟨_, hx, hR.world hx ((Below.refl _ _).alloc (Nat.le_refl _) _) ?_, fun i hi => ?_, fun o ho => ?_, fun b o hb => ?_, fun i hi => ?_⟩
  · intro b o v h
    dsimp only at h
    split at h
    · rename_i hb
      split at h
      · rename_i ho
        cases h
        subst hb
        refine .inr ⟨Nat.le_refl _, ?_, ?_⟩
        · have : o < c.size := by omega
          rw [World.cell?_alloc_new]; simp [Array.getD, this]
        · rw [← hget o ho]; exact (hc.2 o ho).2
      · cases h
    · exact .inl h
  · simp [hi]
  · simp; omega
  · simp [hb]
  · have := (hc.2 i hi).1
    rw [hget i hi] at this
    exact this.mono (hx.ext 0)

theorem RelC.extract_self {cs : List AVal} {c : Array Value} (h : RelC g cs c) : RelC g cs (c.extract 0 cs.length) := by
  have : c.extract 0 cs.length = c := by rw [← h.1]; simp
  rw [this]; exact h

end Go.Cov

namespace Go.Cov
open Go.RowKit
variable {P : Program} {g : Ghost} {A : Store} {w : World}

/-- The kinds of one-cell values by which structs are compared. -/
inductive CK where | int (k : IntKind) | bool | str
  deriving DecidableEq
def vck : Value → Option CK | .int k _ => some (.int k) | .bool _ => some .bool | .string _ => some .str | _ => none
def ack : AVal → Option CK | .int k _ => some (.int k) | .bool _ => some .bool | .str _ => some .str | _ => none
def veq : Value → Value → Bool | .int _ a, .int _ b => a == b | .bool a, .bool b => a == b | .string a, .string b => a == b | _, _ => false
def aeq : AVal → AVal → Bool | .int _ a, .int _ b => a == b | .bool a, .bool b => a == b | .str a, .str b => a == b | _, _ => false
def veqs : List Value → List Value → Bool | [], [] => true | x :: xs, y :: ys => veq x y && veqs xs ys | _, _ => false
def aeqs : List AVal → List AVal → Bool | [], [] => true | [x], [y] => aeq x y | x :: xs, y :: ys => aeq x y && aeqs xs ys | _, _ => false

/-- A struct type whose values are compared cell by cell. -/
def CmpOK (P : Program) (t : TypeId) (ks : List CK) : Prop :=
  P.eqGuardType P.depth t = false ∧
  ∀ (w : World) (xs ys : List Value), xs.map vck = ks.map some → ys.map vck = ks.map some → (Op.equalIn 10000 t (.agg xs.toArray) (.agg ys.toArray)).run P w = .ok (veqs xs ys) w

inductive TK where | bool | int (k : IntKind) | str | ptr | slice | map | func | iface | struct | arr | other
  deriving DecidableEq
def tkd : TypeDesc → TK
  | .bool => .bool | .int k => .int k | .string => .str | .pointer _ => .ptr | .slice _ => .slice | .map _ _ => .map | .func _ _ _ => .func | .interface _ => .iface | .struct _ => .struct | .array _ _ => .arr | _ => .other
def tk (P : Program) (t : TypeId) : TK := match P.underlying t with | some d => tkd d | none => .other

/-- Which struct types are compared, by which cells. -/
class Cmp (P : Program) where
  kinds : TypeId → Option (List CK)
  ok : ∀ t ks, kinds t = some ks → CmpOK P t ks

def intA (op : BinOp) (k : IntKind) (x y : Int) : Option (Cd × AVal) :=
  match op with
  | .add => some (cd True, .int k (k.wrap (x + y)))
  | .sub => some (cd True, .int k (k.wrap (x - y)))
  | .mul => some (cd True, .int k (k.wrap (x * y)))
  | .quo => some (cd (y ≠ 0), .int k (k.wrap (x.tdiv y)))
  | .rem => some (cd (y ≠ 0), .int k (x.tmod y))
  | .and => some (cd True, .int k (bits .and k x y))
  | .or => some (cd True, .int k (bits .or k x y))
  | .xor => some (cd True, .int k (bits .xor k x y))
  | .eql => some (cd True, .bool (x == y))
  | .neq => some (cd True, .bool (x != y))
  | .lss => some (cd True, .bool (x < y))
  | .leq => some (cd True, .bool (x ≤ y))
  | .gtr => some (cd True, .bool (y < x))
  | .geq => some (cd True, .bool (y ≤ x))
  | _ => none

/-- Is it nil? (of a pointer, a slice, a func, a map, as far as it is known) -/
def nilA : TK → AVal → Option Bool
  | .ptr, .ptr0 => some true
  | .ptr, .ptr _ _ => some false
  | .ptr, .lptr _ _ => some false
  | .slice, .list b _ _ _ => some b
  | .slice, .sl _ _ _ _ _ => some false
  | .map, .map0 => some true
  | .map, .map _ => some false
  | .func, .func0 => some true
  | .func, .func _ _ _ => some false
  | _, _ => none
def nilC : TK → AVal → Bool
  | .ptr, .ptr0 => true
  | .slice, .list true _ 0 [] => true
  | .map, .map0 => true
  | .func, .func0 => true
  | _, _ => false

def eqA (P : Program) [C : Cmp P] (t : TypeId) (x y : AVal) : Option Bool :=
  match x, y with
  | .bool a, .bool b => if tk P t = .bool then some (a == b) else none
  | .agg xs, .agg ys => match C.kinds t with
    | some ks => if xs.map ack = ks.map some ∧ ys.map ack = ks.map some then some (aeqs xs ys) else none
    | none => none
  | x, y => if nilC (tk P t) y then nilA (tk P t) x else if nilC (tk P t) x then nilA (tk P t) y else none

def binA (P : Program) [Cmp P] (op : BinOp) (t : TypeId) (x y : AVal) : Option (Cd × AVal) :=
  match x, y with
  | .int k a, .int k' b =>
    match op with
    | .shl => some (cd (0 ≤ b), .int k (k.wrap (a * 2 ^ (min b.toNat k.bits))))
    | .shr => some (cd (0 ≤ b), .int k (a.fdiv (2 ^ (min b.toNat k.bits))))
    | op => if k = k' then intA op k a b else none
  | .str a, .str b =>
    match op with
    | .add => some (cd (((a.size + b.size : Nat) : Int) ≤ 9223372036854775807), .str (a ++ b))
    | .eql => some (cd True, .bool (a == b))
    | .neq => some (cd True, .bool (!(a == b)))
    | _ => none
  | x, y =>
    match op with
    | .eql => (eqA P t x y).map fun b => (cd True, .bool b)
    | .neq => (eqA P t x y).map fun b => (cd True, .bool (!b))
    | _ => none

theorem ack_vck {v : AVal} {cv : Value} {c : CK} (h : RelV g v cv) (hc : ack v = some c) : vck cv = some c ∧ ofVal0 cv = v := by
  cases h <;> simp [ack] at hc <;> subst hc <;> simp [vck, ofVal0]
theorem aeq_veq {v u : AVal} {cv cu : Value} {c : CK} (h : RelV g v cv) (k : RelV g u cu) (hc : ack v = some c) (kc : ack u = some c) : veq cv cu = aeq v u := by
  cases h <;> simp [ack] at hc <;> subst hc <;> cases k <;> simp [ack] at kc <;> simp [veq, aeq]

theorem aeqs_cons (x y : AVal) (xs ys : List AVal) : aeqs (x :: xs) (y :: ys) = (aeq x y && aeqs xs ys) := by
  cases xs <;> cases ys <;> simp [aeqs]

theorem relC_list {cs : List AVal} {c : Array Value} (h : c.size = cs.length ∧ ∀ i (h : i < cs.length), RelV g cs[i] (c.getD i undef)) {ks : List CK} (hk : cs.map ack = ks.map some) :
    c.toList.map vck = ks.map some := by
  have hl : cs.length = ks.length := by have := congrArg List.length hk; simpa using this
  apply List.ext_getElem
  · simp [h.1, hl]
  · intro i h1 h2
    have hi : i < cs.length := by have := h.1; simp at h1; omega
    have hik : i < ks.length := by omega
    have e := h.2 i hi
    have hcs : i < c.size := by have := h.1; omega
    have hc : c.getD i undef = c[i] := by simp [Array.getD, hcs]
    rw [hc] at e
    have ha : ack cs[i] = some ks[i] := by
      have := List.getElem_of_eq hk (i := i) (by simpa using hi)
      simpa using this
    simpa using (ack_vck e ha).1

theorem aeqs_veqs : ∀ (cs ds : List AVal) (c d : List Value) (ks : List CK), c.length = cs.length → d.length = ds.length →
    (∀ i (h : i < cs.length), RelV g cs[i] (c.getD i undef)) → (∀ i (h : i < ds.length), RelV g ds[i] (d.getD i undef)) →
    cs.map ack = ks.map some → ds.map ack = ks.map some → veqs c d = aeqs cs ds := by
  intro cs
  induction cs with
  | nil =>
    intro ds c d ks h1 h2 _ _ h3 h4
    cases ks with
    | nil => cases ds with
      | nil => cases c with
        | nil => cases d with
          | nil => rfl
          | cons => simp at h2
        | cons => simp at h1
      | cons => simp at h4
    | cons => simp at h3
  | cons x cs ih =>
    intro ds c d ks h1 h2 h5 h6 h3 h4
    cases ks with
    | nil => simp at h3
    | cons k ks => cases ds with
      | nil => simp at h4
      | cons y ds => cases c with
        | nil => simp at h1
        | cons cx c => cases d with
          | nil => simp at h2
          | cons dy d =>
            simp only [List.map_cons, List.cons.injEq] at h3 h4
            rw [aeqs_cons]
            have hx := h5 0 (by simp)
            have hy := h6 0 (by simp)
            simp only [List.getElem_cons_zero, List.getD_cons_zero] at hx hy
            simp only [veqs]
            rw [aeq_veq hx hy h3.1 h4.1, ih ds c d ks (by simpa using h1) (by simpa using h2) (fun i hi => h5 (i + 1) (Nat.succ_lt_succ hi)) (fun i hi => h6 (i + 1) (Nat.succ_lt_succ hi)) h3.2 h4.2]

end Go.Cov

namespace Go.Cov
open Go.RowKit
variable {P : Program} {g : Ghost} {A : Store} {w : World}

theorem guard_skip {op : BinOp} {t : TypeId} {x y : Operand} {a b : Value} (h : ∀ xs, a ≠ .agg xs) (h' : a ≠ .nilIface) : (eqGuard op t x y a b).run P w = .ok () w := by
  cases op <;> cases a <;> first | (exact absurd rfl (h _)) | (exact absurd rfl h') | simp [eqGuard]

theorem intA_sound {op : BinOp} {t : TypeId} {k : IntKind} {a b : Int} {p : Cd} {v : AVal} (h : intA op k a b = some (p, v)) (hp : p.p) :
    ∃ cv, (binOp op t (.int k a) (.int k b)).run P w = .ok cv w ∧ RelV g v cv := by
  cases op <;> simp only [intA, Option.some.injEq, Prod.mk.injEq, reduceCtorEq] at h <;> obtain ⟨rfl, rfl⟩ := h
  case add => exact ⟨.int k _, by simp [binOp, Op.intArith], .int _ _⟩
  case sub => exact ⟨.int k _, by simp [binOp, Op.intArith], .int _ _⟩
  case mul => exact ⟨.int k _, by simp [binOp, Op.intArith], .int _ _⟩
  case quo => exact have hp : b ≠ 0 := hp; ⟨.int k _, by simp [binOp, Op.intDiv, hp], .int _ _⟩
  case rem => exact have hp : b ≠ 0 := hp; ⟨.int k _, by simp [binOp, Op.intDiv, hp], .int _ _⟩
  case and => exact ⟨.int k _, by simp [binOp, Op.intBits, bits], .int _ _⟩
  case or => exact ⟨.int k _, by simp [binOp, Op.intBits, bits], .int _ _⟩
  case xor => exact ⟨.int k _, by simp [binOp, Op.intBits, bits], .int _ _⟩
  case eql => exact ⟨.bool _, by simp [binOp, Op.intCmp], .bool _⟩
  case neq => exact ⟨.bool _, by simp [binOp, Op.intCmp], .bool _⟩
  case lss => exact ⟨.bool _, by simp [binOp, Op.intCmp], .bool _⟩
  case leq => exact ⟨.bool _, by simp [binOp, Op.intCmp], .bool _⟩
  case gtr => exact ⟨.bool _, by simp [binOp, Op.intCmp], .bool _⟩
  case geq => exact ⟨.bool _, by simp [binOp, Op.intCmp], .bool _⟩

theorem run_binOp_shift {op : BinOp} {t : TypeId} {k k' : IntKind} {a b : Int} (ho : op = .shl ∨ op = .shr) : (binOp op t (.int k a) (.int k' b)).run P w = (Op.shift op k a k' b).run P w := by
  rcases ho with rfl | rfl <;> simp [binOp]

/-- A value that is neither a number, a text, a struct, nor a nil interface. -/
def plainEq : Value → Bool
  | .pointer _ | .slice _ _ _ | .map _ | .func _ _ _ | .nilFunc | .bool _ => true
  | _ => false

theorem nilC_inv {k : TK} {y : AVal} (h : nilC k y = true) : (k = .ptr ∧ y = .ptr0) ∨ (k = .slice ∧ ∃ r, y = .list true r 0 []) ∨ (k = .map ∧ y = .map0) ∨ (k = .func ∧ y = .func0) := by
  unfold nilC at h
  split at h <;> simp_all

theorem tk_inv {t : TypeId} {k : TK} (h : tk P t = k) (hk : k ≠ .other) : ∃ d, P.underlying t = some d ∧ tkd d = k := by
  unfold tk at h
  split at h
  · rename_i d hd; exact ⟨d, hd, h⟩
  · exact absurd h.symm hk

theorem run_equal {t : TypeId} {d : TypeDesc} (_h : P.underlying t = some d) (x y : Value) : (Op.equal t x y).run P w = (Op.equalIn (9999 + 1) t x y).run P w := rfl

theorem nilA_sound {t : TypeId} {x y : AVal} {cx cy : Value} {b : Bool} (hC : nilC (tk P t) y = true) (hA : nilA (tk P t) x = some b) (hx : RelV g x cx) (hy : RelV g y cy) :
    (Op.equal t cx cy).run P w = .ok b w ∧ (Op.equal t cy cx).run P w = .ok b w ∧ plainEq cx = true ∧ plainEq cy = true := by
  rcases nilC_inv hC with ⟨hk, rfl⟩ | ⟨hk, r, rfl⟩ | ⟨hk, rfl⟩ | ⟨hk, rfl⟩ <;> obtain ⟨d, hu, hd⟩ := tk_inv hk (by simp) <;> rw [hk] at hA <;>
    cases d <;> simp [tkd] at hd <;> have hun : ∀ w : World, (underlying t).run P w = _ := fun w => run_underlying' hu <;>
    simp only [run_equal hu] <;> cases x <;> simp [nilA] at hA <;> subst hA <;> cases hx <;> cases hy <;>
    (refine ⟨?_, ?_, rfl, rfl⟩ <;> (unfold Op.equalIn; simp only [Sem.run_bind, hun, Result.andThen_ok]; rfl))

theorem eqA_sound [C : Cmp P] {t : TypeId} {x y : AVal} {cx cy : Value} {b : Bool} (h : eqA P t x y = some b) (hx : RelV g x cx) (hy : RelV g y cy) :
    (plainEq cx = true ∧ plainEq cy = true ∧ (Op.equal t cx cy).run P w = .ok b w) ∨
    (∃ xs ys, cx = .agg xs ∧ cy = .agg ys ∧ (Op.equalIn 10000 t cx cy).run P w = .ok b w ∧ P.eqGuardType P.depth t = false) := by
  unfold eqA at h
  split at h
  · rename_i a c
    split at h
    · rename_i hk
      cases h
      cases hx; cases hy
      refine .inl ⟨rfl, rfl, ?_⟩
      obtain ⟨d, hu, hd⟩ := tk_inv hk (by simp)
      cases d <;> simp [tkd] at hd
      have hun : ∀ w : World, (underlying t).run P w = _ := fun w => run_underlying' hu
      rw [run_equal hu]; unfold Op.equalIn; simp only [Sem.run_bind, hun, Result.andThen_ok]; rfl
    · cases h
  · rename_i xs ys
    split at h
    · rename_i ks hks
      split at h
      · rename_i hk
        cases h
        cases hx with
        | agg c hs hr => cases hy with
          | agg c' hs' hr' =>
            obtain ⟨h1, h2⟩ := C.ok t ks hks
            refine .inr ⟨_, _, rfl, rfl, ?_, h1⟩
            have e1 := relC_list ⟨hs, hr⟩ hk.1
            have e2 := relC_list ⟨hs', hr'⟩ hk.2
            have := h2 w c.toList c'.toList e1 e2
            simp only [Array.toArray_toList] at this
            rw [this]
            congr 1
            refine aeqs_veqs (g := g) xs ys _ _ ks (by simpa using hs) (by simpa using hs') (fun i hi => ?_) (fun i hi => ?_) hk.1 hk.2
            · simpa [List.getD, Array.getD_eq_getD_getElem?] using hr i hi
            · simpa [List.getD, Array.getD_eq_getD_getElem?] using hr' i hi
      · cases h
    · cases h
  · split at h
    · rename_i hc
      obtain ⟨h1, _, h3, h4⟩ := nilA_sound (P := P) (w := w) hc h hx hy
      exact .inl ⟨h3, h4, h1⟩
    · split at h
      · rename_i hc
        obtain ⟨_, h2, h3, h4⟩ := nilA_sound (P := P) (w := w) hc h hy hx
        exact .inl ⟨h4, h3, h2⟩
      · cases h

theorem plainEq_guard {op : BinOp} {t : TypeId} {x y : Operand} {a b : Value} (h : plainEq a = true) : (eqGuard op t x y a b).run P w = .ok () w :=
  guard_skip (fun xs e => by subst e; cases h) (fun e => by subst e; cases h)

theorem plainEq_eql {t : TypeId} {a b : Value} (h : plainEq a = true) (k : plainEq b = true) : (binOp .eql t a b).run P w = ((Op.equal t a b).run P w).andThen fun b w' => .ok (.bool b) w' := by
  cases a <;> simp [plainEq] at h <;> cases b <;> simp [plainEq] at k <;> simp [binOp]
theorem plainEq_neq {t : TypeId} {a b : Value} (h : plainEq a = true) (k : plainEq b = true) : (binOp .neq t a b).run P w = ((Op.equal t a b).run P w).andThen fun b w' => .ok (.bool (!b)) w' := by
  cases a <;> simp [plainEq] at h <;> cases b <;> simp [plainEq] at k <;> simp [binOp]

theorem binA_sound [Cmp P] {op : BinOp} {t : TypeId} {x y : AVal} {cx cy : Value} {p : Cd} {v : AVal} (ox oy : Operand) (h : binA P op t x y = some (p, v)) (hp : p.p)
    (hx : RelV g x cx) (hy : RelV g y cy) : ∃ cv, (do eqGuard op t ox oy cx cy; binOp op t cx cy : Sem Value).run P w = .ok cv w ∧ RelV g v cv := by
  unfold binA at h
  split at h
  · rename_i k a k' b
    cases hx; cases hy
    simp only [Sem.run_bind, guard_skip (P := P) (w := w) (op := op) (t := t) (x := ox) (y := oy) (a := .int k a) (b := .int k' b) (by simp) (by simp), Result.andThen_ok]
    split at h
    · simp only [Option.some.injEq, Prod.mk.injEq] at h
      obtain ⟨rfl, rfl⟩ := h
      refine ⟨_, ?_, .int _ _⟩
      rw [run_binOp_shift (.inl rfl)]
      simp [Op.shift, Int.not_lt.2 hp]
    · simp only [Option.some.injEq, Prod.mk.injEq] at h
      obtain ⟨rfl, rfl⟩ := h
      refine ⟨_, ?_, .int _ _⟩
      rw [run_binOp_shift (.inr rfl)]
      simp [Op.shift, Int.not_lt.2 hp]
    · split at h
      · rename_i hk
        subst hk
        exact intA_sound h hp
      · cases h
  · rename_i a b
    cases hx; cases hy
    simp only [Sem.run_bind, guard_skip (P := P) (w := w) (op := op) (t := t) (x := ox) (y := oy) (a := .string a) (b := .string b) (by simp) (by simp), Result.andThen_ok]
    split at h <;> simp only [Option.some.injEq, Prod.mk.injEq, reduceCtorEq] at h <;> obtain ⟨rfl, rfl⟩ := h
    · refine ⟨.string _, ?_, .str _⟩
      have hm : IntKind.i64.max = 9223372036854775807 := by decide
      have : ¬ (((a.size + b.size : Nat) : Int) > IntKind.i64.max) := by rw [hm]; omega
      simp only [binOp, Op.stringOp, this, if_false]; rfl
    · exact ⟨.bool _, by simp only [binOp, Op.stringOp, beq_toListBytes]; rfl, .bool _⟩
    · exact ⟨.bool _, by simp only [binOp, Op.stringOp, beq_toListBytes]; rfl, .bool _⟩
  · split at h
    · cases he : eqA P t x y with
      | none => simp [he] at h
      | some b =>
        simp only [he, Option.map_some, Option.some.injEq, Prod.mk.injEq] at h
        obtain ⟨rfl, rfl⟩ := h
        refine ⟨.bool b, ?_, .bool _⟩
        rcases eqA_sound (w := w) he hx hy with ⟨h1, h2, h3⟩ | ⟨xs, ys, rfl, rfl, h3, h4⟩
        · simp only [Sem.run_bind, plainEq_guard h1, Result.andThen_ok, plainEq_eql h1 h2, h3]
        · simp only [Sem.run_bind, run_eqGuard_agg _ _ _ _ _ _ _ h4, Result.andThen_ok, run_eql_struct, h3]
    · cases he : eqA P t x y with
      | none => simp [he] at h
      | some b =>
        simp only [he, Option.map_some, Option.some.injEq, Prod.mk.injEq] at h
        obtain ⟨rfl, rfl⟩ := h
        refine ⟨.bool (!b), ?_, .bool _⟩
        rcases eqA_sound (w := w) he hx hy with ⟨h1, h2, h3⟩ | ⟨xs, ys, rfl, rfl, h3, h4⟩
        · simp only [Sem.run_bind, plainEq_guard h1, Result.andThen_ok, plainEq_neq h1 h2, h3]
        · simp only [Sem.run_bind, run_eqGuard_agg _ _ _ _ _ _ _ h4, Result.andThen_ok, run_neq_struct, h3]
    · cases h

end Go.Cov

namespace Go.Cov
open Go.RowKit
variable {P : Program} {g : Ghost} {A : Store} {w : World}

/-! ### Filling -/
def fillA (place : Nat → Option (Nat × Nat)) : List AVal → List (Nat × AVal) → Option (List AVal)
  | cells, [] => some cells
  | cells, (i, v) :: rest =>
    match place i, cellsOf v with
    | some (off, size), some vs => if vs.length = size ∧ off + vs.length ≤ cells.length then fillA place (cells.take off ++ vs ++ cells.drop (off + vs.length)) rest else none
    | _, _ => none

theorem foldl_set (l : List Value) : ∀ (k : Nat) (off : Nat) (c : Array Value), off + k + l.length ≤ c.size →
    ((l.zipIdx k).foldl (fun cs (x : Value × Nat) => cs.setIfInBounds (off + x.2) x.1) c).size = c.size ∧
    ∀ i, ((l.zipIdx k).foldl (fun cs (x : Value × Nat) => cs.setIfInBounds (off + x.2) x.1) c).getD i undef =
      if off + k ≤ i ∧ i < off + k + l.length then l.getD (i - (off + k)) undef else c.getD i undef := by
  induction l with
  | nil => intro k off c _; simp; intro i h1 h2; omega
  | cons x l ih =>
    intro k off c h
    simp only [List.zipIdx_cons, List.foldl_cons, List.length_cons] at h ⊢
    obtain ⟨h1, h2⟩ := ih (k + 1) off (c.setIfInBounds (off + k) x) (by simp; omega)
    refine ⟨by simpa using h1, fun i => ?_⟩
    rw [h2 i]
    by_cases hi : i = off + k
    · subst hi
      rw [if_neg (by omega), if_pos (by omega)]
      have : off + k < c.size := by omega
      simp [Array.getD_eq_getD_getElem?, this]
    · by_cases hr : off + (k + 1) ≤ i ∧ i < off + (k + 1) + l.length
      · rw [if_pos hr, if_pos (by omega)]
        have e : i - (off + k) = (i - (off + (k + 1))) + 1 := by omega
        rw [e, List.getD_cons_succ]
      · rw [if_neg hr, if_neg (by omega)]
        simp only [Array.getD_eq_getD_getElem?, Array.getElem?_setIfInBounds]
        rw [if_neg (by omega)]

theorem getElem_splice {cells vs : List AVal} {off : Nat} (h : off + vs.length ≤ cells.length) (i : Nat) (hi : i < (cells.take off ++ vs ++ cells.drop (off + vs.length)).length) :
    ((cells.take off ++ vs ++ cells.drop (off + vs.length))[i]'hi) = if h1 : off ≤ i ∧ i < off + vs.length then vs[i - off]'(by omega) else cells[i]'(by simp at hi; omega) := by
  simp only [List.append_assoc, List.getElem_append, List.length_take]
  have hm : min off cells.length = off := by omega
  simp only [hm]
  by_cases h1 : i < off
  · rw [dif_pos h1, dif_neg (by omega)]; simp
  · rw [dif_neg h1]
    by_cases h2 : i - off < vs.length
    · rw [dif_pos h2, dif_pos (by omega)]
    · rw [dif_neg h2, dif_neg (by omega)]
      simp only [List.getElem_drop]
      congr 1; omega

theorem fillA_sound {place : Nat → Option (Nat × Nat)} : ∀ (parts : List (Nat × AVal)) (cparts : List (Nat × Value)) (cells out : List AVal) (c : Array Value),
    fillA place cells parts = some out → RelC g cells c → cparts.length = parts.length →
    (∀ i (h : i < parts.length) (h' : i < cparts.length), cparts[i].1 = parts[i].1 ∧ RelV g parts[i].2 cparts[i].2) →
    ∃ c', Instr.fill place c cparts = some c' ∧ RelC g out c' := by
  intro parts
  induction parts with
  | nil =>
    intro cparts cells out c h hc hl _
    cases cparts with
    | nil => simp [fillA] at h; subst h; exact ⟨c, rfl, hc⟩
    | cons => simp at hl
  | cons q parts ih =>
    intro cparts cells out c h hc hl hp
    cases cparts with
    | nil => simp at hl
    | cons cq cparts =>
      obtain ⟨i, v⟩ := q
      obtain ⟨ci, cv⟩ := cq
      have h0 := hp 0 (by simp) (by simp)
      simp only [List.getElem_cons_zero] at h0
      obtain ⟨rfl, hv⟩ := h0
      simp only [fillA] at h
      split at h
      · rename_i off size vs hpl hvs
        split at h
        · rename_i hcond
          have hrc := hv.relC hvs
          have hfold := foldl_set cv.cells.toList 0 off c (by simp [hrc.1, hc.1]; omega)
          obtain ⟨hsz, hget⟩ := hfold
          have hz : cv.cells.zipIdx.foldl (fun cs (x : Value × Nat) => cs.setIfInBounds (off + x.2) x.1) c =
              (cv.cells.toList.zipIdx 0).foldl (fun cs (x : Value × Nat) => cs.setIfInBounds (off + x.2) x.1) c := by
            rw [← Array.foldl_toList, Array.toList_zipIdx]
          have hrel : RelC g (cells.take off ++ vs ++ cells.drop (off + vs.length)) (cv.cells.zipIdx.foldl (fun cs (x : Value × Nat) => cs.setIfInBounds (off + x.2) x.1) c) := by
            rw [hz]
            refine ⟨by rw [hsz, hc.1]; simp; omega, fun j hj => ?_⟩
            have hj' : j < cells.length := by simp at hj; omega
            rw [hget j, getElem_splice hcond.2 j hj]
            have hlen : cv.cells.toList.length = vs.length := by simpa using hrc.1
            by_cases hin : off ≤ j ∧ j < off + vs.length
            · rw [if_pos (by rw [hlen]; omega), dif_pos hin]
              have := hrc.2 (j - off) (by omega)
              have e : cv.cells.toList.getD (j - (off + 0)) undef = cv.cells.getD (j - off) undef := by simp [List.getD, Array.getD_eq_getD_getElem?]
              rw [e]; exact this
            · rw [if_neg (by rw [hlen]; omega), dif_neg hin]
              exact hc.2 j hj'
          obtain ⟨c', hf, hr⟩ := ih cparts _ out _ h hrel (by simpa using hl) (fun j h1 h2 => by have := hp (j + 1) (by simp; omega) (by simp; omega); simpa using this)
          refine ⟨c', ?_, hr⟩
          simp only [Instr.fill, hpl]
          have e1 : cv.cells.size = vs.length := hrc.1
          have e2 : c.size = cells.length := hc.1
          rw [if_neg (by simp [e1, e2, hcond.1]; omega)]
          exact hf
        · cases h
      · cases h

/-! ### The function -/
def structPl (P : Program) (t : TypeId) : Option (List (Nat × Nat)) :=
  match P.underlying t with
  | some (.struct fs) => fs.toList.mapM fun f => (tsz P f.type).map fun s => (f.offset, s)
  | _ => none
def buildA (P : Program) (t : TypeId) (parts : List (Nat × AVal)) : Option AVal :=
  match zeroA P t with
  | some zs => match structPl P t with
    | some pl => (fillA (pl[·]?) zs parts).map .agg
    | none => match arrA P t with
      | some (_, es) => (fillA (fun i => some (i * es, es)) zs parts).map .agg
      | none => none
  | none => none

theorem mapM_run (P : Program) (w : World) (fs : List Field) : ∀ (pl : List (Nat × Nat)), (fs.mapM fun f => (tsz P f.type).map fun s => (f.offset, s)) = some pl →
    ((fs.mapM fun f => (do pure (f.offset, ← sizeOf f.type) : Sem (Nat × Nat))).run P w) = .ok pl w := by
  induction fs with
  | nil => intro pl h; simp at h; subst h; simp
  | cons f fs ih =>
    intro pl h
    simp only [List.mapM_cons, Option.bind_eq_bind, Option.pure_def, Option.bind_eq_some_iff, Option.map_eq_some_iff, Option.some.injEq] at h
    obtain ⟨a, ⟨s, hs, rfl⟩, rest, hr, rfl⟩ := h
    simp only [List.mapM_cons, Sem.run_bind, run_sizeOf' hs, Result.andThen_ok, Sem.run_pure, ih rest hr]

theorem buildA_sound {t : TypeId} {parts : List (Nat × AVal)} {cparts : Array (Nat × Value)} {v : AVal} (h : buildA P t parts = some v) (hl : cparts.toList.length = parts.length)
    (hp : ∀ i (h : i < parts.length) (h' : i < cparts.toList.length), cparts.toList[i].1 = parts[i].1 ∧ RelV g parts[i].2 cparts.toList[i].2) :
    ∃ cv, (Instr.build t cparts).run P w = .ok cv w ∧ RelV g v cv := by
  unfold buildA at h
  split at h
  · rename_i zs hzs
    obtain ⟨z, hz, hzc⟩ := zero_relC (P := P) (g := g) (w := w) hzs
    split at h
    · rename_i pl hpl
      simp only [Option.map_eq_some_iff] at h
      obtain ⟨out, hf, rfl⟩ := h
      obtain ⟨c', hfill, hc'⟩ := fillA_sound parts cparts.toList zs out z.cells hf hzc hl hp
      unfold structPl at hpl
      split at hpl
      · rename_i fs hu
        refine ⟨.agg c', ?_, .agg c' hc'.1 fun i hi => (hc'.2 i hi).1⟩
        have hm := mapM_run P w fs.toList pl hpl
        have hm' : (fs.mapM fun f => (do pure (f.offset, ← sizeOf f.type) : Sem (Nat × Nat))).run P w = .ok pl.toArray w := by
          rw [Array.mapM_eq_mapM_toList]
          simp only [Sem.run_map, hm, Result.andThen_ok]
        simp only [Instr.build, Sem.run_bind, hz, Result.andThen_ok, run_underlying' hu, hm']
        have hpe : (fun i : Nat => pl.toArray[i]?) = (fun i : Nat => pl[i]?) := by funext i; simp
        simp only [hpe, hfill, Sem.run_pure]
      · cases hpl
    · split at h
      · rename_i n es harr
        simp only [Option.map_eq_some_iff] at h
        obtain ⟨out, hf, rfl⟩ := h
        obtain ⟨c', hfill, hc'⟩ := fillA_sound parts cparts.toList zs out z.cells hf hzc hl hp
        unfold arrA at harr
        split at harr
        · rename_i n' e hu
          simp only [Option.map_eq_some_iff, Prod.mk.injEq] at harr
          obtain ⟨s, hs, rfl, rfl⟩ := harr
          refine ⟨.agg c', ?_, .agg c' hc'.1 fun i hi => (hc'.2 i hi).1⟩
          simp only [Instr.build, Sem.run_bind, hz, Result.andThen_ok, run_underlying' hu, run_sizeOf' hs, hfill, Sem.run_pure]
        · cases harr
      · cases h
  · cases h

end Go.Cov

namespace Go.Cov
open Go.RowKit
variable {P : Program} {g : Ghost} {A : Store} {w : World}

def unA (op : UnOp) (x : AVal) : Option (Cd × AVal) :=
  match op, x with
  | .neg, .int k n => some (cd True, .int k (k.wrap (0 - n)))
  | .xor, .int k n => some (cd True, .int k (bits .xor k (if k.signed then -1 else k.max) n))
  | .not, .bool b => some (cd True, .bool (!b))
  | _, _ => none
theorem unA_sound {op : UnOp} {x : AVal} {cx : Value} {p : Cd} {v : AVal} (h : unA op x = some (p, v)) (_hp : p.p) (hx : RelV g x cx) :
    ∃ cv, (Op.unary op cx).run P w = .ok cv w ∧ RelV g v cv := by
  unfold unA at h
  split at h <;> simp only [Option.some.injEq, Prod.mk.injEq, reduceCtorEq] at h <;> obtain ⟨rfl, rfl⟩ := h <;> cases hx
  · exact ⟨_, by simp only [Op.unary, Op.intArith]; rfl, .int _ _⟩
  · exact ⟨_, by simp only [Op.unary, intBits_xor]; rfl, .int _ _⟩
  · exact ⟨_, by simp only [Op.unary]; rfl, .bool _⟩

/-- Bytes of cells, as numbers. -/
def numsA : List AVal → Option (List Int)
  | [] => some []
  | .int .u8 n :: r => (numsA r).map (n :: ·)
  | _ => none
def byteCells (s : ByteArray) : List AVal := s.data.toList.map fun b => .int .u8 b.toNat

def isU8 (P : Program) (t : TypeId) : Bool := match slE P t with | some e => decide (tk P e = .int .u8) | none => false
def convA (P : Program) (A : Store) (src dst : TypeId) (x : AVal) : Option (Cd × AVal) :=
  match x with
  | .int _ n => match tk P src, tk P dst with
    | .int _, .int k => some (cd True, .int k (k.wrap n))
    | _, _ => none
  | .str s => if tk P src = .str ∧ tk P dst = .str then some (cd True, .str s) else none
  | .list _ _ n cs => if isU8 P src ∧ tk P dst = .str then (numsA cs).map fun xs => (cd (n = cs.length), .str (strOfNums xs)) else none
  | .sl id off n _ _ => if isU8 P src ∧ tk P dst = .str then
      match A.objs id with
      | some (.cells cs) => (numsA (cut cs off n)).map fun xs => (cd (off + n ≤ cs.length ∧ 0 < n), .str (strOfNums xs))
      | _ => none
      else none
  | _ => none

def lenA (P : Program) (A : Store) (t : TypeId) (x : AVal) : Option (Cd × AVal) :=
  match tk P t, x with
  | .slice, .list _ _ n _ => some (cd True, .int .i64 n)
  | .slice, .sl _ _ n _ _ => some (cd True, .int .i64 n)
  | .str, .str s => some (cd True, .int .i64 s.size)
  | .map, .map0 => some (cd True, .int .i64 0)
  | .map, .map id => match A.objs id with
    | some (.map es _) => some (cd True, .int .i64 es.length)
    | _ => none
  | .arr, _ => match arrE P t with
    | some (n, _) => some (cd True, .int .i64 n)
    | none => none
  | _, _ => none

def max2A : AVal → AVal → Option AVal | .int k x, .int _ y => some (.int k (max x y)) | _, _ => none
def min2A : AVal → AVal → Option AVal | .int k x, .int _ y => some (.int k (min x y)) | _, _ => none
def maxsA : List AVal → Option AVal | [] => none | x :: r => r.foldlM max2A x
def minsA : List AVal → Option AVal | [] => none | x :: r => r.foldlM min2A x

def idxOK (n : Nat) (i : Int) : Prop := 0 ≤ i ∧ i < n
instance (n : Nat) (i : Int) : Decidable (idxOK n i) := inferInstanceAs (Decidable (0 ≤ i ∧ i < n))

def indexAddrA (P : Program) (t : TypeId) (x i : AVal) : Option (Cd × AVal) :=
  match i with
  | .int _ i => match x with
    | .list _ _ n cs => (slA P t).map fun es => (cd (idxOK n i), .lptr cs (i.toNat * es))
    | .sl id off n _ _ => (slA P t).map fun es => (cd (idxOK n i), .ptr id (off + i.toNat * es))
    | .lptr cs off => (arrA P t).map fun q => (cd (idxOK q.1 i), .lptr cs (off + i.toNat * q.2))
    | .ptr id off => (arrA P t).map fun q => (cd (idxOK q.1 i), .ptr id (off + i.toNat * q.2))
    | _ => none
  | _ => none

def indexA (P : Program) (t : TypeId) (x i : AVal) : Option (Cd × AVal) :=
  match i with
  | .int _ i => match x with
    | .str s => if tk P t = .str then some (cd (idxOK s.size i), .int .u8 ((s.data.toList.getD i.toNat 0).toNat : Int)) else none
    | .agg cs => match arrE P t with
      | some (n, e) => match tsz P e with
        | some es => (loadA P e cs (i.toNat * es)).map fun q => ((cd (idxOK n i)).and q.1, q.2)
        | none => none
      | none => none
    | _ => none
  | _ => none

/-- A bound of a slice expression, as a number. -/
def bndA (d : Nat) : Option AVal → Option Int
  | none => some d
  | some (.int _ i) => some i
  | _ => none

def sliceA (P : Program) (t : TypeId) (x : AVal) (lo hi mx : Option AVal) : Option (Cd × AVal) :=
  match x with
  | .str s => if tk P t = .str ∧ mx.isNone then
      match bndA 0 lo, bndA s.size hi with
      | some l, some h => some (cd (0 ≤ l ∧ l ≤ h ∧ h ≤ s.size), .str (s.extract l.toNat h.toNat))
      | _, _ => none
    else none
  | .list nil r n cs => match slA P t with
    | some es => match bndA 0 lo, bndA n hi, mx with
      | some l, some h, none => some (cd (0 ≤ l ∧ l ≤ h ∧ h ≤ n ∧ cs.length = n * es), .list nil (if r = .full ∧ h = n then .full else .lost) (h.toNat - l.toNat) (cut cs (l.toNat * es) ((h.toNat - l.toNat) * es)))
      | some l, some h, some (.int _ m) => some (cd (0 ≤ l ∧ l ≤ h ∧ h = m ∧ m ≤ n ∧ cs.length = n * es ∧ hi.isSome), .list nil .full (h.toNat - l.toNat) (cut cs (l.toNat * es) ((h.toNat - l.toNat) * es)))
      | _, _, _ => none
    | none => none
  | .sl id off n m e => match slA P t with
    | some es => match bndA 0 lo, bndA n hi, mx with
      | some l, some h, none => some (cd (0 ≤ l ∧ l ≤ h ∧ h ≤ m ∧ e = es), .sl id (off + l.toNat * es) (h.toNat - l.toNat) (m - l.toNat) e)
      | some l, some h, some (.int _ k) => some (cd (0 ≤ l ∧ l ≤ h ∧ h ≤ k ∧ k ≤ m ∧ hi.isSome), if k = l then .list false .full 0 [] else .sl id (off + l.toNat * es) (h.toNat - l.toNat) (k.toNat - l.toNat) es)
      | _, _, _ => none
    | none => none
  | .lptr cs off => match arrA P t with
    | some (n, es) => match lo, hi, mx with
      | none, none, none => some (cd (off + n * es ≤ cs.length), .list false .full n (cut cs off (n * es)))
      | some (.int _ l), none, none => some (cd (off + n * es ≤ cs.length ∧ 0 ≤ l ∧ l ≤ n), .list false .full (n - l.toNat) (cut cs (off + l.toNat * es) ((n - l.toNat) * es)))
      | _, _, _ => none
    | none => none
  | .ptr id off => match arrA P t with
    | some (n, es) => match lo, hi, mx with
      | none, none, none => some (cd True, .sl id off n n es)
      | _, _, _ => none
    | none => none
  | _ => none

theorem run_slA {t : TypeId} {es : Nat} (h : slA P t = some es) : ∃ e, P.underlying t = some (.slice e) ∧ tsz P e = some es := by
  unfold slA at h
  split at h
  · rename_i e he; exact ⟨e, he, h⟩
  · cases h
theorem run_arrA {t : TypeId} {n es : Nat} (h : arrA P t = some (n, es)) : ∃ e, P.underlying t = some (.array n e) ∧ tsz P e = some es := by
  unfold arrA at h
  split at h
  · rename_i n' e he
    simp only [Option.map_eq_some_iff, Prod.mk.injEq] at h
    obtain ⟨s, hs, rfl, rfl⟩ := h
    exact ⟨e, he, hs⟩
  · cases h
theorem run_tk {t : TypeId} {k : TK} (h : tk P t = k) (hk : k ≠ .other) : ∃ d, P.underlying t = some d ∧ tkd d = k := tk_inv h hk

theorem indexAddrA_sound {t : TypeId} {x i : AVal} {cx ci : Value} {p : Cd} {v : AVal} (h : indexAddrA P t x i = some (p, v)) (hp : p.p) (hx : RelV g x cx) (hi : RelV g i ci) :
    ∃ cv, (Instr.indexAt t cx ci).run P w = .ok cv w ∧ RelV g v cv := by
  unfold indexAddrA at h
  split at h
  · rename_i k i
    cases hi
    split at h
    · rename_i nil r n cs
      simp only [Option.map_eq_some_iff, Prod.mk.injEq] at h
      obtain ⟨es, hes, rfl, rfl⟩ := h
      obtain ⟨e, hu, hs⟩ := run_slA hes
      unfold idxOK at hp
      cases hx with
      | listNil => simp at hp; omega
      | list f hn hr h1 h2 =>
        refine ⟨.pointer (some ⟨_, _ + i.toNat * es, none⟩), ?_, .lptr f h1 h2⟩
        simp [Instr.indexAt, asIntOf, run_underlying' hu, hp.1, hp.2, run_sizeOf' hs, addr_add]
    · rename_i id off n m e0
      simp only [Option.map_eq_some_iff, Prod.mk.injEq] at h
      obtain ⟨es, hes, rfl, rfl⟩ := h
      obtain ⟨e, hu, hs⟩ := run_slA hes
      unfold idxOK at hp
      cases hx with
      | sl hm hn hm' hq =>
        refine ⟨.pointer (some ⟨_, _ + i.toNat * es, none⟩), ?_, .ptr hm⟩
        simp [Instr.indexAt, asIntOf, run_underlying' hu, hp.1, hp.2, run_sizeOf' hs, addr_add]
      | slE => simp at hp; omega
    · rename_i cs off
      simp only [Option.map_eq_some_iff, Prod.mk.injEq] at h
      obtain ⟨⟨n, es⟩, hes, rfl, rfl⟩ := h
      obtain ⟨e, hu, hs⟩ := run_arrA hes
      unfold idxOK at hp
      cases hx with
      | lptr f h1 h2 =>
        refine ⟨.pointer (some ⟨_, _ + (off + i.toNat * es), none⟩), ?_, .lptr f h1 h2⟩
        simp [Instr.indexAt, asIntOf, run_underlying' hu, hp.1, hp.2, run_sizeOf' hs, addr_add, Instr.sureAddr, Nat.add_assoc]
    · rename_i id off
      simp only [Option.map_eq_some_iff, Prod.mk.injEq] at h
      obtain ⟨⟨n, es⟩, hes, rfl, rfl⟩ := h
      obtain ⟨e, hu, hs⟩ := run_arrA hes
      unfold idxOK at hp
      cases hx with
      | ptr hm =>
        refine ⟨.pointer (some ⟨_, _ + i.toNat * es, none⟩), ?_, .ptr hm⟩
        simp [Instr.indexAt, asIntOf, run_underlying' hu, hp.1, hp.2, run_sizeOf' hs, addr_add, Instr.sureAddr]
    · cases h
  · cases h

theorem loadA_part {t : TypeId} {cs : List AVal} {c : Array Value} {off : Nat} {p : Cd} {v : AVal} (hs : c.size = cs.length) (hr : ∀ i (h : i < cs.length), RelV g cs[i] (c.getD i undef))
    (h : loadA P t cs off = some (p, v)) (hp : p.p) : ∃ cv, (part t c off).run P w = .ok cv w ∧ RelV g v cv := by
  unfold loadA at h
  split at h
  · rename_i n hagg hsz
    simp only [Option.some.injEq, Prod.mk.injEq] at h
    obtain ⟨rfl, rfl⟩ := h
    have hlen : (cut cs off n).length = n := by simp [cut]; omega
    refine ⟨.agg (c.extract off (off + n)), by simp [part, run_isAgg' hagg, run_sizeOf' hsz], .agg _ (by simp [hlen]; omega) fun i hi => ?_⟩
    rw [hlen] at hi
    have e1 : (cut cs off n)[i]'(by rw [hlen]; exact hi) = cs[off + i]'(by omega) := by simp [cut]
    have e2 : (c.extract off (off + n)).getD i undef = c.getD (off + i) undef := by
      have : off + i < c.size := by omega
      simp only [Array.getD_eq_getD_getElem?, Array.getElem?_extract]
      rw [if_pos (by omega)]
    rw [e1, e2]; exact hr _ _
  · rename_i hagg
    have hoff : off < cs.length ∧ v = cs.getD off .junk := by
      simp only [Option.some.injEq, Prod.mk.injEq] at h
      obtain ⟨rfl, rfl⟩ := h
      exact ⟨hp, rfl⟩
    obtain ⟨hlt, rfl⟩ := hoff
    have hlt' : off < c.size := by omega
    refine ⟨c[off], by simp [part, run_isAgg' hagg, hlt'], ?_⟩
    have := hr off hlt
    simpa [List.getD, List.getElem?_eq_getElem hlt, Array.getD, hlt'] using this
  · cases h

theorem indexA_sound {t : TypeId} {x i : AVal} {cx ci : Value} {p : Cd} {v : AVal} (h : indexA P t x i = some (p, v)) (hp : p.p) (hx : RelV g x cx) (hi : RelV g i ci) :
    ∃ cv, (Instr.index t cx ci).run P w = .ok cv w ∧ RelV g v cv := by
  unfold indexA at h
  split at h
  · rename_i k i
    cases hi
    split at h
    · rename_i s
      split at h
      · rename_i hk
        simp only [Option.some.injEq, Prod.mk.injEq] at h
        obtain ⟨rfl, rfl⟩ := h
        obtain ⟨d, hu, hd⟩ := run_tk hk (by simp)
        cases d <;> simp [tkd] at hd
        cases hx
        obtain ⟨h0, h1⟩ := hp
        have hlt : i.toNat < s.size := by omega
        refine ⟨.int .u8 (s[i.toNat].toNat : Int), ?_, ?_⟩
        · simp [Instr.index, asIntOf, run_underlying' hu, h0, hlt]
        · have : s.data.toList.getD i.toNat 0 = s[i.toNat] := by
            have h2 : i.toNat < s.data.toList.length := by simpa using hlt
            simp only [List.getD, List.getElem?_eq_getElem h2, Option.getD_some]; rfl
          rw [this]; exact .int _ _
      · cases h
    · rename_i cs
      split at h
      · rename_i n e hE
        split at h
        · rename_i es hes
          simp only [Option.map_eq_some_iff, Prod.mk.injEq] at h
          obtain ⟨⟨q1, q2⟩, hq, rfl, rfl⟩ := h
          cases hx with
          | agg c hs hr =>
            obtain ⟨cv, hrun, hv⟩ := loadA_part (P := P) (w := w) hs hr hq hp.2
            unfold arrE at hE
            split at hE
            · rename_i n' e' hu
              simp only [Option.some.injEq, Prod.mk.injEq] at hE
              obtain ⟨rfl, rfl⟩ := hE
              refine ⟨cv, ?_, hv⟩
              obtain ⟨h0, h1⟩ := hp.1
              simp [Instr.index, asIntOf, run_underlying' hu, h0, h1, run_sizeOf' hes, hrun]
            · cases hE
        · cases h
      · cases h
    · cases h
  · cases h

end Go.Cov

namespace Go.Cov
open Go.RowKit
variable {P : Program} {g : Ghost} {A : Store} {w : World}

def ORel (g : Ghost) : Option AVal → Option Value → Prop
  | none, none => True
  | some a, some c => RelV g a c
  | _, _ => False

theorem run_sliceBound {k : IntKind} {i : Int} {y : Nat} {code : BoundsCode} (h0 : 0 ≤ i) (h1 : i ≤ y) : (Instr.sliceBound (.int k i) y code).run P w = .ok i.toNat w := by
  simp [Instr.sliceBound, asIntOf, h0, h1]

theorem bndA_int {d : Nat} {o : Option AVal} {co : Option Value} {x : Int} (h : bndA d o = some x) (ho : ORel g o co) : (o = none ∧ co = none ∧ x = d) ∨ (∃ k, o = some (.int k x) ∧ co = some (.int k x)) := by
  unfold bndA at h
  split at h
  · cases co with
    | none => simp at h; exact .inl ⟨rfl, rfl, h.symm⟩
    | some c => exact ho.elim
  · rename_i k i
    cases co with
    | none => exact ho.elim
    | some c => cases ho; simp at h; subst h; exact .inr ⟨_, rfl, rfl⟩
  · cases h

theorem run_bounds2 {b : Bool} {len cap : Nat} {lo hi : Option AVal} {cl ch : Option Value} {l h : Int} (hl : bndA 0 lo = some l) (hh : bndA len hi = some h) (rl : ORel g lo cl) (rh : ORel g hi ch)
    (h0 : 0 ≤ l) (h1 : l ≤ h) (h2 : h ≤ cap) : (Instr.sliceBounds b len cap cl ch none).run P w = .ok (l.toNat, h.toNat, cap) w := by
  rcases bndA_int hl rl with ⟨-, rfl, rfl⟩ | ⟨k, -, rfl⟩ <;> rcases bndA_int hh rh with ⟨-, rfl, rfl⟩ | ⟨k', -, rfl⟩
  · simp [Instr.sliceBounds]
  · simp [Instr.sliceBounds, run_sliceBound (P := P) (w := w) (i := h) (y := cap) (by omega) h2]
  · simp [Instr.sliceBounds, run_sliceBound (P := P) (w := w) (i := l) (y := len) h0 (by omega)]
  · have : l ≤ (h.toNat : Int) := by omega
    simp [Instr.sliceBounds, run_sliceBound (P := P) (w := w) (i := h) (y := cap) (by omega) h2, run_sliceBound (P := P) (w := w) (i := l) (y := h.toNat) h0 this]

theorem run_bounds3 {b : Bool} {len cap : Nat} {lo hi : Option AVal} {cl ch : Option Value} {l h m : Int} {k : IntKind} (hl : bndA 0 lo = some l) (hh : bndA len hi = some h) (his : hi.isSome = true) (rl : ORel g lo cl) (rh : ORel g hi ch)
    (h0 : 0 ≤ l) (h1 : l ≤ h) (h2 : h ≤ m) (h3 : m ≤ cap) : (Instr.sliceBounds b len cap cl ch (some (.int k m))).run P w = .ok (l.toNat, h.toNat, m.toNat) w := by
  have hm : h ≤ (m.toNat : Int) := by omega
  have hl' : l ≤ (h.toNat : Int) := by omega
  rcases bndA_int hl rl with ⟨-, rfl, rfl⟩ | ⟨k, -, rfl⟩ <;> rcases bndA_int hh rh with ⟨rfl, rfl, rfl⟩ | ⟨k', -, rfl⟩
  · simp at his
  · simp [Instr.sliceBounds, run_sliceBound (P := P) (w := w) (i := m) (y := cap) (by omega) h3, run_sliceBound (P := P) (w := w) (i := h) (y := m.toNat) (by omega) hm]
  · simp at his
  · simp [Instr.sliceBounds, run_sliceBound (P := P) (w := w) (i := m) (y := cap) (by omega) h3, run_sliceBound (P := P) (w := w) (i := h) (y := m.toNat) (by omega) hm, run_sliceBound (P := P) (w := w) (i := l) (y := h.toNat) h0 hl']

theorem listRel_cut {cs : List AVal} {b base off k n cap : Nat} {r : Room} (f : Nat → Value) (h1 : ∀ i, i < cs.length → g.io b (base + i) = some (f i)) (h2 : ∀ i (h : i < cs.length), RelV g cs[i] (f i))
    (hr : r = .full → cap = n) (hn : n ≤ cap) (ht : ∀ t, r ≠ .tok t) : RelV g (.list false r n (cut cs off k)) (.slice (some ⟨b, base + off, none⟩) n cap) := by
  have key : ∀ i, i < (cut cs off k).length → off + i < cs.length := by
    intro i hi; simp [cut] at hi; omega
  refine .list (fun i => f (off + i)) hn ?_ (fun i hi => by rw [Nat.add_assoc]; exact h1 _ (key i hi)) (fun i hi => ?_)
  · cases r with
    | full => exact hr rfl
    | tok t => exact absurd rfl (ht t)
    | lost => trivial
  · have := h2 (off + i) (key i hi); simpa [cut] using this

theorem listRel_header {cs : List AVal} {b base l h m cap es : Nat} {r : Room} (f : Nat → Value) (h1 : ∀ i, i < cs.length → g.io b (base + i) = some (f i)) (h2 : ∀ i (h : i < cs.length), RelV g cs[i] (f i))
    (hlh : l ≤ h) (hhm : h ≤ m) (_hm : m ≤ cap) (hr : r = .full → m = h) (ht : ∀ t, r ≠ .tok t) :
    RelV g (.list false r (h - l) (cut cs (l * es) ((h - l) * es))) (.slice (some (if m = l then ⟨b, base, none⟩ else (⟨b, base, none⟩ : Addr).add (l * es))) (h - l) (m - l)) := by
  by_cases hc : m = l
  · rw [if_pos hc]
    have e0 : h - l = 0 := by omega
    rw [e0]
    have : cut cs (l * es) (0 * es) = cut cs 0 0 := by simp [cut]
    rw [this]
    exact listRel_cut (off := 0) f h1 h2 (fun _ => by omega) (by omega) ht
  · rw [if_neg hc, addr_add]
    exact listRel_cut f h1 h2 (fun hf => by have := hr hf; omega) (by omega) ht

theorem slRel_header {id off l h m m' es b : Nat} (hm : g.mu id = some b) (hlh : l ≤ h) (hhm : h ≤ m') (hmm : m' ≤ m) (hq : m = m' ∨ ∃ s, g.pf b = some s ∧ off + m * es ≤ s) :
    RelV g (.sl id (off + l * es) (h - l) (m' - l) es) (.slice (some (if m = l then ⟨b, off, none⟩ else (⟨b, off, none⟩ : Addr).add (l * es))) (h - l) (m - l)) := by
  by_cases hcl : m = l
  · have e0 : h - l = 0 := by omega
    have e1 : m' - l = 0 := by omega
    have e2 : m - l = 0 := by omega
    rw [e0, e1, e2, if_pos hcl]; exact .slE
  · rw [if_neg hcl, addr_add]
    refine .sl hm (by omega) (by omega) (hq.imp (fun h => by omega) fun ⟨s, h1, h2⟩ => ⟨s, h1, ?_⟩)
    have : l * es + (m - l) * es = m * es := by rw [← Nat.add_mul]; congr 1; omega
    omega

theorem sliceA_sound {t : TypeId} {x : AVal} {lo hi mx : Option AVal} {cx : Value} {cl ch cm : Option Value} {p : Cd} {v : AVal} (h : sliceA P t x lo hi mx = some (p, v)) (hp : p.p) (hx : RelV g x cx)
    (rl : ORel g lo cl) (rh : ORel g hi ch) (rm : ORel g mx cm) : ∃ cv, (Instr.sliceAt t cx cl ch cm).run P w = .ok cv w ∧ RelV g v cv := by
  unfold sliceA at h
  split at h
  · -- a text
    rename_i s
    split at h
    · rename_i hk
      obtain ⟨hk, hmx⟩ := hk
      obtain ⟨d, hu, hd⟩ := run_tk hk (by simp)
      cases d <;> simp [tkd] at hd
      cases mx with
      | some _ => simp at hmx
      | none =>
        cases cm with
        | some _ => exact rm.elim
        | none =>
          split at h
          · rename_i l h' hl hh
            simp only [Option.some.injEq, Prod.mk.injEq] at h
            obtain ⟨rfl, rfl⟩ := h
            cases hx
            refine ⟨.string (s.extract l.toNat h'.toNat), ?_, .str _⟩
            simp [Instr.sliceAt, Instr.slice, run_underlying' hu, run_bounds2 (P := P) (w := w) (b := false) (cap := s.size) hl hh rl rh hp.1 hp.2.1 hp.2.2]
          · cases h
    · cases h
  · -- an immutable list
    rename_i nil r n cs
    split at h
    · rename_i es hes
      obtain ⟨e, hu, hs⟩ := run_slA hes
      split at h
      · rename_i l h' hl hh
        simp only [Option.some.injEq, Prod.mk.injEq] at h
        obtain ⟨rfl, rfl⟩ := h
        cases cm with
        | some _ => exact rm.elim
        | none =>
          obtain ⟨h0, h1, h2, hcs⟩ := hp
          cases hx with
          | listNil r =>
            have hl0 : l = 0 := by simp at h2; omega
            have hh0 : h' = 0 := by simp at h2; omega
            subst hl0 hh0
            refine ⟨.slice none 0 0, ?_, by simp [cut]; exact .listNil _⟩
            simp [Instr.sliceAt, Instr.slice, run_underlying' hu, run_bounds2 (P := P) (w := w) (b := true) (cap := 0) hl hh rl rh (by omega) (by omega) (by omega), run_sizeOf' hs]
          | list f hn hr g1 g2 =>
            rename_i b base cap
            have hb := run_bounds2 (P := P) (w := w) (b := true) (cap := cap) hl hh rl rh h0 h1 (by omega)
            refine ⟨.slice (some (if cap = l.toNat then ⟨b, base, none⟩ else (⟨b, base, none⟩ : Addr).add (l.toNat * es))) (h'.toNat - l.toNat) (cap - l.toNat), ?_, ?_⟩
            · simp only [Instr.sliceAt, Instr.slice, Sem.run_bind, run_underlying' hu, Result.andThen_ok, hb, run_sizeOf' hs, Sem.run_pure]
              congr 2
              split <;> rfl
            · refine listRel_header f g1 g2 (by omega) (by omega) (Nat.le_refl _) ?_ ?_
              · intro hfull
                split at hfull
                · rename_i hc; obtain ⟨rfl, rfl⟩ := hc; simp only [RoomRel] at hr; omega
                · cases hfull
              · intro t; split <;> simp
      · rename_i l h' k m hl hh
        simp only [Option.some.injEq, Prod.mk.injEq] at h
        obtain ⟨rfl, rfl⟩ := h
        cases cm with
        | none => exact rm.elim
        | some cm =>
          cases rm
          obtain ⟨h0, h1, h2, h3, hcs, his⟩ := hp
          cases hx with
          | listNil r =>
            have hl0 : l = 0 := by simp at h3; omega
            have hh0 : h' = 0 := by simp at h3; omega
            have hm0 : m = 0 := by simp at h3; omega
            subst hl0 hh0 hm0
            refine ⟨.slice none 0 0, ?_, by simp [cut]; exact .listNil _⟩
            simp [Instr.sliceAt, Instr.slice, run_underlying' hu, run_bounds3 (P := P) (w := w) (b := true) (cap := 0) (m := 0) hl hh his rl rh (by omega) (by omega) (by omega) (by omega), run_sizeOf' hs]
          | list f hn hr g1 g2 =>
            rename_i b base cap
            have hb := run_bounds3 (P := P) (w := w) (b := true) (cap := cap) (m := m) (k := k) hl hh his rl rh h0 h1 (by omega) (by omega)
            refine ⟨.slice (some (if m.toNat = l.toNat then ⟨b, base, none⟩ else (⟨b, base, none⟩ : Addr).add (l.toNat * es))) (h'.toNat - l.toNat) (m.toNat - l.toNat), ?_, ?_⟩
            · simp only [Instr.sliceAt, Instr.slice, Sem.run_bind, run_underlying' hu, Result.andThen_ok, hb, run_sizeOf' hs, Sem.run_pure]
              congr 2
              split <;> rfl
            · exact listRel_header (cap := cap) f g1 g2 (by omega) (by omega) (by omega) (fun _ => by omega) (by simp)
      · cases h
    · cases h
  · -- a slice of an object
    rename_i id off n m' e0
    split at h
    · rename_i es hes
      obtain ⟨e, hu, hs⟩ := run_slA hes
      split at h
      · rename_i l h' hl hh
        simp only [Option.some.injEq, Prod.mk.injEq] at h
        obtain ⟨rfl, rfl⟩ := h
        cases cm with
        | some _ => exact rm.elim
        | none =>
          obtain ⟨h0, h1, h2, he⟩ := hp
          obtain rfl : es = e0 := he.symm
          cases hx with
          | slE =>
            rename_i a o
            have hl0 : l = 0 := by simp at h2; omega
            have hh0 : h' = 0 := by simp at h2; omega
            subst hl0 hh0
            refine ⟨.slice (some ⟨a, o, none⟩) 0 0, ?_, by simp; exact .slE⟩
            simp [Instr.sliceAt, Instr.slice, run_underlying' hu, run_bounds2 (P := P) (w := w) (b := true) (cap := 0) hl hh rl rh (by omega) (by omega) (by omega), run_sizeOf' hs, Addr.add]
          | sl hm hn hm' hq =>
            rename_i b cap
            have hb := run_bounds2 (P := P) (w := w) (b := true) (cap := cap) hl hh rl rh h0 h1 (by omega)
            refine ⟨.slice (some (if cap = l.toNat then ⟨b, off, none⟩ else (⟨b, off, none⟩ : Addr).add (l.toNat * es))) (h'.toNat - l.toNat) (cap - l.toNat), ?_, ?_⟩
            · simp only [Instr.sliceAt, Instr.slice, Sem.run_bind, run_underlying' hu, Result.andThen_ok, hb, run_sizeOf' hs, Sem.run_pure]
              congr 2
              split <;> rfl
            · exact slRel_header hm (by omega) (by omega) hm' hq
      · rename_i l h' k m hl hh
        simp only [Option.some.injEq, Prod.mk.injEq] at h
        obtain ⟨rfl, rfl⟩ := h
        cases cm with
        | none => exact rm.elim
        | some cm =>
          cases rm
          obtain ⟨h0, h1, h2, h3, his⟩ := hp
          cases hx with
          | slE =>
            rename_i b o
            have hl0 : l = 0 := by simp at h3; omega
            have hh0 : h' = 0 := by simp at h3; omega
            have hm0 : m = 0 := by simp at h3; omega
            subst hl0 hh0 hm0
            refine ⟨.slice (some ⟨b, o, none⟩) 0 0, ?_, by rw [if_pos rfl]; exact .list (r := .full) (n := 0) (cs := []) (cap := 0) (base := o) (b := b) (fun _ => undef) (Nat.le_refl _) rfl (fun i hi => by simp at hi) (fun i hi => by simp at hi)⟩
            simp [Instr.sliceAt, Instr.slice, run_underlying' hu, run_bounds3 (P := P) (w := w) (b := true) (cap := 0) (m := 0) hl hh his rl rh (by omega) (by omega) (by omega) (by omega), run_sizeOf' hs]
          | sl hm hn hm' hq =>
            rename_i b cap
            have hb := run_bounds3 (P := P) (w := w) (b := true) (cap := cap) (m := m) (k := k) hl hh his rl rh h0 h1 h2 (by omega)
            refine ⟨.slice (some (if m.toNat = l.toNat then ⟨b, off, none⟩ else (⟨b, off, none⟩ : Addr).add (l.toNat * es))) (h'.toNat - l.toNat) (m.toNat - l.toNat), ?_, ?_⟩
            · simp only [Instr.sliceAt, Instr.slice, Sem.run_bind, run_underlying' hu, Result.andThen_ok, hb, run_sizeOf' hs, Sem.run_pure]
              congr 2
              split <;> rfl
            · by_cases hkl : m = l
              · rw [if_pos hkl]
                have e1 : h'.toNat - l.toNat = 0 := by omega
                have e2 : m.toNat - l.toNat = 0 := by omega
                rw [e1, e2, if_pos (by omega)]
                exact .list (r := .full) (n := 0) (cs := []) (cap := 0) (base := off) (b := b) (fun _ => undef) (Nat.le_refl _) rfl (fun i hi => by simp at hi) (fun i hi => by simp at hi)
              · rw [if_neg hkl]; exact slRel_header hm (by omega) (by omega) (Nat.le_refl _) (.inl rfl)
      · cases h
    · cases h
  · -- an array behind a pointer into immutable cells
    rename_i cs off
    split at h
    · rename_i n es hes
      obtain ⟨e, hu, hs⟩ := run_arrA hes
      split at h
      · simp only [Option.some.injEq, Prod.mk.injEq] at h
        obtain ⟨rfl, rfl⟩ := h
        cases cl with
        | some _ => exact rl.elim
        | none => cases ch with
          | some _ => exact rh.elim
          | none => cases cm with
            | some _ => exact rm.elim
            | none =>
              cases hx with
              | lptr f g1 g2 =>
                rename_i b base
                have hb := run_bounds2 (P := P) (g := g) (w := w) (b := false) (len := n) (cap := n) (lo := none) (hi := none) (cl := none) (ch := none) (l := ((0 : Nat) : Int)) (h := n) rfl rfl trivial trivial (by omega) (by omega) (by omega)
                refine ⟨.slice (some ⟨b, base + off, none⟩) n n, ?_, listRel_cut f g1 g2 (fun _ => rfl) (Nat.le_refl _) (by simp)⟩
                simp only [Instr.sliceAt, Sem.run_bind, run_underlying' hu, Result.andThen_ok, Instr.sureAddr, Sem.run_pure, hb, run_sizeOf' hs]
                by_cases h0 : n = 0 <;> simp [h0, addr_add]
      · rename_i k l
        simp only [Option.some.injEq, Prod.mk.injEq] at h
        obtain ⟨rfl, rfl⟩ := h
        cases cl with
        | none => exact rl.elim
        | some cl => cases ch with
          | some _ => exact rh.elim
          | none => cases cm with
            | some _ => exact rm.elim
            | none =>
              cases rl
              obtain ⟨hl, h0, h1⟩ := hp
              cases hx with
              | lptr f g1 g2 =>
                rename_i b base
                have hb := run_bounds2 (P := P) (g := g) (w := w) (b := false) (len := n) (cap := n) (lo := some (.int k l)) (hi := none) (cl := some (.int k l)) (ch := none) (l := l) (h := n) rfl rfl (.int _ _) trivial h0 h1 (by omega)
                refine ⟨.slice (some (if n = l.toNat then ⟨b, base + off, none⟩ else (⟨b, base + off, none⟩ : Addr).add (l.toNat * es))) (n - l.toNat) (n - l.toNat), ?_, ?_⟩
                · simp only [Instr.sliceAt, Sem.run_bind, run_underlying' hu, Result.andThen_ok, Instr.sureAddr, Sem.run_pure, hb, run_sizeOf' hs, Int.toNat_natCast]
                · by_cases hc : n = l.toNat
                  · rw [if_pos hc]
                    have e0 : n - l.toNat = 0 := by omega
                    rw [e0]
                    have : cut cs (off + l.toNat * es) (0 * es) = cut cs off 0 := by simp [cut]
                    rw [this]
                    exact listRel_cut f g1 g2 (fun _ => rfl) (Nat.le_refl _) (by simp)
                  · rw [if_neg hc, addr_add, Nat.add_assoc]
                    exact listRel_cut f g1 g2 (fun _ => rfl) (Nat.le_refl _) (by simp)
      · cases h
    · cases h
  · -- an array behind a pointer into an object
    rename_i id off
    split at h
    · rename_i n es hes
      obtain ⟨e, hu, hs⟩ := run_arrA hes
      split at h
      · simp only [Option.some.injEq, Prod.mk.injEq] at h
        obtain ⟨rfl, rfl⟩ := h
        cases cl with
        | some _ => exact rl.elim
        | none => cases ch with
          | some _ => exact rh.elim
          | none => cases cm with
            | some _ => exact rm.elim
            | none =>
              cases hx with
              | ptr hm =>
                rename_i b
                have hb := run_bounds2 (P := P) (g := g) (w := w) (b := false) (len := n) (cap := n) (lo := none) (hi := none) (cl := none) (ch := none) (l := ((0 : Nat) : Int)) (h := n) rfl rfl trivial trivial (by omega) (by omega) (by omega)
                refine ⟨.slice (some ⟨b, off, none⟩) n n, ?_, .sl hm (Nat.le_refl _) (Nat.le_refl _) (.inl rfl)⟩
                simp only [Instr.sliceAt, Sem.run_bind, run_underlying' hu, Result.andThen_ok, Instr.sureAddr, Sem.run_pure, hb, run_sizeOf' hs]
                by_cases h0 : n = 0 <;> simp [h0, addr_add]
      · cases h
    · cases h
  · cases h
end Go.Cov

namespace Go.Cov
open Go.RowKit
variable {P : Program} {g : Ghost} {A : Store} {w : World}

theorem numsA_cons {x : AVal} {cs : List AVal} {xs : List Int} (h : numsA (x :: cs) = some xs) : ∃ n ys, x = .int .u8 n ∧ numsA cs = some ys ∧ xs = n :: ys := by
  cases x with
  | int k n =>
    cases k <;> simp [numsA] at h
    obtain ⟨ys, hy, rfl⟩ := h
    exact ⟨n, ys, rfl, hy, rfl⟩
  | _ => simp [numsA] at h

theorem numsA_length {cs : List AVal} {xs : List Int} (h : numsA cs = some xs) : xs.length = cs.length := by
  induction cs generalizing xs with
  | nil => simp [numsA] at h; subst h; rfl
  | cons x cs ih =>
    obtain ⟨n, ys, rfl, hy, rfl⟩ := numsA_cons h
    simp [ih hy]

theorem numsA_get {cs : List AVal} {xs : List Int} (h : numsA cs = some xs) : ∀ i (hi : i < cs.length), cs[i] = .int .u8 (xs.getD i 0) := by
  induction cs generalizing xs with
  | nil => intro i hi; simp at hi
  | cons x cs ih =>
    obtain ⟨n, ys, rfl, hy, rfl⟩ := numsA_cons h
    intro i hi
    cases i with
    | zero => simp
    | succ i => simpa using ih hy i (by simpa using hi)

theorem isU8_inv {t : TypeId} (h : isU8 P t = true) : ∃ e, P.underlying t = some (.slice e) ∧ P.underlying e = some (.int .u8) := by
  unfold isU8 slE at h
  split at h
  · rename_i e he
    split at he
    · rename_i e' hu
      cases he
      simp only [decide_eq_true_eq] at h
      obtain ⟨d, hd, hk⟩ := tk_inv h (by simp)
      cases d <;> simp [tkd] at hk
      subst hk
      exact ⟨e, hu, hd⟩
    · cases he
  · cases h

theorem cellsAt_nums {b base : Nat} {cs : List AVal} {xs : List Int} (h : CellsAt g w b base cs) (hx : numsA cs = some xs) : ∀ i, i < cs.length → w.cell? ⟨b, base + i, none⟩ = some (.int .u8 (xs.getD i 0)) := by
  obtain ⟨f, h1, h2⟩ := h
  intro i hi
  rw [(h1 i hi).1]
  have := h2 i hi
  rw [numsA_get hx i hi] at this
  cases hf : f i <;> rw [hf] at this <;> cases this
  rfl

theorem convA_sound {src dst : TypeId} {x : AVal} {cx : Value} {p : Cd} {v : AVal} (h : convA P A src dst x = some (p, v)) (hp : p.p) (hx : RelV g x cx) (hR : Rel g A w) :
    ∃ cv, (convert src dst cx).run P w = .ok cv w ∧ RelV g v cv := by
  unfold convA at h
  split at h
  · rename_i k n
    split at h
    · rename_i k1 k2 h1 h2
      simp only [Option.some.injEq, Prod.mk.injEq] at h
      obtain ⟨rfl, rfl⟩ := h
      cases hx
      obtain ⟨d1, u1, e1⟩ := tk_inv h1 (by simp)
      obtain ⟨d2, u2, e2⟩ := tk_inv h2 (by simp)
      cases d1 <;> simp [tkd] at e1
      cases d2 <;> simp [tkd] at e2
      subst e1 e2
      exact ⟨_, by simp [convert, run_underlying' u1, run_underlying' u2, Conv.intToInt], .int _ _⟩
    · cases h
  · rename_i s
    split at h
    · rename_i hk
      simp only [Option.some.injEq, Prod.mk.injEq] at h
      obtain ⟨rfl, rfl⟩ := h
      cases hx
      obtain ⟨d1, u1, e1⟩ := tk_inv hk.1 (by simp)
      obtain ⟨d2, u2, e2⟩ := tk_inv hk.2 (by simp)
      cases d1 <;> simp [tkd] at e1
      cases d2 <;> simp [tkd] at e2
      exact ⟨_, by simp [convert, run_underlying' u1, run_underlying' u2], .str _⟩
    · cases h
  · rename_i nil r n cs
    split at h
    · rename_i hk
      simp only [Option.map_eq_some_iff, Prod.mk.injEq] at h
      obtain ⟨xs, hxs, rfl, rfl⟩ := h
      obtain ⟨e, hs, he⟩ := isU8_inv hk.1
      obtain ⟨d2, u2, e2⟩ := tk_inv hk.2 (by simp)
      cases d2 <;> simp [tkd] at e2
      cases hx with
      | listNil =>
        simp [numsA] at hxs; subst hxs
        exact ⟨_, run_convert_bytes_nil w src e hs he 0 0 dst u2, .str _⟩
      | list f hn hr g1 g2 =>
        subst hp
        refine ⟨_, run_convert_bytes_arg w src e hs he _ _ _ _ xs (numsA_length hxs) (fun i hi => ?_) dst u2, .str _⟩
        exact cellsAt_nums ⟨f, fun i hi => hR.io _ _ _ (g1 i hi), g2⟩ hxs i hi
    · cases h
  · rename_i id off n m e0
    split at h
    · rename_i hk
      split at h
      · rename_i cs ho
        simp only [Option.map_eq_some_iff, Prod.mk.injEq] at h
        obtain ⟨xs, hxs, rfl, rfl⟩ := h
        obtain ⟨e, hs, he⟩ := isU8_inv hk.1
        obtain ⟨d2, u2, e2⟩ := tk_inv hk.2 (by simp)
        cases d2 <;> simp [tkd] at e2
        obtain ⟨hp1, hp2⟩ := hp
        cases hx with
        | slE => omega
        | sl hm hn hm' hq =>
          obtain ⟨b', hb', hobj, _⟩ := hR.objs _ _ ho
          rw [hm] at hb'; cases hb'
          have hlen : (cut cs off n).length = n := by simp [cut]; omega
          refine ⟨_, run_convert_bytes_arg w src e hs he _ _ _ _ xs (by rw [numsA_length hxs, hlen]) (fun i hi => ?_) dst u2, .str _⟩
          have := cellsAt_nums (hobj.cellsAt.cutAt off n) hxs i (by omega)
          simpa using this
      · cases h
    · cases h
  · cases h

theorem lenA_sound {t ty : TypeId} {x : AVal} {cx : Value} {p : Cd} {v : AVal} (h : lenA P A t x = some (p, v)) (hx : RelV g x cx) (hR : Rel g A w) :
    ∃ cv, (Builtin.len_ #[t] ty #[cx]).run P w = .ok cv w ∧ RelV g v cv := by
  unfold lenA at h
  split at h <;> (try simp only [Option.some.injEq, Prod.mk.injEq] at h) <;> rename_i hk
  · obtain ⟨rfl, rfl⟩ := h
    obtain ⟨d, u, e⟩ := tk_inv hk (by simp)
    cases d <;> simp [tkd] at e
    cases hx
    · exact ⟨_, by simp [Builtin.len_, run_underlying' u]; rfl, .int _ _⟩
    · exact ⟨_, by simp [Builtin.len_, run_underlying' u]; rfl, .int _ _⟩
  · obtain ⟨rfl, rfl⟩ := h
    obtain ⟨d, u, e⟩ := tk_inv hk (by simp)
    cases d <;> simp [tkd] at e
    cases hx
    · exact ⟨_, by simp [Builtin.len_, run_underlying' u]; rfl, .int _ _⟩
    · exact ⟨_, by simp [Builtin.len_, run_underlying' u]; rfl, .int _ _⟩
  · obtain ⟨rfl, rfl⟩ := h
    obtain ⟨d, u, e⟩ := tk_inv hk (by simp)
    cases d <;> simp [tkd] at e
    cases hx
    exact ⟨_, by simp [Builtin.len_, run_underlying' u]; rfl, .int _ _⟩
  · obtain ⟨rfl, rfl⟩ := h
    obtain ⟨d, u, e⟩ := tk_inv hk (by simp)
    cases d <;> simp [tkd] at e
    cases hx
    exact ⟨_, by simp [Builtin.len_, run_underlying' u]; rfl, .int _ _⟩
  · split at h
    · rename_i es ho
      simp only [Option.some.injEq, Prod.mk.injEq] at h
      obtain ⟨rfl, rfl⟩ := h
      obtain ⟨d, u, e⟩ := tk_inv hk (by simp)
      cases d <;> simp [tkd] at e
      cases hx with
      | map hm =>
        obtain ⟨b', hb', hobj, _⟩ := hR.objs _ _ ho
        rw [hm] at hb'; cases hb'
        obtain ⟨ces, hb, hsz, _⟩ := hobj
        refine ⟨.int .i64 ces.size, ?_, by rw [hsz]; exact .int _ _⟩
        simp [Builtin.len_, run_underlying' u, getObj, Sem.run, hb]; rfl
    · cases h
  · split at h
    · rename_i n e hE
      simp only [Option.some.injEq, Prod.mk.injEq] at h
      obtain ⟨rfl, rfl⟩ := h
      unfold arrE at hE
      split at hE
      · rename_i n' e' u
        simp only [Option.some.injEq, Prod.mk.injEq] at hE
        obtain ⟨rfl, rfl⟩ := hE
        refine ⟨.int .i64 n', ?_, .int _ _⟩
        cases cx <;> simp [Builtin.len_, run_underlying' u] <;> rfl
      · cases hE
    · cases h
  · cases h

end Go.Cov

namespace Go.Cov
open Go.RowKit
variable {P : Program} {g : Ghost} {A : Store} {w : World}

theorem max2_sound {x y v : AVal} {cx cy : Value} (h : max2A x y = some v) (hx : RelV g x cx) (hy : RelV g y cy) : ∃ cv, (Builtin.max2 cx cy).run P w = .ok cv w ∧ RelV g v cv := by
  unfold max2A at h
  split at h <;> simp only [Option.some.injEq, reduceCtorEq] at h
  subst h; cases hx; cases hy
  rename_i k x k' y
  refine ⟨.int k (max x y), ?_, .int _ _⟩
  have : (if y > x then y else x) = max x y := by split <;> omega
  simp [Builtin.max2, this]
theorem min2_sound {x y v : AVal} {cx cy : Value} (h : min2A x y = some v) (hx : RelV g x cx) (hy : RelV g y cy) : ∃ cv, (Builtin.min2 cx cy).run P w = .ok cv w ∧ RelV g v cv := by
  unfold min2A at h
  split at h <;> simp only [Option.some.injEq, reduceCtorEq] at h
  subst h; cases hx; cases hy
  rename_i k x k' y
  refine ⟨.int k (min x y), ?_, .int _ _⟩
  have : (if y < x then y else x) = min x y := by split <;> omega
  simp [Builtin.min2, this]

theorem foldM_sound {f : AVal → AVal → Option AVal} {F : Value → Value → Sem Value} (hf : ∀ {x y v : AVal} {cx cy : Value}, f x y = some v → RelV g x cx → RelV g y cy → ∃ cv, (F cx cy).run P w = .ok cv w ∧ RelV g v cv) :
    ∀ (l : List AVal) (cl : List Value) (x v : AVal) (cx : Value), cl.length = l.length → (∀ i (h : i < l.length), RelV g l[i] (cl.getD i undef)) → RelV g x cx → l.foldlM f x = some v →
    ∃ cv, (cl.foldlM F cx).run P w = .ok cv w ∧ RelV g v cv := by
  intro l
  induction l with
  | nil =>
    intro cl x v cx hl _ hx h
    cases cl with
    | nil => simp at h; subst h; exact ⟨cx, by simp, hx⟩
    | cons => simp at hl
  | cons y l ih =>
    intro cl x v cx hl hr hx h
    cases cl with
    | nil => simp at hl
    | cons cy cl =>
      simp only [List.foldlM_cons, Option.bind_eq_bind, Option.bind_eq_some_iff] at h
      obtain ⟨u, hu, h⟩ := h
      have h0 := hr 0 (by simp)
      simp only [List.getElem_cons_zero, List.getD_cons_zero] at h0
      obtain ⟨cu, hcu, hru⟩ := hf hu hx h0
      obtain ⟨cv, hcv, hrv⟩ := ih cl u v cu (by simpa using hl) (fun i hi => hr (i + 1) (Nat.succ_lt_succ hi)) hru h
      exact ⟨cv, by simp only [List.foldlM_cons, Sem.run_bind, hcu, Result.andThen_ok, hcv], hrv⟩

/-- The bare operation of a builtin that leaves the store. -/
def pureBuiltin (P : Program) (A : Store) (b : Builtin) (ts : List TypeId) (xs : List AVal) : Option (Cd × AVal) :=
  match b, ts, xs with
  | .len, [t], [x] => lenA P A t x
  | .max, _, xs => (maxsA xs).map fun v => (cd True, v)
  | .min, _, xs => (minsA xs).map fun v => (cd True, v)
  | _, _, _ => none

def pureOp (P : Program) [Cmp P] (e : Operand → AVal) (A : Store) (o : Op) : Option (Cd × AVal) :=
  match o with
  | .move x | .assign x => some (cd True, e x)
  | .pick c a b => match e c with
    | .bool t => some (cd True, if t then e a else e b)
    | _ => none
  | .build t parts => (buildA P t (parts.toList.map fun q => (q.1, e q.2))).map fun v => (cd True, v)
  | .buildSlice t n parts => match slE P t with
    | some el => match tsz P el, zeroA P el with
      | some sz, some zs => if zs.length = sz ∧ 0 < n * sz ∧ n * sz ≤ 16777216 then
          (fillA (fun i => some (i * sz, sz)) ((List.range (n * sz)).map fun i => zs.getD (i % sz) .junk) (parts.toList.map fun q => (q.1, e q.2))).map fun cs => (cd True, .list false .full n cs)
        else if n = 0 ∧ parts.toList = [] then some (cd True, .list false .full 0 []) else none
      | _, _ => none
    | none => none
  | .load t a => match e a with
    | .ptr id off => match A.objs id with
      | some (.cells cs) => loadA P t cs off
      | _ => none
    | .lptr cs off => loadA P t cs off
    | _ => none
  | .nilCheck x => match e x with
    | .ptr id off => some (cd True, .ptr id off)
    | .lptr cs off => some (cd True, .lptr cs off)
    | .func (.func f) a b => some (cd True, .func (.func f) a b)
    | .yld l => some (cd True, .yld l)
    | _ => none
  | .binOp op t x y _ => binA P op t (e x) (e y)
  | .unOp op _ x => unA op (e x)
  | .convert s d x => convA P A s d (e x)
  | .makeInterface t x => if tk P t = .iface ∨ tk P t = .other then none else some (cd True, .iface t (e x))
  | .makeFunc fn f c => some (cd True, .func fn (f.toList.map e) (c.toList.map e))
  | .slice t x lo hi mx => sliceA P t (e x) (lo.map e) (hi.map e) (mx.map e)
  | .fieldAddr s x f => match offA P s f with
    | some k => match e x with
      | .ptr id off => some (cd True, .ptr id (off + k))
      | .lptr cs off => some (cd True, .lptr cs (off + k))
      | _ => none
    | none => none
  | .field t x f => match fldA P t f with
    | some (off, ty) => match e x with
      | .agg cs => loadA P ty cs off
      | _ => none
    | none => none
  | .indexAddr t x i => indexAddrA P t (e x) (e i)
  | .index t x i => indexA P t (e x) (e i)
  | .extract x i => match e x with
    | .tup vs => some (cd (i < vs.length), vs.getD i .junk)
    | _ => none
  | .call c => match c.callee with
    | .builtin b => pureBuiltin P A b c.argTypes.toList (c.args.toList.map e)
    | _ => none
  | _ => none

theorem ORel.map {e : Operand → AVal} {ρ : Operand → Value} (he : ∀ x, RelV g (e x) (ρ x)) (o : Option Operand) : ORel g (o.map e) (o.map ρ) := by
  cases o with
  | none => trivial
  | some x => exact he x

theorem offA_place {s : TypeId} {f k : Nat} {a : Addr} (h : offA P s f = some k) : ∃ fs fd, P.underlying s = some (.struct fs) ∧ fs[f]? = some fd ∧ (fieldPlace a fd).run P w = .ok (a.add k) w := by
  unfold offA at h
  split at h
  · rename_i fs hu
    split at h
    · rename_i fd hf
      split at h
      · rename_i n hn
        cases h
        refine ⟨fs, fd, hu, hf, ?_⟩
        simp [fieldPlace, run_sizeOf' hn]
      · cases h
    · cases h
  · cases h

end Go.Cov

namespace Go.Cov
open Go.RowKit
variable {P : Program} {g : Ghost} {A : Store} {w : World}

theorem relParts {e : Operand → AVal} {ρ : Operand → Value} (he : ∀ x, RelV g (e x) (ρ x)) (parts : Array (Nat × Operand)) :
    (parts.map fun q : Nat × Operand => (q.1, ρ q.2)).toList.length = (parts.toList.map fun q => (q.1, e q.2)).length ∧
    ∀ i (h : i < (parts.toList.map fun q => (q.1, e q.2)).length) (h' : i < (parts.map fun q : Nat × Operand => (q.1, ρ q.2)).toList.length),
      (parts.map fun q : Nat × Operand => (q.1, ρ q.2)).toList[i].1 = (parts.toList.map fun q => (q.1, e q.2))[i].1 ∧ RelV g (parts.toList.map fun q => (q.1, e q.2))[i].2 (parts.map fun q : Nat × Operand => (q.1, ρ q.2)).toList[i].2 := by
  refine ⟨by simp, fun i h h' => ?_⟩
  simp only [Array.toList_map, List.getElem_map]
  exact ⟨trivial, he _⟩

theorem relOps {e : Operand → AVal} {ρ : Operand → Value} (he : ∀ x, RelV g (e x) (ρ x)) (xs : Array Operand) : (xs.map ρ).size = (xs.toList.map e).length ∧ ∀ i (h : i < (xs.toList.map e).length), RelV g (xs.toList.map e)[i] ((xs.map ρ).getD i undef) := by
  refine ⟨by simp, fun i h => ?_⟩
  have h' : i < xs.size := by simpa using h
  simp only [List.getElem_map, Array.getElem_toList]
  have : (xs.map ρ).getD i undef = ρ xs[i] := by simp [Array.getD, h']
  rw [this]; exact he _

theorem run_fieldAt {s : TypeId} {f k : Nat} {a : Addr} (h : offA P s f = some k) : (Instr.fieldAt s (.pointer (some a)) f).run P w = .ok (.pointer (some (a.add k))) w := by
  obtain ⟨fs, fd, hu, hf, hr⟩ := offA_place (P := P) (w := w) (a := a) h
  simp [Instr.fieldAt, run_underlying' hu, hf, Instr.sureAddr, hr]

theorem buildSlice_sound {t : TypeId} {n : Nat} {el : TypeId} {sz : Nat} {zs : List AVal} {parts : List (Nat × AVal)} {cparts : Array (Nat × Value)} {cs : List AVal} (hR : Rel g A w)
    (hE : slE P t = some el) (hs : tsz P el = some sz) (hz : zeroA P el = some zs) (hzl : zs.length = sz) (h0 : 0 < n * sz) (hlim : n * sz ≤ 16777216)
    (hf : fillA (fun i => some (i * sz, sz)) ((List.range (n * sz)).map fun i => zs.getD (i % sz) .junk) parts = some cs) (hl : cparts.toList.length = parts.length)
    (hp : ∀ i (h : i < parts.length) (h' : i < cparts.toList.length), cparts.toList[i].1 = parts[i].1 ∧ RelV g parts[i].2 cparts.toList[i].2) :
    ∃ cv w' g', (Instr.buildSlice t n cparts).run P w = .ok cv w' ∧ PExt g g' ∧ RelV g' (.list false .full n cs) cv ∧ Rel g' A w' := by
  unfold slE at hE
  split at hE
  · rename_i el' hu
    cases hE
    obtain ⟨z, hzr, hzc⟩ := zero_relC (P := P) (g := g) (w := w) hz
    have hzr' : RelC g ((List.range (n * sz)).map fun i => zs.getD (i % sz) .junk) ((Array.range (n * sz)).map (z.cells[· % z.cells.size]!)) := by
      have hsz : 0 < sz := Nat.pos_of_ne_zero (fun e => by subst e; simp at h0)
      refine ⟨by simp, fun i hi => ?_⟩
      have hi' : i < n * sz := by simpa using hi
      have hm : i % sz < sz := Nat.mod_lt _ hsz
      have e1 : ((Array.range (n * sz)).map (z.cells[· % z.cells.size]!)).getD i undef = z.cells.getD (i % sz) undef := by
        have : z.cells.size = sz := by rw [hzc.1, hzl]
        have hm' : i % sz < z.cells.size := by omega
        simp [Array.getD, hi', this, hm]
      have e2 : ((List.range (n * sz)).map fun i => zs.getD (i % sz) .junk)[i] = zs[i % sz]'(by omega) := by
        simp [List.getD, List.getElem?_eq_getElem (show i % sz < zs.length by omega)]
      rw [e1, e2]; exact hzc.2 _ _
    obtain ⟨c', hfill, hc'⟩ := fillA_sound parts cparts.toList _ cs _ hf hzr' hl hp
    obtain ⟨g', hx, hR', hio, _, _, hrel⟩ := hR.row (c := c') hc'.extract_self (by rw [hc'.1]; exact Nat.le_refl _) el
    refine ⟨.slice (some ⟨w.heap.size, 0, none⟩) n n, w.alloc (.cells c' el), g', ?_, hx, ?_, hR'⟩
    · have hnl : ¬ (n * sz > 2 ^ 24) := by omega
      have hn0 : n * sz ≠ 0 := by omega
      simp [Instr.buildSlice, run_underlying' hu, run_sizeOf' hs, hnl, hn0, hzr, hfill, newRow]
    · exact .list (fun i => c'.getD i undef) (Nat.le_refl _) rfl hio hrel
  · cases hE

theorem pureOp_sound [Cmp P] {e : Operand → AVal} {ρ : Operand → Value} (he : ∀ x, RelV g (e x) (ρ x)) {o : Oper} {p : Cd} {v : AVal} (h : pureOp P e A o.op = some (p, v)) (hp : p.p) (hR : Rel g A w) :
    POK P g A w (execOp ρ o) v := by
  obtain ⟨dst, op, type, pos, after, guard⟩ := o
  simp only at h
  unfold pureOp at h
  split at h
  · -- move
    simp only [Option.some.injEq, Prod.mk.injEq] at h; obtain ⟨rfl, rfl⟩ := h
    exact .same (by simp [execOp]) (he _) hR
  · simp only [Option.some.injEq, Prod.mk.injEq] at h; obtain ⟨rfl, rfl⟩ := h
    exact .same (by simp [execOp]) (he _) hR
  · -- pick
    rename_i c a b
    split at h
    · rename_i t hc
      simp only [Option.some.injEq, Prod.mk.injEq] at h; obtain ⟨rfl, rfl⟩ := h
      have hcr := he c
      rw [hc] at hcr
      cases hcc : ρ c <;> rw [hcc] at hcr <;> cases hcr
      refine .same (cv := if t then ρ a else ρ b) (by simp [execOp, hcc, asBool]) ?_ hR
      cases t <;> simp [he]
    · cases h
  · -- build
    rename_i t parts
    simp only [Option.map_eq_some_iff, Prod.mk.injEq] at h
    obtain ⟨v', hb, rfl, rfl⟩ := h
    obtain ⟨h1, h2⟩ := relParts he parts
    obtain ⟨cv, hr, hv⟩ := buildA_sound (P := P) (w := w) hb h1 h2
    exact .same (by show (do pure (.value (← Instr.build t (parts.map fun q : Nat × Operand => (q.1, ρ q.2)))) : Sem Next).run P w = _; simp only [Sem.run_bind, hr, Result.andThen_ok, Sem.run_pure]) hv hR
  · -- buildSlice
    rename_i t n parts
    split at h
    · rename_i el hE
      split at h
      · rename_i sz zs hs hz
        split at h
        · rename_i hc
          simp only [Option.map_eq_some_iff, Prod.mk.injEq] at h
          obtain ⟨cs, hf, rfl, rfl⟩ := h
          obtain ⟨h1, h2⟩ := relParts he parts
          obtain ⟨cv, w', g', hr, hx, hv, hR'⟩ := buildSlice_sound (P := P) hR hE hs hz hc.1 hc.2.1 hc.2.2 hf h1 h2
          exact ⟨cv, w', g', by show (do pure (.value (← Instr.buildSlice t n (parts.map fun q : Nat × Operand => (q.1, ρ q.2)))) : Sem Next).run P w = _; simp only [Sem.run_bind, hr, Result.andThen_ok, Sem.run_pure], hx, hv, hR'⟩
        · split at h
          · rename_i hc
            simp only [Option.some.injEq, Prod.mk.injEq] at h; obtain ⟨rfl, rfl⟩ := h
            obtain ⟨rfl, hpe⟩ := hc
            have hpe' : parts = #[] := by cases parts; simp at hpe; subst hpe; rfl
            subst hpe'
            unfold slE at hE
            split at hE
            · rename_i el' hu
              cases hE
              obtain ⟨g', hx, hR', hio, _, _, hrel⟩ := hR.row (cs := []) (c := #[]) ⟨by simp, fun i hi => by simp at hi⟩ (by simp) el
              refine ⟨.slice (some ⟨w.heap.size, 0, none⟩) 0 0, w.alloc (.cells #[] el), g', ?_, hx, .list (fun _ => undef) (Nat.le_refl _) rfl (fun i hi => by simp at hi) (fun i hi => by simp at hi), hR'⟩
              simp [execOp, Instr.buildSlice, run_underlying' hu, run_sizeOf' hs, Instr.fill, newRow]
              have e0 : (Array.range 0).map (fun _ => (default : Value)) = #[] := by simp [Array.range]
              rw [e0]
            · cases hE
          · cases h
      · cases h
    · cases h
  · -- load
    rename_i t a
    split at h
    · rename_i id off ha
      split at h
      · rename_i cs ho
        have har := he a
        rw [ha] at har
        obtain ⟨b, hcv, hat⟩ := har.cellsAt_ptr hR ho
        obtain ⟨cv, hr, hv⟩ := run_loadVar_at (P := P) hat h hp
        exact .same (by simp only [execOp, hcv, Instr.loadAt, Instr.sureAddr, Sem.run_bind, Sem.run_pure, Result.andThen_ok, hr]) hv hR
      · cases h
    · rename_i cs off ha
      have har := he a
      rw [ha] at har
      obtain ⟨b, base, hcv, hat⟩ := har.cellsAt_lptr hR
      obtain ⟨cv, hr, hv⟩ := run_loadVar_at (P := P) hat h hp
      exact .same (by simp only [execOp, hcv, Instr.loadAt, Instr.sureAddr, Sem.run_bind, Sem.run_pure, Result.andThen_ok, hr]) hv hR
    · cases h
  · -- nilCheck
    rename_i x
    have hxr := he x
    split at h <;> (try simp only [Option.some.injEq, Prod.mk.injEq] at h) <;> rename_i hx
    · obtain ⟨rfl, rfl⟩ := h; rw [hx] at hxr
      have hxr' := hxr
      cases hcx : ρ x <;> rw [hcx] at hxr hxr' <;> cases hxr
      exact .same (by simp [execOp, hcx]) hxr' hR
    · obtain ⟨rfl, rfl⟩ := h; rw [hx] at hxr
      have hxr' := hxr
      cases hcx : ρ x <;> rw [hcx] at hxr hxr' <;> cases hxr
      exact .same (by simp [execOp, hcx]) hxr' hR
    · obtain ⟨rfl, rfl⟩ := h; rw [hx] at hxr
      have hxr' := hxr
      cases hcx : ρ x <;> rw [hcx] at hxr hxr' <;> cases hxr
      exact .same (by simp [execOp, hcx]) hxr' hR
    · obtain ⟨rfl, rfl⟩ := h; rw [hx] at hxr
      have hxr' := hxr
      cases hcx : ρ x <;> rw [hcx] at hxr hxr' <;> cases hxr
      exact .same (by simp [execOp, hcx]) hxr' hR
    · cases h
  · -- binOp
    rename_i op t x y _
    obtain ⟨cv, hr, hv⟩ := binA_sound (P := P) (w := w) x y h hp (he x) (he y)
    refine .same (cv := cv) ?_ hv hR
    simp only [execOp, Sem.run_bind, hr, Result.andThen_ok, Sem.run_pure]
  · -- unOp
    obtain ⟨cv, hr, hv⟩ := unA_sound (P := P) (w := w) h hp (he _)
    exact .same (by simp [execOp, hr]) hv hR
  · -- convert
    obtain ⟨cv, hr, hv⟩ := convA_sound (P := P) (w := w) h hp (he _) hR
    exact .same (by simp [execOp, hr]) hv hR
  · -- makeInterface
    rename_i t x
    split at h
    · cases h
    · rename_i hk
      simp only [Option.some.injEq, Prod.mk.injEq] at h; obtain ⟨rfl, rfl⟩ := h
      have hu : ∃ d, P.underlying t = some d ∧ ∀ ms, d ≠ .interface ms := by
        unfold tk at hk
        cases hd : P.underlying t with
        | none => simp [hd] at hk
        | some d => refine ⟨d, rfl, fun ms e => ?_⟩; subst e; simp [hd, tkd] at hk
      obtain ⟨d, hu, hd⟩ := hu
      refine .same (cv := .iface t (ρ x)) ?_ (.iface (he x)) hR
      cases d <;> first | exact absurd rfl (hd _) | simp [execOp, Instr.makeInterface, run_underlying' hu]
  · -- makeFunc
    rename_i fn f c
    simp only [Option.some.injEq, Prod.mk.injEq] at h; obtain ⟨rfl, rfl⟩ := h
    obtain ⟨h1, h2⟩ := relOps he f
    obtain ⟨h3, h4⟩ := relOps he c
    exact .same (cv := .func fn (f.map ρ) (c.map ρ)) (by simp [execOp, Instr.makeFunc]) (.func _ _ h1 h3 h2 h4) hR
  · -- slice
    obtain ⟨cv, hr, hv⟩ := sliceA_sound (P := P) (w := w) h hp (he _) (ORel.map he _) (ORel.map he _) (ORel.map he _)
    exact .same (by simp [execOp, hr]) hv hR
  · -- fieldAddr
    rename_i s x f
    have hxr := he x
    split at h
    · rename_i k hk
      split at h <;> (try simp only [Option.some.injEq, Prod.mk.injEq] at h) <;> rename_i hx
      · obtain ⟨rfl, rfl⟩ := h; rw [hx] at hxr
        cases hcx : ρ x <;> rw [hcx] at hxr <;> cases hxr
        rename_i hm
        exact .same (by simp [execOp, hcx, run_fieldAt hk, addr_add]) (.ptr hm) hR
      · obtain ⟨rfl, rfl⟩ := h; rw [hx] at hxr
        cases hcx : ρ x <;> rw [hcx] at hxr <;> cases hxr
        rename_i f' h1 h2
        refine .same (cv := .pointer (some ⟨_, _ + (_ + k), none⟩)) ?_ (.lptr f' h1 h2) hR
        simp [execOp, hcx, run_fieldAt hk, addr_add, Nat.add_assoc]
      · cases h
    · cases h
  · -- field
    rename_i t x f
    split at h
    · rename_i off ty hf
      split at h
      · rename_i cs hx
        have hxr := he x
        rw [hx] at hxr
        cases hcx : ρ x <;> rw [hcx] at hxr <;> cases hxr
        rename_i hs hr
        obtain ⟨cv, hrun, hv⟩ := loadA_part (P := P) (w := w) hs hr h hp
        unfold fldA at hf
        split at hf
        · rename_i fs hu
          simp only [Option.map_eq_some_iff, Prod.mk.injEq] at hf
          obtain ⟨fd, hfd, rfl, rfl⟩ := hf
          exact .same (by simp [execOp, hcx, Instr.field, run_underlying' hu, hfd, asAgg, hrun]) hv hR
        · cases hf
      · cases h
    · cases h
  · -- indexAddr
    obtain ⟨cv, hr, hv⟩ := indexAddrA_sound (P := P) (w := w) h hp (he _) (he _)
    exact .same (by simp [execOp, hr]) hv hR
  · -- index
    obtain ⟨cv, hr, hv⟩ := indexA_sound (P := P) (w := w) h hp (he _) (he _)
    exact .same (by simp [execOp, hr]) hv hR
  · -- extract
    rename_i x i
    split at h
    · rename_i vs hx
      simp only [Option.some.injEq, Prod.mk.injEq] at h; obtain ⟨rfl, rfl⟩ := h
      have hxr := he x
      rw [hx] at hxr
      cases hcx : ρ x <;> rw [hcx] at hxr <;> cases hxr
      rename_i c hs hr
      have hi : i < c.size := by omega
      refine .same (cv := c[i]) (by simp [execOp, hcx, Instr.extract, hi]) ?_ hR
      have := hr i hp
      simpa [List.getD, List.getElem?_eq_getElem hp, Array.getD, hi] using this
    · cases h
  · -- a builtin
    rename_i c
    split at h
    · rename_i b hb
      obtain ⟨h1, h2⟩ := relOps he c.args
      unfold pureBuiltin at h
      split at h
      · rename_i t x ht hx
        obtain ⟨cv, hr, hv⟩ : ∃ cv, (Builtin.len_ c.argTypes type (c.args.map ρ)).run P w = .ok cv w ∧ RelV g v cv := by
          have ht' : c.argTypes = #[t] := by apply Array.ext'; simpa using ht
          have hs1 : (c.args.map ρ).size = 1 := by rw [h1, hx]; rfl
          obtain ⟨cx, hcx⟩ : ∃ cx, c.args.map ρ = #[cx] := by
            match hm : c.args.map ρ, hs1 with
            | ⟨[cx]⟩, _ => exact ⟨cx, rfl⟩
          have := h2 0 (by rw [hx]; simp)
          rw [hcx] at this
          have hx0 : (c.args.toList.map e)[0]'(by rw [hx]; simp) = x := by simp [hx]
          rw [hx0] at this
          rw [ht', hcx]
          exact lenA_sound h (by simpa [Array.getD] using this) hR
        refine .same (cv := cv) ?_ hv hR
        simp [execOp, resolve, hb, invoke, builtin, hr]
      · simp only [Option.map_eq_some_iff, Prod.mk.injEq] at h
        obtain ⟨v', hm, rfl, rfl⟩ := h
        obtain ⟨cv, hr, hv⟩ : ∃ cv, (Builtin.max_ c.argTypes type (c.args.map ρ)).run P w = .ok cv w ∧ RelV g v' cv := by
          generalize c.args.toList.map e = xs at hm h1 h2
          unfold maxsA at hm
          split at hm
          · cases hm
          · rename_i x r
            obtain ⟨⟨cl⟩, hcl⟩ : ∃ a, c.args.map ρ = a := ⟨_, rfl⟩
            rw [hcl] at h1 h2 ⊢
            cases cl with
            | nil => simp at h1
            | cons cx cr =>
              have h0 := h2 0 (by simp)
              obtain ⟨cv, hr, hv⟩ := foldM_sound (P := P) (w := w) (f := max2A) (F := Builtin.max2) max2_sound r cr x v' cx (by simpa using h1) (fun i hi => by have := h2 (i + 1) (by simp; omega); simpa [Array.getD_eq_getD_getElem?, List.getD] using this)
                (by simpa [Array.getD] using h0) hm
              exact ⟨cv, by simp [Builtin.max_, hr], hv⟩
        refine .same (cv := cv) ?_ hv hR
        simp [execOp, resolve, hb, invoke, builtin, hr]
      · simp only [Option.map_eq_some_iff, Prod.mk.injEq] at h
        obtain ⟨v', hm, rfl, rfl⟩ := h
        obtain ⟨cv, hr, hv⟩ : ∃ cv, (Builtin.min_ c.argTypes type (c.args.map ρ)).run P w = .ok cv w ∧ RelV g v' cv := by
          generalize c.args.toList.map e = xs at hm h1 h2
          unfold minsA at hm
          split at hm
          · cases hm
          · rename_i x r
            obtain ⟨⟨cl⟩, hcl⟩ : ∃ a, c.args.map ρ = a := ⟨_, rfl⟩
            rw [hcl] at h1 h2 ⊢
            cases cl with
            | nil => simp at h1
            | cons cx cr =>
              have h0 := h2 0 (by simp)
              obtain ⟨cv, hr, hv⟩ := foldM_sound (P := P) (w := w) (f := min2A) (F := Builtin.min2) min2_sound r cr x v' cx (by simpa using h1) (fun i hi => by have := h2 (i + 1) (by simp; omega); simpa [Array.getD_eq_getD_getElem?, List.getD] using this)
                (by simpa [Array.getD] using h0) hm
              exact ⟨cv, by simp [Builtin.min_, hr], hv⟩
        refine .same (cv := cv) ?_ hv hR
        simp [execOp, resolve, hb, invoke, builtin, hr]
      · cases h
    · cases h
  · cases h

end Go.Cov
