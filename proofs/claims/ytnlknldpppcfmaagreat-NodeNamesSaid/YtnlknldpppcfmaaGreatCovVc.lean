/-
  Proved here: regions, code and functions over abstract stores. Conditions: none.
-/
import Derived.Test.YtnlknldpppcfmaaGreatCovEff
import Derived.RangeFuncLeaves
import Derived.OrdersIn

namespace Go.Cov
open Go.RowKit
variable {P : Program} {g : Ghost} {A : Store} {w : World}

/-- Two ways, by a bool. -/
def bsplit (b want : Bool) (T S : Prop) : Prop := (b = want → T) ∧ (b = (!want) → S)
def bK (v : AVal) (F : Bool → Prop) (N : Prop) : Prop := match v with | .bool b => F b | .tup [] => N | _ => False

/-- Is an operation carried out? Both ways are gone where that is open. -/
def guardVC (all : List Oper) (fr : Fr) (gd : Option (Nat × Bool)) (T : Fr → Prop) (S : Fr → Prop) : Prop :=
  match gd with
  | none => T fr
  | some (j, want) => optK ((all[j]?).bind (·.dst)) fun d => bK (fr.getD d .junk) (fun b => bsplit b want (T (fr.set d (.bool want))) (S (fr.set d (.bool (!want))))) (S fr)

def vcOps (P : Program) [Env P] (all : List Oper) : List Oper → Nat → Fr → Store → (Fr → Store → Prop) → Prop
  | [], _, fr, A, K => K fr A
  | o :: rest, id, fr, A, K =>
    guardVC all fr o.guard (fun fr => opVC P fr A o id fun v A' => vcOps P all rest (id + 1) (putF fr o.dst v) A' K) (fun fr => vcOps P all rest (id + 1) (putF fr o.dst (.tup [])) A K)

theorem yielded_bool {all : List Oper} {fr : Fr} {a : Act} {j d : Nat} {b : Bool} (hf : RelFr g fr a) (hd : (all[j]?).bind (·.dst) = some d) (hv : fr.getD d .junk = .bool b) : yielded all.toArray a.tmps j = some b := by
  have hlt : d < fr.length := by
    rcases Nat.lt_or_ge d fr.length with h | h
    · exact h
    · simp [List.getD, List.getElem?_eq_none h] at hv
  have hr := hf.2 d hlt
  rw [getD_getElem, hv] at hr
  have hlt' : d < a.tmps.size := by rw [hf.1]; exact hlt
  have : a.tmps.getD d undef = a.tmps[d] := by simp [Array.getD, hlt']
  rw [this] at hr
  unfold yielded
  simp only [List.getElem?_toArray, hd, Option.bind_some, Array.getElem?_eq_getElem hlt']
  cases hc : a.tmps[d] <;> rw [hc] at hr <;> cases hr <;> rfl
theorem yielded_none {all : List Oper} {fr : Fr} {a : Act} {j d : Nat} (hf : RelFr g fr a) (hd : (all[j]?).bind (·.dst) = some d) (hv : fr.getD d .junk = .tup []) : yielded all.toArray a.tmps j = none := by
  have hlt : d < fr.length := by
    rcases Nat.lt_or_ge d fr.length with h | h
    · exact h
    · simp [List.getD, List.getElem?_eq_none h] at hv
  have hr := hf.2 d hlt
  rw [getD_getElem, hv] at hr
  have hlt' : d < a.tmps.size := by rw [hf.1]; exact hlt
  have : a.tmps.getD d undef = a.tmps[d] := by simp [Array.getD, hlt']
  rw [this] at hr
  unfold yielded
  simp only [List.getElem?_toArray, hd, Option.bind_some, Array.getElem?_eq_getElem hlt']
  cases hc : a.tmps[d] <;> rw [hc] at hr <;> cases hr <;> rfl

theorem RelFr.same {fr : Fr} {a : Act} {d : Nat} {v : AVal} (hf : RelFr g fr a) (hv : fr.getD d .junk = v) (hj : v ≠ .junk) : RelFr g (fr.set d v) a := by
  have : fr.set d v = fr := by
    have hlt : d < fr.length := by
      rcases Nat.lt_or_ge d fr.length with h | h
      · exact h
      · simp [List.getD, List.getElem?_eq_none h] at hv; exact absurd hv.symm hj
    have e : fr[d] = v := by rw [getD_getElem hlt, hv]
    rw [← e]; simp
  rw [this]; exact hf

theorem undef_rel : RelV g (.tup []) undef := .tup #[] rfl (fun i hi => by simp at hi)

theorem vcOps_sound [Env P] {all : List Oper} {ro : Option Nat} {F : Store} : ∀ (rest : List Oper) (i base : Nat) (fr : Fr) (A : Store) (K : Fr → Store → Prop) (g : Ghost) (a : Act) (w : World) (Q : Exit → Act → World → Prop),
    vcOps P all rest (base + i) fr A K → all.drop i = rest → Dis A F → (∀ j, base ≤ j → F.objs j = none) → GlobOK P g → RelFr g fr a → Rel g (A.plus F) w → (∀ j, base + i ≤ j → j < base + all.length → g.mu j = none) → base + all.length ≤ A.next →
    (∀ fr' A' g' a' w', K fr' A' → Dis A' F → g.Ext base g' → RelFr g' fr' a' → Rel g' (A'.plus F) w' → a'.defers = a.defers → A.next ≤ A'.next → Q .normal a' w') →
    wpOpsIn (FR ro) 0 P all.toArray Q (List.range' i rest.length) a w := by
  intro rest
  induction rest with
  | nil =>
    intro i base fr A K g a w Q h _ hD _ hg hf hR _ _ hQ
    exact hQ fr A g a w h hD (.refl _ _) hf hR rfl (Nat.le_refl _)
  | cons o rest ih =>
    intro i base fr A K g a w Q h hdrop hD hFb hg hf hR hres hle hQ
    have hi : i < all.length := by
      rcases Nat.lt_or_ge i all.length with h' | h'
      · exact h'
      · rw [List.drop_eq_nil_of_le h'] at hdrop; cases hdrop
    have hget : all[i]? = some o := by
      have := congrArg (·[0]?) hdrop
      simpa using this
    have hdrop' : all.drop (i + 1) = rest := by
      have := congrArg List.tail hdrop
      simpa using this
    -- the two ways
    have run : ∀ fr1, RelFr g fr1 a → (opVC P fr1 A o (base + i) fun v A' => vcOps P all rest (base + i + 1) (putF fr1 o.dst v) A' K) → o.wpIn (FR ro) 0 P a w (wpOpsIn (FR ro) 0 P all.toArray Q (List.range' (i + 1) rest.length)) Q := by
      intro fr1 hf1 hop
      refine opVC_sound hop hD (hFb _ (by omega)) ro g w a hg hf1 hR (hres _ (Nat.le_refl _) (by omega)) (by show base + i < A.next; omega) _ Q ?_
      rintro v _ g' cv w' ⟨A', hK, rfl, hD'⟩ hx hv hR' hle'
      have hx : OExt g A.next (base + i) g' := hx
      have hle' : A.next ≤ A'.next := hle'
      have hxe : g.Ext base g' := hx.ext (by omega) (by omega)
      refine ih (i + 1) base _ A' K g' _ w' Q hK hdrop' hD' hFb (hg.mono hxe) ((hf1.mono hxe).put o.dst hv) hR' ?_ (by omega) ?_
      · intro j h1 h2
        rw [hx.old j (by omega) (by omega)]; exact hres j (by omega) h2
      · intro fr' A'' g'' a'' w'' hK' hD'' hx' hf' hR'' hdf hle''
        exact hQ fr' A'' g'' a'' w'' hK' hD'' (hxe.trans hx' (Nat.le_refl _)) hf' hR'' (by rw [hdf, put_defers]) (by omega)
    have skip : ∀ fr1, RelFr g fr1 a → vcOps P all rest (base + i + 1) (putF fr1 o.dst (.tup [])) A K → wpOpsIn (FR ro) 0 P all.toArray Q (List.range' (i + 1) rest.length) (a.put o.dst undef) w := by
      intro fr1 hf1 hk
      refine ih (i + 1) base _ A K g _ w Q hk hdrop' hD hFb hg (hf1.put o.dst undef_rel) hR (fun j h1 h2 => hres j (by omega) h2) hle ?_
      intro fr' A'' g'' a'' w'' hK' hD'' hx' hf' hR'' hdf hle''
      exact hQ fr' A'' g'' a'' w'' hK' hD'' hx' hf' hR'' (by rw [hdf, put_defers]) hle''
    simp only [List.length_cons, List.range'_succ, wpOpsIn, List.getElem?_toArray, hget]
    simp only [vcOps, guardVC] at h
    cases hgd : o.guard with
    | none =>
      rw [hgd] at h
      rw [if_pos (by simp [Region.wanted, hgd])]
      exact run fr hf h
    | some q =>
      obtain ⟨j, want⟩ := q
      rw [hgd] at h
      simp only [optK, bK, bsplit] at h
      split at h
      · rename_i d hd
        split at h
        · rename_i b hb
          have hy := yielded_bool hf hd hb
          by_cases hbw : b = want
          · rw [if_pos (by simp [Region.wanted, hgd, hy, hbw])]
            exact run _ (hf.same (by rw [hb, hbw]) (by simp)) (h.1 hbw)
          · rw [if_neg (by simp [Region.wanted, hgd, hy, hbw])]
            have hbn : b = (!want) := by cases b <;> cases want <;> simp_all
            exact ⟨about_any, skip _ (hf.same (by rw [hb, hbn]) (by simp)) (h.2 hbn)⟩
        · rename_i hb
          have hy := yielded_none hf hd hb
          rw [if_neg (by simp [Region.wanted, hgd, hy])]
          exact ⟨about_any, skip _ hf h⟩
        · exact h.elim
      · exact h.elim

/-! ### Code -/
inductive AX where | normal | exit (id : Nat) | ret
def AX.ex : AX → Exit | .normal => .normal | .exit id => .exit id | .ret => .ret

/-- The marks of ranges over functions among the deferred calls. -/
def Marks (g g' : Ghost) (ms : List Deferred) : Prop := ∃ rs : List Nat, ms = rs.map (fun r => ⟨.collected r, #[]⟩) ∧ rs.Nodup ∧ ∀ r ∈ rs, g'.dfr r = some true ∧ g.dfr r = none
theorem Marks.nil (g g' : Ghost) : Marks g g' [] := ⟨[], rfl, .nil, fun _ h => by cases h⟩
theorem Marks.trans {g g1 g2 : Ghost} {n m : Nat} {ms ns : List Deferred} (h : Marks g g1 ms) (k : Marks g1 g2 ns) (hx : g.Ext n g1) (hy : g1.Ext m g2) : Marks g g2 (ns ++ ms) := by
  obtain ⟨rs, rfl, h1, h2⟩ := h
  obtain ⟨ts, rfl, k1, k2⟩ := k
  refine ⟨ts ++ rs, by simp, ?_, fun r hr => ?_⟩
  · rw [List.nodup_append]
    refine ⟨k1, h1, fun a ha b hb e => ?_⟩
    subst e
    have := (k2 a ha).2
    rw [(h2 a hb).1] at this; cases this
  · rcases List.mem_append.1 hr with hr | hr
    · refine ⟨(k2 r hr).1, ?_⟩
      cases hd : g.dfr r with
      | none => rfl
      | some t => have := hx.dfr _ _ hd; rw [(k2 r hr).2] at this; cases this
    · exact ⟨hy.dfr _ _ (h2 r hr).1, (h2 r hr).2⟩

/-- A round that runs is of a loop's record. -/
def RoOK (g : Ghost) (rc : Option Nat) : Prop := ∀ b, rc = some b → g.dfr b = some false
theorem RoOK.mono {g' : Ghost} {n : Nat} {rc : Option Nat} (h : RoOK g rc) (hx : g.Ext n g') : RoOK g' rc := fun b e => hx.dfr _ _ (h b e)
theorem RoOK.none (g : Ghost) : RoOK g none := fun _ e => by cases e

def Lift (P : Program) [Env P] (F : Store) (g : Ghost) (n : Nat) (d : List Deferred) (Q : AX → Fr → Store → Prop) : Exit → Act → World → Prop :=
  fun e a w => ∃ x fr A g' ms, e = x.ex ∧ Q x fr A ∧ g.Ext n g' ∧ RelFr g' fr a ∧ Rel g' (A.plus F) w ∧ a.defers = ms ++ d ∧ Marks g g' ms ∧ n ≤ A.next ∧ Dis A F

def AWp (P : Program) [Env P] (c : Code) (Q : AX → Fr → Store → Prop) (fr : Fr) (A : Store) : Prop :=
  ∀ (F : Store), Dis A F → ∀ (g : Ghost) (a : Act) (w : World) (rc : Option Nat), GlobOK P g → RoOK g rc → RelFr g fr a → Rel g (A.plus F) w → c.wpIn (FR rc) 0 P (Lift P F g A.next a.defers Q) a w

def seqK (F : Fr → Store → Prop) (Q : AX → Fr → Store → Prop) : AX → Fr → Store → Prop
  | .normal, fr, A => F fr A
  | x, fr, A => Q x fr A
def blockK (id : Nat) (Q : AX → Fr → Store → Prop) : AX → Fr → Store → Prop
  | .exit j, fr, A => if j = id then Q .normal fr A else Q (.exit j) fr A
  | x, fr, A => Q x fr A
def litF (fr : Fr) (c : Operand) (b : Bool) : Fr := match c with | .tmp t => fr.set t (.bool b) | _ => fr

def vc (P : Program) [Env P] : Code → (AX → Fr → Store → Prop) → Fr → Store → Prop
  | .skip, Q, fr, A => Q .normal fr A
  | .region id ops draw, Q, fr, A => if draw then AWp P (.region id ops true) Q fr A else vcOps P ops.toList ops.toList A.next fr (A.bump ops.size) (Q .normal)
  | .seq a b, Q, fr, A => vc P a (seqK (vc P b Q) Q) fr A
  | .cond c a b, Q, fr, A => bK (ev P fr c) (fun t => bsplit t true (vc P a Q (litF fr c true) A) (vc P b Q (litF fr c false) A)) False
  | .block id c, Q, fr, A => vc P c (blockK id Q) fr A
  | .exit id, Q, fr, A => Q (.exit id) fr A
  | .ret, Q, fr, A => Q .ret fr A
  | c, Q, fr, A => AWp P c Q fr A

theorem Rel.bump (hR : Rel g A w) (n : Nat) : Rel g (A.bump n) w :=
  ⟨fun id hi => hR.next id (by have : A.next + n ≤ id := hi; omega), hR.objs, hR.inj, hR.io, hR.sep, hR.ntok, hR.toks, hR.tokinj, hR.below, hR.pf, hR.dfr⟩

theorem Lift.mono [Env P] {F : Store} {n : Nat} {d : List Deferred} {Q Q' : AX → Fr → Store → Prop} (hq : ∀ x fr A, Q x fr A → Q' x fr A) {e : Exit} {a : Act} (h : Lift P F g n d Q e a w) : Lift P F g n d Q' e a w := by
  obtain ⟨x, fr, A, g', ms, h1, h2, h3⟩ := h
  exact ⟨x, fr, A, g', ms, h1, hq _ _ _ h2, h3⟩
theorem AWp.mono [Env P] {c : Code} {Q Q' : AX → Fr → Store → Prop} {fr : Fr} (h : AWp P c Q fr A) (hq : ∀ x fr A, Q x fr A → Q' x fr A) : AWp P c Q' fr A :=
  fun F hD g a w rc hg hrc hf hR => wpIn_mono (h F hD g a w rc hg hrc hf hR) fun _ _ _ => Lift.mono hq

theorem awp_here [Env P] {F : Store} {Q : AX → Fr → Store → Prop} {fr : Fr} {x : AX} {a : Act} (h : Q x fr A) (hD : Dis A F) (hf : RelFr g fr a) (hR : Rel g (A.plus F) w) : Lift P F g A.next a.defers Q x.ex a w :=
  ⟨x, fr, A, g, [], rfl, h, .refl _ _, hf, hR, rfl, Marks.nil _ _, Nat.le_refl _, hD⟩
theorem awp_skip [Env P] {Q : AX → Fr → Store → Prop} {fr : Fr} (h : Q .normal fr A) : AWp P .skip Q fr A :=
  fun _ hD _ _ _ _ _ _ hf hR => wpIn_skip (awp_here h hD hf hR)
theorem awp_exit [Env P] {Q : AX → Fr → Store → Prop} {fr : Fr} {id : Nat} (h : Q (.exit id) fr A) : AWp P (.exit id) Q fr A :=
  fun _ hD _ _ _ _ _ _ hf hR => wpIn_exit (awp_here h hD hf hR)
theorem awp_ret [Env P] {Q : AX → Fr → Store → Prop} {fr : Fr} (h : Q .ret fr A) : AWp P .ret Q fr A :=
  fun _ hD _ _ _ _ _ _ hf hR => wpIn_ret (awp_here h hD hf hR)

/-- On from where something was left. -/
theorem Lift.then [Env P] {F : Store} {g1 : Ghost} {n m : Nat} {d : List Deferred} {ms : List Deferred} {Q : AX → Fr → Store → Prop} {e : Exit} {a : Act} (hx : g.Ext n g1) (hm : Marks g g1 ms) (hle : n ≤ m) (h : Lift P F g1 m (ms ++ d) Q e a w) : Lift P F g n d Q e a w := by
  obtain ⟨x, fr, A, g2, ns, h1, h2, h3, h4, h5, h6, h7, h8, h9⟩ := h
  exact ⟨x, fr, A, g2, ns ++ ms, h1, h2, hx.trans h3 hle, h4, h5, by rw [h6, List.append_assoc], hm.trans h7 hx h3, by omega, h9⟩

theorem awp_seq [Env P] {x y : Code} {Q : AX → Fr → Store → Prop} {fr : Fr} (h : AWp P x (seqK (AWp P y Q) Q) fr A) : AWp P (.seq x y) Q fr A := by
  intro F hD g a w rc hg hrc hf hR
  refine wpIn_seq (wpIn_mono (h F hD g a w rc hg hrc hf hR) ?_)
  rintro e a' w' ⟨x, fr', A', g', ms, rfl, hq, hx, hf', hR', hd, hm, hle, hD'⟩
  cases x with
  | normal =>
    have := hq F hD' g' a' w' rc (hg.mono hx) (hrc.mono hx) hf' hR'
    refine wpIn_mono this ?_
    rw [hd]
    exact fun e a'' w'' h => h.then hx hm hle
  | exit id => exact ⟨.exit id, fr', A', g', ms, rfl, hq, hx, hf', hR', hd, hm, hle, hD'⟩
  | ret => exact ⟨.ret, fr', A', g', ms, rfl, hq, hx, hf', hR', hd, hm, hle, hD'⟩

theorem awp_block [Env P] {c : Code} {id : Nat} {Q : AX → Fr → Store → Prop} {fr : Fr} (h : AWp P c (blockK id Q) fr A) : AWp P (.block id c) Q fr A := by
  intro F hD g a w rc hg hrc hf hR
  refine wpIn_block (wpIn_mono (h F hD g a w rc hg hrc hf hR) ?_)
  rintro e a' w' ⟨x, fr', A', g', ms, rfl, hq, r⟩
  cases x with
  | normal => exact ⟨.normal, fr', A', g', ms, rfl, hq, r⟩
  | exit j =>
    show Exit.inBlock id _ (.exit j) a' w'
    simp only [blockK] at hq
    simp only [Exit.inBlock]
    split at hq
    · rename_i hj; rw [if_pos hj]; exact ⟨.normal, fr', A', g', ms, rfl, hq, r⟩
    · rename_i hj; rw [if_neg hj]; exact ⟨.exit j, fr', A', g', ms, rfl, hq, r⟩
  | ret => exact ⟨.ret, fr', A', g', ms, rfl, hq, r⟩

theorem awp_cond [Env P] {c : Operand} {x y : Code} {Q : AX → Fr → Store → Prop} {fr : Fr} {t : Bool} (hc : ev P fr c = .bool t)
    (h1 : t = true → AWp P x Q (litF fr c true) A) (h2 : t = false → AWp P y Q (litF fr c false) A) : AWp P (.cond c x y) Q fr A := by
  intro F hD g a w rc hg hrc hf hR
  have hcr := hf.ev hg c
  rw [hc] at hcr
  cases hcc : a.eval c <;> rw [hcc] at hcr <;> cases hcr
  have hl : ∀ b, t = b → RelFr g (litF fr c b) a := by
    rintro b rfl
    cases c with
    | tmp d => exact hf.same (by simpa [ev] using hc) (by simp)
    | _ => exact hf
  exact wpIn_cond_split hcc (fun ht => h1 ht F hD g a w rc hg hrc (hl _ ht) hR) (fun ht => h2 ht F hD g a w rc hg hrc (hl _ ht) hR)

theorem awp_region [Env P] {id : Nat} {ops : Array Oper} {Q : AX → Fr → Store → Prop} {fr : Fr} (h : vcOps P ops.toList ops.toList A.next fr (A.bump ops.size) (Q .normal)) : AWp P (.region id ops false) Q fr A := by
  intro F hD g a w rc hg hrc hf hR
  refine wpIn_region ?_
  have := vcOps_sound (ro := rc) (F := F) ops.toList 0 A.next fr (A.bump ops.size) (Q .normal) g a w (Lift P F g A.next a.defers Q) h rfl (hD.bump _) (fun j hj => hD.next j hj) hg hf (hR.bump _) (fun j h1 _ => (hR.next j (by show A.next ≤ j; omega)).1) (by simp [Store.bump])
    (fun fr' A' g' a' w' hK hD' hx hf' hR' hd hle => ⟨.normal, fr', A', g', [], rfl, hK, hx, hf', hR', hd, Marks.nil _ _, by simp [Store.bump] at hle; omega, hD'⟩)
  rw [List.range_eq_range']
  simpa using this

theorem vc_sound [Env P] (c : Code) : ∀ (Q : AX → Fr → Store → Prop) (fr : Fr) (A : Store), vc P c Q fr A → AWp P c Q fr A := by
  induction c with
  | skip => exact fun Q fr A h => awp_skip h
  | region id ops draw =>
    intro Q fr A h
    cases draw with
    | true => exact h
    | false => exact awp_region h
  | seq a b iha ihb =>
    intro Q fr A h
    refine awp_seq ((iha _ fr A h).mono ?_)
    intro x fr' A' hx
    cases x with
    | normal => exact ihb Q fr' A' hx
    | exit => exact hx
    | ret => exact hx
  | cond c a b iha ihb =>
    intro Q fr A h
    simp only [vc, bK, bsplit] at h
    split at h
    · rename_i t ht
      exact awp_cond ht (fun e => iha _ _ _ (h.1 e)) (fun e => ihb _ _ _ (h.2 e))
    · exact h.elim
    · exact h.elim
  | block id c ih => exact fun Q fr A h => awp_block (ih _ fr A h)
  | exit id => exact fun Q fr A h => awp_exit h
  | ret => exact fun Q fr A h => awp_ret h
  | _ => exact fun Q fr A h => h

/-! ### Loops -/
/-- A loop, from a round's beginning on. -/
def LWp (P : Program) [Env P] (c : Code) (Q : AX → Fr → Store → Prop) (fr : Fr) (A : Store) : Prop :=
  ∀ (F : Store), Dis A F → ∀ (g : Ghost) (a : Act) (w : World) (rc : Option Nat), GlobOK P g → RoOK g rc → RelFr g fr a → Rel g (A.plus F) w →
    ∀ (b : Frame) (k : List Item) (cs : List Frame), b.roundOf = (FR rc).round → (FR rc).fn b.fn → (FR rc).room (cs.length + 1 + 0) →
      ∃ e a' w', Lift P F g A.next a.defers Q e a' w' ∧ ArrivesIn (Machine.fenced P (FR rc)) P (lone (b.atR a (.code c :: .inLoop c :: k)) cs w) b k cs e a' w'
theorem LWp.mono [Env P] {c : Code} {Q Q' : AX → Fr → Store → Prop} {fr : Fr} (h : LWp P c Q fr A) (hq : ∀ x fr A, Q x fr A → Q' x fr A) : LWp P c Q' fr A :=
  fun F hD g a w rc hg hrc hf hR b k cs h1 h2 h3 => let ⟨e, a', w', h4, h5⟩ := h F hD g a w rc hg hrc hf hR b k cs h1 h2 h3; ⟨e, a', w', h4.mono hq, h5⟩
theorem awp_of_lwp [Env P] {c : Code} {Q : AX → Fr → Store → Prop} {fr : Fr} (h : LWp P c Q fr A) : AWp P (.loop c) Q fr A := by
  intro F hD g a w rc hg hrc hf hR b k cs hro hb hroom
  obtain ⟨e, a', w', hq, harr⟩ := h F hD g a w rc hg hrc hf hR b k cs hro hb hroom
  exact ⟨e, a', w', hq, .of_steps (.one (fenced_calm hb hroom rfl) stepR_loop) harr⟩
/-- One round on. -/
theorem lwp_unroll [Env P] {c : Code} {Q : AX → Fr → Store → Prop} {fr : Fr} (h : AWp P c (seqK (LWp P c Q) Q) fr A) : LWp P c Q fr A := by
  intro F hD g a w rc hg hrc hf hR b k cs hro hb hroom
  obtain ⟨e, a2, w2, ⟨x, fr2, A2, g2, ms, rfl, hq, hx2, hf2, hR2, hd2, hm2, hle2, hD2⟩, harr⟩ := h F hD g a w rc hg hrc hf hR b (.inLoop c :: k) cs hro hb hroom
  cases x with
  | normal =>
    obtain ⟨e3, a3, w3, hq3, harr3⟩ := hq F hD2 g2 a2 w2 rc (hg.mono hx2) (hrc.mono hx2) hf2 hR2 b k cs hro hb hroom
    rw [hd2] at hq3
    exact ⟨e3, a3, w3, hq3.then hx2 hm2 hle2, .of_steps (StepsIn.trans harr (.one (fenced_calm hb hroom rfl) stepR_inLoop)) harr3⟩
  | exit id => exact ⟨_, a2, w2, ⟨.exit id, fr2, A2, g2, ms, rfl, hq, hx2, hf2, hR2, hd2, hm2, hle2, hD2⟩, .pass (x := .inLoop c) rfl (fun _ _ => .inl (by simp [AX.ex])) harr⟩
  | ret => exact ⟨_, a2, w2, ⟨.ret, fr2, A2, g2, ms, rfl, hq, hx2, hf2, hR2, hd2, hm2, hle2, hD2⟩, .pass (x := .inLoop c) rfl (fun _ _ => .inl (by simp [AX.ex])) harr⟩

theorem awp_loop [Env P] {c : Code} {Q : AX → Fr → Store → Prop} {fr : Fr} (I : Fr → Store → Prop) (μ : Fr → Store → Nat) (h0 : I fr A)
    (round : ∀ fr1 A1, I fr1 A1 → AWp P c (seqK (fun fr2 A2 => I fr2 A2 ∧ μ fr2 A2 < μ fr1 A1) Q) fr1 A1) : AWp P (.loop c) Q fr A := by
  have key : ∀ m fr1 A1, μ fr1 A1 = m → I fr1 A1 → LWp P c Q fr1 A1 := by
    intro m
    induction m using Nat.strongRecOn with
    | _ m ih =>
      intro fr1 A1 hm hI
      refine lwp_unroll ((round fr1 A1 hI).mono ?_)
      intro x fr2 A2 hx
      cases x with
      | normal => exact ih _ (hm ▸ hx.2) fr2 A2 rfl hx.1
      | exit id => exact hx
      | ret => exact hx
  exact awp_of_lwp (key _ fr A rfl h0)

/-! ### Functions -/
def resA (P : Program) (A : Store) (fr : Fr) : ResultVar → Option (Cd × AVal)
  | .tmp t => some (cd True, fr.getD t .junk)
  | .cell a t => match fr.getD a .junk with
    | .ptr id off => match A.objs id with
      | some (.cells cs) => loadA P t cs off
      | _ => none
    | _ => none
/-- What a function hands back. -/
def resVC (P : Program) (rs : List ResultVar) (fr : Fr) (A : Store) (K : AVal → Store → Prop) : Prop :=
  match rs with
  | [] => K (.tup []) A
  | [r] => resK (resA P A fr r) fun v => K v A
  | [r, s] => resK (resA P A fr r) fun v => resK (resA P A fr s) fun u => K (.tup [v, u]) A
  | [r, s, t] => resK (resA P A fr r) fun v => resK (resA P A fr s) fun u => resK (resA P A fr t) fun x => K (.tup [v, u, x]) A
  | _ => False
theorem resA_plus {F : Store} {fr : Fr} {r : ResultVar} {q : Cd × AVal} (h : resA P A fr r = some q) : resA P (A.plus F) fr r = some q := by
  unfold resA at h ⊢
  split at h <;> try exact h
  split at h <;> try exact h
  rename_i id off hx
  split at h
  · rename_i cs ho; simp only [Store.plus_some ho]; exact h
  · cases h
theorem resVC_plus {F : Store} (hD : Dis A F) {rs : List ResultVar} {fr : Fr} {K : AVal → Store → Prop} (h : resVC P rs fr A K) : resVC P rs fr (A.plus F) (KF F K) := by
  unfold resVC at h ⊢
  split at h
  · exact ⟨A, h, rfl, hD⟩
  · exact resK_mono h (fun _ h => resA_plus h) fun v h => ⟨A, h, rfl, hD⟩
  · exact resK_mono h (fun _ h => resA_plus h) fun v h => resK_mono h (fun _ h => resA_plus h) fun v h => ⟨A, h, rfl, hD⟩
  · exact resK_mono h (fun _ h => resA_plus h) fun v h => resK_mono h (fun _ h => resA_plus h) fun v h => resK_mono h (fun _ h => resA_plus h) fun v h => ⟨A, h, rfl, hD⟩
  · exact h.elim

def rvS (tmps : Array Value) : ResultVar → Sem Value
  | .tmp t => pure (tmps.getD t undef)
  | .cell x t => do loadVar t (← asAddr (tmps.getD x undef))
theorem results_eq (fn : Func) (tmps : Array Value) : results fn tmps = (do let vs ← fn.results.mapM (rvS tmps); pure (if h : vs.size = 1 then vs[0] else .tuple vs)) := by
  unfold results
  congr 1

theorem resA_sound {fr : Fr} {a : Act} {r : ResultVar} {p : Cd} {v : AVal} (h : resA P A fr r = some (p, v)) (hp : p.p) (hf : RelFr g fr a) (hR : Rel g A w) :
    ∃ cv, (rvS a.tmps r).run P w = .ok cv w ∧ RelV g v cv := by
  have slot : ∀ t, RelV g (fr.getD t .junk) (a.tmps.getD t undef) := by
    intro t
    by_cases ht : t < fr.length
    · have := hf.2 t ht
      rw [getD_getElem] at this; exact this
    · have : fr.getD t .junk = .junk := by simp [List.getD, List.getElem?_eq_none (Nat.le_of_not_lt ht)]
      rw [this]; exact .junk _
  unfold resA at h
  split at h
  · rename_i t
    simp only [Option.some.injEq, Prod.mk.injEq] at h
    obtain ⟨rfl, rfl⟩ := h
    exact ⟨_, rfl, slot t⟩
  · rename_i x t
    split at h
    · rename_i id off hx
      split at h
      · rename_i cs ho
        have hxr := slot x
        rw [hx] at hxr
        obtain ⟨b, hcv, hat⟩ := hxr.cellsAt_ptr hR ho
        obtain ⟨cv, hr, hv⟩ := run_loadVar_at (P := P) hat h hp
        exact ⟨cv, by simp only [rvS, hcv, asAddr, Sem.run_bind, Sem.run_pure, Result.andThen_ok, hr], hv⟩
      · cases h
    · cases h

theorem resVC_sound [Env P] {fn : Func} {fr : Fr} {a : Act} {K : AVal → Store → Prop} (h : resVC P fn.results.toList fr A K) (hf : RelFr g fr a) (hR : Rel g A w) :
    ∃ cv v, (results fn a.tmps).run P w = .ok cv w ∧ K v A ∧ RelV g v cv := by
  have hres : ∀ l, fn.results.toList = l → fn.results = l.toArray := fun l e => by rw [← e]
  unfold resVC at h
  split at h
  · rename_i hl
    refine ⟨.tuple #[], .tup [], ?_, h, undef_rel⟩
    simp [results_eq, hres _ hl]
  · rename_i r hl
    obtain ⟨p, v, hr, hp, h⟩ := resK_inv h
    obtain ⟨cv, hrun, hv⟩ := resA_sound (P := P) (w := w) hr hp hf hR
    refine ⟨cv, _, ?_, h, hv⟩
    simp [results_eq, hres _ hl, hrun]
  · rename_i r s hl
    obtain ⟨p, v, hr, hp, h⟩ := resK_inv h
    obtain ⟨p', u, hs, hp', h⟩ := resK_inv h
    obtain ⟨cv, hrun, hv⟩ := resA_sound (P := P) (w := w) hr hp hf hR
    obtain ⟨cu, hrun', hu⟩ := resA_sound (P := P) (w := w) hs hp' hf hR
    refine ⟨.tuple #[cv, cu], _, ?_, h, .tup #[cv, cu] rfl fun i hi => ?_⟩
    · simp [results_eq, hres _ hl, hrun, hrun']
    · match i, hi with
      | 0, _ => exact hv
      | 1, _ => exact hu
  · rename_i r s t hl
    obtain ⟨p, v, hr, hp, h⟩ := resK_inv h
    obtain ⟨p', u, hs, hp', h⟩ := resK_inv h
    obtain ⟨p'', x, ht, hp'', h⟩ := resK_inv h
    obtain ⟨cv, hrun, hv⟩ := resA_sound (P := P) (w := w) hr hp hf hR
    obtain ⟨cu, hrun', hu⟩ := resA_sound (P := P) (w := w) hs hp' hf hR
    obtain ⟨cx, hrun'', hxx⟩ := resA_sound (P := P) (w := w) ht hp'' hf hR
    refine ⟨.tuple #[cv, cu, cx], _, ?_, h, .tup #[cv, cu, cx] rfl fun i hi => ?_⟩
    · simp [results_eq, hres _ hl, hrun, hrun', hrun'']
    · match i, hi with
      | 0, _ => exact hv
      | 1, _ => exact hu
      | 2, _ => exact hxx
  · exact h.elim

def retK (P : Program) (rs : List ResultVar) (K : AVal → Store → Prop) : AX → Fr → Store → Prop
  | .normal, fr, A => resVC P rs fr A K
  | .ret, fr, A => resVC P rs fr A K
  | .exit _, _, _ => False

def initF (n : Nat) (args : List AVal) : Fr := args ++ List.replicate (n - args.length) (.tup [])

/-- The marks are taken off, one by one. -/
theorem leaves_marks {fn : Func} {tmps : Array Value} {R : Ending → World → Prop} {F : Fence} : ∀ (rs : List Nat) (g : Ghost) (w : World), rs.Nodup → (∀ r ∈ rs, g.dfr r = some true) → Rel g A w →
    (∀ w' d, (∀ b, (b ∉ rs → d b = g.dfr b) ∧ (b ∈ rs → d b = none)) → Rel { g with dfr := d } A w' → ∃ v, (results fn tmps).run P w' = .ok v w' ∧ R (.returned v) w') →
    LeavesInM F 0 P fn tmps R (rs.map fun r => ⟨.collected r, #[]⟩) .returning w := by
  intro rs
  induction rs with
  | nil => intro g w _ _ hR h; exact h w g.dfr (fun b => ⟨fun _ => rfl, fun h => by cases h⟩) hR
  | cons r rs ih =>
    intro g w hn hd hR h
    have hn' := List.nodup_cons.1 hn
    have hb := (hR.dfr r true (hd r (by simp))).2
    have hblk : w.heap[r]? = some (.deferred (some [])) := hb
    refine ⟨by simp, .inl ⟨r, putObj w r (.deferred none), rfl, ?_, ?_⟩⟩
    · simp only [Instr.takeDeferred, Sem.run_bind, run_getObj hblk (fun _ _ _ h => by cases h), Result.andThen_ok, run_setObj hblk (fun _ _ _ h => by cases h), Sem.run_pure]
    · refine ih { g with dfr := fun x => if x = r then none else g.dfr x } _ hn'.2 (fun r' hr' => ?_) (hR.takeDfr (hd r (by simp))) ?_
      · show (if r' = r then none else g.dfr r') = _
        rw [if_neg (by rintro rfl; exact hn'.1 hr')]
        exact hd r' (by simp [hr'])
      · intro w' d hdd hR'
        refine h w' d (fun b => ⟨fun hb => ?_, fun hb => ?_⟩) hR'
        · have := (hdd b).1 (fun h => hb (by simp [h]))
          rw [this]
          show (if b = r then none else g.dfr b) = _
          rw [if_neg (by rintro rfl; exact hb (by simp))]
        · rcases List.mem_cons.1 hb with rfl | hb
          · have := (hdd b).1 hn'.1
            rw [this]; simp
          · exact (hdd b).2 hb

/-- A call, by the function's body. -/
theorem call_of_awp [Env P] {f : FuncId} {fn : Func} {c : Code} {args : List AVal} {K : AVal → Store → Prop} (hf : P.funcs[f]? = some fn) (hb : fn.body = some c) (hn : (fn.name == "runtime.NumGoroutine") = false)
    (h : AWp P c (retK P fn.results.toList K) (initF fn.ntmps args) A) : callVC P f args A K := by
  refine fun F hD => ⟨by simp [enters, hf, hb, hn], fun g w cargs hg ha hR => ?_⟩
  refine callsIn_of_wp_marks (F := Fence.wide) hf hb trivial ?_
  have hfr : RelFr g (initF fn.ntmps args) { tmps := cargs ++ Array.replicate (fn.ntmps - cargs.size) undef, defers := [] } := by
    refine ⟨by simp [initF, ha.1], fun i hi => ?_⟩
    rw [getD_append]
    simp only [initF]
    by_cases hi' : i < args.length
    · rw [if_pos (by rw [ha.1]; exact hi'), List.getElem_append_left hi']; exact ha.2 i hi'
    · rw [if_neg (by rw [ha.1]; exact hi'), List.getElem_append_right (by omega)]
      simp only [List.getElem_replicate]
      have : (Array.replicate (fn.ntmps - cargs.size) undef).getD (i - cargs.size) undef = undef := by
        simp only [Array.getD_eq_getD_getElem?, Array.getElem?_replicate]; split <;> rfl
      rw [this]; exact undef_rel
  have hw := h F hD g _ w none hg (RoOK.none g) hfr hR
  refine wpIn_mono (F := Fence.wide) hw ?_
  have fin : ∀ (fr' : Fr) (A' : Store) (g' : Ghost) (ms : List Deferred) (a' : Act) (w' : World), resVC P fn.results.toList fr' A' K → g.Ext (A.plus F).next g' → RelFr g' fr' a' → Rel g' (A'.plus F) w' → Marks g g' ms → A.next ≤ A'.next → Dis A' F →
      LeavesInM Fence.wide 0 P fn a'.tmps (fun e w' => ∃ v cv g' B, e = .returned cv ∧ KF F K v B ∧ g.Ext (A.plus F).next g' ∧ RelV g' v cv ∧ Rel g' B w' ∧ (A.plus F).next ≤ B.next) ms .returning w' := by
    intro fr' A' g' ms a' w' hq hx hf' hR' hm hle hD'
    obtain ⟨rs, rfl, hnd, hrs⟩ := hm
    refine leaves_marks rs g' w' hnd (fun r hr => (hrs r hr).1) hR' ?_
    intro w'' d hd hR''
    have hx' : g.Ext (A.plus F).next { g' with dfr := d } := ⟨hx.mu, hx.old, hx.io, hx.tk, hx.pf, fun b t hb => by
      have hb' : b ∉ rs := fun hm => by rw [(hrs b hm).2] at hb; cases hb
      show d b = _
      rw [(hd b).1 hb']; exact hx.dfr _ _ hb, hx.w0⟩
    have hfr' : RelFr { g' with dfr := d } fr' a' := ⟨hf'.1, fun i hi => (hf'.2 i hi).dfrD d⟩
    obtain ⟨cv, v, hr, hK, hv⟩ := resVC_sound (resVC_plus hD' hq) hfr' hR''
    exact ⟨cv, hr, v, cv, _, _, rfl, hK, hx', hv, hR'', hle⟩
  rintro e a' w' ⟨x, fr', A', g', ms, rfl, hq, hx, hf', hR', hd, hm, hle, hD'⟩
  rw [List.append_nil] at hd
  cases x with
  | normal =>
    show LeavesInM _ _ _ _ _ _ a'.defers _ _
    rw [hd]; exact fin fr' A' g' ms a' w' hq hx hf' hR' hm hle hD'
  | ret =>
    show LeavesInM _ _ _ _ _ _ a'.defers _ _
    rw [hd]; exact fin fr' A' g' ms a' w' hq hx hf' hR' hm hle hD'
  | exit id => exact hq.elim

theorem call_of_vc [Env P] {f : FuncId} {fn : Func} {c : Code} {args : List AVal} {K : AVal → Store → Prop} (hf : P.funcs[f]? = some fn) (hb : fn.body = some c) (hn : (fn.name == "runtime.NumGoroutine") = false)
    (h : vc P c (retK P fn.results.toList K) (initF fn.ntmps args) A) : callVC P f args A K := call_of_awp hf hb hn (vc_sound _ _ _ _ h)

end Go.Cov

namespace Go.Cov
open Go.RowKit
variable {P : Program} {g : Ghost} {A : Store} {w : World}

/-! ### What must come before what -/
def orB (l : List Nat) (s : Nat) (es : List Edge) : Nat := es.foldl (fun s e => if Region.binds .any e then s ||| 2 ^ e.on ||| l.getD e.on 0 else s) s
def befs (ops : Array Oper) : Nat → List Nat
  | 0 => []
  | n + 1 => befs ops n ++ [match ops[n]? with | some o => orB (befs ops n) 0 o.after.toList | none => 0]
def bef (ops : Array Oper) (j i : Nat) : Bool := ((befs ops ops.size).getD j 0).testBit i

theorem befs_length (ops : Array Oper) (n : Nat) : (befs ops n).length = n := by
  induction n with
  | zero => rfl
  | succ n ih => simp [befs, ih]
theorem befs_getD (ops : Array Oper) {k n : Nat} (h : k < n) : (befs ops n).getD k 0 = match ops[k]? with | some o => orB (befs ops k) 0 o.after.toList | none => 0 := by
  induction n with
  | zero => omega
  | succ n ih =>
    by_cases hk : k < n
    · rw [← ih hk]; simp [befs, List.getD, List.getElem?_append, befs_length, hk]
    · have : k = n := by omega
      subst this
      simp [befs, List.getD, befs_length]
theorem orB_bit (l : List Nat) (i : Nat) : ∀ (es : List Edge) (s : Nat), (orB l s es).testBit i = true → s.testBit i = true ∨ ∃ e ∈ es, Region.binds .any e = true ∧ (e.on = i ∨ (l.getD e.on 0).testBit i = true) := by
  intro es
  induction es with
  | nil => intro s h; exact .inl h
  | cons e es ih =>
    intro s h
    simp only [orB, List.foldl_cons] at h
    rcases ih _ h with h1 | ⟨e', he, hb, hr⟩
    · split at h1
      · rename_i hb
        simp only [Nat.testBit_or, Bool.or_eq_true] at h1
        rcases h1 with (h1 | h1) | h1
        · exact .inl h1
        · refine .inr ⟨e, by simp, hb, .inl ?_⟩
          rw [Nat.testBit_two_pow] at h1; simpa using h1
        · exact .inr ⟨e, by simp, hb, .inr h1⟩
      · exact .inl h1
    · exact .inr ⟨e', by simp [he], hb, hr⟩
theorem bef_step {ops : Array Oper} {j i : Nat} (h : bef ops j i = true) : j < ops.size ∧ ∃ o, ops[j]? = some o ∧ ∃ e ∈ o.after, Region.binds .any e = true ∧ (e.on = i ∨ (e.on < j ∧ bef ops e.on i = true)) := by
  have hj : j < ops.size := by
    rcases Nat.lt_or_ge j ops.size with h' | h'
    · exact h'
    · unfold bef at h
      rw [List.getD_eq_getElem?_getD, List.getElem?_eq_none (by rw [befs_length]; exact h')] at h; simp at h
  refine ⟨hj, ?_⟩
  unfold bef at h
  rw [befs_getD ops hj] at h
  have ho : ops[j]? = some ops[j] := Array.getElem?_eq_getElem hj
  rw [ho] at h
  refine ⟨_, ho, ?_⟩
  rcases orB_bit _ _ _ _ h with h | ⟨e, he, hb, h⟩
  · simp at h
  · refine ⟨e, by simpa using he, hb, ?_⟩
    rcases h with h | h
    · exact .inl h
    · right
      have hlt : e.on < j := by
        rcases Nat.lt_or_ge e.on j with h' | h'
        · exact h'
        · rw [List.getD_eq_getElem?_getD, List.getElem?_eq_none (by rw [befs_length]; exact h')] at h; simp at h
      refine ⟨hlt, ?_⟩
      unfold bef
      rw [befs_getD ops (by omega), ← befs_getD ops hlt]; exact h

/-- What is listed has all listed that must come before. -/
def Down (ops : Array Oper) (listed : Array Bool) : Prop := ∀ k o, ops[k]? = some o → listed.getD k false = true → ∀ e ∈ o.after, Region.binds .any e = true → listed.getD e.on false = true

theorem getD_any {listed : Array Bool} {k : Nat} (h : listed.getD k true = false) : listed.getD k false = false := by
  rcases Nat.lt_or_ge k listed.size with h' | h'
  · simpa [h'] using h
  · simp [Array.getElem?_eq_none h']
theorem bef_listed {ops : Array Oper} {listed : Array Bool} (hd : Down ops listed) : ∀ (n j i : Nat), j < n → bef ops j i = true → (∀ o, ops[j]? = some o → ∀ e ∈ o.after, Region.binds .any e = true → listed.getD e.on false = true) → listed.getD i false = true := by
  intro n
  induction n with
  | zero => intro j i h; omega
  | succ n ih =>
    intro j i hj h hall
    obtain ⟨hlt, o, ho, e, he, hb, h⟩ := bef_step h
    have hl := hall o ho e he hb
    rcases h with h | ⟨hlt', h⟩
    · rw [← h]; exact hl
    · exact ih e.on i (by omega) h fun o' ho' e' he' hb' => hd e.on o' ho' hl e' he' hb'
theorem ready_bef {ops : Array Oper} {listed : Array Bool} (hd : Down ops listed) {j i : Nat} (hj : j ∈ Region.ready .any ops listed) (hi : i ∈ Region.ready .any ops listed) : bef ops j i = false := by
  cases h : bef ops j i with
  | false => rfl
  | true =>
    have h1 := bef_listed hd (j + 1) j i (by omega) h fun o ho e he hb => by
      obtain ⟨_, o', ho', hall⟩ := mem_ready.1 hj
      rw [ho] at ho'; cases ho'
      exact hall e he hb
    have h2 := getD_any (mem_ready.1 hi).1
    rw [h1] at h2; cases h2
theorem Down.add {ops : Array Oper} {listed : Array Bool} (hd : Down ops listed) {i : Nat} (hi : i ∈ Region.ready .any ops listed) : Down ops (listed.setIfInBounds i true) := by
  intro k o ho hk e he hb
  apply getD_set_true
  by_cases hki : i = k
  · subst hki
    obtain ⟨_, o', ho', hall⟩ := mem_ready.1 hi
    rw [ho] at ho'; cases ho'
    exact hall e he hb
  · rw [getD_set_ne false hki] at hk
    exact hd k o ho hk e he hb

/-! ### The state -/
abbrev PD := Nat → Option ((Store → Option (Cd × AVal)) × AVal)
abbrev NN := Nat → Option (List AVal)
def upd {α : Type} (f : Nat → Option α) (i : Nat) (x : α) : Nat → Option α := fun k => if k = i then some x else f k
theorem upd_comm {α : Type} {f : Nat → Option α} {i j : Nat} {x y : α} (h : i ≠ j) : upd (upd f i x) j y = upd (upd f j y) i x := by
  funext k; unfold upd
  by_cases h1 : k = i
  · subst h1; simp [h]
  · by_cases h2 : k = j
    · subst h2; simp [h1]
    · simp [h1, h2]
def addN (A : Store) (base : Nat) (N : NN) (s : Nat → Bool) : Store :=
  { A with objs := fun id => if base ≤ id ∧ s (id - base) = true then (match N (id - base) with | some cs => some (.cells cs) | none => A.objs id) else A.objs id }

inductive Kd where | q | r | new | eff
  deriving DecidableEq
def kindOf (P : Program) (o : Op) : Kd :=
  match o with
  | .alloc _ | .box .. => .new
  | .load .. => .r
  | .convert s d _ => if isStrToBytes P s d then .eff else .r
  | .call c => match c.callee with
    | .builtin .len => .r
    | .builtin .max | .builtin .min => .q
    | _ => .eff
  | .move _ | .assign _ | .pick .. | .build .. | .buildSlice .. | .nilCheck _ | .binOp .. | .unOp .. | .makeInterface .. | .makeFunc .. | .slice .. | .fieldAddr .. | .field .. | .indexAddr .. | .index .. | .extract .. => .q
  | _ => .eff

def wantA (ops : Array Oper) (fr : Fr) (gd : Option (Nat × Bool)) : Option Bool :=
  match gd with
  | none => some true
  | some (j, want) => match (ops[j]?).bind (·.dst) with
    | some d => match fr.getD d .junk with
      | .bool b => some (b == want)
      | .tup [] => some false
      | _ => none
    | none => none

def newCells (P : Program) [Env P] (fr : Fr) : Op → Option (List AVal)
  | .alloc t => zeroA P t
  | .box _ x => cellsOf (ev P fr x)
  | _ => none

def stab (ops : Array Oper) (base j : Nat) (pd : PD) (N : NN) (A : Store) : Prop :=
  ∀ q c v, pd q = some (c, v) → bef ops j q = false → resK (c (addN A base N (bef ops q))) fun v' => v' = v
def restN (ops : Array Oper) (j : Nat) (N : NN) : NN := fun k => if bef ops j k then none else N k

def oneD (P : Program) [Env P] (ops : Array Oper) (base j : Nat) (o : Oper) (pd : PD) (N : NN) (fr : Fr) (A : Store) (KK : PD → NN → Fr → Store → Prop) : Prop :=
  match wantA ops fr o.guard with
  | none => False
  | some false => KK pd N (putF fr o.dst (.tup [])) A
  | some true => match kindOf P o.op with
    | .q => resK (pureOp P (ev P fr) A o.op) fun v => KK pd N (putF fr o.dst v) A
    | .r => resK (pureOp P (ev P fr) (addN A base N (bef ops j)) o.op) fun v => KK (upd pd j (fun B => pureOp P (ev P fr) B o.op, v)) N (putF fr o.dst v) A
    | .new => optK (newCells P fr o.op) fun cs => KK pd (upd N j cs) (putF fr o.dst (.ptr (base + j) 0)) A
    | .eff => OpSem P fr (addN A base N (bef ops j)) o (base + j) fun v A' => stab ops base j pd (restN ops j N) A' ∧ KK pd (restN ops j N) (putF fr o.dst v) A'

def vcAny (P : Program) [Env P] (ops : Array Oper) (base : Nat) (K : Fr → Store → Prop) : Nat → Array Bool → PD → NN → Fr → Store → Prop
  | 0, listed, _, N, fr, A => Region.ready .any ops listed = [] ∧ K fr (addN A base N fun _ => true)
  | n + 1, listed, pd, N, fr, A =>
    (Region.ready .any ops listed = [] → K fr (addN A base N fun _ => true)) ∧
    ∀ j ∈ Region.ready .any ops listed, ∀ o, ops[j]? = some o → oneD P ops base j o pd N fr A (vcAny P ops base K n (listed.setIfInBounds j true))

theorem oneD_mono [Env P] {ops : Array Oper} {base j : Nat} {o : Oper} {pd : PD} {N : NN} {fr : Fr} {KK KK' : PD → NN → Fr → Store → Prop} (h : oneD P ops base j o pd N fr A KK) (hk : ∀ pd N fr A, KK pd N fr A → KK' pd N fr A) :
    oneD P ops base j o pd N fr A KK' := by
  unfold oneD at h ⊢
  split at h
  · exact h
  · exact hk _ _ _ _ h
  · split at h
    · exact resK_mono h (fun _ h => h) fun v h => hk _ _ _ _ h
    · exact resK_mono h (fun _ h => h) fun v h => hk _ _ _ _ h
    · exact optK_mono h (fun _ h => h) fun v _ h => hk _ _ _ _ h
    · exact OpSem.mono h fun v A' h => ⟨h.1, hk _ _ _ _ h.2⟩

/-! ### Which slots an operation looks at -/
theorem ev_putF [Env P] {fr : Fr} {dst : Option Tmp} {v : AVal} {x : Operand} (h : ∀ d, dst = some d → x ≠ .tmp d) : ev P (putF fr dst v) x = ev P fr x := by
  cases dst with
  | none => rfl
  | some d =>
    cases x with
    | tmp t =>
      have : d ≠ t := fun e => h d rfl (e ▸ rfl)
      simp [ev, putF, List.getD, List.getElem?_set_ne this]
    | _ => rfl
theorem same_putF [Env P] {ops : Array Oper} {o : Oper} {fr : Fr} {dst : Option Tmp} {v : AVal} (h : ∀ d, dst = some d → d ∉ o.looksAt ops) : Same P o fr (putF fr dst v) :=
  fun x hx => ev_putF fun d hd hxd => h d hd (by
    subst hxd
    exact List.mem_append_left _ (List.mem_filterMap.2 ⟨.tmp d, by simpa using hx, rfl⟩))
theorem wantA_putF {ops : Array Oper} {o : Oper} {fr : Fr} {dst : Option Tmp} {v : AVal} (h : ∀ d, dst = some d → d ∉ o.looksAt ops) : wantA ops (putF fr dst v) o.guard = wantA ops fr o.guard := by
  cases dst with
  | none => rfl
  | some d =>
    unfold wantA
    cases hg : o.guard with
    | none => rfl
    | some gw =>
      obtain ⟨j, want⟩ := gw
      cases ht : (ops[j]?).bind (·.dst) with
      | none => simp only [ht]
      | some t =>
        have hne : d ≠ t := fun e => h d rfl (by subst e; simp [Oper.looksAt, hg, ht])
        simp only [ht, putF, List.getD, List.getElem?_set_ne hne]
theorem putF_comm {fr : Fr} {x y : Option Tmp} (v u : AVal) (h : ∀ d, x = some d → y ≠ some d) : putF (putF fr x v) y u = putF (putF fr y u) x v := by
  cases x with
  | none => rfl
  | some d =>
    cases y with
    | none => rfl
    | some e =>
      have hne : d ≠ e := fun he => h d rfl (he ▸ rfl)
      simp [putF, List.set_comm _ _ hne]
theorem pureOp_q [Cmp P] {e : Operand → AVal} {o : Op} (h : kindOf P o = .q) (A B : Store) : pureOp P e A o = pureOp P e B o := by
  unfold kindOf at h
  split at h <;> first | (exact absurd h (by decide)) | (simp only [pureOp]; done) | skip
  · split at h <;> exact absurd h (by decide)
  · rename_i c
    split at h <;> first | (exact absurd h (by decide)) | skip
    · rename_i hc; simp only [pureOp, hc, pureBuiltin]
    · rename_i hc; simp only [pureOp, hc, pureBuiltin]
theorem newCells_same [Env P] {fr fr' : Fr} {o : Oper} (hs : Same P o fr fr') : newCells P fr' o.op = newCells P fr o.op := by
  obtain ⟨dst, op, type, pos, after, guard⟩ := o
  cases op <;> try rfl
  simp only [newCells]
  rw [hs _ (by simp [Op.operands])]
theorem addN_upd {A : Store} {base i : Nat} {N : NN} {cs : List AVal} {s : Nat → Bool} (h : s i = false) : addN A base (upd N i cs) s = addN A base N s := by
  simp only [addN, Store.mk.injEq, and_true]
  funext id
  by_cases hc : base ≤ id ∧ s (id - base) = true
  · have : id - base ≠ i := fun e => by rw [e, h] at hc; cases hc.2
    simp [hc, upd, this]
  · simp [hc]
theorem restN_upd {ops : Array Oper} {i j : Nat} {N : NN} {cs : List AVal} (h : bef ops j i = false) : restN ops j (upd N i cs) = upd (restN ops j N) i cs := by
  funext k; unfold restN upd
  by_cases hk : k = i
  · subst hk; simp [h]
  · simp [hk]

/-! ### To take one first -/
/-- What a quiet one comes to. -/
def stepQ (P : Program) [Env P] (ops : Array Oper) (base i : Nat) (oi : Oper) (rd : Bool) (v : AVal) (fr : Fr) (A : Store) (N : NN) : Prop :=
  (rd = false ∧ wantA ops fr oi.guard = some false ∧ v = .tup []) ∨
  (rd = false ∧ wantA ops fr oi.guard = some true ∧ kindOf P oi.op = .q ∧ resK (pureOp P (ev P fr) A oi.op) fun v' => v' = v) ∨
  (rd = true ∧ wantA ops fr oi.guard = some true ∧ kindOf P oi.op = .r ∧ resK (pureOp P (ev P fr) (addN A base N (bef ops i)) oi.op) fun v' => v' = v)
def pdQ (P : Program) [Env P] (i : Nat) (oi : Oper) (rd : Bool) (v : AVal) (fr : Fr) (pd : PD) : PD := if rd then upd pd i (fun B => pureOp P (ev P fr) B oi.op, v) else pd

theorem resK_eq {o : Option (Cd × AVal)} {v : AVal} {K : AVal → Prop} (h : resK o fun v' => v' = v) (hk : K v) : resK o K := resK_mono h (fun _ h => h) fun _ e => e ▸ hk

theorem ready_pair {ops : Array Oper} {listed : Array Bool} {i j : Nat} {oi oj : Oper} (hj : j ∈ Region.ready .any ops listed) (hi : i ∈ Region.ready .any ops listed) (hoj : ops[j]? = some oj) (hji : j ≠ i)
    (hfree : ∀ j oj, ops[j]? = some oj → j ≠ i → listed.getD j true = false → (∀ e ∈ oj.after, Region.binds .any e = true → e.on ≠ i) → oi.apart ops oj = true) : oi.apart ops oj = true := by
  obtain ⟨hjun, o', ho', hall⟩ := mem_ready.1 hj
  rw [hoj] at ho'; cases ho'
  refine hfree j oj hoj hji hjun fun e he hb heq => ?_
  have h1 := hall e he hb
  rw [heq, getD_any (mem_ready.1 hi).1] at h1
  cases h1
theorem free_next {ops : Array Oper} {listed : Array Bool} {i j : Nat} {oi : Oper} (hjun : listed.getD j true = false)
    (hfree : ∀ j oj, ops[j]? = some oj → j ≠ i → listed.getD j true = false → (∀ e ∈ oj.after, Region.binds .any e = true → e.on ≠ i) → oi.apart ops oj = true) :
    ∀ k ok, ops[k]? = some ok → k ≠ i → (listed.setIfInBounds j true).getD k true = false → (∀ e ∈ ok.after, Region.binds .any e = true → e.on ≠ i) → oi.apart ops ok = true := fun k ok hk hki hun hno => by
  refine hfree k ok hk hki ?_ hno
  by_cases hjk : j = k
  · subst hjk; exact hjun
  · rw [getD_set_ne true hjk] at hun; exact hun

theorem take_quiet [Env P] {ops : Array Oper} {base : Nat} {K : Fr → Store → Prop} {i : Nat} {oi : Oper} {rd : Bool} {v : AVal} (hi : ops[i]? = some oi) : ∀ (n : Nat) (listed : Array Bool) (pd : PD) (N : NN) (fr : Fr) (A : Store),
    (∀ j oj, ops[j]? = some oj → j ≠ i → listed.getD j true = false → (∀ e ∈ oj.after, Region.binds .any e = true → e.on ≠ i) → oi.apart ops oj = true) →
    Down ops listed → (∀ q, listed.getD q true = false → pd q = none) → i ∈ Region.ready .any ops listed → stepQ P ops base i oi rd v fr A N →
    vcAny P ops base K n (listed.setIfInBounds i true) (pdQ P i oi rd v fr pd) N (putF fr oi.dst v) A → vcAny P ops base K (n + 1) listed pd N fr A := by
  intro n
  induction n with
  | zero =>
    intro listed pd N fr A hfree hd hpd hr hs H
    refine ⟨fun h => (by rw [h] at hr; cases hr), fun j hj o ho => ?_⟩
    by_cases hji : j = i
    · subst hji
      rw [hi] at ho; cases ho
      unfold oneD
      rcases hs with ⟨rfl, h1, rfl⟩ | ⟨rfl, h1, h2, h3⟩ | ⟨rfl, h1, h2, h3⟩
      · simp only [h1]; exact H
      · simp only [h1, h2]; exact resK_eq h3 H
      · simp only [h1, h2]; exact resK_eq h3 H
    · have := ready_mono hj hji
      rw [H.1] at this; cases this
  | succ n ih =>
    intro listed pd N fr A hfree hd hpd hr hs H
    refine ⟨fun h => (by rw [h] at hr; cases hr), fun j hj o ho => ?_⟩
    by_cases hji : j = i
    · subst hji
      rw [hi] at ho; cases ho
      unfold oneD
      rcases hs with ⟨rfl, h1, rfl⟩ | ⟨rfl, h1, h2, h3⟩ | ⟨rfl, h1, h2, h3⟩
      · simp only [h1]; exact H
      · simp only [h1, h2]; exact resK_eq h3 H
      · simp only [h1, h2]; exact resK_eq h3 H
    · have hap := ready_pair hj hr ho hji hfree
      obtain ⟨a1, a2, a3⟩ := Oper.apart_spec hap
      have hbji : bef ops j i = false := ready_bef hd hj hr
      have hbij : bef ops i j = false := ready_bef hd hr hj
      have h1 := H.2 j (ready_mono hj hji) o ho
      have hnext : ∀ (pd' : PD) (N' : NN) (u : AVal) (A' : Store), (∀ q, q ≠ j → listed.getD q true = false → pd' q = none) → stepQ P ops base i oi rd v (putF fr o.dst u) A' N' →
          vcAny P ops base K n ((listed.setIfInBounds i true).setIfInBounds j true) (pdQ P i oi rd v fr pd') N' (putF (putF fr oi.dst v) o.dst u) A' → vcAny P ops base K (n + 1) (listed.setIfInBounds j true) pd' N' (putF fr o.dst u) A' := by
        intro pd' N' u A' hp' hs' hv
        refine ih (listed.setIfInBounds j true) pd' N' _ A' (free_next (mem_ready.1 hj).1 hfree) (hd.add hj) (fun q hq => ?_) (ready_mono hr (Ne.symm hji)) hs' ?_
        · have hqj : q ≠ j := by
            rintro rfl
            have hlt : q < listed.size := by
              rcases Nat.lt_or_ge q listed.size with h' | h'
              · exact h'
              · have := (mem_ready.1 hj).1; simp [Array.getElem?_eq_none h'] at this
            simp [hlt] at hq
          rw [getD_set_ne true (Ne.symm hqj)] at hq
          exact hp' q hqj hq
        rw [Array.setIfInBounds_comm _ _ hji, ← putF_comm v u a2]
        have : pdQ P i oi rd v (putF fr o.dst u) pd' = pdQ P i oi rd v fr pd' := by
          unfold pdQ
          cases rd with
          | false => rfl
          | true =>
            simp only [if_true]
            have : (fun B => pureOp P (ev P (putF fr o.dst u)) B oi.op) = fun B => pureOp P (ev P fr) B oi.op := funext fun B => pureOp_same (same_putF a3) B
            rw [this]
        rw [this]; exact hv
      have hsame : ∀ u, wantA ops (putF fr o.dst u) oi.guard = wantA ops fr oi.guard := fun u => wantA_putF a3
      have hpure : ∀ u B, pureOp P (ev P (putF fr o.dst u)) B oi.op = pureOp P (ev P fr) B oi.op := fun u B => pureOp_same (same_putF a3) B
      have hsq : ∀ u, stepQ P ops base i oi rd v (putF fr o.dst u) A N := by
        intro u
        unfold stepQ
        rw [hsame, hpure, hpure]; exact hs
      unfold oneD at h1 ⊢
      rw [wantA_putF a1] at h1
      split
      · rename_i hw; rw [hw] at h1; exact h1
      · rename_i hw
        simp only [hw] at h1
        exact hnext _ _ _ _ (fun q _ h => hpd q h) (hsq _) h1
      · rename_i hw
        simp only [hw] at h1
        have hsj : Same P o fr (putF fr oi.dst v) := same_putF a1
        split
        · rename_i hk
          simp only [hk] at h1
          rw [pureOp_same hsj] at h1
          exact resK_mono h1 (fun _ h => h) fun u hu => hnext _ _ _ _ (fun q _ h => hpd q h) (hsq _) hu
        · rename_i hk
          simp only [hk] at h1
          rw [pureOp_same hsj] at h1
          refine resK_mono h1 (fun _ h => h) fun u hu => hnext _ _ _ _ (fun q hq h => by simp only [upd, if_neg hq]; exact hpd q h) (hsq _) ?_
          have e1 : (fun B => pureOp P (ev P (putF fr oi.dst v)) B o.op) = fun B => pureOp P (ev P fr) B o.op := funext fun B => pureOp_same hsj B
          rw [e1] at hu
          have e2 : upd (pdQ P i oi rd v fr pd) j (fun B => pureOp P (ev P fr) B o.op, u) = pdQ P i oi rd v fr (upd pd j (fun B => pureOp P (ev P fr) B o.op, u)) := by
            unfold pdQ
            cases rd with
            | false => rfl
            | true => simp only [if_true]; exact upd_comm (Ne.symm hji)
          rw [e2] at hu; exact hu
        · rename_i hk
          simp only [hk] at h1
          rw [newCells_same hsj] at h1
          refine optK_mono h1 (fun _ h => h) fun cs _ hu => hnext _ _ _ _ (fun q _ h => hpd q h) ?_ hu
          unfold stepQ
          rw [hsame, hpure, hpure, addN_upd hbij]; exact hs
        · rename_i hk
          simp only [hk] at h1
          have h1' : OpSem P fr (addN A base N (bef ops j)) o (base + j) _ := OpSem.same h1 (fun x hx => (hsj x hx).symm)
          refine OpSem.mono h1' fun u A' hu => ?_
          obtain ⟨hst, hu⟩ := hu
          refine ⟨fun q c v' hq hb => hst q c v' ?_ hb, hnext _ _ _ _ (fun q _ h => hpd q h) ?_ hu⟩
          · unfold pdQ
            cases rd with
            | false => exact hq
            | true =>
              simp only [if_true, upd]
              by_cases hqi : q = i
              · subst hqi; rw [hpd q (mem_ready.1 hr).1] at hq; cases hq
              · rw [if_neg hqi]; exact hq
          · unfold stepQ
            rw [hsame, hpure, hpure]
            rcases hs with ⟨r1, r2, r3⟩ | ⟨r1, r2, r3, r4⟩ | ⟨r1, r2, r3, r4⟩
            · exact .inl ⟨r1, r2, r3⟩
            · exact .inr (.inl ⟨r1, r2, r3, by rw [pureOp_q r3 A' A]; exact r4⟩)
            · refine .inr (.inr ⟨r1, r2, r3, ?_⟩)
              exact hst i (fun B => pureOp P (ev P fr) B oi.op) v (by simp [pdQ, upd, r1]) hbji

theorem take_new [Env P] {ops : Array Oper} {base : Nat} {K : Fr → Store → Prop} {i : Nat} {oi : Oper} {cs : List AVal} (hi : ops[i]? = some oi) (hki : kindOf P oi.op = .new) : ∀ (n : Nat) (listed : Array Bool) (pd : PD) (N : NN) (fr : Fr) (A : Store),
    (∀ j oj, ops[j]? = some oj → j ≠ i → listed.getD j true = false → (∀ e ∈ oj.after, Region.binds .any e = true → e.on ≠ i) → oi.apart ops oj = true) →
    Down ops listed → (∀ q, listed.getD q false = false → pd q = none) → i ∈ Region.ready .any ops listed → wantA ops fr oi.guard = some true → newCells P fr oi.op = some cs →
    vcAny P ops base K n (listed.setIfInBounds i true) pd (upd N i cs) (putF fr oi.dst (.ptr (base + i) 0)) A → vcAny P ops base K (n + 1) listed pd N fr A := by
  intro n
  induction n with
  | zero =>
    intro listed pd N fr A hfree hd hpd hr hw hc H
    refine ⟨fun h => (by rw [h] at hr; cases hr), fun j hj o ho => ?_⟩
    by_cases hji : j = i
    · subst hji
      rw [hi] at ho; cases ho
      unfold oneD
      simp only [hw, hki, hc, optK]; exact H
    · have := ready_mono hj hji
      rw [H.1] at this; cases this
  | succ n ih =>
    intro listed pd N fr A hfree hd hpd hr hw hc H
    refine ⟨fun h => (by rw [h] at hr; cases hr), fun j hj o ho => ?_⟩
    by_cases hji : j = i
    · subst hji
      rw [hi] at ho; cases ho
      unfold oneD
      simp only [hw, hki, hc, optK]; exact H
    · have hap := ready_pair hj hr ho hji hfree
      obtain ⟨a1, a2, a3⟩ := Oper.apart_spec hap
      have hbji : bef ops j i = false := ready_bef hd hj hr
      have hjl : listed.getD j false = false := getD_any (mem_ready.1 hj).1
      have h1 := H.2 j (ready_mono hj hji) o ho
      have hnext : ∀ (pd' : PD) (N' : NN) (u : AVal) (A' : Store), (∀ q, q ≠ j → listed.getD q false = false → pd' q = none) →
          vcAny P ops base K n ((listed.setIfInBounds i true).setIfInBounds j true) pd' (upd N' i cs) (putF (putF fr oi.dst (.ptr (base + i) 0)) o.dst u) A' → vcAny P ops base K (n + 1) (listed.setIfInBounds j true) pd' N' (putF fr o.dst u) A' := by
        intro pd' N' u A' hp' hv
        refine ih (listed.setIfInBounds j true) pd' N' _ A' (free_next (mem_ready.1 hj).1 hfree) (hd.add hj) (fun q hq => ?_) (ready_mono hr (Ne.symm hji)) ((wantA_putF a3).trans hw) ((newCells_same (same_putF a3)).trans hc) ?_
        · have hqj : q ≠ j := by
            rintro rfl
            have hlt : q < listed.size := by
              rcases Nat.lt_or_ge q listed.size with h' | h'
              · exact h'
              · have := (mem_ready.1 hj).1; simp [Array.getElem?_eq_none h'] at this
            simp [hlt] at hq
          rw [getD_set_ne false (Ne.symm hqj)] at hq
          exact hp' q hqj hq
        rw [Array.setIfInBounds_comm _ _ hji, ← putF_comm _ u a2]
        exact hv
      unfold oneD at h1 ⊢
      rw [wantA_putF a1] at h1
      split
      · rename_i hw; rw [hw] at h1; exact h1
      · rename_i hw
        simp only [hw] at h1
        exact hnext _ _ _ _ (fun q _ h => hpd q h) h1
      · rename_i hw
        simp only [hw] at h1
        have hsj : Same P o fr (putF fr oi.dst (.ptr (base + i) 0)) := same_putF a1
        split
        · rename_i hk
          simp only [hk] at h1
          rw [pureOp_same hsj] at h1
          exact resK_mono h1 (fun _ h => h) fun u hu => hnext _ _ _ _ (fun q _ h => hpd q h) hu
        · rename_i hk
          simp only [hk] at h1
          rw [pureOp_same hsj, addN_upd hbji] at h1
          refine resK_mono h1 (fun _ h => h) fun u hu => hnext _ _ _ _ (fun q hq h => by simp only [upd, if_neg hq]; exact hpd q h) ?_
          have e1 : (fun B => pureOp P (ev P (putF fr oi.dst (.ptr (base + i) 0))) B o.op) = fun B => pureOp P (ev P fr) B o.op := funext fun B => pureOp_same hsj B
          rw [e1] at hu; exact hu
        · rename_i hk
          simp only [hk] at h1
          rw [newCells_same hsj] at h1
          refine optK_mono h1 (fun _ h => h) fun cs' _ hu => hnext _ _ _ _ (fun q _ h => hpd q h) ?_
          rw [upd_comm hji]; exact hu
        · rename_i hk
          simp only [hk] at h1
          rw [addN_upd hbji, restN_upd hbji] at h1
          have h1' : OpSem P fr (addN A base N (bef ops j)) o (base + j) _ := OpSem.same h1 (fun x hx => (hsj x hx).symm)
          refine OpSem.mono h1' fun u A' hu => ?_
          obtain ⟨hst, hu⟩ := hu
          refine ⟨fun q c v' hq hb => ?_, hnext _ _ _ _ (fun q _ h => hpd q h) hu⟩
          have := hst q c v' hq hb
          rw [addN_upd] at this
          · exact this
          · cases hqi : bef ops q i with
            | false => rfl
            | true =>
              have hql : listed.getD q false = true := by
                cases h : listed.getD q false with
                | true => rfl
                | false => rw [hpd q h] at hq; cases hq
              have := bef_listed hd (q + 1) q i (by omega) hqi fun o' ho' e he hb' => hd q o' ho' hql e he hb'
              rw [getD_any (mem_ready.1 hr).1] at this; cases this

end Go.Cov

namespace Go.Cov
open Go.RowKit
variable {P : Program} {g : Ghost} {A F : Store} {w : World}

def allN : Nat → Bool := fun _ => true
/-- The pending new objects, as a store. -/
def nStore (base : Nat) (N : NN) : Store :=
  { objs := fun id => if base ≤ id then (match N (id - base) with | some cs => some (.cells cs) | none => none) else none, live := fun _ => false, next := 0, ntok := 0 }

structure NOK (A : Store) (base size : Nat) (N : NN) : Prop where
  no : ∀ k cs, N k = some cs → A.objs (base + k) = none
  lt : ∀ k cs, N k = some cs → k < size

theorem addN_sub {base size : Nat} {N : NN} (h : NOK A base size N) (s : Nat → Bool) : Sub (addN A base N s) (addN A base N allN) := by
  intro id o ho
  simp only [addN, allN] at ho ⊢
  by_cases hb : base ≤ id
  · cases hN : N (id - base) with
    | some cs =>
      have hn := h.no _ _ hN
      rw [show base + (id - base) = id by omega] at hn
      simp only [hb, hN, true_and, and_true, if_true, hn] at ho ⊢
      split at ho
      · exact ho
      · cases ho
    | none => simp only [hb, hN, true_and, and_true, if_true, ite_self] at ho ⊢; exact ho
  · simp only [hb, false_and, if_false] at ho ⊢; exact ho
theorem addN_none {base : Nat} : addN A base (fun _ => none) allN = A := by
  cases A; simp [addN]
theorem sub_addN {base size : Nat} {N : NN} (h : NOK A base size N) : Sub A (addN A base N allN) := by
  intro id o ho
  refine addN_sub h (fun _ => false) id o ?_
  simpa [addN] using ho

theorem addN_plus {base size : Nat} {N : NN} {s : Nat → Bool} (h : NOK A base size N) (F : Store) : (addN A base N s).plus ((nStore base fun k => if s k then none else N k).plus F) = (addN A base N allN).plus F := by
  simp only [Store.plus, Store.mk.injEq]
  refine ⟨funext fun id => ?_, by funext t; simp [addN, nStore], rfl, rfl⟩
  simp only [addN, allN, nStore]
  by_cases hb : base ≤ id
  · cases hN : N (id - base) with
    | some cs =>
      have hn := h.no _ _ hN
      rw [show base + (id - base) = id by omega] at hn
      cases hs : s (id - base) <;> simp [hb, hN, hn, hs]
    | none => cases hs : s (id - base) <;> simp [hb, hN, hs]
  · simp [hb]

theorem dis_split {base size : Nat} {N : NN} {s : Nat → Bool} (h : NOK A base size N) (hD : Dis (addN A base N allN) F) (hle : base + size ≤ A.next) :
    Dis (addN A base N s) ((nStore base fun k => if s k then none else N k).plus F) where
  objs := fun id hid => by
    cases ho : (addN A base N s).objs id with
    | none => rfl
    | some o =>
      exfalso
      have h1 := addN_sub h s id o ho
      have hF : F.objs id = none := hD.none h1
      simp only [Store.plus, nStore, hF] at hid
      by_cases hb : base ≤ id
      · simp only [hb, if_true] at hid
        cases hs : s (id - base) with
        | true => simp [hs] at hid
        | false =>
          cases hN : N (id - base) with
          | none => simp [hs, hN] at hid
          | some cs =>
            have hn := h.no _ _ hN
            rw [show base + (id - base) = id by omega] at hn
            simp [addN, hs, hn] at ho
      · simp [hb] at hid
  next := fun id hid => by
    have hid : A.next ≤ id := hid
    simp only [Store.plus, nStore]
    by_cases hb : base ≤ id
    · simp only [hb, if_true]
      cases hs : s (id - base) with
      | true => simp; exact hD.next id hid
      | false =>
        cases hN : N (id - base) with
        | none => simp; exact hD.next id hid
        | some cs => have := h.lt _ _ hN; omega
    · simp only [hb, if_false]; exact hD.next id hid
  live := fun t ht => by
    simp [Store.plus, nStore] at ht
    exact hD.live t ht

/-- Behind an effect. -/
theorem dis_join {base size : Nat} {N : NN} {A' : Store} (hlt : ∀ k cs, N k = some cs → k < size) (hND : ∀ id, F.objs id ≠ none → (nStore base N).objs id = none) (hD : Dis A' ((nStore base N).plus F)) :
    NOK A' base size N ∧ Dis (addN A' base N allN) F ∧ A'.plus ((nStore base N).plus F) = (addN A' base N allN).plus F := by
  have hno : NOK A' base size N := ⟨fun k cs hk => hD.objs (base + k) (by simp [Store.plus, nStore, hk]), hlt⟩
  refine ⟨hno, ⟨fun id hid => ?_, fun id hid => ?_, fun t ht => hD.live t (by simp [Store.plus, nStore, ht])⟩, ?_⟩
  · have h1 := hND id hid
    have h2 := hD.objs id (by simp only [Store.plus, h1]; exact hid)
    simp only [addN, allN, and_true]
    split
    · rename_i hb
      simp only [nStore, hb, if_true] at h1
      cases hN : N (id - base) with
      | none => exact h2
      | some cs => rw [hN] at h1; cases h1
    · exact h2
  · have := hD.next id hid
    simp only [Store.plus] at this
    split at this
    · cases this
    · exact this
  · have := addN_plus (s := fun _ => false) hno F
    simp only [Bool.false_eq_true, if_false] at this
    rw [← this]
    congr 1
    cases A'; simp [addN]

theorem wantA_wanted {ops : Array Oper} {o : Oper} {fr : Fr} {a : Act} {b : Bool} (hf : RelFr g fr a) (h : wantA ops fr o.guard = some b) : Region.wanted o (yielded ops a.tmps) = b := by
  unfold wantA at h
  split at h
  · rename_i hg; cases h; simp [Region.wanted, hg]
  · rename_i j want hg
    split at h
    · rename_i d hd
      split at h
      · rename_i t ht
        cases h
        have := yielded_bool (all := ops.toList) hf (j := j) (d := d) (by simpa using hd) ht
        simp only [Array.toArray_toList] at this
        simp only [Region.wanted, hg, this]
        cases t <;> cases want <;> rfl
      · rename_i ht
        cases h
        have := yielded_none (all := ops.toList) hf (j := j) (d := d) (by simpa using hd) ht
        simp only [Array.toArray_toList] at this
        simp [Region.wanted, hg, this]
      · cases h
    · cases h

theorem not_defer {o : Op} (h : kindOf P o ≠ .eff) : ∀ c, o ≠ .defer c := by
  rintro c rfl; exact h rfl

theorem vcAny_sound [Env P] {ops : Array Oper} {base : Nat} {K : Fr → Store → Prop} {ro : Option Nat} : ∀ (n : Nat) (listed : Array Bool) (pd : PD) (N : NN) (fr : Fr) (A : Store) (g : Ghost) (a : Act) (w : World) (Q : Exit → Act → World → Prop),
    vcAny P ops base K n listed pd N fr A → NOK A base ops.size N → Dis (addN A base N allN) F → (∀ id, base ≤ id → F.objs id = none) → base + ops.size ≤ A.next →
    (∀ k, k < ops.size → listed.getD k true = false → g.mu (base + k) = none) → GlobOK P g → RelFr g fr a → Rel g ((addN A base N allN).plus F) w →
    (∀ fr' A' g' a' w', K fr' A' → Dis A' F → g.Ext base g' → RelFr g' fr' a' → Rel g' (A'.plus F) w' → a'.defers = a.defers → A.next ≤ A'.next → Q .normal a' w') →
    wpAnyIn (FR ro) 0 P .any ops Q n listed a w := by
  intro n
  induction n with
  | zero =>
    intro listed pd N fr A g a w Q h hN hD hF hle hmu hg hf hR hQ
    exact ⟨h.1, hQ _ _ g a w h.2 hD (.refl _ _) hf hR rfl (Nat.le_refl _)⟩
  | succ n ih =>
    intro listed pd N fr A g a w Q h hN hD hF hle hmu hg hf hR hQ
    refine ⟨fun hr => hQ _ _ g a w (h.1 hr) hD (.refl _ _) hf hR rfl (Nat.le_refl _), fun j hj => ?_⟩
    obtain ⟨hjun, o, ho, hall⟩ := mem_ready.1 hj
    have hjlt : j < ops.size := (Array.getElem?_eq_some_iff.1 ho).1
    have hmuj := hmu j hjlt hjun
    have h1 := h.2 j hj o ho
    have hmu' : ∀ (g' : Ghost), (∀ k, k < ops.size → k ≠ j → g'.mu (base + k) = g.mu (base + k)) → ∀ k, k < ops.size → (listed.setIfInBounds j true).getD k true = false → g'.mu (base + k) = none := by
      intro g' hg' k hk hkl
      by_cases hjk : j = k
      · subst hjk
        have hlt : j < listed.size := by
          rcases Nat.lt_or_ge j listed.size with h' | h'
          · exact h'
          · simp [Array.getElem?_eq_none h'] at hjun
        simp [hlt] at hkl
      · rw [getD_set_ne true hjk] at hkl
        rw [hg' k hk (Ne.symm hjk)]; exact hmu k hk hkl
    have hnoj : (addN A base N allN).objs (base + j) = none ∧ F.objs (base + j) = none := by
      have : ((addN A base N allN).plus F).objs (base + j) = none := by
        cases hx : ((addN A base N allN).plus F).objs (base + j) with
        | none => rfl
        | some x => obtain ⟨b, hb, _⟩ := hR.objs _ _ hx; rw [hmuj] at hb; cases hb
      refine ⟨?_, hF _ (by omega)⟩
      cases hx : (addN A base N allN).objs (base + j) with
      | none => rfl
      | some x => rw [Store.plus_some hx] at this; cases this
    have hNj : N j = none := by
      cases hx : N j with
      | none => rfl
      | some cs => have := hnoj.1; simp [addN, allN, hx] at this
    -- how it goes on
    have cont : ∀ (pd' : PD) (N' : NN) (v : AVal) (A' : Store) (g' : Ghost) (cv : Value) (w' : World), vcAny P ops base K n (listed.setIfInBounds j true) pd' N' (putF fr o.dst v) A' → NOK A' base ops.size N' → Dis (addN A' base N' allN) F →
        A.next ≤ A'.next → OExt g A.next (base + j) g' → RelV g' v cv → Rel g' ((addN A' base N' allN).plus F) w' → wpAnyIn (FR ro) 0 P .any ops Q n (listed.setIfInBounds j true) (a.put o.dst cv) w' := by
      intro pd' N' v A' g' cv w' hv hN' hD' hn hx hrv hR'
      have hxe : g.Ext base g' := hx.ext (by omega) (by omega)
      refine ih _ pd' N' _ A' g' _ w' Q hv hN' hD' hF (by omega) (hmu' g' fun k hk hkj => hx.old _ (by omega) (by omega)) (hg.mono hxe) ((hf.mono hxe).put o.dst hrv) hR' ?_
      intro fr' A'' g'' a'' w'' hK hD'' hx' hf' hR'' hdf hle''
      exact hQ fr' A'' g'' a'' w'' hK hD'' (hxe.trans hx' (Nat.le_refl _)) hf' hR'' (by rw [hdf, put_defers]) (by omega)
    unfold wpOpIn
    simp only [ho]
    unfold oneD at h1
    split at h1
    · exact h1.elim
    · rename_i hw
      rw [if_neg (by rw [wantA_wanted hf hw]; simp)]
      exact ⟨about_any, cont _ _ _ A g undef w h1 hN hD (Nat.le_refl _) ((PExt.refl g).oext _ _) undef_rel hR⟩
    · rename_i hw
      rw [if_pos (wantA_wanted hf hw)]
      split at h1
      · rename_i hk
        obtain ⟨p, v, hp, hpp, hv⟩ := resK_inv h1
        have hp' := pureOp_plus (F := F) (pureOp_sub (sub_addN hN) hp)
        refine pure_opSem (K := fun v' B => v' = v ∧ B = (addN A base N allN).plus F) hp' hpp ⟨rfl, rfl⟩ (not_defer (P := P) (by rw [hk]; decide)) ro g w a hg hf hR hmuj (by show base + j < A.next; omega) _ Q ?_
        rintro v' _ g' cv w' ⟨rfl, rfl⟩ hx hrv hR' _
        exact cont _ _ _ A g' cv w' hv hN hD (Nat.le_refl _) hx hrv hR'
      · rename_i hk
        obtain ⟨p, v, hp, hpp, hv⟩ := resK_inv h1
        have hp' := pureOp_plus (F := F) (pureOp_sub (addN_sub hN _) hp)
        refine pure_opSem (K := fun v' B => v' = v ∧ B = (addN A base N allN).plus F) hp' hpp ⟨rfl, rfl⟩ (not_defer (P := P) (by rw [hk]; decide)) ro g w a hg hf hR hmuj (by show base + j < A.next; omega) _ Q ?_
        rintro v' _ g' cv w' ⟨rfl, rfl⟩ hx hrv hR' _
        exact cont _ _ _ A g' cv w' hv hN hD (Nat.le_refl _) hx hrv hR'
      · rename_i hk
        obtain ⟨cs, hcs, hv⟩ := optK_inv h1
        have hop : opVCg P (callVC0 P) (OpSem0 P) fr ((addN A base N allN).plus F) o (base + j) fun v' B => v' = .ptr (base + j) 0 ∧ B = ((addN A base N allN).plus F).put (base + j) (.cells cs) := by
          obtain ⟨dst, op, type, pos, after, guard⟩ := o
          simp only at hcs
          cases op <;> simp only [newCells] at hcs <;> first | cases hcs | skip
          · simp [opVCg, hcs, optK]
          · simp [opVCg, hcs, optK]
        refine opVC0_sound hop ro g w a hg hf hR hmuj (by show base + j < A.next; omega) _ Q ?_
        rintro v' _ g' cv w' ⟨rfl, rfl⟩ hx hrv hR' _
        have hN' : NOK A base ops.size (upd N j cs) := by
          refine ⟨fun k c hk => ?_, fun k c hk => ?_⟩
          · unfold upd at hk
            by_cases hkj : k = j
            · subst hkj
              cases ho : A.objs (base + k) with
              | none => rfl
              | some x => have := sub_addN hN _ _ ho; rw [hnoj.1] at this; cases this
            · rw [if_neg hkj] at hk; exact hN.no k c hk
          · unfold upd at hk
            by_cases hkj : k = j
            · omega
            · rw [if_neg hkj] at hk; exact hN.lt k c hk
        have he : addN A base (upd N j cs) allN = (addN A base N allN).put (base + j) (.cells cs) := by
          simp only [addN, allN, Store.put, Store.mk.injEq, and_true]
          funext id
          by_cases hid : id = base + j
          · subst hid; simp [upd]
          · by_cases hb : base ≤ id
            · have : id - base ≠ j := by omega
              simp [upd, hid, this]
            · simp [hb, hid]
        refine cont _ _ _ A g' cv w' hv hN' (by rw [he]; exact hD.put _ hnoj.2) (Nat.le_refl _) hx hrv ?_
        rw [he, Store.plus_put]; exact hR'
      · rename_i hk
        have hDs := dis_split (s := bef ops j) hN hD hle
        have hFj : ((nStore base fun k => if bef ops j k then none else N k).plus F).objs (base + j) = none := by
          simp only [Store.plus, nStore, Nat.le_add_right, if_true, Nat.add_sub_cancel_left, hNj, ite_self]; exact hnoj.2
        have hR2 := hR
        rw [← addN_plus (s := bef ops j) hN F] at hR2
        refine h1 _ hDs hFj fr (.refl _ _) ro g w a hg hf hR2 hmuj (by show base + j < A.next; omega) _ Q ?_
        rintro v _ g' cv w' ⟨A', ⟨hst, hv⟩, rfl, hD'⟩ hx hrv hR' hle'
        have hrest : (fun k => if bef ops j k then none else N k) = restN ops j N := rfl
        rw [hrest] at hD' hR' hle'
        obtain ⟨k1, k2, k3⟩ := dis_join (F := F) (size := ops.size) (fun k cs hk => by
            unfold restN at hk; split at hk
            · cases hk
            · exact hN.lt k cs hk) (fun id hid => by
            have h1 := hD.objs id hid
            simp only [nStore]
            split
            · rename_i hb
              simp only [addN, allN, hb, and_true, if_true] at h1
              cases hn : N (id - base) with
              | none => simp [restN, hn]
              | some cs => rw [hn] at h1; cases h1
            · rfl) hD'
        rw [k3] at hR'
        exact cont _ _ _ A' g' cv w' hv k1 k2 (by simpa [Store.plus, addN] using hle') hx hrv hR'

end Go.Cov
