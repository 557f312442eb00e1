/-
  Proved here: which structs the program compares, and which are keys of maps. Conditions: none.
-/
import Derived.Test.YtnlknldpppcfmaaGreatCovSn
import Derived.Test.YtnlknldpppcfmaaGreatProg
import Derived.KernelRfl

namespace Go.Cov
open Go.Proofs Go.RowKit

theorem run_prog {P : Program} {w : World} : (program).run P w = .ok P w := by simp [program, Sem.run]
theorem vck_int {x : Value} {k : IntKind} (h : vck x = some (.int k)) : ∃ n, x = .int k n := by
  cases x <;> simp [vck] at h
  exact ⟨_, by rw [h]⟩
theorem map_cons {x : List Value} {k : CK} {ks : List CK} (h : x.map vck = (k :: ks).map some) : ∃ v r, x = v :: r ∧ vck v = some k ∧ r.map vck = ks.map some := by
  cases x with
  | nil => simp at h
  | cons v r => simp only [List.map_cons, List.cons.injEq] at h; exact ⟨v, r, rfl, h.1, h.2⟩
theorem map_nil {x : List Value} (h : x.map vck = ([] : List CK).map some) : x = [] := by simpa using h
theorem int_cons {x : List Value} {k : IntKind} {ks : List CK} (h : x.map vck = (CK.int k :: ks).map some) : ∃ n r, x = .int k n :: r ∧ r.map vck = ks.map some := by
  obtain ⟨v, r, rfl, h1, h2⟩ := map_cons h
  obtain ⟨n, rfl⟩ := vck_int h1
  exact ⟨n, r, rfl, h2⟩

theorem stood33 : Tryz.prog.stoodInHeld 33 = false := by kernel_rfl
theorem stood88 : Tryz.prog.stoodInHeld 88 = false := by kernel_rfl
theorem stood127 : Tryz.prog.stoodInHeld 127 = false := by kernel_rfl
theorem stood209 : Tryz.prog.stoodInHeld 209 = false := by kernel_rfl
theorem size33 : tsz Tryz.prog 33 = some 2 := by kernel_rfl
theorem eq33 (d : Nat) (w : World) (a b a' b' : Int) : (Op.equalIn (d + 2) 33 (.agg #[.int .i64 a, .int .i64 b]) (.agg #[.int .i64 a', .int .i64 b'])).run Tryz.prog w = .ok (a == a' && b == b') w := by
  unfold Op.equalIn
  simp only [Sem.run_bind, run_underlying' Tryz.underlying33, Result.andThen_ok]
  simp [stood33, run_prog, part, isAgg, run_underlying' Tryz.underlying3, Op.equalIn]
  by_cases h1 : a = a' <;> by_cases h2 : b = b' <;> simp [h1, h2]
theorem cmp33 : CmpOK Tryz.prog 33 [.int .i64, .int .i64] := by
  refine ⟨by kernel_rfl, fun w xs ys hx hy => ?_⟩
  obtain ⟨a, rhx1, ehx1, hx1⟩ := int_cons hx
  obtain ⟨b, rhx2, ehx2, hx2⟩ := int_cons hx1
  have zhx := map_nil hx2
  subst zhx ehx2 ehx1
  obtain ⟨a', rhy1, ehy1, hy1⟩ := int_cons hy
  obtain ⟨b', rhy2, ehy2, hy2⟩ := int_cons hy1
  have zhy := map_nil hy2
  subst zhy ehy2 ehy1
  rw [eq33 9998]; simp [veqs, veq]
theorem eq88 (d : Nat) (w : World) (a b c e a' b' c' e' : Int) : (Op.equalIn (d + 3) 88 (.agg #[.int .i64 a, .int .i64 b, .int .u8 c, .int .i64 e]) (.agg #[.int .i64 a', .int .i64 b', .int .u8 c', .int .i64 e'])).run Tryz.prog w = .ok (a == a' && b == b' && c == c' && e == e') w := by
  have h33 := fun w => eq33 d w a b a' b'
  unfold Op.equalIn
  simp only [Sem.run_bind, run_underlying' Tryz.underlying88, Result.andThen_ok]
  simp [stood88, run_prog, part, isAgg, run_underlying' Tryz.underlying3, run_underlying' Tryz.underlying5, run_underlying' Tryz.underlying33, run_sizeOf' size33, h33]
  simp [Op.equalIn, run_underlying' Tryz.underlying3, run_underlying' Tryz.underlying5]
  by_cases h0 : a = a' <;> by_cases h1 : b = b' <;> by_cases h2 : c = c' <;> by_cases h3 : e = e' <;> simp [h0, h1, h2, h3]
theorem cmp88 : CmpOK Tryz.prog 88 [.int .i64, .int .i64, .int .u8, .int .i64] := by
  refine ⟨by kernel_rfl, fun w xs ys hx hy => ?_⟩
  obtain ⟨a, rhx1, ehx1, hx1⟩ := int_cons hx
  obtain ⟨b, rhx2, ehx2, hx2⟩ := int_cons hx1
  obtain ⟨c, rhx3, ehx3, hx3⟩ := int_cons hx2
  obtain ⟨e, rhx4, ehx4, hx4⟩ := int_cons hx3
  have zhx := map_nil hx4
  subst zhx ehx4 ehx3 ehx2 ehx1
  obtain ⟨a', rhy1, ehy1, hy1⟩ := int_cons hy
  obtain ⟨b', rhy2, ehy2, hy2⟩ := int_cons hy1
  obtain ⟨c', rhy3, ehy3, hy3⟩ := int_cons hy2
  obtain ⟨e', rhy4, ehy4, hy4⟩ := int_cons hy3
  have zhy := map_nil hy4
  subst zhy ehy4 ehy3 ehy2 ehy1
  have e := eq88 9997 w a b c e a' b' c' e'
  rw [show (9997 + 3 : Nat) = 10000 from rfl] at e
  rw [e]; simp [veqs, veq, Bool.and_assoc]
theorem eq127 (d : Nat) (w : World) (a b c a' b' c' : Int) : (Op.equalIn (d + 3) 127 (.agg #[.int .i64 a, .int .i64 b, .int .i64 c]) (.agg #[.int .i64 a', .int .i64 b', .int .i64 c'])).run Tryz.prog w = .ok (a == a' && b == b' && c == c') w := by
  have h33 := fun w => eq33 d w a b a' b'
  unfold Op.equalIn
  simp only [Sem.run_bind, run_underlying' Tryz.underlying127, Result.andThen_ok]
  simp [stood127, run_prog, part, isAgg, run_underlying' Tryz.underlying3, run_underlying' Tryz.underlying33, run_sizeOf' size33, h33]
  simp [Op.equalIn, run_underlying' Tryz.underlying3]
  by_cases h0 : a = a' <;> by_cases h1 : b = b' <;> by_cases h2 : c = c' <;> simp [h0, h1, h2]
theorem cmp127 : CmpOK Tryz.prog 127 [.int .i64, .int .i64, .int .i64] := by
  refine ⟨by kernel_rfl, fun w xs ys hx hy => ?_⟩
  obtain ⟨a, rhx1, ehx1, hx1⟩ := int_cons hx
  obtain ⟨b, rhx2, ehx2, hx2⟩ := int_cons hx1
  obtain ⟨c, rhx3, ehx3, hx3⟩ := int_cons hx2
  have zhx := map_nil hx3
  subst zhx ehx3 ehx2 ehx1
  obtain ⟨a', rhy1, ehy1, hy1⟩ := int_cons hy
  obtain ⟨b', rhy2, ehy2, hy2⟩ := int_cons hy1
  obtain ⟨c', rhy3, ehy3, hy3⟩ := int_cons hy2
  have zhy := map_nil hy3
  subst zhy ehy3 ehy2 ehy1
  have e := eq127 9997 w a b c a' b' c'
  rw [show (9997 + 3 : Nat) = 10000 from rfl] at e
  rw [e]; simp [veqs, veq, Bool.and_assoc]
theorem eq209 (d : Nat) (w : World) (a b a' b' : Int) : (Op.equalIn (d + 3) 209 (.agg #[.int .i64 a, .int .i64 b]) (.agg #[.int .i64 a', .int .i64 b'])).run Tryz.prog w = .ok (a == a' && b == b') w := by
  unfold Op.equalIn
  simp only [Sem.run_bind, run_underlying' Tryz.underlying209, Result.andThen_ok]
  simp [stood209, run_prog, part, isAgg, run_underlying' Tryz.underlying3, Op.equalIn]
  by_cases h0 : a = a' <;> by_cases h1 : b = b' <;> simp [h0, h1]
theorem cmp209 : CmpOK Tryz.prog 209 [.int .i64, .int .i64] := by
  refine ⟨by kernel_rfl, fun w xs ys hx hy => ?_⟩
  obtain ⟨a, rhx1, ehx1, hx1⟩ := int_cons hx
  obtain ⟨b, rhx2, ehx2, hx2⟩ := int_cons hx1
  have zhx := map_nil hx2
  subst zhx ehx2 ehx1
  obtain ⟨a', rhy1, ehy1, hy1⟩ := int_cons hy
  obtain ⟨b', rhy2, ehy2, hy2⟩ := int_cons hy1
  have zhy := map_nil hy2
  subst zhy ehy2 ehy1
  have e := eq209 9997 w a b a' b'
  rw [show (9997 + 3 : Nat) = 10000 from rfl] at e
  rw [e]; simp [veqs, veq, Bool.and_assoc]
theorem mixedT : Tryz.prog.follows .mixedOrders = true := by kernel_rfl
def kindsT (t : TypeId) : Option (List CK) := match t with | 33 => some [.int .i64, .int .i64] | 88 => some [.int .i64, .int .i64, .int .u8, .int .i64] | 127 => some [.int .i64, .int .i64, .int .i64] | 209 => some [.int .i64, .int .i64] | _ => none
theorem key33' (n : Nat) (w : World) (em : Bool) (a b : Int) : (Instr.checkKey em (n + 2) 33 (.agg #[.int .i64 a, .int .i64 b])).run Tryz.prog w = .ok () w := by
  unfold Instr.checkKey
  simp only [Sem.run_bind, run_underlying' Tryz.underlying33, Result.andThen_ok]
  simp [part, isAgg, run_underlying' Tryz.underlying3, Instr.checkKey]
theorem key33 (w : World) (em : Bool) (xs : List Value) (h : xs.map vck = [CK.int .i64, CK.int .i64].map some) : (Instr.checkKey em 10000 33 (.agg xs.toArray)).run Tryz.prog w = .ok () w := by
  obtain ⟨a, rh1, eh1, h1⟩ := int_cons h
  obtain ⟨b, rh2, eh2, h2⟩ := int_cons h1
  have zh := map_nil h2
  subst zh eh2 eh1
  exact key33' 9998 w em a b
noncomputable instance envT : Env Tryz.prog where
  kinds := kindsT
  ok := fun t ks h => by
    unfold kindsT at h
    split at h <;> cases h
    · exact cmp33
    · exact cmp88
    · exact cmp127
    · exact cmp209
  gl := fun _ => .junk
  mixed := mixedT
  keyS := fun t => Nat.beq t 33
  keyOK := fun t h => by
    have h : t = 33 := Nat.eq_of_beq_eq_true h
    subst h
    refine ⟨by rw [Tryz.underlying33], fun ks hk w em xs hx => ?_⟩
    cases hk
    exact key33 w em xs hx
theorem noGlobT : NoGlob Tryz.prog := fun _ => rfl

end Go.Cov
