/-
  Proved here: the examples of the law come to true. Conditions: none.
-/
import Derived.Test.YtnlknldpppcfmaaGreatCovTab

namespace Go.Cov
open Go.Proofs Go.RowKit

noncomputable def isNil (l : List AVal) : Bool := List.rec (motive := fun _ => Bool) true (fun _ _ _ => false) l
theorem isNil_ok {l : List AVal} (h : isNil l = true) : l = [] := by cases l with
  | nil => rfl
  | cons => cases h
noncomputable abbrev ov1 : Ov Tryz.prog :=
  { ov := fun f a => bE (Nat.beq f 305) (bE (isNil a) (some (.agg tabV)) none) none
    ok := fun f a v h A => by
      rw [bE_eq, bE_eq] at h
      split at h
      · rename_i hf
        have hf : f = 305 := Nat.eq_of_beq_eq_true hf
        split at h
        · rename_i ha
          rw [isNil_ok ha, hf]; cases h; exact tab_any A
        · cases h
      · cases h }
set_option maxRecDepth 1000000 in
theorem awake_run : endsB (@call0 Tryz.prog envT ov1 100000 24 [] cs0) (fun q => isTrueV q.1) = true := by kernel_rfl
theorem awake_any (A : Store) : callVC Tryz.prog 24 [] A fun v' A' => v' = .bool true ∧ A' = A := by
  obtain ⟨cs', hr⟩ := @run_true Tryz.prog envT ov1 100000 24 awake_run
  exact call_closed noGlobT (@call0_sound Tryz.prog envT ov1 100000 24 [] cs0 (.bool true) cs' small0 hr) (by kernel_rfl) A

end Go.Cov
