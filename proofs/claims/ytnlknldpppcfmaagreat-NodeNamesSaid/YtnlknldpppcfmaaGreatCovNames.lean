/-
  Proved here: the closed law NodeNames comes to true. Conditions: none.
-/
import Derived.Test.YtnlknldpppcfmaaGreatCovAwake

namespace Go.Cov
open Go.Proofs Go.RowKit

noncomputable abbrev ov2 : Ov Tryz.prog :=
  { ov := fun f a => bE (Nat.beq f 305) (bE (isNil a) (some (.agg tabV)) none) (bE (Nat.beq f 24) (bE (isNil a) (some (.bool true)) none) none)
    ok := fun f a v h A => by
      rw [bE_eq, bE_eq, bE_eq, bE_eq] at h
      split at h
      · rename_i hf
        have hf : f = 305 := Nat.eq_of_beq_eq_true hf
        split at h
        · rename_i ha
          rw [isNil_ok ha, hf]; cases h; exact tab_any A
        · cases h
      · split at h
        · rename_i hf
          have hf : f = 24 := Nat.eq_of_beq_eq_true hf
          split at h
          · rename_i ha
            rw [isNil_ok ha, hf]; cases h; exact awake_any A
          · cases h
        · cases h }
set_option maxRecDepth 1000000 in
theorem names_run : endsB (@call0 Tryz.prog envT ov2 100000 3 [] cs0) (fun q => isTrueV q.1) = true := by kernel_rfl
theorem names_walk (w : World) : Calls Tryz.prog 3 #[] w fun e w' => e = .returned (.bool true) ∧ Below w.heap.size w w' :=
  @law_true Tryz.prog envT ov2 noGlobT 100000 3 names_run w

end Go.Cov
