import Derived.Test.YtbocopfieadgoaaSxR
import Derived.Test.YtbocopfieadgoaaProg
import Derived.Test.YtbocopfieadgoaaG
import Derived.KernelRfl
namespace Go.Proofs.Ytbocopfieadgoaa.H
open Go Go.Sx Go.RowKit Go.Proofs.Ytbocopfieadgoaa.C Go.Proofs.Ytbocopfieadgoaa.F
set_option linter.unusedVariables false
set_option maxRecDepth 100000
def awakesSpec : List (FuncId × CSpec) := [(24, scaledSpec)]
theorem awakes_ok : SpecsOk Try.prog awakesSpec := ⟨scaled_ok, trivial⟩
def awakeSpec : CSpec
  | [], k => (True) ∧ (k (.bool (.lit true)))
  | _, _ => False
def VCAwake : Prop :=
  (I64 (0 : Int) /\ I64 (15 : Int)) /\ ∀ (v1 : Int), v1 = (0 : Int) -> ∀ v2, v2 = IntKind.i64.wrap ((0 : Int) + v1) -> ∀ (v3 : Int), (v3 = if (140737488355328 : Int) < v2 then (140737488355328 : Int) else v2) -> ∀ v4, v4 = IntKind.i64.wrap (v3 + (2147483648 : Int)) -> ∀ (v5 : Int), (v5 = if (140737488355328 : Int) < v4 then (140737488355328 : Int) else v4) -> (I64 (0 : Int) /\ I64 (15 : Int)) /\ ∀ (v6 : Int), v6 = (0 : Int) -> ∀ v7, v7 = IntKind.i64.wrap ((0 : Int) + v6) -> ∀ (v8 : Int), (v8 = if (140737488355328 : Int) < v7 then (140737488355328 : Int) else v7) -> ∀ v9, v9 = IntKind.i64.wrap (v8 + (4294967296 : Int)) -> ∀ (v10 : Int), (v10 = if (140737488355328 : Int) < v9 then (140737488355328 : Int) else v9) -> ∀ v11, v11 = decide (v10 < v5) -> (v11 = true -> (I64 (0 : Int) /\ I64 (15 : Int)) /\ ∀ (v12 : Int), v12 = (0 : Int) -> ∀ v13, v13 = IntKind.i64.wrap ((0 : Int) + v12) -> ∀ (v14 : Int), (v14 = if (140737488355328 : Int) < v13 then (140737488355328 : Int) else v13) -> ∀ v15, v15 = IntKind.i64.wrap (v14 + (4294967296 : Int)) -> ∀ (v16 : Int), (v16 = if (140737488355328 : Int) < v15 then (140737488355328 : Int) else v15) -> (I64 (0 : Int) /\ I64 (15 : Int)) /\ ∀ (v17 : Int), v17 = (0 : Int) -> ∀ v18, v18 = IntKind.i64.wrap ((0 : Int) + v17) -> ∀ (v19 : Int), (v19 = if (140737488355328 : Int) < v18 then (140737488355328 : Int) else v18) -> ∀ v20, v20 = IntKind.i64.wrap (v19 + (2147483648 : Int)) -> ∀ (v21 : Int), (v21 = if (140737488355328 : Int) < v20 then (140737488355328 : Int) else v20) -> (I64 (0 : Int) /\ I64 (15 : Int)) /\ ∀ (v22 : Int), v22 = (0 : Int) -> ∀ v23, v23 = IntKind.i64.wrap ((0 : Int) + v22) -> ∀ (v24 : Int), (v24 = if (140737488355328 : Int) < v23 then (140737488355328 : Int) else v23) -> ∀ v25, v25 = IntKind.i64.wrap (v24 + (4294967296 : Int)) -> ∀ (v26 : Int), (v26 = if (140737488355328 : Int) < v25 then (140737488355328 : Int) else v25) -> ∀ v27, v27 = decide (v26 < v21) -> (v27 = true -> false = true) /\ (v27 = false -> ∀ v28, v28 = (v16 == (2147483648 : Int)) -> (v28 = true -> true = true) /\ (v28 = false -> false = true))) /\ (v11 = false -> (I64 (0 : Int) /\ I64 (15 : Int)) /\ ∀ (v29 : Int), v29 = (0 : Int) -> ∀ v30, v30 = IntKind.i64.wrap ((0 : Int) + v29) -> ∀ (v31 : Int), (v31 = if (140737488355328 : Int) < v30 then (140737488355328 : Int) else v30) -> ∀ v32, v32 = IntKind.i64.wrap (v31 + (2147483648 : Int)) -> ∀ (v33 : Int), (v33 = if (140737488355328 : Int) < v32 then (140737488355328 : Int) else v32) -> (I64 (0 : Int) /\ I64 (15 : Int)) /\ ∀ (v34 : Int), v34 = (0 : Int) -> ∀ v35, v35 = IntKind.i64.wrap ((0 : Int) + v34) -> ∀ (v36 : Int), (v36 = if (140737488355328 : Int) < v35 then (140737488355328 : Int) else v35) -> ∀ v37, v37 = IntKind.i64.wrap (v36 + (2147483648 : Int)) -> ∀ (v38 : Int), (v38 = if (140737488355328 : Int) < v37 then (140737488355328 : Int) else v37) -> (I64 (0 : Int) /\ I64 (15 : Int)) /\ ∀ (v39 : Int), v39 = (0 : Int) -> ∀ v40, v40 = IntKind.i64.wrap ((0 : Int) + v39) -> ∀ (v41 : Int), (v41 = if (140737488355328 : Int) < v40 then (140737488355328 : Int) else v40) -> ∀ v42, v42 = IntKind.i64.wrap (v41 + (4294967296 : Int)) -> ∀ (v43 : Int), (v43 = if (140737488355328 : Int) < v42 then (140737488355328 : Int) else v42) -> ∀ v44, v44 = decide (v43 < v38) -> (v44 = true -> false = true) /\ (v44 = false -> ∀ v45, v45 = (v33 == (2147483648 : Int)) -> (v45 = true -> true = true) /\ (v45 = false -> false = true)))
theorem tieAwake (w0 : World)  : VCAwake  = ((recN (GC Try.prog awakesSpec w0) 60).call 9 [] [] (fun r__ _ => eqV r__ (.bool (.lit true)))) := by kernel_rfl
theorem pureAwake (h : True) : VCAwake := by
  unfold VCAwake
  simp [w_i64, scaledF, I64]
theorem awake_ok : SpecOk Try.prog 9 awakeSpec := by
  intro args k h
  unfold awakeSpec at h
  split at h
  · obtain ⟨hr, h⟩ := h
    exact ⟨_, h , PureOk.of_tie (GC Try.prog awakesSpec) (fun w__ => gok w__ namesOk_ mixed_ awakes_ok) (fun _ => rfl) (fun _ => rfl) (args' := []) trivial 60 (fun w__ => VCAwake ) (fun w__ => tieAwake w__ ) (fun w__ => pureAwake  hr)⟩
  · exact h.elim

end Go.Proofs.Ytbocopfieadgoaa.H
