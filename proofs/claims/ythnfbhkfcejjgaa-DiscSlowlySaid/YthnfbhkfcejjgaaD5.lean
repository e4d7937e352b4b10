import Derived.Test.YthnfbhkfcejjgaaSxR
import Derived.Test.YthnfbhkfcejjgaaProg
import Derived.Test.YthnfbhkfcejjgaaD4
import Derived.KernelRfl
namespace Go.Proofs.Ythnfbhkfcejjgaa.D
open Go Go.Sx Go.RowKit Go.Proofs.Ythnfbhkfcejjgaa.C Go.Proofs.Ythnfbhkfcejjgaa.U
open Go.Proofs.Ythnfbhkfcejjgaa.C (scaledF clamp)
set_option linter.unusedVariables false
set_option maxRecDepth 100000
def upSpec : List (FuncId × CSpec) := [(12, newSpec), (11, updateSpec), (9, tickSpec), (10, leftSpec)]
theorem up_ok : SpecsOk Try.prog upSpec := ⟨new_ok, update_ok, tick_ok, left_ok, trivial⟩
--@PLAIN
def awakeSpec : CSpec
  | [], k => (True) ∧ (k (.bool (.lit true)))
  | _, _ => False
def VCAwake : Prop :=
  True /\ ∀ (v1 : Int), v1 = (0 : Int) -> ∀ (v2 : Int), v2 = (-1 : Int) -> ∀ (v3 : Int), v3 = (0 : Int) -> ∀ (v4 : Int), v4 = (6 : Int) -> ∀ (v5 : Int), v5 = (0 : Int) -> (I64 v1 /\ I64 v2 /\ I64 v3 /\ I64 v4 /\ I64 v5 /\ I64 (4294967296 : Int) /\ I64 (0 : Int) /\ fitF v1 v2 v3 v4 v5 = true) /\ ∀ v6, v6 = updF v1 v2 (4294967296 : Int) (0 : Int) -> ∀ v7, v7 = sinF v1 v2 (4294967296 : Int) (0 : Int) -> ∀ v8, v8 = sleF v1 v2 v3 (4294967296 : Int) (0 : Int) -> ∀ v9, v9 = polF v1 v2 v4 v5 (4294967296 : Int) (0 : Int) -> ∀ v10, v10 = couF v1 v2 v5 (4294967296 : Int) (0 : Int) -> ∀ v11, v11 = actF v1 v2 (4294967296 : Int) (0 : Int) -> ∀ v12, v12 = byF v1 v2 (4294967296 : Int) (0 : Int) -> ∀ v13, v13 = errF v1 v2 (4294967296 : Int) (0 : Int) -> (I64 v6 /\ I64 v7 /\ I64 v8 /\ I64 v9 /\ I64 v10 /\ I64 (4294967296 : Int) /\ I64 (10 : Int) /\ fitF v6 v7 v8 v9 v10 = true) /\ ∀ v14, v14 = updF v6 v7 (4294967296 : Int) (10 : Int) -> ∀ v15, v15 = sinF v6 v7 (4294967296 : Int) (10 : Int) -> ∀ v16, v16 = sleF v6 v7 v8 (4294967296 : Int) (10 : Int) -> ∀ v17, v17 = polF v6 v7 v9 v10 (4294967296 : Int) (10 : Int) -> ∀ v18, v18 = couF v6 v7 v10 (4294967296 : Int) (10 : Int) -> ∀ v19, v19 = actF v6 v7 (4294967296 : Int) (10 : Int) -> ∀ v20, v20 = byF v6 v7 (4294967296 : Int) (10 : Int) -> ∀ v21, v21 = errF v6 v7 (4294967296 : Int) (10 : Int) -> (I64 v14 /\ I64 v15 /\ I64 v16 /\ I64 v17 /\ I64 v18 /\ I64 (4294967296 : Int) /\ I64 (909 : Int) /\ fitF v14 v15 v16 v17 v18 = true) /\ ∀ v22, v22 = updF v14 v15 (4294967296 : Int) (909 : Int) -> ∀ v23, v23 = sinF v14 v15 (4294967296 : Int) (909 : Int) -> ∀ v24, v24 = sleF v14 v15 v16 (4294967296 : Int) (909 : Int) -> ∀ v25, v25 = polF v14 v15 v17 v18 (4294967296 : Int) (909 : Int) -> ∀ v26, v26 = couF v14 v15 v18 (4294967296 : Int) (909 : Int) -> ∀ v27, v27 = actF v14 v15 (4294967296 : Int) (909 : Int) -> ∀ v28, v28 = byF v14 v15 (4294967296 : Int) (909 : Int) -> ∀ v29, v29 = errF v14 v15 (4294967296 : Int) (909 : Int) -> (I64 v22 /\ I64 v23 /\ I64 v24 /\ I64 v25 /\ I64 v26 /\ I64 (4294967296 : Int) /\ I64 (910 : Int) /\ fitF v22 v23 v24 v25 v26 = true) /\ ∀ v30, v30 = updF v22 v23 (4294967296 : Int) (910 : Int) -> ∀ v31, v31 = sinF v22 v23 (4294967296 : Int) (910 : Int) -> ∀ v32, v32 = sleF v22 v23 v24 (4294967296 : Int) (910 : Int) -> ∀ v33, v33 = polF v22 v23 v25 v26 (4294967296 : Int) (910 : Int) -> ∀ v34, v34 = couF v22 v23 v26 (4294967296 : Int) (910 : Int) -> ∀ v35, v35 = actF v22 v23 (4294967296 : Int) (910 : Int) -> ∀ v36, v36 = byF v22 v23 (4294967296 : Int) (910 : Int) -> ∀ v37, v37 = errF v22 v23 (4294967296 : Int) (910 : Int) -> (I64 v30 /\ I64 v31 /\ I64 v32 /\ I64 v33 /\ I64 v34 /\ I64 (1000 : Int) /\ I64 (920 : Int) /\ fitF v30 v31 v32 v33 v34 = true) /\ ∀ v38, v38 = updF v30 v31 (1000 : Int) (920 : Int) -> ∀ v39, v39 = sinF v30 v31 (1000 : Int) (920 : Int) -> ∀ v40, v40 = sleF v30 v31 v32 (1000 : Int) (920 : Int) -> ∀ v41, v41 = polF v30 v31 v33 v34 (1000 : Int) (920 : Int) -> ∀ v42, v42 = couF v30 v31 v34 (1000 : Int) (920 : Int) -> ∀ v43, v43 = actF v30 v31 (1000 : Int) (920 : Int) -> ∀ v44, v44 = byF v30 v31 (1000 : Int) (920 : Int) -> ∀ v45, v45 = errF v30 v31 (1000 : Int) (920 : Int) -> (I64 v38 /\ I64 v39 /\ I64 v40 /\ I64 v41 /\ I64 v42 /\ I64 (1 : Int) /\ fitF v38 v39 v40 v41 v42 = true) /\ ∀ v46, v46 = v38 -> ∀ v47, v47 = v39 -> ∀ v48, v48 = v40 - goodT v40 (1 : Int) -> ∀ v49, v49 = v41 -> ∀ v50, v50 = v42 -> ∀ v51, v51 = goodT v40 (1 : Int) -> ∀ v52, v52 = (v11 == (2 : Int)) -> (v52 = true -> ∀ v53, v53 = (v12 == (4294967296 : Int)) -> (v53 = true -> ∀ v54, v54 = (v19 == (0 : Int)) -> (v54 = true -> ∀ v55, v55 = (v27 == (0 : Int)) -> (v55 = true -> ∀ v56, v56 = (v35 == (2 : Int)) -> (v56 = true -> ∀ v57, v57 = (v43 == (1 : Int)) -> (v57 = true -> ∀ v58, v58 = (v45 == (0 : Int)) -> (v58 = true -> ∀ v59, v59 = (v51 == (1000 : Int)) -> (v59 = true -> ∀ v60, v60 = (v48 == (0 : Int)) -> (v60 = true -> (I64 v38 /\ I64 v39 /\ I64 v40 /\ I64 v41 /\ I64 v42 /\ fitF v38 v39 v40 v41 v42 = true) /\ ∀ v61, v61 = leftF v40 -> ∀ v62, v62 = (v61 == (1 : Int)) -> v62 = true) /\ (v60 = false -> false = true)) /\ (v59 = false -> false = true)) /\ (v58 = false -> false = true)) /\ (v57 = false -> false = true)) /\ (v56 = false -> false = true)) /\ (v55 = false -> false = true)) /\ (v54 = false -> false = true)) /\ (v53 = false -> false = true)) /\ (v52 = false -> false = true)
theorem tieAwake (w0 : World)  : VCAwake  = ((recN (GC Try.prog upSpec w0) 30).call 8 [] [] (fun r__ _ => eqV r__ (.bool (.lit true)))) := by kernel_rfl
theorem pureAwake (h : True) : VCAwake := by
  unfold VCAwake
  simp [I64, updF, sinF, sleF, polF, couF, actF, byF, errF, caseF, c1F, fitF, goodT, tickN, scaledF, clamp, leftF, w_i64]
  decide
theorem awake_ok : SpecOk Try.prog 8 awakeSpec := by
  intro args k h
  unfold awakeSpec at h
  split at h
  · obtain ⟨hr, h⟩ := h
    exact ⟨_, h , PureOk.of_tie (GC Try.prog upSpec) (fun w__ => gok w__ namesOk_ mixed_ up_ok) (fun _ => rfl) (fun _ => rfl) (args' := []) trivial 30 (fun w__ => VCAwake ) (fun w__ => tieAwake w__ ) (fun w__ => pureAwake  hr)⟩
  · exact h.elim

end Go.Proofs.Ythnfbhkfcejjgaa.D
