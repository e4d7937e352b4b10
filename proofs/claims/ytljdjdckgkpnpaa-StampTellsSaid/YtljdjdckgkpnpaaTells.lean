/- The law of stamps that names the document: its walk, and what it asks. -/
import Derived.Test.YtljdjdckgkpnpaaSxN
import Derived.Test.YtljdjdckgkpnpaaSxP
import Derived.Test.YtljdjdckgkpnpaaProg
import Derived.Test.YtljdjdckgkpnpaaC
import Derived.Test.YtljdjdckgkpnpaaS
import Derived.Test.YtljdjdckgkpnpaaU
import Derived.KernelRfl
namespace Go.Proofs.Ytljdjdckgkpnpaa.V
open Go Go.Sx Go.RowKit Go.Proofs.Ytljdjdckgkpnpaa.C Go.Proofs.Ytljdjdckgkpnpaa.S Go.Proofs.Ytljdjdckgkpnpaa.U
set_option linter.unusedVariables false
set_option maxRecDepth 100000
def lawsSpec : List (FuncId × CSpec) := [(8, awakeSpec), (13, ofSpec), (14, unixSpec), (16, shortSpec), (12, measureSpec), (9, scaledSpec), (17, rUnixSpec), (18, rOfSpec), (21, rMeasureSpec), (22, rShortSpec), (24, rScaledSpec)]
theorem laws_ok : SpecsOk Try.prog lawsSpec := ⟨awake_ok, of_ok, unix_ok, short_ok, measure_ok, scaled_ok, rUnix_ok, rOf_ok, rMeasure_ok, rShort_ok, rScaled_ok, trivial⟩
def VCStampTells (s : Int) (n : Int) (t : Int) (u : Int) (v : Int) (w : Int) (d : Int) (ppm : Int) : Prop :=
  (((0 : Int) ≤ t ∧ t ≤ (18446744073709551615 : Int)) ∧ (-9223372036854775808 : Int) ≤ s ∧ s ≤ (9223372036854775807 : Int)) ∧ ∀ (v1 : Int), v1 = unixF t s → ∀ (v2 : Int), v2 = lowF t → (((0 : Int) ≤ t ∧ t ≤ (18446744073709551615 : Int)) ∧ (-9223372036854775808 : Int) ≤ s ∧ s ≤ (9223372036854775807 : Int)) ∧ ∀ (v3 : Int), v3 = unixF t s → ∀ (v4 : Int), v4 = lowF t → (((-9223372036854775808 : Int) ≤ s ∧ s ≤ (9223372036854775807 : Int)) ∧ (-9223372036854775808 : Int) ≤ n ∧ n ≤ (9223372036854775807 : Int)) ∧ ∀ (v5 : Int), v5 = ofF s n → (((-9223372036854775808 : Int) ≤ s ∧ s ≤ (9223372036854775807 : Int)) ∧ (-9223372036854775808 : Int) ≤ n ∧ n ≤ (9223372036854775807 : Int)) ∧ ∀ (v6 : Int), v6 = ofF s n → ∀ (v7 : Bool), v7 = (v5 == v6) → (v7 = true → ∀ (v8 : Bool), v8 = (v1 == v3) → (v8 = true → ∀ (v9 : Bool), v9 = (v2 == v4) → (v9 = true → ∀ (v10 : Int), v10 = IntKind.u64.wrap (t - u) → ∀ (v11 : Int), v11 = IntKind.i64.wrap v10 → ∀ (v12 : Int), v12 = IntKind.u64.wrap (t - u) → ∀ (v13 : Int), v13 = IntKind.i64.wrap v12 → ∀ (v14 : Bool), v14 = (v11 == v13) → (v14 = true → ∀ (v15 : Int), v15 = IntKind.u64.wrap d → ∀ (v16 : Int), v16 = IntKind.u64.wrap (t + v15) → ∀ (v17 : Int), v17 = IntKind.u64.wrap d → ∀ (v18 : Int), v18 = IntKind.u64.wrap (t + v17) → ∀ (v19 : Bool), v19 = (v16 == v18) → (v19 = true → (((0 : Int) ≤ t ∧ t ≤ (18446744073709551615 : Int)) ∧ ((0 : Int) ≤ u ∧ u ≤ (18446744073709551615 : Int)) ∧ ((0 : Int) ≤ v ∧ v ≤ (18446744073709551615 : Int)) ∧ (0 : Int) ≤ w ∧ w ≤ (18446744073709551615 : Int)) ∧ ∀ (v20 : Int), v20 = measF t u v w → ∀ (v21 : Int), v21 = delayF t u v w → (((0 : Int) ≤ t ∧ t ≤ (18446744073709551615 : Int)) ∧ ((0 : Int) ≤ u ∧ u ≤ (18446744073709551615 : Int)) ∧ ((0 : Int) ≤ v ∧ v ≤ (18446744073709551615 : Int)) ∧ (0 : Int) ≤ w ∧ w ≤ (18446744073709551615 : Int)) ∧ ∀ (v22 : Int), v22 = measF t u v w → ∀ (v23 : Int), v23 = delayF t u v w → ∀ (v24 : Bool), v24 = (v20 == v22 && (v21 == v23 && true)) → (v24 = true → ((-9223372036854775808 : Int) ≤ d ∧ d ≤ (9223372036854775807 : Int)) ∧ ∀ (v25 : Int), v25 = shortF d → ((-9223372036854775808 : Int) ≤ d ∧ d ≤ (9223372036854775807 : Int)) ∧ ∀ (v26 : Int), v26 = shortF d → ∀ (v27 : Bool), v27 = (v25 == v26) → (v27 = true → ∀ (v28 : Int), v28 = IntKind.u32.wrap t → ∀ (v29 : Int), v29 = IntKind.i64.wrap v28 → ∀ (v30 : Int), v30 = shlI IntKind.i64 v29 (16 : Int) → ∀ (v31 : Int), v31 = IntKind.u32.wrap t → ∀ (v32 : Int), v32 = IntKind.i64.wrap v31 → ∀ (v33 : Int), v33 = shlI IntKind.i64 v32 (16 : Int) → ∀ (v34 : Bool), v34 = (v30 == v33) → (v34 = true → (((-9223372036854775808 : Int) ≤ d ∧ d ≤ (9223372036854775807 : Int)) ∧ (-9223372036854775808 : Int) ≤ ppm ∧ ppm ≤ (9223372036854775807 : Int)) ∧ ∀ (v35 : Int), v35 = scaledF d ppm → (((-9223372036854775808 : Int) ≤ d ∧ d ≤ (9223372036854775807 : Int)) ∧ (-9223372036854775808 : Int) ≤ ppm ∧ ppm ≤ (9223372036854775807 : Int)) ∧ ∀ (v36 : Int), v36 = scaledF d ppm → ∀ (v37 : Bool), v37 = (v35 == v36) → (v37 = true → True ∧ true = true) ∧ (v37 = false → false = true)) ∧ (v34 = false → false = true)) ∧ (v27 = false → false = true)) ∧ (v24 = false → false = true)) ∧ (v19 = false → false = true)) ∧ (v14 = false → false = true)) ∧ (v9 = false → false = true)) ∧ (v8 = false → false = true)) ∧ (v7 = false → false = true)
theorem tieStampTells (w0 : World) (s : Int) (n : Int) (t : Int) (u : Int) (v : Int) (w : Int) (d : Int) (ppm : Int) : VCStampTells s n t u v w d ppm = ((recN (GC Try.prog lawsSpec w0) 20).call 7 [.int .i64 (.sym s), .int .i64 (.sym n), .int .u64 (.sym t), .int .u64 (.sym u), .int .u64 (.sym v), .int .u64 (.sym w), .int .i64 (.sym d), .int .i64 (.sym ppm)] [] (fun v _ => isTrue v)) := by kernel_rfl
theorem pureStampTells (s n t u v w d ppm : Int) (h : I64 s ∧ I64 n ∧ U64 t ∧ U64 u ∧ U64 v ∧ U64 w ∧ I64 d ∧ I64 ppm) : VCStampTells s n t u v w d ppm := by
  obtain ⟨hs, hn, ht, hu, hv, hw, hd, hp⟩ := h
  refine ⟨⟨ht, hs⟩, fun v1 h1 v2 h2 => ⟨⟨ht, hs⟩, fun v3 h3 v4 h4 => ⟨⟨hs, hn⟩, fun v5 h5 => ⟨⟨hs, hn⟩, fun v6 h6 => ?_⟩⟩⟩⟩
  refine brE (fun _ => brE (fun _ => brE (fun _ v10 h10 v11 h11 v12 h12 v13 h13 => brE (fun _ v15 h15 v16 h16 v17 h17 v18 h18 => brE (fun _ => ?_) fun e => ?_) fun e => ?_) fun e => ?_) fun e => ?_) fun e => ?_
  · refine ⟨⟨ht, hu, hv, hw⟩, fun v20 h20 v21 h21 => ⟨⟨ht, hu, hv, hw⟩, fun v22 h22 v23 h23 v24 h24 => ?_⟩⟩
    have e24 : v24 = true := by rw [h24, h20, h21, h22, h23]; simp
    refine ⟨fun _ => ⟨hd, fun v25 h25 => ⟨hd, fun v26 h26 => brE (fun _ v28 h28 v29 h29 v30 h30 v31 h31 v32 h32 v33 h33 => brE (fun _ => ⟨⟨hd, hp⟩, fun v35 h35 => ⟨⟨hd, hp⟩, fun v36 h36 => brE (fun _ => ⟨trivial, rfl⟩) fun e => ?_⟩⟩) fun e => ?_) fun e => ?_⟩⟩, fun e => ?_⟩
    · exact absurd (by rw [h35, h36]) e
    · exact absurd (by rw [h30, h29, h28, h33, h32, h31]) e
    · exact absurd (by rw [h25, h26]) e
    · rw [e24] at e; cases e
  · exact absurd (by rw [h16, h15, h18, h17]) e
  · exact absurd (by rw [h11, h10, h13, h12]) e
  · exact absurd (by rw [h2, h4]) e
  · exact absurd (by rw [h1, h3]) e
  · exact absurd (by rw [h5, h6]) e
theorem walkStampTells (s : Int) (n : Int) (t : Int) (u : Int) (v : Int) (w : Int) (d : Int) (ppm : Int) (w0 : World) (hs : (Lit.int .i64 s).wf = true) (hn : (Lit.int .i64 n).wf = true) (ht : (Lit.int .u64 t).wf = true) (hu : (Lit.int .u64 u).wf = true) (hv : (Lit.int .u64 v).wf = true) (hw : (Lit.int .u64 w).wf = true) (hd : (Lit.int .i64 d).wf = true) (hppm : (Lit.int .i64 ppm).wf = true) : Calls Try.prog 7 #[.int .i64 s, .int .i64 n, .int .u64 t, .int .u64 u, .int .u64 v, .int .u64 w, .int .i64 d, .int .i64 ppm] w0 fun e w' => e = .returned (.bool true) ∧ Below w0.heap.size w0 w' :=
  law_tie (G := GC Try.prog lawsSpec w0) (gok w0 namesOk_ mixed_ laws_ok) (n := 20) (f := 7) (args := [.int .i64 (.sym s), .int .i64 (.sym n), .int .u64 (.sym t), .int .u64 (.sym u), .int .u64 (.sym v), .int .u64 (.sym w), .int .i64 (.sym d), .int .i64 (.sym ppm)]) (by kernel_rfl) (VCStampTells s n t u v w d ppm) (tieStampTells w0 s n t u v w d ppm) (pureStampTells s n t u v w d ppm ⟨wf_i64 hs, wf_i64 hn, wf_u64 ht, wf_u64 hu, wf_u64 hv, wf_u64 hw, wf_i64 hd, wf_i64 hppm⟩)

end Go.Proofs.Ytljdjdckgkpnpaa.V
