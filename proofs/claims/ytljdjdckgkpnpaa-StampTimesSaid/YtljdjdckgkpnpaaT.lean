/- The laws of stamps that need no document: their walks, and what these ask of numbers. -/
import Derived.Test.YtljdjdckgkpnpaaSxN
import Derived.Test.YtljdjdckgkpnpaaSxP
import Derived.Test.YtljdjdckgkpnpaaProg
import Derived.Test.YtljdjdckgkpnpaaC
import Derived.Test.YtljdjdckgkpnpaaS
import Derived.KernelRfl
namespace Go.Proofs.Ytljdjdckgkpnpaa.T
open Go Go.Sx Go.RowKit Go.Proofs.Ytljdjdckgkpnpaa.C Go.Proofs.Ytljdjdckgkpnpaa.S
set_option linter.unusedVariables false
set_option maxRecDepth 100000
def lawsSpec : List (FuncId × CSpec) := [(8, awakeSpec), (13, ofSpec), (14, unixSpec), (16, shortSpec), (12, measureSpec), (9, scaledSpec)]
theorem laws_ok : SpecsOk Try.prog lawsSpec := ⟨awake_ok, of_ok, unix_ok, short_ok, measure_ok, scaled_ok, trivial⟩
def VCStampScales (d : Int) (p : Int) : Prop :=
  ∀ (v1 : Bool), v1 = decide (d < (0 : Int)) → (v1 = false → ∀ (v2 : Bool), v2 = decide (d > (4398046511104 : Int)) → (v2 = true → True ∧ true = true) ∧ (v2 = false → ∀ (v3 : Int), v3 = p.tmod (1000001 : Int) → ∀ (v4 : Int), v4 = IntKind.i64.wrap v3 → (((-9223372036854775808 : Int) ≤ d ∧ d ≤ (9223372036854775807 : Int)) ∧ (-9223372036854775808 : Int) ≤ v4 ∧ v4 ≤ (9223372036854775807 : Int)) ∧ ∀ (v5 : Int), v5 = scaledF d v4 → ∀ (v6 : Int), v6 = IntKind.i64.wrap (v5 * (1000000 : Int)) → ∀ (v7 : Int), v7 = IntKind.i64.wrap (d * v4) → ∀ (v8 : Bool), v8 = decide (v6 ≥ v7) → (v8 = true → ∀ (v9 : Bool), v9 = (v5 == (0 : Int)) → (v9 = false → ∀ (v10 : Int), v10 = IntKind.i64.wrap (v5 - (1 : Int)) → ∀ (v11 : Int), v11 = IntKind.i64.wrap (v10 * (1000000 : Int)) → ∀ (v12 : Int), v12 = IntKind.i64.wrap (d * v4) → ∀ (v13 : Bool), v13 = decide (v11 < v12) → (v13 = true → ∀ (v14 : Bool), v14 = decide (v5 ≤ d) → (v14 = true → (((-9223372036854775808 : Int) ≤ d ∧ d ≤ (9223372036854775807 : Int)) ∧ (-9223372036854775808 : Int) ≤ (1000000 : Int) ∧ (1000000 : Int) ≤ (9223372036854775807 : Int)) ∧ ∀ (v15 : Int), v15 = scaledF d (1000000 : Int) → ∀ (v16 : Bool), v16 = (v15 == d) → (v16 = true → True ∧ true = true) ∧ (v16 = false → false = true)) ∧ (v14 = false → false = true)) ∧ (v13 = false → false = true)) ∧ (v9 = true → ∀ (v17 : Bool), v17 = decide (v5 ≤ d) → (v17 = true → (((-9223372036854775808 : Int) ≤ d ∧ d ≤ (9223372036854775807 : Int)) ∧ (-9223372036854775808 : Int) ≤ (1000000 : Int) ∧ (1000000 : Int) ≤ (9223372036854775807 : Int)) ∧ ∀ (v18 : Int), v18 = scaledF d (1000000 : Int) → ∀ (v19 : Bool), v19 = (v18 == d) → (v19 = true → True ∧ true = true) ∧ (v19 = false → false = true)) ∧ (v17 = false → false = true))) ∧ (v8 = false → false = true))) ∧ (v1 = true → True ∧ true = true)
theorem tieStampScales (w0 : World) (d : Int) (p : Int) : VCStampScales d p = ((recN (GC Try.prog lawsSpec w0) 20).call 3 [.int .i64 (.sym d), .int .u32 (.sym p)] [] (fun v _ => isTrue v)) := by kernel_rfl
theorem pureStampScales (d p : Int) (h : I64 d ∧ U32 p) : VCStampScales d p := by
  obtain ⟨hd, hp⟩ := h
  unfold I64 at hd
  unfold U32 at hp
  refine rb (fun e1 => br (fun e2 => ⟨trivial, rfl⟩) fun e2 v3 h3 v4 h4 => ?_) (fun e => ⟨trivial, rfl⟩)
  rw [tmod_nonneg (by omega)] at h3
  rw [i64_id (by omega) (by omega)] at h4
  have b4 : 0 ≤ v4 ∧ v4 ≤ 1000000 := by omega
  refine ⟨⟨hd, by omega⟩, fun v5 h5 v6 h6 v7 h7 => ?_⟩
  have m0 : 0 ≤ d * v4 := Int.mul_nonneg (by omega) b4.1
  have m1 : d * v4 ≤ d * 1000000 := Int.mul_le_mul_of_nonneg_left b4.2 (by omega)
  have e5 : v5 = (d * v4 + 999999) / 1000000 := by
    rw [h5]
    unfold scaledF clamp
    rw [if_neg (by omega), if_neg (by omega), if_neg (by omega)]
  have b5 : 0 ≤ v5 ∧ v5 ≤ d := by omega
  rw [i64_id (by omega) (by omega)] at h6
  rw [i64_id (by omega) (by omega)] at h7
  have last : scaledF d 1000000 = d := by
    unfold scaledF clamp
    rw [if_neg (by omega), if_neg (by omega), if_neg (by omega)]
    omega
  refine br (fun e8 => rbE (fun e9 v10 h10 v11 h11 v12 h12 => ?_) fun e9 => br (fun e17 => ⟨⟨hd, by omega⟩, fun v18 h18 => brE (fun _ => ⟨trivial, rfl⟩) fun hne => ?_⟩) fun e17 => ?_) fun e8 => ?_
  · rw [i64_id (by omega) (by omega)] at h10
    rw [i64_id (by omega) (by omega)] at h11
    rw [i64_id (by omega) (by omega)] at h12
    refine br (fun e13 => br (fun e14 => ⟨⟨hd, by omega⟩, fun v15 h15 => brE (fun _ => ⟨trivial, rfl⟩) fun hne => ?_⟩) fun e14 => ?_) fun e13 => ?_
    · exact absurd (h15.trans last) hne
    · omega
    · omega
  · exact absurd (h18.trans last) hne
  · omega
  · omega
theorem walkStampScales (d : Int) (p : Int) (w0 : World) (hd : (Lit.int .i64 d).wf = true) (hp : (Lit.int .u32 p).wf = true) : Calls Try.prog 3 #[.int .i64 d, .int .u32 p] w0 fun e w' => e = .returned (.bool true) ∧ Below w0.heap.size w0 w' :=
  law_tie (G := GC Try.prog lawsSpec w0) (gok w0 namesOk_ mixed_ laws_ok) (n := 20) (f := 3) (args := [.int .i64 (.sym d), .int .u32 (.sym p)]) (by kernel_rfl) (VCStampScales d p) (tieStampScales w0 d p) (pureStampScales d p ⟨wf_i64 hd, wf_u32 hp⟩)

def VCStampOffset (t : Int) (ahead : Int) (way : Int) (stay : Int) : Prop :=
  ∀ (v1 : Bool), v1 = decide (ahead < (-1152921504606846976 : Int)) → (v1 = false → ∀ (v2 : Bool), v2 = decide (ahead > (1152921504606846976 : Int)) → (v2 = false → ∀ (v3 : Bool), v3 = decide (way < (0 : Int)) → (v3 = false → ∀ (v4 : Bool), v4 = decide (way > (1152921504606846976 : Int)) → (v4 = false → ∀ (v5 : Bool), v5 = decide (stay < (0 : Int)) → (v5 = false → ∀ (v6 : Bool), v6 = decide (stay > (1152921504606846976 : Int)) → (v6 = true → True ∧ true = true) ∧ (v6 = false → ∀ (v7 : Int), v7 = IntKind.i64.wrap (ahead + way) → ∀ (v8 : Int), v8 = IntKind.u64.wrap v7 → ∀ (v9 : Int), v9 = IntKind.u64.wrap (t + v8) → ∀ (v10 : Int), v10 = IntKind.u64.wrap stay → ∀ (v11 : Int), v11 = IntKind.u64.wrap (v9 + v10) → ∀ (v12 : Int), v12 = IntKind.i64.wrap (way + stay) → ∀ (v13 : Int), v13 = IntKind.i64.wrap (v12 + way) → ∀ (v14 : Int), v14 = IntKind.u64.wrap v13 → ∀ (v15 : Int), v15 = IntKind.u64.wrap (t + v14) → (((0 : Int) ≤ t ∧ t ≤ (18446744073709551615 : Int)) ∧ ((0 : Int) ≤ v9 ∧ v9 ≤ (18446744073709551615 : Int)) ∧ ((0 : Int) ≤ v11 ∧ v11 ≤ (18446744073709551615 : Int)) ∧ (0 : Int) ≤ v15 ∧ v15 ≤ (18446744073709551615 : Int)) ∧ ∀ (v16 : Int), v16 = measF t v9 v11 v15 → ∀ (v17 : Int), v17 = delayF t v9 v11 v15 → ∀ (v18 : Bool), v18 = (v16 == ahead) → (v18 = true → ∀ (v19 : Int), v19 = IntKind.i64.wrap ((2 : Int) * way) → ∀ (v20 : Bool), v20 = (v17 == v19) → (v20 = true → True ∧ true = true) ∧ (v20 = false → false = true)) ∧ (v18 = false → false = true))) ∧ (v5 = true → True ∧ true = true)) ∧ (v4 = true → True ∧ true = true)) ∧ (v3 = true → True ∧ true = true)) ∧ (v2 = true → True ∧ true = true)) ∧ (v1 = true → True ∧ true = true)
theorem tieStampOffset (w0 : World) (t : Int) (ahead : Int) (way : Int) (stay : Int) : VCStampOffset t ahead way stay = ((recN (GC Try.prog lawsSpec w0) 20).call 5 [.int .u64 (.sym t), .int .i64 (.sym ahead), .int .i64 (.sym way), .int .i64 (.sym stay)] [] (fun v _ => isTrue v)) := by kernel_rfl
theorem pureStampOffset (t ahead way stay : Int) (h : U64 t ∧ I64 ahead ∧ I64 way ∧ I64 stay) : VCStampOffset t ahead way stay := by
  obtain ⟨ht, ha, hw, hs⟩ := h
  unfold I64 at ha hw hs
  refine rb (fun e1 => rb (fun e2 => rb (fun e3 => rb (fun e4 => rb (fun e5 => br (fun e6 => ⟨trivial, rfl⟩) fun e6 v7 h7 v8 h8 v9 h9 v10 h10 v11 h11 v12 h12 v13 h13 v14 h14 v15 h15 => ?_) fun _ => ⟨trivial, rfl⟩) fun _ => ⟨trivial, rfl⟩) fun _ => ⟨trivial, rfl⟩) fun _ => ⟨trivial, rfl⟩) fun _ => ⟨trivial, rfl⟩
  have b9 : U64 v9 := by rw [h9]; exact u64_in _
  have b11 : U64 v11 := by rw [h11]; exact u64_in _
  have b15 : U64 v15 := by rw [h15]; exact u64_in _
  refine ⟨⟨ht, b9, b11, b15⟩, fun v16 h16 v17 h17 => ?_⟩
  rw [i64_id (by omega) (by omega)] at h7
  rw [i64_id (by omega) (by omega)] at h12
  rw [i64_id (by omega) (by omega)] at h13
  have k1 : diffF v9 t = ahead + way := by
    unfold diffF
    rw [h9, h8, h7, w_u64, w_u64, w_i64]
    omega
  have k2 : diffF v11 v15 = ahead - way := by
    unfold diffF
    rw [w_u64] at h8 h9 h10 h11 h14 h15
    rw [w_i64]
    omega
  have k3 : delayF t v9 v11 v15 = 2 * way := by
    unfold delayF diffF
    rw [w_u64] at h8 h9 h10 h11 h14 h15
    rw [w_i64]
    omega
  have e16 : v16 = ahead := by
    rw [h16]
    unfold measF
    rw [k1, k2]
    omega
  refine brE (fun _ v19 h19 => brE (fun _ => ⟨trivial, rfl⟩) fun hne => ?_) fun hne => absurd e16 hne
  rw [i64_id (by omega) (by omega)] at h19
  exact absurd (by rw [h17, k3, h19]) hne
theorem walkStampOffset (t : Int) (ahead : Int) (way : Int) (stay : Int) (w0 : World) (ht : (Lit.int .u64 t).wf = true) (hahead : (Lit.int .i64 ahead).wf = true) (hway : (Lit.int .i64 way).wf = true) (hstay : (Lit.int .i64 stay).wf = true) : Calls Try.prog 5 #[.int .u64 t, .int .i64 ahead, .int .i64 way, .int .i64 stay] w0 fun e w' => e = .returned (.bool true) ∧ Below w0.heap.size w0 w' :=
  law_tie (G := GC Try.prog lawsSpec w0) (gok w0 namesOk_ mixed_ laws_ok) (n := 20) (f := 5) (args := [.int .u64 (.sym t), .int .i64 (.sym ahead), .int .i64 (.sym way), .int .i64 (.sym stay)]) (by kernel_rfl) (VCStampOffset t ahead way stay) (tieStampOffset w0 t ahead way stay) (pureStampOffset t ahead way stay ⟨wf_u64 ht, wf_i64 hahead, wf_i64 hway, wf_i64 hstay⟩)

def VCStampTimes (s : Int) (away : Int) (n : Int) (d : Int) : Prop :=
  ∀ (v1 : Bool), v1 = decide (s < (-1099511627776 : Int)) → (v1 = false → ∀ (v2 : Bool), v2 = decide (s > (1099511627776 : Int)) → (v2 = false → ∀ (v3 : Bool), v3 = (away == (-2147483648 : Int)) → (v3 = true → True ∧ true = true) ∧ (v3 = false → (((-9223372036854775808 : Int) ≤ s ∧ s ≤ (9223372036854775807 : Int)) ∧ (-9223372036854775808 : Int) ≤ n ∧ n ≤ (9223372036854775807 : Int)) ∧ ∀ (v4 : Int), v4 = ofF s n → ∀ (v5 : Int), v5 = IntKind.i64.wrap away → ∀ (v6 : Int), v6 = IntKind.i64.wrap (s - v5) → (((0 : Int) ≤ v4 ∧ v4 ≤ (18446744073709551615 : Int)) ∧ (-9223372036854775808 : Int) ≤ v6 ∧ v6 ≤ (9223372036854775807 : Int)) ∧ ∀ (v7 : Int), v7 = unixF v4 v6 → ∀ (v8 : Int), v8 = lowF v4 → ∀ (v9 : Bool), v9 = (v7 != s) → (v9 = false → ∀ (v10 : Int), v10 = IntKind.u32.wrap v4 → ∀ (v11 : Bool), v11 = (v8 != v10) → (v11 = true → false = true) ∧ (v11 = false → ∀ (v12 : Bool), v12 = decide (d < (0 : Int)) → (v12 = false → ∀ (v13 : Bool), v13 = decide (d > (281474976579584 : Int)) → (v13 = true → True ∧ true = true) ∧ (v13 = false → ((-9223372036854775808 : Int) ≤ d ∧ d ≤ (9223372036854775807 : Int)) ∧ ∀ (v14 : Int), v14 = shortF d → ∀ (v15 : Int), v15 = IntKind.i64.wrap v14 → ∀ (v16 : Int), v16 = shlI IntKind.i64 v15 (16 : Int) → ∀ (v17 : Bool), v17 = decide (v16 ≥ d) → (v17 = true → ∀ (v18 : Int), v18 = IntKind.i64.wrap (v16 - d) → ∀ (v19 : Bool), v19 = decide (v18 < (65536 : Int)) → (v19 = true → True ∧ true = true) ∧ (v19 = false → false = true)) ∧ (v17 = false → false = true))) ∧ (v12 = true → True ∧ true = true))) ∧ (v9 = true → false = true))) ∧ (v2 = true → True ∧ true = true)) ∧ (v1 = true → True ∧ true = true)
theorem tieStampTimes (w0 : World) (s : Int) (away : Int) (n : Int) (d : Int) : VCStampTimes s away n d = ((recN (GC Try.prog lawsSpec w0) 20).call 6 [.int .i64 (.sym s), .int .i32 (.sym away), .int .i64 (.sym n), .int .i64 (.sym d)] [] (fun v _ => isTrue v)) := by kernel_rfl
theorem shl16 (x : Int) : shlI .i64 x 16 = IntKind.i64.wrap (x * 65536) := by
  have := shl_eq .i64 x 16 (by decide)
  rw [show ((16 : Nat) : Int) = 16 from rfl] at this
  rw [this]; rfl
theorem pureStampTimes (s away n d : Int) (h : I64 s ∧ I32 away ∧ I64 n ∧ I64 d) : VCStampTimes s away n d := by
  obtain ⟨hs, ha, hn, hd⟩ := h
  have hs' := hs
  have hd' := hd
  unfold I64 at hs' hd'
  unfold I32 at ha
  refine rb (fun e1 => rb (fun e2 => brE (fun e3 => ⟨trivial, rfl⟩) fun e3 => ⟨⟨hs, hn⟩, fun v4 h4 v5 h5 v6 h6 => ?_⟩) fun _ => ⟨trivial, rfl⟩) fun _ => ⟨trivial, rfl⟩
  rw [i64_id (by omega) (by omega)] at h5
  rw [i64_id (by omega) (by omega)] at h6
  have b0 : 0 ≤ clamp 0 999999999 n ∧ clamp 0 999999999 n ≤ 999999999 := by unfold clamp; split <;> (try split) <;> omega
  have q4 : ∃ f, 0 ≤ f ∧ f < 4294967296 ∧ v4 = (s + 2208988800) % 4294967296 * 4294967296 + f := ⟨clamp 0 999999999 n * 4294967296 / 1000000000, by omega, by omega, by rw [h4]; rfl⟩
  obtain ⟨f, f0, f1, e4⟩ := q4
  have b4 : 0 ≤ v4 ∧ v4 ≤ 18446744073709551615 := by omega
  refine ⟨⟨b4, by omega⟩, fun v7 h7 v8 h8 => ?_⟩
  have e7 : v7 = s := by
    rw [h7]
    unfold unixF near clamp
    rw [if_neg (by omega), if_neg (by omega)]
    omega
  refine rbN (fun _ v10 h10 => brN (fun hne => ?_) fun _ => rb (fun e12 => br (fun e13 => ⟨trivial, rfl⟩) fun e13 => ⟨hd, fun v14 h14 v15 h15 v16 h16 => ?_⟩) fun _ => ⟨trivial, rfl⟩) fun hne => absurd e7 hne
  · rw [w_u32] at h10
    exact absurd (by rw [h8, h10]; rfl) hne
  · have e14 : v14 * 65536 ≥ d ∧ v14 * 65536 - d < 65536 ∧ 0 ≤ v14 ∧ v14 ≤ 4294967295 := by
      rw [h14]
      unfold shortF clamp
      split
      · omega
      · rw [if_neg (by omega), if_neg (by omega)]; omega
    rw [i64_id (by omega) (by omega)] at h15
    rw [shl16, i64_id (by omega) (by omega)] at h16
    refine br (fun e17 v18 h18 => br (fun _ => ⟨trivial, rfl⟩) fun hne => ?_) fun hne => ?_
    · rw [i64_id (by omega) (by omega)] at h18
      omega
    · omega
theorem walkStampTimes (s : Int) (away : Int) (n : Int) (d : Int) (w0 : World) (hs : (Lit.int .i64 s).wf = true) (haway : (Lit.int .i32 away).wf = true) (hn : (Lit.int .i64 n).wf = true) (hd : (Lit.int .i64 d).wf = true) : Calls Try.prog 6 #[.int .i64 s, .int .i32 away, .int .i64 n, .int .i64 d] w0 fun e w' => e = .returned (.bool true) ∧ Below w0.heap.size w0 w' :=
  law_tie (G := GC Try.prog lawsSpec w0) (gok w0 namesOk_ mixed_ laws_ok) (n := 20) (f := 6) (args := [.int .i64 (.sym s), .int .i32 (.sym away), .int .i64 (.sym n), .int .i64 (.sym d)]) (by kernel_rfl) (VCStampTimes s away n d) (tieStampTimes w0 s away n d) (pureStampTimes s away n d ⟨wf_i64 hs, wf_i32 haway, wf_i64 hn, wf_i64 hd⟩)

end Go.Proofs.Ytljdjdckgkpnpaa.T
