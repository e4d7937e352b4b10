/- The walk of the law StampUndoes: what it asks of numbers, and that this holds. -/
import Derived.Test.YtljdjdckgkpnpaaSxN
import Derived.Test.YtljdjdckgkpnpaaSxP
import Derived.Test.YtljdjdckgkpnpaaProg
import Derived.KernelRfl
import Derived.IntWalk
namespace Go.Proofs.Ytljdjdckgkpnpaa.VStampUndoes
open Go Go.Sx Go.RowKit
set_option linter.unusedVariables false
set_option maxRecDepth 100000

def VCStampUndoes (a : Int) (b : Int) (d : Int) : Prop :=
  ∀ (v1 : Int), v1 = IntKind.u64.wrap (a - b) → ∀ (v2 : Int), v2 = IntKind.i64.wrap v1 → ∀ (v3 : Int), v3 = IntKind.u64.wrap v2 → ∀ (v4 : Int), v4 = IntKind.u64.wrap (b + v3) → ∀ (v5 : Bool), v5 = (v4 == a) → (v5 = true → ∀ (v6 : Int), v6 = IntKind.u64.wrap d → ∀ (v7 : Int), v7 = IntKind.u64.wrap (a + v6) → ∀ (v8 : Int), v8 = IntKind.u64.wrap (v7 - a) → ∀ (v9 : Int), v9 = IntKind.i64.wrap v8 → ∀ (v10 : Bool), v10 = (v9 == d) → (v10 = true → ∀ (v11 : Bool), v11 = (v2 == -9223372036854775808) → (v11 = false → ∀ (v12 : Int), v12 = IntKind.u64.wrap (b - a) → ∀ (v13 : Int), v13 = IntKind.i64.wrap v12 → ∀ (v14 : Int), v14 = IntKind.i64.wrap (0 - v2) → ∀ (v15 : Bool), v15 = (v13 == v14) → (v15 = true → ∀ (v16 : Bool), v16 = true → (v16 = true → true = true) ∧ (v16 = false → false = true)) ∧ (v15 = false → false = true)) ∧ (v11 = true → ∀ (v17 : Bool), v17 = true → (v17 = true → true = true) ∧ (v17 = false → false = true))) ∧ (v10 = false → false = true)) ∧ (v5 = false → false = true)

theorem tie (w0 : World) (a : Int) (b : Int) (d : Int) : VCStampUndoes a b d = (recN (G0 Try.prog w0) 20).call 4 [.int .u64 (.sym a), .int .u64 (.sym b), .int .i64 (.sym d)] [] (fun v _ => isTrue v) := by kernel_rfl






theorem pure (a b d : Int) (ha : (Lit.int .u64 a).wf = true) (hb : (Lit.int .u64 b).wf = true) (hd : (Lit.int .i64 d).wf = true) : VCStampUndoes a b d := by
  have ha := wf_u64 ha
  have hb := wf_u64 hb
  have hd := wf_i64 hd
  intro v1 h1 v2 h2 v3 h3 v4 h4 v5 h5
  simp only [w_u64, w_i64] at *
  have e4 : v4 = a := by omega
  subst h5
  refine ⟨fun _ v6 h6 v7 h7 v8 h8 v9 h9 v10 h10 => ?_, fun h => by simp [e4] at h⟩
  have e9 : v9 = d := by omega
  subst h10
  refine ⟨fun _ v11 h11 => ?_, fun h => by simp [e9] at h⟩
  subst h11
  refine ⟨fun hn v12 h12 v13 h13 v14 h14 v15 h15 => ?_, fun _ v17 h17 => by simp [h17]⟩
  have hn : ¬ v2 = -9223372036854775808 := by simpa using hn
  have e13 : v13 = v14 := by omega
  subst h15
  exact ⟨fun _ v16 h16 => by simp [h16], fun h => by simp [e13] at h⟩


theorem gok (w0 : World) : GOk (G0 Try.prog w0) := GOk.mk0 (by kernel_rfl) (by kernel_rfl) (fun f C h => by cases h)

theorem walk (a : Int) (b : Int) (d : Int) (w0 : World) (ha : (Lit.int .u64 a).wf = true) (hb : (Lit.int .u64 b).wf = true) (hd : (Lit.int .i64 d).wf = true) : Calls Try.prog 4 #[.int .u64 a, .int .u64 b, .int .i64 d] w0 fun e w' => e = .returned (.bool true) ∧ Below w0.heap.size w0 w' := by
  have h := law_calls (gok w0) (n := 20) (f := 4) (args := [.int .u64 (.sym a), .int .u64 (.sym b), .int .i64 (.sym d)]) (by kernel_rfl) (Eq.mp (tie w0 a b d) (pure a b d ha hb hd))
  exact h
end Go.Proofs.Ytljdjdckgkpnpaa.VStampUndoes
