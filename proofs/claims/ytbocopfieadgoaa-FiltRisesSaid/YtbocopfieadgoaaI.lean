/- The laws of samples' ages: their walks. -/
import Derived.Test.YtbocopfieadgoaaSxN
import Derived.Test.YtbocopfieadgoaaSxP
import Derived.Test.YtbocopfieadgoaaProg
import Derived.Test.YtbocopfieadgoaaG
import Derived.Test.YtbocopfieadgoaaH
import Derived.KernelRfl
namespace Go.Proofs.Ytbocopfieadgoaa.I
open Go Go.Sx Go.RowKit Go.Proofs.Ytbocopfieadgoaa.C Go.Proofs.Ytbocopfieadgoaa.F Go.Proofs.Ytbocopfieadgoaa.H
set_option linter.unusedVariables false
set_option maxRecDepth 100000
theorem namesOk_ : namesOk Try.prog = true := by kernel_rfl
theorem mixed_ : Try.prog.follows .mixedOrders = true := by kernel_rfl
def lawsSpec : List (FuncId × CSpec) := [(8, goodSpec), (11, agedSpec), (16, rAgedSpec), (10, rootSpec), (17, rRootSpec), (9, awakeSpec)]
theorem laws_ok : SpecsOk Try.prog lawsSpec := ⟨good_ok, aged_ok, rAged_ok, root_ok, rRoot_ok, awake_ok, trivial⟩
def VCFiltAges (o : Int) (d : Int) (p : Int) (a : Int) (now : Int) : Prop :=
  (((-9223372036854775808 : Int) ≤ o ∧ o ≤ (9223372036854775807 : Int)) ∧ ((-9223372036854775808 : Int) ≤ d ∧ d ≤ (9223372036854775807 : Int)) ∧ ((-9223372036854775808 : Int) ≤ p ∧ p ≤ (9223372036854775807 : Int)) ∧ (-9223372036854775808 : Int) ≤ a ∧ a ≤ (9223372036854775807 : Int)) ∧ ∀ (v1 : Bool), v1 = goodF o d p a → ∀ (v2 : Bool), v2 = !v1 → (v2 = true → True ∧ true = true) ∧ (v2 = false → (((-9223372036854775808 : Int) ≤ o ∧ o ≤ (9223372036854775807 : Int)) ∧ ((-9223372036854775808 : Int) ≤ d ∧ d ≤ (9223372036854775807 : Int)) ∧ ((-9223372036854775808 : Int) ≤ p ∧ p ≤ (9223372036854775807 : Int)) ∧ ((-9223372036854775808 : Int) ≤ a ∧ a ≤ (9223372036854775807 : Int)) ∧ ((-9223372036854775808 : Int) ≤ now ∧ now ≤ (9223372036854775807 : Int)) ∧ goodF o d p a = true) ∧ ∀ (v3 : Int), v3 = agedF p a now → (((-9223372036854775808 : Int) ≤ o ∧ o ≤ (9223372036854775807 : Int)) ∧ ((-9223372036854775808 : Int) ≤ d ∧ d ≤ (9223372036854775807 : Int)) ∧ ((-9223372036854775808 : Int) ≤ p ∧ p ≤ (9223372036854775807 : Int)) ∧ ((-9223372036854775808 : Int) ≤ a ∧ a ≤ (9223372036854775807 : Int)) ∧ ((-9223372036854775808 : Int) ≤ now ∧ now ≤ (9223372036854775807 : Int)) ∧ goodF o d p a = true) ∧ ∀ (v4 : Int), v4 = agedF p a now → ∀ (v5 : Bool), v5 = (v3 == v4) → (v5 = true → (((-9223372036854775808 : Int) ≤ o ∧ o ≤ (9223372036854775807 : Int)) ∧ ((-9223372036854775808 : Int) ≤ d ∧ d ≤ (9223372036854775807 : Int)) ∧ ((-9223372036854775808 : Int) ≤ p ∧ p ≤ (9223372036854775807 : Int)) ∧ ((-9223372036854775808 : Int) ≤ a ∧ a ≤ (9223372036854775807 : Int)) ∧ ((-9223372036854775808 : Int) ≤ now ∧ now ≤ (9223372036854775807 : Int)) ∧ goodF o d p a = true) ∧ ∀ (v6 : Int), v6 = rootF d p a now → (((-9223372036854775808 : Int) ≤ o ∧ o ≤ (9223372036854775807 : Int)) ∧ ((-9223372036854775808 : Int) ≤ d ∧ d ≤ (9223372036854775807 : Int)) ∧ ((-9223372036854775808 : Int) ≤ p ∧ p ≤ (9223372036854775807 : Int)) ∧ ((-9223372036854775808 : Int) ≤ a ∧ a ≤ (9223372036854775807 : Int)) ∧ ((-9223372036854775808 : Int) ≤ now ∧ now ≤ (9223372036854775807 : Int)) ∧ goodF o d p a = true) ∧ ∀ (v7 : Int), v7 = rootF d p a now → ∀ (v8 : Bool), v8 = (v6 == v7) → (v8 = true → True ∧ true = true) ∧ (v8 = false → false = true)) ∧ (v5 = false → false = true))
theorem tieFiltAges (w0 : World) (o : Int) (d : Int) (p : Int) (a : Int) (now : Int) : VCFiltAges o d p a now = ((recN (GC Try.prog lawsSpec w0) 30).call 6 [.agg [.int .i64 (.sym o), .int .i64 (.sym d), .int .i64 (.sym p), .int .i64 (.sym a)], .int .i64 (.sym now)] [] (fun v _ => isTrue v)) := by kernel_rfl
theorem pureFiltAges (o d p a now : Int) (h : I64 o ∧ I64 d ∧ I64 p ∧ I64 a ∧ I64 now) : VCFiltAges o d p a now := by
  obtain ⟨ho, hd, hp, ha, hn⟩ := h
  unfold I64 at ho hd hp ha hn
  unfold VCFiltAges
  by_cases hg : goodF o d p a = true <;> simp [hg, ho, hd, hp, ha, hn]
theorem walkFiltAges (o : Int) (d : Int) (p : Int) (a : Int) (now : Int) (w0 : World) (ho : (Lit.int .i64 o).wf = true) (hd : (Lit.int .i64 d).wf = true) (hp : (Lit.int .i64 p).wf = true) (ha : (Lit.int .i64 a).wf = true) (hnow : (Lit.int .i64 now).wf = true) : Calls Try.prog 6 #[.agg #[.int .i64 o, .int .i64 d, .int .i64 p, .int .i64 a], .int .i64 now] w0 fun e w' => e = .returned (.bool true) ∧ Below w0.heap.size w0 w' :=
  law_tie (G := GC Try.prog lawsSpec w0) (gok w0 namesOk_ mixed_ laws_ok) (n := 30) (f := 6) (args := [.agg [.int .i64 (.sym o), .int .i64 (.sym d), .int .i64 (.sym p), .int .i64 (.sym a)], .int .i64 (.sym now)]) (by kernel_rfl) (VCFiltAges o d p a now) (tieFiltAges w0 o d p a now) (pureFiltAges o d p a now ⟨wf_i64 ho, wf_i64 hd, wf_i64 hp, wf_i64 ha, wf_i64 hnow⟩)

theorem least_le (x : Int) : least x ≤ 140737488355328 := by unfold least; split <;> omega
theorem rises {o d p a now more : Int} (hg : goodF o d p a = true) (h0 : 0 ≤ now) (h1 : now ≤ 2199023255552) (hm : 0 ≤ more) (hm' : more < 1048576) :
    0 ≤ rootF d p a now ∧ rootF d p a now ≤ rootF d p a (now + more) ∧ (rootF d p a (now + more) - rootF d p a now - 1) * 1000000 ≤ 15 * (more * 4294967296) ∧ rootF d p a (now + more) ≤ 140737488355328 ∧ agedF p a now ≤ rootF d p a now := by
  have hg' := hg
  rw [good_iff] at hg
  have a1 := age_in a now
  have a2 := age_in a (now + more)
  have m1 : ageF a now ≤ ageF a (now + more) ∧ ageF a (now + more) ≤ ageF a now + more := by
    unfold ageF clamp
    constructor <;> (repeat' split) <;> omega
  have b1 := aged_in (now := now) hg'
  have b2 := aged_in (now := now + more) hg'
  have e1 : agedF p a now = least (p + (ageF a now * 4294967296 * 15 + 999999) / 1000000) := by unfold agedF; rw [scaled15 (by omega)]
  have e2 : agedF p a (now + more) = least (p + (ageF a (now + more) * 4294967296 * 15 + 999999) / 1000000) := by unfold agedF; rw [scaled15 (by omega)]
  have f1 : ∀ n, rootF d p a n = least (agedF p a n + (d + 1) / 2) := fun _ => rfl
  rw [f1, f1]
  generalize ageF a now = g1 at *
  generalize ageF a (now + more) = g2 at *
  generalize agedF p a now = x1 at *
  generalize agedF p a (now + more) = x2 at *
  have k : x1 ≤ x2 ∧ (x2 - x1 - 1) * 1000000 ≤ 15 * (more * 4294967296) := by
    unfold least at e1 e2
    constructor <;> (split at e1 <;> split at e2) <;> omega
  unfold least
  refine ⟨?_, ?_, ?_, ?_, ?_⟩ <;> (repeat' split) <;> omega
def VCFiltRises (o : Int) (d : Int) (p : Int) (a : Int) (now : Int) (more : Int) : Prop :=
  (((-9223372036854775808 : Int) ≤ o ∧ o ≤ (9223372036854775807 : Int)) ∧ ((-9223372036854775808 : Int) ≤ d ∧ d ≤ (9223372036854775807 : Int)) ∧ ((-9223372036854775808 : Int) ≤ p ∧ p ≤ (9223372036854775807 : Int)) ∧ (-9223372036854775808 : Int) ≤ a ∧ a ≤ (9223372036854775807 : Int)) ∧ ∀ (v1 : Bool), v1 = goodF o d p a → ∀ (v2 : Bool), v2 = !v1 → (v2 = false → ∀ (v3 : Bool), v3 = decide (now < (0 : Int)) → (v3 = false → ∀ (v4 : Bool), v4 = decide (now > (2199023255552 : Int)) → (v4 = true → True ∧ true = true) ∧ (v4 = false → ∀ (v5 : Int), v5 = more.tmod (1048576 : Int) → ∀ (v6 : Int), v6 = IntKind.i64.wrap v5 → (((-9223372036854775808 : Int) ≤ o ∧ o ≤ (9223372036854775807 : Int)) ∧ ((-9223372036854775808 : Int) ≤ d ∧ d ≤ (9223372036854775807 : Int)) ∧ ((-9223372036854775808 : Int) ≤ p ∧ p ≤ (9223372036854775807 : Int)) ∧ ((-9223372036854775808 : Int) ≤ a ∧ a ≤ (9223372036854775807 : Int)) ∧ ((-9223372036854775808 : Int) ≤ now ∧ now ≤ (9223372036854775807 : Int)) ∧ goodF o d p a = true) ∧ ∀ (v7 : Int), v7 = rootF d p a now → ∀ (v8 : Int), v8 = IntKind.i64.wrap (now + v6) → (((-9223372036854775808 : Int) ≤ o ∧ o ≤ (9223372036854775807 : Int)) ∧ ((-9223372036854775808 : Int) ≤ d ∧ d ≤ (9223372036854775807 : Int)) ∧ ((-9223372036854775808 : Int) ≤ p ∧ p ≤ (9223372036854775807 : Int)) ∧ ((-9223372036854775808 : Int) ≤ a ∧ a ≤ (9223372036854775807 : Int)) ∧ ((-9223372036854775808 : Int) ≤ v8 ∧ v8 ≤ (9223372036854775807 : Int)) ∧ goodF o d p a = true) ∧ ∀ (v9 : Int), v9 = rootF d p a v8 → ∀ (v10 : Bool), v10 = decide (v7 ≥ (0 : Int)) → (v10 = true → ∀ (v11 : Bool), v11 = decide (v9 ≥ v7) → (v11 = true → ∀ (v12 : Int), v12 = IntKind.i64.wrap (v9 - v7) → ∀ (v13 : Int), v13 = IntKind.i64.wrap (v12 - (1 : Int)) → ∀ (v14 : Int), v14 = IntKind.i64.wrap (v13 * (1000000 : Int)) → ∀ (v15 : Int), v15 = shlI IntKind.i64 v6 (32 : Int) → ∀ (v16 : Int), v16 = IntKind.i64.wrap ((15 : Int) * v15) → ∀ (v17 : Bool), v17 = decide (v14 ≤ v16) → (v17 = true → ∀ (v18 : Bool), v18 = decide (v9 ≤ (140737488355328 : Int)) → (v18 = true → (((-9223372036854775808 : Int) ≤ o ∧ o ≤ (9223372036854775807 : Int)) ∧ ((-9223372036854775808 : Int) ≤ d ∧ d ≤ (9223372036854775807 : Int)) ∧ ((-9223372036854775808 : Int) ≤ p ∧ p ≤ (9223372036854775807 : Int)) ∧ ((-9223372036854775808 : Int) ≤ a ∧ a ≤ (9223372036854775807 : Int)) ∧ ((-9223372036854775808 : Int) ≤ now ∧ now ≤ (9223372036854775807 : Int)) ∧ goodF o d p a = true) ∧ ∀ (v19 : Int), v19 = agedF p a now → ∀ (v20 : Bool), v20 = decide (v19 ≤ v7) → (v20 = true → True ∧ true = true) ∧ (v20 = false → false = true)) ∧ (v18 = false → false = true)) ∧ (v17 = false → false = true)) ∧ (v11 = false → false = true)) ∧ (v10 = false → false = true))) ∧ (v3 = true → True ∧ true = true)) ∧ (v2 = true → True ∧ true = true)
theorem tieFiltRises (w0 : World) (o : Int) (d : Int) (p : Int) (a : Int) (now : Int) (more : Int) : VCFiltRises o d p a now more = ((recN (GC Try.prog lawsSpec w0) 30).call 3 [.agg [.int .i64 (.sym o), .int .i64 (.sym d), .int .i64 (.sym p), .int .i64 (.sym a)], .int .i64 (.sym now), .int .u32 (.sym more)] [] (fun v _ => isTrue v)) := by kernel_rfl
theorem pureFiltRises (o d p a now more : Int) (h : I64 o ∧ I64 d ∧ I64 p ∧ I64 a ∧ I64 now ∧ U32 more) : VCFiltRises o d p a now more := by
  obtain ⟨ho, hd, hp, ha, hn, hm⟩ := h
  unfold I64 at ho hd hp ha hn
  unfold U32 at hm
  refine ⟨⟨ho, hd, hp, ha⟩, ?_⟩
  intro v1 h1 v2 h2
  refine ft (fun e2 => ?_) (fun _ => ⟨trivial, rfl⟩)
  have hg : goodF o d p a = true := by rw [h2, h1] at e2; simpa using e2
  refine rb (fun e3 => br (fun _ => ⟨trivial, rfl⟩) fun e4 => ?_) (fun _ => ⟨trivial, rfl⟩)
  intro v5 h5 v6 h6
  rw [tmod_nonneg hm.1] at h5
  have b5 : 0 ≤ v5 ∧ v5 < 1048576 := by omega
  rw [i64_id (by omega) (by omega)] at h6
  obtain ⟨r1, r2, r3, r4, r5⟩ := rises (more := v6) hg (show 0 ≤ now by omega) (by omega) (by omega) (by omega)
  refine ⟨⟨ho, hd, hp, ha, hn, hg⟩, fun v7 h7 v8 h8 => ?_⟩
  rw [i64_id (by omega) (by omega)] at h8
  refine ⟨⟨ho, hd, hp, ha, ⟨by omega, by omega⟩, hg⟩, fun v9 h9 => ?_⟩
  rw [← h8, ← h9, ← h7] at r2 r3
  rw [← h8, ← h9] at r4
  rw [← h7] at r1 r5
  refine br (fun e10 => br (fun e11 v12 h12 v13 h13 v14 h14 v15 h15 v16 h16 => ?_) fun e => absurd r2 e) fun e => absurd r1 e
  rw [i64_id (by omega) (by omega)] at h12
  rw [i64_id (by omega) (by omega)] at h13
  rw [i64_id (by omega) (by omega)] at h14
  rw [shl32i, i64_id (by omega) (by omega)] at h15
  rw [i64_id (by omega) (by omega)] at h16
  refine br (fun e17 => br (fun e18 => ⟨⟨ho, hd, hp, ha, hn, hg⟩, fun v19 h19 => ?_⟩) fun e => absurd r4 e) fun e => absurd (by omega) e
  rw [← h19] at r5
  exact br (fun _ => ⟨trivial, rfl⟩) fun e => absurd r5 e
theorem walkFiltRises (o : Int) (d : Int) (p : Int) (a : Int) (now : Int) (more : Int) (w0 : World) (ho : (Lit.int .i64 o).wf = true) (hd : (Lit.int .i64 d).wf = true) (hp : (Lit.int .i64 p).wf = true) (ha : (Lit.int .i64 a).wf = true) (hnow : (Lit.int .i64 now).wf = true) (hmore : (Lit.int .u32 more).wf = true) : Calls Try.prog 3 #[.agg #[.int .i64 o, .int .i64 d, .int .i64 p, .int .i64 a], .int .i64 now, .int .u32 more] w0 fun e w' => e = .returned (.bool true) ∧ Below w0.heap.size w0 w' :=
  law_tie (G := GC Try.prog lawsSpec w0) (gok w0 namesOk_ mixed_ laws_ok) (n := 30) (f := 3) (args := [.agg [.int .i64 (.sym o), .int .i64 (.sym d), .int .i64 (.sym p), .int .i64 (.sym a)], .int .i64 (.sym now), .int .u32 (.sym more)]) (by kernel_rfl) (VCFiltRises o d p a now more) (tieFiltRises w0 o d p a now more) (pureFiltRises o d p a now more ⟨wf_i64 ho, wf_i64 hd, wf_i64 hp, wf_i64 ha, wf_i64 hnow, wf_u32 hmore⟩)

end Go.Proofs.Ytbocopfieadgoaa.I
