/- What the functions of stamps answer, proved once: spans times millionths, times and stamps, spans in 32 bits, what four stamps tell. -/
import Derived.Test.YtljdjdckgkpnpaaSxN
import Derived.Test.YtljdjdckgkpnpaaSxP
import Derived.Test.YtljdjdckgkpnpaaProg
import Derived.KernelRfl
namespace Go.Proofs.Ytljdjdckgkpnpaa.C
open Go Go.Sx Go.RowKit
set_option linter.unusedVariables false
set_option maxRecDepth 100000
theorem namesOk_ : namesOk Try.prog = true := by kernel_rfl
theorem mixed_ : Try.prog.follows .mixedOrders = true := by kernel_rfl
def clamp (lo hi n : Int) : Int := if n < lo then lo else if hi < n then hi else n
def scaledF (d p : Int) : Int := if d < 0 ∨ p < 0 then 0 else (d * clamp 0 1000000 p + 999999) / 1000000
def ofF (s n : Int) : Int := (s + 2208988800) % 4294967296 * 4294967296 + clamp 0 999999999 n * 4294967296 / 1000000000
def near (n : Int) : Int := clamp (-2305843009213693952) 2305843009213693952 n
def unixF (t n : Int) : Int := near n + ((t / 4294967296 - (near n + 2208988800) + 2147483648) % 4294967296 - 2147483648)
def lowF (t : Int) : Int := t % 4294967296
def diffF (a b : Int) : Int := IntKind.i64.wrap (a - b)
def measF (a b c d : Int) : Int := (diffF b a + diffF c d) / 2
def delayF (a b c d : Int) : Int := diffF (d + b) (a + c)
def shortF (d : Int) : Int := if d ≤ 0 then 0 else clamp 0 4294967295 ((d + 65535) / 65536)
def scaledSpec : CSpec
  | [.int .i64 d, .int .i64 p], k => ((I64 d.val) ∧ (I64 p.val)) ∧ (∀ r0 : Int, r0 = scaledF d.val p.val → k (.int .i64 (.sym r0)))
  | _, _ => False
def VCScaled (d : Int) (p : Int) : Prop :=
  ∀ (v1 : Bool), v1 = decide (d < (0 : Int)) → (v1 = false → ∀ (v2 : Bool), v2 = decide (p < (0 : Int)) → (v2 = true → IntKind.i64 = IntKind.i64 ∧ (0 : Int) = scaledF d p) ∧ (v2 = false → ∀ (v3 : Int), (v3 = if (1000000 : Int) < p then (1000000 : Int) else p) → ∀ (v4 : Int), v4 = IntKind.i64.wrap (d.tdiv (1000000 : Int)) → ∀ (v5 : Int), v5 = d.tmod (1000000 : Int) → ∀ (v6 : Int), v6 = IntKind.i64.wrap (v4 * v3) → ∀ (v7 : Int), v7 = IntKind.i64.wrap (v5 * v3) → ∀ (v8 : Int), v8 = IntKind.i64.wrap (v7 + (1000000 : Int)) → ∀ (v9 : Int), v9 = IntKind.i64.wrap (v8 - (1 : Int)) → ∀ (v10 : Int), v10 = IntKind.i64.wrap (v9.tdiv (1000000 : Int)) → ∀ (v11 : Int), v11 = IntKind.i64.wrap (v6 + v10) → IntKind.i64 = IntKind.i64 ∧ v11 = scaledF d p)) ∧ (v1 = true → IntKind.i64 = IntKind.i64 ∧ (0 : Int) = scaledF d p)
theorem tieScaled (w0 : World) (d : Int) (p : Int) : VCScaled d p = ((recN (GC Try.prog [] w0) 20).call 9 [.int .i64 (.sym d), .int .i64 (.sym p)] [] (fun u _ => eqV u (.int .i64 (.sym (scaledF d p))))) := by kernel_rfl
theorem pureScaled (d p : Int) (h : I64 d ∧ I64 p) : VCScaled d p := by
  obtain ⟨hd, hp⟩ := h
  unfold I64 at hd hp
  intro v1 h1
  refine ⟨fun e => ?_, fun e => ⟨rfl, ?_⟩⟩
  · subst h1
    have e : ¬ d < 0 := by simpa using e
    intro v2 h2
    refine ⟨fun e2 => ⟨rfl, ?_⟩, fun e2 v3 h3 v4 h4 v5 h5 v6 h6 v7 h7 v8 h8 v9 h9 v10 h10 v11 h11 => ⟨rfl, ?_⟩⟩
    · subst h2
      have e2 : p < 0 := by simpa using e2
      simp [scaledF, e2]
    · subst h2
      have e2 : ¬ p < 0 := by simpa using e2
      have hv3 : v3 = clamp 0 1000000 p := by rw [h3]; simp only [clamp, e2, if_false]
      have b3 : 0 ≤ v3 ∧ v3 ≤ 1000000 := by rw [h3]; split <;> omega
      rw [tdiv_nonneg (by omega)] at h4
      rw [tmod_nonneg (by omega)] at h5
      have e4 : v4 = d / 1000000 := by rw [h4, i64_id] <;> omega
      have m1 : 0 ≤ v4 * v3 := Int.mul_nonneg (by omega) b3.1
      have m2 : v4 * v3 ≤ v4 * 1000000 := Int.mul_le_mul_of_nonneg_left b3.2 (by omega)
      have m3 : 0 ≤ v5 * v3 := Int.mul_nonneg (by omega) b3.1
      have m4 : v5 * v3 ≤ v5 * 1000000 := Int.mul_le_mul_of_nonneg_left b3.2 (by omega)
      rw [i64_id (by omega) (by omega)] at h6 h7
      rw [i64_id (by omega) (by omega)] at h8
      rw [i64_id (by omega) (by omega)] at h9
      rw [tdiv_nonneg (by omega), i64_id (by omega) (by omega)] at h10
      rw [i64_id (by omega) (by omega)] at h11
      have hd5 : d = v4 * 1000000 + v5 := by omega
      have hdp : d * v3 = (v4 * v3) * 1000000 + v5 * v3 := by
        rw [hd5, Int.add_mul, Int.mul_assoc, Int.mul_comm 1000000 v3, ← Int.mul_assoc]
      simp only [scaledF, e, e2, or_self, if_false]
      rw [← hv3, hdp]
      omega
  · subst h1
    have e : d < 0 := by simpa using e
    simp [scaledF, e]
theorem scaled_ok : SpecOk Try.prog 9 scaledSpec := by
  intro args k h
  unfold scaledSpec at h
  split at h
  · rename_i d p
    obtain ⟨hr, h⟩ := h
    exact ⟨_, h _ rfl, PureOk.of_tie (GC Try.prog []) (fun w => gok w namesOk_ mixed_ trivial) (fun _ => rfl) (fun _ => rfl) (args' := [.int .i64 (.sym d.val), .int .i64 (.sym p.val)]) ⟨⟨rfl, rfl⟩, ⟨rfl, rfl⟩, trivial⟩ 20 (fun w => VCScaled d.val p.val) (fun w => tieScaled w d.val p.val) (fun w => pureScaled d.val p.val hr)⟩
  · exact h.elim


theorem shl32 (x : Int) : shlI .u64 x 32 = x * 4294967296 % 18446744073709551616 := by
  have := shl_eq .u64 x 32 (by decide)
  rw [show ((32 : Nat) : Int) = 32 from rfl] at this
  rw [this, w_u64]; rfl
theorem shr32 (x : Int) : shrI .u64 x 32 = x / 4294967296 := by
  have := shr_eq .u64 x 32 (by decide)
  rw [show ((32 : Nat) : Int) = 32 from rfl] at this
  rw [this]; rfl
theorem shr16i (x : Int) : shrI .i64 x 16 = x / 65536 := by
  have := shr_eq .i64 x 16 (by decide)
  rw [show ((16 : Nat) : Int) = 16 from rfl] at this
  rw [this]; rfl
theorem shr16u (x : Int) : shrI .u64 x 16 = x / 65536 := by
  have := shr_eq .u64 x 16 (by decide)
  rw [show ((16 : Nat) : Int) = 16 from rfl] at this
  rw [this]; rfl
theorem shr1i (x : Int) : shrI .i64 x 1 = x / 2 := by
  have := shr_eq .i64 x 1 (by decide)
  rw [show ((1 : Nat) : Int) = 1 from rfl] at this
  rw [this]; rfl

def ofSpec : CSpec
  | [.int .i64 s, .int .i64 n], k => ((I64 s.val) ∧ (I64 n.val)) ∧ (∀ r0 : Int, r0 = ofF s.val n.val → k (.int .u64 (.sym r0)))
  | _, _ => False
def VCOf (s : Int) (n : Int) : Prop :=
  ∀ (v1 : Int), (v1 = if (999999999 : Int) < n then (999999999 : Int) else n) → ∀ (v2 : Int), (v2 = if (0 : Int) > v1 then (0 : Int) else v1) → ∀ (v3 : Int), v3 = IntKind.u64.wrap v2 → ∀ (v4 : Int), v4 = IntKind.i64.wrap (s + (2208988800 : Int)) → ∀ (v5 : Int), v5 = IntKind.u64.wrap v4 → ∀ (v6 : Int), v6 = shlI IntKind.u64 v5 (32 : Int) → ∀ (v7 : Int), v7 = shlI IntKind.u64 v3 (32 : Int) → ∀ (v8 : Int), v8 = IntKind.u64.wrap (v7.tdiv (1000000000 : Int)) → ∀ (v9 : Int), v9 = IntKind.u64.wrap (v6 + v8) → IntKind.u64 = IntKind.u64 ∧ v9 = ofF s n
theorem tieOf (w0 : World) (s : Int) (n : Int) : VCOf s n = ((recN (GC Try.prog [] w0) 20).call 13 [.int .i64 (.sym s), .int .i64 (.sym n)] [] (fun u _ => eqV u (.int .u64 (.sym (ofF s n))))) := by kernel_rfl
theorem pureOf (s n : Int) (h : I64 s ∧ I64 n) : VCOf s n := by
  obtain ⟨hs, hn⟩ := h
  unfold I64 at hs hn
  intro v1 h1 v2 h2 v3 h3 v4 h4 v5 h5 v6 h6 v7 h7 v8 h8 v9 h9
  refine ⟨rfl, ?_⟩
  have e2 : v2 = clamp 0 999999999 n := by rw [h2, h1]; unfold clamp; split <;> split <;> (try split) <;> omega
  have b2 : 0 ≤ v2 ∧ v2 ≤ 999999999 := by rw [e2]; unfold clamp; split <;> (try split) <;> omega
  have e3 : v3 = v2 := by rw [h3, u64_id] <;> omega
  rw [shl32] at h6 h7
  have e7 : v7 = v2 * 4294967296 := by rw [h7, e3]; omega
  have e8 : v8 = v2 * 4294967296 / 1000000000 := by rw [h8, tdiv_nonneg (by omega), e7, u64_id] <;> omega
  have b8 : 0 ≤ v8 ∧ v8 < 4294967296 := by omega
  have e6 : v6 = (s + 2208988800) % 4294967296 * 4294967296 := by
    rw [w_i64] at h4
    rw [w_u64] at h5
    omega
  unfold ofF
  rw [← e2, ← e8, ← e6, h9, u64_id] <;> omega
theorem of_ok : SpecOk Try.prog 13 ofSpec := by
  intro args k h
  unfold ofSpec at h
  split at h
  · rename_i s n
    obtain ⟨hr, h⟩ := h
    exact ⟨_, h _ rfl, PureOk.of_tie (GC Try.prog []) (fun w => gok w namesOk_ mixed_ trivial) (fun _ => rfl) (fun _ => rfl) (args' := [.int .i64 (.sym s.val), .int .i64 (.sym n.val)]) ⟨⟨rfl, rfl⟩, ⟨rfl, rfl⟩, trivial⟩ 20 (fun w => VCOf s.val n.val) (fun w => tieOf w s.val n.val) (fun w => pureOf s.val n.val hr)⟩
  · exact h.elim


def rOfSpec : CSpec
  | [.int .i64 s, .int .i64 n], k => ((I64 s.val) ∧ (I64 n.val)) ∧ (∀ r0 : Int, r0 = ofF s.val n.val → k (.int .u64 (.sym r0)))
  | _, _ => False
def VCROf (s : Int) (n : Int) : Prop :=
  ∀ (v1 : Int), (v1 = if (0 : Int) > n then (0 : Int) else n) → ∀ (v2 : Int), (v2 = if (999999999 : Int) < v1 then (999999999 : Int) else v1) → ∀ (v3 : Int), v3 = IntKind.u64.wrap v2 → ∀ (v4 : Int), v4 = IntKind.i64.wrap (s + (2208988800 : Int)) → ∀ (v5 : Int), v5 = IntKind.u64.wrap v4 → ∀ (v6 : Int), v6 = shlI IntKind.u64 v5 (32 : Int) → ∀ (v7 : Int), v7 = shlI IntKind.u64 v3 (32 : Int) → ∀ (v8 : Int), v8 = IntKind.u64.wrap (v7.tdiv (1000000000 : Int)) → ∀ (v9 : Int), v9 = bitI BinOp.or IntKind.u64 v6 v8 → IntKind.u64 = IntKind.u64 ∧ v9 = ofF s n
theorem tieROf (w0 : World) (s : Int) (n : Int) : VCROf s n = ((recN (GC Try.prog [] w0) 20).call 18 [.int .i64 (.sym s), .int .i64 (.sym n)] [] (fun u _ => eqV u (.int .u64 (.sym (ofF s n))))) := by kernel_rfl
theorem pureROf (s n : Int) (h : I64 s ∧ I64 n) : VCROf s n := by
  obtain ⟨hs, hn⟩ := h
  unfold I64 at hs hn
  intro v1 h1 v2 h2 v3 h3 v4 h4 v5 h5 v6 h6 v7 h7 v8 h8 v9 h9
  refine ⟨rfl, ?_⟩
  have e2 : v2 = clamp 0 999999999 n := by rw [h2, h1]; unfold clamp; split <;> split <;> (try split) <;> omega
  have b2 : 0 ≤ v2 ∧ v2 ≤ 999999999 := by rw [e2]; unfold clamp; split <;> (try split) <;> omega
  have e3 : v3 = v2 := by rw [h3, u64_id] <;> omega
  rw [shl32] at h6 h7
  have e7 : v7 = v2 * 4294967296 := by rw [h7, e3]; omega
  have e8 : v8 = v2 * 4294967296 / 1000000000 := by rw [h8, tdiv_nonneg (by omega), e7, u64_id] <;> omega
  have b8 : 0 ≤ v8 ∧ v8 < 4294967296 := by omega
  have e6 : v6 = (s + 2208988800) % 4294967296 * 2 ^ 32 := by
    rw [show (2 : Int) ^ 32 = 4294967296 from rfl]
    rw [w_i64] at h4
    rw [w_u64] at h5
    omega
  rw [h9, e6, or_parts_u64 (by omega) (by omega) (by rw [show (2 : Int) ^ 32 = 4294967296 from rfl]; omega) (by rw [show (2 : Int) ^ 32 = 4294967296 from rfl]; omega) (by rw [show (2 : Int) ^ 32 = 4294967296 from rfl]; omega) (by omega)]
  unfold ofF
  rw [← e2, e8, show (2 : Int) ^ 32 = 4294967296 from rfl]
theorem rOf_ok : SpecOk Try.prog 18 rOfSpec := by
  intro args k h
  unfold rOfSpec at h
  split at h
  · rename_i s n
    obtain ⟨hr, h⟩ := h
    exact ⟨_, h _ rfl, PureOk.of_tie (GC Try.prog []) (fun w => gok w namesOk_ mixed_ trivial) (fun _ => rfl) (fun _ => rfl) (args' := [.int .i64 (.sym s.val), .int .i64 (.sym n.val)]) ⟨⟨rfl, rfl⟩, ⟨rfl, rfl⟩, trivial⟩ 20 (fun w => VCROf s.val n.val) (fun w => tieROf w s.val n.val) (fun w => pureROf s.val n.val hr)⟩
  · exact h.elim


def unixSpec : CSpec
  | [.int .u64 t, .int .i64 n], k => ((U64 t.val) ∧ (I64 n.val)) ∧ (∀ r0 : Int, r0 = unixF t.val n.val → ∀ r1 : Int, r1 = lowF t.val → k (.tup [.int .i64 (.sym r0), .int .u32 (.sym r1)]))
  | _, _ => False
def VCUnix (t : Int) (n : Int) : Prop :=
  ∀ (v1 : Int), (v1 = if (2305843009213693952 : Int) < n then (2305843009213693952 : Int) else n) → ∀ (v2 : Int), (v2 = if (-2305843009213693952 : Int) > v1 then (-2305843009213693952 : Int) else v1) → ∀ (v3 : Int), v3 = shrI IntKind.u64 t (32 : Int) → ∀ (v4 : Int), v4 = IntKind.u32.wrap v3 → ∀ (v5 : Int), v5 = IntKind.i64.wrap (v2 + (2208988800 : Int)) → ∀ (v6 : Int), v6 = IntKind.u32.wrap v5 → ∀ (v7 : Int), v7 = IntKind.u32.wrap (v4 - v6) → ∀ (v8 : Int), v8 = IntKind.i32.wrap v7 → ∀ (v9 : Int), v9 = IntKind.i64.wrap v8 → ∀ (v10 : Int), v10 = IntKind.i64.wrap (v2 + v9) → ∀ (v11 : Int), v11 = IntKind.u32.wrap t → (IntKind.i64 = IntKind.i64 ∧ v10 = unixF t n) ∧ (IntKind.u32 = IntKind.u32 ∧ v11 = lowF t) ∧ True
theorem tieUnix (w0 : World) (t : Int) (n : Int) : VCUnix t n = ((recN (GC Try.prog [] w0) 20).call 14 [.int .u64 (.sym t), .int .i64 (.sym n)] [] (fun u _ => eqV u (.tup [.int .i64 (.sym (unixF t n)), .int .u32 (.sym (lowF t))]))) := by kernel_rfl
theorem pureUnix (t n : Int) (h : U64 t ∧ I64 n) : VCUnix t n := by
  obtain ⟨ht, hn⟩ := h
  unfold U64 at ht
  unfold I64 at hn
  intro v1 h1 v2 h2 v3 h3 v4 h4 v5 h5 v6 h6 v7 h7 v8 h8 v9 h9 v10 h10 v11 h11
  have e2 : v2 = near n := by rw [h2, h1]; unfold near clamp; split <;> split <;> (try split) <;> omega
  have b2 : -2305843009213693952 ≤ v2 ∧ v2 ≤ 2305843009213693952 := by rw [e2]; unfold near clamp; split <;> (try split) <;> omega
  refine ⟨⟨rfl, ?_⟩, ⟨rfl, by unfold lowF; rw [h11, w_u32]⟩, trivial⟩
  rw [shr32] at h3
  have e4 : v4 = t / 4294967296 := by rw [h4, w_u32, h3]; omega
  have e5 : v5 = v2 + 2208988800 := by rw [h5, i64_id] <;> omega
  have e8 : v8 = (v4 - v5 + 2147483648) % 4294967296 - 2147483648 := by
    rw [w_u32] at h6 h7
    rw [w_i32] at h8
    omega
  have e9 : v9 = v8 := by rw [h9, i64_id] <;> omega
  have e10 : v10 = v2 + v9 := by rw [h10, i64_id] <;> omega
  unfold unixF
  rw [← e2, ← e4, ← e5, e10, e9, e8]
theorem unix_ok : SpecOk Try.prog 14 unixSpec := by
  intro args k h
  unfold unixSpec at h
  split at h
  · rename_i t n
    obtain ⟨hr, h⟩ := h
    exact ⟨_, h _ rfl _ rfl, PureOk.of_tie (GC Try.prog []) (fun w => gok w namesOk_ mixed_ trivial) (fun _ => rfl) (fun _ => rfl) (args' := [.int .u64 (.sym t.val), .int .i64 (.sym n.val)]) ⟨⟨rfl, rfl⟩, ⟨rfl, rfl⟩, trivial⟩ 20 (fun w => VCUnix t.val n.val) (fun w => tieUnix w t.val n.val) (fun w => pureUnix t.val n.val hr)⟩
  · exact h.elim


def rUnixSpec : CSpec
  | [.int .u64 t, .int .i64 n], k => ((U64 t.val) ∧ (I64 n.val)) ∧ (∀ r0 : Int, r0 = unixF t.val n.val → ∀ r1 : Int, r1 = lowF t.val → k (.tup [.int .i64 (.sym r0), .int .u32 (.sym r1)]))
  | _, _ => False
def VCRUnix (t : Int) (n : Int) : Prop :=
  ∀ (v1 : Int), (v1 = if (-2305843009213693952 : Int) > n then (-2305843009213693952 : Int) else n) → ∀ (v2 : Int), (v2 = if (2305843009213693952 : Int) < v1 then (2305843009213693952 : Int) else v1) → ∀ (v3 : Int), v3 = shrI IntKind.u64 t (32 : Int) → ∀ (v4 : Int), v4 = IntKind.i64.wrap v3 → ∀ (v5 : Int), v5 = IntKind.i64.wrap (v4 - (2208988800 : Int)) → ∀ (v6 : Int), v6 = IntKind.i64.wrap (v2 - (2147483648 : Int)) → ∀ (v7 : Int), v7 = IntKind.i64.wrap (v5 - v6) → ∀ (v8 : Int), v8 = v7.tmod (4294967296 : Int) → ∀ (v9 : Bool), v9 = decide (v8 < (0 : Int)) → (v9 = true → ∀ (v10 : Int), v10 = IntKind.i64.wrap (v8 + (4294967296 : Int)) → ∀ (v11 : Int), v11 = IntKind.i64.wrap (v6 + v10) → ∀ (v12 : Int), v12 = IntKind.u32.wrap t → (IntKind.i64 = IntKind.i64 ∧ v11 = unixF t n) ∧ (IntKind.u32 = IntKind.u32 ∧ v12 = lowF t) ∧ True) ∧ (v9 = false → ∀ (v13 : Int), v13 = IntKind.i64.wrap (v6 + v8) → ∀ (v14 : Int), v14 = IntKind.u32.wrap t → (IntKind.i64 = IntKind.i64 ∧ v13 = unixF t n) ∧ (IntKind.u32 = IntKind.u32 ∧ v14 = lowF t) ∧ True)
theorem tieRUnix (w0 : World) (t : Int) (n : Int) : VCRUnix t n = ((recN (GC Try.prog [] w0) 20).call 17 [.int .u64 (.sym t), .int .i64 (.sym n)] [] (fun u _ => eqV u (.tup [.int .i64 (.sym (unixF t n)), .int .u32 (.sym (lowF t))]))) := by kernel_rfl
theorem pureRUnix (t n : Int) (h : U64 t ∧ I64 n) : VCRUnix t n := by
  obtain ⟨ht, hn⟩ := h
  unfold U64 at ht
  unfold I64 at hn
  intro v1 h1 v2 h2 v3 h3 v4 h4 v5 h5 v6 h6 v7 h7 v8 h8 v9 h9
  have e2 : v2 = near n := by rw [h2, h1]; unfold near clamp; split <;> split <;> (try split) <;> omega
  have b2 : -2305843009213693952 ≤ v2 ∧ v2 ≤ 2305843009213693952 := by rw [e2]; unfold near clamp; split <;> (try split) <;> omega
  rw [shr32] at h3
  have e4 : v4 = v3 := by rw [h4, i64_id] <;> omega
  have e5 : v5 = t / 4294967296 - 2208988800 := by rw [h5, i64_id] <;> omega
  have e6 : v6 = v2 - 2147483648 := by rw [h6, i64_id] <;> omega
  have e7 : v7 = v5 - v6 := by rw [h7, i64_id] <;> omega
  have t1 := Int.tmod_add_mul_tdiv v7 4294967296
  have t2 : -4294967296 < v8 ∧ v8 < 4294967296 := by
    rw [h8]
    have a := Int.tmod_lt_of_pos v7 (b := 4294967296) (by omega)
    have b := Int.lt_tmod_of_pos v7 (b := 4294967296) (by omega)
    omega
  rw [← h8] at t1
  have e8 : v8 % 4294967296 = v7 % 4294967296 := by omega
  have key : ∀ x, (0 ≤ x ∧ x < 4294967296) → x % 4294967296 = v8 % 4294967296 → v6 + x = unixF t n := by
    intro x hx hx2
    unfold unixF
    rw [← e2]
    omega
  refine ⟨fun e v10 h10 v11 h11 v12 h12 => ⟨⟨rfl, ?_⟩, ⟨rfl, by unfold lowF; rw [h12, w_u32]⟩, trivial⟩, fun e v13 h13 v14 h14 => ⟨⟨rfl, ?_⟩, ⟨rfl, by unfold lowF; rw [h14, w_u32]⟩, trivial⟩⟩
  · subst h9
    have e : v8 < 0 := by simpa using e
    have e10 : v10 = v8 + 4294967296 := by rw [h10, i64_id] <;> omega
    rw [h11, i64_id (by omega) (by omega)]
    exact key v10 (by omega) (by omega)
  · subst h9
    have e : ¬ v8 < 0 := by simpa using e
    rw [h13, i64_id (by omega) (by omega)]
    exact key v8 (by omega) rfl
theorem rUnix_ok : SpecOk Try.prog 17 rUnixSpec := by
  intro args k h
  unfold rUnixSpec at h
  split at h
  · rename_i t n
    obtain ⟨hr, h⟩ := h
    exact ⟨_, h _ rfl _ rfl, PureOk.of_tie (GC Try.prog []) (fun w => gok w namesOk_ mixed_ trivial) (fun _ => rfl) (fun _ => rfl) (args' := [.int .u64 (.sym t.val), .int .i64 (.sym n.val)]) ⟨⟨rfl, rfl⟩, ⟨rfl, rfl⟩, trivial⟩ 20 (fun w => VCRUnix t.val n.val) (fun w => tieRUnix w t.val n.val) (fun w => pureRUnix t.val n.val hr)⟩
  · exact h.elim


def shortSpec : CSpec
  | [.int .i64 d], k => ((I64 d.val)) ∧ (∀ r0 : Int, r0 = shortF d.val → k (.int .u32 (.sym r0)))
  | _, _ => False
def VCShort (d : Int) : Prop :=
  ∀ (v1 : Bool), v1 = decide (d ≤ (0 : Int)) → (v1 = true → IntKind.u32 = IntKind.u32 ∧ (0 : Int) = shortF d) ∧ (v1 = false → ∀ (v2 : Int), v2 = IntKind.i64.wrap (d - (1 : Int)) → ∀ (v3 : Int), v3 = shrI IntKind.i64 v2 (16 : Int) → ∀ (v4 : Int), v4 = IntKind.i64.wrap (v3 + (1 : Int)) → ∀ (v5 : Int), (v5 = if (4294967295 : Int) < v4 then (4294967295 : Int) else v4) → ∀ (v6 : Int), v6 = IntKind.u32.wrap v5 → IntKind.u32 = IntKind.u32 ∧ v6 = shortF d)
theorem tieShort (w0 : World) (d : Int) : VCShort d = ((recN (GC Try.prog [] w0) 20).call 16 [.int .i64 (.sym d)] [] (fun u _ => eqV u (.int .u32 (.sym (shortF d))))) := by kernel_rfl
theorem pureShort (d : Int) (h : I64 d) : VCShort d := by
  unfold I64 at h
  intro v1 h1
  refine ⟨fun e => ⟨rfl, ?_⟩, fun e v2 h2 v3 h3 v4 h4 v5 h5 v6 h6 => ⟨rfl, ?_⟩⟩
  · subst h1
    have e : d ≤ 0 := by simpa using e
    simp [shortF, e]
  · subst h1
    have e : ¬ d ≤ 0 := by simpa using e
    rw [shr16i] at h3
    have e2 : v2 = d - 1 := by rw [h2, i64_id] <;> omega
    have e4 : v4 = v3 + 1 := by rw [h4, i64_id] <;> omega
    have e4' : v4 = (d + 65535) / 65536 := by omega
    have e5 : v5 = clamp 0 4294967295 v4 := by rw [h5]; unfold clamp; split <;> split <;> omega
    have b5 : 0 ≤ v5 ∧ v5 ≤ 4294967295 := by rw [h5]; split <;> omega
    simp only [shortF, e, if_false]
    rw [← e4', ← e5, h6, w_u32]
    omega
theorem short_ok : SpecOk Try.prog 16 shortSpec := by
  intro args k h
  unfold shortSpec at h
  split at h
  · rename_i d
    obtain ⟨hr, h⟩ := h
    exact ⟨_, h _ rfl, PureOk.of_tie (GC Try.prog []) (fun w => gok w namesOk_ mixed_ trivial) (fun _ => rfl) (fun _ => rfl) (args' := [.int .i64 (.sym d.val)]) ⟨⟨rfl, rfl⟩, trivial⟩ 20 (fun w => VCShort d.val) (fun w => tieShort w d.val) (fun w => pureShort d.val hr)⟩
  · exact h.elim


def rShortSpec : CSpec
  | [.int .i64 d], k => ((I64 d.val)) ∧ (∀ r0 : Int, r0 = shortF d.val → k (.int .u32 (.sym r0)))
  | _, _ => False
def VCRShort (d : Int) : Prop :=
  ∀ (v1 : Bool), v1 = decide (d ≤ (0 : Int)) → (v1 = true → IntKind.u32 = IntKind.u32 ∧ (0 : Int) = shortF d) ∧ (v1 = false → ∀ (v2 : Int), v2 = IntKind.u64.wrap d → ∀ (v3 : Int), v3 = IntKind.u64.wrap (v2 + (65535 : Int)) → ∀ (v4 : Int), v4 = shrI IntKind.u64 v3 (16 : Int) → ∀ (v5 : Bool), v5 = decide (v4 > (4294967295 : Int)) → (v5 = true → IntKind.u32 = IntKind.u32 ∧ (4294967295 : Int) = shortF d) ∧ (v5 = false → ∀ (v6 : Int), v6 = IntKind.u32.wrap v4 → IntKind.u32 = IntKind.u32 ∧ v6 = shortF d))
theorem tieRShort (w0 : World) (d : Int) : VCRShort d = ((recN (GC Try.prog [] w0) 20).call 22 [.int .i64 (.sym d)] [] (fun u _ => eqV u (.int .u32 (.sym (shortF d))))) := by kernel_rfl
theorem pureRShort (d : Int) (h : I64 d) : VCRShort d := by
  unfold I64 at h
  intro v1 h1
  refine ⟨fun e => ⟨rfl, ?_⟩, fun e v2 h2 v3 h3 v4 h4 v5 h5 => ⟨fun e5 => ⟨rfl, ?_⟩, fun e5 v6 h6 => ⟨rfl, ?_⟩⟩⟩
  · subst h1
    have e : d ≤ 0 := by simpa using e
    simp [shortF, e]
  · subst h1 h5
    have e : ¬ d ≤ 0 := by simpa using e
    have e5 : v4 > 4294967295 := by simpa using e5
    rw [shr16u] at h4
    have e2 : v2 = d := by rw [h2, u64_id] <;> omega
    have e3 : v3 = d + 65535 := by rw [h3, u64_id] <;> omega
    simp only [shortF, e, if_false]
    rw [← e3, ← h4]
    unfold clamp
    split <;> (try split) <;> omega
  · subst h1 h5
    have e : ¬ d ≤ 0 := by simpa using e
    have e5 : ¬ v4 > 4294967295 := by simpa using e5
    rw [shr16u] at h4
    have e2 : v2 = d := by rw [h2, u64_id] <;> omega
    have e3 : v3 = d + 65535 := by rw [h3, u64_id] <;> omega
    simp only [shortF, e, if_false]
    rw [← e3, ← h4, h6, w_u32]
    unfold clamp
    split <;> (try split) <;> omega
theorem rShort_ok : SpecOk Try.prog 22 rShortSpec := by
  intro args k h
  unfold rShortSpec at h
  split at h
  · rename_i d
    obtain ⟨hr, h⟩ := h
    exact ⟨_, h _ rfl, PureOk.of_tie (GC Try.prog []) (fun w => gok w namesOk_ mixed_ trivial) (fun _ => rfl) (fun _ => rfl) (args' := [.int .i64 (.sym d.val)]) ⟨⟨rfl, rfl⟩, trivial⟩ 20 (fun w => VCRShort d.val) (fun w => tieRShort w d.val) (fun w => pureRShort d.val hr)⟩
  · exact h.elim


def measureSpec : CSpec
  | [.int .u64 a, .int .u64 b, .int .u64 c, .int .u64 d], k => ((U64 a.val) ∧ (U64 b.val) ∧ (U64 c.val) ∧ (U64 d.val)) ∧ (∀ r0 : Int, r0 = measF a.val b.val c.val d.val → ∀ r1 : Int, r1 = delayF a.val b.val c.val d.val → k (.agg [.int .i64 (.sym r0), .int .i64 (.sym r1)]))
  | _, _ => False
def VCMeasure (a : Int) (b : Int) (c : Int) (d : Int) : Prop :=
  ∀ (v1 : Int), v1 = IntKind.u64.wrap (b - a) → ∀ (v2 : Int), v2 = IntKind.i64.wrap v1 → ∀ (v3 : Int), v3 = IntKind.u64.wrap (c - d) → ∀ (v4 : Int), v4 = IntKind.i64.wrap v3 → ∀ (v5 : Int), v5 = shrI IntKind.i64 v2 (1 : Int) → ∀ (v6 : Int), v6 = IntKind.i64.wrap ((0 : Int) + v5) → ∀ (v7 : Int), v7 = bitI BinOp.and IntKind.i64 v2 (1 : Int) → ∀ (v8 : Int), v8 = IntKind.i64.wrap ((0 : Int) + v7) → ∀ (v9 : Int), v9 = shrI IntKind.i64 v4 (1 : Int) → ∀ (v10 : Int), v10 = IntKind.i64.wrap (v6 + v9) → ∀ (v11 : Int), v11 = bitI BinOp.and IntKind.i64 v4 (1 : Int) → ∀ (v12 : Int), v12 = IntKind.i64.wrap (v8 + v11) → ∀ (v13 : Int), v13 = shrI IntKind.i64 v12 (1 : Int) → ∀ (v14 : Int), v14 = IntKind.i64.wrap (v10 + v13) → ∀ (v15 : Int), v15 = IntKind.u64.wrap (d - a) → ∀ (v16 : Int), v16 = IntKind.u64.wrap (c - b) → ∀ (v17 : Int), v17 = IntKind.u64.wrap (v15 - v16) → ∀ (v18 : Int), v18 = IntKind.i64.wrap v17 → (IntKind.i64 = IntKind.i64 ∧ v14 = measF a b c d) ∧ (IntKind.i64 = IntKind.i64 ∧ v18 = delayF a b c d) ∧ True
theorem tieMeasure (w0 : World) (a : Int) (b : Int) (c : Int) (d : Int) : VCMeasure a b c d = ((recN (GC Try.prog [] w0) 20).call 12 [.int .u64 (.sym a), .int .u64 (.sym b), .int .u64 (.sym c), .int .u64 (.sym d)] [] (fun u _ => eqV u (.agg [.int .i64 (.sym (measF a b c d)), .int .i64 (.sym (delayF a b c d))]))) := by kernel_rfl
theorem pureMeasure (a b c d : Int) (h : U64 a ∧ U64 b ∧ U64 c ∧ U64 d) : VCMeasure a b c d := by
  clear h
  intro v1 h1 v2 h2 v3 h3 v4 h4 v5 h5 v6 h6 v7 h7 v8 h8 v9 h9 v10 h10 v11 h11 v12 h12 v13 h13 v14 h14 v15 h15 v16 h16 v17 h17 v18 h18
  refine ⟨⟨rfl, ?_⟩, ⟨rfl, ?_⟩, trivial⟩
  · have e2 : v2 = diffF b a := by rw [h2, h1, i64_u64]; rfl
    have e4 : v4 = diffF c d := by rw [h4, h3, i64_u64]; rfl
    have b2 : I64 v2 := by rw [e2]; exact i64_in _
    have b4 : I64 v4 := by rw [e4]; exact i64_in _
    unfold I64 at b2 b4
    rw [shr1i] at h5 h9 h13
    rw [and1_i64] at h7 h11
    unfold measF
    rw [← e2, ← e4]
    clear h1 h2 h3 h4 e2 e4 h15 h16 h17 h18
    rw [i64_id (by omega) (by omega)] at h6
    rw [i64_id (by omega) (by omega)] at h8
    rw [i64_id (by omega) (by omega)] at h10
    rw [i64_id (by omega) (by omega)] at h12
    rw [i64_id (by omega) (by omega)] at h14
    omega
  · rw [h18, h17, h16, h15, i64_u64, i64_sub_u64]
    unfold delayF diffF
    congr 1
    omega
theorem measure_ok : SpecOk Try.prog 12 measureSpec := by
  intro args k h
  unfold measureSpec at h
  split at h
  · rename_i a b c d
    obtain ⟨hr, h⟩ := h
    exact ⟨_, h _ rfl _ rfl, PureOk.of_tie (GC Try.prog []) (fun w => gok w namesOk_ mixed_ trivial) (fun _ => rfl) (fun _ => rfl) (args' := [.int .u64 (.sym a.val), .int .u64 (.sym b.val), .int .u64 (.sym c.val), .int .u64 (.sym d.val)]) ⟨⟨rfl, rfl⟩, ⟨rfl, rfl⟩, ⟨rfl, rfl⟩, ⟨rfl, rfl⟩, trivial⟩ 20 (fun w => VCMeasure a.val b.val c.val d.val) (fun w => tieMeasure w a.val b.val c.val d.val) (fun w => pureMeasure a.val b.val c.val d.val hr)⟩
  · exact h.elim


theorem mid (x y : Int) : x / 2 + y / 2 = (x + y) / 2 - (if x % 2 = 1 ∧ y % 2 = 1 then 1 else 0) := by split <;> omega
theorem tmod2 (x : Int) : (x.tmod 2 != 0) = decide (x % 2 = 1) := by
  have t1 := Int.tmod_add_mul_tdiv x 2
  have a := Int.tmod_lt_of_pos x (b := 2) (by omega)
  have b := Int.lt_tmod_of_pos x (b := 2) (by omega)
  by_cases h : x % 2 = 1
  · have : x.tmod 2 ≠ 0 := by omega
    simp [h, this]
  · have : x.tmod 2 = 0 := by omega
    simp [h, this]
theorem delay_eq (a b c d : Int) : IntKind.i64.wrap (IntKind.u64.wrap (IntKind.u64.wrap (IntKind.i64.wrap (IntKind.u64.wrap (d - a))) - IntKind.u64.wrap (IntKind.i64.wrap (IntKind.u64.wrap (c - b))))) = delayF a b c d := by
  rw [i64_u64, i64_sub_u64, i64_u64, i64_u64]
  unfold delayF diffF
  rw [w_i64, w_i64, w_i64, w_i64]
  omega
def rMeasureSpec : CSpec
  | [.int .u64 a, .int .u64 b, .int .u64 c, .int .u64 d], k => ((U64 a.val) ∧ (U64 b.val) ∧ (U64 c.val) ∧ (U64 d.val)) ∧ (∀ r0 : Int, r0 = measF a.val b.val c.val d.val → ∀ r1 : Int, r1 = delayF a.val b.val c.val d.val → k (.agg [.int .i64 (.sym r0), .int .i64 (.sym r1)]))
  | _, _ => False
def VCRMeasure (a : Int) (b : Int) (c : Int) (d : Int) : Prop :=
  ∀ (v1 : Int), v1 = IntKind.u64.wrap (b - a) → ∀ (v2 : Int), v2 = IntKind.i64.wrap v1 → ∀ (v3 : Int), v3 = IntKind.u64.wrap (c - d) → ∀ (v4 : Int), v4 = IntKind.i64.wrap v3 → ∀ (v5 : Int), v5 = shrI IntKind.i64 v2 (1 : Int) → ∀ (v6 : Int), v6 = shrI IntKind.i64 v4 (1 : Int) → ∀ (v7 : Int), v7 = IntKind.i64.wrap (v5 + v6) → ∀ (v8 : Int), v8 = v2.tmod (2 : Int) → ∀ (v9 : Bool), v9 = (v8 != (0 : Int)) → (v9 = true → ∀ (v10 : Int), v10 = v4.tmod (2 : Int) → ∀ (v11 : Bool), v11 = (v10 != (0 : Int)) → (v11 = true → ∀ (v12 : Int), v12 = IntKind.i64.wrap (v7 + (1 : Int)) → ∀ (v13 : Int), v13 = IntKind.u64.wrap (d - a) → ∀ (v14 : Int), v14 = IntKind.i64.wrap v13 → ∀ (v15 : Int), v15 = IntKind.u64.wrap v14 → ∀ (v16 : Int), v16 = IntKind.u64.wrap (c - b) → ∀ (v17 : Int), v17 = IntKind.i64.wrap v16 → ∀ (v18 : Int), v18 = IntKind.u64.wrap v17 → ∀ (v19 : Int), v19 = IntKind.u64.wrap (v15 - v18) → ∀ (v20 : Int), v20 = IntKind.i64.wrap v19 → (IntKind.i64 = IntKind.i64 ∧ v12 = measF a b c d) ∧ (IntKind.i64 = IntKind.i64 ∧ v20 = delayF a b c d) ∧ True) ∧ (v11 = false → ∀ (v21 : Int), v21 = IntKind.u64.wrap (d - a) → ∀ (v22 : Int), v22 = IntKind.i64.wrap v21 → ∀ (v23 : Int), v23 = IntKind.u64.wrap v22 → ∀ (v24 : Int), v24 = IntKind.u64.wrap (c - b) → ∀ (v25 : Int), v25 = IntKind.i64.wrap v24 → ∀ (v26 : Int), v26 = IntKind.u64.wrap v25 → ∀ (v27 : Int), v27 = IntKind.u64.wrap (v23 - v26) → ∀ (v28 : Int), v28 = IntKind.i64.wrap v27 → (IntKind.i64 = IntKind.i64 ∧ v7 = measF a b c d) ∧ (IntKind.i64 = IntKind.i64 ∧ v28 = delayF a b c d) ∧ True)) ∧ (v9 = false → ∀ (v29 : Int), v29 = IntKind.u64.wrap (d - a) → ∀ (v30 : Int), v30 = IntKind.i64.wrap v29 → ∀ (v31 : Int), v31 = IntKind.u64.wrap v30 → ∀ (v32 : Int), v32 = IntKind.u64.wrap (c - b) → ∀ (v33 : Int), v33 = IntKind.i64.wrap v32 → ∀ (v34 : Int), v34 = IntKind.u64.wrap v33 → ∀ (v35 : Int), v35 = IntKind.u64.wrap (v31 - v34) → ∀ (v36 : Int), v36 = IntKind.i64.wrap v35 → (IntKind.i64 = IntKind.i64 ∧ v7 = measF a b c d) ∧ (IntKind.i64 = IntKind.i64 ∧ v36 = delayF a b c d) ∧ True)
theorem tieRMeasure (w0 : World) (a : Int) (b : Int) (c : Int) (d : Int) : VCRMeasure a b c d = ((recN (GC Try.prog [] w0) 20).call 21 [.int .u64 (.sym a), .int .u64 (.sym b), .int .u64 (.sym c), .int .u64 (.sym d)] [] (fun u _ => eqV u (.agg [.int .i64 (.sym (measF a b c d)), .int .i64 (.sym (delayF a b c d))]))) := by kernel_rfl
theorem pureRMeasure (a b c d : Int) (h : U64 a ∧ U64 b ∧ U64 c ∧ U64 d) : VCRMeasure a b c d := by
  clear h
  intro v1 h1 v2 h2 v3 h3 v4 h4 v5 h5 v6 h6 v7 h7 v8 h8 v9 h9
  have e2 : v2 = diffF b a := by rw [h2, h1, i64_u64]; rfl
  have e4 : v4 = diffF c d := by rw [h4, h3, i64_u64]; rfl
  have b2 : I64 v2 := by rw [e2]; exact i64_in _
  have b4 : I64 v4 := by rw [e4]; exact i64_in _
  unfold I64 at b2 b4
  rw [shr1i] at h5 h6
  have e7 : v7 = (v2 + v4) / 2 - (if v2 % 2 = 1 ∧ v4 % 2 = 1 then 1 else 0) := by
    rw [← mid, h7, h5, h6, i64_id] <;> omega
  rw [h8, tmod2] at h9
  refine ⟨fun e v10 h10 v11 h11 => ?_, fun e v29 h29 v30 h30 v31 h31 v32 h32 v33 h33 v34 h34 v35 h35 v36 h36 => ⟨⟨rfl, ?_⟩, ⟨rfl, ?_⟩, trivial⟩⟩
  · subst h9
    have e : v2 % 2 = 1 := by simpa using e
    rw [h10, tmod2] at h11
    refine ⟨fun e2' v12 h12 v13 h13 v14 h14 v15 h15 v16 h16 v17 h17 v18 h18 v19 h19 v20 h20 => ⟨⟨rfl, ?_⟩, ⟨rfl, ?_⟩, trivial⟩, fun e2' v21 h21 v22 h22 v23 h23 v24 h24 v25 h25 v26 h26 v27 h27 v28 h28 => ⟨⟨rfl, ?_⟩, ⟨rfl, ?_⟩, trivial⟩⟩
    · subst h11
      have e3 : v4 % 2 = 1 := by simpa using e2'
      rw [if_pos ⟨e, e3⟩] at e7
      rw [h12, i64_id (by omega) (by omega)]
      unfold measF
      rw [← e2, ← e4]
      omega
    · rw [h20, h19, h18, h17, h16, h15, h14, h13]; exact delay_eq a b c d
    · subst h11
      have e3 : ¬ v4 % 2 = 1 := by simpa using e2'
      rw [if_neg (fun hh => e3 hh.2)] at e7
      unfold measF
      rw [← e2, ← e4]
      omega
    · rw [h28, h27, h26, h25, h24, h23, h22, h21]; exact delay_eq a b c d
  · subst h9
    have e : ¬ v2 % 2 = 1 := by simpa using e
    rw [if_neg (fun hh => e hh.1)] at e7
    unfold measF
    rw [← e2, ← e4]
    omega
  · rw [h36, h35, h34, h33, h32, h31, h30, h29]; exact delay_eq a b c d
theorem rMeasure_ok : SpecOk Try.prog 21 rMeasureSpec := by
  intro args k h
  unfold rMeasureSpec at h
  split at h
  · rename_i a b c d
    obtain ⟨hr, h⟩ := h
    exact ⟨_, h _ rfl _ rfl, PureOk.of_tie (GC Try.prog []) (fun w => gok w namesOk_ mixed_ trivial) (fun _ => rfl) (fun _ => rfl) (args' := [.int .u64 (.sym a.val), .int .u64 (.sym b.val), .int .u64 (.sym c.val), .int .u64 (.sym d.val)]) ⟨⟨rfl, rfl⟩, ⟨rfl, rfl⟩, ⟨rfl, rfl⟩, ⟨rfl, rfl⟩, trivial⟩ 20 (fun w => VCRMeasure a.val b.val c.val d.val) (fun w => tieRMeasure w a.val b.val c.val d.val) (fun w => pureRMeasure a.val b.val c.val d.val hr)⟩
  · exact h.elim


end Go.Proofs.Ytljdjdckgkpnpaa.C
