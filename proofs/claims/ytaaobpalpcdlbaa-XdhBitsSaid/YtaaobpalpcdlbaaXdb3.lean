import Derived.Test.YtaaobpalpcdlbaaSxN
import Derived.Test.YtaaobpalpcdlbaaSxP
import Derived.Test.YtaaobpalpcdlbaaSxR
import Derived.Test.YtaaobpalpcdlbaaProg
import Derived.Test.YtaaobpalpcdlbaaXdh2
import Derived.KernelRfl
namespace Go.Proofs.Ytaaobpalpcdlbaa.Bits
open Go Go.Sx Go.RowKit Go.EC
set_option linter.unusedVariables false
set_option maxRecDepth 100000
def rawE (k u : ByteArray) : Int := if (k.size : Int) = 32 then erF u.size 32 else erF k.size 32
def rawF (k u : ByteArray) : ByteArray := if (k.size : Int) = 32 ∧ (u.size : Int) = 32 then littleF (lxI (cvF k) (coF u)) else ByteArray.empty
def shaE (k u : ByteArray) : Int := if rawE k u ≠ 0 then rawE k u else if rawF k u = littleF 0 then 15 else 0
def shaF (k u : ByteArray) : ByteArray := if rawE k u ≠ 0 ∨ rawF k u = littleF 0 then ByteArray.empty else rawF k u
def xd3Spec : List (FuncId × CSpec) := [(40, clampSpec), (88, coordSpec), (90, ladderSpec), (89, littleSpec)]
theorem xd3_ok : SpecsOk Try.prog xd3Spec := ⟨clamp_ok, coord_ok, ladder_ok, little_ok, trivial⟩
theorem cv_in (s : ByteArray) : 0 ≤ cvF s ∧ cvF s < 115792089237316195423570985008687907853269984665640564039457584007913129639936 := by
  unfold cvF clF; split <;> omega
theorem co_in (s : ByteArray) : inP5 (coF s) := by
  unfold coF; split
  · exact in5 _
  · exact (by decide : inP5 0)
theorem lcv (s : ByteArray) : val4 (limb (cvF s) 0) (limb (cvF s) 1) (limb (cvF s) 2) (limb (cvF s) 3) = cvF s := val4_limb' (cv_in s).1 (cv_in s).2
theorem lco (s : ByteArray) : val4 (limb (coF s) 0) (limb (coF s) 1) (limb (coF s) 2) (limb (coF s) 3) = coF s := lv5 (co_in s)
theorem raw_e1 {s u : ByteArray} (h : (s.size : Int) ≠ 32) : rawF s u = ByteArray.empty ∧ rawE s u = erF s.size 32 := by
  unfold rawF rawE; rw [if_neg h, if_neg (fun z => h z.1)]; exact ⟨rfl, rfl⟩
theorem raw_e2 {s u : ByteArray} (h : (s.size : Int) = 32) (h2 : (u.size : Int) ≠ 32) : rawF s u = ByteArray.empty ∧ rawE s u = erF u.size 32 := by
  unfold rawF rawE; rw [if_pos h, if_neg (fun z => h2 z.2)]; exact ⟨rfl, rfl⟩
theorem raw_yes {s u : ByteArray} (h : (s.size : Int) = 32) (h2 : (u.size : Int) = 32) : rawF s u = littleF (lxI (cvF s) (coF u)) ∧ rawE s u = 0 := by
  unfold rawF rawE; rw [if_pos h, if_pos ⟨h, h2⟩, h2]; exact ⟨rfl, rfl⟩
def rawSpec : CSpec
  | [.str s, .str u], k => (True) ∧ (∀ r0 : ByteArray, r0 = (rawF s.val u.val) → ∀ r1 : Int, r1 = (rawE s.val u.val) → k (.tup [.str (.sym r0), .int .i64 (.sym r1)]))
  | _, _ => False
def VCRaw (s : ByteArray) (u : ByteArray) : Prop :=
  True /\ ∀ v1, v1 = cvF s -> ∀ v2, v2 = erF ↑s.size (32 : Int) -> ∀ v3, v3 = (v2 != (0 : Int)) -> (v3 = true -> bytesL [] = rawF s u /\ (IntKind.i64 = IntKind.i64 /\ v2 = rawE s u) /\ True) /\ (v3 = false -> True /\ ∀ v4, v4 = coF u -> ∀ v5, v5 = erF ↑u.size (32 : Int) -> ∀ v6, v6 = (v5 != (0 : Int)) -> (v6 = true -> bytesL [] = rawF s u /\ (IntKind.i64 = IntKind.i64 /\ v5 = rawE s u) /\ True) /\ (v6 = false -> (U64 (limb v1 0) /\ U64 (limb v1 1) /\ U64 (limb v1 2) /\ U64 (limb v1 3) /\ U64 (limb v4 0) /\ U64 (limb v4 1) /\ U64 (limb v4 2) /\ U64 (limb v4 3)) /\ ∀ v7, v7 = lxI (val4 (limb v1 0) (limb v1 1) (limb v1 2) (limb v1 3)) (val4 (limb v4 0) (limb v4 1) (limb v4 2) (limb v4 3)) -> (U64 (limb v7 0) /\ U64 (limb v7 1) /\ U64 (limb v7 2) /\ U64 (limb v7 3)) /\ ∀ (v8 : ByteArray), v8 = littleF (val4 (limb v7 0) (limb v7 1) (limb v7 2) (limb v7 3)) -> v8 = rawF s u /\ (IntKind.i64 = IntKind.i64 /\ (0 : Int) = rawE s u) /\ True))
theorem tieRaw (w0 : World) (s : ByteArray) (u : ByteArray) : VCRaw s u = ((recN (GC Try.prog xd3Spec w0) 40).call 42 [.str (.sym s), .str (.sym u)] [] (fun r__ _ => eqV r__ (.tup [.str (.sym (rawF s u)), .int .i64 (.sym (rawE s u))]))) := by kernel_rfl
theorem pureRaw (s u : ByteArray) (h : True) : VCRaw s u := by
  have L : ∀ x j, U64 (limb x j) := limb_in
  refine ⟨trivial, fun v1 h1 v2 h2 => brN (fun c => ?_) fun c => ⟨trivial, fun v4 h4 v5 h5 => brN (fun d => ?_) fun d => ⟨⟨L .., L .., L .., L .., L .., L .., L .., L ..⟩, fun v7 h7 => ⟨⟨L .., L .., L .., L ..⟩, fun v8 h8 => ?_⟩⟩⟩⟩
  · obtain ⟨k1, k2⟩ := raw_e1 (u := u) (erF_ne.1 (h2 ▸ c))
    exact ⟨k1.symm, ⟨rfl, h2.trans k2.symm⟩, trivial⟩
  · obtain ⟨k1, k2⟩ := raw_e2 (er0 (h2 ▸ c)) (erF_ne.1 (h5 ▸ d))
    exact ⟨k1.symm, ⟨rfl, h5.trans k2.symm⟩, trivial⟩
  · obtain ⟨k1, k2⟩ := raw_yes (er0 (h2 ▸ c)) (er0 (h5 ▸ d))
    rw [h1, h4, lcv, lco] at h7
    rw [h7, lv5 (lxI_in ..)] at h8
    exact ⟨h8.trans k1.symm, ⟨rfl, k2.symm⟩, trivial⟩
theorem raw_ok : SpecOk Try.prog 42 rawSpec := by
  intro args k h
  unfold rawSpec at h
  split at h
  · rename_i s u
    obtain ⟨hr, h⟩ := h
    exact ⟨_, h _ rfl _ rfl, PureOk.of_tie (GC Try.prog xd3Spec) (fun w__ => gok w__ namesOk_ mixed_ xd3_ok) (fun _ => rfl) (fun _ => rfl) (args' := [.str (.sym s.val), .str (.sym u.val)]) ⟨rfl, rfl, trivial⟩ 40 (fun w__ => VCRaw s.val u.val) (fun w__ => tieRaw w__ s.val u.val) (fun w__ => pureRaw s.val u.val hr)⟩
  · exact h.elim

end Go.Proofs.Ytaaobpalpcdlbaa.Bits
