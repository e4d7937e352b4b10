import Derived.Test.YtaaobpalpcdlbaaSxN
import Derived.Test.YtaaobpalpcdlbaaSxP
import Derived.Test.YtaaobpalpcdlbaaSxR
import Derived.Test.YtaaobpalpcdlbaaProg
import Derived.Test.YtaaobpalpcdlbaaXdb3
import Derived.KernelRfl
namespace Go.Proofs.Ytaaobpalpcdlbaa.Bits
open Go Go.Sx Go.RowKit Go.EC
set_option linter.unusedVariables false
set_option maxRecDepth 100000
def xd4Spec : List (FuncId × CSpec) := [(42, rawSpec), (89, littleSpec)]
theorem xd4_ok : SpecsOk Try.prog xd4Spec := ⟨raw_ok, little_ok, trivial⟩
theorem lit0 : bytesL [(0 : Nat), (0 : Nat), (0 : Nat), (0 : Nat), (0 : Nat), (0 : Nat), (0 : Nat), (0 : Nat), (0 : Nat), (0 : Nat), (0 : Nat), (0 : Nat), (0 : Nat), (0 : Nat), (0 : Nat), (0 : Nat), (0 : Nat), (0 : Nat), (0 : Nat), (0 : Nat), (0 : Nat), (0 : Nat), (0 : Nat), (0 : Nat), (0 : Nat), (0 : Nat), (0 : Nat), (0 : Nat), (0 : Nat), (0 : Nat), (0 : Nat), (0 : Nat)] = littleF 0 := by decide +kernel
theorem ba_eq (a b : ByteArray) : (a == b) = decide (a = b) := by
  cases a with
  | mk a => cases b with
    | mk b =>
      show (a == b) = _
      by_cases h : a = b
      · subst h; simp
      · rw [decide_eq_false (fun z => h (by injection z))]; simpa using h
theorem sha_e {s u : ByteArray} (h : rawE s u ≠ 0) : shaF s u = ByteArray.empty ∧ shaE s u = rawE s u := by
  unfold shaF shaE; exact ⟨if_pos (Or.inl h), if_pos h⟩
theorem sha_z {s u : ByteArray} (h : rawE s u = 0) (h2 : rawF s u = littleF 0) : shaF s u = ByteArray.empty ∧ shaE s u = 15 := by
  unfold shaF shaE; exact ⟨if_pos (Or.inr h2), (if_neg (fun z => z h)).trans (if_pos h2)⟩
theorem sha_ok {s u : ByteArray} (h : rawE s u = 0) (h2 : rawF s u ≠ littleF 0) : shaF s u = rawF s u ∧ shaE s u = 0 := by
  unfold shaF shaE; exact ⟨if_neg (fun z => z.elim (fun z => z h) h2), (if_neg (fun z => z h)).trans (if_neg h2)⟩
theorem brBA {a b : ByteArray} {A B : Prop} (h1 : a = b → A) (h2 : a ≠ b → B) (v : Bool) (h : v = (a == b)) : (v = true → A) ∧ (v = false → B) := by
  rw [ba_eq] at h
  exact br h1 h2 v h
def sharedSpec : CSpec
  | [.str s, .str u], k => (True) ∧ (∀ r0 : ByteArray, r0 = (shaF s.val u.val) → ∀ r1 : Int, r1 = (shaE s.val u.val) → k (.tup [.str (.sym r0), .int .i64 (.sym r1)]))
  | _, _ => False
def VCShared (s : ByteArray) (u : ByteArray) : Prop :=
  True /\ ∀ (v1 : ByteArray), v1 = rawF s u -> ∀ v2, v2 = rawE s u -> ∀ v3, v3 = (v2 != (0 : Int)) -> (v3 = true -> bytesL [] = shaF s u /\ (IntKind.i64 = IntKind.i64 /\ v2 = shaE s u) /\ True) /\ (v3 = false -> (U64 0 /\ U64 0 /\ U64 0 /\ U64 0) /\ ∀ (v4 : ByteArray), v4 = bytesL [0, 0, 0, 0, 0, 0, 0, 0, 0, 0, 0, 0, 0, 0, 0, 0, 0, 0, 0, 0, 0, 0, 0, 0, 0, 0, 0, 0, 0, 0, 0, 0] -> ∀ v5, v5 = (v1 == v4) -> (v5 = true -> bytesL [] = shaF s u /\ (IntKind.i64 = IntKind.i64 /\ (15 : Int) = shaE s u) /\ True) /\ (v5 = false -> v1 = shaF s u /\ (IntKind.i64 = IntKind.i64 /\ (0 : Int) = shaE s u) /\ True))
theorem tieShared (w0 : World) (s : ByteArray) (u : ByteArray) : VCShared s u = ((recN (GC Try.prog xd4Spec w0) 40).call 44 [.str (.sym s), .str (.sym u)] [] (fun r__ _ => eqV r__ (.tup [.str (.sym (shaF s u)), .int .i64 (.sym (shaE s u))]))) := by kernel_rfl
theorem pureShared (s u : ByteArray) (h : True) : VCShared s u := by
  refine ⟨trivial, fun v1 h1 v2 h2 => brN (fun c => ?_) fun c => ⟨⟨U64_0, U64_0, U64_0, U64_0⟩, fun v4 h4 => brBA (fun d => ?_) (fun d => ?_)⟩⟩
  · obtain ⟨k1, k2⟩ := sha_e (h2 ▸ c)
    exact ⟨k1.symm, ⟨rfl, h2.trans k2.symm⟩, trivial⟩
  · obtain ⟨k1, k2⟩ := sha_z (h2 ▸ c) (h1 ▸ (d.trans (h4.trans lit0)))
    exact ⟨k1.symm, ⟨rfl, k2.symm⟩, trivial⟩
  · obtain ⟨k1, k2⟩ := sha_ok (s := s) (u := u) (h2 ▸ c) (fun z => d (h1.trans (z.trans (lit0.symm.trans h4.symm))))
    exact ⟨h1.trans k1.symm, ⟨rfl, k2.symm⟩, trivial⟩
theorem shared_ok : SpecOk Try.prog 44 sharedSpec := by
  intro args k h
  unfold sharedSpec at h
  split at h
  · rename_i s u
    obtain ⟨hr, h⟩ := h
    exact ⟨_, h _ rfl _ rfl, PureOk.of_tie (GC Try.prog xd4Spec) (fun w__ => gok w__ namesOk_ mixed_ xd4_ok) (fun _ => rfl) (fun _ => rfl) (args' := [.str (.sym s.val), .str (.sym u.val)]) ⟨rfl, rfl, trivial⟩ 40 (fun w__ => VCShared s.val u.val) (fun w__ => tieShared w__ s.val u.val) (fun w__ => pureShared s.val u.val hr)⟩
  · exact h.elim

end Go.Proofs.Ytaaobpalpcdlbaa.Bits
