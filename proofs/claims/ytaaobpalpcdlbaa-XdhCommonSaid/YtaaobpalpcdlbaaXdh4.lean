import Derived.Test.YtaaobpalpcdlbaaSxN
import Derived.Test.YtaaobpalpcdlbaaSxP
import Derived.Test.YtaaobpalpcdlbaaSxR
import Derived.Test.YtaaobpalpcdlbaaProg
import Derived.Test.YtaaobpalpcdlbaaXdh3
import Derived.KernelRfl
namespace Go.Proofs.Ytaaobpalpcdlbaa.Bits
open Go Go.Sx Go.RowKit Go.EC
set_option linter.unusedVariables false
set_option maxRecDepth 100000
def xd4Spec : List (FuncId × CSpec) := [(42, rawSpec), (89, littleSpec), (43, rRawSpec), (48, rLittleSpec), (127, rTurnedSpec), (47, rFromLittleSpec), (88, coordSpec), (91, rCoordSpec), (99, timesSpec), (100, plusSpec), (101, squareSpec), (20, mPowSpec), (94, rMul3Spec), (92, rAdd3Spec), (29, rSubSpec), (21, r2PowSpec)]
theorem xd4_ok : SpecsOk Try.prog xd4Spec := ⟨raw_ok, little_ok, rRaw_ok, rLittle_ok, rTurned_ok, rFromLittle_ok, coord_ok, rCoord_ok, times_ok, plus_ok, square_ok, mPow_ok, rMul3_ok, rAdd3_ok, rSub_ok, r2Pow_ok, trivial⟩
def pubF (k : ByteArray) : ByteArray := rawF k (littleF 9)
def pubE (k : ByteArray) : Int := rawE k (littleF 9)
def onY (x : Int) : Int := t5 x (a5 (t5 x (a5 x 486662)) 1)
def onF (u : ByteArray) : Bool := decide ((u.size : Int) = 32 ∧ (onY (coF u) = 0 ∨ onY (coF u) ^ ((p25 - 1) / 2) % P5 = 1))
theorem lit0 : bytesL [(0 : Nat), (0 : Nat), (0 : Nat), (0 : Nat), (0 : Nat), (0 : Nat), (0 : Nat), (0 : Nat), (0 : Nat), (0 : Nat), (0 : Nat), (0 : Nat), (0 : Nat), (0 : Nat), (0 : Nat), (0 : Nat), (0 : Nat), (0 : Nat), (0 : Nat), (0 : Nat), (0 : Nat), (0 : Nat), (0 : Nat), (0 : Nat), (0 : Nat), (0 : Nat), (0 : Nat), (0 : Nat), (0 : Nat), (0 : Nat), (0 : Nat), (0 : Nat)] = littleF 0 := by decide +kernel
theorem lit9 : bytesL [(9 : Nat), (0 : Nat), (0 : Nat), (0 : Nat), (0 : Nat), (0 : Nat), (0 : Nat), (0 : Nat), (0 : Nat), (0 : Nat), (0 : Nat), (0 : Nat), (0 : Nat), (0 : Nat), (0 : Nat), (0 : Nat), (0 : Nat), (0 : Nat), (0 : Nat), (0 : Nat), (0 : Nat), (0 : Nat), (0 : Nat), (0 : Nat), (0 : Nat), (0 : Nat), (0 : Nat), (0 : Nat), (0 : Nat), (0 : Nat), (0 : Nat), (0 : Nat)] = littleF 9 := by decide +kernel
theorem ba_eq (a b : ByteArray) : (a == b) = decide (a = b) := by
  cases a with
  | mk a => cases b with
    | mk b =>
      show (a == b) = _
      by_cases h : a = b
      · subst h; simp
      · rw [decide_eq_false (fun z => h (by injection z))]; simpa using h
theorem sha_e {s u : ByteArray} (h : rawE s u ≠ 0) : shaF s u = ByteArray.empty ∧ shaE s u = rawE s u := by
  unfold shaF shaE; exact ⟨if_pos (Or.inl h), if_pos h⟩
theorem sha_z {s u : ByteArray} (h : rawE s u = 0) (h2 : rawF s u = littleF 0) : shaF s u = ByteArray.empty ∧ shaE s u = 15 := by
  unfold shaF shaE; exact ⟨if_pos (Or.inr h2), (if_neg (fun z => z h)).trans (if_pos h2)⟩
theorem sha_ok {s u : ByteArray} (h : rawE s u = 0) (h2 : rawF s u ≠ littleF 0) : shaF s u = rawF s u ∧ shaE s u = 0 := by
  unfold shaF shaE; exact ⟨if_neg (fun z => z.elim (fun z => z h) h2), (if_neg (fun z => z h)).trans (if_neg h2)⟩
theorem brBA {a b : ByteArray} {A B : Prop} (h1 : a = b → A) (h2 : a ≠ b → B) (v : Bool) (h : v = (a == b)) : (v = true → A) ∧ (v = false → B) := by
  rw [ba_eq] at h
  exact br h1 h2 v h
def sharedSpec : CSpec
  | [.str s, .str u], k => (True) ∧ (∀ r0 : ByteArray, r0 = (shaF s.val u.val) → ∀ r1 : Int, r1 = (shaE s.val u.val) → k (.tup [.str (.sym r0), .int .i64 (.sym r1)]))
  | _, _ => False
def VCShared (s : ByteArray) (u : ByteArray) : Prop :=
  True /\ ∀ (v1 : ByteArray), v1 = rawF s u -> ∀ v2, v2 = rawE s u -> ∀ v3, v3 = (v2 != (0 : Int)) -> (v3 = true -> bytesL [] = shaF s u /\ (IntKind.i64 = IntKind.i64 /\ v2 = shaE s u) /\ True) /\ (v3 = false -> (U64 0 /\ U64 0 /\ U64 0 /\ U64 0) /\ ∀ (v4 : ByteArray), v4 = bytesL [0, 0, 0, 0, 0, 0, 0, 0, 0, 0, 0, 0, 0, 0, 0, 0, 0, 0, 0, 0, 0, 0, 0, 0, 0, 0, 0, 0, 0, 0, 0, 0] -> ∀ v5, v5 = (v1 == v4) -> (v5 = true -> bytesL [] = shaF s u /\ (IntKind.i64 = IntKind.i64 /\ (15 : Int) = shaE s u) /\ True) /\ (v5 = false -> v1 = shaF s u /\ (IntKind.i64 = IntKind.i64 /\ (0 : Int) = shaE s u) /\ True))
theorem tieShared (w0 : World) (s : ByteArray) (u : ByteArray) : VCShared s u = ((recN (GC Try.prog xd4Spec w0) 40).call 44 [.str (.sym s), .str (.sym u)] [] (fun r__ _ => eqV r__ (.tup [.str (.sym (shaF s u)), .int .i64 (.sym (shaE s u))]))) := by kernel_rfl
theorem pureShared (s u : ByteArray) (h : True) : VCShared s u := by
  refine ⟨trivial, fun v1 h1 v2 h2 => brN (fun c => ?_) fun c => ⟨⟨U64_0, U64_0, U64_0, U64_0⟩, fun v4 h4 => brBA (fun d => ?_) (fun d => ?_)⟩⟩
  · obtain ⟨k1, k2⟩ := sha_e (h2 ▸ c)
    exact ⟨k1.symm, ⟨rfl, h2.trans k2.symm⟩, trivial⟩
  · obtain ⟨k1, k2⟩ := sha_z (h2 ▸ c) (h1 ▸ (d.trans (h4.trans lit0)))
    exact ⟨k1.symm, ⟨rfl, k2.symm⟩, trivial⟩
  · obtain ⟨k1, k2⟩ := sha_ok (s := s) (u := u) (h2 ▸ c) (fun z => d (h1.trans (z.trans (lit0.symm.trans h4.symm))))
    exact ⟨h1.trans k1.symm, ⟨rfl, k2.symm⟩, trivial⟩
theorem shared_ok : SpecOk Try.prog 44 sharedSpec := by
  intro args k h
  unfold sharedSpec at h
  split at h
  · rename_i s u
    obtain ⟨hr, h⟩ := h
    exact ⟨_, h _ rfl _ rfl, PureOk.of_tie (GC Try.prog xd4Spec) (fun w__ => gok w__ namesOk_ mixed_ xd4_ok) (fun _ => rfl) (fun _ => rfl) (args' := [.str (.sym s.val), .str (.sym u.val)]) ⟨rfl, rfl, trivial⟩ 40 (fun w__ => VCShared s.val u.val) (fun w__ => tieShared w__ s.val u.val) (fun w__ => pureShared s.val u.val hr)⟩
  · exact h.elim

def rSharedSpec : CSpec
  | [.str s, .str u], k => (True) ∧ (∀ r0 : ByteArray, r0 = (shaF s.val u.val) → ∀ r1 : Int, r1 = (shaE s.val u.val) → k (.tup [.str (.sym r0), .int .i64 (.sym r1)]))
  | _, _ => False
def VCRShared (s : ByteArray) (u : ByteArray) : Prop := VCShared s u
theorem tieRShared (w0 : World) (s : ByteArray) (u : ByteArray) : VCRShared s u = ((recN (GC Try.prog xd4Spec w0) 40).call 45 [.str (.sym s), .str (.sym u)] [] (fun r__ _ => eqV r__ (.tup [.str (.sym (shaF s u)), .int .i64 (.sym (shaE s u))]))) := by kernel_rfl
theorem pureRShared (s u : ByteArray) (h : True) : VCRShared s u := by
  refine ⟨trivial, fun v1 h1 v2 h2 => brN (fun c => ?_) fun c => ⟨⟨U64_0, U64_0, U64_0, U64_0⟩, fun v4 h4 => brBA (fun d => ?_) (fun d => ?_)⟩⟩
  · obtain ⟨k1, k2⟩ := sha_e (h2 ▸ c)
    exact ⟨k1.symm, ⟨rfl, h2.trans k2.symm⟩, trivial⟩
  · obtain ⟨k1, k2⟩ := sha_z (h2 ▸ c) (h1 ▸ (d.trans (h4.trans lit0)))
    exact ⟨k1.symm, ⟨rfl, k2.symm⟩, trivial⟩
  · obtain ⟨k1, k2⟩ := sha_ok (s := s) (u := u) (h2 ▸ c) (fun z => d (h1.trans (z.trans (lit0.symm.trans h4.symm))))
    exact ⟨h1.trans k1.symm, ⟨rfl, k2.symm⟩, trivial⟩
theorem rShared_ok : SpecOk Try.prog 45 rSharedSpec := by
  intro args k h
  unfold rSharedSpec at h
  split at h
  · rename_i s u
    obtain ⟨hr, h⟩ := h
    exact ⟨_, h _ rfl _ rfl, PureOk.of_tie (GC Try.prog xd4Spec) (fun w__ => gok w__ namesOk_ mixed_ xd4_ok) (fun _ => rfl) (fun _ => rfl) (args' := [.str (.sym s.val), .str (.sym u.val)]) ⟨rfl, rfl, trivial⟩ 40 (fun w__ => VCRShared s.val u.val) (fun w__ => tieRShared w__ s.val u.val) (fun w__ => pureRShared s.val u.val hr)⟩
  · exact h.elim

def publicSpec : CSpec
  | [.str s], k => (True) ∧ (∀ r0 : ByteArray, r0 = (pubF s.val) → ∀ r1 : Int, r1 = (pubE s.val) → k (.tup [.str (.sym r0), .int .i64 (.sym r1)]))
  | _, _ => False
def VCPublic (s : ByteArray) : Prop :=
  (U64 9 /\ U64 0 /\ U64 0 /\ U64 0) /\ ∀ (v1 : ByteArray), v1 = bytesL [9, 0, 0, 0, 0, 0, 0, 0, 0, 0, 0, 0, 0, 0, 0, 0, 0, 0, 0, 0, 0, 0, 0, 0, 0, 0, 0, 0, 0, 0, 0, 0] -> True /\ ∀ (v2 : ByteArray), v2 = rawF s v1 -> ∀ v3, v3 = rawE s v1 -> v2 = pubF s /\ (IntKind.i64 = IntKind.i64 /\ v3 = pubE s) /\ True
theorem tiePublic (w0 : World) (s : ByteArray) : VCPublic s = ((recN (GC Try.prog xd4Spec w0) 40).call 49 [.str (.sym s)] [] (fun r__ _ => eqV r__ (.tup [.str (.sym (pubF s)), .int .i64 (.sym (pubE s))]))) := by kernel_rfl
theorem purePublic (s : ByteArray) (h : True) : VCPublic s := by
  refine ⟨⟨by decide, U64_0, U64_0, U64_0⟩, fun v1 h1 => ⟨trivial, fun v2 h2 v3 h3 => ?_⟩⟩
  rw [h1, lit9] at h2 h3
  exact ⟨h2, ⟨rfl, h3⟩, trivial⟩
theorem public_ok : SpecOk Try.prog 49 publicSpec := by
  intro args k h
  unfold publicSpec at h
  split at h
  · rename_i s
    obtain ⟨hr, h⟩ := h
    exact ⟨_, h _ rfl _ rfl, PureOk.of_tie (GC Try.prog xd4Spec) (fun w__ => gok w__ namesOk_ mixed_ xd4_ok) (fun _ => rfl) (fun _ => rfl) (args' := [.str (.sym s.val)]) ⟨rfl, trivial⟩ 40 (fun w__ => VCPublic s.val) (fun w__ => tiePublic w__ s.val) (fun w__ => purePublic s.val hr)⟩
  · exact h.elim

def rPublicSpec : CSpec
  | [.str s], k => (True) ∧ (∀ r0 : ByteArray, r0 = (pubF s.val) → ∀ r1 : Int, r1 = (pubE s.val) → k (.tup [.str (.sym r0), .int .i64 (.sym r1)]))
  | _, _ => False
def VCRPublic (s : ByteArray) : Prop := VCPublic s
theorem tieRPublic (w0 : World) (s : ByteArray) : VCRPublic s = ((recN (GC Try.prog xd4Spec w0) 40).call 50 [.str (.sym s)] [] (fun r__ _ => eqV r__ (.tup [.str (.sym (pubF s)), .int .i64 (.sym (pubE s))]))) := by kernel_rfl
theorem pureRPublic (s : ByteArray) (h : True) : VCRPublic s := by
  refine ⟨⟨by decide, U64_0, U64_0, U64_0⟩, fun v1 h1 => ⟨trivial, fun v2 h2 v3 h3 => ?_⟩⟩
  rw [h1, lit9] at h2 h3
  exact ⟨h2, ⟨rfl, h3⟩, trivial⟩
theorem rPublic_ok : SpecOk Try.prog 50 rPublicSpec := by
  intro args k h
  unfold rPublicSpec at h
  split at h
  · rename_i s
    obtain ⟨hr, h⟩ := h
    exact ⟨_, h _ rfl _ rfl, PureOk.of_tie (GC Try.prog xd4Spec) (fun w__ => gok w__ namesOk_ mixed_ xd4_ok) (fun _ => rfl) (fun _ => rfl) (args' := [.str (.sym s.val)]) ⟨rfl, trivial⟩ 40 (fun w__ => VCRPublic s.val) (fun w__ => tieRPublic w__ s.val) (fun w__ => pureRPublic s.val hr)⟩
  · exact h.elim

theorem on_same (x : Int) : t5 x (a5 (t5 x x) (a5 (t5 486662 x) 1)) = onY x := by
  refine toF_inj (p := p25) (in5 _) (in5 _) ?_
  show f5 (t5 x (a5 (t5 x x) (a5 (t5 486662 x) 1))) = f5 (onY x)
  unfold onY
  rw [f5_t, f5_a, f5_a, f5_t, f5_t, f5_t, f5_a, f5_t, f5_a]
  generalize f5 x = a
  generalize f5 486662 = b
  generalize f5 1 = c
  grind -lia
theorem on_no {u : ByteArray} (h : (u.size : Int) ≠ 32) : onF u = false := by unfold onF; exact decide_eq_false (fun z => h z.1)
theorem onTail {Y : Int} {u : ByteArray} (hY : inP5 Y) (hs : (u.size : Int) = 32) (hy : Y = onY (coF u)) :
    ((limb Y 0 == 0 && (limb Y 1 == 0 && (limb Y 2 == 0 && (limb Y 3 == 0 && true)))) = false → (limb (powF Y 28948022309329048855892746252171976963317496166410141009864396001978282409974 57896044618658097711785492504343953926634992332820282019728792003956564819949) 0 == 1 && (limb (powF Y 28948022309329048855892746252171976963317496166410141009864396001978282409974 57896044618658097711785492504343953926634992332820282019728792003956564819949) 1 == 0 && (limb (powF Y 28948022309329048855892746252171976963317496166410141009864396001978282409974 57896044618658097711785492504343953926634992332820282019728792003956564819949) 2 == 0 && (limb (powF Y 28948022309329048855892746252171976963317496166410141009864396001978282409974 57896044618658097711785492504343953926634992332820282019728792003956564819949) 3 == 0 && true)))) = onF u) ∧ ((limb Y 0 == 0 && (limb Y 1 == 0 && (limb Y 2 == 0 && (limb Y 3 == 0 && true)))) = true → true = onF u) := by
  have pw : powF Y 28948022309329048855892746252171976963317496166410141009864396001978282409974 57896044618658097711785492504343953926634992332820282019728792003956564819949 = Y ^ ((p25 - 1) / 2) % P5 := by
    unfold powF; rw [modP5]; rfl
  have bp := in5B (in5 (Y ^ ((p25 - 1) / 2)))
  rw [pw, eq4l (in5B hY).1 (in5B hY).2 U64_0 U64_0 U64_0 U64_0, eq4l bp.1 bp.2 U64_1 U64_0 U64_0 U64_0]
  have q0 : val4 0 0 0 0 = 0 := rfl
  have q1 : val4 1 0 0 0 = 1 := rfl
  rw [q0, q1]
  unfold onF
  rw [← hy]
  constructor
  · intro z
    have z : Y ≠ 0 := by simpa using z
    by_cases c : Y ^ ((p25 - 1) / 2) % P5 = 1
    · rw [decide_eq_true c, decide_eq_true ⟨hs, Or.inr c⟩]
    · rw [decide_eq_false c, decide_eq_false (fun w => w.2.elim z c)]
  · intro z
    have z : Y = 0 := by simpa using z
    exact (decide_eq_true ⟨hs, Or.inl z⟩).symm
theorem halfV : val4 (bitI BinOp.or IntKind.u64 (shrI IntKind.u64 (limb 57896044618658097711785492504343953926634992332820282019728792003956564819948 0) 1) (shlI IntKind.u64 (bitI BinOp.and IntKind.u64 (limb 57896044618658097711785492504343953926634992332820282019728792003956564819948 1) 1) 63)) (bitI BinOp.or IntKind.u64 (shrI IntKind.u64 (limb 57896044618658097711785492504343953926634992332820282019728792003956564819948 1) 1) (shlI IntKind.u64 (bitI BinOp.and IntKind.u64 (limb 57896044618658097711785492504343953926634992332820282019728792003956564819948 2) 1) 63)) (bitI BinOp.or IntKind.u64 (shrI IntKind.u64 (limb 57896044618658097711785492504343953926634992332820282019728792003956564819948 2) 1) (shlI IntKind.u64 (bitI BinOp.and IntKind.u64 (limb 57896044618658097711785492504343953926634992332820282019728792003956564819948 3) 1) 63)) (shrI IntKind.u64 (limb 57896044618658097711785492504343953926634992332820282019728792003956564819948 3) 1) = 28948022309329048855892746252171976963317496166410141009864396001978282409974 := by decide +kernel
def onSpec : CSpec
  | [.str u], k => (True) ∧ (∀ r0 : Bool, r0 = (onF u.val) → k (.bool (.sym r0)))
  | _, _ => False
def VCOn (u : ByteArray) : Prop :=
  True /\ ∀ v1, v1 = coF u -> ∀ v2, v2 = erF ↑u.size (32 : Int) -> ∀ v3, v3 = (v2 != (0 : Int)) -> (v3 = true -> false = onF u) /\ (v3 = false -> (U64 (limb v1 0) /\ U64 (limb v1 1) /\ U64 (limb v1 2) /\ U64 (limb v1 3)) /\ ∀ v4, v4 = t5 (val4 (limb v1 0) (limb v1 1) (limb v1 2) (limb v1 3)) (val4 (limb v1 0) (limb v1 1) (limb v1 2) (limb v1 3)) -> (U64 486662 /\ U64 0 /\ U64 0 /\ U64 0 /\ U64 (limb v1 0) /\ U64 (limb v1 1) /\ U64 (limb v1 2) /\ U64 (limb v1 3)) /\ ∀ v5, v5 = t5 486662 (val4 (limb v1 0) (limb v1 1) (limb v1 2) (limb v1 3)) -> (U64 (limb v5 0) /\ U64 (limb v5 1) /\ U64 (limb v5 2) /\ U64 (limb v5 3) /\ U64 1 /\ U64 0 /\ U64 0 /\ U64 0) /\ ∀ v6, v6 = a5 (val4 (limb v5 0) (limb v5 1) (limb v5 2) (limb v5 3)) (1 : Int) -> (U64 (limb v4 0) /\ U64 (limb v4 1) /\ U64 (limb v4 2) /\ U64 (limb v4 3) /\ U64 (limb v6 0) /\ U64 (limb v6 1) /\ U64 (limb v6 2) /\ U64 (limb v6 3)) /\ ∀ v7, v7 = a5 (val4 (limb v4 0) (limb v4 1) (limb v4 2) (limb v4 3)) (val4 (limb v6 0) (limb v6 1) (limb v6 2) (limb v6 3)) -> (U64 (limb v1 0) /\ U64 (limb v1 1) /\ U64 (limb v1 2) /\ U64 (limb v1 3) /\ U64 (limb v7 0) /\ U64 (limb v7 1) /\ U64 (limb v7 2) /\ U64 (limb v7 3)) /\ ∀ v8, v8 = t5 (val4 (limb v1 0) (limb v1 1) (limb v1 2) (limb v1 3)) (val4 (limb v7 0) (limb v7 1) (limb v7 2) (limb v7 3)) -> ∀ v9, v9 = (limb v8 0 == (0 : Int) && (limb v8 1 == (0 : Int) && (limb v8 2 == (0 : Int) && (limb v8 3 == (0 : Int) && true)))) -> (v9 = false -> (U64 (limb v8 0) /\ U64 (limb v8 1) /\ U64 (limb v8 2) /\ U64 (limb v8 3) /\ U64 18446744073709551606 /\ U64 18446744073709551615 /\ U64 18446744073709551615 /\ U64 4611686018427387903 /\ U64 18446744073709551597 /\ U64 18446744073709551615 /\ U64 18446744073709551615 /\ U64 9223372036854775807) /\ ∀ v10, v10 = powF (val4 (limb v8 0) (limb v8 1) (limb v8 2) (limb v8 3)) (28948022309329048855892746252171976963317496166410141009864396001978282409974 : Int) (57896044618658097711785492504343953926634992332820282019728792003956564819949 : Int) -> ∀ v11, v11 = (limb v10 0 == (1 : Int) && (limb v10 1 == (0 : Int) && (limb v10 2 == (0 : Int) && (limb v10 3 == (0 : Int) && true)))) -> v11 = onF u) /\ (v9 = true -> true = onF u))
theorem tieOn (w0 : World) (u : ByteArray) : VCOn u = ((recN (GC Try.prog xd4Spec w0) 40).call 51 [.str (.sym u)] [] (fun r__ _ => eqV r__ (.bool (.sym (onF u))))) := by kernel_rfl
theorem pureOn (u : ByteArray) (h : True) : VCOn u := by
  obtain ⟨q0, q1, q2, q3⟩ := m5
  refine ⟨trivial, fun v1 h1 v2 h2 => brN (fun c => ?_) fun c => ?_⟩
  · exact (on_no (erF_ne.1 (h2 ▸ c))).symm
  · have hs := er0 (h2 ▸ c)
    subst h1
    have ec : U64 486662 = True := eq_true (by decide)
    have ez : U64 0 = True := eq_true U64_0
    have eo : U64 1 = True := eq_true U64_1
    have r0 : U64 18446744073709551597 = True := eq_true q0
    have r1 : U64 18446744073709551615 = True := eq_true q1
    have r3 : U64 9223372036854775807 = True := eq_true q3
    have r4 : U64 18446744073709551606 = True := eq_true (by decide)
    have r5 : U64 4611686018427387903 = True := eq_true (by decide)
    simp only [forall_eq, ul, lt5, la5, lco, ec, ez, eo, r0, r1, r3, r4, r5, true_and]
    exact onTail (in5 _) hs (on_same _)
theorem on_ok : SpecOk Try.prog 51 onSpec := by
  intro args k h
  unfold onSpec at h
  split at h
  · rename_i u
    obtain ⟨hr, h⟩ := h
    exact ⟨_, h _ rfl, PureOk.of_tie (GC Try.prog xd4Spec) (fun w__ => gok w__ namesOk_ mixed_ xd4_ok) (fun _ => rfl) (fun _ => rfl) (args' := [.str (.sym u.val)]) ⟨rfl, trivial⟩ 40 (fun w__ => VCOn u.val) (fun w__ => tieOn w__ u.val) (fun w__ => pureOn u.val hr)⟩
  · exact h.elim

def rOnSpec : CSpec
  | [.str u], k => (True) ∧ (∀ r0 : Bool, r0 = (onF u.val) → k (.bool (.sym r0)))
  | _, _ => False
def VCROn (u : ByteArray) : Prop :=
  True /\ ∀ v1, v1 = coF u -> ∀ v2, v2 = erF ↑u.size (32 : Int) -> ∀ v3, v3 = (v2 != (0 : Int)) -> (v3 = true -> false = onF u) /\ (v3 = false -> (U64 (limb v1 0) /\ U64 (limb v1 1) /\ U64 (limb v1 2) /\ U64 (limb v1 3) /\ U64 486662 /\ U64 0 /\ U64 0 /\ U64 0) /\ ∀ v4, v4 = a5 (val4 (limb v1 0) (limb v1 1) (limb v1 2) (limb v1 3)) (486662 : Int) -> (U64 (limb v1 0) /\ U64 (limb v1 1) /\ U64 (limb v1 2) /\ U64 (limb v1 3) /\ U64 (limb v4 0) /\ U64 (limb v4 1) /\ U64 (limb v4 2) /\ U64 (limb v4 3)) /\ ∀ v5, v5 = t5 (val4 (limb v1 0) (limb v1 1) (limb v1 2) (limb v1 3)) (val4 (limb v4 0) (limb v4 1) (limb v4 2) (limb v4 3)) -> (U64 (limb v5 0) /\ U64 (limb v5 1) /\ U64 (limb v5 2) /\ U64 (limb v5 3) /\ U64 1 /\ U64 0 /\ U64 0 /\ U64 0) /\ ∀ v6, v6 = a5 (val4 (limb v5 0) (limb v5 1) (limb v5 2) (limb v5 3)) (1 : Int) -> (U64 (limb v1 0) /\ U64 (limb v1 1) /\ U64 (limb v1 2) /\ U64 (limb v1 3) /\ U64 (limb v6 0) /\ U64 (limb v6 1) /\ U64 (limb v6 2) /\ U64 (limb v6 3)) /\ ∀ v7, v7 = t5 (val4 (limb v1 0) (limb v1 1) (limb v1 2) (limb v1 3)) (val4 (limb v6 0) (limb v6 1) (limb v6 2) (limb v6 3)) -> (U64 18446744073709551597 /\ U64 18446744073709551615 /\ U64 18446744073709551615 /\ U64 9223372036854775807 /\ U64 1 /\ U64 0 /\ U64 0 /\ U64 0) /\ ∀ (v8 : Int), v8 = (57896044618658097711785492504343953926634992332820282019728792003956564819948 : Int) -> ∀ (v9 : Int), v9 = (0 : Int) -> ∀ v10, v10 = shrI IntKind.u64 (limb v8 0) (1 : Int) -> ∀ v11, v11 = bitI BinOp.and IntKind.u64 (limb v8 1) (1 : Int) -> ∀ v12, v12 = shlI IntKind.u64 v11 (63 : Int) -> ∀ v13, v13 = bitI BinOp.or IntKind.u64 v10 v12 -> ∀ v14, v14 = shrI IntKind.u64 (limb v8 1) (1 : Int) -> ∀ v15, v15 = bitI BinOp.and IntKind.u64 (limb v8 2) (1 : Int) -> ∀ v16, v16 = shlI IntKind.u64 v15 (63 : Int) -> ∀ v17, v17 = bitI BinOp.or IntKind.u64 v14 v16 -> ∀ v18, v18 = shrI IntKind.u64 (limb v8 2) (1 : Int) -> ∀ v19, v19 = bitI BinOp.and IntKind.u64 (limb v8 3) (1 : Int) -> ∀ v20, v20 = shlI IntKind.u64 v19 (63 : Int) -> ∀ v21, v21 = bitI BinOp.or IntKind.u64 v18 v20 -> ∀ v22, v22 = shrI IntKind.u64 (limb v8 3) (1 : Int) -> (U64 (limb v7 0) /\ U64 (limb v7 1) /\ U64 (limb v7 2) /\ U64 (limb v7 3) /\ U64 v13 /\ U64 v17 /\ U64 v21 /\ U64 v22 /\ U64 18446744073709551597 /\ U64 18446744073709551615 /\ U64 18446744073709551615 /\ U64 9223372036854775807) /\ ∀ v23, v23 = powF (val4 (limb v7 0) (limb v7 1) (limb v7 2) (limb v7 3)) (val4 v13 v17 v21 v22) (57896044618658097711785492504343953926634992332820282019728792003956564819949 : Int) -> ∀ v24, v24 = (limb v7 0 == (0 : Int) && (limb v7 1 == (0 : Int) && (limb v7 2 == (0 : Int) && (limb v7 3 == (0 : Int) && true)))) -> (v24 = false -> ∀ v25, v25 = (limb v23 0 == (1 : Int) && (limb v23 1 == (0 : Int) && (limb v23 2 == (0 : Int) && (limb v23 3 == (0 : Int) && true)))) -> v25 = onF u) /\ (v24 = true -> true = onF u))
theorem tieROn (w0 : World) (u : ByteArray) : VCROn u = ((recN (GC Try.prog xd4Spec w0) 40).call 52 [.str (.sym u)] [] (fun r__ _ => eqV r__ (.bool (.sym (onF u))))) := by kernel_rfl
theorem pureROn (u : ByteArray) (h : True) : VCROn u := by
  obtain ⟨q0, q1, q2, q3⟩ := m5
  refine ⟨trivial, fun v1 h1 v2 h2 => brN (fun c => ?_) fun c => ?_⟩
  · exact (on_no (erF_ne.1 (h2 ▸ c))).symm
  · have hs := er0 (h2 ▸ c)
    subst h1
    have ec : U64 486662 = True := eq_true (by decide)
    have ez : U64 0 = True := eq_true U64_0
    have eo : U64 1 = True := eq_true U64_1
    have r0 : U64 18446744073709551597 = True := eq_true q0
    have r1 : U64 18446744073709551615 = True := eq_true q1
    have r3 : U64 9223372036854775807 = True := eq_true q3
    simp only [forall_eq, ul, lt5, la5, lco, ec, ez, eo, r0, r1, r3, true_and, halfV]
    refine ⟨⟨by decide +kernel, by decide +kernel, by decide +kernel, by decide +kernel⟩, ?_⟩
    exact onTail (in5 _) hs rfl
theorem rOn_ok : SpecOk Try.prog 52 rOnSpec := by
  intro args k h
  unfold rOnSpec at h
  split at h
  · rename_i u
    obtain ⟨hr, h⟩ := h
    exact ⟨_, h _ rfl, PureOk.of_tie (GC Try.prog xd4Spec) (fun w__ => gok w__ namesOk_ mixed_ xd4_ok) (fun _ => rfl) (fun _ => rfl) (args' := [.str (.sym u.val)]) ⟨rfl, trivial⟩ 40 (fun w__ => VCROn u.val) (fun w__ => tieROn w__ u.val) (fun w__ => pureROn u.val hr)⟩
  · exact h.elim

end Go.Proofs.Ytaaobpalpcdlbaa.Bits
