import Derived.Test.YtaaobpalpcdlbaaSxN
import Derived.Test.YtaaobpalpcdlbaaSxP
import Derived.Test.YtaaobpalpcdlbaaSxR
import Derived.Test.YtaaobpalpcdlbaaProg
import Derived.Test.YtaaobpalpcdlbaaXdh7
import Derived.KernelRfl
namespace Go.Proofs.Ytaaobpalpcdlbaa.Bits
open Go Go.Sx Go.RowKit Go.EC
set_option linter.unusedVariables false
set_option maxRecDepth 100000
theorem co9 : coF (littleF 9) = 9 := by decide +kernel
theorem cl_Cl (n : Int) : Cl (clF n) := by
  unfold Cl clF
  have e1 : (2 : Int) ^ 255 = 57896044618658097711785492504343953926634992332820282019728792003956564819968 := by decide +kernel
  have e2 : (2 : Int) ^ 254 = 28948022309329048855892746252171976963317496166410141009864396001978282409984 := by decide +kernel
  rw [e1, e2]
  omega
theorem pub_e {s : ByteArray} : pubE s = 0 ↔ (s.size : Int) = 32 := by
  unfold pubE rawE
  rw [little_size]
  by_cases h : (s.size : Int) = 32
  · rw [if_pos h]; exact ⟨fun _ => h, fun _ => rfl⟩
  · rw [if_neg h]; exact ⟨fun z => absurd z (erF_ne.2 h), fun z => absurd z h⟩
theorem pub_f {s : ByteArray} (h : (s.size : Int) = 32) : pubF s = littleF (lxI (cvF s) 9) := by
  unfold pubF
  rw [(raw_yes h (little_size 9)).1, co9]
theorem co_little {x : Int} (h : inP5 x) : coF (littleF x) = x := by
  unfold coF
  have h2 : x < 57896044618658097711785492504343953926634992332820282019728792003956564819949 := h.2
  rw [if_pos (little_size x), leF_little h.1 (by omega), Int.emod_eq_of_lt h.1 (by omega)]
  exact Int.emod_eq_of_lt h.1 h2
theorem cv_Cl {s : ByteArray} (h : (s.size : Int) = 32) : Cl (cvF s) := by unfold cvF; rw [if_pos h]; exact cl_Cl _
theorem sha_pub {s u : ByteArray} (hs : (s.size : Int) = 32) (hu : (u.size : Int) = 32) : shaF s (pubF u) = littleF (lxI (cvF s) (lxI (cvF u) 9)) ∧ shaE s (pubF u) = 0 := by
  rw [pub_f hu]
  obtain ⟨k1, k2⟩ := raw_yes hs (little_size (lxI (cvF u) 9))
  rw [co_little (lxI_in _ _)] at k1
  have nz : rawF s (littleF (lxI (cvF u) 9)) ≠ littleF 0 := by
    rw [k1]
    intro z
    have b := in5B (lxI_in (cvF s) (lxI (cvF u) 9))
    have := congrArg leF z
    rw [leF_little b.1 b.2, leF_little (by decide) (by decide)] at this
    exact (common (cv_Cl hs) (cv_Cl hu)).2 this
  obtain ⟨m1, m2⟩ := sha_ok k2 nz
  exact ⟨m1.trans k1, m2⟩
theorem on_pub {s : ByteArray} (h : (s.size : Int) = 32) : onF (pubF s) = true := by
  rw [pub_f h]
  unfold onF
  refine decide_eq_true ⟨little_size _, ?_⟩
  rw [co_little (lxI_in _ _)]
  obtain ⟨y, hy⟩ := pub_on (cv_Cl h)
  refine euler (y := y) (in5 _) ?_
  rw [hy]
  show _ = f5 (onY (lxI (cvF s) 9))
  unfold onY
  rw [f5_t, f5_a, f5_t, f5_a]
  have e1 : f5 486662 = 486662 := rfl
  have e2 : f5 1 = 1 := rfl
  rw [e1, e2]
  generalize f5 (lxI (cvF s) 9) = a
  grind -lia
def VCXdhCommon (s : ByteArray) (u : ByteArray) : Prop :=
  True /\ ∀ (v1 : ByteArray), v1 = pubF s -> ∀ v2, v2 = pubE s -> True /\ ∀ (v3 : ByteArray), v3 = pubF u -> ∀ v4, v4 = pubE u -> ∀ v5, v5 = (v2 == (0 : Int)) -> ∀ (v6 : Int), v6 = ↑s.size -> ∀ v7, v7 = (v6 == (32 : Int)) -> ∀ (v8 : Bool), v8 = !v5 == v7 -> (v8 = false -> ∀ v9, v9 = (v4 == (0 : Int)) -> ∀ (v10 : Int), v10 = ↑u.size -> ∀ v11, v11 = (v10 == (32 : Int)) -> ∀ (v12 : Bool), v12 = !v9 == v11 -> (v12 = true -> false = true) /\ (v12 = false -> ∀ v13, v13 = (v2 != (0 : Int)) -> (v13 = false -> ∀ v14, v14 = (v4 != (0 : Int)) -> (v14 = true -> True /\ true = true) /\ (v14 = false -> True /\ ∀ (v15 : ByteArray), v15 = shaF s v3 -> ∀ v16, v16 = shaE s v3 -> True /\ ∀ (v17 : ByteArray), v17 = shaF u v1 -> ∀ v18, v18 = shaE u v1 -> ∀ v19, v19 = (v15 == v17) -> (v19 = true -> ∀ v20, v20 = (v16 == (0 : Int)) -> (v20 = true -> ∀ v21, v21 = (v18 == (0 : Int)) -> (v21 = true -> True /\ ∀ v22, v22 = onF v1 -> (v22 = true -> True /\ ∀ v23, v23 = onF v3 -> (v23 = true -> True /\ true = true) /\ (v23 = false -> false = true)) /\ (v22 = false -> false = true)) /\ (v21 = false -> false = true)) /\ (v20 = false -> false = true)) /\ (v19 = false -> false = true))) /\ (v13 = true -> True /\ true = true))) /\ (v8 = true -> false = true)
theorem tieXdhCommon (w0 : World) (s : ByteArray) (u : ByteArray) : VCXdhCommon s u = ((recN (GC Try.prog xd7Spec w0) 40).call 11 [.str (.sym s), .str (.sym u)] [] (fun v _ => isTrue v)) := by kernel_rfl
theorem pureXdhCommon (s u : ByteArray) (h : (s.size ≤ 140737488351232) ∧ (u.size ≤ 140737488351232)) : VCXdhCommon s u := by
  refine ⟨trivial, fun v1 h1 v2 h2 => ⟨trivial, fun v3 h3 v4 h4 v5 h5 v6 h6 v7 h7 v8 h8 => ?_⟩⟩
  have e8 : v8 = false := by
    rw [h8, h5, h7, h6, h2]
    by_cases c : (s.size : Int) = 32
    · rw [pub_e.2 c, c]; rfl
    · rw [beq_eq_false_iff_ne.2 c, beq_eq_false_iff_ne.2 (fun z => c (pub_e.1 z))]; rfl
  subst e8
  refine ⟨fun _ v9 h9 v10 h10 v11 h11 v12 h12 => ?_, fun z => absurd z (by decide)⟩
  have e12 : v12 = false := by
    rw [h12, h9, h11, h10, h4]
    by_cases c : (u.size : Int) = 32
    · rw [pub_e.2 c, c]; rfl
    · rw [beq_eq_false_iff_ne.2 c, beq_eq_false_iff_ne.2 (fun z => c (pub_e.1 z))]; rfl
  subst e12
  refine ⟨fun z => absurd z (by decide), fun _ => rbN (fun c => ?_) fun _ => ⟨trivial, rfl⟩⟩
  refine brN (fun _ => ⟨trivial, rfl⟩) fun d => ?_
  have hs := pub_e.1 (h2 ▸ c)
  have hu := pub_e.1 (h4 ▸ d)
  subst h1; subst h3
  obtain ⟨a1, a2⟩ := sha_pub hs hu
  obtain ⟨b1, b2⟩ := sha_pub hu hs
  refine ⟨trivial, fun v15 h15 v16 h16 => ⟨trivial, fun v17 h17 v18 h18 => bTF ?_ (eTF (h16.trans a2) (eTF (h18.trans b2) ⟨trivial, fun v22 h22 => brT2 v22 (h22.trans (on_pub hs)) ⟨trivial, fun v23 h23 => brT2 v23 (h23.trans (on_pub hu)) ⟨trivial, rfl⟩⟩⟩))⟩⟩
  rw [h15, h17, a1, b1, (common (cv_Cl hs) (cv_Cl hu)).1]
theorem walkXdhCommon (s : ByteArray) (u : ByteArray) (w0 : World) (hs : s.size ≤ 140737488351232) (hu : u.size ≤ 140737488351232) : Calls Try.prog 11 #[.string s, .string u] w0 fun e w' => e = .returned (.bool true) ∧ Below w0.heap.size w0 w' :=
  law_tie (G := GC Try.prog xd7Spec w0) (gok w0 namesOk_ mixed_ xd7_ok) (n := 40) (f := 11) (args := [.str (.sym s), .str (.sym u)]) (by kernel_rfl) (VCXdhCommon s u) (tieXdhCommon w0 s u) (pureXdhCommon s u ⟨hs, hu⟩)

end Go.Proofs.Ytaaobpalpcdlbaa.Bits
