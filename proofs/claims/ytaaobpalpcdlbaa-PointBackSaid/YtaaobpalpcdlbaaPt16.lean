import Derived.Test.YtaaobpalpcdlbaaSxR
import Derived.Test.YtaaobpalpcdlbaaProg
import Derived.Test.YtaaobpalpcdlbaaPt12
import Derived.Test.YtaaobpalpcdlbaaByt
import Derived.KernelRfl
namespace Go.Proofs.Ytaaobpalpcdlbaa.Bits
open Go Go.Sx Go.RowKit Go.EC
set_option linter.unusedVariables false
set_option maxRecDepth 100000
def pt16Spec : List (FuncId × CSpec) := [(62, pOnSpec), (53, rOnSpec), (114, bigSpec), (120, rBigSpec), (113, fromBigSpec), (71, rFromBigSpec), (105, rSub4Spec)]
theorem pt16_ok : SpecsOk Try.prog pt16Spec := ⟨pOn_ok, rOn_ok, big_ok, rBig_ok, fromBig_ok, rFromBig_ok, rSub4_ok, trivial⟩
def encF (i : Bool) (X Y : Int) : ByteArray := if i then bytesL [] else bytesL [4] ++ bigF X ++ bigF Y
def decE (s : ByteArray) : Int := if s = bytesL [] then 11 else if byteAt s 0 ≠ 4 then 10 else if (s.size : Int) < 65 then 11 else if (s.size : Int) > 65 then 12 else if onP (beF (s.extract 1 33)) (beF (s.extract 33 65)) false then 0 else 15
def decX (s : ByteArray) : Int := if decE s = 0 then beF (s.extract 1 33) else 0
def decY (s : ByteArray) : Int := if decE s = 0 then beF (s.extract 33 65) else 0
theorem encF_sz (X Y : Int) : (encF false X Y).size = 65 := by
  show (bytesL [4] ++ bigF X ++ bigF Y).size = 65
  have a := big_size X
  have b := big_size Y
  rw [ByteArray.size_append, ByteArray.size_append]
  have : (bytesL [4]).size = 1 := rfl
  omega
def pEncodeSpec : CSpec
  | [.agg [.int .u64 ax0, .int .u64 ax1, .int .u64 ax2, .int .u64 ax3, .int .u64 ay0, .int .u64 ay1, .int .u64 ay2, .int .u64 ay3, .bool ai]], k => ((U64 ax0.val) ∧ (U64 ax1.val) ∧ (U64 ax2.val) ∧ (U64 ax3.val) ∧ (U64 ay0.val) ∧ (U64 ay1.val) ∧ (U64 ay2.val) ∧ (U64 ay3.val)) ∧ (∀ r0 : ByteArray, r0 = (encF ai.val (val4 ax0.val ax1.val ax2.val ax3.val) (val4 ay0.val ay1.val ay2.val ay3.val)) → k (.str (.sym r0)))
  | _, _ => False
def VCPEncode (ax0 : Int) (ax1 : Int) (ax2 : Int) (ax3 : Int) (ay0 : Int) (ay1 : Int) (ay2 : Int) (ay3 : Int) (ai : Bool) : Prop :=
  (ai = true -> bytesL [] = encF ai (val4 ax0 ax1 ax2 ax3) (val4 ay0 ay1 ay2 ay3)) /\ (ai = false -> (U64 ax0 /\ U64 ax1 /\ U64 ax2 /\ U64 ax3) /\ ∀ (v1 : ByteArray), v1 = bigF (val4 ax0 ax1 ax2 ax3) -> ↑(1 + v1.size) ≤ (9223372036854775807 : Int) /\ ∀ (v2 : ByteArray), v2 = bytesL [4] ++ v1 -> (U64 ay0 /\ U64 ay1 /\ U64 ay2 /\ U64 ay3) /\ ∀ (v3 : ByteArray), v3 = bigF (val4 ay0 ay1 ay2 ay3) -> ↑(v2.size + v3.size) ≤ (9223372036854775807 : Int) /\ ∀ (v4 : ByteArray), v4 = v2 ++ v3 -> v4 = encF ai (val4 ax0 ax1 ax2 ax3) (val4 ay0 ay1 ay2 ay3))
theorem tiePEncode (w0 : World) (ax0 : Int) (ax1 : Int) (ax2 : Int) (ax3 : Int) (ay0 : Int) (ay1 : Int) (ay2 : Int) (ay3 : Int) (ai : Bool) : VCPEncode ax0 ax1 ax2 ax3 ay0 ay1 ay2 ay3 ai = ((recN (GC Try.prog pt16Spec w0) 40).call 58 [.agg [.int .u64 (.sym ax0), .int .u64 (.sym ax1), .int .u64 (.sym ax2), .int .u64 (.sym ax3), .int .u64 (.sym ay0), .int .u64 (.sym ay1), .int .u64 (.sym ay2), .int .u64 (.sym ay3), .bool (.sym ai)]] [] (fun r__ _ => eqV r__ (.str (.sym (encF ai (val4 ax0 ax1 ax2 ax3) (val4 ay0 ay1 ay2 ay3)))))) := by kernel_rfl
theorem purePEncode (ax0 ax1 ax2 ax3 ay0 ay1 ay2 ay3 : Int) (ai : Bool) (h : U64 ax0 ∧ U64 ax1 ∧ U64 ax2 ∧ U64 ax3 ∧ U64 ay0 ∧ U64 ay1 ∧ U64 ay2 ∧ U64 ay3) : VCPEncode ax0 ax1 ax2 ax3 ay0 ay1 ay2 ay3 ai := by
  obtain ⟨hx0, hx1, hx2, hx3, hy0, hy1, hy2, hy3⟩ := h
  refine ⟨fun e => by subst e; rfl, fun e => ⟨⟨hx0, hx1, hx2, hx3⟩, fun v1 h1 => ?_⟩⟩
  have s1 := big_size (val4 ax0 ax1 ax2 ax3)
  rw [← h1] at s1
  refine ⟨by omega, fun v2 h2 => ⟨⟨hy0, hy1, hy2, hy3⟩, fun v3 h3 => ?_⟩⟩
  have s3 := big_size (val4 ay0 ay1 ay2 ay3)
  rw [← h3] at s3
  have s2 : (v2.size : Int) = 33 := by
    rw [h2, ByteArray.size_append]
    have : (bytesL [4]).size = 1 := rfl
    omega
  exact ⟨by omega, fun v4 h4 => by rw [h4, h3, h2, h1, e]; rfl⟩
theorem pEncode_ok : SpecOk Try.prog 58 pEncodeSpec := by
  intro args k h
  unfold pEncodeSpec at h
  split at h
  · rename_i ax0 ax1 ax2 ax3 ay0 ay1 ay2 ay3 ai
    obtain ⟨hr, h⟩ := h
    exact ⟨_, h _ rfl, PureOk.of_tie (GC Try.prog pt16Spec) (fun w__ => gok w__ namesOk_ mixed_ pt16_ok) (fun _ => rfl) (fun _ => rfl) (args' := [.agg [.int .u64 (.sym ax0.val), .int .u64 (.sym ax1.val), .int .u64 (.sym ax2.val), .int .u64 (.sym ax3.val), .int .u64 (.sym ay0.val), .int .u64 (.sym ay1.val), .int .u64 (.sym ay2.val), .int .u64 (.sym ay3.val), .bool (.sym ai.val)]]) ⟨⟨⟨rfl, rfl⟩, ⟨rfl, rfl⟩, ⟨rfl, rfl⟩, ⟨rfl, rfl⟩, ⟨rfl, rfl⟩, ⟨rfl, rfl⟩, ⟨rfl, rfl⟩, ⟨rfl, rfl⟩, rfl, trivial⟩, trivial⟩ 40 (fun w__ => VCPEncode ax0.val ax1.val ax2.val ax3.val ay0.val ay1.val ay2.val ay3.val ai.val) (fun w__ => tiePEncode w__ ax0.val ax1.val ax2.val ax3.val ay0.val ay1.val ay2.val ay3.val ai.val) (fun w__ => purePEncode ax0.val ax1.val ax2.val ax3.val ay0.val ay1.val ay2.val ay3.val ai.val hr)⟩
  · exact h.elim

def rEncodeSpec : CSpec
  | [.agg [.int .u64 ax0, .int .u64 ax1, .int .u64 ax2, .int .u64 ax3, .int .u64 ay0, .int .u64 ay1, .int .u64 ay2, .int .u64 ay3, .bool ai]], k => ((U64 ax0.val) ∧ (U64 ax1.val) ∧ (U64 ax2.val) ∧ (U64 ax3.val) ∧ (U64 ay0.val) ∧ (U64 ay1.val) ∧ (U64 ay2.val) ∧ (U64 ay3.val)) ∧ (∀ r0 : ByteArray, r0 = (encF ai.val (val4 ax0.val ax1.val ax2.val ax3.val) (val4 ay0.val ay1.val ay2.val ay3.val)) → k (.str (.sym r0)))
  | _, _ => False
def VCREncode (ax0 : Int) (ax1 : Int) (ax2 : Int) (ax3 : Int) (ay0 : Int) (ay1 : Int) (ay2 : Int) (ay3 : Int) (ai : Bool) : Prop := VCPEncode ax0 ax1 ax2 ax3 ay0 ay1 ay2 ay3 ai
theorem tieREncode (w0 : World) (ax0 : Int) (ax1 : Int) (ax2 : Int) (ax3 : Int) (ay0 : Int) (ay1 : Int) (ay2 : Int) (ay3 : Int) (ai : Bool) : VCREncode ax0 ax1 ax2 ax3 ay0 ay1 ay2 ay3 ai = ((recN (GC Try.prog pt16Spec w0) 40).call 63 [.agg [.int .u64 (.sym ax0), .int .u64 (.sym ax1), .int .u64 (.sym ax2), .int .u64 (.sym ax3), .int .u64 (.sym ay0), .int .u64 (.sym ay1), .int .u64 (.sym ay2), .int .u64 (.sym ay3), .bool (.sym ai)]] [] (fun r__ _ => eqV r__ (.str (.sym (encF ai (val4 ax0 ax1 ax2 ax3) (val4 ay0 ay1 ay2 ay3)))))) := by kernel_rfl
theorem pureREncode (ax0 ax1 ax2 ax3 ay0 ay1 ay2 ay3 : Int) (ai : Bool) (h : U64 ax0 ∧ U64 ax1 ∧ U64 ax2 ∧ U64 ax3 ∧ U64 ay0 ∧ U64 ay1 ∧ U64 ay2 ∧ U64 ay3) : VCREncode ax0 ax1 ax2 ax3 ay0 ay1 ay2 ay3 ai := purePEncode ax0 ax1 ax2 ax3 ay0 ay1 ay2 ay3 ai h
theorem rEncode_ok : SpecOk Try.prog 63 rEncodeSpec := by
  intro args k h
  unfold rEncodeSpec at h
  split at h
  · rename_i ax0 ax1 ax2 ax3 ay0 ay1 ay2 ay3 ai
    obtain ⟨hr, h⟩ := h
    exact ⟨_, h _ rfl, PureOk.of_tie (GC Try.prog pt16Spec) (fun w__ => gok w__ namesOk_ mixed_ pt16_ok) (fun _ => rfl) (fun _ => rfl) (args' := [.agg [.int .u64 (.sym ax0.val), .int .u64 (.sym ax1.val), .int .u64 (.sym ax2.val), .int .u64 (.sym ax3.val), .int .u64 (.sym ay0.val), .int .u64 (.sym ay1.val), .int .u64 (.sym ay2.val), .int .u64 (.sym ay3.val), .bool (.sym ai.val)]]) ⟨⟨⟨rfl, rfl⟩, ⟨rfl, rfl⟩, ⟨rfl, rfl⟩, ⟨rfl, rfl⟩, ⟨rfl, rfl⟩, ⟨rfl, rfl⟩, ⟨rfl, rfl⟩, ⟨rfl, rfl⟩, rfl, trivial⟩, trivial⟩ 40 (fun w__ => VCREncode ax0.val ax1.val ax2.val ax3.val ay0.val ay1.val ay2.val ay3.val ai.val) (fun w__ => tieREncode w__ ax0.val ax1.val ax2.val ax3.val ay0.val ay1.val ay2.val ay3.val ai.val) (fun w__ => pureREncode ax0.val ax1.val ax2.val ax3.val ay0.val ay1.val ay2.val ay3.val ai.val hr)⟩
  · exact h.elim

theorem dec_z {s : ByteArray} {e : Int} (h : decE s = e) (h0 : e ≠ 0) : ((IntKind.u64 = IntKind.u64 ∧ 0 = limb (decX s) 0) ∧ (IntKind.u64 = IntKind.u64 ∧ 0 = limb (decX s) 1) ∧ (IntKind.u64 = IntKind.u64 ∧ 0 = limb (decX s) 2) ∧ (IntKind.u64 = IntKind.u64 ∧ 0 = limb (decX s) 3) ∧ (IntKind.u64 = IntKind.u64 ∧ 0 = limb (decY s) 0) ∧ (IntKind.u64 = IntKind.u64 ∧ 0 = limb (decY s) 1) ∧ (IntKind.u64 = IntKind.u64 ∧ 0 = limb (decY s) 2) ∧ (IntKind.u64 = IntKind.u64 ∧ 0 = limb (decY s) 3) ∧ false = false ∧ True) ∧ (IntKind.i64 = IntKind.i64 ∧ e = decE s) ∧ True := by
  have x : decX s = 0 := if_neg (by rw [h]; exact h0)
  have y : decY s = 0 := if_neg (by rw [h]; exact h0)
  rw [x, y, h]
  exact ⟨⟨⟨rfl, rfl⟩, ⟨rfl, rfl⟩, ⟨rfl, rfl⟩, ⟨rfl, rfl⟩, ⟨rfl, rfl⟩, ⟨rfl, rfl⟩, ⟨rfl, rfl⟩, ⟨rfl, rfl⟩, rfl, trivial⟩, ⟨rfl, rfl⟩, trivial⟩
theorem dec_end {s v8 v11 : ByteArray} {v9 v12 : Int} (c1 : s ≠ bytesL []) (c2 : byteAt s 0 = 4) (c3 : (s.size : Int) = 65) (h8 : v8 = s.extract 1 33) (h9 : v9 = beF v8) (h11 : v11 = s.extract 33 (s.size : Int).toNat) (h12 : v12 = beF v11) :
    (decE s = if onP v9 v12 false then 0 else 15) ∧ (onP v9 v12 false = true → decX s = v9 ∧ decY s = v12) ∧ val4 (limb v9 0) (limb v9 1) (limb v9 2) (limb v9 3) = v9 ∧ val4 (limb v12 0) (limb v12 1) (limb v12 2) (limb v12 3) = v12 := by
  have e1 : beF (s.extract 1 33) = v9 := by rw [h9, h8]
  have e2 : beF (s.extract 33 65) = v12 := by rw [h12, h11, c3]; rfl
  have d : decE s = if onP v9 v12 false then 0 else 15 := by
    unfold decE
    rw [if_neg c1, if_neg (by rw [c2]; decide), if_neg (by omega), if_neg (by omega), e1, e2]
  refine ⟨d, fun o => ?_, ?_, ?_⟩
  · rw [o] at d
    exact ⟨(if_pos d).trans e1, (if_pos d).trans e2⟩
  · rw [h9]; exact lBd (beF_in _)
  · rw [h12]; exact lBd (beF_in _)
theorem sz_pos {s : ByteArray} (h : s ≠ bytesL []) : 0 < (s.size : Int) := by
  rcases Nat.eq_zero_or_pos s.size with c | c
  · exact absurd (ba_ext (t := bytesL []) c fun i hi => by omega) h
  · omega
def pDecodeSpec : CSpec
  | [.str s], k => ((s.val.size ≤ 140737488351232)) ∧ (∀ r0 : Int, r0 = (decX s.val) → ∀ r1 : Int, r1 = (decY s.val) → ∀ r2 : Int, r2 = (decE s.val) → k (.tup [.agg [.int .u64 (.sym (limb r0 0)), .int .u64 (.sym (limb r0 1)), .int .u64 (.sym (limb r0 2)), .int .u64 (.sym (limb r0 3)), .int .u64 (.sym (limb r1 0)), .int .u64 (.sym (limb r1 1)), .int .u64 (.sym (limb r1 2)), .int .u64 (.sym (limb r1 3)), .bool (.lit false)], .int .i64 (.sym r2)]))
  | _, _ => False
def VCPDecode (s : ByteArray) : Prop :=
  ∀ v1, v1 = (s == bytesL []) -> (v1 = true -> ((IntKind.u64 = IntKind.u64 /\ 0 = limb (decX s) 0) /\ (IntKind.u64 = IntKind.u64 /\ 0 = limb (decX s) 1) /\ (IntKind.u64 = IntKind.u64 /\ 0 = limb (decX s) 2) /\ (IntKind.u64 = IntKind.u64 /\ 0 = limb (decX s) 3) /\ (IntKind.u64 = IntKind.u64 /\ 0 = limb (decY s) 0) /\ (IntKind.u64 = IntKind.u64 /\ 0 = limb (decY s) 1) /\ (IntKind.u64 = IntKind.u64 /\ 0 = limb (decY s) 2) /\ (IntKind.u64 = IntKind.u64 /\ 0 = limb (decY s) 3) /\ false = false /\ True) /\ (IntKind.i64 = IntKind.i64 /\ (11 : Int) = decE s) /\ True) /\ (v1 = false -> ((0 : Int) ≤ (0 : Int) /\ (0 : Int) < ↑s.size) /\ ∀ v2, v2 = byteAt s (0 : Int) -> ∀ v3, v3 = (v2 != (4 : Int)) -> (v3 = true -> ((IntKind.u64 = IntKind.u64 /\ 0 = limb (decX s) 0) /\ (IntKind.u64 = IntKind.u64 /\ 0 = limb (decX s) 1) /\ (IntKind.u64 = IntKind.u64 /\ 0 = limb (decX s) 2) /\ (IntKind.u64 = IntKind.u64 /\ 0 = limb (decX s) 3) /\ (IntKind.u64 = IntKind.u64 /\ 0 = limb (decY s) 0) /\ (IntKind.u64 = IntKind.u64 /\ 0 = limb (decY s) 1) /\ (IntKind.u64 = IntKind.u64 /\ 0 = limb (decY s) 2) /\ (IntKind.u64 = IntKind.u64 /\ 0 = limb (decY s) 3) /\ false = false /\ True) /\ (IntKind.i64 = IntKind.i64 /\ (10 : Int) = decE s) /\ True) /\ (v3 = false -> ∀ (v4 : Int), v4 = ↑s.size -> ∀ v5, v5 = decide (v4 < (65 : Int)) -> (v5 = true -> ((IntKind.u64 = IntKind.u64 /\ 0 = limb (decX s) 0) /\ (IntKind.u64 = IntKind.u64 /\ 0 = limb (decX s) 1) /\ (IntKind.u64 = IntKind.u64 /\ 0 = limb (decX s) 2) /\ (IntKind.u64 = IntKind.u64 /\ 0 = limb (decX s) 3) /\ (IntKind.u64 = IntKind.u64 /\ 0 = limb (decY s) 0) /\ (IntKind.u64 = IntKind.u64 /\ 0 = limb (decY s) 1) /\ (IntKind.u64 = IntKind.u64 /\ 0 = limb (decY s) 2) /\ (IntKind.u64 = IntKind.u64 /\ 0 = limb (decY s) 3) /\ false = false /\ True) /\ (IntKind.i64 = IntKind.i64 /\ (11 : Int) = decE s) /\ True) /\ (v5 = false -> ∀ (v6 : Int), v6 = ↑s.size -> ∀ v7, v7 = decide (v6 > (65 : Int)) -> (v7 = true -> ((IntKind.u64 = IntKind.u64 /\ 0 = limb (decX s) 0) /\ (IntKind.u64 = IntKind.u64 /\ 0 = limb (decX s) 1) /\ (IntKind.u64 = IntKind.u64 /\ 0 = limb (decX s) 2) /\ (IntKind.u64 = IntKind.u64 /\ 0 = limb (decX s) 3) /\ (IntKind.u64 = IntKind.u64 /\ 0 = limb (decY s) 0) /\ (IntKind.u64 = IntKind.u64 /\ 0 = limb (decY s) 1) /\ (IntKind.u64 = IntKind.u64 /\ 0 = limb (decY s) 2) /\ (IntKind.u64 = IntKind.u64 /\ 0 = limb (decY s) 3) /\ false = false /\ True) /\ (IntKind.i64 = IntKind.i64 /\ (12 : Int) = decE s) /\ True) /\ (v7 = false -> ((0 : Int) ≤ (1 : Int) /\ (1 : Int) ≤ (33 : Int) /\ (33 : Int) ≤ ↑s.size) /\ ∀ (v8 : ByteArray), v8 = s.extract 1 33 -> v8.size ≤ 140737488355328 /\ ∀ v9, v9 = beF v8 -> ∀ v10, v10 = erF ↑v8.size (32 : Int) -> ((0 : Int) ≤ (33 : Int) /\ (33 : Int) ≤ ↑s.size /\ (↑s.size : Int) ≤ ↑s.size) /\ ∀ (v11 : ByteArray), v11 = s.extract 33 (↑s.size : Int).toNat -> v11.size ≤ 140737488355328 /\ ∀ v12, v12 = beF v11 -> ∀ v13, v13 = erF ↑v11.size (32 : Int) -> (U64 (limb v9 0) /\ U64 (limb v9 1) /\ U64 (limb v9 2) /\ U64 (limb v9 3) /\ U64 (limb v12 0) /\ U64 (limb v12 1) /\ U64 (limb v12 2) /\ U64 (limb v12 3)) /\ ∀ v14, v14 = onP (val4 (limb v9 0) (limb v9 1) (limb v9 2) (limb v9 3)) (val4 (limb v12 0) (limb v12 1) (limb v12 2) (limb v12 3)) false -> (v14 = true -> ((IntKind.u64 = IntKind.u64 /\ limb v9 0 = limb (decX s) 0) /\ (IntKind.u64 = IntKind.u64 /\ limb v9 1 = limb (decX s) 1) /\ (IntKind.u64 = IntKind.u64 /\ limb v9 2 = limb (decX s) 2) /\ (IntKind.u64 = IntKind.u64 /\ limb v9 3 = limb (decX s) 3) /\ (IntKind.u64 = IntKind.u64 /\ limb v12 0 = limb (decY s) 0) /\ (IntKind.u64 = IntKind.u64 /\ limb v12 1 = limb (decY s) 1) /\ (IntKind.u64 = IntKind.u64 /\ limb v12 2 = limb (decY s) 2) /\ (IntKind.u64 = IntKind.u64 /\ limb v12 3 = limb (decY s) 3) /\ false = false /\ True) /\ (IntKind.i64 = IntKind.i64 /\ (0 : Int) = decE s) /\ True) /\ (v14 = false -> ((IntKind.u64 = IntKind.u64 /\ 0 = limb (decX s) 0) /\ (IntKind.u64 = IntKind.u64 /\ 0 = limb (decX s) 1) /\ (IntKind.u64 = IntKind.u64 /\ 0 = limb (decX s) 2) /\ (IntKind.u64 = IntKind.u64 /\ 0 = limb (decX s) 3) /\ (IntKind.u64 = IntKind.u64 /\ 0 = limb (decY s) 0) /\ (IntKind.u64 = IntKind.u64 /\ 0 = limb (decY s) 1) /\ (IntKind.u64 = IntKind.u64 /\ 0 = limb (decY s) 2) /\ (IntKind.u64 = IntKind.u64 /\ 0 = limb (decY s) 3) /\ false = false /\ True) /\ (IntKind.i64 = IntKind.i64 /\ (15 : Int) = decE s) /\ True)))))
theorem tiePDecode (w0 : World) (s : ByteArray) : VCPDecode s = ((recN (GC Try.prog pt16Spec w0) 40).call 57 [.str (.sym s)] [] (fun r__ _ => eqV r__ (.tup [.agg [.int .u64 (.sym (limb (decX s) 0)), .int .u64 (.sym (limb (decX s) 1)), .int .u64 (.sym (limb (decX s) 2)), .int .u64 (.sym (limb (decX s) 3)), .int .u64 (.sym (limb (decY s) 0)), .int .u64 (.sym (limb (decY s) 1)), .int .u64 (.sym (limb (decY s) 2)), .int .u64 (.sym (limb (decY s) 3)), .bool (.lit false)], .int .i64 (.sym (decE s))]))) := by kernel_rfl
theorem purePDecode (s : ByteArray) (h : s.size ≤ 140737488351232) : VCPDecode s := by
  refine brBA (fun c1 => dec_z (if_pos c1) (by decide)) fun c1 => ⟨⟨by decide, sz_pos c1⟩, fun v2 h2 => brN (fun c2 => dec_z (e := 10) ?_ (by decide)) fun c2 => ?_⟩
  · unfold decE; rw [if_neg c1, if_pos (by rw [← h2]; exact c2)]
  rw [h2] at c2
  intro v4 h4
  refine br (fun c4 => dec_z (e := 11) ?_ (by decide)) fun c4 => ?_
  · unfold decE; rw [if_neg c1, if_neg (fun z => z c2), if_pos (by omega)]
  intro v6 h6
  refine br (fun c6 => dec_z (e := 12) ?_ (by decide)) fun c6 => ?_
  · unfold decE; rw [if_neg c1, if_neg (fun z => z c2), if_neg (by omega), if_pos (by omega)]
  refine ⟨by omega, fun v8 h8 => ⟨by rw [h8, ByteArray.size_extract]; omega, fun v9 h9 v10 h10 => ⟨by omega, fun v11 h11 => ⟨by rw [h11, ByteArray.size_extract]; omega, fun v12 h12 v13 h13 => ?_⟩⟩⟩⟩
  obtain ⟨d1, d2, d3, d4⟩ := dec_end c1 c2 (by omega) h8 h9 h11 h12
  refine ⟨⟨limb_in .., limb_in .., limb_in .., limb_in .., limb_in .., limb_in .., limb_in .., limb_in ..⟩, fun v14 h14 => ⟨fun o => ?_, fun o => ?_⟩⟩
  · rw [d3, d4] at h14
    rw [h14] at o
    obtain ⟨x, y⟩ := d2 o
    rw [o] at d1
    rw [x, y, d1]
    exact ⟨⟨⟨rfl, rfl⟩, ⟨rfl, rfl⟩, ⟨rfl, rfl⟩, ⟨rfl, rfl⟩, ⟨rfl, rfl⟩, ⟨rfl, rfl⟩, ⟨rfl, rfl⟩, ⟨rfl, rfl⟩, rfl, trivial⟩, ⟨rfl, rfl⟩, trivial⟩
  · rw [d3, d4] at h14
    rw [h14] at o
    rw [o] at d1
    exact dec_z d1 (by decide)
theorem pDecode_ok : SpecOk Try.prog 57 pDecodeSpec := by
  intro args k h
  unfold pDecodeSpec at h
  split at h
  · rename_i s
    obtain ⟨hr, h⟩ := h
    exact ⟨_, h _ rfl _ rfl _ rfl, PureOk.of_tie (GC Try.prog pt16Spec) (fun w__ => gok w__ namesOk_ mixed_ pt16_ok) (fun _ => rfl) (fun _ => rfl) (args' := [.str (.sym s.val)]) ⟨rfl, trivial⟩ 40 (fun w__ => VCPDecode s.val) (fun w__ => tiePDecode w__ s.val) (fun w__ => purePDecode s.val hr)⟩
  · exact h.elim

def rDecodeSpec : CSpec
  | [.str s], k => ((s.val.size ≤ 140737488351232)) ∧ (∀ r0 : Int, r0 = (decX s.val) → ∀ r1 : Int, r1 = (decY s.val) → ∀ r2 : Int, r2 = (decE s.val) → k (.tup [.agg [.int .u64 (.sym (limb r0 0)), .int .u64 (.sym (limb r0 1)), .int .u64 (.sym (limb r0 2)), .int .u64 (.sym (limb r0 3)), .int .u64 (.sym (limb r1 0)), .int .u64 (.sym (limb r1 1)), .int .u64 (.sym (limb r1 2)), .int .u64 (.sym (limb r1 3)), .bool (.lit false)], .int .i64 (.sym r2)]))
  | _, _ => False
def VCRDecode (s : ByteArray) : Prop :=
  ∀ v1, v1 = (s == bytesL []) -> (v1 = true -> ((IntKind.u64 = IntKind.u64 /\ 0 = limb (decX s) 0) /\ (IntKind.u64 = IntKind.u64 /\ 0 = limb (decX s) 1) /\ (IntKind.u64 = IntKind.u64 /\ 0 = limb (decX s) 2) /\ (IntKind.u64 = IntKind.u64 /\ 0 = limb (decX s) 3) /\ (IntKind.u64 = IntKind.u64 /\ 0 = limb (decY s) 0) /\ (IntKind.u64 = IntKind.u64 /\ 0 = limb (decY s) 1) /\ (IntKind.u64 = IntKind.u64 /\ 0 = limb (decY s) 2) /\ (IntKind.u64 = IntKind.u64 /\ 0 = limb (decY s) 3) /\ false = false /\ True) /\ (IntKind.i64 = IntKind.i64 /\ (11 : Int) = decE s) /\ True) /\ (v1 = false -> ((0 : Int) ≤ (0 : Int) /\ (0 : Int) < ↑s.size) /\ ∀ v2, v2 = byteAt s (0 : Int) -> ∀ v3, v3 = (v2 != (4 : Int)) -> (v3 = true -> ((IntKind.u64 = IntKind.u64 /\ 0 = limb (decX s) 0) /\ (IntKind.u64 = IntKind.u64 /\ 0 = limb (decX s) 1) /\ (IntKind.u64 = IntKind.u64 /\ 0 = limb (decX s) 2) /\ (IntKind.u64 = IntKind.u64 /\ 0 = limb (decX s) 3) /\ (IntKind.u64 = IntKind.u64 /\ 0 = limb (decY s) 0) /\ (IntKind.u64 = IntKind.u64 /\ 0 = limb (decY s) 1) /\ (IntKind.u64 = IntKind.u64 /\ 0 = limb (decY s) 2) /\ (IntKind.u64 = IntKind.u64 /\ 0 = limb (decY s) 3) /\ false = false /\ True) /\ (IntKind.i64 = IntKind.i64 /\ (10 : Int) = decE s) /\ True) /\ (v3 = false -> ∀ (v4 : Int), v4 = ↑s.size -> ∀ v5, v5 = decide (v4 < (65 : Int)) -> (v5 = true -> ((IntKind.u64 = IntKind.u64 /\ 0 = limb (decX s) 0) /\ (IntKind.u64 = IntKind.u64 /\ 0 = limb (decX s) 1) /\ (IntKind.u64 = IntKind.u64 /\ 0 = limb (decX s) 2) /\ (IntKind.u64 = IntKind.u64 /\ 0 = limb (decX s) 3) /\ (IntKind.u64 = IntKind.u64 /\ 0 = limb (decY s) 0) /\ (IntKind.u64 = IntKind.u64 /\ 0 = limb (decY s) 1) /\ (IntKind.u64 = IntKind.u64 /\ 0 = limb (decY s) 2) /\ (IntKind.u64 = IntKind.u64 /\ 0 = limb (decY s) 3) /\ false = false /\ True) /\ (IntKind.i64 = IntKind.i64 /\ (11 : Int) = decE s) /\ True) /\ (v5 = false -> ∀ (v6 : Int), v6 = ↑s.size -> ∀ v7, v7 = decide (v6 > (65 : Int)) -> (v7 = true -> ((IntKind.u64 = IntKind.u64 /\ 0 = limb (decX s) 0) /\ (IntKind.u64 = IntKind.u64 /\ 0 = limb (decX s) 1) /\ (IntKind.u64 = IntKind.u64 /\ 0 = limb (decX s) 2) /\ (IntKind.u64 = IntKind.u64 /\ 0 = limb (decX s) 3) /\ (IntKind.u64 = IntKind.u64 /\ 0 = limb (decY s) 0) /\ (IntKind.u64 = IntKind.u64 /\ 0 = limb (decY s) 1) /\ (IntKind.u64 = IntKind.u64 /\ 0 = limb (decY s) 2) /\ (IntKind.u64 = IntKind.u64 /\ 0 = limb (decY s) 3) /\ false = false /\ True) /\ (IntKind.i64 = IntKind.i64 /\ (12 : Int) = decE s) /\ True) /\ (v7 = false -> ((0 : Int) ≤ (1 : Int) /\ (1 : Int) ≤ (33 : Int) /\ (33 : Int) ≤ ↑s.size) /\ ∀ (v8 : ByteArray), v8 = s.extract 1 33 -> v8.size ≤ 140737488355328 /\ ∀ v9, v9 = beF v8 -> ∀ v10, v10 = erF ↑v8.size (32 : Int) -> ((0 : Int) ≤ (33 : Int) /\ (33 : Int) ≤ ↑s.size /\ (↑s.size : Int) ≤ ↑s.size) /\ ∀ (v11 : ByteArray), v11 = s.extract 33 (↑s.size : Int).toNat -> v11.size ≤ 140737488355328 /\ ∀ v12, v12 = beF v11 -> ∀ v13, v13 = erF ↑v11.size (32 : Int) -> (U64 (limb v9 0) /\ U64 (limb v9 1) /\ U64 (limb v9 2) /\ U64 (limb v9 3) /\ U64 (limb v12 0) /\ U64 (limb v12 1) /\ U64 (limb v12 2) /\ U64 (limb v12 3)) /\ ∀ v14, v14 = onP (val4 (limb v9 0) (limb v9 1) (limb v9 2) (limb v9 3)) (val4 (limb v12 0) (limb v12 1) (limb v12 2) (limb v12 3)) false -> ∀ (v15 : Bool), v15 = !v14 -> (v15 = true -> ((IntKind.u64 = IntKind.u64 /\ 0 = limb (decX s) 0) /\ (IntKind.u64 = IntKind.u64 /\ 0 = limb (decX s) 1) /\ (IntKind.u64 = IntKind.u64 /\ 0 = limb (decX s) 2) /\ (IntKind.u64 = IntKind.u64 /\ 0 = limb (decX s) 3) /\ (IntKind.u64 = IntKind.u64 /\ 0 = limb (decY s) 0) /\ (IntKind.u64 = IntKind.u64 /\ 0 = limb (decY s) 1) /\ (IntKind.u64 = IntKind.u64 /\ 0 = limb (decY s) 2) /\ (IntKind.u64 = IntKind.u64 /\ 0 = limb (decY s) 3) /\ false = false /\ True) /\ (IntKind.i64 = IntKind.i64 /\ (15 : Int) = decE s) /\ True) /\ (v15 = false -> ((IntKind.u64 = IntKind.u64 /\ limb v9 0 = limb (decX s) 0) /\ (IntKind.u64 = IntKind.u64 /\ limb v9 1 = limb (decX s) 1) /\ (IntKind.u64 = IntKind.u64 /\ limb v9 2 = limb (decX s) 2) /\ (IntKind.u64 = IntKind.u64 /\ limb v9 3 = limb (decX s) 3) /\ (IntKind.u64 = IntKind.u64 /\ limb v12 0 = limb (decY s) 0) /\ (IntKind.u64 = IntKind.u64 /\ limb v12 1 = limb (decY s) 1) /\ (IntKind.u64 = IntKind.u64 /\ limb v12 2 = limb (decY s) 2) /\ (IntKind.u64 = IntKind.u64 /\ limb v12 3 = limb (decY s) 3) /\ false = false /\ True) /\ (IntKind.i64 = IntKind.i64 /\ (0 : Int) = decE s) /\ True)))))
theorem tieRDecode (w0 : World) (s : ByteArray) : VCRDecode s = ((recN (GC Try.prog pt16Spec w0) 40).call 59 [.str (.sym s)] [] (fun r__ _ => eqV r__ (.tup [.agg [.int .u64 (.sym (limb (decX s) 0)), .int .u64 (.sym (limb (decX s) 1)), .int .u64 (.sym (limb (decX s) 2)), .int .u64 (.sym (limb (decX s) 3)), .int .u64 (.sym (limb (decY s) 0)), .int .u64 (.sym (limb (decY s) 1)), .int .u64 (.sym (limb (decY s) 2)), .int .u64 (.sym (limb (decY s) 3)), .bool (.lit false)], .int .i64 (.sym (decE s))]))) := by kernel_rfl
theorem pureRDecode (s : ByteArray) (h : s.size ≤ 140737488351232) : VCRDecode s := by
  refine brBA (fun c1 => dec_z (if_pos c1) (by decide)) fun c1 => ⟨⟨by decide, sz_pos c1⟩, fun v2 h2 => brN (fun c2 => dec_z (e := 10) ?_ (by decide)) fun c2 => ?_⟩
  · unfold decE; rw [if_neg c1, if_pos (by rw [← h2]; exact c2)]
  rw [h2] at c2
  intro v4 h4
  refine br (fun c4 => dec_z (e := 11) ?_ (by decide)) fun c4 => ?_
  · unfold decE; rw [if_neg c1, if_neg (fun z => z c2), if_pos (by omega)]
  intro v6 h6
  refine br (fun c6 => dec_z (e := 12) ?_ (by decide)) fun c6 => ?_
  · unfold decE; rw [if_neg c1, if_neg (fun z => z c2), if_neg (by omega), if_pos (by omega)]
  refine ⟨by omega, fun v8 h8 => ⟨by rw [h8, ByteArray.size_extract]; omega, fun v9 h9 v10 h10 => ⟨by omega, fun v11 h11 => ⟨by rw [h11, ByteArray.size_extract]; omega, fun v12 h12 v13 h13 => ?_⟩⟩⟩⟩
  obtain ⟨d1, d2, d3, d4⟩ := dec_end c1 c2 (by omega) h8 h9 h11 h12
  refine ⟨⟨limb_in .., limb_in .., limb_in .., limb_in .., limb_in .., limb_in .., limb_in .., limb_in ..⟩, fun v14 h14 v15 h15 => ⟨fun o => ?_, fun o => ?_⟩⟩
  · have o : v14 = false := by rw [o] at h15; simpa using h15.symm
    rw [d3, d4] at h14
    rw [h14] at o
    rw [o] at d1
    exact dec_z d1 (by decide)
  · have o : v14 = true := by rw [o] at h15; simpa using h15.symm
    rw [d3, d4] at h14
    rw [h14] at o
    obtain ⟨x, y⟩ := d2 o
    rw [o] at d1
    rw [x, y, d1]
    exact ⟨⟨⟨rfl, rfl⟩, ⟨rfl, rfl⟩, ⟨rfl, rfl⟩, ⟨rfl, rfl⟩, ⟨rfl, rfl⟩, ⟨rfl, rfl⟩, ⟨rfl, rfl⟩, ⟨rfl, rfl⟩, rfl, trivial⟩, ⟨rfl, rfl⟩, trivial⟩
theorem rDecode_ok : SpecOk Try.prog 59 rDecodeSpec := by
  intro args k h
  unfold rDecodeSpec at h
  split at h
  · rename_i s
    obtain ⟨hr, h⟩ := h
    exact ⟨_, h _ rfl _ rfl _ rfl, PureOk.of_tie (GC Try.prog pt16Spec) (fun w__ => gok w__ namesOk_ mixed_ pt16_ok) (fun _ => rfl) (fun _ => rfl) (args' := [.str (.sym s.val)]) ⟨rfl, trivial⟩ 40 (fun w__ => VCRDecode s.val) (fun w__ => tieRDecode w__ s.val) (fun w__ => pureRDecode s.val hr)⟩
  · exact h.elim

def rNegSpec : CSpec
  | [.agg [.int .u64 ax0, .int .u64 ax1, .int .u64 ax2, .int .u64 ax3, .int .u64 ay0, .int .u64 ay1, .int .u64 ay2, .int .u64 ay3, .bool ai]], k => ((U64 ax0.val) ∧ (U64 ax1.val) ∧ (U64 ax2.val) ∧ (U64 ax3.val) ∧ (U64 ay0.val) ∧ (U64 ay1.val) ∧ (U64 ay2.val) ∧ (U64 ay3.val)) ∧ (∀ r0 : Int, r0 = (ax0.val) → ∀ r1 : Int, r1 = (ax1.val) → ∀ r2 : Int, r2 = (ax2.val) → ∀ r3 : Int, r3 = (ax3.val) → ∀ r4 : Int, r4 = (sI 0 (val4 ay0.val ay1.val ay2.val ay3.val)) → ∀ r5 : Bool, r5 = (ai.val) → k (.agg [.int .u64 (.sym r0), .int .u64 (.sym r1), .int .u64 (.sym r2), .int .u64 (.sym r3), .int .u64 (.sym (limb r4 0)), .int .u64 (.sym (limb r4 1)), .int .u64 (.sym (limb r4 2)), .int .u64 (.sym (limb r4 3)), .bool (.sym r5)]))
  | _, _ => False
def VCRNeg (ax0 : Int) (ax1 : Int) (ax2 : Int) (ax3 : Int) (ay0 : Int) (ay1 : Int) (ay2 : Int) (ay3 : Int) (ai : Bool) : Prop :=
  (U64 0 /\ U64 0 /\ U64 0 /\ U64 0 /\ U64 ay0 /\ U64 ay1 /\ U64 ay2 /\ U64 ay3) /\ ∀ v1, v1 = sI (0 : Int) (val4 ay0 ay1 ay2 ay3) -> (IntKind.u64 = IntKind.u64 /\ ax0 = ax0) /\ (IntKind.u64 = IntKind.u64 /\ ax1 = ax1) /\ (IntKind.u64 = IntKind.u64 /\ ax2 = ax2) /\ (IntKind.u64 = IntKind.u64 /\ ax3 = ax3) /\ (IntKind.u64 = IntKind.u64 /\ limb v1 0 = limb (sI (0 : Int) (val4 ay0 ay1 ay2 ay3)) 0) /\ (IntKind.u64 = IntKind.u64 /\ limb v1 1 = limb (sI (0 : Int) (val4 ay0 ay1 ay2 ay3)) 1) /\ (IntKind.u64 = IntKind.u64 /\ limb v1 2 = limb (sI (0 : Int) (val4 ay0 ay1 ay2 ay3)) 2) /\ (IntKind.u64 = IntKind.u64 /\ limb v1 3 = limb (sI (0 : Int) (val4 ay0 ay1 ay2 ay3)) 3) /\ ai = ai /\ True
theorem tieRNeg (w0 : World) (ax0 : Int) (ax1 : Int) (ax2 : Int) (ax3 : Int) (ay0 : Int) (ay1 : Int) (ay2 : Int) (ay3 : Int) (ai : Bool) : VCRNeg ax0 ax1 ax2 ax3 ay0 ay1 ay2 ay3 ai = ((recN (GC Try.prog pt16Spec w0) 40).call 65 [.agg [.int .u64 (.sym ax0), .int .u64 (.sym ax1), .int .u64 (.sym ax2), .int .u64 (.sym ax3), .int .u64 (.sym ay0), .int .u64 (.sym ay1), .int .u64 (.sym ay2), .int .u64 (.sym ay3), .bool (.sym ai)]] [] (fun r__ _ => eqV r__ (.agg [.int .u64 (.sym (ax0)), .int .u64 (.sym (ax1)), .int .u64 (.sym (ax2)), .int .u64 (.sym (ax3)), .int .u64 (.sym (limb (sI 0 (val4 ay0 ay1 ay2 ay3)) 0)), .int .u64 (.sym (limb (sI 0 (val4 ay0 ay1 ay2 ay3)) 1)), .int .u64 (.sym (limb (sI 0 (val4 ay0 ay1 ay2 ay3)) 2)), .int .u64 (.sym (limb (sI 0 (val4 ay0 ay1 ay2 ay3)) 3)), .bool (.sym (ai))]))) := by kernel_rfl
theorem pureRNeg (ax0 ax1 ax2 ax3 ay0 ay1 ay2 ay3 : Int) (ai : Bool) (h : U64 ax0 ∧ U64 ax1 ∧ U64 ax2 ∧ U64 ax3 ∧ U64 ay0 ∧ U64 ay1 ∧ U64 ay2 ∧ U64 ay3) : VCRNeg ax0 ax1 ax2 ax3 ay0 ay1 ay2 ay3 ai := by
  refine ⟨⟨U64_0, U64_0, U64_0, U64_0, h.2.2.2.2⟩, fun v1 h1 => ?_⟩
  rw [h1]
  exact ⟨⟨rfl, rfl⟩, ⟨rfl, rfl⟩, ⟨rfl, rfl⟩, ⟨rfl, rfl⟩, ⟨rfl, rfl⟩, ⟨rfl, rfl⟩, ⟨rfl, rfl⟩, ⟨rfl, rfl⟩, rfl, trivial⟩
theorem rNeg_ok : SpecOk Try.prog 65 rNegSpec := by
  intro args k h
  unfold rNegSpec at h
  split at h
  · rename_i ax0 ax1 ax2 ax3 ay0 ay1 ay2 ay3 ai
    obtain ⟨hr, h⟩ := h
    exact ⟨_, h _ rfl _ rfl _ rfl _ rfl _ rfl _ rfl, PureOk.of_tie (GC Try.prog pt16Spec) (fun w__ => gok w__ namesOk_ mixed_ pt16_ok) (fun _ => rfl) (fun _ => rfl) (args' := [.agg [.int .u64 (.sym ax0.val), .int .u64 (.sym ax1.val), .int .u64 (.sym ax2.val), .int .u64 (.sym ax3.val), .int .u64 (.sym ay0.val), .int .u64 (.sym ay1.val), .int .u64 (.sym ay2.val), .int .u64 (.sym ay3.val), .bool (.sym ai.val)]]) ⟨⟨⟨rfl, rfl⟩, ⟨rfl, rfl⟩, ⟨rfl, rfl⟩, ⟨rfl, rfl⟩, ⟨rfl, rfl⟩, ⟨rfl, rfl⟩, ⟨rfl, rfl⟩, ⟨rfl, rfl⟩, rfl, trivial⟩, trivial⟩ 40 (fun w__ => VCRNeg ax0.val ax1.val ax2.val ax3.val ay0.val ay1.val ay2.val ay3.val ai.val) (fun w__ => tieRNeg w__ ax0.val ax1.val ax2.val ax3.val ay0.val ay1.val ay2.val ay3.val ai.val) (fun w__ => pureRNeg ax0.val ax1.val ax2.val ax3.val ay0.val ay1.val ay2.val ay3.val ai.val hr)⟩
  · exact h.elim

end Go.Proofs.Ytaaobpalpcdlbaa.Bits
