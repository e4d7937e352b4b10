import Derived.Test.YtaaobpalpcdlbaaDoorSxR
import Derived.Test.YtaaobpalpcdlbaaDoorProg
import Derived.Test.YtaaobpalpcdlbaaDoorNum3
import Derived.KernelRfl
namespace Go.Proofs.YtaaobpalpcdlbaaDoor.Bits
open Go Go.Sx Go.RowKit
set_option linter.unusedVariables false
set_option maxRecDepth 100000
def erF (n k : Int) : Int := if n < k then 11 else if n > k then 12 else 0
def w8 (s : ByteArray) (i : Int) : Int := byteAt s i + byteAt s (i + 1) * 256 + byteAt s (i + 2) * 65536 + byteAt s (i + 3) * 16777216 + byteAt s (i + 4) * 4294967296 + byteAt s (i + 5) * 1099511627776 + byteAt s (i + 6) * 281474976710656 + byteAt s (i + 7) * 72057594037927936
def leF (s : ByteArray) : Int := if (s.size : Int) = 32 then val4 (w8 s 0) (w8 s 8) (w8 s 16) (w8 s 24) else 0
def littleF (n : Int) : ByteArray := mkBytes ((List.range 32).map fun (i : Nat) => n / 256 ^ i % 256)
def strAtSpec (S : St) (t : Nat) : ByteArray := match nth S.ts t with | .str s => s.val | _ => ByteArray.empty
def revF (s : ByteArray) : ByteArray := fbytes (fun i => byteAt s ((s.size : Int) - 1 - i)) (s.size : Int)
def rturnR (s : ByteArray) (n i : Int) (f : Int → Int) : Prop := (0 ≤ i ∧ i ≤ n ∧ n = (s.size : Int)) ∧ ∀ j, 0 ≤ j → j < i → f j = byteAt s (n - 1 - j)
def rturnASpec : St → Inv := fun S =>
  { ι := Int × (Int → Int)
    T := fun p => stS (keepS (setF S 0 (flen S 0) [.int .u8 p.2]) [0, 3]) [(4, .int .i64 (.sym p.1))]
    R := fun p => rturnR (strAtSpec S 0) (flen S 0) p.1 p.2
    μ := fun p => (flen S 0 - p.1).toNat }
def revR (g : Int → Int) (n i j : Int) (f : Int → Int) : Prop := (0 ≤ i ∧ i + j = n - 1 ∧ i ≤ j + 2) ∧ ∀ x, 0 ≤ x → x < n → f x = if x < i ∨ j < x then g (n - 1 - x) else g x
def revASpec : St → Inv := fun S =>
  { ι := Int × Int × (Int → Int)
    T := fun p => stS (keepS (setF S 1 (flen S 1) [.int .u8 p.2.2]) [0]) [(2, .int .i64 (.sym p.1)), (3, .int .i64 (.sym p.2.1))]
    R := fun p => revR (fat S 1 0) (flen S 1) p.1 p.2.1 p.2.2
    μ := fun p => (p.2.1 - p.1 + 1).toNat }
def turnAnnSpec : Anns := [(52, 0, rturnASpec), (64, 0, revASpec)]
def turnCutSpec : Anns := []
def turnSpec : List (FuncId × CSpec) := []
theorem turn_ok : SpecsOk Tryd.prog turnSpec := trivial
theorem byteAt_in (s : ByteArray) (i : Int) : 0 ≤ byteAt s i ∧ byteAt s i ≤ 255 := by
  unfold byteAt
  have := ((s.data.toList[i.toNat]?).getD 0).toNat_lt
  omega
theorem or_comm_u64 (x y : Int) : bitI .or .u64 x y = bitI .or .u64 y x := by rw [bit_or, bit_or, Nat.or_comm]
theorem limbZ : (IntKind.u64 = IntKind.u64 ∧ (0 : Int) = limb 0 0) ∧ (IntKind.u64 = IntKind.u64 ∧ (0 : Int) = limb 0 1) ∧ (IntKind.u64 = IntKind.u64 ∧ (0 : Int) = limb 0 2) ∧ (IntKind.u64 = IntKind.u64 ∧ (0 : Int) = limb 0 3) ∧ True := by
  simp [limb]
theorem flStep {s : ByteArray} {i prev m p : Int} {G : Int → Prop} (n : Nat) (hs : (s.size : Int) = 32) (h0 : 0 ≤ i ∧ i < 32) (hprev : 0 ≤ prev ∧ prev < p) (hm : m = n) (hp : p = 2 ^ n) (hn : n ≤ 56)
    (next : ∀ v, v = prev + byteAt s i * p → (0 ≤ v ∧ v < p * 256) → G v) :
    (0 ≤ i ∧ i < (s.size : Int)) ∧ ∀ v5, v5 = byteAt s i → ∀ v6, v6 = IntKind.u64.wrap v5 → ∀ v7, v7 = shlI IntKind.u64 v6 m → ∀ v8, v8 = bitI .or .u64 prev v7 → G v8 := by
  refine ⟨by omega, fun v5 h5 v6 h6 v7 h7 v8 h8 => next v8 ?_ ?_⟩
  all_goals
    have hb := byteAt_in s i
    have hp1 : (1 : Int) ≤ p := by omega
    have hpm : p ≤ 72057594037927936 := by
      rw [hp]
      have q : (2 : Nat) ^ n ≤ 2 ^ 56 := Nat.pow_le_pow_right (by omega) hn
      have q2 : ((2 ^ n : Nat) : Int) ≤ ((2 ^ 56 : Nat) : Int) := Int.ofNat_le.2 q
      rw [show ((2 ^ 56 : Nat) : Int) = 72057594037927936 from rfl, Int.natCast_pow] at q2
      exact q2
    have e6 : v6 = byteAt s i := by rw [h6, h5, u64_id (by omega) (by omega)]
    have l0 : 0 ≤ byteAt s i * p := Int.mul_nonneg hb.1 (by omega)
    have l1 : byteAt s i * p ≤ 255 * p := Int.mul_le_mul_of_nonneg_right hb.2 (by omega)
    have e7 : v7 = byteAt s i * p := by rw [h7, shlN .u64 v6 n m p hm hp (by simp only [IntKind.bits]; omega), e6, u64_id l0 (by omega)]
    have e8 : v8 = byteAt s i * p + prev := by
      rw [h8, e7, or_comm_u64]
      rw [hp] at l0 l1 hprev hpm ⊢
      exact or_parts_u64 hb.1 hprev.1 hprev.2 (by omega) (by omega) (by omega)
    omega
theorem liStep {x m p y : Int} {G : Int → Prop} (n : Nat) (hm : m = n) (hp : p = 2 ^ n) (hn : n ≤ 64) (hy : x / p % 256 = y) (next : G y) :
    ∀ v1, v1 = shrI IntKind.u64 x m → ∀ v2, v2 = IntKind.u8.wrap v1 → G v2 := by
  intro v1 h1 v2 h2
  have : v2 = y := by rw [h2, h1, w_u8, shrN .u64 x n m p hm hp hn, hy]
  rw [this]; exact next
theorem mulPow (x : Int) (a b : Nat) : x / 2 ^ (a * b) = x / 2 ^ (a * b) := rfl
def littleSpec : CSpec
  | [.agg [.int .u64 n0, .int .u64 n1, .int .u64 n2, .int .u64 n3]], k => ((U64 n0.val) ∧ (U64 n1.val) ∧ (U64 n2.val) ∧ (U64 n3.val)) ∧ (∀ r0 : ByteArray, r0 = (littleF (val4 n0.val n1.val n2.val n3.val)) → k (.str (.sym r0)))
  | _, _ => False
def VCLittle (n0 : Int) (n1 : Int) (n2 : Int) (n3 : Int) : Prop :=
  ∀ v1, v1 = shrI IntKind.u64 n0 (0 : Int) -> ∀ v2, v2 = IntKind.u8.wrap v1 -> ∀ v3, v3 = shrI IntKind.u64 n0 (8 : Int) -> ∀ v4, v4 = IntKind.u8.wrap v3 -> ∀ v5, v5 = shrI IntKind.u64 n0 (16 : Int) -> ∀ v6, v6 = IntKind.u8.wrap v5 -> ∀ v7, v7 = shrI IntKind.u64 n0 (24 : Int) -> ∀ v8, v8 = IntKind.u8.wrap v7 -> ∀ v9, v9 = shrI IntKind.u64 n0 (32 : Int) -> ∀ v10, v10 = IntKind.u8.wrap v9 -> ∀ v11, v11 = shrI IntKind.u64 n0 (40 : Int) -> ∀ v12, v12 = IntKind.u8.wrap v11 -> ∀ v13, v13 = shrI IntKind.u64 n0 (48 : Int) -> ∀ v14, v14 = IntKind.u8.wrap v13 -> ∀ v15, v15 = shrI IntKind.u64 n0 (56 : Int) -> ∀ v16, v16 = IntKind.u8.wrap v15 -> ∀ v17, v17 = shrI IntKind.u64 n1 (0 : Int) -> ∀ v18, v18 = IntKind.u8.wrap v17 -> ∀ v19, v19 = shrI IntKind.u64 n1 (8 : Int) -> ∀ v20, v20 = IntKind.u8.wrap v19 -> ∀ v21, v21 = shrI IntKind.u64 n1 (16 : Int) -> ∀ v22, v22 = IntKind.u8.wrap v21 -> ∀ v23, v23 = shrI IntKind.u64 n1 (24 : Int) -> ∀ v24, v24 = IntKind.u8.wrap v23 -> ∀ v25, v25 = shrI IntKind.u64 n1 (32 : Int) -> ∀ v26, v26 = IntKind.u8.wrap v25 -> ∀ v27, v27 = shrI IntKind.u64 n1 (40 : Int) -> ∀ v28, v28 = IntKind.u8.wrap v27 -> ∀ v29, v29 = shrI IntKind.u64 n1 (48 : Int) -> ∀ v30, v30 = IntKind.u8.wrap v29 -> ∀ v31, v31 = shrI IntKind.u64 n1 (56 : Int) -> ∀ v32, v32 = IntKind.u8.wrap v31 -> ∀ v33, v33 = shrI IntKind.u64 n2 (0 : Int) -> ∀ v34, v34 = IntKind.u8.wrap v33 -> ∀ v35, v35 = shrI IntKind.u64 n2 (8 : Int) -> ∀ v36, v36 = IntKind.u8.wrap v35 -> ∀ v37, v37 = shrI IntKind.u64 n2 (16 : Int) -> ∀ v38, v38 = IntKind.u8.wrap v37 -> ∀ v39, v39 = shrI IntKind.u64 n2 (24 : Int) -> ∀ v40, v40 = IntKind.u8.wrap v39 -> ∀ v41, v41 = shrI IntKind.u64 n2 (32 : Int) -> ∀ v42, v42 = IntKind.u8.wrap v41 -> ∀ v43, v43 = shrI IntKind.u64 n2 (40 : Int) -> ∀ v44, v44 = IntKind.u8.wrap v43 -> ∀ v45, v45 = shrI IntKind.u64 n2 (48 : Int) -> ∀ v46, v46 = IntKind.u8.wrap v45 -> ∀ v47, v47 = shrI IntKind.u64 n2 (56 : Int) -> ∀ v48, v48 = IntKind.u8.wrap v47 -> ∀ v49, v49 = shrI IntKind.u64 n3 (0 : Int) -> ∀ v50, v50 = IntKind.u8.wrap v49 -> ∀ v51, v51 = shrI IntKind.u64 n3 (8 : Int) -> ∀ v52, v52 = IntKind.u8.wrap v51 -> ∀ v53, v53 = shrI IntKind.u64 n3 (16 : Int) -> ∀ v54, v54 = IntKind.u8.wrap v53 -> ∀ v55, v55 = shrI IntKind.u64 n3 (24 : Int) -> ∀ v56, v56 = IntKind.u8.wrap v55 -> ∀ v57, v57 = shrI IntKind.u64 n3 (32 : Int) -> ∀ v58, v58 = IntKind.u8.wrap v57 -> ∀ v59, v59 = shrI IntKind.u64 n3 (40 : Int) -> ∀ v60, v60 = IntKind.u8.wrap v59 -> ∀ v61, v61 = shrI IntKind.u64 n3 (48 : Int) -> ∀ v62, v62 = IntKind.u8.wrap v61 -> ∀ v63, v63 = shrI IntKind.u64 n3 (56 : Int) -> ∀ v64, v64 = IntKind.u8.wrap v63 -> ∀ (v65 : ByteArray), v65 = mkBytes [v2, v4, v6, v8, v10, v12, v14, v16, v18, v20, v22, v24, v26, v28, v30, v32, v34, v36, v38, v40, v42, v44, v46, v48, v50, v52, v54, v56, v58, v60, v62, v64] -> v65 = littleF (val4 n0 n1 n2 n3)
theorem tieLittle (w0 : World) (n0 : Int) (n1 : Int) (n2 : Int) (n3 : Int) : VCLittle n0 n1 n2 n3 = ((recN (GC Tryd.prog [] w0) 40).call 33 [.agg [.int .u64 (.sym n0), .int .u64 (.sym n1), .int .u64 (.sym n2), .int .u64 (.sym n3)]] [] (fun r__ _ => eqV r__ (.str (.sym (littleF (val4 n0 n1 n2 n3)))))) := by kernel_rfl
theorem pureLittle (n0 n1 n2 n3 : Int) (h : U64 n0 ∧ U64 n1 ∧ U64 n2 ∧ U64 n3) : VCLittle n0 n1 n2 n3 := by
  obtain ⟨h0, h1, h2, h3⟩ := h
  refine liStep 0 rfl (p := 1) rfl (by omega) (y := val4 n0 n1 n2 n3 / 1 % 256) (by unfold val4; omega) ?_
  refine liStep 8 rfl (p := 256) rfl (by omega) (y := val4 n0 n1 n2 n3 / 256 % 256) (by unfold val4; omega) ?_
  refine liStep 16 rfl (p := 65536) rfl (by omega) (y := val4 n0 n1 n2 n3 / 65536 % 256) (by unfold val4; omega) ?_
  refine liStep 24 rfl (p := 16777216) rfl (by omega) (y := val4 n0 n1 n2 n3 / 16777216 % 256) (by unfold val4; omega) ?_
  refine liStep 32 rfl (p := 4294967296) rfl (by omega) (y := val4 n0 n1 n2 n3 / 4294967296 % 256) (by unfold val4; omega) ?_
  refine liStep 40 rfl (p := 1099511627776) rfl (by omega) (y := val4 n0 n1 n2 n3 / 1099511627776 % 256) (by unfold val4; omega) ?_
  refine liStep 48 rfl (p := 281474976710656) rfl (by omega) (y := val4 n0 n1 n2 n3 / 281474976710656 % 256) (by unfold val4; omega) ?_
  refine liStep 56 rfl (p := 72057594037927936) rfl (by omega) (y := val4 n0 n1 n2 n3 / 72057594037927936 % 256) (by unfold val4; omega) ?_
  refine liStep 0 rfl (p := 1) rfl (by omega) (y := val4 n0 n1 n2 n3 / 18446744073709551616 % 256) (by unfold val4; omega) ?_
  refine liStep 8 rfl (p := 256) rfl (by omega) (y := val4 n0 n1 n2 n3 / 4722366482869645213696 % 256) (by unfold val4; omega) ?_
  refine liStep 16 rfl (p := 65536) rfl (by omega) (y := val4 n0 n1 n2 n3 / 1208925819614629174706176 % 256) (by unfold val4; omega) ?_
  refine liStep 24 rfl (p := 16777216) rfl (by omega) (y := val4 n0 n1 n2 n3 / 309485009821345068724781056 % 256) (by unfold val4; omega) ?_
  refine liStep 32 rfl (p := 4294967296) rfl (by omega) (y := val4 n0 n1 n2 n3 / 79228162514264337593543950336 % 256) (by unfold val4; omega) ?_
  refine liStep 40 rfl (p := 1099511627776) rfl (by omega) (y := val4 n0 n1 n2 n3 / 20282409603651670423947251286016 % 256) (by unfold val4; omega) ?_
  refine liStep 48 rfl (p := 281474976710656) rfl (by omega) (y := val4 n0 n1 n2 n3 / 5192296858534827628530496329220096 % 256) (by unfold val4; omega) ?_
  refine liStep 56 rfl (p := 72057594037927936) rfl (by omega) (y := val4 n0 n1 n2 n3 / 1329227995784915872903807060280344576 % 256) (by unfold val4; omega) ?_
  refine liStep 0 rfl (p := 1) rfl (by omega) (y := val4 n0 n1 n2 n3 / 340282366920938463463374607431768211456 % 256) (by unfold val4; omega) ?_
  refine liStep 8 rfl (p := 256) rfl (by omega) (y := val4 n0 n1 n2 n3 / 87112285931760246646623899502532662132736 % 256) (by unfold val4; omega) ?_
  refine liStep 16 rfl (p := 65536) rfl (by omega) (y := val4 n0 n1 n2 n3 / 22300745198530623141535718272648361505980416 % 256) (by unfold val4; omega) ?_
  refine liStep 24 rfl (p := 16777216) rfl (by omega) (y := val4 n0 n1 n2 n3 / 5708990770823839524233143877797980545530986496 % 256) (by unfold val4; omega) ?_
  refine liStep 32 rfl (p := 4294967296) rfl (by omega) (y := val4 n0 n1 n2 n3 / 1461501637330902918203684832716283019655932542976 % 256) (by unfold val4; omega) ?_
  refine liStep 40 rfl (p := 1099511627776) rfl (by omega) (y := val4 n0 n1 n2 n3 / 374144419156711147060143317175368453031918731001856 % 256) (by unfold val4; omega) ?_
  refine liStep 48 rfl (p := 281474976710656) rfl (by omega) (y := val4 n0 n1 n2 n3 / 95780971304118053647396689196894323976171195136475136 % 256) (by unfold val4; omega) ?_
  refine liStep 56 rfl (p := 72057594037927936) rfl (by omega) (y := val4 n0 n1 n2 n3 / 24519928653854221733733552434404946937899825954937634816 % 256) (by unfold val4; omega) ?_
  refine liStep 0 rfl (p := 1) rfl (by omega) (y := val4 n0 n1 n2 n3 / 6277101735386680763835789423207666416102355444464034512896 % 256) (by unfold val4; omega) ?_
  refine liStep 8 rfl (p := 256) rfl (by omega) (y := val4 n0 n1 n2 n3 / 1606938044258990275541962092341162602522202993782792835301376 % 256) (by unfold val4; omega) ?_
  refine liStep 16 rfl (p := 65536) rfl (by omega) (y := val4 n0 n1 n2 n3 / 411376139330301510538742295639337626245683966408394965837152256 % 256) (by unfold val4; omega) ?_
  refine liStep 24 rfl (p := 16777216) rfl (by omega) (y := val4 n0 n1 n2 n3 / 105312291668557186697918027683670432318895095400549111254310977536 % 256) (by unfold val4; omega) ?_
  refine liStep 32 rfl (p := 4294967296) rfl (by omega) (y := val4 n0 n1 n2 n3 / 26959946667150639794667015087019630673637144422540572481103610249216 % 256) (by unfold val4; omega) ?_
  refine liStep 40 rfl (p := 1099511627776) rfl (by omega) (y := val4 n0 n1 n2 n3 / 6901746346790563787434755862277025452451108972170386555162524223799296 % 256) (by unfold val4; omega) ?_
  refine liStep 48 rfl (p := 281474976710656) rfl (by omega) (y := val4 n0 n1 n2 n3 / 1766847064778384329583297500742918515827483896875618958121606201292619776 % 256) (by unfold val4; omega) ?_
  refine liStep 56 rfl (p := 72057594037927936) rfl (by omega) (y := val4 n0 n1 n2 n3 / 452312848583266388373324160190187140051835877600158453279131187530910662656 % 256) (by unfold val4; omega) ?_
  intro v hv
  rw [hv]; rfl
theorem little_ok : SpecOk Tryd.prog 33 littleSpec := by
  intro args k h
  unfold littleSpec at h
  split at h
  · rename_i n0 n1 n2 n3
    obtain ⟨hr, h⟩ := h
    exact ⟨_, h _ rfl, PureOk.of_tie (GC Tryd.prog []) (fun w__ => gok w__ namesOk_ mixed_ trivial) (fun _ => rfl) (fun _ => rfl) (args' := [.agg [.int .u64 (.sym n0.val), .int .u64 (.sym n1.val), .int .u64 (.sym n2.val), .int .u64 (.sym n3.val)]]) ⟨⟨⟨rfl, rfl⟩, ⟨rfl, rfl⟩, ⟨rfl, rfl⟩, ⟨rfl, rfl⟩, trivial⟩, trivial⟩ 40 (fun w__ => VCLittle n0.val n1.val n2.val n3.val) (fun w__ => tieLittle w__ n0.val n1.val n2.val n3.val) (fun w__ => pureLittle n0.val n1.val n2.val n3.val hr)⟩
  · exact h.elim

def rLittleSpec : CSpec
  | [.agg [.int .u64 n0, .int .u64 n1, .int .u64 n2, .int .u64 n3]], k => ((U64 n0.val) ∧ (U64 n1.val) ∧ (U64 n2.val) ∧ (U64 n3.val)) ∧ (∀ r0 : ByteArray, r0 = (littleF (val4 n0.val n1.val n2.val n3.val)) → k (.str (.sym r0)))
  | _, _ => False
def VCRLittle (n0 : Int) (n1 : Int) (n2 : Int) (n3 : Int) : Prop := VCLittle n0 n1 n2 n3
theorem tieRLittle (w0 : World) (n0 : Int) (n1 : Int) (n2 : Int) (n3 : Int) : VCRLittle n0 n1 n2 n3 = ((recN (GC Tryd.prog [] w0) 40).call 34 [.agg [.int .u64 (.sym n0), .int .u64 (.sym n1), .int .u64 (.sym n2), .int .u64 (.sym n3)]] [] (fun r__ _ => eqV r__ (.str (.sym (littleF (val4 n0 n1 n2 n3)))))) := by kernel_rfl
theorem pureRLittle (n0 n1 n2 n3 : Int) (h : U64 n0 ∧ U64 n1 ∧ U64 n2 ∧ U64 n3) : VCRLittle n0 n1 n2 n3 := pureLittle n0 n1 n2 n3 h
theorem rLittle_ok : SpecOk Tryd.prog 34 rLittleSpec := by
  intro args k h
  unfold rLittleSpec at h
  split at h
  · rename_i n0 n1 n2 n3
    obtain ⟨hr, h⟩ := h
    exact ⟨_, h _ rfl, PureOk.of_tie (GC Tryd.prog []) (fun w__ => gok w__ namesOk_ mixed_ trivial) (fun _ => rfl) (fun _ => rfl) (args' := [.agg [.int .u64 (.sym n0.val), .int .u64 (.sym n1.val), .int .u64 (.sym n2.val), .int .u64 (.sym n3.val)]]) ⟨⟨⟨rfl, rfl⟩, ⟨rfl, rfl⟩, ⟨rfl, rfl⟩, ⟨rfl, rfl⟩, trivial⟩, trivial⟩ 40 (fun w__ => VCRLittle n0.val n1.val n2.val n3.val) (fun w__ => tieRLittle w__ n0.val n1.val n2.val n3.val) (fun w__ => pureRLittle n0.val n1.val n2.val n3.val hr)⟩
  · exact h.elim

theorem fbytes_congr {f g : Int → Int} {n : Int} (h : ∀ i, 0 ≤ i → i < n → f i = g i) : fbytes f n = fbytes g n := by
  unfold fbytes
  congr 2
  apply List.map_congr_left
  intro i hi
  have := List.mem_range.1 hi
  rw [h i (by omega) (by omega)]
theorem fbytes_size (f : Int → Int) (n : Int) : ((fbytes f n).size : Int) = if n < 0 then 0 else n := by
  have : (fbytes f n).size = n.toNat := by simp [fbytes, ByteArray.size]
  rw [this]; split <;> omega
theorem revF_size (s : ByteArray) : ((revF s).size : Int) = s.size := by unfold revF; rw [fbytes_size, if_neg (by omega)]
def turnedSpec : CSpec
  | [.str s], k => ((s.val.size ≤ 140737488355328)) ∧ (∀ r0 : ByteArray, r0 = (revF s.val) → k (.str (.sym r0)))
  | _, _ => False
def VCTurned (s : ByteArray) : Prop :=
  ∀ (v1 : Int), v1 = ↑s.size -> (0 : Int) ≤ v1 /\ ∀ v2, v2 = IntKind.i64.wrap (v1 - (1 : Int)) -> (∃ (x3 : Int × Int × (Int -> Int)), revR (byteAt s) v1 x3.fst x3.snd.fst x3.snd.snd /\ ((v1 = v1 /\ True) /\ (0 : Int) = x3.fst /\ v2 = x3.snd.fst /\ True) /\ (v1 = v1 /\ (∀ (v4 : Int), (0 : Int) ≤ v4 -> v4 < v1 -> byteAt s v4 = x3.snd.snd v4) /\ True) /\ True) /\ ∀ (v5 : Int × Int × (Int -> Int)), revR (byteAt s) v1 v5.fst v5.snd.fst v5.snd.snd -> ∀ v6, v6 = decide (v5.fst < v5.snd.fst) -> (v6 = true -> ((0 : Int) ≤ v5.snd.fst /\ v5.snd.fst < v1) /\ ((0 : Int) ≤ v5.snd.fst /\ v5.snd.fst < v1) /\ ∀ v7, v7 = v5.snd.snd v5.snd.fst -> ((0 : Int) ≤ v5.fst /\ v5.fst < v1) /\ ((0 : Int) ≤ v5.fst /\ v5.fst < v1) /\ ∀ v8, v8 = v5.snd.snd v5.fst -> ((0 : Int) ≤ v5.fst /\ v5.fst < v1) /\ ((0 : Int) ≤ v5.fst /\ v5.fst + (1 : Int) ≤ v1) /\ ∀ (v9 : Int -> Int), v9 = updF v5.snd.snd v5.fst v7 -> ((0 : Int) ≤ v5.snd.fst /\ v5.snd.fst < v1) /\ ((0 : Int) ≤ v5.snd.fst /\ v5.snd.fst + (1 : Int) ≤ v1) /\ ∀ (v10 : Int -> Int), v10 = updF v9 v5.snd.fst v8 -> ∀ v11, v11 = IntKind.i64.wrap (v5.fst + (1 : Int)) -> ∀ v12, v12 = IntKind.i64.wrap (v5.snd.fst - (1 : Int)) -> ∃ (x13 : Int × Int × (Int -> Int)), revR (byteAt s) v1 x13.fst x13.snd.fst x13.snd.snd /\ (((v1 = v1 /\ True) /\ v11 = x13.fst /\ v12 = x13.snd.fst /\ True) /\ (v1 = v1 /\ (∀ (v14 : Int), (0 : Int) ≤ v14 -> v14 < v1 -> v10 v14 = x13.snd.snd v14) /\ True) /\ True) /\ (x13.snd.fst - x13.fst + (1 : Int)).toNat < (v5.snd.fst - v5.fst + (1 : Int)).toNat) /\ (v6 = false -> ((0 : Int) ≤ v1 /\ v1 ≤ v1) /\ ∀ (v15 : ByteArray), v15 = fbytes v5.snd.snd v1 -> v15 = revF s)
theorem tieTurned (w0 : World) (s : ByteArray) : VCTurned s = ((recN (GL Tryd.prog turnSpec turnAnnSpec turnCutSpec w0) 40).call 51 [.str (.sym s)] [] (fun r__ _ => eqV r__ (.str (.sym (revF s))))) := by kernel_rfl
theorem pureTurned (s : ByteArray) (h : s.size ≤ 140737488355328) : VCTurned s := by
  intro v1 h1
  refine ⟨by omega, fun v2 h2 => ?_⟩
  rw [i64_id (by omega) (by omega)] at h2
  refine ⟨⟨(0, v2, byteAt s), ⟨⟨by omega, by simp only; omega, by simp only; omega⟩, fun x x0 x1 => ?_⟩, ⟨⟨rfl, trivial⟩, rfl, rfl, trivial⟩, ⟨rfl, fun _ _ _ => rfl, trivial⟩, trivial⟩, ?_⟩
  · simp only; rw [if_neg (by omega)]
  rintro ⟨i, j, f⟩ ⟨⟨i0, ij, i1⟩, hf⟩
  simp only at i0 ij i1 hf
  refine br (fun c => ?_) fun c => ?_
  · simp only at c
    refine ⟨by simp only; omega, by simp only; omega, fun v7 h7 => ⟨by simp only; omega, by simp only; omega, fun v8 h8 => ⟨by simp only; omega, by simp only; omega, fun v9 h9 => ⟨by simp only; omega, by simp only; omega, fun v10 h10 v11 h11 v12 h12 => ?_⟩⟩⟩⟩
    simp only at h7 h8 h9 h10 h11 h12
    rw [i64_id (by omega) (by omega)] at h11 h12
    refine ⟨(v11, v12, v10), ⟨⟨by simp only; omega, by simp only; omega, by simp only; omega⟩, fun x x0 x1 => ?_⟩, ⟨⟨⟨rfl, trivial⟩, rfl, rfl, trivial⟩, ⟨rfl, fun _ _ _ => rfl, trivial⟩, trivial⟩, by simp only; omega⟩
    simp only
    rw [h10, h9]
    unfold updF
    by_cases e1 : x = j
    · rw [if_pos e1, h8, hf i (by omega) (by omega), if_neg (by omega), if_pos (by omega)]
      congr 1; omega
    · rw [if_neg e1]
      by_cases e2 : x = i
      · rw [if_pos e2, h7, hf j (by omega) (by omega), if_neg (by omega), if_pos (by omega)]
        congr 1; omega
      · rw [if_neg e2, hf x x0 x1]
        by_cases e3 : x < i ∨ j < x
        · rw [if_pos e3, if_pos (by omega)]
        · rw [if_neg e3, if_neg (by omega)]
  · refine ⟨⟨by omega, by omega⟩, fun v15 h15 => ?_⟩
    rw [h15]
    simp only
    unfold revF
    rw [← h1]
    refine fbytes_congr fun x x0 x1 => ?_
    rw [hf x x0 x1]
    simp only at c
    split
    · rfl
    · congr 1; omega
theorem turned_ok : SpecOk Tryd.prog 51 turnedSpec := by
  intro args k h
  unfold turnedSpec at h
  split at h
  · rename_i s
    obtain ⟨hr, h⟩ := h
    exact ⟨_, h _ rfl, PureOk.of_tie (GL Tryd.prog turnSpec turnAnnSpec turnCutSpec) (fun w__ => gokL w__ namesOk_ mixed_ turn_ok) (fun _ => rfl) (fun _ => rfl) (args' := [.str (.sym s.val)]) ⟨rfl, trivial⟩ 40 (fun w__ => VCTurned s.val) (fun w__ => tieTurned w__ s.val) (fun w__ => pureTurned s.val hr)⟩
  · exact h.elim

def rTurnedSpec : CSpec
  | [.str s], k => ((s.val.size ≤ 140737488355328)) ∧ (∀ r0 : ByteArray, r0 = (revF s.val) → k (.str (.sym r0)))
  | _, _ => False
def VCRTurned (s : ByteArray) : Prop :=
  ∀ (v1 : Int), v1 = ↑s.size -> ((0 : Int) ≤ v1 /\ v1 = v1 /\ v1 * (1 : Int) ≤ (140737488355328 : Int) /\ v1 ≤ (140737488355328 : Int)) /\ (∃ (x2 : Int × (Int -> Int)), rturnR s v1 x2.fst x2.snd /\ (s = s /\ (v1 = v1 /\ v1 = v1) /\ (0 : Int) = x2.fst /\ True) /\ (v1 = v1 /\ (∀ (v3 : Int), (0 : Int) ≤ v3 -> v3 < v1 -> (0 : Int) = x2.snd v3) /\ True) /\ True) /\ ∀ (v4 : Int × (Int -> Int)), rturnR s v1 v4.fst v4.snd -> ∀ (v5 : Int), v5 = ↑s.size -> ∀ v6, v6 = decide (v4.fst < v5) -> (v6 = true -> ∀ (v7 : Int), v7 = ↑s.size -> ∀ v8, v8 = IntKind.i64.wrap (v7 - (1 : Int)) -> ∀ v9, v9 = IntKind.i64.wrap (v8 - v4.fst) -> ((0 : Int) ≤ v9 /\ v9 < ↑s.size) /\ ∀ v10, v10 = byteAt s v9 -> ((0 : Int) ≤ v4.fst /\ v4.fst < v1) /\ ((0 : Int) ≤ v4.fst /\ v4.fst + (1 : Int) ≤ v1) /\ ∀ (v11 : Int -> Int), v11 = updF v4.snd v4.fst v10 -> ∀ v12, v12 = IntKind.i64.wrap (v4.fst + (1 : Int)) -> ∃ (x13 : Int × (Int -> Int)), rturnR s v1 x13.fst x13.snd /\ ((s = s /\ (v1 = v1 /\ v1 = v1) /\ v12 = x13.fst /\ True) /\ (v1 = v1 /\ (∀ (v14 : Int), (0 : Int) ≤ v14 -> v14 < v1 -> v11 v14 = x13.snd v14) /\ True) /\ True) /\ (v1 - x13.fst).toNat < (v1 - v4.fst).toNat) /\ (v6 = false -> ((0 : Int) ≤ v1 /\ v1 ≤ v1) /\ ∀ (v15 : ByteArray), v15 = fbytes v4.snd v1 -> v15 = revF s)
theorem tieRTurned (w0 : World) (s : ByteArray) : VCRTurned s = ((recN (GL Tryd.prog turnSpec turnAnnSpec turnCutSpec w0) 40).call 52 [.str (.sym s)] [] (fun r__ _ => eqV r__ (.str (.sym (revF s))))) := by kernel_rfl
theorem pureRTurned (s : ByteArray) (h : s.size ≤ 140737488355328) : VCRTurned s := by
  intro v1 h1
  refine ⟨⟨by omega, rfl, by omega, by omega⟩, ⟨(0, fun _ => 0), ⟨⟨by simp only; omega, by simp only; omega, h1⟩, fun j j0 j1 => by simp only at j1; omega⟩, ⟨rfl, ⟨rfl, rfl⟩, rfl, trivial⟩, ⟨rfl, fun _ _ _ => rfl, trivial⟩, trivial⟩, ?_⟩
  rintro ⟨i, f⟩ ⟨⟨i0, i1, _⟩, hf⟩ v5 h5
  simp only at i0 i1 hf
  refine br (fun c => ?_) fun c => ?_
  · simp only at c
    intro v7 h7 v8 h8 v9 h9
    rw [i64_id (by omega) (by omega)] at h8
    simp only at h9
    rw [i64_id (by omega) (by omega)] at h9
    refine ⟨by omega, fun v10 h10 => ⟨by simp only; omega, by simp only; omega, fun v11 h11 v12 h12 => ?_⟩⟩
    simp only at h11 h12
    rw [i64_id (by omega) (by omega)] at h12
    refine ⟨(v12, v11), ⟨⟨by simp only; omega, by simp only; omega, h1⟩, fun j j0 j1 => ?_⟩, ⟨⟨rfl, ⟨rfl, rfl⟩, rfl, trivial⟩, ⟨rfl, fun _ _ _ => rfl, trivial⟩, trivial⟩, by simp only; omega⟩
    simp only at j1 ⊢
    rw [h11]; unfold updF
    by_cases e : j = i
    · rw [if_pos e, h10]; congr 1; omega
    · rw [if_neg e, hf j j0 (by omega)]
  · refine ⟨⟨by omega, by omega⟩, fun v15 h15 => ?_⟩
    rw [h15]
    simp only at c ⊢
    unfold revF
    rw [← h1]
    exact fbytes_congr fun x x0 x1 => hf x x0 (by omega)
theorem rTurned_ok : SpecOk Tryd.prog 52 rTurnedSpec := by
  intro args k h
  unfold rTurnedSpec at h
  split at h
  · rename_i s
    obtain ⟨hr, h⟩ := h
    exact ⟨_, h _ rfl, PureOk.of_tie (GL Tryd.prog turnSpec turnAnnSpec turnCutSpec) (fun w__ => gokL w__ namesOk_ mixed_ turn_ok) (fun _ => rfl) (fun _ => rfl) (args' := [.str (.sym s.val)]) ⟨rfl, trivial⟩ 40 (fun w__ => VCRTurned s.val) (fun w__ => tieRTurned w__ s.val) (fun w__ => pureRTurned s.val hr)⟩
  · exact h.elim

end Go.Proofs.YtaaobpalpcdlbaaDoor.Bits
