import Derived.Test.YtaaobpalpcdlbaaSxD
set_option linter.unusedSimpArgs false
set_option linter.unusedVariables false
namespace Go.Sx

theorem sUn_sound {op : UnOp} {x : SV} {K : SV → Prop} (h : sUn op x K) :
    ∃ v, K v ∧ v.isAny = false ∧ ∀ (P : Program) (w : World) (η : Nat → Nat), (Op.unary op (x.den η)).run P w = .ok (v.den η) w := by
  unfold sUn at h
  split at h
  · obtain ⟨s, hs, e⟩ := let2_sound h
    exact ⟨_, hs, rfl, fun P w η => by simp [Op.unary, Op.intArith, pure, Sem.run, SV.den, e]⟩
  · obtain ⟨s, hs, e⟩ := let2_sound h
    exact ⟨_, hs, rfl, fun P w η => by simp [Op.unary, Op.intBits, pure, Sem.run, SV.den, e, bitI]⟩
  · exact ⟨_, h, rfl, fun P w η => by simp [Op.unary, pure, Sem.run, SV.den, SB.val]⟩
  · exact ⟨_, h _ rfl, rfl, fun P w η => by simp [Op.unary, pure, Sem.run, SV.den, SB.val]⟩
  · cases h

theorem sConv_sound {P : Program} {s d : TypeId} {x : SV} {K : SV → Prop} (h : sConv P s d x K) :
    ∃ v, K v ∧ v.isAny = false ∧ ∀ (w : World) (η : Nat → Nat), (convert s d (x.den η)).run P w = .ok (v.den η) w := by
  unfold sConv at h
  split at h
  · rename_i d1 k k2 n h1 h2
    exact ⟨_, h, rfl, fun w η => by simp only [convert, bind, Sem.run_bind', run_und h1, run_und h2, Result.andThen_ok, SV.den, Conv.intToInt]; simp [pure, Sem.run]⟩
  · rename_i d1 k k2 n h1 h2
    exact ⟨_, h _ rfl, rfl, fun w η => by simp only [convert, bind, Sem.run_bind', run_und h1, run_und h2, Result.andThen_ok, SV.den, Conv.intToInt]; simp [pure, Sem.run]⟩
  · rename_i d1 s1 h1 h2
    exact ⟨_, h, rfl, fun w η => by simp only [convert, bind, Sem.run_bind', run_und h1, run_und h2, Result.andThen_ok, SV.den]; simp [pure, Sem.run]⟩
  · cases h

theorem eachIdx_sound {x : Int} {K : Nat → Prop} : ∀ {n : Nat}, eachIdx x K n → 0 ≤ x → x < (n : Int) → K x.toNat
  | 0, _, h0, h1 => by omega
  | n + 1, h, h0, h1 => by
    by_cases e : x = (n : Int)
    · have := h.1 e
      subst e; simpa using this
    · exact eachIdx_sound h.2 h0 (by omega)
theorem withIdx_sound {i : SI} {len : Nat} {K : Nat → Prop} (h : withIdx i len K) : 0 ≤ i.val ∧ i.val < (len : Int) ∧ K i.val.toNat := by
  unfold withIdx at h
  split at h
  · split at h
    · rename_i hd; have hd := of_decide_eq_true hd; exact ⟨hd.1, hd.2, h⟩
    · cases h
  · exact ⟨h.1.1, h.1.2, eachIdx_sound h.2 h.1.1 h.1.2⟩

theorem addr_add_add (a : Addr) (m n : Nat) : (a.add m).add n = a.add (m + n) := by
  unfold Addr.add
  by_cases hm : m = 0 <;> by_cases hn : n = 0 <;> simp [hm, hn, Nat.add_assoc]
theorem addr_add_zero (a : Addr) : a.add 0 = a := by simp [Addr.add]
theorem run_index_arr {P : Program} {t e : TypeId} {len z : Nat} (hu : P.underlying t = some (.array len e)) (hz : szOf P e = some z) (k : IntKind) {y : Int} (h0 : 0 ≤ y) (h1 : y < (len : Int)) (a : Addr) (w : World) :
    (Instr.indexAt t (.pointer (some a)) (.int k y)).run P w = .ok (.pointer (some (a.add (y.toNat * z)))) w := by
  simp [Instr.indexAt, asIntOf, run_und hu, run_szOf hz, Instr.sureAddr, h0, h1]
theorem run_index_sl {P : Program} {t e : TypeId} {len z : Nat} (hu : P.underlying t = some (.slice e)) (hz : szOf P e = some z) (k : IntKind) {y : Int} (h0 : 0 ≤ y) (h1 : y < (len : Int)) (a : Addr) (c : Nat) (w : World) :
    (Instr.indexAt t (.slice (some a) len c) (.int k y)).run P w = .ok (.pointer (some (a.add (y.toNat * z)))) w := by
  simp [Instr.indexAt, asIntOf, run_und hu, run_szOf hz, Instr.sureAddr, h0, h1]
theorem add_ptr (η : Nat → Nat) (b o n : Nat) : (⟨η b, o, none⟩ : Addr).add n = ⟨η b, o + n, none⟩ := by
  unfold Addr.add; split
  · rename_i h; subst h; rfl
  · rfl

theorem nameFC_sound {fc : FC} {i : Int} {K : SV → Prop} (h : nameFC fc i K) : ∃ v, K v ∧ v.scalar = true ∧ ∀ η, v.den η = fc.val i := by
  cases fc with
  | int k f => exact ⟨_, h _ rfl, rfl, fun η => rfl⟩
  | bool f => exact ⟨_, h _ rfl, rfl, fun η => rfl⟩
  | str f => exact ⟨_, h _ rfl, rfl, fun η => rfl⟩
theorem nameFCs_sound : ∀ {fs : List FC} {i : Int} {K : List SV → Prop}, nameFCs fs i K → ∃ l, K l ∧ ∀ η, SV.dens η l = fs.map fun fc => fc.val i
  | [], i, K, h => ⟨[], h, fun η => rfl⟩
  | fc :: r, i, K, h => by
    obtain ⟨v, hv, _, e⟩ := nameFC_sound h
    obtain ⟨l, hl, e2⟩ := nameFCs_sound hv
    exact ⟨_, hl, fun η => by simp only [SV.dens, List.map_cons, e, e2]⟩
theorem nameRow_sound {fc : FC} : ∀ {m : Nat} {i : Int} {K : List SV → Prop}, nameRow fc i m K → ∃ l, K l ∧ ∀ η, SV.dens η l = (List.range m).map fun (j : Nat) => fc.val (i + j)
  | 0, i, K, h => ⟨[], h, fun η => rfl⟩
  | m + 1, i, K, h => by
    obtain ⟨v, hv, _, e⟩ := nameFC_sound h
    obtain ⟨l, hl, e2⟩ := nameRow_sound hv
    refine ⟨_, hl, fun η => ?_⟩
    rw [List.range_succ_eq_map]
    simp only [SV.dens, List.map_cons, List.map_map, e, e2]
    congr 1
    · simp
    · apply List.map_congr_left
      intro j _
      simp only [Function.comp]
      congr 1
      omega

theorem sIndexAddr_sound {P : Program} {hp : Hp} {t : TypeId} {x ix : SV} {K : SV → Prop} (h : sIndexAddr P hp t x ix K) :
    ∃ v, K v ∧ v.isAny = false ∧ ∀ (w : World) (η : Nat → Nat), (Instr.indexAt t (x.den η) (ix.den η)).run P w = .ok (v.den η) w := by
  unfold sIndexAddr at h
  split at h
  · rename_i len e b o k i hu
    split at h
    · rename_i z hz
      split at h
      · rename_i y hrow
        obtain ⟨⟨h0, h1⟩, hk⟩ := h
        refine ⟨_, hk _ rfl, rfl, fun w η => ?_⟩
        obtain ⟨Y, rfl⟩ := Int.eq_ofNat_of_zero_le h0
        have e1 : ((o : Int) + (Y : Int) * (z : Int)).toNat * 1 + 0 = o + Y * z := by rw [← Int.natCast_mul]; omega
        show (Instr.indexAt t (.pointer (some ⟨η b, o, none⟩)) (.int k (Y : Int))).run P w = .ok (.pointer (some ⟨η b, ((o : Int) + (Y : Int) * (z : Int)).toNat * 1 + 0, none⟩)) w
        rw [run_index_arr hu hz k h0 h1, add_ptr, e1]; rfl
      · obtain ⟨h0, h1, hk⟩ := withIdx_sound h
        exact ⟨_, hk, rfl, fun w η => by
          simp [Instr.indexAt, asIntOf, SV.den, run_und hu, run_szOf hz, Instr.sureAddr, h0, h1, add_ptr]⟩
    · cases h
  · rename_i len e b i0 k i hu
    split at h
    · rename_i z hz
      obtain ⟨⟨h2, h0, h1⟩, hk⟩ := h
      refine ⟨_, hk _ rfl, rfl, fun w η => ?_⟩
      obtain ⟨Y, hY⟩ := Int.eq_ofNat_of_zero_le h0
      obtain ⟨X, rfl⟩ := Int.eq_ofNat_of_zero_le h2
      show (Instr.indexAt t (.pointer (some ⟨η b, (X : Int).toNat * 1 + 0, none⟩)) (.int k i.val)).run P w = .ok (.pointer (some ⟨η b, ((X : Int) + i.val * (z : Int)).toNat * 1 + 0, none⟩)) w
      rw [hY] at h0 h1 ⊢
      have e1 : ((X : Int) + (Y : Int) * (z : Int)).toNat = X + Y * z := by rw [← Int.natCast_mul]; omega
      rw [run_index_arr hu hz k h0 h1, add_ptr, e1]
      simp
    · cases h
  · rename_i e b n c k i hu
    split at h
    · rename_i z hz
      obtain ⟨⟨h0, h1⟩, hk⟩ := h
      refine ⟨_, hk, rfl, fun w η => ?_⟩
      have h2 : i.val < ((n.toNat : Nat) : Int) := by omega
      show (Instr.indexAt t (.slice (some ⟨η b, 0, none⟩) n.toNat (c.den η)) (.int k i.val)).run P w = .ok (.pointer (some ⟨η b, i.val.toNat * z + 0, none⟩)) w
      rw [run_index_sl hu hz k h0 h2, add_ptr]
      simp
    · cases h
  · rename_i e a n c fs k i hu
    split at h
    · rename_i z hz
      split at h
      · rename_i hzl
        have hzl := Nat.eq_of_beq_eq_true hzl
        obtain ⟨⟨h0, h1⟩, hk⟩ := h
        refine ⟨_, hk, rfl, fun w η => ?_⟩
        have h2 : i.val < ((n.toNat : Nat) : Int) := by omega
        show (Instr.indexAt t (.slice (some a) n.toNat c) (.int k i.val)).run P w = .ok (.pointer (some (a.add (i.val.toNat * fs.length + 0)))) w
        rw [run_index_sl hu hz k h0 h2, hzl]; rfl
      · cases h
    · cases h
  · rename_i e b o len cap k i hu
    split at h
    · rename_i z hz
      obtain ⟨h0, h1, hk⟩ := withIdx_sound h
      exact ⟨_, hk, rfl, fun w η => by
        simp [Instr.indexAt, asIntOf, SV.den, run_und hu, run_szOf hz, Instr.sureAddr, h0, h1, add_ptr]⟩
    · cases h
  · rename_i e a len cap k i hu
    split at h
    · rename_i z hz
      obtain ⟨⟨h0, h1⟩, hk⟩ := h
      exact ⟨_, hk, rfl, fun w η => by
        simp [Instr.indexAt, asIntOf, SV.den, run_und hu, run_szOf hz, Instr.sureAddr, h0, h1]⟩
    · cases h
  · cases h

theorem bytes_getElem? (s : ByteArray) (i : Nat) (h : i < s.size) : s[i]? = some ((s.data.toList[i]?).getD 0) := by
  rw [getElem?_pos s i h]
  have h' : i < s.data.size := h
  rw [List.getElem?_eq_getElem (by simpa using h')]
  simp only [Option.getD_some, Array.getElem_toList]
  rfl

theorem sIndex_sound {P : Program} {t : TypeId} {x ix : SV} {K : SV → Prop} (h : sIndex P t x ix K) :
    ∃ v, K v ∧ v.isAny = false ∧ ∀ (w : World) (η : Nat → Nat), (Instr.index t (x.den η) (ix.den η)).run P w = .ok (v.den η) w := by
  unfold sIndex at h
  split at h
  · rename_i len e cs k i hu
    split at h
    · rename_i z hz
      obtain ⟨h0, h1, hk⟩ := withIdx_sound h
      split at hk
      · rename_i v hv
        have hva : v.isAny = false := by
          unfold sPart at hv
          split at hv
          · split at hv
            · injection hv with hv; subst hv; rfl
            · cases hv
          · split at hv
            · cases hv
            · injection hv with hv; subst hv
              rename_i hne
              cases hc : nth cs (i.val.toNat * z) <;> first | rfl | exact absurd hc hne
          · cases hv
        refine ⟨v, hk, hva, fun w η => ?_⟩
        simp [Instr.index, asIntOf, SV.den, run_und hu, run_szOf hz, h0, h1, run_part hv]
      · cases hk
    · cases h
  · rename_i s k i hu
    split at h
    · rename_i hd; have hd := of_decide_eq_true hd
      refine ⟨_, h, rfl, fun w η => ?_⟩
      have := bytes_getElem? s i.toNat (by omega)
      simp [Instr.index, asIntOf, SV.den, run_und hu, hd.1, this, byteAt]
    · cases h
  · rename_i s k i _ hu
    obtain ⟨hd, h⟩ := h
    refine ⟨_, h _ rfl, rfl, fun w η => ?_⟩
    have := bytes_getElem? s.val i.val.toNat (by omega)
    simp [Instr.index, asIntOf, SV.den, run_und hu, hd.1, this, byteAt]
  · cases h


theorem sBound_sound {x : SV} {y n : Nat} (h : sBound x y = some n) (code : BoundsCode) (P : Program) (w : World) (η : Nat → Nat) :
    (Instr.sliceBound (x.den η) y code).run P w = .ok n w := by
  unfold sBound at h
  split at h
  · rename_i k i
    split at h
    · rename_i hd; have hd := of_decide_eq_true hd; injection h with h; subst h
      simp [Instr.sliceBound, asIntOf, SV.den, hd.1, hd.2]
    · cases h
  · cases h

theorem bounds_sound {lo hi : Option SV} {len cap h l : Nat} (hh : sHigh hi len cap = some h) (hl : sLow lo h = some l) (isS : Bool) (P : Program) (w : World) (η : Nat → Nat) :
    (Instr.sliceBounds isS len cap (lo.map (SV.den η)) (hi.map (SV.den η)) none).run P w = .ok (l, h, cap) w := by
  cases hi with
  | none =>
    simp only [sHigh] at hh; injection hh with hh; subst hh
    cases lo with
    | none => simp only [sLow] at hl; injection hl with hl; subst hl; simp [Instr.sliceBounds]
    | some v => simp only [sLow] at hl; simp [Instr.sliceBounds, sBound_sound hl]
  | some u =>
    simp only [sHigh] at hh
    cases lo with
    | none => simp only [sLow] at hl; injection hl with hl; subst hl; simp [Instr.sliceBounds, sBound_sound hh]
    | some v => simp only [sLow] at hl; simp [Instr.sliceBounds, sBound_sound hh, sBound_sound hl]

theorem intOfSV_den {v : SV} {n : Int} (h : intOfSV v = some n) (η : Nat → Nat) : ∃ k, v.den η = .int k n := by
  unfold intOfSV at h; split at h
  · injection h with h; subst h; exact ⟨_, rfl⟩
  · cases h

theorem bound_int {n : Int} {y : Nat} (k : IntKind) (h0 : 0 ≤ n) (h1 : n ≤ (y : Int)) (code : BoundsCode) (P : Program) (w : World) : (Instr.sliceBound (.int k n) y code).run P w = .ok n.toNat w := by
  simp [Instr.sliceBound, asIntOf, h0, h1]

theorem capB_sound {v : SV} {c : SN} {K : Nat → Prop} (h : capB v c K) : ∃ i, K i ∧ ∀ (code : BoundsCode) (P : Program) (w : World) (η : Nat → Nat), (Instr.sliceBound (v.den η) (c.den η) code).run P w = .ok i w := by
  unfold capB at h
  split at h
  · rename_i k i
    split at h
    · rename_i y hd
      have hd := of_decide_eq_true hd
      split at h
      · rename_i hle
        have hle := Nat.le_of_ble_eq_true hle
        exact ⟨_, h, fun code P w η => bound_int k hd (by simp only [SN.den_lit]; omega) code P w⟩
      · cases h
    · cases h
  · cases h
theorem capMax_sound {mx : Option SV} {c : SN} {K : SN → Prop} (h : capMax mx c K) : ∃ m, (∀ v, mx = some v → ∀ (P : Program) (w : World) (η : Nat → Nat), (Instr.sliceBound (v.den η) (c.den η) .slice3Acap).run P w = .ok (m.den η) w) ∧ (mx = none → m = c) ∧ K m := by
  cases mx with
  | none => exact ⟨c, (fun v hv => by cases hv), fun _ => rfl, h⟩
  | some v =>
    obtain ⟨i, hk, hr⟩ := capB_sound (K := fun m => K (.lit m)) h
    exact ⟨.lit i, (fun u hu P w η => by injection hu with hu; subst hu; exact hr _ P w η), (fun h => by cases h), hk⟩
theorem capHigh_sound {hi mx : Option SV} {len : Nat} {m : SN} {K : Nat → Prop} (h : capHigh hi mx len m K) :
    ∃ hh, (∀ v, hi = some v → ∀ (code : BoundsCode) (P : Program) (w : World) (η : Nat → Nat), (Instr.sliceBound (v.den η) (m.den η) code).run P w = .ok hh w) ∧ (hi = none → mx = none ∧ hh = len) ∧ K hh := by
  cases hi with
  | none =>
    cases mx with
    | none => exact ⟨len, (fun v hv => by cases hv), (fun _ => ⟨rfl, rfl⟩), h⟩
    | some v => exact h.elim
  | some v =>
    obtain ⟨i, hk, hr⟩ := capB_sound h
    exact ⟨i, (fun u hu => by injection hu with hu; subst hu; exact hr), (fun h => by cases h), hk⟩
theorem bounds3 {lo hi mx : Option SV} {len l hh : Nat} {cap m : SN} (hm1 : ∀ v, mx = some v → ∀ (P : Program) (w : World) (η : Nat → Nat), (Instr.sliceBound (v.den η) (cap.den η) .slice3Acap).run P w = .ok (m.den η) w) (hm2 : mx = none → m = cap)
    (hh1 : ∀ v, hi = some v → ∀ (code : BoundsCode) (P : Program) (w : World) (η : Nat → Nat), (Instr.sliceBound (v.den η) (m.den η) code).run P w = .ok hh w) (hh2 : hi = none → mx = none ∧ hh = len) (hl : sLow lo hh = some l) (P : Program) (w : World) (η : Nat → Nat) :
    (Instr.sliceBounds true len (cap.den η) (lo.map (SV.den η)) (hi.map (SV.den η)) (mx.map (SV.den η))).run P w = .ok (l, hh, (m.den η)) w := by
  have low : ∀ code, ∀ v, lo = some v → (Instr.sliceBound (v.den η) hh code).run P w = .ok l w := fun code v hv => by subst hv; exact sBound_sound hl code P w η
  have low0 : lo = none → l = 0 := fun hv => by subst hv; simp only [sLow] at hl; injection hl with hl; exact hl.symm
  cases hi with
  | none =>
    obtain ⟨rfl, rfl⟩ := hh2 rfl
    have := hm2 rfl
    subst this
    cases lo with
    | none => simp [Instr.sliceBounds, low0 rfl]
    | some v => simp [Instr.sliceBounds, low _ v rfl]
  | some u =>
    cases mx with
    | none =>
      have := hm2 rfl
      subst this
      cases lo with
      | none => simp [Instr.sliceBounds, low0 rfl, hh1 u rfl]
      | some v => simp [Instr.sliceBounds, low _ v rfl, hh1 u rfl]
    | some x =>
      cases lo with
      | none => simp [Instr.sliceBounds, low0 rfl, hh1 u rfl, hm1 x rfl]
      | some v => simp [Instr.sliceBounds, low _ v rfl, hh1 u rfl, hm1 x rfl]
theorem capGt_sound {c : SN} {l : Nat} {K : Bool → Prop} (h : capGt c l K) : ∃ mv, (∀ η, (capSub c l).den η = c.den η - l ∧ (mv = true → c.den η = l → l = 0) ∧ (mv = false → c.den η = l)) ∧ K mv := by
  cases l with
  | zero => exact ⟨true, fun η => ⟨by cases c <;> rfl, fun _ _ => rfl, fun e => by cases e⟩, h⟩
  | succ l =>
  cases c with
  | lit y =>
    simp only [capGt] at h
    split at h
    · rename_i e
      exact ⟨false, fun η => ⟨rfl, (fun e => by cases e), fun _ => Nat.eq_of_beq_eq_true e⟩, h⟩
    · rename_i e
      exact ⟨true, fun η => ⟨rfl, fun _ e' => absurd e' (Nat.ne_of_beq_eq_false e), fun e => by cases e⟩, h⟩
  | ltr y => exact h.elim
  | num y => exact h.elim
theorem isNought_sound {lo : Option SV} (h : isNought lo = true) (hh : Nat) (code : BoundsCode) (P : Program) (w : World) (η : Nat → Nat) :
    lo = none ∨ ∃ v, lo = some v ∧ (Instr.sliceBound (v.den η) hh code).run P w = .ok 0 w := by
  unfold isNought at h
  split at h
  · exact .inl rfl
  · rename_i k n
    split at h
    · exact .inr ⟨_, rfl, by simp [Instr.sliceBound, asIntOf, SV.den]⟩
    · cases h
  · cases h
theorem run_slice0 {P : Program} {t e : TypeId} {z : Nat} (hu : P.underlying t = some (.slice e)) (hz : szOf P e = some z) {lo : Option SV} (hlo : isNought lo = true) {v : SV} {h : Int} (hv : intOfSV v = some h) {cap : Nat} (h0 : 0 ≤ h) (h1 : h ≤ (cap : Int)) (a : Addr) (len : Nat) (w : World) (η : Nat → Nat) :
    (Instr.sliceAt t (.slice (some a) len cap) (lo.map (SV.den η)) (some (v.den η)) none).run P w = .ok (.slice (some a) h.toNat cap) w := by
  obtain ⟨k, e⟩ := intOfSV_den hv η
  have hb : ∀ code, (Instr.sliceBound (v.den η) cap code).run P w = .ok h.toNat w := fun code => by rw [e]; exact bound_int k h0 h1 code P w
  have key : (Instr.sliceBounds true len cap (lo.map (SV.den η)) (some (v.den η)) none).run P w = .ok (0, h.toNat, cap) w := by
    rcases isNought_sound hlo h.toNat .sliceB P w η with rfl | ⟨u, rfl, hu⟩
    · simp [Instr.sliceBounds, hb]
    · simp [Instr.sliceBounds, hb, hu]
  simp [Instr.sliceAt, Instr.slice, run_und hu, key, run_szOf hz, addr_add_zero]
theorem sSlice_sound {P : Program} {w0 : World} {hp : Hp} {t : TypeId} {x : SV} {lo hi mx : Option SV} {K : SV → Prop} (h : sSlice P hp t x lo hi mx K) :
    ∃ v, K v ∧ v.isAny = false ∧ ∀ (w : World) (η : Nat → Nat), HR w0 η hp w → (Instr.sliceAt t (x.den η) (lo.map (SV.den η)) (hi.map (SV.den η)) (mx.map (SV.den η))).run P w = .ok (v.den η) w := by
  unfold sSlice at h
  split at h
  · rename_i e b n c hu
    split at h
    · rename_i z0 v hz hlo
      split at h
      · rename_i h' n' fs ty k z k' hv hb
        split at h
        · rename_i e1 e2 e3
          have e1 := Nat.eq_of_beq_eq_true e1
          have e2 := Nat.eq_of_beq_eq_true e2
          have e3 := Nat.ne_of_beq_eq_false e3
          subst e1
          obtain ⟨⟨h0, h1⟩, h⟩ := h
          refine ⟨_, h, rfl, fun w η hr => ?_⟩
          obtain ⟨o, ho, c, fz, ⟨g0, ⟨g1, g2⟩, g3⟩, hz', rfl⟩ := hr.cell b _ hb
          have hle : n'.toNat ≤ η k := by
            rw [g1, ← e2] at g2
            exact Nat.le_of_mul_le_mul_right g2 (by omega)
          exact run_slice0 hu hz hlo hv h0 (by show h' ≤ ((η k : Nat) : Int); omega) _ _ w η
        · cases h
      · cases h
    · cases h
  · rename_i e a n c fs hu
    split at h
    · rename_i z0 v hz hlo
      split at h
      · rename_i h' hv
        obtain ⟨⟨h0, h1⟩, h⟩ := h
        exact ⟨_, h, rfl, fun w η hr => run_slice0 hu hz hlo hv h0 h1 _ _ w η⟩
      · cases h
    · cases h
  · rename_i n e b o hu
    split at h
    · rename_i hh hhe
      split at h
      · rename_i l z hl hz
        split at h
        · rename_i hnl
          have hnl := Nat.eq_of_beq_eq_true hnl
          subst hnl
          exact ⟨_, h, rfl, fun w η hr => by
            simp [Instr.sliceAt, run_und hu, SV.den, Instr.sureAddr, bounds_sound hhe hl, run_szOf hz]⟩
        · rename_i hnl
          have hnl := Nat.ne_of_beq_eq_false hnl
          exact ⟨_, h, rfl, fun w η hr => by
            simp [Instr.sliceAt, run_und hu, SV.den, Instr.sureAddr, bounds_sound hhe hl, run_szOf hz, hnl, add_ptr]⟩
      · cases h
    · cases h
  · rename_i mx _ _ _ e b o len cap hu
    obtain ⟨m, hm1, hm2, h⟩ := capMax_sound h
    obtain ⟨hh, hh1, hh2, h⟩ := capHigh_sound h
    split at h
    · rename_i l z hl hz
      have hbd : ∀ (w : World) (η : Nat → Nat), (Instr.sliceBounds true len (cap.den η) (lo.map (SV.den η)) (hi.map (SV.den η)) (mx.map (SV.den η))).run P w = .ok (l, hh, (m.den η)) w := fun w η => bounds3 hm1 hm2 hh1 hh2 hl P w η
      obtain ⟨mv, hmv, hk⟩ := capGt_sound h
      cases mv with
      | true =>
        refine ⟨_, hk, rfl, fun w η hr => ?_⟩
        simp only [Instr.sliceAt, Instr.slice, run_und hu, SV.den, bind, Sem.run_bind', Result.andThen_ok, hbd, run_szOf hz, pure, Sem.run, (hmv η).1]
        by_cases e : (m.den η) = l
        · have hl0 : l = 0 := (hmv η).2.1 rfl e
          subst hl0
          rw [if_pos e]; simp
        · rw [if_neg e]; simp [add_ptr]
      | false =>
        refine ⟨_, hk, rfl, fun w η hr => ?_⟩
        simp only [Instr.sliceAt, Instr.slice, run_und hu, SV.den, bind, Sem.run_bind', Result.andThen_ok, hbd, run_szOf hz, pure, Sem.run, (hmv η).1]
        rw [if_pos ((hmv η).2.2 rfl)]
    · cases h
  · rename_i mx _ _ _ e hu
    split at h
    · rename_i l' h' m' z hl hh hm hz
      obtain ⟨⟨rfl, rfl, rfl⟩, h⟩ := h
      refine ⟨_, h, rfl, fun w η hr => ?_⟩
      have kb : ∀ (v : SV) (code : BoundsCode), intOfSV v = some 0 → (Instr.sliceBound (v.den η) 0 code).run P w = .ok 0 w := fun v code hv => by
        obtain ⟨k, e⟩ := intOfSV_den hv η
        rw [e]; exact bound_int k (by omega) (by omega) code P w
      have hbd : (Instr.sliceBounds true 0 0 (lo.map (SV.den η)) (hi.map (SV.den η)) (mx.map (SV.den η))).run P w = .ok (0, 0, 0) w := by
        cases mx with
        | none =>
          cases hi with
          | none => cases lo with
            | none => simp [Instr.sliceBounds]
            | some v => simp only at hl; simp [Instr.sliceBounds, kb v _ hl]
          | some u =>
            simp only at hh
            cases lo with
            | none => simp [Instr.sliceBounds, kb u _ hh]
            | some v => simp only at hl; simp [Instr.sliceBounds, kb u _ hh, kb v _ hl]
        | some x =>
          cases hi with
          | none => simp at hm
          | some u =>
            simp only at hh hm
            cases lo with
            | none => simp [Instr.sliceBounds, kb u _ hh, kb x _ hm]
            | some v => simp only at hl; simp [Instr.sliceBounds, kb u _ hh, kb v _ hl, kb x _ hm]
      simp only [Instr.sliceAt, Instr.slice, run_und hu, SV.den, bind, Sem.run_bind', Result.andThen_ok, hbd, run_szOf hz, pure, Sem.run]
      simp
    · cases h
  · rename_i e a len cap hu
    split at h
    · rename_i hv lv z hhv hlv hz
      obtain ⟨⟨h0, h1, h2, h3⟩, h⟩ := h
      refine ⟨_, h, rfl, fun w η hr => ?_⟩
      have key : (Instr.sliceBounds true len cap (lo.map (SV.den η)) (hi.map (SV.den η)) none).run P w = .ok (lv.toNat, hv.toNat, cap) w := by
        cases hi with
        | none =>
          simp only [Option.some.injEq] at hhv; subst hhv
          cases lo with
          | none => simp only [Option.some.injEq] at hlv; subst hlv; simp [Instr.sliceBounds]
          | some v =>
            obtain ⟨k, e⟩ := intOfSV_den hlv η
            simp [Instr.sliceBounds, e, bound_int k h0 h1]
        | some u =>
          obtain ⟨k, e⟩ := intOfSV_den hhv η
          cases lo with
          | none =>
            simp only [Option.some.injEq] at hlv; subst hlv
            simp [Instr.sliceBounds, e, bound_int k (by omega : 0 ≤ hv) h2]
          | some v =>
            obtain ⟨k', e'⟩ := intOfSV_den hlv η
            have : lv ≤ ((hv.toNat : Nat) : Int) := by omega
            simp [Instr.sliceBounds, e, e', bound_int k (by omega : 0 ≤ hv) h2, bound_int k' h0 this]
      have hne : ¬ (cap = lv.toNat) := by omega
      simp [Instr.sliceAt, Instr.slice, run_und hu, SV.den, key, run_szOf hz, hne]
    · cases h
  · rename_i s hu
    split at h
    · rename_i hv lv hhv hlv
      obtain ⟨⟨h0, h1, h2⟩, h⟩ := h
      refine ⟨_, h _ rfl, rfl, fun w η hr => ?_⟩
      have key : (Instr.sliceBounds false s.val.size s.val.size (lo.map (SV.den η)) (hi.map (SV.den η)) none).run P w = .ok (lv.toNat, hv.toNat, s.val.size) w := by
        cases hi with
        | none =>
          simp only [Option.some.injEq] at hhv; subst hhv
          cases lo with
          | none => simp only [Option.some.injEq] at hlv; subst hlv; simp [Instr.sliceBounds]
          | some v =>
            obtain ⟨k, e⟩ := intOfSV_den hlv η
            simp [Instr.sliceBounds, e, bound_int k h0 h1]
        | some u =>
          obtain ⟨k, e⟩ := intOfSV_den hhv η
          cases lo with
          | none =>
            simp only [Option.some.injEq] at hlv; subst hlv
            simp [Instr.sliceBounds, e, bound_int k (by omega : 0 ≤ hv) h2]
          | some v =>
            obtain ⟨k', e'⟩ := intOfSV_den hlv η
            have : lv ≤ ((hv.toNat : Nat) : Int) := by omega
            simp [Instr.sliceBounds, e, e', bound_int k (by omega : 0 ≤ hv) h2, bound_int k' h0 this]
      simp [Instr.sliceAt, Instr.slice, run_und hu, SV.den, key]
    · cases h
  · cases h

theorem run_load_cell {P : Program} {w : World} {a : Addr} {v : Value} (h : w.cell? a = some v) : (load a).run P w = .ok v w := by
  simp [load, Sem.run, h]

theorem run_loadCellsFrom {P : Program} {w : World} {a : Addr} : ∀ (vs : List Value) (i : Nat) (acc : Array Value), (∀ j v, vs[j]? = some v → w.cell? (a.add (i + j)) = some v) →
    (loadCellsFrom a i vs.length acc).run P w = .ok (acc ++ vs.toArray) w
  | [], i, acc, _ => by simp [loadCellsFrom]
  | v :: r, i, acc, h => by
    have h0 : w.cell? (a.add i) = some v := h 0 v rfl
    have ih := run_loadCellsFrom (P := P) (w := w) (a := a) r (i + 1) (acc.push v) (fun j u hu => by have := h (j + 1) u (by simpa using hu); rwa [show i + (j + 1) = i + 1 + j by omega] at this)
    simp only [List.length_cons, loadCellsFrom, bind, Sem.run_bind', run_load_cell h0, Result.andThen_ok, ih]
    simp

theorem run_loadCells {P : Program} {w : World} {a : Addr} {vs : List Value} {n : Nat} (hn : vs.length = n) (h : ∀ (j : Nat) (v : Value), vs[j]? = some v → w.cell? (a.add j) = some v) :
    (loadCells a n).run P w = .ok vs.toArray w := by
  subst hn
  have := run_loadCellsFrom (P := P) (w := w) (a := a) vs 0 #[] (fun j v hv => by simpa using h j v hv)
  simpa [loadCells] using this

theorem cell_at {w0 : World} {η : Nat → Nat} {hp : Hp} {w : World} (h : HR w0 η hp w) {b : Nat} {cs : List SV} {ty : TypeId} {tl : ST} (hb : hget hp b = some (.cells cs ty tl)) :
    ∃ c fz, LRelT η cs tl c ∧ FzOk c.size fz ∧ w.heap[η b]? = some (.cells c ty fz) ∧ ∀ o, w.cell? ⟨η b, o, none⟩ = c[o]? := by
  obtain ⟨o, ho, c, fz, hc, hz, rfl⟩ := h.cell b _ hb
  exact ⟨c, fz, hc, hz, ho, fun o => by simp [World.cell?, ho]⟩

theorem closed_den {v : SV} (h : closedV v = true) (η : Nat → Nat) : v.den η = v.den fun _ => 0 := den_congr (fun i hi => by cases hi) v h
theorem closeds_den {l : List SV} (h : SV.allvs (fun _ => false) l = true) (η : Nat → Nat) : SV.dens η l = SV.dens (fun _ => 0) l := dens_congr (fun i hi => by cases hi) l h

theorem base_cell {w0 : World} {η f w} (h : HRel w0 η f w) {a : Addr} {v : Value} (hv : w0.cell? a = some v) : w.cell? a = some v := by
  have hlt : a.block < w0.heap.size := by
    simp only [World.cell?] at hv
    split at hv
    · rename_i heq; exact (Array.getElem?_eq_some_iff.1 heq).1
    · cases hv
  rw [h.base.cell hlt]; exact hv

theorem fblk_at {w0 : World} {η : Nat → Nat} {hp : Hp} {w : World} (h : HR w0 η hp w) {b : Nat} {n : Int} {fs : List FC} {ty : TypeId} {tl : ST} (hb : hget hp b = some (.fblk n fs ty tl)) :
    ∃ c fz, 0 ≤ n ∧ tl.ok η (n.toNat * fs.length) c.size ∧ FRel n fs c ∧ FzOk c.size fz ∧ w.heap[η b]? = some (.cells c ty fz) ∧ ∀ o, w.cell? ⟨η b, o, none⟩ = c[o]? := by
  obtain ⟨o, ho, c, fz, ⟨h0, h1, h2⟩, hz, rfl⟩ := h.cell b _ hb
  exact ⟨c, fz, h0, h1, h2, hz, ho, fun o => by simp [World.cell?, ho]⟩
theorem run_load_fc {P : Program} {w : World} {t : TypeId} {a : Addr} {x : Value} (ha : aggOf P t = some false) (h : w.cell? a = some x) : (Instr.loadAt t (.pointer (some a))).run P w = .ok x w := by
  simp [Instr.loadAt, Instr.sureAddr, loadVar, run_aggOf ha, run_load_cell h, h]
theorem run_load_fcs {P : Program} {w : World} {t : TypeId} {a : Addr} {xs : List Value} {m : Nat} (ha : aggOf P t = some true) (hs : szOf P t = some m) (hl : xs.length = m) (h : ∀ (j : Nat) (x : Value), xs[j]? = some x → w.cell? (a.add j) = some x) :
    (Instr.loadAt t (.pointer (some a))).run P w = .ok (.agg xs.toArray) w := by
  have := run_loadCells (P := P) (w := w) (a := a) (vs := xs) (n := m) hl h
  simp [Instr.loadAt, Instr.sureAddr, loadVar, run_aggOf ha, run_szOf hs, this]
theorem FRel.row1 {n : Int} {fc : FC} {c : Array Value} (h : FRel n [fc] c) {i : Nat} (hi : i < n.toNat) : c[i]? = some (fc.val i) := by
  have := h i 0 fc hi rfl
  simpa using this
theorem sLoad_sound {P : Program} {w0 : World} {hp : Hp} {t : TypeId} {p : SV} {K : SV → Prop} (h : sLoad P w0 hp t p K) :
    ∃ v, K v ∧ v.isAny = false ∧ ∀ (w : World) (η : Nat → Nat), HR w0 η hp w → (Instr.loadAt t (p.den η)).run P w = .ok (v.den η) w := by
  unfold sLoad at h
  split at h
  · rename_i b o
    split at h
    · rename_i cs ty tl hb
      split at h
      · rename_i n ha hs
        split at h
        · rename_i hle hna
          refine ⟨_, h, rfl, fun w η hr => ?_⟩
          obtain ⟨c, fz, hc, _, _, hcell⟩ := cell_at hr hb
          have hle := Nat.le_of_ble_eq_true hle
          have := run_loadCells (P := P) (w := w) (a := ⟨η b, o, none⟩) (vs := SV.dens η ((cs.drop o).take n)) (n := n) (by simp; omega) (fun j v hv => by
            rw [add_ptr, hcell]
            rw [dens_get] at hv
            simp only [Option.map_eq_some_iff] at hv
            obtain ⟨u, hu, rfl⟩ := hv
            have hu' : cs[o + j]? = some u := by
              rw [List.getElem?_take] at hu
              split at hu
              · rwa [List.getElem?_drop] at hu
              · cases hu
            have hmem : u ∈ (cs.drop o).take n := List.mem_of_getElem? hu
            rcases hc.2 _ _ hu' with e | e
            · have := noAny_iff hna u hmem; rw [e] at this; cases this
            · exact e)
          simp [Instr.loadAt, SV.den, Instr.sureAddr, loadVar, run_aggOf ha, run_szOf hs, this]
        · cases h
      · rename_i hs ha
        split at h
        · cases h
        · rename_i hv
          refine ⟨_, h, by cases hc : nth cs o <;> first | rfl | exact absurd hc hv, fun w η hr => ?_⟩
          obtain ⟨c, fz, hc, _, _, hcell⟩ := cell_at hr hb
          have := hc.nth (i := o) rfl hv
          have hl : w.cell? ⟨η b, o, none⟩ = some ((nth cs o).den η) := by rw [hcell]; exact this
          simp [Instr.loadAt, SV.den, Instr.sureAddr, loadVar, run_aggOf ‹aggOf P t = some false›, run_load_cell hl, hl]
      · cases h
    · rename_i n fc ty tl hb
      split at h
      · rename_i m ha hs
        obtain ⟨h1, h⟩ := h
        obtain ⟨l, hl, e⟩ := nameRow_sound h
        refine ⟨_, hl, rfl, fun w η hr => ?_⟩
        obtain ⟨c, fz, g0, g1, g2, _, _, hcell⟩ := fblk_at hr hb
        show (Instr.loadAt t (.pointer (some ⟨η b, o, none⟩))).run P w = .ok (.agg (SV.dens η l).toArray) w
        rw [e η]
        refine run_load_fcs ha hs (by simp) fun j x hx => ?_
        rw [add_ptr, hcell]
        simp only [List.getElem?_map, Option.map_eq_some_iff] at hx
        obtain ⟨j', hj, rfl⟩ := hx
        have hj' := (List.getElem?_eq_some_iff.1 hj)
        obtain ⟨hjm, hje⟩ := hj'
        simp at hjm hje
        subst hje
        have := g2.row1 (i := o + j) (by omega)
        rw [this]; simp
      · rename_i hs ha
        obtain ⟨h1, h⟩ := h
        obtain ⟨v, hv, hsc, e⟩ := nameFC_sound h
        refine ⟨v, hv, scalar_ne_any hsc, fun w η hr => ?_⟩
        obtain ⟨c, fz, g0, g1, g2, _, _, hcell⟩ := fblk_at hr hb
        have := g2.row1 (i := o) (by omega)
        rw [e η]
        exact run_load_fc ‹aggOf P t = some false› (by rw [hcell]; exact this)
      · cases h
    · cases h
  · rename_i b i z o
    split at h
    · rename_i n fs ty tl hb
      split at h
      · rename_i hs hzl ha
        have hzl := Nat.eq_of_beq_eq_true hzl
        split at h
        · rename_i fc hfc
          rw [fnth_eq] at hfc
          obtain ⟨⟨h0, h1⟩, h⟩ := h
          obtain ⟨v, hv, hsc, e⟩ := nameFC_sound h
          refine ⟨v, hv, scalar_ne_any hsc, fun w η hr => ?_⟩
          obtain ⟨c, fz, g0, g1, g2, _, _, hcell⟩ := fblk_at hr hb
          rw [e η]
          refine run_load_fc ‹aggOf P t = some false› ?_
          rw [hcell, hzl, g2 i.toNat o fc (by omega) hfc, Int.toNat_of_nonneg h0]
        · cases h
      · rename_i m hzl ha hs
        have hzl := Nat.eq_of_beq_eq_true hzl
        split at h
        · rename_i fc
          obtain ⟨⟨h0, h1⟩, h⟩ := h
          obtain ⟨l, hl, e⟩ := nameRow_sound h
          refine ⟨_, hl, rfl, fun w η hr => ?_⟩
          obtain ⟨c, fz, g0, g1, g2, _, _, hcell⟩ := fblk_at hr hb
          show (Instr.loadAt t (.pointer (some ⟨η b, i.toNat * z + 0, none⟩))).run P w = .ok (.agg (SV.dens η l).toArray) w
          rw [e η]
          refine run_load_fcs ha hs (by simp) fun j x hx => ?_
          rw [add_ptr, hcell]
          simp only [List.getElem?_map, Option.map_eq_some_iff] at hx
          obtain ⟨j', hj, rfl⟩ := hx
          obtain ⟨hjm, hje⟩ := List.getElem?_eq_some_iff.1 hj
          simp at hjm hje
          subst hje
          have := g2.row1 (i := i.toNat + j) (by omega)
          have e2 : i.toNat * z + 0 + j = i.toNat + j := by rw [hzl]; simp
          rw [e2, this]
          congr 2
          omega
        · split at h
          · rename_i hle
            have hle := Nat.le_of_ble_eq_true hle
            obtain ⟨⟨h0, h1⟩, h⟩ := h
            obtain ⟨l, hl, e⟩ := nameFCs_sound h
            refine ⟨_, hl, rfl, fun w η hr => ?_⟩
            obtain ⟨c, fz, g0, g1, g2, _, _, hcell⟩ := fblk_at hr hb
            show (Instr.loadAt t (.pointer (some ⟨η b, i.toNat * z + o, none⟩))).run P w = .ok (.agg (SV.dens η l).toArray) w
            rw [e η]
            refine run_load_fcs ha hs (by simp; omega) fun j x hx => ?_
            rw [add_ptr, hcell]
            simp only [List.getElem?_map, Option.map_eq_some_iff] at hx
            obtain ⟨fc, hj, rfl⟩ := hx
            rw [List.getElem?_take] at hj
            split at hj
            · rw [List.getElem?_drop] at hj
              rw [Nat.add_assoc, hzl, g2 i.toNat (o + j) fc (by omega) hj, Int.toNat_of_nonneg h0]
            · cases hj
          · cases h
      · cases h
    · cases h
  · rename_i a i o fs
    split at h
    · rename_i hs ha
      split at h
      · rename_i fc hfc
        rw [fnth_eq] at hfc
        obtain ⟨h0, h⟩ := h
        obtain ⟨v, hv, hsc, e⟩ := nameFC_sound h
        refine ⟨v, hv, scalar_ne_any hsc, fun w η hr => ?_⟩
        rw [e η]
        exact run_load_fc ‹aggOf P t = some false› (base_cell hr (h0 o fc hfc))
      · cases h
    · rename_i m ha hs
      split at h
      · rename_i hle
        have hle := Nat.le_of_ble_eq_true hle
        obtain ⟨h0, h⟩ := h
        obtain ⟨l, hl, e⟩ := nameFCs_sound h
        refine ⟨_, hl, rfl, fun w η hr => ?_⟩
        show (Instr.loadAt t (.pointer (some (a.add (i.toNat * fs.length + o))))).run P w = .ok (.agg (SV.dens η l).toArray) w
        rw [e η]
        refine run_load_fcs ha hs (by simp; omega) fun j x hx => ?_
        rw [addr_add_add]
        simp only [List.getElem?_map, Option.map_eq_some_iff] at hx
        obtain ⟨fc, hj, rfl⟩ := hx
        rw [List.getElem?_take] at hj
        split at hj
        · rw [List.getElem?_drop] at hj
          rw [Nat.add_assoc]
          exact base_cell hr (h0 (o + j) fc hj)
        · cases hj
      · cases h
    · cases h
  · rename_i a
    split at h
    · rename_i n ha hs
      obtain ⟨vs, hl, hna, hcl, hcell, hk⟩ := h
      refine ⟨_, hk, rfl, fun w η hr => ?_⟩
      have := run_loadCells (P := P) (w := w) (a := a) (vs := SV.dens η vs) (n := n) (by simp [hl]) (fun j v hv => by
        rw [closeds_den hcl, dens_get] at hv
        simp only [Option.map_eq_some_iff] at hv
        obtain ⟨u, hu, rfl⟩ := hv
        exact base_cell hr (hcell j u hu))
      simp [Instr.loadAt, SV.den, Instr.sureAddr, loadVar, run_aggOf ha, run_szOf hs, this]
    · rename_i hs ha
      obtain ⟨v, hna, hcl, hcell, hk⟩ := h
      refine ⟨v, hk, hna, fun w η hr => ?_⟩
      rw [closed_den hcl η]
      simp [Instr.loadAt, SV.den, Instr.sureAddr, loadVar, run_aggOf ‹aggOf P t = some false›, run_load_cell (base_cell hr hcell), base_cell hr hcell]
    · cases h
  · cases h

theorem sMin2_sound {x y : SV} {K : SV → Prop} (h : sMin2 x y K) : ∃ v, K v ∧ v.isAny = false ∧ ∀ (P : Program) (w : World) (η : Nat → Nat), (Builtin.min2 (x.den η) (y.den η)).run P w = .ok (v.den η) w := by
  unfold sMin2 at h
  split at h
  · split at h
    · rename_i hk; have hk := of_decide_eq_true hk; subst hk
      exact ⟨_, h, rfl, fun P w η => by simp [Builtin.min2, SV.den]⟩
    · cases h
  · split at h
    · rename_i hk; have hk := of_decide_eq_true hk; subst hk
      exact ⟨_, h _ rfl, rfl, fun P w η => by simp [Builtin.min2, SV.den]⟩
    · cases h
  · cases h
theorem sMax2_sound {x y : SV} {K : SV → Prop} (h : sMax2 x y K) : ∃ v, K v ∧ v.isAny = false ∧ ∀ (P : Program) (w : World) (η : Nat → Nat), (Builtin.max2 (x.den η) (y.den η)).run P w = .ok (v.den η) w := by
  unfold sMax2 at h
  split at h
  · split at h
    · rename_i hk; have hk := of_decide_eq_true hk; subst hk
      exact ⟨_, h, rfl, fun P w η => by simp [Builtin.max2, SV.den]⟩
    · cases h
  · split at h
    · rename_i hk; have hk := of_decide_eq_true hk; subst hk
      exact ⟨_, h _ rfl, rfl, fun P w η => by simp [Builtin.max2, SV.den]⟩
    · cases h
  · cases h
theorem sMins_sound : ∀ (r : List SV) {x : SV} {K : SV → Prop}, x.isAny = false → sMins x K r → ∃ v, K v ∧ v.isAny = false ∧ ∀ (P : Program) (w : World) (η : Nat → Nat), ((SV.dens η r).foldlM Builtin.min2 (x.den η)).run P w = .ok (v.den η) w
  | [], x, K, hx, h => ⟨x, h, hx, fun P w η => by simp [SV.dens]⟩
  | y :: r, x, K, hx, h => by
    obtain ⟨v, hv, hva, hr⟩ := sMin2_sound h
    obtain ⟨u, hu, hua, hr'⟩ := sMins_sound r hva hv
    exact ⟨u, hu, hua, fun P w η => by simp [SV.dens, hr, hr']⟩
theorem sMaxs_sound : ∀ (r : List SV) {x : SV} {K : SV → Prop}, x.isAny = false → sMaxs x K r → ∃ v, K v ∧ v.isAny = false ∧ ∀ (P : Program) (w : World) (η : Nat → Nat), ((SV.dens η r).foldlM Builtin.max2 (x.den η)).run P w = .ok (v.den η) w
  | [], x, K, hx, h => ⟨x, h, hx, fun P w η => by simp [SV.dens]⟩
  | y :: r, x, K, hx, h => by
    obtain ⟨v, hv, hva, hr⟩ := sMax2_sound h
    obtain ⟨u, hu, hua, hr'⟩ := sMaxs_sound r hva hv
    exact ⟨u, hu, hua, fun P w η => by simp [SV.dens, hr, hr']⟩

theorem sLen_sound {P : Program} {t : TypeId} {x : SV} {K : SV → Prop} (h : sLen P t x K) :
    ∃ v, K v ∧ v.isAny = false ∧ ∀ (w : World) (η : Nat → Nat) (ts : Array TypeId) (ty : TypeId), ts[0]? = some t → (Builtin.len_ ts ty #[x.den η]).run P w = .ok (v.den η) w := by
  unfold sLen at h
  split at h
  · rename_i s hu; exact ⟨_, h, rfl, fun w η ts ty ht => by simp [Builtin.len_, ht, run_und hu, SV.den, goInt]⟩
  · rename_i s hu; exact ⟨_, h _ rfl, rfl, fun w η ts ty ht => by simp [Builtin.len_, ht, run_und hu, SV.den, goInt]⟩
  · rename_i n e x hu; exact ⟨_, h, rfl, fun w η ts ty ht => by simp [Builtin.len_, ht, run_und hu, SV.den, goInt]⟩
  · rename_i e b o n c hu; exact ⟨_, h, rfl, fun w η ts ty ht => by simp [Builtin.len_, ht, run_und hu, SV.den, goInt]⟩
  · rename_i e b n c hu; exact ⟨_, h.2, rfl, fun w η ts ty ht => by have := h.1; simp [Builtin.len_, ht, run_und hu, SV.den, goInt]; omega⟩
  · rename_i e a n c fs hu; exact ⟨_, h.2, rfl, fun w η ts ty ht => by have := h.1; simp [Builtin.len_, ht, run_und hu, SV.den, goInt]; omega⟩
  · rename_i e a n c hu; exact ⟨_, h _ rfl, rfl, fun w η ts ty ht => by simp [Builtin.len_, ht, run_und hu, SV.den, goInt]⟩
  · rename_i e n c hu; exact ⟨_, h, rfl, fun w η ts ty ht => by simp [Builtin.len_, ht, run_und hu, SV.den, goInt]⟩
  · cases h

theorem sBuiltin_sound {P : Program} {b : Builtin} {ats : Array TypeId} {args : List SV} {K : SV → Prop} (hna : noAny args = true) (h : sBuiltin P b ats args K) :
    ∃ v, K v ∧ v.isAny = false ∧ ∀ (w : World) (η : Nat → Nat) (ty : TypeId) (cs : Array Bool), (builtin b ats ty cs (SV.dens η args).toArray).run P w = .ok (.value (v.den η)) w := by
  unfold sBuiltin at h
  split at h
  · rename_i x
    split at h
    · rename_i t r ht
      obtain ⟨v, hv, hva, hr⟩ := sLen_sound h
      refine ⟨v, hv, hva, fun w η ty cs => ?_⟩
      have h0 : ats[0]? = some t := by rw [← Array.getElem?_toList, ht]; rfl
      simp [builtin, SV.dens, hr w η ats ty h0]
    · cases h
  · rename_i x r
    obtain ⟨v, hv, hva, hr⟩ := sMins_sound r (noAny_iff hna x (by simp)) h
    exact ⟨v, hv, hva, fun w η ty cs => by simp [builtin, SV.dens, Builtin.min_, hr]⟩
  · rename_i x r
    obtain ⟨v, hv, hva, hr⟩ := sMaxs_sound r (noAny_iff hna x (by simp)) h
    exact ⟨v, hv, hva, fun w η ty cs => by simp [builtin, SV.dens, Builtin.max_, hr]⟩
  · cases h

end Go.Sx
