import Derived.Test.YtaaobpalpcdlbaaSxC
set_option linter.unusedSimpArgs false
set_option linter.unusedVariables false
namespace Go.Sx

theorem den_ofVal (v : Value) (η : Nat → Nat) : (ofVal v).den η = v := by
  unfold ofVal; split <;> simp [SV.den, SB.val_lit]
theorem ofVal_ne_any (v : Value) : (ofVal v).isAny = false := by
  unfold ofVal; split <;> rfl
theorem dens_ofVal (η : Nat → Nat) : ∀ l : List Value, SV.dens η (l.map ofVal) = l
  | [] => rfl
  | v :: r => by simp only [List.map_cons, SV.dens, den_ofVal, dens_ofVal η r]
theorem den_ofValA (v : Value) (η : Nat → Nat) : (ofValA v).den η = v := by
  unfold ofValA
  split
  · simp only [SV.den, dens_ofVal]
  · exact den_ofVal _ _
theorem ofValA_ne_any (v : Value) : (ofValA v).isAny = false := by
  unfold ofValA; split <;> first | rfl | exact ofVal_ne_any _

theorem LRel.one {η : Nat → Nat} {v : SV} : LRel η [v] #[v.den η] :=
  ⟨rfl, fun i u hu => by
    cases i with
    | zero => simp at hu; subst hu; right; rfl
    | succ i => simp at hu⟩

theorem cells_den {v : SV} (h : v.isAny = false) (η : Nat → Nat) : LRel η v.cellsL (v.den η).cells := by
  cases v with
  | any => cases h
  | agg cs => exact LRel.of_dens
  | val x =>
    show LRel η (x.cells.toList.map SV.val) x.cells
    refine ⟨by simp, fun i u hu => ?_⟩
    simp only [List.getElem?_map, Option.map_eq_some_iff] at hu
    obtain ⟨y, hy, rfl⟩ := hu
    right
    simpa [SV.den] using hy
  | _ => exact LRel.one

theorem LRel.spl {η : Nat → Nat} (off : Nat) : ∀ (xs : List SV) (a : List Value) (k : Nat) {cs : List SV} {c : Array Value}, xs.length = a.length → (∀ (i : Nat) (v : SV), xs[i]? = some v → v = SV.any ∨ a[i]? = some (v.den η)) →
    LRel η cs c → LRel η (Sx.spl cs (off + k) xs) ((a.zipIdx k).foldl (fun cs p => cs.setIfInBounds (off + p.2) p.1) c)
  | [], [], k, cs, c, _, _, h => h
  | x :: xs, y :: a, k, cs, c, hl, hx, h => by
    simp only [Sx.spl, List.zipIdx_cons, List.foldl_cons]
    have h0 : x = SV.any ∨ y = x.den η := by simpa using hx 0 x rfl
    exact LRel.spl off xs a (k + 1) (by simpa using hl) (fun i v hv => by simpa using hx (i + 1) v (by simpa using hv)) (h.put (off + k) h0)
  | [], _ :: _, _, _, _, hl, _, _ => by simp at hl
  | _ :: _, [], _, _, _, hl, _, _ => by simp at hl

theorem noAny_iff : ∀ {l : List SV}, noAny l = true → ∀ v ∈ l, v.isAny = false
  | [], _, v, hv => by cases hv
  | x :: r, h, v, hv => by
    simp only [noAny] at h
    split at h
    · cases h
    · rcases List.mem_cons.1 hv with rfl | hv
      · assumption
      · exact noAny_iff h v hv

theorem allScalar_iff : ∀ {l : List SV}, allScalar l = true → ∀ v ∈ l, v.scalar = true
  | [], _, v, hv => by cases hv
  | x :: r, h, v, hv => by
    simp only [allScalar] at h
    split at h
    · rcases List.mem_cons.1 hv with rfl | hv
      · assumption
      · exact allScalar_iff h v hv
    · cases h
theorem scalar_ne_any {v : SV} (h : v.scalar = true) : v.isAny = false := by cases v <;> first | rfl | cases h

theorem LRel.eq_dens {η : Nat → Nat} {l : List SV} {a : Array Value} (h : LRel η l a) (hn : ∀ v ∈ l, v.isAny = false) : a = (SV.dens η l).toArray := by
  apply Array.ext_getElem?
  intro i
  by_cases hi : i < l.length
  · have hl : l[i]? = some l[i] := List.getElem?_eq_getElem hi
    rcases h.2 i _ hl with e | e
    · have := hn l[i] (List.getElem_mem hi); rw [e] at this; cases this
    · rw [e]; simp [dens_get, hl]
  · rw [Array.getElem?_eq_none (by rw [h.1]; omega), Array.getElem?_eq_none (by simp; omega)]

theorem spl_length : ∀ (xs : List SV) (cs : List SV) (o : Nat), (spl cs o xs).length = cs.length
  | [], cs, o => rfl
  | x :: xs, cs, o => by simp only [spl, spl_length xs, put_length]

theorem fillS_sound {η : Nat → Nat} {place : Nat → Option (Nat × Nat)} : ∀ (ps : List (Nat × SV)) {cs cs' : List SV} {c : Array Value}, fillS place cs ps = some cs' → LRel η cs c →
    ∃ c', Instr.fill place c (ps.map fun p => (p.1, p.2.den η)) = some c' ∧ LRel η cs' c'
  | [], cs, cs', c, h, hc => by simp only [fillS] at h; injection h with h; subst h; exact ⟨c, rfl, hc⟩
  | (i, v) :: rest, cs, cs', c, h, hc => by
    simp only [fillS] at h
    split at h
    · cases h
    · rename_i off size hp
      split at h
      · rename_i h1 h2 h3
        have h1 := Nat.eq_of_beq_eq_true h1
        have h2 := Nat.le_of_ble_eq_true h2
        have hne : v.isAny = false := by
          cases v with
          | any => simp [SV.cellsL, allScalar, SV.scalar] at h3
          | _ => rfl
        have hcells := cells_den hne η
        have hsz : (v.den η).cells.size = v.cellsL.length := hcells.1
        have hspl := LRel.spl (η := η) off v.cellsL (v.den η).cells.toList 0 (by rw [Array.length_toList]; exact hsz.symm) (fun j u hu => by have := hcells.2 j u hu; simpa using this) hc
        have hfold : (v.den η).cells.zipIdx.foldl (fun cs p => cs.setIfInBounds (off + p.2) p.1) c = ((v.den η).cells.toList.zipIdx 0).foldl (fun cs p => cs.setIfInBounds (off + p.2) p.1) c := by
          rw [← Array.foldl_toList]; simp
        simp only [Nat.add_zero] at hspl
        rw [← hfold] at hspl
        obtain ⟨c', h4, h5⟩ := fillS_sound rest h hspl
        refine ⟨c', ?_, h5⟩
        simp only [List.map_cons, Instr.fill, hp]
        rw [if_neg]
        · exact h4
        · simp only [hsz, hc.1, Bool.or_eq_true, decide_eq_true_eq, ne_eq]; omega
      · cases h

theorem placesOf_sound {P : Program} {w : World} : ∀ (fs : List Field) {l : List (Nat × Nat)}, placesOf P fs = some l → (fs.mapM (m := Sem) fun f => do pure (f.offset, ← sizeOf f.type)).run P w = .ok l w
  | [], l, h => by simp only [placesOf] at h; injection h with h; subst h; simp [pure, Sem.run]
  | f :: r, l, h => by
    simp only [placesOf] at h
    split at h
    · rename_i z l' hz hl
      injection h with h; subst h
      have ih := placesOf_sound (w := w) r hl
      simp only [List.mapM_cons, bind, Sem.run_bind', run_szOf hz, Result.andThen_ok, pure, Sem.run]
      simp only [bind, pure] at ih
      rw [ih]; simp [Sem.run]
    · cases h

theorem sBuild_sound {P : Program} {t : TypeId} {ps : List (Nat × SV)} {K : SV → Prop} (h : sBuild P t ps K) :
    ∃ v, K v ∧ v.isAny = false ∧ ∀ (w : World) (η : Nat → Nat), (Instr.build t (ps.map fun p => (p.1, p.2.den η)).toArray).run P w = .ok (v.den η) w := by
  unfold sBuild at h
  split at h
  · rename_i z fs hz hu
    split at h
    · rename_i pl hpl
      split at h
      · rename_i cs hcs
        split at h
        case h_2 => cases h
        rename_i hn
        refine ⟨_, h, rfl, fun w η => ?_⟩
        have hz' : LRel η (ofValA z).cellsL z.cells := by have := cells_den (ofValA_ne_any z) η; rwa [den_ofValA] at this
        obtain ⟨c', hf, hr⟩ := fillS_sound ps hcs hz'
        have hm : (fs.mapM (m := Sem) fun f => do pure (f.offset, ← sizeOf f.type)).run P w = .ok pl.toArray w := by
          have := placesOf_sound (P := P) (w := w) fs.toList hpl
          rw [Array.mapM_eq_mapM_toList, Sem.run_map, this]; simp
        simp only [bind, Sem.run_bind', pure] at hm
        simp only [Instr.build, bind, Sem.run_bind', run_zeroOf hz, run_und hu, Result.andThen_ok, hm, pure]
        have e : (fun x : Nat => pl.toArray[x]?) = (fun i : Nat => pl[i]?) := by funext i; simp
        simp only [e, hf]
        rw [hr.eq_dens (noAny_iff hn)]
        simp [pure, Sem.run, SV.den]
      · cases h
    · cases h
  · rename_i z n e hz hu
    split at h
    · rename_i m hm
      split at h
      · rename_i cs hcs
        split at h
        case h_2 => cases h
        rename_i hn
        refine ⟨_, h, rfl, fun w η => ?_⟩
        have hz' : LRel η (ofValA z).cellsL z.cells := by have := cells_den (ofValA_ne_any z) η; rwa [den_ofValA] at this
        obtain ⟨c', hf, hr⟩ := fillS_sound ps hcs hz'
        simp only [Instr.build, bind, Sem.run_bind', run_zeroOf hz, run_und hu, Result.andThen_ok, run_szOf hm, hf, hr.eq_dens (noAny_iff hn), pure, Sem.run, SV.den]
      · cases h
    · cases h
  · cases h

theorem repl_length (z : List SV) : ∀ n, (repl z n).length = n * z.length
  | 0 => by simp [repl]
  | n + 1 => by simp [repl, repl_length z n, Nat.succ_mul]; omega

theorem repl_get (z : List SV) (hz : z.length ≠ 0) : ∀ (n i : Nat), i < n * z.length → (repl z n)[i]? = z[i % z.length]?
  | 0, i, h => by omega
  | n + 1, i, h => by
    simp only [repl]
    by_cases hi : i < z.length
    · rw [List.getElem?_append_left hi, Nat.mod_eq_of_lt hi]
    · rw [List.getElem?_append_right (by omega), repl_get z hz n (i - z.length) (by rw [Nat.succ_mul] at h; omega)]
      congr 1
      rw [Nat.mod_eq_sub_mod (a := i) (by omega)]

theorem LRel.repl {η : Nat → Nat} {z : List SV} {a : Array Value} (h : LRel η z a) (hz : z.length ≠ 0) (n : Nat) : LRel η (Sx.repl z n) ((Array.range (n * z.length)).map (a[· % a.size]!)) := by
  refine ⟨by simp [repl_length], fun i v hv => ?_⟩
  have hi : i < n * z.length := by
    have := (List.getElem?_eq_some_iff.1 hv).1
    rwa [repl_length] at this
  rw [repl_get z hz n i hi] at hv
  rcases h.2 _ v hv with e | e
  · exact .inl e
  · right
    have hm : i % z.length < a.size := by rw [h.1]; exact Nat.mod_lt _ (by omega)
    simp only [Array.getElem?_map, Array.getElem?_range, hi, if_true, Option.map_some, h.1]
    rw [Array.getElem?_eq_getElem hm] at e
    rw [getElem!_pos a _ hm]
    exact e

theorem run_newRow {P : Program} {w : World} (e : TypeId) (cs : Array Value) : (newRow e cs).run P w = .ok ⟨w.heap.size, 0, none⟩ (w.alloc (.cells cs e)) := by
  rfl

theorem map_range_zero (f : Nat → Value) : Array.map f (Array.range 0) = #[] := by simp [Array.range]

theorem sBuildSlice_sound {P : Program} {n : Nat} {t : TypeId} {len : Nat} {ps : List (Nat × SV)} {K : SV → Option SBk → Prop} (h : sBuildSlice P n t len ps K) :
    ∃ b, K (.slice n 0 len (.lit len)) (some b) ∧ ∀ (w : World) (η : Nat → Nat), ∃ o, b.Rel η o ∧ (Instr.buildSlice t len (ps.map fun p => (p.1, p.2.den η)).toArray).run P w = .ok (.slice (some ⟨w.heap.size, 0, none⟩) len len) (w.alloc o) := by
  unfold sBuildSlice at h
  split at h
  · rename_i e hu
    split at h
    · rename_i z zv hz hzv
      split at h
      · rename_i h1 h2 h3
        split at h
        · rename_i cs hcs
          refine ⟨_, h, fun w η => ?_⟩
          have h3 := Nat.eq_of_beq_eq_true h3
          have hz0 : z ≠ 0 := Nat.ne_of_beq_eq_false h1
          have h2 := Nat.le_of_ble_eq_true h2
          have hz' : LRel η (ofValA zv).cellsL zv.cells := by have := cells_den (ofValA_ne_any zv) η; rwa [den_ofValA] at this
          have hr := LRel.repl hz' (by omega) len
          obtain ⟨c', hf, hr'⟩ := fillS_sound ps hcs hr
          rw [h3] at hf
          refine ⟨.cells c' e, ⟨c', _, hr'.toT, FzOk.zero, rfl⟩, ?_⟩
          have hb : ¬ (len * z > 2 ^ 24) := by omega
          by_cases hlz : len * z = 0
          · have hl : len = 0 := by rcases Nat.mul_eq_zero.1 hlz with h | h <;> omega
            subst hl
            simp only [Instr.buildSlice, bind, Sem.run_bind', run_und hu, Result.andThen_ok, run_szOf hz, hb, if_false, pure, Sem.run, hlz, if_true, run_zeroOf hzv]
            simp only [Nat.zero_mul, map_range_zero] at hf ⊢
            simp only [hf, show ¬ (0 > 2 ^ 24) by omega, if_false, Sem.run_bind', run_newRow, Result.andThen_ok, Sem.run]
          · simp only [Instr.buildSlice, bind, Sem.run_bind', run_und hu, Result.andThen_ok, run_szOf hz, hb, if_false, pure, Sem.run, hlz, run_zeroOf hzv, hf, run_newRow]
        · cases h
      · cases h
    · cases h
  · cases h

theorem wrap64_small (n : Int) (h0 : 0 ≤ n) (h1 : n < 9223372036854775808) : IntKind.i64.wrap n = n := by
  have e : (2 : Int) ^ IntKind.i64.bits = 18446744073709551616 := by decide
  have e1 : (2 : Int) ^ (IntKind.i64.bits - 1) = 9223372036854775808 := by decide
  simp only [IntKind.wrap, e, e1, IntKind.signed, Bool.true_and]
  rw [Int.emod_eq_of_lt h0 (by omega), if_neg (by simp; omega)]

theorem litNat_sound {v : SV} {n : Nat} (h : litNat v = some n) (η : Nat → Nat) : ∃ k, v.den η = .int k (n : Int) ∧ n < 65536 := by
  unfold litNat at h
  split at h
  · rename_i k i
    split at h
    · rename_i hi; have hi := of_decide_eq_true hi; injection h with h; subst h
      exact ⟨k, by simp [SV.den, SI.val]; omega, by omega⟩
    · cases h
  · cases h

theorem run_make {P : Program} {t e : TypeId} {z by_ : Nat} {zv : Value} (hu : P.underlying t = some (.slice e)) (hz : szOf P e = some z) (hzv : zeroOf P e = some zv) (hby : bytesOf P e = some by_) (h4 : (ofValA zv).cellsL.length = z)
    (k1 k2 : IntKind) {l c : Nat} (hl : l ≤ c) (hc : c < 9223372036854775808) (hbc : (by_ : Int) * (c : Int) ≤ 281474976710656) (w : World) :
    (Instr.makeSlice t (.int k1 l) (.int k2 c)).run P w = .ok (.slice (some ⟨w.heap.size, 0, none⟩) l c) (w.alloc (.cells ((Array.range (c * z)).map (zv.cells[· % zv.cells.size]!)) e)) := by
  obtain ⟨i, hi, hib⟩ := run_bytesOf (P := P) (w := w) hby
  have w1 : IntKind.i64.wrap (l : Int) = l := wrap64_small _ (by omega) (by omega)
  have w2 : IntKind.i64.wrap (c : Int) = c := wrap64_small _ (by omega) (by omega)
  have g1 : ¬ ((c : Int) < 0) := by omega
  have g2 : ¬ ((l : Int) < 0) := by omega
  have g3 : ¬ ((l : Int) > (c : Int)) := by omega
  have g4 : ¬ ((by_ : Int) * (c : Int) > 2 ^ 48) := by
    have e : (2 : Int) ^ 48 = 281474976710656 := by decide
    rw [e]; omega
  simp only [Instr.makeSlice, bind, Sem.run_bind', run_und hu, Result.andThen_ok, asInt, asIntOf, pure, Sem.run, hi, hib, w1, w2]
  simp only [g1, g2, g3, g4, decide_false, Bool.or_false, Bool.false_or, Bool.false_eq_true, if_false, Int.toNat_natCast, Go.run_askRoom, Result.andThen_ok, Sem.run_bind', run_szOf hz]
  by_cases hcz : c * z = 0
  · simp only [hcz, if_true, Sem.run_bind', Result.andThen_ok, pure, Sem.run, run_newRow, map_range_zero]
  · simp only [hcz, if_false, Sem.run_bind', run_zeroOf hzv, Result.andThen_ok, pure, Sem.run, run_newRow]

theorem constFCs_get : ∀ {l : List SV} {fs : List FC}, constFCs l = some fs → fs.length = l.length ∧ ∀ (j : Nat) (fc : FC) (i : Int) (η : Nat → Nat), fs[j]? = some fc → ∃ v : SV, l[j]? = some v ∧ v.isAny = false ∧ v.den η = fc.val i
  | [], fs, h => by simp only [constFCs] at h; injection h with h; subst h; exact ⟨rfl, fun j fc i η hj => by simp at hj⟩
  | v :: r, fs, h => by
    unfold constFCs at h
    split at h
    · rename_i heq; cases heq
    · rename_i k n r' heq
      injection heq with e1 e2; subst e1; subst e2
      split at h
      · rename_i l hl
        injection h with h; subst h
        obtain ⟨a, b⟩ := constFCs_get hl
        refine ⟨by simp [a], fun j fc i η hj => ?_⟩
        cases j with
        | zero => simp at hj; subst hj; exact ⟨_, rfl, rfl, rfl⟩
        | succ j => simp at hj; obtain ⟨v, c1, c2, c3⟩ := b j fc i η hj; exact ⟨v, by simpa using c1, c2, c3⟩
      · cases h
    · rename_i n r' heq
      injection heq with e1 e2; subst e1; subst e2
      split at h
      · rename_i l hl
        injection h with h; subst h
        obtain ⟨a, b⟩ := constFCs_get hl
        refine ⟨by simp [a], fun j fc i η hj => ?_⟩
        cases j with
        | zero => simp at hj; subst hj; exact ⟨_, rfl, rfl, rfl⟩
        | succ j => simp at hj; obtain ⟨v, c1, c2, c3⟩ := b j fc i η hj; exact ⟨v, by simpa using c1, c2, c3⟩
      · cases h
    · rename_i n r' heq
      injection heq with e1 e2; subst e1; subst e2
      split at h
      · rename_i l hl
        injection h with h; subst h
        obtain ⟨a, b⟩ := constFCs_get hl
        refine ⟨by simp [a], fun j fc i η hj => ?_⟩
        cases j with
        | zero => simp at hj; subst hj; exact ⟨_, rfl, rfl, rfl⟩
        | succ j => simp at hj; obtain ⟨v, c1, c2, c3⟩ := b j fc i η hj; exact ⟨v, by simpa using c1, c2, c3⟩
      · cases h
    · cases h

theorem sMakeSlice_sound {P : Program} {n : Nat} {t : TypeId} {len cap : SV} {K : SV → Option SBk → Prop} (h : sMakeSlice P n t len cap K) :
    ∃ v b, K v (some b) ∧ v.isAny = false ∧ ∀ (w : World) (η : Nat → Nat), ∃ o, b.Rel η o ∧ (Instr.makeSlice t (len.den η) (cap.den η)).run P w = .ok (v.den (upd η n w.heap.size)) (w.alloc o) := by
  unfold sMakeSlice at h
  split at h
  · rename_i e hu
    split at h
    · rename_i z zv by_ l c hz hzv hby hl hc
      split at h
      · rename_i h1 h2 h3 h4
        refine ⟨_, _, h, rfl, fun w η => ?_⟩
        have h4 := Nat.eq_of_beq_eq_true h4
        have hz0 : z ≠ 0 := Nat.ne_of_beq_eq_false h1
        have h2 := Nat.le_of_ble_eq_true h2
        have h3 := Nat.le_of_ble_eq_true h3
        obtain ⟨k1, e1, hl6⟩ := litNat_sound hl η
        obtain ⟨k2, e2, hc6⟩ := litNat_sound hc η
        have hz' : LRel η (ofValA zv).cellsL zv.cells := by have := cells_den (ofValA_ne_any zv) η; rwa [den_ofValA] at this
        have hr := LRel.repl hz' (by omega) c
        rw [h4] at hr
        refine ⟨.cells _ e, ⟨_, _, hr.toT, FzOk.zero, rfl⟩, ?_⟩
        have hbc : by_ * c ≤ 4294967296 := Nat.le_trans (Nat.mul_le_mul h3 (show c ≤ 65536 by omega)) (by decide)
        have hbc' : (by_ : Int) * (c : Int) ≤ 4294967296 := by rw [← Int.natCast_mul]; omega
        rw [e1, e2, run_make hu hz hzv hby h4 k1 k2 h2 (by omega) (by omega) w]
        simp only [SV.den, SN.den, upd_same]
      · cases h
    · rename_i o1 o2 z zv by_ hz hzv hby hcon
      split at h
      · rename_i k1 l k2 c fs hfs h1 h4
        obtain ⟨⟨h0, rfl, hb1, hb2⟩, h⟩ := h
        refine ⟨_, _, h, rfl, fun w η => ?_⟩
        have h4 := Nat.eq_of_beq_eq_true h4
        have hz0 : z ≠ 0 := Nat.ne_of_beq_eq_false h1
        obtain ⟨L, rfl⟩ := Int.eq_ofNat_of_zero_le h0
        obtain ⟨c1, c2⟩ := constFCs_get hfs
        have hz' : LRel η (ofValA zv).cellsL zv.cells := by have := cells_den (ofValA_ne_any zv) η; rwa [den_ofValA] at this
        have hsz : zv.cells.size = z := by rw [hz'.1, h4]
        refine ⟨.cells ((Array.range (L * z)).map (zv.cells[· % zv.cells.size]!)) e, ⟨_, _, ⟨h0, ?_, ?_⟩, FzOk.zero, rfl⟩, ?_⟩
        · simp [ST.ok, c1, h4]
        · intro i j fc hi hj
          have hjz : j < z := by have := (List.getElem?_eq_some_iff.1 hj).1; omega
          obtain ⟨v, d1, d2, d3⟩ := c2 j fc (i : Int) η hj
          have hlt : i * fs.length + j < L * z := by
            rw [c1, h4]
            have : (i + 1) * z ≤ L * z := Nat.mul_le_mul_right _ (by simp at hi; omega)
            rw [Nat.add_mul] at this; omega
          have hm : (i * fs.length + j) % z = j := by rw [c1, h4, Nat.mul_comm, Nat.mul_add_mod, Nat.mod_eq_of_lt hjz]
          simp only [Array.getElem?_map, Array.getElem?_range, hlt, if_true, Option.map_some, hsz, hm]
          rcases hz'.2 j v d1 with e' | e'
          · rw [e'] at d2; cases d2
          · rw [getElem!_pos _ j (by omega)]
            rw [Array.getElem?_eq_getElem (by omega)] at e'
            rw [← d3]; exact e'
        · show (Instr.makeSlice t (.int k1 L) (.int k2 L)).run P w = _
          have hb1' : (by_ : Int) * (L : Int) ≤ 281474976710656 := by rw [Int.mul_comm]; omega
          rw [run_make hu hz hzv hby h4 k1 k2 (Nat.le_refl _) (by omega) hb1' w]
          simp [SV.den, SN.den, upd_same]
      · cases h
    · cases h
  · cases h

end Go.Sx
