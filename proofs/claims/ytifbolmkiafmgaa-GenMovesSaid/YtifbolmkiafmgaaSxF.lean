import Derived.Test.YtifbolmkiafmgaaSxB
import Derived.Laws.StructEq
import Derived.Lib.Builder
set_option linter.unusedSimpArgs false
set_option linter.unusedVariables false
namespace Go.Sx

section
variable {P : Program} {w : World} {t : TypeId}

theorem run_und {d : TypeDesc} (h : P.underlying t = some d) : (underlying t).run P w = .ok d w := by
  simp [underlying, program, Sem.run, h, bind, Sem.bind, pure]
theorem run_szOf {n : Nat} (h : szOf P t = some n) : (sizeOf t).run P w = .ok n w := by
  unfold szOf at h
  split at h
  · rename_i i hi; injection h with h; subst h
    simp [sizeOf, typeInfo, program, Sem.run, hi, bind, Sem.bind, pure]
  · cases h
theorem run_bytesOf {n : Nat} (h : bytesOf P t = some n) : ∃ i, (typeInfo t).run P w = .ok i w ∧ i.bytes = n := by
  unfold bytesOf at h
  split at h
  · rename_i i hi; injection h with h
    exact ⟨i, by simp [typeInfo, program, Sem.run, hi, bind, Sem.bind, pure], h⟩
  · cases h
theorem run_zeroOf {z : Value} (h : zeroOf P t = some z) : (zeroValue t).run P w = .ok z w := by
  unfold zeroOf at h
  split at h
  · rename_i i hi
    simp [zeroValue, typeInfo, program, Sem.run, hi, h, bind, Sem.bind, pure]
  · cases h
theorem run_aggOf {b : Bool} (h : aggOf P t = some b) : (isAgg t).run P w = .ok b w := by
  unfold aggOf at h
  simp only [isAgg, bind, Sem.run_bind']
  split at h <;> first | (cases h; done) | skip
  · rename_i fs hu; injection h with h; subst h; rw [run_und hu]; simp [pure, Sem.run]
  · rename_i n e hu; injection h with h; subst h; rw [run_und hu]; simp [pure, Sem.run]
  · rename_i d h1 h2 hu; injection h with h; subst h; rw [run_und hu]
    cases d <;> simp_all [pure, Sem.run]
end

theorem let2_sound {k : IntKind} {f : Int → Int → Int} {a b : SI} {K : SV → Prop} (h : let2 k f a b K) :
    ∃ s : SI, K (.int k s) ∧ s.val = f a.val b.val := by
  unfold let2 at h
  split at h
  · exact ⟨_, h, rfl⟩
  all_goals exact ⟨_, h _ rfl, rfl⟩
theorem letB2_sound {f : Int → Int → Bool} {a b : SI} {K : SV → Prop} (h : letB2 f a b K) :
    ∃ s : SB, K (.bool s) ∧ s.val = f a.val b.val := by
  unfold letB2 at h
  split at h
  · exact ⟨_, h, rfl⟩
  all_goals exact ⟨_, h _ rfl, rfl⟩
theorem owe_sound {f : Int → Bool} {a : SI} {X : Prop} (h : owe f a X) : f a.val = true ∧ X := by
  unfold owe at h
  split at h
  · split at h
    · exact ⟨by assumption, h⟩
    · cases h
  · exact h

theorem sInt_sound {op : BinOp} {k k' : IntKind} {a b : SI} {K : SV → Prop} (h : sInt op k a k' b K) :
    ∃ v, K v ∧ v.isAny = false ∧ ∀ (P : Program) (w : World) (t : TypeId) (η : Nat → Nat), (binOp op t (.int k a.val) (.int k' b.val)).run P w = .ok (v.den η) w := by
  unfold sInt at h
  split at h
  · obtain ⟨h0, h⟩ := owe_sound h
    obtain ⟨s, hs, e⟩ := let2_sound h
    have h0 : 0 ≤ b.val := of_decide_eq_true h0
    exact ⟨_, hs, rfl, fun P w t η => by simp [binOp, Op.shift, show ¬ b.val < 0 by omega, pure, Sem.run, SV.den, e, shlI]⟩
  · obtain ⟨h0, h⟩ := owe_sound h
    obtain ⟨s, hs, e⟩ := let2_sound h
    have h0 : 0 ≤ b.val := of_decide_eq_true h0
    exact ⟨_, hs, rfl, fun P w t η => by simp [binOp, Op.shift, show ¬ b.val < 0 by omega, pure, Sem.run, SV.den, e, shrI]⟩
  · split at h
    · cases h
    · rename_i hk
      have hk := of_decide_eq_true hk
      subst hk
      split at h
      case h_1 => obtain ⟨s, hs, e⟩ := let2_sound h; exact ⟨_, hs, rfl, fun P w t η => by simp [binOp, Op.intArith, pure, Sem.run, SV.den, e]⟩
      case h_2 => obtain ⟨s, hs, e⟩ := let2_sound h; exact ⟨_, hs, rfl, fun P w t η => by simp [binOp, Op.intArith, pure, Sem.run, SV.den, e]⟩
      case h_3 => obtain ⟨s, hs, e⟩ := let2_sound h; exact ⟨_, hs, rfl, fun P w t η => by simp [binOp, Op.intArith, pure, Sem.run, SV.den, e]⟩
      case h_4 =>
        obtain ⟨h0, h⟩ := owe_sound h; obtain ⟨s, hs, e⟩ := let2_sound h
        exact ⟨_, hs, rfl, fun P w t η => by simp at h0; simp [binOp, Op.intDiv, h0, pure, Sem.run, SV.den, e]⟩
      case h_5 =>
        obtain ⟨h0, h⟩ := owe_sound h; obtain ⟨s, hs, e⟩ := let2_sound h
        exact ⟨_, hs, rfl, fun P w t η => by simp at h0; simp [binOp, Op.intDiv, h0, pure, Sem.run, SV.den, e]⟩
      case h_6 => obtain ⟨s, hs, e⟩ := let2_sound h; exact ⟨_, hs, rfl, fun P w t η => by simp [binOp, Op.intBits, pure, Sem.run, SV.den, e, bitI]⟩
      case h_7 => obtain ⟨s, hs, e⟩ := let2_sound h; exact ⟨_, hs, rfl, fun P w t η => by simp [binOp, Op.intBits, pure, Sem.run, SV.den, e, bitI]⟩
      case h_8 => obtain ⟨s, hs, e⟩ := let2_sound h; exact ⟨_, hs, rfl, fun P w t η => by simp [binOp, Op.intBits, pure, Sem.run, SV.den, e, bitI]⟩
      case h_9 => obtain ⟨s, hs, e⟩ := let2_sound h; exact ⟨_, hs, rfl, fun P w t η => by simp [binOp, Op.intBits, pure, Sem.run, SV.den, e, bitI]⟩
      case h_16 => cases h
      all_goals (obtain ⟨s, hs, e⟩ := letB2_sound h; exact ⟨_, hs, rfl, fun P w t η => by simp [binOp, Op.intCmp, pure, Sem.run, SV.den, e]⟩)

theorem eqBs_eq : ∀ a b : List UInt8, eqBs a b = (a == b)
  | [], [] => rfl
  | [], b :: s => rfl
  | a :: r, [] => rfl
  | a :: r, b :: s => by
    have ih := eqBs_eq r s
    simp only [eqBs]
    by_cases e : a = b
    · subst e
      rw [show Nat.beq a.toNat a.toNat = true from Nat.beq_refl _]
      simp only [ih]
      simp
    · have h : Nat.beq a.toNat b.toNat = false := by
        rw [Bool.eq_false_iff]
        intro q
        exact e (UInt8.toNat_inj.1 (Nat.eq_of_beq_eq_true q))
      rw [h]
      simp [e]
theorem sStr_sound {op : BinOp} {a b : SS} {K : SV → Prop} (h : sStr op a b K) :
    ∃ v, K v ∧ v.isAny = false ∧ ∀ (P : Program) (w : World) (t : TypeId) (η : Nat → Nat), (binOp op t (.string a.val) (.string b.val)).run P w = .ok (v.den η) w := by
  unfold sStr at h
  split at h
  · obtain ⟨h0, h⟩ := h
    have key : ∀ (P : Program) (w : World) (t : TypeId), (binOp .add t (.string a.val) (.string b.val)).run P w = .ok (.string (a.val ++ b.val)) w := by
      intro P w t
      have : ¬ ((a.val.size + b.val.size : Nat) : Int) > IntKind.i64.max := by
        have e : IntKind.i64.max = 9223372036854775807 := by decide
        rw [e]; omega
      simp only [binOp, Op.stringOp, this, if_false, pure, Sem.run]
    split at h
    · exact ⟨_, h, rfl, fun P w t η => key P w t⟩
    · exact ⟨.str (.sym (a.val ++ b.val)), h _ rfl, rfl, fun P w t η => key P w t⟩
  · split at h
    · rename_i x y
      have e : (x == y) = eqBs x.data.toList y.data.toList := by
        rw [eqBs_eq, beq_toListBytes, ByteArray.toList_eq, ByteArray.toList_eq]
      split at h
      · rename_i hq
        exact ⟨.bool (.lit true), h, rfl, fun P w t η => by
          rw [hq] at e
          simp [binOp, Op.stringOp, pure, Sem.run, SV.den, SB.val, SS.val, ← beq_toListBytes, e]⟩
      · rename_i hq
        exact ⟨.bool (.lit false), h, rfl, fun P w t η => by
          rw [hq] at e
          simp [binOp, Op.stringOp, pure, Sem.run, SV.den, SB.val, SS.val, ← beq_toListBytes, e]⟩
    · exact ⟨.bool (.sym (a.val == b.val)), h _ rfl, rfl, fun P w t η => by simp [binOp, Op.stringOp, pure, Sem.run, SV.den, SB.val, beq_toListBytes]⟩
  · exact ⟨.bool (.sym (!(a.val == b.val))), h _ rfl, rfl, fun P w t η => by simp [binOp, Op.stringOp, pure, Sem.run, SV.den, SB.val, beq_toListBytes]⟩
  · cases h

theorem dens_take_drop (η : Nat → Nat) (cs : List SV) (o n : Nat) : (SV.dens η cs).toArray.extract o (o + n) = (SV.dens η ((cs.drop o).take n)).toArray := by
  rw [dens_map, dens_map]
  simp

theorem run_part {P : Program} {t : TypeId} {cs : List SV} {off : Nat} {v : SV} (h : sPart P t cs off = some v) (η : Nat → Nat) (w : World) :
    (part t (SV.dens η cs).toArray off).run P w = .ok (v.den η) w := by
  unfold sPart at h
  split at h
  · rename_i n ha hs
    split at h
    · injection h with h; subst h
      simp only [part, bind, Sem.run_bind', run_aggOf ha, Result.andThen_ok, if_true, run_szOf hs, pure, Sem.run, SV.den]
      rw [dens_take_drop]
    · cases h
  · rename_i hs ha
    split at h
    · cases h
    · rename_i hv
      injection h with h; subst h
      have hg : (SV.dens η cs).toArray[off]? = some ((nth cs off).den η) := by
        have : LRel η cs (SV.dens η cs).toArray := LRel.of_dens
        exact this.nth rfl hv
      simp only [part, bind, Sem.run_bind', run_aggOf ‹aggOf P t = some false›, Result.andThen_ok, Bool.false_eq_true, if_false, hg, pure, Sem.run]
  · cases h

theorem eqFs_sound {P : Program} {d : Nat} {rec : TypeId → SV → SV → Option Bool} {η : Nat → Nat}
    (hrec : ∀ t x y r, rec t x y = some r → ∀ w, (Op.equalIn d t (x.den η) (y.den η)).run P w = .ok r w) {xs ys : List SV} :
    ∀ (fs : List Field) (r : Bool), eqFs P rec xs ys fs = some r → ∀ w, (Op.eqFields d (SV.dens η xs).toArray (SV.dens η ys).toArray fs).run P w = .ok r w
  | [], r, h, w => by simp only [eqFs] at h; injection h with h; subst h; simp [Op.eqFields, pure, Sem.run]
  | f :: fs, r, h, w => by
    simp only [eqFs] at h
    split at h
    · rename_i hn
      have hn := of_decide_eq_true hn
      simp only [Op.eqFields, hn, ne_eq, not_true, if_false]
      exact eqFs_sound hrec fs r h w
    · rename_i hn
      have hn := of_decide_eq_false hn
      split at h
      · rename_i a b ha hb
        split at h
        · rename_i r1 s1 hr hs
          injection h with h; subst h
          simp only [Op.eqFields, ne_eq, hn, not_false_iff, if_true, bind, Sem.run_bind', run_part ha, run_part hb, Result.andThen_ok, hrec _ _ _ _ hr]
          cases r1
          · simp [pure, Sem.run]
          · simp only [Bool.not_true, Bool.false_eq_true, if_false, Bool.true_and]
            exact eqFs_sound hrec fs s1 hs w
        · cases h
      · cases h

theorem eqAs_sound {P : Program} {d : Nat} {e : TypeId} {n : Nat} {rec : SV → SV → Option Bool} {η : Nat → Nat}
    (hrec : ∀ x y r, rec x y = some r → ∀ w, (Op.equalIn d e (x.den η) (y.den η)).run P w = .ok r w) {xs ys : List SV} :
    ∀ (m i : Nat) (r : Bool), eqAs P rec e n xs ys i m = some r → ∀ w,
      (forIn (m := Sem) (List.range' i m) ((none, ()) : Option Bool × Unit) fun i _ => do
        let a ← part e (SV.dens η xs).toArray (i * n)
        let b ← part e (SV.dens η ys).toArray (i * n)
        let q ← Op.equalIn d e a b
        if (!q) = true then pure (ForInStep.done (some false, ())) else pure (ForInStep.yield (none, ()))).run P w
        = .ok (if r then (none, ()) else (some false, ())) w
  | 0, i, r, h, w => by simp only [eqAs] at h; injection h with h; subst h; simp [pure, Sem.run]
  | m + 1, i, r, h, w => by
    simp only [eqAs] at h
    split at h
    · rename_i a b ha hb
      split at h
      · rename_i r1 s1 hr hs
        injection h with h; subst h
        have ih := eqAs_sound hrec m (i + 1) s1 hs w
        simp only [List.range'_succ, List.forIn_cons]
        simp only [bind, Sem.run_bind', run_part ha, run_part hb, Result.andThen_ok, hrec _ _ _ hr]
        cases r1
        · simp [pure, Sem.run]
        · simp only [Bool.not_true, Bool.false_eq_true, if_false, Bool.true_and, pure, Sem.run, Result.andThen_ok]
          exact ih
      · cases h
    · cases h

theorem sEqv_sound {P : Program} {η : Nat → Nat} : ∀ (d : Nat) (t : TypeId) (x y : SV) (r : Bool), sEqv P d t x y = some r →
    ∀ w, (Op.equalIn d t (x.den η) (y.den η)).run P w = .ok r w
  | 0, t, x, y, r, h, w => by simp [sEqv] at h
  | d + 1, t, x, y, r, h, w => by
    simp only [sEqv] at h
    split at h
    · rename_i k0 k a k' b hu
      split at h
      · rename_i hk; have hk := of_decide_eq_true hk; subst hk
        injection h with h; subst h
        exact run_equalIn_int w d t _ _ _ _ hu
      · cases h
    · rename_i a b hu; injection h with h; subst h; exact run_equalIn_bool' w d t _ _ hu
    · rename_i a b hu; injection h with h; subst h
      simp only [SV.den]; rw [run_equalIn_string w d t _ _ hu, beq_toListBytes]
    · rename_i fs xs ys hu
      split at h
      · cases h
      · rename_i hst
        have hf : P.fieldsOf t = fs := by simp [Program.fieldsOf, hu]
        simp only [SV.den]
        rw [run_equalIn_struct w d t _ _ (by rw [hf]; exact hu) hst, hf]
        exact eqFs_sound (fun t x y r hr w => sEqv_sound d t x y r hr w) _ _ h w
    · rename_i n e xs ys hu
      split at h
      · rename_i z hz
        have := eqAs_sound (P := P) (d := d) (e := e) (n := z) (η := η) (fun x y r hr w => sEqv_sound d e x y r hr w) n 0 r h w
        simp only [SV.den, Op.equalIn, bind, Sem.run_bind', run_und hu, Result.andThen_ok, run_szOf hz]
        have hfi : ∀ (f : Nat → Option Bool × Unit → Sem (ForInStep (Option Bool × Unit))), (forIn (m := Sem) [0:n] ((none, ()) : Option Bool × Unit) f) = forIn (List.range' 0 n) (none, ()) f := by
          intro f; rw [Std.Legacy.Range.forIn_eq_forIn_range']; simp [Std.Legacy.Range.size]
        simp only [bind] at this
        rw [hfi, this]
        cases r <;> simp [pure, Sem.run]
      · cases h
    · cases h

end Go.Sx
set_option linter.unusedSimpArgs false
set_option linter.unusedVariables false
namespace Go.Sx

theorem den_ofVal (v : Value) (η : Nat → Nat) : (ofVal v).den η = v := by
  unfold ofVal; split <;> simp [SV.den, SB.val_lit]
theorem ofVal_ne_any (v : Value) : (ofVal v).isAny = false := by
  unfold ofVal; split <;> rfl
theorem dens_ofVal (η : Nat → Nat) : ∀ l : List Value, SV.dens η (l.map ofVal) = l
  | [] => rfl
  | v :: r => by simp only [List.map_cons, SV.dens, den_ofVal, dens_ofVal η r]
theorem den_ofValA (v : Value) (η : Nat → Nat) : (ofValA v).den η = v := by
  unfold ofValA
  split
  · simp only [SV.den, dens_ofVal]
  · exact den_ofVal _ _
theorem ofValA_ne_any (v : Value) : (ofValA v).isAny = false := by
  unfold ofValA; split <;> first | rfl | exact ofVal_ne_any _

theorem LRel.one {η : Nat → Nat} {v : SV} : LRel η [v] #[v.den η] :=
  ⟨rfl, fun i u hu => by
    cases i with
    | zero => simp at hu; subst hu; right; rfl
    | succ i => simp at hu⟩

theorem cells_den {v : SV} (h : v.isAny = false) (η : Nat → Nat) : LRel η v.cellsL (v.den η).cells := by
  cases v with
  | any => cases h
  | agg cs => exact LRel.of_dens
  | val x =>
    show LRel η (x.cells.toList.map SV.val) x.cells
    refine ⟨by simp, fun i u hu => ?_⟩
    simp only [List.getElem?_map, Option.map_eq_some_iff] at hu
    obtain ⟨y, hy, rfl⟩ := hu
    right
    simpa [SV.den] using hy
  | _ => exact LRel.one

theorem LRel.spl {η : Nat → Nat} (off : Nat) : ∀ (xs : List SV) (a : List Value) (k : Nat) {cs : List SV} {c : Array Value}, xs.length = a.length → (∀ (i : Nat) (v : SV), xs[i]? = some v → v = SV.any ∨ a[i]? = some (v.den η)) →
    LRel η cs c → LRel η (Sx.spl cs (off + k) xs) ((a.zipIdx k).foldl (fun cs p => cs.setIfInBounds (off + p.2) p.1) c)
  | [], [], k, cs, c, _, _, h => h
  | x :: xs, y :: a, k, cs, c, hl, hx, h => by
    simp only [Sx.spl, List.zipIdx_cons, List.foldl_cons]
    have h0 : x = SV.any ∨ y = x.den η := by simpa using hx 0 x rfl
    exact LRel.spl off xs a (k + 1) (by simpa using hl) (fun i v hv => by simpa using hx (i + 1) v (by simpa using hv)) (h.put (off + k) h0)
  | [], _ :: _, _, _, _, hl, _, _ => by simp at hl
  | _ :: _, [], _, _, _, hl, _, _ => by simp at hl

theorem noAny_iff : ∀ {l : List SV}, noAny l = true → ∀ v ∈ l, v.isAny = false
  | [], _, v, hv => by cases hv
  | x :: r, h, v, hv => by
    simp only [noAny] at h
    split at h
    · cases h
    · rcases List.mem_cons.1 hv with rfl | hv
      · assumption
      · exact noAny_iff h v hv

theorem allScalar_iff : ∀ {l : List SV}, allScalar l = true → ∀ v ∈ l, v.scalar = true
  | [], _, v, hv => by cases hv
  | x :: r, h, v, hv => by
    simp only [allScalar] at h
    split at h
    · rcases List.mem_cons.1 hv with rfl | hv
      · assumption
      · exact allScalar_iff h v hv
    · cases h
theorem scalar_ne_any {v : SV} (h : v.scalar = true) : v.isAny = false := by cases v <;> first | rfl | cases h

theorem LRel.eq_dens {η : Nat → Nat} {l : List SV} {a : Array Value} (h : LRel η l a) (hn : ∀ v ∈ l, v.isAny = false) : a = (SV.dens η l).toArray := by
  apply Array.ext_getElem?
  intro i
  by_cases hi : i < l.length
  · have hl : l[i]? = some l[i] := List.getElem?_eq_getElem hi
    rcases h.2 i _ hl with e | e
    · have := hn l[i] (List.getElem_mem hi); rw [e] at this; cases this
    · rw [e]; simp [dens_get, hl]
  · rw [Array.getElem?_eq_none (by rw [h.1]; omega), Array.getElem?_eq_none (by simp; omega)]

theorem spl_length : ∀ (xs : List SV) (cs : List SV) (o : Nat), (spl cs o xs).length = cs.length
  | [], cs, o => rfl
  | x :: xs, cs, o => by simp only [spl, spl_length xs, put_length]

theorem fillS_sound {η : Nat → Nat} {place : Nat → Option (Nat × Nat)} : ∀ (ps : List (Nat × SV)) {cs cs' : List SV} {c : Array Value}, fillS place cs ps = some cs' → LRel η cs c →
    ∃ c', Instr.fill place c (ps.map fun p => (p.1, p.2.den η)) = some c' ∧ LRel η cs' c'
  | [], cs, cs', c, h, hc => by simp only [fillS] at h; injection h with h; subst h; exact ⟨c, rfl, hc⟩
  | (i, v) :: rest, cs, cs', c, h, hc => by
    simp only [fillS] at h
    split at h
    · cases h
    · rename_i off size hp
      split at h
      · rename_i h1 h2 h3
        have h1 := Nat.eq_of_beq_eq_true h1
        have h2 := Nat.le_of_ble_eq_true h2
        have hne : v.isAny = false := by
          cases v with
          | any => simp [SV.cellsL, allScalar, SV.scalar] at h3
          | _ => rfl
        have hcells := cells_den hne η
        have hsz : (v.den η).cells.size = v.cellsL.length := hcells.1
        have hspl := LRel.spl (η := η) off v.cellsL (v.den η).cells.toList 0 (by rw [Array.length_toList]; exact hsz.symm) (fun j u hu => by have := hcells.2 j u hu; simpa using this) hc
        have hfold : (v.den η).cells.zipIdx.foldl (fun cs p => cs.setIfInBounds (off + p.2) p.1) c = ((v.den η).cells.toList.zipIdx 0).foldl (fun cs p => cs.setIfInBounds (off + p.2) p.1) c := by
          rw [← Array.foldl_toList]; simp
        simp only [Nat.add_zero] at hspl
        rw [← hfold] at hspl
        obtain ⟨c', h4, h5⟩ := fillS_sound rest h hspl
        refine ⟨c', ?_, h5⟩
        simp only [List.map_cons, Instr.fill, hp]
        rw [if_neg]
        · exact h4
        · simp only [hsz, hc.1, Bool.or_eq_true, decide_eq_true_eq, ne_eq]; omega
      · cases h

theorem placesOf_sound {P : Program} {w : World} : ∀ (fs : List Field) {l : List (Nat × Nat)}, placesOf P fs = some l → (fs.mapM (m := Sem) fun f => do pure (f.offset, ← sizeOf f.type)).run P w = .ok l w
  | [], l, h => by simp only [placesOf] at h; injection h with h; subst h; simp [pure, Sem.run]
  | f :: r, l, h => by
    simp only [placesOf] at h
    split at h
    · rename_i z l' hz hl
      injection h with h; subst h
      have ih := placesOf_sound (w := w) r hl
      simp only [List.mapM_cons, bind, Sem.run_bind', run_szOf hz, Result.andThen_ok, pure, Sem.run]
      simp only [bind, pure] at ih
      rw [ih]; simp [Sem.run]
    · cases h

theorem sBuild_sound {P : Program} {t : TypeId} {ps : List (Nat × SV)} {K : SV → Prop} (h : sBuild P t ps K) :
    ∃ v, K v ∧ v.isAny = false ∧ ∀ (w : World) (η : Nat → Nat), (Instr.build t (ps.map fun p => (p.1, p.2.den η)).toArray).run P w = .ok (v.den η) w := by
  unfold sBuild at h
  split at h
  · rename_i z fs hz hu
    split at h
    · rename_i pl hpl
      split at h
      · rename_i cs hcs
        split at h
        case h_2 => cases h
        rename_i hn
        refine ⟨_, h, rfl, fun w η => ?_⟩
        have hz' : LRel η (ofValA z).cellsL z.cells := by have := cells_den (ofValA_ne_any z) η; rwa [den_ofValA] at this
        obtain ⟨c', hf, hr⟩ := fillS_sound ps hcs hz'
        have hm : (fs.mapM (m := Sem) fun f => do pure (f.offset, ← sizeOf f.type)).run P w = .ok pl.toArray w := by
          have := placesOf_sound (P := P) (w := w) fs.toList hpl
          rw [Array.mapM_eq_mapM_toList, Sem.run_map, this]; simp
        simp only [bind, Sem.run_bind', pure] at hm
        simp only [Instr.build, bind, Sem.run_bind', run_zeroOf hz, run_und hu, Result.andThen_ok, hm, pure]
        have e : (fun x : Nat => pl.toArray[x]?) = (fun i : Nat => pl[i]?) := by funext i; simp
        simp only [e, hf]
        rw [hr.eq_dens (noAny_iff hn)]
        simp [pure, Sem.run, SV.den]
      · cases h
    · cases h
  · rename_i z n e hz hu
    split at h
    · rename_i m hm
      split at h
      · rename_i cs hcs
        split at h
        case h_2 => cases h
        rename_i hn
        refine ⟨_, h, rfl, fun w η => ?_⟩
        have hz' : LRel η (ofValA z).cellsL z.cells := by have := cells_den (ofValA_ne_any z) η; rwa [den_ofValA] at this
        obtain ⟨c', hf, hr⟩ := fillS_sound ps hcs hz'
        simp only [Instr.build, bind, Sem.run_bind', run_zeroOf hz, run_und hu, Result.andThen_ok, run_szOf hm, hf, hr.eq_dens (noAny_iff hn), pure, Sem.run, SV.den]
      · cases h
    · cases h
  · cases h

theorem repl_length (z : List SV) : ∀ n, (repl z n).length = n * z.length
  | 0 => by simp [repl]
  | n + 1 => by simp [repl, repl_length z n, Nat.succ_mul]; omega

theorem repl_get (z : List SV) (hz : z.length ≠ 0) : ∀ (n i : Nat), i < n * z.length → (repl z n)[i]? = z[i % z.length]?
  | 0, i, h => by omega
  | n + 1, i, h => by
    simp only [repl]
    by_cases hi : i < z.length
    · rw [List.getElem?_append_left hi, Nat.mod_eq_of_lt hi]
    · rw [List.getElem?_append_right (by omega), repl_get z hz n (i - z.length) (by rw [Nat.succ_mul] at h; omega)]
      congr 1
      rw [Nat.mod_eq_sub_mod (a := i) (by omega)]

theorem LRel.repl {η : Nat → Nat} {z : List SV} {a : Array Value} (h : LRel η z a) (hz : z.length ≠ 0) (n : Nat) : LRel η (Sx.repl z n) ((Array.range (n * z.length)).map (a[· % a.size]!)) := by
  refine ⟨by simp [repl_length], fun i v hv => ?_⟩
  have hi : i < n * z.length := by
    have := (List.getElem?_eq_some_iff.1 hv).1
    rwa [repl_length] at this
  rw [repl_get z hz n i hi] at hv
  rcases h.2 _ v hv with e | e
  · exact .inl e
  · right
    have hm : i % z.length < a.size := by rw [h.1]; exact Nat.mod_lt _ (by omega)
    simp only [Array.getElem?_map, Array.getElem?_range, hi, if_true, Option.map_some, h.1]
    rw [Array.getElem?_eq_getElem hm] at e
    rw [getElem!_pos a _ hm]
    exact e

theorem run_newRow {P : Program} {w : World} (e : TypeId) (cs : Array Value) : (newRow e cs).run P w = .ok ⟨w.heap.size, 0, none⟩ (w.alloc (.cells cs e)) := by
  rfl

theorem map_range_zero (f : Nat → Value) : Array.map f (Array.range 0) = #[] := by simp [Array.range]

theorem sBuildSlice_sound {P : Program} {n : Nat} {t : TypeId} {len : Nat} {ps : List (Nat × SV)} {K : SV → Option SBk → Prop} (h : sBuildSlice P n t len ps K) :
    ∃ b, K (.slice n 0 len (.lit len)) (some b) ∧ ∀ (w : World) (η : Nat → Nat), ∃ o, b.Rel η o ∧ (Instr.buildSlice t len (ps.map fun p => (p.1, p.2.den η)).toArray).run P w = .ok (.slice (some ⟨w.heap.size, 0, none⟩) len len) (w.alloc o) := by
  unfold sBuildSlice at h
  split at h
  · rename_i e hu
    split at h
    · rename_i z zv hz hzv
      split at h
      · rename_i h1 h2 h3
        split at h
        · rename_i cs hcs
          refine ⟨_, h, fun w η => ?_⟩
          have h3 := Nat.eq_of_beq_eq_true h3
          have hz0 : z ≠ 0 := Nat.ne_of_beq_eq_false h1
          have h2 := Nat.le_of_ble_eq_true h2
          have hz' : LRel η (ofValA zv).cellsL zv.cells := by have := cells_den (ofValA_ne_any zv) η; rwa [den_ofValA] at this
          have hr := LRel.repl hz' (by omega) len
          obtain ⟨c', hf, hr'⟩ := fillS_sound ps hcs hr
          rw [h3] at hf
          refine ⟨.cells c' e, ⟨c', _, hr'.toT, FzOk.zero, rfl⟩, ?_⟩
          have hb : ¬ (len * z > 2 ^ 24) := by omega
          by_cases hlz : len * z = 0
          · have hl : len = 0 := by rcases Nat.mul_eq_zero.1 hlz with h | h <;> omega
            subst hl
            simp only [Instr.buildSlice, bind, Sem.run_bind', run_und hu, Result.andThen_ok, run_szOf hz, hb, if_false, pure, Sem.run, hlz, if_true, run_zeroOf hzv]
            simp only [Nat.zero_mul, map_range_zero] at hf ⊢
            simp only [hf, show ¬ (0 > 2 ^ 24) by omega, if_false, Sem.run_bind', run_newRow, Result.andThen_ok, Sem.run]
          · simp only [Instr.buildSlice, bind, Sem.run_bind', run_und hu, Result.andThen_ok, run_szOf hz, hb, if_false, pure, Sem.run, hlz, run_zeroOf hzv, hf, run_newRow]
        · cases h
      · cases h
    · cases h
  · cases h

theorem wrap64_small (n : Int) (h0 : 0 ≤ n) (h1 : n < 9223372036854775808) : IntKind.i64.wrap n = n := by
  have e : (2 : Int) ^ IntKind.i64.bits = 18446744073709551616 := by decide
  have e1 : (2 : Int) ^ (IntKind.i64.bits - 1) = 9223372036854775808 := by decide
  simp only [IntKind.wrap, e, e1, IntKind.signed, Bool.true_and]
  rw [Int.emod_eq_of_lt h0 (by omega), if_neg (by simp; omega)]

theorem litNat_sound {v : SV} {n : Nat} (h : litNat v = some n) (η : Nat → Nat) : ∃ k, v.den η = .int k (n : Int) ∧ n < 65536 := by
  unfold litNat at h
  split at h
  · rename_i k i
    split at h
    · rename_i hi; have hi := of_decide_eq_true hi; injection h with h; subst h
      exact ⟨k, by simp [SV.den, SI.val]; omega, by omega⟩
    · cases h
  · cases h

theorem run_make {P : Program} {t e : TypeId} {z by_ : Nat} {zv : Value} (hu : P.underlying t = some (.slice e)) (hz : szOf P e = some z) (hzv : zeroOf P e = some zv) (hby : bytesOf P e = some by_) (h4 : (ofValA zv).cellsL.length = z)
    (k1 k2 : IntKind) {l c : Nat} (hl : l ≤ c) (hc : c < 9223372036854775808) (hbc : (by_ : Int) * (c : Int) ≤ 281474976710656) (w : World) :
    (Instr.makeSlice t (.int k1 l) (.int k2 c)).run P w = .ok (.slice (some ⟨w.heap.size, 0, none⟩) l c) (w.alloc (.cells ((Array.range (c * z)).map (zv.cells[· % zv.cells.size]!)) e)) := by
  obtain ⟨i, hi, hib⟩ := run_bytesOf (P := P) (w := w) hby
  have w1 : IntKind.i64.wrap (l : Int) = l := wrap64_small _ (by omega) (by omega)
  have w2 : IntKind.i64.wrap (c : Int) = c := wrap64_small _ (by omega) (by omega)
  have g1 : ¬ ((c : Int) < 0) := by omega
  have g2 : ¬ ((l : Int) < 0) := by omega
  have g3 : ¬ ((l : Int) > (c : Int)) := by omega
  have g4 : ¬ ((by_ : Int) * (c : Int) > 2 ^ 48) := by
    have e : (2 : Int) ^ 48 = 281474976710656 := by decide
    rw [e]; omega
  simp only [Instr.makeSlice, bind, Sem.run_bind', run_und hu, Result.andThen_ok, asInt, asIntOf, pure, Sem.run, hi, hib, w1, w2]
  simp only [g1, g2, g3, g4, decide_false, Bool.or_false, Bool.false_or, Bool.false_eq_true, if_false, Int.toNat_natCast, Go.run_askRoom, Result.andThen_ok, Sem.run_bind', run_szOf hz]
  by_cases hcz : c * z = 0
  · simp only [hcz, if_true, Sem.run_bind', Result.andThen_ok, pure, Sem.run, run_newRow, map_range_zero]
  · simp only [hcz, if_false, Sem.run_bind', run_zeroOf hzv, Result.andThen_ok, pure, Sem.run, run_newRow]

theorem constFCs_get : ∀ {l : List SV} {fs : List FC}, constFCs l = some fs → fs.length = l.length ∧ ∀ (j : Nat) (fc : FC) (i : Int) (η : Nat → Nat), fs[j]? = some fc → ∃ v : SV, l[j]? = some v ∧ v.isAny = false ∧ v.den η = fc.val i
  | [], fs, h => by simp only [constFCs] at h; injection h with h; subst h; exact ⟨rfl, fun j fc i η hj => by simp at hj⟩
  | v :: r, fs, h => by
    unfold constFCs at h
    split at h
    · rename_i heq; cases heq
    · rename_i k n r' heq
      injection heq with e1 e2; subst e1; subst e2
      split at h
      · rename_i l hl
        injection h with h; subst h
        obtain ⟨a, b⟩ := constFCs_get hl
        refine ⟨by simp [a], fun j fc i η hj => ?_⟩
        cases j with
        | zero => simp at hj; subst hj; exact ⟨_, rfl, rfl, rfl⟩
        | succ j => simp at hj; obtain ⟨v, c1, c2, c3⟩ := b j fc i η hj; exact ⟨v, by simpa using c1, c2, c3⟩
      · cases h
    · rename_i n r' heq
      injection heq with e1 e2; subst e1; subst e2
      split at h
      · rename_i l hl
        injection h with h; subst h
        obtain ⟨a, b⟩ := constFCs_get hl
        refine ⟨by simp [a], fun j fc i η hj => ?_⟩
        cases j with
        | zero => simp at hj; subst hj; exact ⟨_, rfl, rfl, rfl⟩
        | succ j => simp at hj; obtain ⟨v, c1, c2, c3⟩ := b j fc i η hj; exact ⟨v, by simpa using c1, c2, c3⟩
      · cases h
    · rename_i n r' heq
      injection heq with e1 e2; subst e1; subst e2
      split at h
      · rename_i l hl
        injection h with h; subst h
        obtain ⟨a, b⟩ := constFCs_get hl
        refine ⟨by simp [a], fun j fc i η hj => ?_⟩
        cases j with
        | zero => simp at hj; subst hj; exact ⟨_, rfl, rfl, rfl⟩
        | succ j => simp at hj; obtain ⟨v, c1, c2, c3⟩ := b j fc i η hj; exact ⟨v, by simpa using c1, c2, c3⟩
      · cases h
    · cases h

theorem sMakeSlice_sound {P : Program} {n : Nat} {t : TypeId} {len cap : SV} {K : SV → Option SBk → Prop} (h : sMakeSlice P n t len cap K) :
    ∃ v b, K v (some b) ∧ v.isAny = false ∧ ∀ (w : World) (η : Nat → Nat), ∃ o, b.Rel η o ∧ (Instr.makeSlice t (len.den η) (cap.den η)).run P w = .ok (v.den (upd η n w.heap.size)) (w.alloc o) := by
  unfold sMakeSlice at h
  split at h
  · rename_i e hu
    split at h
    · rename_i z zv by_ l c hz hzv hby hl hc
      split at h
      · rename_i h1 h2 h3 h4
        refine ⟨_, _, h, rfl, fun w η => ?_⟩
        have h4 := Nat.eq_of_beq_eq_true h4
        have hz0 : z ≠ 0 := Nat.ne_of_beq_eq_false h1
        have h2 := Nat.le_of_ble_eq_true h2
        have h3 := Nat.le_of_ble_eq_true h3
        obtain ⟨k1, e1, hl6⟩ := litNat_sound hl η
        obtain ⟨k2, e2, hc6⟩ := litNat_sound hc η
        have hz' : LRel η (ofValA zv).cellsL zv.cells := by have := cells_den (ofValA_ne_any zv) η; rwa [den_ofValA] at this
        have hr := LRel.repl hz' (by omega) c
        rw [h4] at hr
        refine ⟨.cells _ e, ⟨_, _, hr.toT, FzOk.zero, rfl⟩, ?_⟩
        have hbc : by_ * c ≤ 4294967296 := Nat.le_trans (Nat.mul_le_mul h3 (show c ≤ 65536 by omega)) (by decide)
        have hbc' : (by_ : Int) * (c : Int) ≤ 4294967296 := by rw [← Int.natCast_mul]; omega
        rw [e1, e2, run_make hu hz hzv hby h4 k1 k2 h2 (by omega) (by omega) w]
        simp only [SV.den, SN.den, upd_same]
      · cases h
    · rename_i o1 o2 z zv by_ hz hzv hby hcon
      split at h
      · rename_i k1 l k2 c fs hfs h1 h4
        obtain ⟨⟨h0, rfl, hb1, hb2⟩, h⟩ := h
        refine ⟨_, _, h, rfl, fun w η => ?_⟩
        have h4 := Nat.eq_of_beq_eq_true h4
        have hz0 : z ≠ 0 := Nat.ne_of_beq_eq_false h1
        obtain ⟨L, rfl⟩ := Int.eq_ofNat_of_zero_le h0
        obtain ⟨c1, c2⟩ := constFCs_get hfs
        have hz' : LRel η (ofValA zv).cellsL zv.cells := by have := cells_den (ofValA_ne_any zv) η; rwa [den_ofValA] at this
        have hsz : zv.cells.size = z := by rw [hz'.1, h4]
        refine ⟨.cells ((Array.range (L * z)).map (zv.cells[· % zv.cells.size]!)) e, ⟨_, _, ⟨h0, ?_, ?_⟩, FzOk.zero, rfl⟩, ?_⟩
        · simp [ST.ok, c1, h4]
        · intro i j fc hi hj
          have hjz : j < z := by have := (List.getElem?_eq_some_iff.1 hj).1; omega
          obtain ⟨v, d1, d2, d3⟩ := c2 j fc (i : Int) η hj
          have hlt : i * fs.length + j < L * z := by
            rw [c1, h4]
            have : (i + 1) * z ≤ L * z := Nat.mul_le_mul_right _ (by simp at hi; omega)
            rw [Nat.add_mul] at this; omega
          have hm : (i * fs.length + j) % z = j := by rw [c1, h4, Nat.mul_comm, Nat.mul_add_mod, Nat.mod_eq_of_lt hjz]
          simp only [Array.getElem?_map, Array.getElem?_range, hlt, if_true, Option.map_some, hsz, hm]
          rcases hz'.2 j v d1 with e' | e'
          · rw [e'] at d2; cases d2
          · rw [getElem!_pos _ j (by omega)]
            rw [Array.getElem?_eq_getElem (by omega)] at e'
            rw [← d3]; exact e'
        · show (Instr.makeSlice t (.int k1 L) (.int k2 L)).run P w = _
          have hb1' : (by_ : Int) * (L : Int) ≤ 281474976710656 := by rw [Int.mul_comm]; omega
          rw [run_make hu hz hzv hby h4 k1 k2 (Nat.le_refl _) (by omega) hb1' w]
          simp [SV.den, SN.den, upd_same]
      · cases h
    · cases h
  · cases h

end Go.Sx
set_option linter.unusedSimpArgs false
set_option linter.unusedVariables false
namespace Go.Sx

theorem sUn_sound {op : UnOp} {x : SV} {K : SV → Prop} (h : sUn op x K) :
    ∃ v, K v ∧ v.isAny = false ∧ ∀ (P : Program) (w : World) (η : Nat → Nat), (Op.unary op (x.den η)).run P w = .ok (v.den η) w := by
  unfold sUn at h
  split at h
  · obtain ⟨s, hs, e⟩ := let2_sound h
    exact ⟨_, hs, rfl, fun P w η => by simp [Op.unary, Op.intArith, pure, Sem.run, SV.den, e]⟩
  · obtain ⟨s, hs, e⟩ := let2_sound h
    exact ⟨_, hs, rfl, fun P w η => by simp [Op.unary, Op.intBits, pure, Sem.run, SV.den, e, bitI]⟩
  · exact ⟨_, h, rfl, fun P w η => by simp [Op.unary, pure, Sem.run, SV.den, SB.val]⟩
  · exact ⟨_, h _ rfl, rfl, fun P w η => by simp [Op.unary, pure, Sem.run, SV.den, SB.val]⟩
  · cases h

theorem sConv_sound {P : Program} {s d : TypeId} {x : SV} {K : SV → Prop} (h : sConv P s d x K) :
    ∃ v, K v ∧ v.isAny = false ∧ ∀ (w : World) (η : Nat → Nat), (convert s d (x.den η)).run P w = .ok (v.den η) w := by
  unfold sConv at h
  split at h
  · rename_i d1 k k2 n h1 h2
    exact ⟨_, h, rfl, fun w η => by simp only [convert, bind, Sem.run_bind', run_und h1, run_und h2, Result.andThen_ok, SV.den, Conv.intToInt]; simp [pure, Sem.run]⟩
  · rename_i d1 k k2 n h1 h2
    exact ⟨_, h _ rfl, rfl, fun w η => by simp only [convert, bind, Sem.run_bind', run_und h1, run_und h2, Result.andThen_ok, SV.den, Conv.intToInt]; simp [pure, Sem.run]⟩
  · rename_i d1 s1 h1 h2
    exact ⟨_, h, rfl, fun w η => by simp only [convert, bind, Sem.run_bind', run_und h1, run_und h2, Result.andThen_ok, SV.den]; simp [pure, Sem.run]⟩
  · cases h

theorem eachIdx_sound {x : Int} {K : Nat → Prop} : ∀ {n : Nat}, eachIdx x K n → 0 ≤ x → x < (n : Int) → K x.toNat
  | 0, _, h0, h1 => by omega
  | n + 1, h, h0, h1 => by
    by_cases e : x = (n : Int)
    · have := h.1 e
      subst e; simpa using this
    · exact eachIdx_sound h.2 h0 (by omega)
theorem withIdx_sound {i : SI} {len : Nat} {K : Nat → Prop} (h : withIdx i len K) : 0 ≤ i.val ∧ i.val < (len : Int) ∧ K i.val.toNat := by
  unfold withIdx at h
  split at h
  · split at h
    · rename_i hd; have hd := of_decide_eq_true hd; exact ⟨hd.1, hd.2, h⟩
    · cases h
  · exact ⟨h.1.1, h.1.2, eachIdx_sound h.2 h.1.1 h.1.2⟩

theorem addr_add_add (a : Addr) (m n : Nat) : (a.add m).add n = a.add (m + n) := by
  unfold Addr.add
  by_cases hm : m = 0 <;> by_cases hn : n = 0 <;> simp [hm, hn, Nat.add_assoc]
theorem addr_add_zero (a : Addr) : a.add 0 = a := by simp [Addr.add]
theorem run_index_arr {P : Program} {t e : TypeId} {len z : Nat} (hu : P.underlying t = some (.array len e)) (hz : szOf P e = some z) (k : IntKind) {y : Int} (h0 : 0 ≤ y) (h1 : y < (len : Int)) (a : Addr) (w : World) :
    (Instr.indexAt t (.pointer (some a)) (.int k y)).run P w = .ok (.pointer (some (a.add (y.toNat * z)))) w := by
  simp [Instr.indexAt, asIntOf, run_und hu, run_szOf hz, Instr.sureAddr, h0, h1]
theorem run_index_sl {P : Program} {t e : TypeId} {len z : Nat} (hu : P.underlying t = some (.slice e)) (hz : szOf P e = some z) (k : IntKind) {y : Int} (h0 : 0 ≤ y) (h1 : y < (len : Int)) (a : Addr) (c : Nat) (w : World) :
    (Instr.indexAt t (.slice (some a) len c) (.int k y)).run P w = .ok (.pointer (some (a.add (y.toNat * z)))) w := by
  simp [Instr.indexAt, asIntOf, run_und hu, run_szOf hz, Instr.sureAddr, h0, h1]
theorem add_ptr (η : Nat → Nat) (b o n : Nat) : (⟨η b, o, none⟩ : Addr).add n = ⟨η b, o + n, none⟩ := by
  unfold Addr.add; split
  · rename_i h; subst h; rfl
  · rfl

theorem nameFC_sound {fc : FC} {i : Int} {K : SV → Prop} (h : nameFC fc i K) : ∃ v, K v ∧ v.scalar = true ∧ ∀ η, v.den η = fc.val i := by
  cases fc with
  | int k f => exact ⟨_, h _ rfl, rfl, fun η => rfl⟩
  | bool f => exact ⟨_, h _ rfl, rfl, fun η => rfl⟩
  | str f => exact ⟨_, h _ rfl, rfl, fun η => rfl⟩
theorem nameFCs_sound : ∀ {fs : List FC} {i : Int} {K : List SV → Prop}, nameFCs fs i K → ∃ l, K l ∧ ∀ η, SV.dens η l = fs.map fun fc => fc.val i
  | [], i, K, h => ⟨[], h, fun η => rfl⟩
  | fc :: r, i, K, h => by
    obtain ⟨v, hv, _, e⟩ := nameFC_sound h
    obtain ⟨l, hl, e2⟩ := nameFCs_sound hv
    exact ⟨_, hl, fun η => by simp only [SV.dens, List.map_cons, e, e2]⟩
theorem nameRow_sound {fc : FC} : ∀ {m : Nat} {i : Int} {K : List SV → Prop}, nameRow fc i m K → ∃ l, K l ∧ ∀ η, SV.dens η l = (List.range m).map fun (j : Nat) => fc.val (i + j)
  | 0, i, K, h => ⟨[], h, fun η => rfl⟩
  | m + 1, i, K, h => by
    obtain ⟨v, hv, _, e⟩ := nameFC_sound h
    obtain ⟨l, hl, e2⟩ := nameRow_sound hv
    refine ⟨_, hl, fun η => ?_⟩
    rw [List.range_succ_eq_map]
    simp only [SV.dens, List.map_cons, List.map_map, e, e2]
    congr 1
    · simp
    · apply List.map_congr_left
      intro j _
      simp only [Function.comp]
      congr 1
      omega

theorem sIndexAddr_sound {P : Program} {hp : Hp} {t : TypeId} {x ix : SV} {K : SV → Prop} (h : sIndexAddr P hp t x ix K) :
    ∃ v, K v ∧ v.isAny = false ∧ ∀ (w : World) (η : Nat → Nat), (Instr.indexAt t (x.den η) (ix.den η)).run P w = .ok (v.den η) w := by
  unfold sIndexAddr at h
  split at h
  · rename_i len e b o k i hu
    split at h
    · rename_i z hz
      split at h
      · split at h
        rename_i y
        obtain ⟨⟨h0, h1⟩, hk⟩ := h
        refine ⟨_, hk _ rfl, rfl, fun w η => ?_⟩
        obtain ⟨Y, rfl⟩ := Int.eq_ofNat_of_zero_le h0
        have e1 : ((o : Int) + (Y : Int) * (z : Int)).toNat * 1 + 0 = o + Y * z := by rw [← Int.natCast_mul]; omega
        show (Instr.indexAt t (.pointer (some ⟨η b, o, none⟩)) (.int k (Y : Int))).run P w = .ok (.pointer (some ⟨η b, ((o : Int) + (Y : Int) * (z : Int)).toNat * 1 + 0, none⟩)) w
        rw [run_index_arr hu hz k h0 h1, add_ptr, e1]; rfl
        obtain ⟨h0, h1, hk⟩ := withIdx_sound h
        simp only [SI.val_lit] at h0 h1
        exact ⟨_, hk, rfl, fun w η => by
          simp [Instr.indexAt, asIntOf, SV.den, run_und hu, run_szOf hz, Instr.sureAddr, h0, h1, add_ptr]⟩
      · split at h
        · obtain ⟨⟨h0, h1⟩, hk⟩ := h
          refine ⟨_, hk, rfl, fun w η => ?_⟩
          show (Instr.indexAt t (.pointer (some ⟨η b, 0, none⟩)) (.int k i.val)).run P w = .ok (.pointer (some ⟨η b, i.val.toNat * z + 0, none⟩)) w
          rw [run_index_arr hu hz k h0 h1, add_ptr]; simp
        · obtain ⟨h0, h1, hk⟩ := withIdx_sound h
          exact ⟨_, hk, rfl, fun w η => by
            simp [Instr.indexAt, asIntOf, SV.den, run_und hu, run_szOf hz, Instr.sureAddr, h0, h1, add_ptr]⟩
    · cases h
  · rename_i len e b i0 k i hu
    split at h
    · rename_i z hz
      obtain ⟨⟨h2, h0, h1⟩, hk⟩ := h
      refine ⟨_, hk _ rfl, rfl, fun w η => ?_⟩
      obtain ⟨Y, hY⟩ := Int.eq_ofNat_of_zero_le h0
      obtain ⟨X, rfl⟩ := Int.eq_ofNat_of_zero_le h2
      show (Instr.indexAt t (.pointer (some ⟨η b, (X : Int).toNat * 1 + 0, none⟩)) (.int k i.val)).run P w = .ok (.pointer (some ⟨η b, ((X : Int) + i.val * (z : Int)).toNat * 1 + 0, none⟩)) w
      rw [hY] at h0 h1 ⊢
      have e1 : ((X : Int) + (Y : Int) * (z : Int)).toNat = X + Y * z := by rw [← Int.natCast_mul]; omega
      rw [run_index_arr hu hz k h0 h1, add_ptr, e1]
      simp
    · cases h
  · rename_i e b n c k i hu
    split at h
    · rename_i z hz
      obtain ⟨⟨h0, h1⟩, hk⟩ := h
      refine ⟨_, hk, rfl, fun w η => ?_⟩
      have h2 : i.val < ((n.toNat : Nat) : Int) := by omega
      show (Instr.indexAt t (.slice (some ⟨η b, 0, none⟩) n.toNat (c.den η)) (.int k i.val)).run P w = .ok (.pointer (some ⟨η b, i.val.toNat * z + 0, none⟩)) w
      rw [run_index_sl hu hz k h0 h2, add_ptr]
      simp
    · cases h
  · rename_i e b o y n c k i hu
    split at h
    · rename_i z hz
      split at h
      · rename_i hzl
        have hzl := Nat.eq_of_beq_eq_true hzl
        subst hzl
        obtain ⟨⟨o0, h0, h1⟩, hk⟩ := h
        refine ⟨_, hk _ rfl, rfl, fun w η => ?_⟩
        have h2 : i.val < ((n.toNat : Nat) : Int) := by omega
        show (Instr.indexAt t (.slice (some ⟨η b, o.toNat * z, none⟩) n.toNat c.toNat) (.int k i.val)).run P w = .ok (.pointer (some ⟨η b, (o + i.val).toNat * z + 0, none⟩)) w
        rw [run_index_sl hu hz k h0 h2, add_ptr, show (o + i.val).toNat = o.toNat + i.val.toNat by omega, Nat.add_mul]
        rfl
      · cases h
    · cases h
  · rename_i e a n c fs k i hu
    split at h
    · rename_i z hz
      split at h
      · rename_i hzl
        have hzl := Nat.eq_of_beq_eq_true hzl
        obtain ⟨⟨h0, h1⟩, hk⟩ := h
        refine ⟨_, hk, rfl, fun w η => ?_⟩
        have h2 : i.val < ((n.toNat : Nat) : Int) := by omega
        show (Instr.indexAt t (.slice (some a) n.toNat c) (.int k i.val)).run P w = .ok (.pointer (some (a.add (i.val.toNat * fs.length + 0)))) w
        rw [run_index_sl hu hz k h0 h2, hzl]; rfl
      · cases h
    · cases h
  · rename_i e b o len cap k i hu
    split at h
    · rename_i z hz
      obtain ⟨h0, h1, hk⟩ := withIdx_sound h
      exact ⟨_, hk, rfl, fun w η => by
        simp [Instr.indexAt, asIntOf, SV.den, run_und hu, run_szOf hz, Instr.sureAddr, h0, h1, add_ptr]⟩
    · cases h
  · rename_i e a len cap k i hu
    split at h
    · rename_i z hz
      obtain ⟨⟨h0, h1⟩, hk⟩ := h
      exact ⟨_, hk, rfl, fun w η => by
        simp [Instr.indexAt, asIntOf, SV.den, run_und hu, run_szOf hz, Instr.sureAddr, h0, h1]⟩
    · cases h
  · rename_i len e g o k i hu
    split at h
    · rename_i z hz hd
      have hd := of_decide_eq_true hd
      refine ⟨_, h, rfl, fun w η => ?_⟩
      show (Instr.indexAt t (.pointer (some ⟨g, o, none⟩)) (.int k i)).run P w = .ok (.pointer (some ⟨g, o + i.toNat * z, none⟩)) w
      rw [run_index_arr hu hz k hd.1 hd.2]
      congr 3
      unfold Addr.add
      split
      · rename_i e0; rw [e0]; rfl
      · rfl
    · cases h
  · cases h

theorem bytes_getElem? (s : ByteArray) (i : Nat) (h : i < s.size) : s[i]? = some ((s.data.toList[i]?).getD 0) := by
  rw [getElem?_pos s i h]
  have h' : i < s.data.size := h
  rw [List.getElem?_eq_getElem (by simpa using h')]
  simp only [Option.getD_some, Array.getElem_toList]
  rfl

theorem sIndex_sound {P : Program} {t : TypeId} {x ix : SV} {K : SV → Prop} (h : sIndex P t x ix K) :
    ∃ v, K v ∧ v.isAny = false ∧ ∀ (w : World) (η : Nat → Nat), (Instr.index t (x.den η) (ix.den η)).run P w = .ok (v.den η) w := by
  unfold sIndex at h
  split at h
  · rename_i len e cs k i hu
    split at h
    · rename_i z hz
      obtain ⟨h0, h1, hk⟩ := withIdx_sound h
      split at hk
      · rename_i v hv
        have hva : v.isAny = false := by
          unfold sPart at hv
          split at hv
          · split at hv
            · injection hv with hv; subst hv; rfl
            · cases hv
          · split at hv
            · cases hv
            · injection hv with hv; subst hv
              rename_i hne
              cases hc : nth cs (i.val.toNat * z) <;> first | rfl | exact absurd hc hne
          · cases hv
        refine ⟨v, hk, hva, fun w η => ?_⟩
        simp [Instr.index, asIntOf, SV.den, run_und hu, run_szOf hz, h0, h1, run_part hv]
      · cases hk
    · cases h
  · rename_i s k i hu
    split at h
    · rename_i hd; have hd := of_decide_eq_true hd
      refine ⟨_, h, rfl, fun w η => ?_⟩
      have := bytes_getElem? s i.toNat (by omega)
      simp [Instr.index, asIntOf, SV.den, run_und hu, hd.1, this, byteAt]
    · cases h
  · rename_i s k i _ hu
    obtain ⟨hd, h⟩ := h
    refine ⟨_, h _ rfl, rfl, fun w η => ?_⟩
    have := bytes_getElem? s.val i.val.toNat (by omega)
    simp [Instr.index, asIntOf, SV.den, run_und hu, hd.1, this, byteAt]
  · cases h


theorem sBound_sound {x : SV} {y n : Nat} (h : sBound x y = some n) (code : BoundsCode) (P : Program) (w : World) (η : Nat → Nat) :
    (Instr.sliceBound (x.den η) y code).run P w = .ok n w := by
  unfold sBound at h
  split at h
  · rename_i k i
    split at h
    · rename_i hd; have hd := of_decide_eq_true hd; injection h with h; subst h
      simp [Instr.sliceBound, asIntOf, SV.den, hd.1, hd.2]
    · cases h
  · cases h

theorem bounds_sound {lo hi : Option SV} {len cap h l : Nat} (hh : sHigh hi len cap = some h) (hl : sLow lo h = some l) (isS : Bool) (P : Program) (w : World) (η : Nat → Nat) :
    (Instr.sliceBounds isS len cap (lo.map (SV.den η)) (hi.map (SV.den η)) none).run P w = .ok (l, h, cap) w := by
  cases hi with
  | none =>
    simp only [sHigh] at hh; injection hh with hh; subst hh
    cases lo with
    | none => simp only [sLow] at hl; injection hl with hl; subst hl; simp [Instr.sliceBounds]
    | some v => simp only [sLow] at hl; simp [Instr.sliceBounds, sBound_sound hl]
  | some u =>
    simp only [sHigh] at hh
    cases lo with
    | none => simp only [sLow] at hl; injection hl with hl; subst hl; simp [Instr.sliceBounds, sBound_sound hh]
    | some v => simp only [sLow] at hl; simp [Instr.sliceBounds, sBound_sound hh, sBound_sound hl]

theorem intOfSV_den {v : SV} {n : Int} (h : intOfSV v = some n) (η : Nat → Nat) : ∃ k, v.den η = .int k n := by
  unfold intOfSV at h; split at h
  · injection h with h; subst h; exact ⟨_, rfl⟩
  · cases h

theorem bound_int {n : Int} {y : Nat} (k : IntKind) (h0 : 0 ≤ n) (h1 : n ≤ (y : Int)) (code : BoundsCode) (P : Program) (w : World) : (Instr.sliceBound (.int k n) y code).run P w = .ok n.toNat w := by
  simp [Instr.sliceBound, asIntOf, h0, h1]

theorem capB_sound {v : SV} {c : SN} {K : Nat → Prop} (h : capB v c K) : ∃ i, K i ∧ ∀ (code : BoundsCode) (P : Program) (w : World) (η : Nat → Nat), (Instr.sliceBound (v.den η) (c.den η) code).run P w = .ok i w := by
  unfold capB at h
  split at h
  · rename_i k i
    split at h
    · rename_i y hd
      have hd := of_decide_eq_true hd
      split at h
      · rename_i hle
        have hle := Nat.le_of_ble_eq_true hle
        exact ⟨_, h, fun code P w η => bound_int k hd (by simp only [SN.den_lit]; omega) code P w⟩
      · cases h
    · cases h
  · cases h
theorem capMax_sound {mx : Option SV} {c : SN} {K : SN → Prop} (h : capMax mx c K) : ∃ m, (∀ v, mx = some v → ∀ (P : Program) (w : World) (η : Nat → Nat), (Instr.sliceBound (v.den η) (c.den η) .slice3Acap).run P w = .ok (m.den η) w) ∧ (mx = none → m = c) ∧ K m := by
  cases mx with
  | none => exact ⟨c, (fun v hv => by cases hv), fun _ => rfl, h⟩
  | some v =>
    obtain ⟨i, hk, hr⟩ := capB_sound (K := fun m => K (.lit m)) h
    exact ⟨.lit i, (fun u hu P w η => by injection hu with hu; subst hu; exact hr _ P w η), (fun h => by cases h), hk⟩
theorem capHigh_sound {hi mx : Option SV} {len : Nat} {m : SN} {K : Nat → Prop} (h : capHigh hi mx len m K) :
    ∃ hh, (∀ v, hi = some v → ∀ (code : BoundsCode) (P : Program) (w : World) (η : Nat → Nat), (Instr.sliceBound (v.den η) (m.den η) code).run P w = .ok hh w) ∧ (hi = none → mx = none ∧ hh = len) ∧ K hh := by
  cases hi with
  | none =>
    cases mx with
    | none => exact ⟨len, (fun v hv => by cases hv), (fun _ => ⟨rfl, rfl⟩), h⟩
    | some v => exact h.elim
  | some v =>
    obtain ⟨i, hk, hr⟩ := capB_sound h
    exact ⟨i, (fun u hu => by injection hu with hu; subst hu; exact hr), (fun h => by cases h), hk⟩
theorem bounds3 {lo hi mx : Option SV} {len l hh : Nat} {cap m : SN} (hm1 : ∀ v, mx = some v → ∀ (P : Program) (w : World) (η : Nat → Nat), (Instr.sliceBound (v.den η) (cap.den η) .slice3Acap).run P w = .ok (m.den η) w) (hm2 : mx = none → m = cap)
    (hh1 : ∀ v, hi = some v → ∀ (code : BoundsCode) (P : Program) (w : World) (η : Nat → Nat), (Instr.sliceBound (v.den η) (m.den η) code).run P w = .ok hh w) (hh2 : hi = none → mx = none ∧ hh = len) (hl : sLow lo hh = some l) (P : Program) (w : World) (η : Nat → Nat) :
    (Instr.sliceBounds true len (cap.den η) (lo.map (SV.den η)) (hi.map (SV.den η)) (mx.map (SV.den η))).run P w = .ok (l, hh, (m.den η)) w := by
  have low : ∀ code, ∀ v, lo = some v → (Instr.sliceBound (v.den η) hh code).run P w = .ok l w := fun code v hv => by subst hv; exact sBound_sound hl code P w η
  have low0 : lo = none → l = 0 := fun hv => by subst hv; simp only [sLow] at hl; injection hl with hl; exact hl.symm
  cases hi with
  | none =>
    obtain ⟨rfl, rfl⟩ := hh2 rfl
    have := hm2 rfl
    subst this
    cases lo with
    | none => simp [Instr.sliceBounds, low0 rfl]
    | some v => simp [Instr.sliceBounds, low _ v rfl]
  | some u =>
    cases mx with
    | none =>
      have := hm2 rfl
      subst this
      cases lo with
      | none => simp [Instr.sliceBounds, low0 rfl, hh1 u rfl]
      | some v => simp [Instr.sliceBounds, low _ v rfl, hh1 u rfl]
    | some x =>
      cases lo with
      | none => simp [Instr.sliceBounds, low0 rfl, hh1 u rfl, hm1 x rfl]
      | some v => simp [Instr.sliceBounds, low _ v rfl, hh1 u rfl, hm1 x rfl]
theorem capGt_sound {c : SN} {l : Nat} {K : Bool → Prop} (h : capGt c l K) : ∃ mv, (∀ η, (capSub c l).den η = c.den η - l ∧ (mv = true → c.den η = l → l = 0) ∧ (mv = false → c.den η = l)) ∧ K mv := by
  cases l with
  | zero => exact ⟨true, fun η => ⟨by cases c <;> rfl, fun _ _ => rfl, fun e => by cases e⟩, h⟩
  | succ l =>
  cases c with
  | lit y =>
    simp only [capGt] at h
    split at h
    · rename_i e
      exact ⟨false, fun η => ⟨rfl, (fun e => by cases e), fun _ => Nat.eq_of_beq_eq_true e⟩, h⟩
    · rename_i e
      exact ⟨true, fun η => ⟨rfl, fun _ e' => absurd e' (Nat.ne_of_beq_eq_false e), fun e => by cases e⟩, h⟩
  | ltr y => exact h.elim
  | num y => exact h.elim
theorem isNought_sound {lo : Option SV} (h : isNought lo = true) (hh : Nat) (code : BoundsCode) (P : Program) (w : World) (η : Nat → Nat) :
    lo = none ∨ ∃ v, lo = some v ∧ (Instr.sliceBound (v.den η) hh code).run P w = .ok 0 w := by
  unfold isNought at h
  split at h
  · exact .inl rfl
  · rename_i k n
    split at h
    · exact .inr ⟨_, rfl, by simp [Instr.sliceBound, asIntOf, SV.den]⟩
    · cases h
  · cases h
theorem run_slice0 {P : Program} {t e : TypeId} {z : Nat} (hu : P.underlying t = some (.slice e)) (hz : szOf P e = some z) {lo : Option SV} (hlo : isNought lo = true) {v : SV} {h : Int} (hv : intOfSV v = some h) {cap : Nat} (h0 : 0 ≤ h) (h1 : h ≤ (cap : Int)) (a : Addr) (len : Nat) (w : World) (η : Nat → Nat) :
    (Instr.sliceAt t (.slice (some a) len cap) (lo.map (SV.den η)) (some (v.den η)) none).run P w = .ok (.slice (some a) h.toNat cap) w := by
  obtain ⟨k, e⟩ := intOfSV_den hv η
  have hb : ∀ code, (Instr.sliceBound (v.den η) cap code).run P w = .ok h.toNat w := fun code => by rw [e]; exact bound_int k h0 h1 code P w
  have key : (Instr.sliceBounds true len cap (lo.map (SV.den η)) (some (v.den η)) none).run P w = .ok (0, h.toNat, cap) w := by
    rcases isNought_sound hlo h.toNat .sliceB P w η with rfl | ⟨u, rfl, hu⟩
    · simp [Instr.sliceBounds, hb]
    · simp [Instr.sliceBounds, hb, hu]
  simp [Instr.sliceAt, Instr.slice, run_und hu, key, run_szOf hz, addr_add_zero]
theorem bounds_int {len cap : Nat} {hi lo : Option SV} {hv lv : Int} (isS : Bool) (e1 : hi = none → (len : Int) = hv) (e2 : ∀ u, hi = some u → intOfSV u = some hv) (e3 : lo = none → lv = 0) (e4 : ∀ u, lo = some u → intOfSV u = some lv) (h0 : 0 ≤ lv) (h1 : lv ≤ hv) (h2 : hv ≤ (cap : Int)) (P : Program) (w : World) (η : Nat → Nat) :
    (Instr.sliceBounds isS len cap (lo.map (SV.den η)) (hi.map (SV.den η)) none).run P w = .ok (lv.toNat, hv.toNat, cap) w := by
  cases hi with
  | none =>
    have e1 := e1 rfl
    subst e1
    cases lo with
    | none => have := e3 rfl; subst this; simp [Instr.sliceBounds]
    | some v =>
      obtain ⟨k, e⟩ := intOfSV_den (e4 v rfl) η
      simp [Instr.sliceBounds, e, bound_int k h0 h1]
  | some u =>
    obtain ⟨k, e⟩ := intOfSV_den (e2 u rfl) η
    cases lo with
    | none =>
      have := e3 rfl; subst this
      simp [Instr.sliceBounds, e, bound_int k (by omega : 0 ≤ hv) h2]
    | some v =>
      obtain ⟨k', e'⟩ := intOfSV_den (e4 v rfl) η
      have : lv ≤ ((hv.toNat : Nat) : Int) := by omega
      simp [Instr.sliceBounds, e, e', bound_int k (by omega : 0 ≤ hv) h2, bound_int k' h0 this]
theorem sSlice_sound {P : Program} {w0 : World} {hp : Hp} {t : TypeId} {x : SV} {lo hi mx : Option SV} {K : SV → Prop} (h : sSlice P hp t x lo hi mx K) :
    ∃ v, K v ∧ v.isAny = false ∧ ∀ (w : World) (η : Nat → Nat), HR w0 η hp w → (Instr.sliceAt t (x.den η) (lo.map (SV.den η)) (hi.map (SV.den η)) (mx.map (SV.den η))).run P w = .ok (v.den η) w := by
  unfold sSlice at h
  split at h
  · rename_i e b n c hu
    split at h
    · rename_i z0 v hz hlo
      split at h
      · rename_i h' n' fs ty k z k' hv hb
        split at h
        · rename_i e1 e2 e3
          have e1 := Nat.eq_of_beq_eq_true e1
          have e2 := Nat.eq_of_beq_eq_true e2
          have e3 := Nat.ne_of_beq_eq_false e3
          subst e1
          obtain ⟨⟨h0, h1⟩, h⟩ := h
          refine ⟨_, h, rfl, fun w η hr => ?_⟩
          obtain ⟨o, ho, c, fz, ⟨g0, ⟨g1, g2⟩, g3⟩, hz', rfl⟩ := hr.cell b _ hb
          have hle : n'.toNat ≤ η k := by
            rw [g1, ← e2] at g2
            exact Nat.le_of_mul_le_mul_right g2 (by omega)
          exact run_slice0 hu hz hlo hv h0 (by show h' ≤ ((η k : Nat) : Int); omega) _ _ w η
        · cases h
      · cases h
    · cases h
  · rename_i e a n c fs hu
    split at h
    · rename_i z0 v hz hlo
      split at h
      · rename_i h' hv
        obtain ⟨⟨h0, h1⟩, h⟩ := h
        exact ⟨_, h, rfl, fun w η hr => run_slice0 hu hz hlo hv h0 h1 _ _ w η⟩
      · cases h
    · cases h
  · rename_i e b o z n c hu
    split at h
    · rename_i y hv lv hz hhv hlv
      split at h
      · rename_i hyz
        have hyz := Nat.eq_of_beq_eq_true hyz
        subst hyz
        obtain ⟨⟨o0, h0, h1, h2, h3⟩, h⟩ := h
        refine ⟨_, h _ rfl _ rfl _ rfl, rfl, fun w η hr => ?_⟩
        have key := bounds_int (len := n.toNat) (cap := c.toNat) (hi := hi) (lo := lo) (hv := hv) (lv := lv) true (fun e => by subst e; simp only [Option.some.injEq] at hhv; omega) (fun u e => by subst e; exact hhv) (fun e => by subst e; simp only [Option.some.injEq] at hlv; exact hlv.symm) (fun u e => by subst e; exact hlv) h0 h1 (by omega) P w η
        have hne : ¬ (c.toNat = lv.toNat) := by omega
        simp only [Instr.sliceAt, Instr.slice, run_und hu, SV.den, bind, Sem.run_bind', Result.andThen_ok, Option.map_none, key, run_szOf hz, pure, Sem.run, if_neg hne, add_ptr]
        rw [show (o + lv).toNat = o.toNat + lv.toNat by omega, Nat.add_mul, show (hv - lv).toNat = hv.toNat - lv.toNat by omega, show (c - lv).toNat = c.toNat - lv.toNat by omega]
        simp [add_ptr]
      · cases h
    · cases h
  · rename_i n e b o hu
    split at h
    · rename_i y hfb
      split at h
      · rename_i z hv lv hz hhv hlv
        split at h
        · rename_i hyz
          obtain ⟨⟨h0, h1, h2, h3⟩, h⟩ := h
          refine ⟨_, h _ rfl _ rfl, rfl, fun w η hr => ?_⟩
          have key := bounds_int (len := n) (cap := n) (hi := hi) (lo := lo) (hv := hv) (lv := lv) false (fun e => by subst e; simp only [Option.some.injEq] at hhv; omega) (fun u e => by subst e; exact hhv) (fun e => by subst e; simp only [Option.some.injEq] at hlv; exact hlv.symm) (fun u e => by subst e; exact hlv) h0 h1 h2 P w η
          have hne : ¬ (n = lv.toNat) := by omega
          simp only [Instr.sliceAt, Instr.slice, Instr.sureAddr, run_und hu, SV.den, bind, Sem.run_bind', Result.andThen_ok, Option.map_none, key, run_szOf hz, pure, Sem.run, if_neg hne, add_ptr]
          rw [show (hv - lv).toNat = hv.toNat - lv.toNat by omega, show ((n : Int) - lv).toNat = n - lv.toNat by omega]
          simp [add_ptr]
        · cases h
      · cases h
    split at h
    · rename_i hh hhe
      split at h
      · rename_i l z hl hz
        split at h
        · rename_i hnl
          have hnl := Nat.eq_of_beq_eq_true hnl
          subst hnl
          exact ⟨_, h, rfl, fun w η hr => by
            simp [Instr.sliceAt, run_und hu, SV.den, Instr.sureAddr, bounds_sound hhe hl, run_szOf hz]⟩
        · rename_i hnl
          have hnl := Nat.ne_of_beq_eq_false hnl
          exact ⟨_, h, rfl, fun w η hr => by
            simp [Instr.sliceAt, run_und hu, SV.den, Instr.sureAddr, bounds_sound hhe hl, run_szOf hz, hnl, add_ptr]⟩
      · cases h
    · cases h
  · rename_i mx _ _ _ e b o len cap hu
    obtain ⟨m, hm1, hm2, h⟩ := capMax_sound h
    obtain ⟨hh, hh1, hh2, h⟩ := capHigh_sound h
    split at h
    · rename_i l z hl hz
      have hbd : ∀ (w : World) (η : Nat → Nat), (Instr.sliceBounds true len (cap.den η) (lo.map (SV.den η)) (hi.map (SV.den η)) (mx.map (SV.den η))).run P w = .ok (l, hh, (m.den η)) w := fun w η => bounds3 hm1 hm2 hh1 hh2 hl P w η
      obtain ⟨mv, hmv, hk⟩ := capGt_sound h
      cases mv with
      | true =>
        refine ⟨_, hk, rfl, fun w η hr => ?_⟩
        simp only [Instr.sliceAt, Instr.slice, run_und hu, SV.den, bind, Sem.run_bind', Result.andThen_ok, hbd, run_szOf hz, pure, Sem.run, (hmv η).1]
        by_cases e : (m.den η) = l
        · have hl0 : l = 0 := (hmv η).2.1 rfl e
          subst hl0
          rw [if_pos e]; simp
        · rw [if_neg e]; simp [add_ptr]
      | false =>
        refine ⟨_, hk, rfl, fun w η hr => ?_⟩
        simp only [Instr.sliceAt, Instr.slice, run_und hu, SV.den, bind, Sem.run_bind', Result.andThen_ok, hbd, run_szOf hz, pure, Sem.run, (hmv η).1]
        rw [if_pos ((hmv η).2.2 rfl)]
    · cases h
  · rename_i mx _ _ _ e hu
    split at h
    · rename_i l' h' m' z hl hh hm hz
      obtain ⟨⟨rfl, rfl, rfl⟩, h⟩ := h
      refine ⟨_, h, rfl, fun w η hr => ?_⟩
      have kb : ∀ (v : SV) (code : BoundsCode), intOfSV v = some 0 → (Instr.sliceBound (v.den η) 0 code).run P w = .ok 0 w := fun v code hv => by
        obtain ⟨k, e⟩ := intOfSV_den hv η
        rw [e]; exact bound_int k (by omega) (by omega) code P w
      have hbd : (Instr.sliceBounds true 0 0 (lo.map (SV.den η)) (hi.map (SV.den η)) (mx.map (SV.den η))).run P w = .ok (0, 0, 0) w := by
        cases mx with
        | none =>
          cases hi with
          | none => cases lo with
            | none => simp [Instr.sliceBounds]
            | some v => simp only at hl; simp [Instr.sliceBounds, kb v _ hl]
          | some u =>
            simp only at hh
            cases lo with
            | none => simp [Instr.sliceBounds, kb u _ hh]
            | some v => simp only at hl; simp [Instr.sliceBounds, kb u _ hh, kb v _ hl]
        | some x =>
          cases hi with
          | none => simp at hm
          | some u =>
            simp only at hh hm
            cases lo with
            | none => simp [Instr.sliceBounds, kb u _ hh, kb x _ hm]
            | some v => simp only at hl; simp [Instr.sliceBounds, kb u _ hh, kb v _ hl, kb x _ hm]
      simp only [Instr.sliceAt, Instr.slice, run_und hu, SV.den, bind, Sem.run_bind', Result.andThen_ok, hbd, run_szOf hz, pure, Sem.run]
      simp
    · cases h
  · rename_i e a len cap hu
    split at h
    · rename_i hv lv z hhv hlv hz
      obtain ⟨⟨h0, h1, h2, h3⟩, h⟩ := h
      refine ⟨_, h, rfl, fun w η hr => ?_⟩
      have key : (Instr.sliceBounds true len cap (lo.map (SV.den η)) (hi.map (SV.den η)) none).run P w = .ok (lv.toNat, hv.toNat, cap) w := by
        cases hi with
        | none =>
          simp only [Option.some.injEq] at hhv; subst hhv
          cases lo with
          | none => simp only [Option.some.injEq] at hlv; subst hlv; simp [Instr.sliceBounds]
          | some v =>
            obtain ⟨k, e⟩ := intOfSV_den hlv η
            simp [Instr.sliceBounds, e, bound_int k h0 h1]
        | some u =>
          obtain ⟨k, e⟩ := intOfSV_den hhv η
          cases lo with
          | none =>
            simp only [Option.some.injEq] at hlv; subst hlv
            simp [Instr.sliceBounds, e, bound_int k (by omega : 0 ≤ hv) h2]
          | some v =>
            obtain ⟨k', e'⟩ := intOfSV_den hlv η
            have : lv ≤ ((hv.toNat : Nat) : Int) := by omega
            simp [Instr.sliceBounds, e, e', bound_int k (by omega : 0 ≤ hv) h2, bound_int k' h0 this]
      have hne : ¬ (cap = lv.toNat) := by omega
      simp [Instr.sliceAt, Instr.slice, run_und hu, SV.den, key, run_szOf hz, hne]
    · cases h
  · rename_i s hu
    split at h
    · rename_i hv lv hhv hlv
      obtain ⟨⟨h0, h1, h2⟩, h⟩ := h
      have hk : ∃ v, K v ∧ v.isAny = false ∧ ∀ η, v.den η = .string (s.val.extract lv.toNat hv.toNat) := by
        split at h
        · exact ⟨_, h, rfl, fun η => rfl⟩
        · exact ⟨_, h _ rfl, rfl, fun η => rfl⟩
      obtain ⟨v, hv1, hv2, hv3⟩ := hk
      refine ⟨v, hv1, hv2, fun w η hr => ?_⟩
      rw [hv3]
      have key : (Instr.sliceBounds false s.val.size s.val.size (lo.map (SV.den η)) (hi.map (SV.den η)) none).run P w = .ok (lv.toNat, hv.toNat, s.val.size) w := by
        cases hi with
        | none =>
          simp only [Option.some.injEq] at hhv; subst hhv
          cases lo with
          | none => simp only [Option.some.injEq] at hlv; subst hlv; simp [Instr.sliceBounds]
          | some v =>
            obtain ⟨k, e⟩ := intOfSV_den hlv η
            simp [Instr.sliceBounds, e, bound_int k h0 h1]
        | some u =>
          obtain ⟨k, e⟩ := intOfSV_den hhv η
          cases lo with
          | none =>
            simp only [Option.some.injEq] at hlv; subst hlv
            simp [Instr.sliceBounds, e, bound_int k (by omega : 0 ≤ hv) h2]
          | some v =>
            obtain ⟨k', e'⟩ := intOfSV_den hlv η
            have : lv ≤ ((hv.toNat : Nat) : Int) := by omega
            simp [Instr.sliceBounds, e, e', bound_int k (by omega : 0 ≤ hv) h2, bound_int k' h0 this]
      simp [Instr.sliceAt, Instr.slice, run_und hu, SV.den, key]
    · cases h
  · cases h

theorem run_load_cell {P : Program} {w : World} {a : Addr} {v : Value} (h : w.cell? a = some v) : (load a).run P w = .ok v w := by
  simp [load, Sem.run, h]

theorem run_loadCellsFrom {P : Program} {w : World} {a : Addr} : ∀ (vs : List Value) (i : Nat) (acc : Array Value), (∀ j v, vs[j]? = some v → w.cell? (a.add (i + j)) = some v) →
    (loadCellsFrom a i vs.length acc).run P w = .ok (acc ++ vs.toArray) w
  | [], i, acc, _ => by simp [loadCellsFrom]
  | v :: r, i, acc, h => by
    have h0 : w.cell? (a.add i) = some v := h 0 v rfl
    have ih := run_loadCellsFrom (P := P) (w := w) (a := a) r (i + 1) (acc.push v) (fun j u hu => by have := h (j + 1) u (by simpa using hu); rwa [show i + (j + 1) = i + 1 + j by omega] at this)
    simp only [List.length_cons, loadCellsFrom, bind, Sem.run_bind', run_load_cell h0, Result.andThen_ok, ih]
    simp

theorem run_loadCells {P : Program} {w : World} {a : Addr} {vs : List Value} {n : Nat} (hn : vs.length = n) (h : ∀ (j : Nat) (v : Value), vs[j]? = some v → w.cell? (a.add j) = some v) :
    (loadCells a n).run P w = .ok vs.toArray w := by
  subst hn
  have := run_loadCellsFrom (P := P) (w := w) (a := a) vs 0 #[] (fun j v hv => by simpa using h j v hv)
  simpa [loadCells] using this

theorem cell_at {w0 : World} {η : Nat → Nat} {hp : Hp} {w : World} (h : HR w0 η hp w) {b : Nat} {cs : List SV} {ty : TypeId} {tl : ST} (hb : hget hp b = some (.cells cs ty tl)) :
    ∃ c fz, LRelT η cs tl c ∧ FzOk c.size fz ∧ w.heap[η b]? = some (.cells c ty fz) ∧ ∀ o, w.cell? ⟨η b, o, none⟩ = c[o]? := by
  obtain ⟨o, ho, c, fz, hc, hz, rfl⟩ := h.cell b _ hb
  exact ⟨c, fz, hc, hz, ho, fun o => by simp [World.cell?, ho]⟩

theorem closed_den {v : SV} (h : closedV v = true) (η : Nat → Nat) : v.den η = v.den fun _ => 0 := den_congr (fun i hi => by cases hi) v h
theorem closeds_den {l : List SV} (h : SV.allvs (fun _ => false) l = true) (η : Nat → Nat) : SV.dens η l = SV.dens (fun _ => 0) l := dens_congr (fun i hi => by cases hi) l h

theorem base_cell {w0 : World} {η f w} (h : HRel w0 η f w) {a : Addr} {v : Value} (hv : w0.cell? a = some v) : w.cell? a = some v := by
  have hlt : a.block < w0.heap.size := by
    simp only [World.cell?] at hv
    split at hv
    · rename_i heq; exact (Array.getElem?_eq_some_iff.1 heq).1
    · cases hv
  rw [h.base.cell hlt]; exact hv

theorem fblk_at {w0 : World} {η : Nat → Nat} {hp : Hp} {w : World} (h : HR w0 η hp w) {b : Nat} {n : Int} {fs : List FC} {ty : TypeId} {tl : ST} (hb : hget hp b = some (.fblk n fs ty tl)) :
    ∃ c fz, 0 ≤ n ∧ tl.ok η (n.toNat * fs.length) c.size ∧ FRel n fs c ∧ FzOk c.size fz ∧ w.heap[η b]? = some (.cells c ty fz) ∧ ∀ o, w.cell? ⟨η b, o, none⟩ = c[o]? := by
  obtain ⟨o, ho, c, fz, ⟨h0, h1, h2⟩, hz, rfl⟩ := h.cell b _ hb
  exact ⟨c, fz, h0, h1, h2, hz, ho, fun o => by simp [World.cell?, ho]⟩
theorem run_load_fc {P : Program} {w : World} {t : TypeId} {a : Addr} {x : Value} (ha : aggOf P t = some false) (h : w.cell? a = some x) : (Instr.loadAt t (.pointer (some a))).run P w = .ok x w := by
  simp [Instr.loadAt, Instr.sureAddr, loadVar, run_aggOf ha, run_load_cell h, h]
theorem run_load_fcs {P : Program} {w : World} {t : TypeId} {a : Addr} {xs : List Value} {m : Nat} (ha : aggOf P t = some true) (hs : szOf P t = some m) (hl : xs.length = m) (h : ∀ (j : Nat) (x : Value), xs[j]? = some x → w.cell? (a.add j) = some x) :
    (Instr.loadAt t (.pointer (some a))).run P w = .ok (.agg xs.toArray) w := by
  have := run_loadCells (P := P) (w := w) (a := a) (vs := xs) (n := m) hl h
  simp [Instr.loadAt, Instr.sureAddr, loadVar, run_aggOf ha, run_szOf hs, this]
theorem FRel.row1 {n : Int} {fc : FC} {c : Array Value} (h : FRel n [fc] c) {i : Nat} (hi : i < n.toNat) : c[i]? = some (fc.val i) := by
  have := h i 0 fc hi rfl
  simpa using this
theorem sLoad_sound {P : Program} {w0 : World} {hp : Hp} {t : TypeId} {p : SV} {K : SV → Prop} (h : sLoad P w0 hp t p K) :
    ∃ v, K v ∧ v.isAny = false ∧ ∀ (w : World) (η : Nat → Nat), HR w0 η hp w → (Instr.loadAt t (p.den η)).run P w = .ok (v.den η) w := by
  unfold sLoad at h
  split at h
  · rename_i b o
    split at h
    · rename_i cs ty tl hb
      split at h
      · rename_i n ha hs
        split at h
        · rename_i hle hna
          refine ⟨_, h, rfl, fun w η hr => ?_⟩
          obtain ⟨c, fz, hc, _, _, hcell⟩ := cell_at hr hb
          have hle := Nat.le_of_ble_eq_true hle
          have := run_loadCells (P := P) (w := w) (a := ⟨η b, o, none⟩) (vs := SV.dens η ((cs.drop o).take n)) (n := n) (by simp; omega) (fun j v hv => by
            rw [add_ptr, hcell]
            rw [dens_get] at hv
            simp only [Option.map_eq_some_iff] at hv
            obtain ⟨u, hu, rfl⟩ := hv
            have hu' : cs[o + j]? = some u := by
              rw [List.getElem?_take] at hu
              split at hu
              · rwa [List.getElem?_drop] at hu
              · cases hu
            have hmem : u ∈ (cs.drop o).take n := List.mem_of_getElem? hu
            rcases hc.2 _ _ hu' with e | e
            · have := noAny_iff hna u hmem; rw [e] at this; cases this
            · exact e)
          simp [Instr.loadAt, SV.den, Instr.sureAddr, loadVar, run_aggOf ha, run_szOf hs, this]
        · cases h
      · rename_i hs ha
        split at h
        · cases h
        · rename_i hv
          refine ⟨_, h, by cases hc : nth cs o <;> first | rfl | exact absurd hc hv, fun w η hr => ?_⟩
          obtain ⟨c, fz, hc, _, _, hcell⟩ := cell_at hr hb
          have := hc.nth (i := o) rfl hv
          have hl : w.cell? ⟨η b, o, none⟩ = some ((nth cs o).den η) := by rw [hcell]; exact this
          simp [Instr.loadAt, SV.den, Instr.sureAddr, loadVar, run_aggOf ‹aggOf P t = some false›, run_load_cell hl, hl]
      · cases h
    · rename_i n fc ty tl hb
      split at h
      · rename_i m ha hs
        obtain ⟨h1, h⟩ := h
        obtain ⟨l, hl, e⟩ := nameRow_sound h
        refine ⟨_, hl, rfl, fun w η hr => ?_⟩
        obtain ⟨c, fz, g0, g1, g2, _, _, hcell⟩ := fblk_at hr hb
        show (Instr.loadAt t (.pointer (some ⟨η b, o, none⟩))).run P w = .ok (.agg (SV.dens η l).toArray) w
        rw [e η]
        refine run_load_fcs ha hs (by simp) fun j x hx => ?_
        rw [add_ptr, hcell]
        simp only [List.getElem?_map, Option.map_eq_some_iff] at hx
        obtain ⟨j', hj, rfl⟩ := hx
        have hj' := (List.getElem?_eq_some_iff.1 hj)
        obtain ⟨hjm, hje⟩ := hj'
        simp at hjm hje
        subst hje
        have := g2.row1 (i := o + j) (by omega)
        rw [this]; simp
      · rename_i hs ha
        obtain ⟨h1, h⟩ := h
        obtain ⟨v, hv, hsc, e⟩ := nameFC_sound h
        refine ⟨v, hv, scalar_ne_any hsc, fun w η hr => ?_⟩
        obtain ⟨c, fz, g0, g1, g2, _, _, hcell⟩ := fblk_at hr hb
        have := g2.row1 (i := o) (by omega)
        rw [e η]
        exact run_load_fc ‹aggOf P t = some false› (by rw [hcell]; exact this)
      · cases h
    · cases h
  · rename_i b i z o
    split at h
    · rename_i n fs ty tl hb
      split at h
      · rename_i hs hzl ha
        have hzl := Nat.eq_of_beq_eq_true hzl
        split at h
        · rename_i fc hfc
          rw [fnth_eq] at hfc
          obtain ⟨⟨h0, h1⟩, h⟩ := h
          obtain ⟨v, hv, hsc, e⟩ := nameFC_sound h
          refine ⟨v, hv, scalar_ne_any hsc, fun w η hr => ?_⟩
          obtain ⟨c, fz, g0, g1, g2, _, _, hcell⟩ := fblk_at hr hb
          rw [e η]
          refine run_load_fc ‹aggOf P t = some false› ?_
          rw [hcell, hzl, g2 i.toNat o fc (by omega) hfc, Int.toNat_of_nonneg h0]
        · cases h
      · rename_i m hzl ha hs
        have hzl := Nat.eq_of_beq_eq_true hzl
        split at h
        · rename_i fc
          obtain ⟨⟨h0, h1⟩, h⟩ := h
          obtain ⟨l, hl, e⟩ := nameRow_sound h
          refine ⟨_, hl, rfl, fun w η hr => ?_⟩
          obtain ⟨c, fz, g0, g1, g2, _, _, hcell⟩ := fblk_at hr hb
          show (Instr.loadAt t (.pointer (some ⟨η b, i.toNat * z + 0, none⟩))).run P w = .ok (.agg (SV.dens η l).toArray) w
          rw [e η]
          refine run_load_fcs ha hs (by simp) fun j x hx => ?_
          rw [add_ptr, hcell]
          simp only [List.getElem?_map, Option.map_eq_some_iff] at hx
          obtain ⟨j', hj, rfl⟩ := hx
          obtain ⟨hjm, hje⟩ := List.getElem?_eq_some_iff.1 hj
          simp at hjm hje
          subst hje
          have := g2.row1 (i := i.toNat + j) (by omega)
          have e2 : i.toNat * z + 0 + j = i.toNat + j := by rw [hzl]; simp
          rw [e2, this]
          congr 2
          omega
        · split at h
          · rename_i hle
            have hle := Nat.le_of_ble_eq_true hle
            obtain ⟨⟨h0, h1⟩, h⟩ := h
            obtain ⟨l, hl, e⟩ := nameFCs_sound h
            refine ⟨_, hl, rfl, fun w η hr => ?_⟩
            obtain ⟨c, fz, g0, g1, g2, _, _, hcell⟩ := fblk_at hr hb
            show (Instr.loadAt t (.pointer (some ⟨η b, i.toNat * z + o, none⟩))).run P w = .ok (.agg (SV.dens η l).toArray) w
            rw [e η]
            refine run_load_fcs ha hs (by simp; omega) fun j x hx => ?_
            rw [add_ptr, hcell]
            simp only [List.getElem?_map, Option.map_eq_some_iff] at hx
            obtain ⟨fc, hj, rfl⟩ := hx
            rw [List.getElem?_take] at hj
            split at hj
            · rw [List.getElem?_drop] at hj
              rw [Nat.add_assoc, hzl, g2 i.toNat (o + j) fc (by omega) hj, Int.toNat_of_nonneg h0]
            · cases hj
          · cases h
      · cases h
    · cases h
  · rename_i a i o fs
    split at h
    · rename_i hs ha
      split at h
      · rename_i fc hfc
        rw [fnth_eq] at hfc
        obtain ⟨h0, h⟩ := h
        obtain ⟨v, hv, hsc, e⟩ := nameFC_sound h
        refine ⟨v, hv, scalar_ne_any hsc, fun w η hr => ?_⟩
        rw [e η]
        exact run_load_fc ‹aggOf P t = some false› (base_cell hr (h0 o fc hfc))
      · cases h
    · rename_i m ha hs
      split at h
      · rename_i hle
        have hle := Nat.le_of_ble_eq_true hle
        obtain ⟨h0, h⟩ := h
        obtain ⟨l, hl, e⟩ := nameFCs_sound h
        refine ⟨_, hl, rfl, fun w η hr => ?_⟩
        show (Instr.loadAt t (.pointer (some (a.add (i.toNat * fs.length + o))))).run P w = .ok (.agg (SV.dens η l).toArray) w
        rw [e η]
        refine run_load_fcs ha hs (by simp; omega) fun j x hx => ?_
        rw [addr_add_add]
        simp only [List.getElem?_map, Option.map_eq_some_iff] at hx
        obtain ⟨fc, hj, rfl⟩ := hx
        rw [List.getElem?_take] at hj
        split at hj
        · rw [List.getElem?_drop] at hj
          rw [Nat.add_assoc]
          exact base_cell hr (h0 (o + j) fc hj)
        · cases hj
      · cases h
    · cases h
  · rename_i a
    split at h
    · rename_i n ha hs
      obtain ⟨vs, hl, hna, hcl, hcell, hk⟩ := h
      refine ⟨_, hk, rfl, fun w η hr => ?_⟩
      have := run_loadCells (P := P) (w := w) (a := a) (vs := SV.dens η vs) (n := n) (by simp [hl]) (fun j v hv => by
        rw [closeds_den hcl, dens_get] at hv
        simp only [Option.map_eq_some_iff] at hv
        obtain ⟨u, hu, rfl⟩ := hv
        exact base_cell hr (hcell j u hu))
      simp [Instr.loadAt, SV.den, Instr.sureAddr, loadVar, run_aggOf ha, run_szOf hs, this]
    · rename_i hs ha
      split at h
      · rename_i k hu
        obtain ⟨n, hcell, hk⟩ := h
        refine ⟨_, hk, rfl, fun w η hr => ?_⟩
        simp [Instr.loadAt, SV.den, Instr.sureAddr, loadVar, run_aggOf ‹aggOf P t = some false›, run_load_cell (base_cell hr hcell), base_cell hr hcell]
      · obtain ⟨v, hna, hcl, hcell, hk⟩ := h
        refine ⟨v, hk, hna, fun w η hr => ?_⟩
        rw [closed_den hcl η]
        simp [Instr.loadAt, SV.den, Instr.sureAddr, loadVar, run_aggOf ‹aggOf P t = some false›, run_load_cell (base_cell hr hcell), base_cell hr hcell]
    · cases h
  · cases h

theorem sMin2_sound {x y : SV} {K : SV → Prop} (h : sMin2 x y K) : ∃ v, K v ∧ v.isAny = false ∧ ∀ (P : Program) (w : World) (η : Nat → Nat), (Builtin.min2 (x.den η) (y.den η)).run P w = .ok (v.den η) w := by
  unfold sMin2 at h
  split at h
  · split at h
    · rename_i hk; have hk := of_decide_eq_true hk; subst hk
      exact ⟨_, h, rfl, fun P w η => by simp [Builtin.min2, SV.den]⟩
    · cases h
  · split at h
    · rename_i hk; have hk := of_decide_eq_true hk; subst hk
      exact ⟨_, h _ rfl, rfl, fun P w η => by simp [Builtin.min2, SV.den]⟩
    · cases h
  · cases h
theorem sMax2_sound {x y : SV} {K : SV → Prop} (h : sMax2 x y K) : ∃ v, K v ∧ v.isAny = false ∧ ∀ (P : Program) (w : World) (η : Nat → Nat), (Builtin.max2 (x.den η) (y.den η)).run P w = .ok (v.den η) w := by
  unfold sMax2 at h
  split at h
  · split at h
    · rename_i hk; have hk := of_decide_eq_true hk; subst hk
      exact ⟨_, h, rfl, fun P w η => by simp [Builtin.max2, SV.den]⟩
    · cases h
  · split at h
    · rename_i hk; have hk := of_decide_eq_true hk; subst hk
      exact ⟨_, h _ rfl, rfl, fun P w η => by simp [Builtin.max2, SV.den]⟩
    · cases h
  · cases h
theorem sMins_sound : ∀ (r : List SV) {x : SV} {K : SV → Prop}, x.isAny = false → sMins x K r → ∃ v, K v ∧ v.isAny = false ∧ ∀ (P : Program) (w : World) (η : Nat → Nat), ((SV.dens η r).foldlM Builtin.min2 (x.den η)).run P w = .ok (v.den η) w
  | [], x, K, hx, h => ⟨x, h, hx, fun P w η => by simp [SV.dens]⟩
  | y :: r, x, K, hx, h => by
    obtain ⟨v, hv, hva, hr⟩ := sMin2_sound h
    obtain ⟨u, hu, hua, hr'⟩ := sMins_sound r hva hv
    exact ⟨u, hu, hua, fun P w η => by simp [SV.dens, hr, hr']⟩
theorem sMaxs_sound : ∀ (r : List SV) {x : SV} {K : SV → Prop}, x.isAny = false → sMaxs x K r → ∃ v, K v ∧ v.isAny = false ∧ ∀ (P : Program) (w : World) (η : Nat → Nat), ((SV.dens η r).foldlM Builtin.max2 (x.den η)).run P w = .ok (v.den η) w
  | [], x, K, hx, h => ⟨x, h, hx, fun P w η => by simp [SV.dens]⟩
  | y :: r, x, K, hx, h => by
    obtain ⟨v, hv, hva, hr⟩ := sMax2_sound h
    obtain ⟨u, hu, hua, hr'⟩ := sMaxs_sound r hva hv
    exact ⟨u, hu, hua, fun P w η => by simp [SV.dens, hr, hr']⟩

theorem sLen_sound {P : Program} {t : TypeId} {x : SV} {K : SV → Prop} (h : sLen P t x K) :
    ∃ v, K v ∧ v.isAny = false ∧ ∀ (w : World) (η : Nat → Nat) (ts : Array TypeId) (ty : TypeId), ts[0]? = some t → (Builtin.len_ ts ty #[x.den η]).run P w = .ok (v.den η) w := by
  unfold sLen at h
  split at h
  · rename_i s hu; exact ⟨_, h, rfl, fun w η ts ty ht => by simp [Builtin.len_, ht, run_und hu, SV.den, goInt]⟩
  · rename_i s hu; exact ⟨_, h _ rfl, rfl, fun w η ts ty ht => by simp [Builtin.len_, ht, run_und hu, SV.den, goInt]⟩
  · rename_i n e x hu; exact ⟨_, h, rfl, fun w η ts ty ht => by simp [Builtin.len_, ht, run_und hu, SV.den, goInt]⟩
  · rename_i e b o n c hu; exact ⟨_, h, rfl, fun w η ts ty ht => by simp [Builtin.len_, ht, run_und hu, SV.den, goInt]⟩
  · rename_i e b n c hu; exact ⟨_, h.2, rfl, fun w η ts ty ht => by have := h.1; simp [Builtin.len_, ht, run_und hu, SV.den, goInt]; omega⟩
  · rename_i e a n c fs hu; exact ⟨_, h.2, rfl, fun w η ts ty ht => by have := h.1; simp [Builtin.len_, ht, run_und hu, SV.den, goInt]; omega⟩
  · rename_i e b o z n c hu; exact ⟨_, h.2, rfl, fun w η ts ty ht => by have := h.1; simp [Builtin.len_, ht, run_und hu, SV.den, goInt]; omega⟩
  · rename_i e a n c hu; exact ⟨_, h _ rfl, rfl, fun w η ts ty ht => by simp [Builtin.len_, ht, run_und hu, SV.den, goInt]⟩
  · rename_i e n c hu; exact ⟨_, h, rfl, fun w η ts ty ht => by simp [Builtin.len_, ht, run_und hu, SV.den, goInt]⟩
  · cases h

theorem sBuiltin_sound {P : Program} {b : Builtin} {ats : Array TypeId} {args : List SV} {K : SV → Prop} (hna : noAny args = true) (h : sBuiltin P b ats args K) :
    ∃ v, K v ∧ v.isAny = false ∧ ∀ (w : World) (η : Nat → Nat) (ty : TypeId) (cs : Array Bool), (builtin b ats ty cs (SV.dens η args).toArray).run P w = .ok (.value (v.den η)) w := by
  unfold sBuiltin at h
  split at h
  · rename_i x
    split at h
    · rename_i t r ht
      obtain ⟨v, hv, hva, hr⟩ := sLen_sound h
      refine ⟨v, hv, hva, fun w η ty cs => ?_⟩
      have h0 : ats[0]? = some t := by rw [← Array.getElem?_toList, ht]; rfl
      simp [builtin, SV.dens, hr w η ats ty h0]
    · cases h
  · rename_i x r
    obtain ⟨v, hv, hva, hr⟩ := sMins_sound r (noAny_iff hna x (by simp)) h
    exact ⟨v, hv, hva, fun w η ty cs => by simp [builtin, SV.dens, Builtin.min_, hr]⟩
  · rename_i x r
    obtain ⟨v, hv, hva, hr⟩ := sMaxs_sound r (noAny_iff hna x (by simp)) h
    exact ⟨v, hv, hva, fun w η ty cs => by simp [builtin, SV.dens, Builtin.max_, hr]⟩
  · cases h

end Go.Sx
set_option linter.unusedSimpArgs false
set_option linter.unusedVariables false
namespace Go.Sx

def ReadOk (P : Program) (w0 : World) (ts : List SV) (hp : Hp) (o : Oper) (v : SV) (nb : Option SBk) : Prop :=
  ∀ (η : Nat → Nat) (ρ : Operand → Value) (w : World), HR w0 η hp w → (∀ x ∈ o.op.operands, ρ x = (evo ts x).den η) →
    match nb with
    | none => (execOp ρ o).run P w = .ok (.value (v.den η)) w
    | some b => ∃ obj, b.Rel η obj ∧ (execOp ρ o).run P w = .ok (.value (v.den (upd η hp.length w.heap.size))) (w.alloc obj)

def opsOk (ts : List SV) (o : Oper) : Bool := noAny (o.op.operands.toList.map (evo ts))

theorem opsOk_mem {ts : List SV} {o : Oper} (h : opsOk ts o = true) {x : Operand} (hx : x ∈ o.op.operands) : (evo ts x).isAny = false :=
  noAny_iff h _ (List.mem_map_of_mem (by simpa using hx))

theorem parts_den {ts : List SV} {ρ : Operand → Value} {η : Nat → Nat} (ps : Array (Nat × Operand)) (h : ∀ p ∈ ps.toList, ρ p.2 = (evo ts p.2).den η) :
    ps.map (fun p => (p.1, ρ p.2)) = ((parts ts ps).map fun p => (p.1, p.2.den η)).toArray := by
  apply Array.toList_inj.1
  simp only [Array.toList_map, parts, List.map_map]
  apply List.map_congr_left
  intro p hp
  simp [h p hp]

theorem args_den {ts : List SV} {ρ : Operand → Value} {η : Nat → Nat} (xs : Array Operand) (h : ∀ x ∈ xs.toList, ρ x = (evo ts x).den η) :
    xs.map ρ = (SV.dens η (xs.toList.map (evo ts))).toArray := by
  apply Array.toList_inj.1
  simp only [Array.toList_map, dens_map, List.map_map]
  apply List.map_congr_left
  intro x hx
  exact h x hx

theorem execOp_v {P : Program} {w w' : World} {s : Sem Value} {v : Value} (h : s.run P w = .ok v w') : (do pure (Next.value (← s)) : Sem Next).run P w = .ok (.value v) w' := by
  simp [h]

theorem run_newVar {P : Program} {w : World} (e : TypeId) (v : Value) : (newVar e v).run P w = .ok ⟨w.heap.size, 0, none⟩ (w.alloc (.cells v.cells e)) := run_newRow _ _

theorem ptrEq_sound {x y : SV} {r : Bool} (h : ptrEq x y = some r) {P : Program} {t u : TypeId} (hu : P.underlying t = some (.pointer u)) (hi : hasInfo P u = true) (w : World) (η : Nat → Nat) (a b : Operand) (op : BinOp) (hop : op = .eql ∨ op = .neq) :
    (do eqGuard op t a b (x.den η) (y.den η); binOp op t (x.den η) (y.den η) : Sem Value).run P w = .ok (.bool (if op = .eql then r else !r)) w := by
  obtain ⟨j, hj⟩ : ∃ j, P.info? u = some j := by
    unfold hasInfo at hi
    split at hi
    · exact ⟨_, by assumption⟩
    · cases hi
  have key : ∀ d, (Op.equalIn (d + 1) t (x.den η) (y.den η)).run P w = .ok r w := by
    intro d
    unfold ptrEq at h
    split at h
    · injection h with h; subst h; simp [Op.equalIn, run_und hu, SV.den]
    · injection h with h; subst h; simp [Op.equalIn, run_und hu, SV.den]
    · injection h with h; subst h; simp [Op.equalIn, run_und hu, SV.den]
    · split at h
      · rename_i h1 h2
        have h1 := Nat.eq_of_beq_eq_true h1
        have h2 := Nat.eq_of_beq_eq_true h2
        subst h1; subst h2
        injection h with h; subst h
        simp [Op.equalIn, run_und hu, SV.den, sizeOf, typeInfo, hj, run_sameAddr_same]
      · cases h
    · cases h
  have sh : (∃ p q, x.den η = .pointer p ∧ y.den η = .pointer q) := by
    unfold ptrEq at h
    split at h <;> first | exact ⟨_, _, rfl, rfl⟩ | cases h
  obtain ⟨p, q, e1, e2⟩ := sh
  have k := key 9999
  rw [e1, e2] at k ⊢
  rcases hop with rfl | rfl <;> simp [eqGuard, binOp, Op.equal, Op.maxDepth, k]

theorem nilEq_sound {x y : SV} {r : Bool} (h : nilEq x y = some r) {P : Program} {t e : TypeId} (hu : P.underlying t = some (.slice e)) (w : World) (η : Nat → Nat) (a b : Operand) (op : BinOp) (hop : op = .eql ∨ op = .neq) :
    (do eqGuard op t a b (x.den η) (y.den η); binOp op t (x.den η) (y.den η) : Sem Value).run P w = .ok (.bool (if op = .eql then r else !r)) w := by
  have key : ∀ d (u v : Option Addr) (n c m k : Nat), (u = none ∨ v = none) → (Op.equalIn (d + 1) t (.slice u n c) (.slice v m k)).run P w = .ok (decide (u = none ∧ v = none)) w := by
    intro d u v n c m k h
    cases u <;> cases v <;> simp [Op.equalIn, run_und hu] at h ⊢
  have fin : ∀ (u v : Option Addr) (n c m k : Nat), (u = none ∨ v = none) → x.den η = .slice u n c → y.den η = .slice v m k → r = decide (u = none ∧ v = none) → (do eqGuard op t a b (x.den η) (y.den η); binOp op t (x.den η) (y.den η) : Sem Value).run P w = .ok (.bool (if op = .eql then r else !r)) w := by
    intro u v n c m k h e1 e2 e3
    rw [e1, e2, e3]
    rcases hop with rfl | rfl <;> simp [eqGuard, binOp, Op.equal, Op.maxDepth, key 9999 u v n c m k h]
  unfold nilEq at h
  split at h
  · injection h with h; exact fin _ none _ _ _ _ (.inr rfl) rfl rfl (by simp [← h])
  · injection h with h; exact fin none _ _ _ _ _ (.inl rfl) rfl rfl (by simp [← h])
  · injection h with h; exact fin none none _ _ _ _ (.inr rfl) rfl rfl (by simp [← h])
  · injection h with h; exact fin none _ _ _ _ _ (.inl rfl) rfl rfl (by simp [← h])
  · injection h with h; exact fin _ none _ _ _ _ (.inr rfl) rfl rfl (by simp [← h])
  · injection h with h; exact fin _ none _ _ _ _ (.inr rfl) rfl rfl (by simp [← h])
  · injection h with h; exact fin none _ _ _ _ _ (.inl rfl) rfl rfl (by simp [← h])
  · injection h with h; exact fin _ none _ _ _ _ (.inr rfl) rfl rfl (by simp [← h])
  · injection h with h; exact fin none _ _ _ _ _ (.inl rfl) rfl rfl (by simp [← h])
  · injection h with h; exact fin _ none _ _ _ _ (.inr rfl) rfl rfl (by simp [← h])
  · injection h with h; exact fin none _ _ _ _ _ (.inl rfl) rfl rfl (by simp [← h])
  · cases h

theorem sRead_sound {P : Program} {w0 : World} {ts : List SV} {hp : Hp} {o : Oper} {K : SV → Option SBk → Prop} (hok : opsOk ts o = true) (h : sRead P w0 ts hp o K) :
    ∃ v nb, K v nb ∧ v.isAny = false ∧ ReadOk P w0 ts hp o v nb := by
  unfold sRead at h
  split at h
  · -- move
    rename_i x hop
    refine ⟨_, _, h, opsOk_mem hok (by rw [hop]; simp [Op.operands]), fun η ρ w hr ho => ?_⟩
    have := ho x (by rw [hop]; simp [Op.operands])
    simp [execOp, hop, this]
  · rename_i x hop
    refine ⟨_, _, h, opsOk_mem hok (by rw [hop]; simp [Op.operands]), fun η ρ w hr ho => ?_⟩
    have := ho x (by rw [hop]; simp [Op.operands])
    simp [execOp, hop, this]
  · -- pick
    rename_i c a b hop
    have ma := opsOk_mem hok (x := a) (by rw [hop]; simp [Op.operands])
    have mb := opsOk_mem hok (x := b) (by rw [hop]; simp [Op.operands])
    split at h
    · rename_i hc
      refine ⟨_, _, h, ma, fun η ρ w hr ho => ?_⟩
      have e1 := ho c (by rw [hop]; simp [Op.operands])
      have e2 := ho a (by rw [hop]; simp [Op.operands])
      rw [hc] at e1
      simp [execOp, hop, e1, e2, SV.den, asBool]
    · rename_i hc
      refine ⟨_, _, h, mb, fun η ρ w hr ho => ?_⟩
      have e1 := ho c (by rw [hop]; simp [Op.operands])
      have e2 := ho b (by rw [hop]; simp [Op.operands])
      rw [hc] at e1
      simp [execOp, hop, e1, e2, SV.den, asBool]
    · rename_i t hc
      split at h
      · rename_i x y ha hb
        refine ⟨_, _, h _ rfl, rfl, fun η ρ w hr ho => ?_⟩
        have e1 := ho c (by rw [hop]; simp [Op.operands])
        have e2 := ho a (by rw [hop]; simp [Op.operands])
        have e3 := ho b (by rw [hop]; simp [Op.operands])
        rw [hc] at e1; rw [ha] at e2; rw [hb] at e3
        cases t <;> simp [execOp, hop, e1, e2, e3, SV.den, asBool]
      · cases t with
        | true =>
          refine ⟨_, _, h.1 rfl, ma, fun η ρ w hr ho => ?_⟩
          have e1 := ho c (by rw [hop]; simp [Op.operands])
          have e2 := ho a (by rw [hop]; simp [Op.operands])
          rw [hc] at e1
          simp [execOp, hop, e1, e2, SV.den, asBool]
        | false =>
          refine ⟨_, _, h.2 rfl, mb, fun η ρ w hr ho => ?_⟩
          have e1 := ho c (by rw [hop]; simp [Op.operands])
          have e2 := ho b (by rw [hop]; simp [Op.operands])
          rw [hc] at e1
          simp [execOp, hop, e1, e2, SV.den, asBool]
    · cases h
  · -- alloc
    rename_i e hop
    split at h
    · rename_i z hz
      refine ⟨_, _, h, rfl, fun η ρ w hr ho => ⟨.cells z.cells e, ⟨_, _, by have := cells_den (ofValA_ne_any z) η; rw [den_ofValA] at this; exact this.toT, FzOk.zero, rfl⟩, ?_⟩⟩
      simp [execOp, hop, Instr.alloc, run_zeroOf hz, run_newVar, SV.den, upd_same]
    · cases h
  · -- box
    rename_i e x hop
    have mx := opsOk_mem hok (x := x) (by rw [hop]; simp [Op.operands])
    refine ⟨_, _, h, rfl, fun η ρ w hr ho => ⟨.cells ((evo ts x).den η).cells e, ⟨_, _, (cells_den mx η).toT, FzOk.zero, rfl⟩, ?_⟩⟩
    have e1 := ho x (by rw [hop]; simp [Op.operands])
    simp [execOp, hop, Instr.box, run_newVar, SV.den, upd_same, e1]
  · -- build
    rename_i t ps hop
    obtain ⟨v, hv, hva, hr⟩ := sBuild_sound h
    refine ⟨v, none, hv, hva, fun η ρ w hw ho => ?_⟩
    have := parts_den (ρ := ρ) (ts := ts) (η := η) ps (fun p hp => ho p.2 (by rw [hop]; simp only [Op.operands]; simp; exact ⟨p.1, by simpa using hp⟩))
    have hb := hr w η
    rw [← this] at hb
    simp only [execOp, hop]
    exact execOp_v hb
  · -- buildSlice
    rename_i t len ps hop
    obtain ⟨b, hv, hr⟩ := sBuildSlice_sound h
    refine ⟨_, _, hv, rfl, fun η ρ w hw ho => ?_⟩
    have := parts_den (ρ := ρ) (ts := ts) (η := η) ps (fun p hp => ho p.2 (by rw [hop]; simp only [Op.operands]; simp; exact ⟨p.1, by simpa using hp⟩))
    obtain ⟨obj, ho1, hb⟩ := hr w η
    rw [← this] at hb
    refine ⟨obj, ho1, ?_⟩
    simp only [execOp, hop]
    rw [SV.den, upd_same]
    exact execOp_v hb
  · -- load
    rename_i t a hop
    obtain ⟨v, hv, hva, hr⟩ := sLoad_sound h
    refine ⟨v, none, hv, hva, fun η ρ w hw ho => ?_⟩
    have e1 := ho a (by rw [hop]; simp [Op.operands])
    simp only [execOp, hop, e1]
    exact execOp_v (hr w η hw)
  · -- nilCheck
    rename_i x hop
    split at h
    · rename_i b of hx
      refine ⟨_, _, h, rfl, fun η ρ w hw ho => ?_⟩
      have e1 := ho x (by rw [hop]; simp [Op.operands])
      rw [hx] at e1
      simp [execOp, hop, e1, SV.den]
    · rename_i b i z of hx
      refine ⟨_, _, h, rfl, fun η ρ w hw ho => ?_⟩
      have e1 := ho x (by rw [hop]; simp [Op.operands])
      rw [hx] at e1
      simp [execOp, hop, e1, SV.den]
    · rename_i a i of fs hx
      refine ⟨_, _, h, rfl, fun η ρ w hw ho => ?_⟩
      have e1 := ho x (by rw [hop]; simp [Op.operands])
      rw [hx] at e1
      simp [execOp, hop, e1, SV.den]
    · rename_i f c hx
      refine ⟨_, _, h, rfl, fun η ρ w hw ho => ?_⟩
      have e1 := ho x (by rw [hop]; simp [Op.operands])
      rw [hx] at e1
      simp [execOp, hop, e1, SV.den]
    · rename_i f c hx
      refine ⟨_, _, h, rfl, fun η ρ w hw ho => ?_⟩
      have e1 := ho x (by rw [hop]; simp [Op.operands])
      rw [hx] at e1
      simp [execOp, hop, e1, SV.den]
    · rename_i a hx
      refine ⟨_, _, h, rfl, fun η ρ w hw ho => ?_⟩
      have e1 := ho x (by rw [hop]; simp [Op.operands])
      rw [hx] at e1
      simp [execOp, hop, e1, SV.den]
    · cases h
  · -- binOp
    rename_i op t x y ty hop
    have e1 : ∀ η (ρ : Operand → Value), (∀ z ∈ o.op.operands, ρ z = (evo ts z).den η) → ρ x = (evo ts x).den η := fun η ρ ho => ho x (by rw [hop]; simp [Op.operands])
    have e2 : ∀ η (ρ : Operand → Value), (∀ z ∈ o.op.operands, ρ z = (evo ts z).den η) → ρ y = (evo ts y).den η := fun η ρ ho => ho y (by rw [hop]; simp [Op.operands])
    unfold sBin at h
    split at h
    · rename_i k a k' b hx hy
      obtain ⟨v, hv, hva, hr⟩ := sInt_sound h
      refine ⟨v, none, hv, hva, fun η ρ w hw ho => ?_⟩
      have e1 := e1 η ρ ho; have e2 := e2 η ρ ho
      rw [hx] at e1; rw [hy] at e2
      simp only [execOp, hop, e1, e2, SV.den]
      have hg : (eqGuard op t x y (.int k a.val) (.int k' b.val)).run P w = .ok () w := by cases op <;> simp [eqGuard]
      exact execOp_v (by simp [hg, hr P w t η])
    · rename_i a b hx hy
      obtain ⟨v, hv, hva, hr⟩ := sStr_sound h
      refine ⟨v, none, hv, hva, fun η ρ w hw ho => ?_⟩
      have e1 := e1 η ρ ho; have e2 := e2 η ρ ho
      rw [hx] at e1; rw [hy] at e2
      simp only [execOp, hop, e1, e2, SV.den]
      have hg : (eqGuard op t x y (.string a.val) (.string b.val)).run P w = .ok () w := by cases op <;> simp [eqGuard]
      exact execOp_v (by simp [hg, hr P w t η])
    · rename_i a b hx hy
      split at h
      · split at h
        · rename_i hu
          refine ⟨_, none, h _ rfl, rfl, fun η ρ w hw ho => ?_⟩
          have e1 := e1 η ρ ho; have e2 := e2 η ρ ho
          rw [hx] at e1; rw [hy] at e2
          simp only [execOp, hop, e1, e2, SV.den]
          exact execOp_v (by simp [eqGuard, binOp, Op.equal, Op.maxDepth, run_equalIn_bool' w 9999 t a.val b.val hu])
        · cases h
      · split at h
        · rename_i hu
          refine ⟨_, none, h _ rfl, rfl, fun η ρ w hw ho => ?_⟩
          have e1 := e1 η ρ ho; have e2 := e2 η ρ ho
          rw [hx] at e1; rw [hy] at e2
          simp only [execOp, hop, e1, e2, SV.den]
          exact execOp_v (by simp [eqGuard, binOp, Op.equal, Op.maxDepth, run_equalIn_bool' w 9999 t a.val b.val hu])
        · cases h
      · cases h
    · rename_i xs ys hx hy
      split at h
      · cases h
      · rename_i hg0
        split at h
        · split at h
          · rename_i r hr
            refine ⟨_, none, h _ rfl, rfl, fun η ρ w hw ho => ?_⟩
            have e1 := e1 η ρ ho; have e2 := e2 η ρ ho
            rw [hx] at e1; rw [hy] at e2
            have hq := sEqv_sound (η := η) 10000 t _ _ r hr w
            simp only [execOp, hop, e1, e2, SV.den] at hq ⊢
            exact execOp_v (by simp only [Sem.run_bind, run_eqGuard_agg w .eql t x y _ _ hg0, Result.andThen_ok, run_eql_struct, hq]; rfl)
          · cases h
        · split at h
          · rename_i r hr
            refine ⟨_, none, h _ rfl, rfl, fun η ρ w hw ho => ?_⟩
            have e1 := e1 η ρ ho; have e2 := e2 η ρ ho
            rw [hx] at e1; rw [hy] at e2
            have hq := sEqv_sound (η := η) 10000 t _ _ r hr w
            simp only [execOp, hop, e1, e2, SV.den] at hq ⊢
            exact execOp_v (by simp only [Sem.run_bind, run_eqGuard_agg w .neq t x y _ _ hg0, Result.andThen_ok, run_neq_struct, hq]; rfl)
          · cases h
        · cases h
    · split at h
      · rename_i r e hn hu
        split at h
        · refine ⟨_, none, h, rfl, fun η ρ w hw ho => ?_⟩
          have e1 := e1 η ρ ho; have e2 := e2 η ρ ho
          simp only [execOp, hop, e1, e2]
          exact execOp_v (by simpa [SV.den] using nilEq_sound hn hu w η x y .eql (.inl rfl))
        · refine ⟨_, none, h, rfl, fun η ρ w hw ho => ?_⟩
          have e1 := e1 η ρ ho; have e2 := e2 η ρ ho
          simp only [execOp, hop, e1, e2]
          exact execOp_v (by simpa [SV.den] using nilEq_sound hn hu w η x y .neq (.inr rfl))
        · cases h
      · rename_i u hn hu
        split at h
        · rename_i r hi hp
          split at h
          · refine ⟨_, none, h, rfl, fun η ρ w hw ho => ?_⟩
            have e1 := e1 η ρ ho; have e2 := e2 η ρ ho
            simp only [execOp, hop, e1, e2]
            exact execOp_v (by simpa [SV.den] using ptrEq_sound hp hu hi w η x y .eql (.inl rfl))
          · refine ⟨_, none, h, rfl, fun η ρ w hw ho => ?_⟩
            have e1 := e1 η ρ ho; have e2 := e2 η ρ ho
            simp only [execOp, hop, e1, e2]
            exact execOp_v (by simpa [SV.den] using ptrEq_sound hp hu hi w η x y .neq (.inr rfl))
          · cases h
        · cases h
      · cases h
  · -- unOp
    rename_i op ty x hop
    obtain ⟨v, hv, hva, hr⟩ := sUn_sound h
    refine ⟨v, none, hv, hva, fun η ρ w hw ho => ?_⟩
    have e1 := ho x (by rw [hop]; simp [Op.operands])
    simp only [execOp, hop, e1]
    exact execOp_v (hr P w η)
  · -- convert
    rename_i s d x hop
    obtain ⟨v, hv, hva, hr⟩ := sConv_sound h
    refine ⟨v, none, hv, hva, fun η ρ w hw ho => ?_⟩
    have e1 := ho x (by rw [hop]; simp [Op.operands])
    simp only [execOp, hop, e1]
    exact execOp_v (hr w η)
  · -- makeFunc
    rename_i fn first cap hop
    split at h
    · rename_i v hv
      unfold sFn at hv
      split at hv
      · rename_i f hfirst
        injection hv with hv; subst hv
        refine ⟨_, none, h, rfl, fun η ρ w hw ho => ?_⟩
        have hc := args_den (ρ := ρ) (ts := ts) (η := η) cap (fun x hx => ho x (by rw [hop]; simp [Op.operands]; right; simpa using hx))
        have hf : first.map ρ = #[] := by
          have : first.toList = [] := by simpa using hfirst
          have : first = #[] := Array.toList_inj.1 (by simpa using this)
          subst this; simp
        simp only [execOp, hop]
        exact execOp_v (by simp [Instr.makeFunc, hc, hf, SV.den])
      · rename_i f r rs hfirst
        split at hv
        · rename_i hcap
          injection hv with hv; subst hv
          refine ⟨_, none, h, rfl, fun η ρ w hw ho => ?_⟩
          have hf := args_den (ρ := ρ) (ts := ts) (η := η) first (fun x hx => ho x (by rw [hop]; simp [Op.operands]; left; simpa using hx))
          have hc : cap.map ρ = #[] := by
            have : cap.toList = [] := by simpa using hcap
            have : cap = #[] := Array.toList_inj.1 (by simpa using this)
            subst this; simp
          rw [hfirst] at hf
          simp only [execOp, hop]
          exact execOp_v (by simp [Instr.makeFunc, hc, hf, SV.den])
        · cases hv
      · cases hv
    · cases h
  · -- makeSlice
    rename_i t l c hop
    obtain ⟨v, b, hv, hva, hr⟩ := sMakeSlice_sound h
    refine ⟨_, _, hv, hva, fun η ρ w hw ho => ?_⟩
    have e1 := ho l (by rw [hop]; simp [Op.operands])
    have e2 := ho c (by rw [hop]; simp [Op.operands])
    obtain ⟨obj, ho1, hb⟩ := hr w η
    refine ⟨obj, ho1, ?_⟩
    simp only [execOp, hop, e1, e2]
    exact execOp_v hb
  · -- slice
    rename_i t x lo hi mx hop
    obtain ⟨v, hv, hva, hr⟩ := sSlice_sound (w0 := w0) h
    refine ⟨v, none, hv, hva, fun η ρ w hw ho => ?_⟩
    have e1 := ho x (by rw [hop]; simp [Op.operands])
    have e2 : ∀ (u : Option Operand), (∀ y, u = some y → y ∈ o.op.operands) → u.map ρ = (u.map (evo ts)).map (SV.den η) := fun u hu => by
      cases u with
      | none => rfl
      | some y => simp [ho y (hu y rfl)]
    have f1 := e2 lo (fun y hy => by rw [hop]; simp [Op.operands, hy])
    have f2 := e2 hi (fun y hy => by rw [hop]; simp [Op.operands, hy])
    have f3 := e2 mx (fun y hy => by rw [hop]; simp [Op.operands, hy])
    simp only [execOp, hop, e1, f1, f2, f3]
    exact execOp_v (hr w η hw)
  · -- fieldAddr
    rename_i t x f hop
    split at h
    · rename_i fd hfd
      split at h
      · rename_i z hz
        have hu : ∃ fs, P.underlying t = some (.struct fs) ∧ fs[f]? = some fd := by
          unfold fieldOf at hfd
          split at hfd
          · rename_i fs hu; exact ⟨fs, hu, by simpa using hfd⟩
          · cases hfd
        obtain ⟨fs, hu, hfs⟩ := hu
        split at h
        · rename_i b of hz0 hx
          have hz0 := Nat.ne_of_beq_eq_false hz0
          refine ⟨_, none, h, rfl, fun η ρ w hw ho => ?_⟩
          have e1 := ho x (by rw [hop]; simp [Op.operands])
          rw [hx] at e1
          simp only [execOp, hop, e1]
          exact execOp_v (by simp [Instr.fieldAt, run_und hu, hfs, SV.den, Instr.sureAddr, fieldPlace, run_szOf hz, hz0, add_ptr])
        · rename_i a hz0 hx
          have hz0 := Nat.ne_of_beq_eq_false hz0
          refine ⟨_, none, h, rfl, fun η ρ w hw ho => ?_⟩
          have e1 := ho x (by rw [hop]; simp [Op.operands])
          rw [hx] at e1
          simp only [execOp, hop, e1]
          exact execOp_v (by simp [Instr.fieldAt, run_und hu, hfs, SV.den, Instr.sureAddr, fieldPlace, run_szOf hz, hz0])
        · rename_i b i z of hz0 hx
          have hz0 := Nat.ne_of_beq_eq_false hz0
          refine ⟨_, none, h, rfl, fun η ρ w hw ho => ?_⟩
          have e1 := ho x (by rw [hop]; simp [Op.operands])
          rw [hx] at e1
          simp only [execOp, hop, e1]
          exact execOp_v (by simp [Instr.fieldAt, run_und hu, hfs, SV.den, Instr.sureAddr, fieldPlace, run_szOf hz, hz0, add_ptr, Nat.add_assoc])
        · rename_i a i of fs hz0 hx
          have hz0 := Nat.ne_of_beq_eq_false hz0
          refine ⟨_, none, h, rfl, fun η ρ w hw ho => ?_⟩
          have e1 := ho x (by rw [hop]; simp [Op.operands])
          rw [hx] at e1
          simp only [execOp, hop, e1]
          exact execOp_v (by simp [Instr.fieldAt, run_und hu, hfs, SV.den, Instr.sureAddr, fieldPlace, run_szOf hz, hz0, addr_add_add, Nat.add_assoc])
        · cases h
      · cases h
    · cases h
  · -- field
    rename_i t x f hop
    split at h
    · rename_i cs fd hx hfd
      split at h
      · rename_i v hv
        have hu : ∃ fs, P.underlying t = some (.struct fs) ∧ fs[f]? = some fd := by
          unfold fieldOf at hfd
          split at hfd
          · rename_i fs hu; exact ⟨fs, hu, by simpa using hfd⟩
          · cases hfd
        obtain ⟨fs, hu, hfs⟩ := hu
        have hva : v.isAny = false := by
          unfold sPart at hv
          split at hv
          · split at hv
            · injection hv with hv; subst hv; rfl
            · cases hv
          · split at hv
            · cases hv
            · injection hv with hv; subst hv
              rename_i hne
              cases hc : nth cs fd.offset <;> first | rfl | exact absurd hc hne
          · cases hv
        refine ⟨v, none, h, hva, fun η ρ w hw ho => ?_⟩
        have e1 := ho x (by rw [hop]; simp [Op.operands])
        rw [hx] at e1
        simp only [execOp, hop, e1]
        exact execOp_v (by simp [Instr.field, run_und hu, hfs, SV.den, asAgg, run_part hv])
      · cases h
    · cases h
  · -- indexAddr
    rename_i t x i hop
    obtain ⟨v, hv, hva, hr⟩ := sIndexAddr_sound h
    refine ⟨v, none, hv, hva, fun η ρ w hw ho => ?_⟩
    have e1 := ho x (by rw [hop]; simp [Op.operands])
    have e2 := ho i (by rw [hop]; simp [Op.operands])
    simp only [execOp, hop, e1, e2]
    exact execOp_v (hr w η)
  · -- index
    rename_i t x i hop
    obtain ⟨v, hv, hva, hr⟩ := sIndex_sound h
    refine ⟨v, none, hv, hva, fun η ρ w hw ho => ?_⟩
    have e1 := ho x (by rw [hop]; simp [Op.operands])
    have e2 := ho i (by rw [hop]; simp [Op.operands])
    simp only [execOp, hop, e1, e2]
    exact execOp_v (hr w η)
  · -- sliceToArrayPointer
    rename_i t x hop
    split at h
    · rename_i n e b of len c hu hx
      split at h
      · rename_i hle
        have hle := Nat.le_of_ble_eq_true hle
        refine ⟨_, none, h, rfl, fun η ρ w hw ho => ?_⟩
        have e1 := ho x (by rw [hop]; simp [Op.operands])
        rw [hx] at e1
        have hlt : ¬ (len < n) := by omega
        simp only [execOp, hop, e1]
        exact execOp_v (by simp [Instr.arrayAt, run_und hu, SV.den, hlt])
      · cases h
    · cases h
  · -- extract
    rename_i t i hop
    split at h
    · rename_i vs ht
      split at h
      · cases h
      · rename_i hv
        refine ⟨_, none, h, by cases hc : nth vs i <;> first | rfl | exact absurd hc hv, fun η ρ w hw ho => ?_⟩
        have e1 := ho t (by rw [hop]; simp [Op.operands])
        rw [ht] at e1
        have hg : (SV.dens η vs).toArray[i]? = some ((nth vs i).den η) := (LRel.of_dens (η := η) (l := vs)).nth rfl hv
        simp only [execOp, hop, e1]
        exact execOp_v (by simp only [Instr.extract, SV.den, hg]; rfl)
    · cases h
  · -- builtin
    rename_i c hop
    split at h
    · rename_i b hcal
      have hna : noAny (c.args.toList.map (evo ts)) = true := by
        have := hok
        simpa only [opsOk, hop, Op.operands, Call.operands, hcal, Array.empty_append] using this
      obtain ⟨v, hv, hva, hr⟩ := sBuiltin_sound hna h
      refine ⟨v, none, hv, hva, fun η ρ w hw ho => ?_⟩
      have hc := args_den (ρ := ρ) (ts := ts) (η := η) c.args (fun x hx => ho x (by rw [hop]; simp only [Op.operands, Call.operands, hcal, Array.empty_append]; simpa using hx))
      simp only [execOp, hop, resolve, hcal, hc]
      simp only [Sem.run_bind, Sem.run_pure, Result.andThen_ok, invoke]
      exact hr w η _ _
    · cases h
  · cases h

end Go.Sx
