import Derived.Test.YtaaobpalpcdlbaaSxB
import Derived.Laws.StructEq
set_option linter.unusedSimpArgs false
set_option linter.unusedVariables false
namespace Go.Sx

section
variable {P : Program} {w : World} {t : TypeId}

theorem run_und {d : TypeDesc} (h : P.underlying t = some d) : (underlying t).run P w = .ok d w := by
  simp [underlying, program, Sem.run, h, bind, Sem.bind, pure]
theorem run_szOf {n : Nat} (h : szOf P t = some n) : (sizeOf t).run P w = .ok n w := by
  unfold szOf at h
  split at h
  · rename_i i hi; injection h with h; subst h
    simp [sizeOf, typeInfo, program, Sem.run, hi, bind, Sem.bind, pure]
  · cases h
theorem run_bytesOf {n : Nat} (h : bytesOf P t = some n) : ∃ i, (typeInfo t).run P w = .ok i w ∧ i.bytes = n := by
  unfold bytesOf at h
  split at h
  · rename_i i hi; injection h with h
    exact ⟨i, by simp [typeInfo, program, Sem.run, hi, bind, Sem.bind, pure], h⟩
  · cases h
theorem run_zeroOf {z : Value} (h : zeroOf P t = some z) : (zeroValue t).run P w = .ok z w := by
  unfold zeroOf at h
  split at h
  · rename_i i hi
    simp [zeroValue, typeInfo, program, Sem.run, hi, h, bind, Sem.bind, pure]
  · cases h
theorem run_aggOf {b : Bool} (h : aggOf P t = some b) : (isAgg t).run P w = .ok b w := by
  unfold aggOf at h
  simp only [isAgg, bind, Sem.run_bind']
  split at h <;> first | (cases h; done) | skip
  · rename_i fs hu; injection h with h; subst h; rw [run_und hu]; simp [pure, Sem.run]
  · rename_i n e hu; injection h with h; subst h; rw [run_und hu]; simp [pure, Sem.run]
  · rename_i d h1 h2 hu; injection h with h; subst h; rw [run_und hu]
    cases d <;> simp_all [pure, Sem.run]
end

theorem let2_sound {k : IntKind} {f : Int → Int → Int} {a b : SI} {K : SV → Prop} (h : let2 k f a b K) :
    ∃ s : SI, K (.int k s) ∧ s.val = f a.val b.val := by
  unfold let2 at h
  split at h
  · exact ⟨_, h, rfl⟩
  all_goals exact ⟨_, h _ rfl, rfl⟩
theorem letB2_sound {f : Int → Int → Bool} {a b : SI} {K : SV → Prop} (h : letB2 f a b K) :
    ∃ s : SB, K (.bool s) ∧ s.val = f a.val b.val := by
  unfold letB2 at h
  split at h
  · exact ⟨_, h, rfl⟩
  all_goals exact ⟨_, h _ rfl, rfl⟩
theorem owe_sound {f : Int → Bool} {a : SI} {X : Prop} (h : owe f a X) : f a.val = true ∧ X := by
  unfold owe at h
  split at h
  · split at h
    · exact ⟨by assumption, h⟩
    · cases h
  · exact h

theorem sInt_sound {op : BinOp} {k k' : IntKind} {a b : SI} {K : SV → Prop} (h : sInt op k a k' b K) :
    ∃ v, K v ∧ v.isAny = false ∧ ∀ (P : Program) (w : World) (t : TypeId) (η : Nat → Nat), (binOp op t (.int k a.val) (.int k' b.val)).run P w = .ok (v.den η) w := by
  unfold sInt at h
  split at h
  · obtain ⟨h0, h⟩ := owe_sound h
    obtain ⟨s, hs, e⟩ := let2_sound h
    have h0 : 0 ≤ b.val := of_decide_eq_true h0
    exact ⟨_, hs, rfl, fun P w t η => by simp [binOp, Op.shift, show ¬ b.val < 0 by omega, pure, Sem.run, SV.den, e, shlI]⟩
  · obtain ⟨h0, h⟩ := owe_sound h
    obtain ⟨s, hs, e⟩ := let2_sound h
    have h0 : 0 ≤ b.val := of_decide_eq_true h0
    exact ⟨_, hs, rfl, fun P w t η => by simp [binOp, Op.shift, show ¬ b.val < 0 by omega, pure, Sem.run, SV.den, e, shrI]⟩
  · split at h
    · cases h
    · rename_i hk
      have hk := of_decide_eq_true hk
      subst hk
      split at h
      case h_1 => obtain ⟨s, hs, e⟩ := let2_sound h; exact ⟨_, hs, rfl, fun P w t η => by simp [binOp, Op.intArith, pure, Sem.run, SV.den, e]⟩
      case h_2 => obtain ⟨s, hs, e⟩ := let2_sound h; exact ⟨_, hs, rfl, fun P w t η => by simp [binOp, Op.intArith, pure, Sem.run, SV.den, e]⟩
      case h_3 => obtain ⟨s, hs, e⟩ := let2_sound h; exact ⟨_, hs, rfl, fun P w t η => by simp [binOp, Op.intArith, pure, Sem.run, SV.den, e]⟩
      case h_4 =>
        obtain ⟨h0, h⟩ := owe_sound h; obtain ⟨s, hs, e⟩ := let2_sound h
        exact ⟨_, hs, rfl, fun P w t η => by simp at h0; simp [binOp, Op.intDiv, h0, pure, Sem.run, SV.den, e]⟩
      case h_5 =>
        obtain ⟨h0, h⟩ := owe_sound h; obtain ⟨s, hs, e⟩ := let2_sound h
        exact ⟨_, hs, rfl, fun P w t η => by simp at h0; simp [binOp, Op.intDiv, h0, pure, Sem.run, SV.den, e]⟩
      case h_6 => obtain ⟨s, hs, e⟩ := let2_sound h; exact ⟨_, hs, rfl, fun P w t η => by simp [binOp, Op.intBits, pure, Sem.run, SV.den, e, bitI]⟩
      case h_7 => obtain ⟨s, hs, e⟩ := let2_sound h; exact ⟨_, hs, rfl, fun P w t η => by simp [binOp, Op.intBits, pure, Sem.run, SV.den, e, bitI]⟩
      case h_8 => obtain ⟨s, hs, e⟩ := let2_sound h; exact ⟨_, hs, rfl, fun P w t η => by simp [binOp, Op.intBits, pure, Sem.run, SV.den, e, bitI]⟩
      case h_9 => obtain ⟨s, hs, e⟩ := let2_sound h; exact ⟨_, hs, rfl, fun P w t η => by simp [binOp, Op.intBits, pure, Sem.run, SV.den, e, bitI]⟩
      case h_16 => cases h
      all_goals (obtain ⟨s, hs, e⟩ := letB2_sound h; exact ⟨_, hs, rfl, fun P w t η => by simp [binOp, Op.intCmp, pure, Sem.run, SV.den, e]⟩)

theorem sStr_sound {op : BinOp} {a b : SS} {K : SV → Prop} (h : sStr op a b K) :
    ∃ v, K v ∧ v.isAny = false ∧ ∀ (P : Program) (w : World) (t : TypeId) (η : Nat → Nat), (binOp op t (.string a.val) (.string b.val)).run P w = .ok (v.den η) w := by
  unfold sStr at h
  split at h
  · obtain ⟨h0, h⟩ := h
    have key : ∀ (P : Program) (w : World) (t : TypeId), (binOp .add t (.string a.val) (.string b.val)).run P w = .ok (.string (a.val ++ b.val)) w := by
      intro P w t
      have : ¬ ((a.val.size + b.val.size : Nat) : Int) > IntKind.i64.max := by
        have e : IntKind.i64.max = 9223372036854775807 := by decide
        rw [e]; omega
      simp only [binOp, Op.stringOp, this, if_false, pure, Sem.run]
    split at h
    · exact ⟨_, h, rfl, fun P w t η => key P w t⟩
    · exact ⟨.str (.sym (a.val ++ b.val)), h _ rfl, rfl, fun P w t η => key P w t⟩
  · exact ⟨.bool (.sym (a.val == b.val)), h _ rfl, rfl, fun P w t η => by simp [binOp, Op.stringOp, pure, Sem.run, SV.den, SB.val, beq_toListBytes]⟩
  · exact ⟨.bool (.sym (!(a.val == b.val))), h _ rfl, rfl, fun P w t η => by simp [binOp, Op.stringOp, pure, Sem.run, SV.den, SB.val, beq_toListBytes]⟩
  · cases h

theorem dens_take_drop (η : Nat → Nat) (cs : List SV) (o n : Nat) : (SV.dens η cs).toArray.extract o (o + n) = (SV.dens η ((cs.drop o).take n)).toArray := by
  rw [dens_map, dens_map]
  simp

theorem run_part {P : Program} {t : TypeId} {cs : List SV} {off : Nat} {v : SV} (h : sPart P t cs off = some v) (η : Nat → Nat) (w : World) :
    (part t (SV.dens η cs).toArray off).run P w = .ok (v.den η) w := by
  unfold sPart at h
  split at h
  · rename_i n ha hs
    split at h
    · injection h with h; subst h
      simp only [part, bind, Sem.run_bind', run_aggOf ha, Result.andThen_ok, if_true, run_szOf hs, pure, Sem.run, SV.den]
      rw [dens_take_drop]
    · cases h
  · rename_i hs ha
    split at h
    · cases h
    · rename_i hv
      injection h with h; subst h
      have hg : (SV.dens η cs).toArray[off]? = some ((nth cs off).den η) := by
        have : LRel η cs (SV.dens η cs).toArray := LRel.of_dens
        exact this.nth rfl hv
      simp only [part, bind, Sem.run_bind', run_aggOf ‹aggOf P t = some false›, Result.andThen_ok, Bool.false_eq_true, if_false, hg, pure, Sem.run]
  · cases h

theorem eqFs_sound {P : Program} {d : Nat} {rec : TypeId → SV → SV → Option Bool} {η : Nat → Nat}
    (hrec : ∀ t x y r, rec t x y = some r → ∀ w, (Op.equalIn d t (x.den η) (y.den η)).run P w = .ok r w) {xs ys : List SV} :
    ∀ (fs : List Field) (r : Bool), eqFs P rec xs ys fs = some r → ∀ w, (Op.eqFields d (SV.dens η xs).toArray (SV.dens η ys).toArray fs).run P w = .ok r w
  | [], r, h, w => by simp only [eqFs] at h; injection h with h; subst h; simp [Op.eqFields, pure, Sem.run]
  | f :: fs, r, h, w => by
    simp only [eqFs] at h
    split at h
    · rename_i hn
      have hn := of_decide_eq_true hn
      simp only [Op.eqFields, hn, ne_eq, not_true, if_false]
      exact eqFs_sound hrec fs r h w
    · rename_i hn
      have hn := of_decide_eq_false hn
      split at h
      · rename_i a b ha hb
        split at h
        · rename_i r1 s1 hr hs
          injection h with h; subst h
          simp only [Op.eqFields, ne_eq, hn, not_false_iff, if_true, bind, Sem.run_bind', run_part ha, run_part hb, Result.andThen_ok, hrec _ _ _ _ hr]
          cases r1
          · simp [pure, Sem.run]
          · simp only [Bool.not_true, Bool.false_eq_true, if_false, Bool.true_and]
            exact eqFs_sound hrec fs s1 hs w
        · cases h
      · cases h

theorem eqAs_sound {P : Program} {d : Nat} {e : TypeId} {n : Nat} {rec : SV → SV → Option Bool} {η : Nat → Nat}
    (hrec : ∀ x y r, rec x y = some r → ∀ w, (Op.equalIn d e (x.den η) (y.den η)).run P w = .ok r w) {xs ys : List SV} :
    ∀ (m i : Nat) (r : Bool), eqAs P rec e n xs ys i m = some r → ∀ w,
      (forIn (m := Sem) (List.range' i m) ((none, ()) : Option Bool × Unit) fun i _ => do
        let a ← part e (SV.dens η xs).toArray (i * n)
        let b ← part e (SV.dens η ys).toArray (i * n)
        let q ← Op.equalIn d e a b
        if (!q) = true then pure (ForInStep.done (some false, ())) else pure (ForInStep.yield (none, ()))).run P w
        = .ok (if r then (none, ()) else (some false, ())) w
  | 0, i, r, h, w => by simp only [eqAs] at h; injection h with h; subst h; simp [pure, Sem.run]
  | m + 1, i, r, h, w => by
    simp only [eqAs] at h
    split at h
    · rename_i a b ha hb
      split at h
      · rename_i r1 s1 hr hs
        injection h with h; subst h
        have ih := eqAs_sound hrec m (i + 1) s1 hs w
        simp only [List.range'_succ, List.forIn_cons]
        simp only [bind, Sem.run_bind', run_part ha, run_part hb, Result.andThen_ok, hrec _ _ _ hr]
        cases r1
        · simp [pure, Sem.run]
        · simp only [Bool.not_true, Bool.false_eq_true, if_false, Bool.true_and, pure, Sem.run, Result.andThen_ok]
          exact ih
      · cases h
    · cases h

theorem sEqv_sound {P : Program} {η : Nat → Nat} : ∀ (d : Nat) (t : TypeId) (x y : SV) (r : Bool), sEqv P d t x y = some r →
    ∀ w, (Op.equalIn d t (x.den η) (y.den η)).run P w = .ok r w
  | 0, t, x, y, r, h, w => by simp [sEqv] at h
  | d + 1, t, x, y, r, h, w => by
    simp only [sEqv] at h
    split at h
    · rename_i k0 k a k' b hu
      split at h
      · rename_i hk; have hk := of_decide_eq_true hk; subst hk
        injection h with h; subst h
        exact run_equalIn_int w d t _ _ _ _ hu
      · cases h
    · rename_i a b hu; injection h with h; subst h; exact run_equalIn_bool' w d t _ _ hu
    · rename_i a b hu; injection h with h; subst h
      simp only [SV.den]; rw [run_equalIn_string w d t _ _ hu, beq_toListBytes]
    · rename_i fs xs ys hu
      split at h
      · cases h
      · rename_i hst
        have hf : P.fieldsOf t = fs := by simp [Program.fieldsOf, hu]
        simp only [SV.den]
        rw [run_equalIn_struct w d t _ _ (by rw [hf]; exact hu) hst, hf]
        exact eqFs_sound (fun t x y r hr w => sEqv_sound d t x y r hr w) _ _ h w
    · rename_i n e xs ys hu
      split at h
      · rename_i z hz
        have := eqAs_sound (P := P) (d := d) (e := e) (n := z) (η := η) (fun x y r hr w => sEqv_sound d e x y r hr w) n 0 r h w
        simp only [SV.den, Op.equalIn, bind, Sem.run_bind', run_und hu, Result.andThen_ok, run_szOf hz]
        have hfi : ∀ (f : Nat → Option Bool × Unit → Sem (ForInStep (Option Bool × Unit))), (forIn (m := Sem) [0:n] ((none, ()) : Option Bool × Unit) f) = forIn (List.range' 0 n) (none, ()) f := by
          intro f; rw [Std.Legacy.Range.forIn_eq_forIn_range']; simp [Std.Legacy.Range.size]
        simp only [bind] at this
        rw [hfi, this]
        cases r <;> simp [pure, Sem.run]
      · cases h
    · cases h

end Go.Sx
