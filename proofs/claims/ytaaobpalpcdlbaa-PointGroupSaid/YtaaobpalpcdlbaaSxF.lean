import Derived.Test.YtaaobpalpcdlbaaSxE
set_option linter.unusedSimpArgs false
set_option linter.unusedVariables false
namespace Go.Sx

def ReadOk (P : Program) (w0 : World) (ts : List SV) (hp : Hp) (o : Oper) (v : SV) (nb : Option SBk) : Prop :=
  ∀ (η : Nat → Nat) (ρ : Operand → Value) (w : World), HR w0 η hp w → (∀ x ∈ o.op.operands, ρ x = (evo ts x).den η) →
    match nb with
    | none => (execOp ρ o).run P w = .ok (.value (v.den η)) w
    | some b => ∃ obj, b.Rel η obj ∧ (execOp ρ o).run P w = .ok (.value (v.den (upd η hp.length w.heap.size))) (w.alloc obj)

def opsOk (ts : List SV) (o : Oper) : Bool := noAny (o.op.operands.toList.map (evo ts))

theorem opsOk_mem {ts : List SV} {o : Oper} (h : opsOk ts o = true) {x : Operand} (hx : x ∈ o.op.operands) : (evo ts x).isAny = false :=
  noAny_iff h _ (List.mem_map_of_mem (by simpa using hx))

theorem parts_den {ts : List SV} {ρ : Operand → Value} {η : Nat → Nat} (ps : Array (Nat × Operand)) (h : ∀ p ∈ ps.toList, ρ p.2 = (evo ts p.2).den η) :
    ps.map (fun p => (p.1, ρ p.2)) = ((parts ts ps).map fun p => (p.1, p.2.den η)).toArray := by
  apply Array.toList_inj.1
  simp only [Array.toList_map, parts, List.map_map]
  apply List.map_congr_left
  intro p hp
  simp [h p hp]

theorem args_den {ts : List SV} {ρ : Operand → Value} {η : Nat → Nat} (xs : Array Operand) (h : ∀ x ∈ xs.toList, ρ x = (evo ts x).den η) :
    xs.map ρ = (SV.dens η (xs.toList.map (evo ts))).toArray := by
  apply Array.toList_inj.1
  simp only [Array.toList_map, dens_map, List.map_map]
  apply List.map_congr_left
  intro x hx
  exact h x hx

theorem execOp_v {P : Program} {w w' : World} {s : Sem Value} {v : Value} (h : s.run P w = .ok v w') : (do pure (Next.value (← s)) : Sem Next).run P w = .ok (.value v) w' := by
  simp [h]

theorem run_newVar {P : Program} {w : World} (e : TypeId) (v : Value) : (newVar e v).run P w = .ok ⟨w.heap.size, 0, none⟩ (w.alloc (.cells v.cells e)) := run_newRow _ _

theorem nilEq_sound {x y : SV} {r : Bool} (h : nilEq x y = some r) {P : Program} {t e : TypeId} (hu : P.underlying t = some (.slice e)) (w : World) (η : Nat → Nat) (a b : Operand) (op : BinOp) (hop : op = .eql ∨ op = .neq) :
    (do eqGuard op t a b (x.den η) (y.den η); binOp op t (x.den η) (y.den η) : Sem Value).run P w = .ok (.bool (if op = .eql then r else !r)) w := by
  have key : ∀ d (u v : Option Addr) (n c m k : Nat), (u = none ∨ v = none) → (Op.equalIn (d + 1) t (.slice u n c) (.slice v m k)).run P w = .ok (decide (u = none ∧ v = none)) w := by
    intro d u v n c m k h
    cases u <;> cases v <;> simp [Op.equalIn, run_und hu] at h ⊢
  have fin : ∀ (u v : Option Addr) (n c m k : Nat), (u = none ∨ v = none) → x.den η = .slice u n c → y.den η = .slice v m k → r = decide (u = none ∧ v = none) → (do eqGuard op t a b (x.den η) (y.den η); binOp op t (x.den η) (y.den η) : Sem Value).run P w = .ok (.bool (if op = .eql then r else !r)) w := by
    intro u v n c m k h e1 e2 e3
    rw [e1, e2, e3]
    rcases hop with rfl | rfl <;> simp [eqGuard, binOp, Op.equal, Op.maxDepth, key 9999 u v n c m k h]
  unfold nilEq at h
  split at h
  · injection h with h; exact fin _ none _ _ _ _ (.inr rfl) rfl rfl (by simp [← h])
  · injection h with h; exact fin none _ _ _ _ _ (.inl rfl) rfl rfl (by simp [← h])
  · injection h with h; exact fin none none _ _ _ _ (.inr rfl) rfl rfl (by simp [← h])
  · injection h with h; exact fin none _ _ _ _ _ (.inl rfl) rfl rfl (by simp [← h])
  · injection h with h; exact fin _ none _ _ _ _ (.inr rfl) rfl rfl (by simp [← h])
  · injection h with h; exact fin _ none _ _ _ _ (.inr rfl) rfl rfl (by simp [← h])
  · injection h with h; exact fin none _ _ _ _ _ (.inl rfl) rfl rfl (by simp [← h])
  · injection h with h; exact fin _ none _ _ _ _ (.inr rfl) rfl rfl (by simp [← h])
  · injection h with h; exact fin none _ _ _ _ _ (.inl rfl) rfl rfl (by simp [← h])
  · cases h

theorem sRead_sound {P : Program} {w0 : World} {ts : List SV} {hp : Hp} {o : Oper} {K : SV → Option SBk → Prop} (hok : opsOk ts o = true) (h : sRead P w0 ts hp o K) :
    ∃ v nb, K v nb ∧ v.isAny = false ∧ ReadOk P w0 ts hp o v nb := by
  unfold sRead at h
  split at h
  · -- move
    rename_i x hop
    refine ⟨_, _, h, opsOk_mem hok (by rw [hop]; simp [Op.operands]), fun η ρ w hr ho => ?_⟩
    have := ho x (by rw [hop]; simp [Op.operands])
    simp [execOp, hop, this]
  · rename_i x hop
    refine ⟨_, _, h, opsOk_mem hok (by rw [hop]; simp [Op.operands]), fun η ρ w hr ho => ?_⟩
    have := ho x (by rw [hop]; simp [Op.operands])
    simp [execOp, hop, this]
  · -- pick
    rename_i c a b hop
    have ma := opsOk_mem hok (x := a) (by rw [hop]; simp [Op.operands])
    have mb := opsOk_mem hok (x := b) (by rw [hop]; simp [Op.operands])
    split at h
    · rename_i hc
      refine ⟨_, _, h, ma, fun η ρ w hr ho => ?_⟩
      have e1 := ho c (by rw [hop]; simp [Op.operands])
      have e2 := ho a (by rw [hop]; simp [Op.operands])
      rw [hc] at e1
      simp [execOp, hop, e1, e2, SV.den, asBool]
    · rename_i hc
      refine ⟨_, _, h, mb, fun η ρ w hr ho => ?_⟩
      have e1 := ho c (by rw [hop]; simp [Op.operands])
      have e2 := ho b (by rw [hop]; simp [Op.operands])
      rw [hc] at e1
      simp [execOp, hop, e1, e2, SV.den, asBool]
    · rename_i t hc
      split at h
      · rename_i x y ha hb
        refine ⟨_, _, h _ rfl, rfl, fun η ρ w hr ho => ?_⟩
        have e1 := ho c (by rw [hop]; simp [Op.operands])
        have e2 := ho a (by rw [hop]; simp [Op.operands])
        have e3 := ho b (by rw [hop]; simp [Op.operands])
        rw [hc] at e1; rw [ha] at e2; rw [hb] at e3
        cases t <;> simp [execOp, hop, e1, e2, e3, SV.den, asBool]
      · cases t with
        | true =>
          refine ⟨_, _, h.1 rfl, ma, fun η ρ w hr ho => ?_⟩
          have e1 := ho c (by rw [hop]; simp [Op.operands])
          have e2 := ho a (by rw [hop]; simp [Op.operands])
          rw [hc] at e1
          simp [execOp, hop, e1, e2, SV.den, asBool]
        | false =>
          refine ⟨_, _, h.2 rfl, mb, fun η ρ w hr ho => ?_⟩
          have e1 := ho c (by rw [hop]; simp [Op.operands])
          have e2 := ho b (by rw [hop]; simp [Op.operands])
          rw [hc] at e1
          simp [execOp, hop, e1, e2, SV.den, asBool]
    · cases h
  · -- alloc
    rename_i e hop
    split at h
    · rename_i z hz
      refine ⟨_, _, h, rfl, fun η ρ w hr ho => ⟨.cells z.cells e, ⟨_, _, by have := cells_den (ofValA_ne_any z) η; rw [den_ofValA] at this; exact this.toT, FzOk.zero, rfl⟩, ?_⟩⟩
      simp [execOp, hop, Instr.alloc, run_zeroOf hz, run_newVar, SV.den, upd_same]
    · cases h
  · -- box
    rename_i e x hop
    have mx := opsOk_mem hok (x := x) (by rw [hop]; simp [Op.operands])
    refine ⟨_, _, h, rfl, fun η ρ w hr ho => ⟨.cells ((evo ts x).den η).cells e, ⟨_, _, (cells_den mx η).toT, FzOk.zero, rfl⟩, ?_⟩⟩
    have e1 := ho x (by rw [hop]; simp [Op.operands])
    simp [execOp, hop, Instr.box, run_newVar, SV.den, upd_same, e1]
  · -- build
    rename_i t ps hop
    obtain ⟨v, hv, hva, hr⟩ := sBuild_sound h
    refine ⟨v, none, hv, hva, fun η ρ w hw ho => ?_⟩
    have := parts_den (ρ := ρ) (ts := ts) (η := η) ps (fun p hp => ho p.2 (by rw [hop]; simp only [Op.operands]; simp; exact ⟨p.1, by simpa using hp⟩))
    have hb := hr w η
    rw [← this] at hb
    simp only [execOp, hop]
    exact execOp_v hb
  · -- buildSlice
    rename_i t len ps hop
    obtain ⟨b, hv, hr⟩ := sBuildSlice_sound h
    refine ⟨_, _, hv, rfl, fun η ρ w hw ho => ?_⟩
    have := parts_den (ρ := ρ) (ts := ts) (η := η) ps (fun p hp => ho p.2 (by rw [hop]; simp only [Op.operands]; simp; exact ⟨p.1, by simpa using hp⟩))
    obtain ⟨obj, ho1, hb⟩ := hr w η
    rw [← this] at hb
    refine ⟨obj, ho1, ?_⟩
    simp only [execOp, hop]
    rw [SV.den, upd_same]
    exact execOp_v hb
  · -- load
    rename_i t a hop
    obtain ⟨v, hv, hva, hr⟩ := sLoad_sound h
    refine ⟨v, none, hv, hva, fun η ρ w hw ho => ?_⟩
    have e1 := ho a (by rw [hop]; simp [Op.operands])
    simp only [execOp, hop, e1]
    exact execOp_v (hr w η hw)
  · -- nilCheck
    rename_i x hop
    split at h
    · rename_i b of hx
      refine ⟨_, _, h, rfl, fun η ρ w hw ho => ?_⟩
      have e1 := ho x (by rw [hop]; simp [Op.operands])
      rw [hx] at e1
      simp [execOp, hop, e1, SV.den]
    · rename_i b i z of hx
      refine ⟨_, _, h, rfl, fun η ρ w hw ho => ?_⟩
      have e1 := ho x (by rw [hop]; simp [Op.operands])
      rw [hx] at e1
      simp [execOp, hop, e1, SV.den]
    · rename_i a i of fs hx
      refine ⟨_, _, h, rfl, fun η ρ w hw ho => ?_⟩
      have e1 := ho x (by rw [hop]; simp [Op.operands])
      rw [hx] at e1
      simp [execOp, hop, e1, SV.den]
    · rename_i f c hx
      refine ⟨_, _, h, rfl, fun η ρ w hw ho => ?_⟩
      have e1 := ho x (by rw [hop]; simp [Op.operands])
      rw [hx] at e1
      simp [execOp, hop, e1, SV.den]
    · rename_i f c hx
      refine ⟨_, _, h, rfl, fun η ρ w hw ho => ?_⟩
      have e1 := ho x (by rw [hop]; simp [Op.operands])
      rw [hx] at e1
      simp [execOp, hop, e1, SV.den]
    · rename_i a hx
      refine ⟨_, _, h, rfl, fun η ρ w hw ho => ?_⟩
      have e1 := ho x (by rw [hop]; simp [Op.operands])
      rw [hx] at e1
      simp [execOp, hop, e1, SV.den]
    · cases h
  · -- binOp
    rename_i op t x y ty hop
    have e1 : ∀ η (ρ : Operand → Value), (∀ z ∈ o.op.operands, ρ z = (evo ts z).den η) → ρ x = (evo ts x).den η := fun η ρ ho => ho x (by rw [hop]; simp [Op.operands])
    have e2 : ∀ η (ρ : Operand → Value), (∀ z ∈ o.op.operands, ρ z = (evo ts z).den η) → ρ y = (evo ts y).den η := fun η ρ ho => ho y (by rw [hop]; simp [Op.operands])
    unfold sBin at h
    split at h
    · rename_i k a k' b hx hy
      obtain ⟨v, hv, hva, hr⟩ := sInt_sound h
      refine ⟨v, none, hv, hva, fun η ρ w hw ho => ?_⟩
      have e1 := e1 η ρ ho; have e2 := e2 η ρ ho
      rw [hx] at e1; rw [hy] at e2
      simp only [execOp, hop, e1, e2, SV.den]
      have hg : (eqGuard op t x y (.int k a.val) (.int k' b.val)).run P w = .ok () w := by cases op <;> simp [eqGuard]
      exact execOp_v (by simp [hg, hr P w t η])
    · rename_i a b hx hy
      obtain ⟨v, hv, hva, hr⟩ := sStr_sound h
      refine ⟨v, none, hv, hva, fun η ρ w hw ho => ?_⟩
      have e1 := e1 η ρ ho; have e2 := e2 η ρ ho
      rw [hx] at e1; rw [hy] at e2
      simp only [execOp, hop, e1, e2, SV.den]
      have hg : (eqGuard op t x y (.string a.val) (.string b.val)).run P w = .ok () w := by cases op <;> simp [eqGuard]
      exact execOp_v (by simp [hg, hr P w t η])
    · rename_i a b hx hy
      split at h
      · split at h
        · rename_i hu
          refine ⟨_, none, h _ rfl, rfl, fun η ρ w hw ho => ?_⟩
          have e1 := e1 η ρ ho; have e2 := e2 η ρ ho
          rw [hx] at e1; rw [hy] at e2
          simp only [execOp, hop, e1, e2, SV.den]
          exact execOp_v (by simp [eqGuard, binOp, Op.equal, Op.maxDepth, run_equalIn_bool' w 9999 t a.val b.val hu])
        · cases h
      · split at h
        · rename_i hu
          refine ⟨_, none, h _ rfl, rfl, fun η ρ w hw ho => ?_⟩
          have e1 := e1 η ρ ho; have e2 := e2 η ρ ho
          rw [hx] at e1; rw [hy] at e2
          simp only [execOp, hop, e1, e2, SV.den]
          exact execOp_v (by simp [eqGuard, binOp, Op.equal, Op.maxDepth, run_equalIn_bool' w 9999 t a.val b.val hu])
        · cases h
      · cases h
    · rename_i xs ys hx hy
      split at h
      · cases h
      · rename_i hg0
        split at h
        · split at h
          · rename_i r hr
            refine ⟨_, none, h _ rfl, rfl, fun η ρ w hw ho => ?_⟩
            have e1 := e1 η ρ ho; have e2 := e2 η ρ ho
            rw [hx] at e1; rw [hy] at e2
            have hq := sEqv_sound (η := η) 10000 t _ _ r hr w
            simp only [execOp, hop, e1, e2, SV.den] at hq ⊢
            exact execOp_v (by simp only [Sem.run_bind, run_eqGuard_agg w .eql t x y _ _ hg0, Result.andThen_ok, run_eql_struct, hq]; rfl)
          · cases h
        · split at h
          · rename_i r hr
            refine ⟨_, none, h _ rfl, rfl, fun η ρ w hw ho => ?_⟩
            have e1 := e1 η ρ ho; have e2 := e2 η ρ ho
            rw [hx] at e1; rw [hy] at e2
            have hq := sEqv_sound (η := η) 10000 t _ _ r hr w
            simp only [execOp, hop, e1, e2, SV.den] at hq ⊢
            exact execOp_v (by simp only [Sem.run_bind, run_eqGuard_agg w .neq t x y _ _ hg0, Result.andThen_ok, run_neq_struct, hq]; rfl)
          · cases h
        · cases h
    · split at h
      · rename_i r e hn hu
        split at h
        · refine ⟨_, none, h, rfl, fun η ρ w hw ho => ?_⟩
          have e1 := e1 η ρ ho; have e2 := e2 η ρ ho
          simp only [execOp, hop, e1, e2]
          exact execOp_v (by simpa [SV.den] using nilEq_sound hn hu w η x y .eql (.inl rfl))
        · refine ⟨_, none, h, rfl, fun η ρ w hw ho => ?_⟩
          have e1 := e1 η ρ ho; have e2 := e2 η ρ ho
          simp only [execOp, hop, e1, e2]
          exact execOp_v (by simpa [SV.den] using nilEq_sound hn hu w η x y .neq (.inr rfl))
        · cases h
      · cases h
  · -- unOp
    rename_i op ty x hop
    obtain ⟨v, hv, hva, hr⟩ := sUn_sound h
    refine ⟨v, none, hv, hva, fun η ρ w hw ho => ?_⟩
    have e1 := ho x (by rw [hop]; simp [Op.operands])
    simp only [execOp, hop, e1]
    exact execOp_v (hr P w η)
  · -- convert
    rename_i s d x hop
    obtain ⟨v, hv, hva, hr⟩ := sConv_sound h
    refine ⟨v, none, hv, hva, fun η ρ w hw ho => ?_⟩
    have e1 := ho x (by rw [hop]; simp [Op.operands])
    simp only [execOp, hop, e1]
    exact execOp_v (hr w η)
  · -- makeFunc
    rename_i fn first cap hop
    split at h
    · rename_i v hv
      unfold sFn at hv
      split at hv
      · rename_i f hfirst
        injection hv with hv; subst hv
        refine ⟨_, none, h, rfl, fun η ρ w hw ho => ?_⟩
        have hc := args_den (ρ := ρ) (ts := ts) (η := η) cap (fun x hx => ho x (by rw [hop]; simp [Op.operands]; right; simpa using hx))
        have hf : first.map ρ = #[] := by
          have : first.toList = [] := by simpa using hfirst
          have : first = #[] := Array.toList_inj.1 (by simpa using this)
          subst this; simp
        simp only [execOp, hop]
        exact execOp_v (by simp [Instr.makeFunc, hc, hf, SV.den])
      · rename_i f r rs hfirst
        split at hv
        · rename_i hcap
          injection hv with hv; subst hv
          refine ⟨_, none, h, rfl, fun η ρ w hw ho => ?_⟩
          have hf := args_den (ρ := ρ) (ts := ts) (η := η) first (fun x hx => ho x (by rw [hop]; simp [Op.operands]; left; simpa using hx))
          have hc : cap.map ρ = #[] := by
            have : cap.toList = [] := by simpa using hcap
            have : cap = #[] := Array.toList_inj.1 (by simpa using this)
            subst this; simp
          rw [hfirst] at hf
          simp only [execOp, hop]
          exact execOp_v (by simp [Instr.makeFunc, hc, hf, SV.den])
        · cases hv
      · cases hv
    · cases h
  · -- makeSlice
    rename_i t l c hop
    obtain ⟨v, b, hv, hva, hr⟩ := sMakeSlice_sound h
    refine ⟨_, _, hv, hva, fun η ρ w hw ho => ?_⟩
    have e1 := ho l (by rw [hop]; simp [Op.operands])
    have e2 := ho c (by rw [hop]; simp [Op.operands])
    obtain ⟨obj, ho1, hb⟩ := hr w η
    refine ⟨obj, ho1, ?_⟩
    simp only [execOp, hop, e1, e2]
    exact execOp_v hb
  · -- slice
    rename_i t x lo hi mx hop
    obtain ⟨v, hv, hva, hr⟩ := sSlice_sound (w0 := w0) h
    refine ⟨v, none, hv, hva, fun η ρ w hw ho => ?_⟩
    have e1 := ho x (by rw [hop]; simp [Op.operands])
    have e2 : ∀ (u : Option Operand), (∀ y, u = some y → y ∈ o.op.operands) → u.map ρ = (u.map (evo ts)).map (SV.den η) := fun u hu => by
      cases u with
      | none => rfl
      | some y => simp [ho y (hu y rfl)]
    have f1 := e2 lo (fun y hy => by rw [hop]; simp [Op.operands, hy])
    have f2 := e2 hi (fun y hy => by rw [hop]; simp [Op.operands, hy])
    have f3 := e2 mx (fun y hy => by rw [hop]; simp [Op.operands, hy])
    simp only [execOp, hop, e1, f1, f2, f3]
    exact execOp_v (hr w η hw)
  · -- fieldAddr
    rename_i t x f hop
    split at h
    · rename_i fd hfd
      split at h
      · rename_i z hz
        have hu : ∃ fs, P.underlying t = some (.struct fs) ∧ fs[f]? = some fd := by
          unfold fieldOf at hfd
          split at hfd
          · rename_i fs hu; exact ⟨fs, hu, by simpa using hfd⟩
          · cases hfd
        obtain ⟨fs, hu, hfs⟩ := hu
        split at h
        · rename_i b of hz0 hx
          have hz0 := Nat.ne_of_beq_eq_false hz0
          refine ⟨_, none, h, rfl, fun η ρ w hw ho => ?_⟩
          have e1 := ho x (by rw [hop]; simp [Op.operands])
          rw [hx] at e1
          simp only [execOp, hop, e1]
          exact execOp_v (by simp [Instr.fieldAt, run_und hu, hfs, SV.den, Instr.sureAddr, fieldPlace, run_szOf hz, hz0, add_ptr])
        · rename_i a hz0 hx
          have hz0 := Nat.ne_of_beq_eq_false hz0
          refine ⟨_, none, h, rfl, fun η ρ w hw ho => ?_⟩
          have e1 := ho x (by rw [hop]; simp [Op.operands])
          rw [hx] at e1
          simp only [execOp, hop, e1]
          exact execOp_v (by simp [Instr.fieldAt, run_und hu, hfs, SV.den, Instr.sureAddr, fieldPlace, run_szOf hz, hz0])
        · rename_i b i z of hz0 hx
          have hz0 := Nat.ne_of_beq_eq_false hz0
          refine ⟨_, none, h, rfl, fun η ρ w hw ho => ?_⟩
          have e1 := ho x (by rw [hop]; simp [Op.operands])
          rw [hx] at e1
          simp only [execOp, hop, e1]
          exact execOp_v (by simp [Instr.fieldAt, run_und hu, hfs, SV.den, Instr.sureAddr, fieldPlace, run_szOf hz, hz0, add_ptr, Nat.add_assoc])
        · rename_i a i of fs hz0 hx
          have hz0 := Nat.ne_of_beq_eq_false hz0
          refine ⟨_, none, h, rfl, fun η ρ w hw ho => ?_⟩
          have e1 := ho x (by rw [hop]; simp [Op.operands])
          rw [hx] at e1
          simp only [execOp, hop, e1]
          exact execOp_v (by simp [Instr.fieldAt, run_und hu, hfs, SV.den, Instr.sureAddr, fieldPlace, run_szOf hz, hz0, addr_add_add, Nat.add_assoc])
        · cases h
      · cases h
    · cases h
  · -- field
    rename_i t x f hop
    split at h
    · rename_i cs fd hx hfd
      split at h
      · rename_i v hv
        have hu : ∃ fs, P.underlying t = some (.struct fs) ∧ fs[f]? = some fd := by
          unfold fieldOf at hfd
          split at hfd
          · rename_i fs hu; exact ⟨fs, hu, by simpa using hfd⟩
          · cases hfd
        obtain ⟨fs, hu, hfs⟩ := hu
        have hva : v.isAny = false := by
          unfold sPart at hv
          split at hv
          · split at hv
            · injection hv with hv; subst hv; rfl
            · cases hv
          · split at hv
            · cases hv
            · injection hv with hv; subst hv
              rename_i hne
              cases hc : nth cs fd.offset <;> first | rfl | exact absurd hc hne
          · cases hv
        refine ⟨v, none, h, hva, fun η ρ w hw ho => ?_⟩
        have e1 := ho x (by rw [hop]; simp [Op.operands])
        rw [hx] at e1
        simp only [execOp, hop, e1]
        exact execOp_v (by simp [Instr.field, run_und hu, hfs, SV.den, asAgg, run_part hv])
      · cases h
    · cases h
  · -- indexAddr
    rename_i t x i hop
    obtain ⟨v, hv, hva, hr⟩ := sIndexAddr_sound h
    refine ⟨v, none, hv, hva, fun η ρ w hw ho => ?_⟩
    have e1 := ho x (by rw [hop]; simp [Op.operands])
    have e2 := ho i (by rw [hop]; simp [Op.operands])
    simp only [execOp, hop, e1, e2]
    exact execOp_v (hr w η)
  · -- index
    rename_i t x i hop
    obtain ⟨v, hv, hva, hr⟩ := sIndex_sound h
    refine ⟨v, none, hv, hva, fun η ρ w hw ho => ?_⟩
    have e1 := ho x (by rw [hop]; simp [Op.operands])
    have e2 := ho i (by rw [hop]; simp [Op.operands])
    simp only [execOp, hop, e1, e2]
    exact execOp_v (hr w η)
  · -- sliceToArrayPointer
    rename_i t x hop
    split at h
    · rename_i n e b of len c hu hx
      split at h
      · rename_i hle
        have hle := Nat.le_of_ble_eq_true hle
        refine ⟨_, none, h, rfl, fun η ρ w hw ho => ?_⟩
        have e1 := ho x (by rw [hop]; simp [Op.operands])
        rw [hx] at e1
        have hlt : ¬ (len < n) := by omega
        simp only [execOp, hop, e1]
        exact execOp_v (by simp [Instr.arrayAt, run_und hu, SV.den, hlt])
      · cases h
    · cases h
  · -- extract
    rename_i t i hop
    split at h
    · rename_i vs ht
      split at h
      · cases h
      · rename_i hv
        refine ⟨_, none, h, by cases hc : nth vs i <;> first | rfl | exact absurd hc hv, fun η ρ w hw ho => ?_⟩
        have e1 := ho t (by rw [hop]; simp [Op.operands])
        rw [ht] at e1
        have hg : (SV.dens η vs).toArray[i]? = some ((nth vs i).den η) := (LRel.of_dens (η := η) (l := vs)).nth rfl hv
        simp only [execOp, hop, e1]
        exact execOp_v (by simp only [Instr.extract, SV.den, hg]; rfl)
    · cases h
  · -- builtin
    rename_i c hop
    split at h
    · rename_i b hcal
      have hna : noAny (c.args.toList.map (evo ts)) = true := by
        have := hok
        simpa only [opsOk, hop, Op.operands, Call.operands, hcal, Array.empty_append] using this
      obtain ⟨v, hv, hva, hr⟩ := sBuiltin_sound hna h
      refine ⟨v, none, hv, hva, fun η ρ w hw ho => ?_⟩
      have hc := args_den (ρ := ρ) (ts := ts) (η := η) c.args (fun x hx => ho x (by rw [hop]; simp only [Op.operands, Call.operands, hcal, Array.empty_append]; simpa using hx))
      simp only [execOp, hop, resolve, hcal, hc]
      simp only [Sem.run_bind, Sem.run_pure, Result.andThen_ok, invoke]
      exact hr w η _ _
    · cases h
  · cases h

end Go.Sx
