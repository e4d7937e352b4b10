import Derived.Test.YtifbolmkiafmgaaSxG
set_option linter.unusedSimpArgs false
set_option linter.unusedVariables false
namespace Go.Sx
open Go.RowKit (Below)

def fnc (rd : Option Nat) (η : Nat → Nat) : Fence := match rd with | none => Fence.wide | some b => Fence.wide.inRound (η b)
def WideF (F : Fence) : Prop := F = Fence.wide ∨ ∃ l, F = Fence.wide.inRound l
theorem fnc_wide (rd : Option Nat) (η : Nat → Nat) : WideF (fnc rd η) := by
  cases rd with
  | none => exact .inl rfl
  | some b => exact .inr ⟨_, rfl⟩
theorem WideF.fn {F : Fence} (h : WideF F) (f : FuncId) : F.fn f := by rcases h with rfl | ⟨l, rfl⟩ <;> exact trivial
theorem WideF.depth {F : Fence} (h : WideF F) : F.depth = none := by rcases h with rfl | ⟨l, rfl⟩ <;> rfl
theorem WideF.deep {F : Fence} (h : WideF F) (n : Nat) : F.depth.isSome = true → 1 ≤ n := by rw [h.depth]; intro h; cases h
theorem WideF.calls {F : Fence} (h : WideF F) {n : Nat} {P : Program} {f : FuncId} {args : Array Value} {w : World} {R : Ending → World → Prop} (hc : CallsIn Fence.wide n P f args w R) : CallsIn F n P f args w R := by
  rcases h with rfl | ⟨l, rfl⟩
  · exact hc
  · exact hc
theorem WideF.rows {F : Fence} (h : WideF F) {n : Nat} {P : Program} {row : String} {args : Array Value} {w : World} {R : Value → World → Prop} (hc : RowsIn Fence.wide n P row args w R) : RowsIn F n P row args w R := by
  rcases h with rfl | ⟨l, rfl⟩
  · exact hc
  · exact hc
theorem WideF.round {F : Fence} (h : WideF F) {n : Nat} {P : Program} {l : Nat} {f : FuncId} {tmps : Array Value} {a b : Code} {w : World} {R : Ending → World → Prop} (hc : RoundIn Fence.wide n P l f tmps a b w R) : RoundIn F n P l f tmps a b w R := by
  rcases h with rfl | ⟨l, rfl⟩
  · exact hc
  · exact hc
theorem fnc_round (rd : Option Nat) (η : Nat → Nat) : (fnc rd η).round = rd.map η := by cases rd <;> rfl

structure Ent where
  η : Nat → Nat
  f : Nat → Option SBk
  n : Nat
  w : World

def dfs (η : Nat → Nat) (l : List Nat) : List Deferred := l.map fun d => { target := .collected (η d), args := #[] }

structure RelS (w0 : World) (E : Ent) (η : Nat → Nat) (S : St) (a : Act) (w : World) : Prop where
  hr : HR w0 η S.hp w
  ts : LRel η S.ts a.tmps
  df : a.defers = dfs η S.df
  dfl : ∀ d ∈ S.df, d < S.hp.length
  po : Post E.η E.f E.n E.w η (hget S.hp) S.hp.length w

theorem RelS.step {w0 E η S a w} (h : RelS w0 E η S a w) {η' : Nat → Nat} {hp' : Hp} {w' : World} (hr : HR w0 η' hp' w') (po : PO η S.hp w η' hp' w') : Post E.η E.f E.n E.w η' (hget hp') hp'.length w' := h.po.trans po

def FnRun (P : Program) (f : FuncId) (args : Array Value) (w : World) (R : Value → World → Prop) : Prop :=
  ∃ nx, (callFunc f args).run P w = .ok nx w ∧
    match nx with
    | .value v => R v w
    | .enter g as => CallsIn Fence.wide 0 P g as w fun e w' => ∃ v, e = .returned v ∧ R v w'
    | .row row as => RowsIn Fence.wide 0 P row as w R
    | _ => False

def CallOk (G : Glob) (f : FuncId) (args : List SV) (hp : Hp) (r : SV) (hp' : Hp) : Prop :=
  ∀ η w, HR G.w0 η hp w → FnRun G.P f (SV.dens η args).toArray w fun x w' => ∃ η', x = r.den η' ∧ HR G.w0 η' hp' w' ∧ PO η hp w η' hp' w'

def Done (G : Glob) (cx : Cx) (S : St) (c : Code) (e : Exit) (S' : St) : Prop :=
  ∀ E : Ent, E.n = cx.lo → ∀ η a w, RelS G.w0 E η S a w →
    c.wpIn (fnc cx.rd E.η) 0 G.P (fun e' a' w' => e' = e ∧ ∃ η', RelS G.w0 E η' S' a' w') a w

def cxOk (cx : Cx) : Prop := ∀ b, cx.rd = some b → b < cx.lo

def okE : Exit → Prop | .normal => True | .exit _ => True | .ret => True | _ => False

structure RecOk (G : Glob) (r : Rec) : Prop where
  code : ∀ cx c S K, cxOk cx → r.code cx c S K → ∃ e S', K e S' ∧ okE e ∧ Done G cx S c e S'
  call : ∀ f args hp K, r.call f args hp K → ∃ v hp', K v hp' ∧ CallOk G f args hp v hp'
  calm : ∀ f, G.calm f = true → ∀ args hp K, r.call f args hp K → ∃ v hp', K v hp' ∧ CallOk G f args hp v hp' ∧ ∃ e, hp' = hp ++ e
  loop : ∀ cx c S K, cxOk cx → r.loop cx c S K → ∃ e S', K e S' ∧ okE e ∧ ∃ m, ∀ E : Ent, E.n = cx.lo → ∀ η a w, RelS G.w0 E η S a w →
    Code.roundsIn (fnc cx.rd E.η) 0 G.P c (fun e' a' w' => e' = e ∧ ∃ η', RelS G.w0 E η' S' a' w') m a w

structure GOk (G : Glob) : Prop where
  names : ∀ (f : Nat) (fn : Func), G.P.funcs[f]? = some fn → (fn.name == "runtime.NumGoroutine") = false
  orders : G.P.follows .mixedOrders = true
  orc : ∀ f C, G.orc f = some C → ∀ args hp K, C args hp K → ∃ v hp', K v hp' ∧ CallOk G f args hp v hp'
  calm : ∀ f, G.calm f = true → ∃ C, G.orc f = some C ∧ ∀ args hp K, C args hp K → ∃ v hp', K v hp' ∧ CallOk G f args hp v hp' ∧ ∃ e, hp' = hp ++ e

theorem FRel.of_row1 {n : Int} {fc : FC} {c : Array Value} (h : ∀ i : Nat, i < n.toNat → c[i]? = some (fc.val i)) : FRel n [fc] c := by
  intro i j fc' hi hj
  cases j with
  | zero => simp at hj; subst hj; simpa using h i hi
  | succ j => simp at hj
theorem run_storeAt {P : Program} {w w' : World} {η : Nat → Nat} {t : TypeId} {a : Addr} {v : SV} {m : Nat} (hv : v.isAny = false) (hs : allScalar v.cellsL = true) (hm : szOf P t = some m) (h1 : v.cellsL.length = m)
    (hrun : (storeCells a (SV.dens η v.cellsL)).run P w = .ok () w') : (Instr.storeAt t (.pointer (some a)) (v.den η)).run P w = .ok () w' := by
  have hcells := cells_den hv η
  have hcl := hcells.eq_dens (fun u hu => scalar_ne_any (allScalar_iff hs u hu))
  have hsz : ¬ ((v.den η).cells.size ≠ m) := by rw [hcells.1, h1]; simp
  simp only [Instr.storeAt, Instr.sureAddr, bind, Sem.run_bind', Sem.run_pure, Result.andThen_ok, storeVar, run_szOf hm, hsz, if_false, pure, Sem.run]
  rw [hcl]
  exact hrun
theorem sStore_sound {P : Program} {w0 : World} {hp : Hp} {t : TypeId} {p v : SV} {K : Hp → Prop} (hv : v.isAny = false) (h : sStore P hp t p v K) :
    ∃ hp', K hp' ∧ ∀ η w, HR w0 η hp w → ∃ w', (Instr.storeAt t (p.den η) (v.den η)).run P w = .ok () w' ∧ HR w0 η hp' w' ∧ PO η hp w η hp' w' := by
  unfold sStore at h
  split at h
  · rename_i b o
    split at h
    · rename_i cs ty tl hb
      split at h
      · rename_i n hn
        split at h
        · rename_i h1 h2 h3
          have h1 := Nat.eq_of_beq_eq_true h1
          have h2 := Nat.le_of_ble_eq_true h2
          refine ⟨_, h, fun η w hr => ?_⟩
          obtain ⟨c, fz, hc, hz, hheap, _⟩ := cell_at hr hb
          have hcells := cells_den hv η
          have hcl := hcells.eq_dens (fun u hu => scalar_ne_any (allScalar_iff h3 u hu))
          have hs : (v.den η).cells.size = n := by rw [hcells.1, h1]
          have hcs := ST.ok_le hc.1
          obtain ⟨c', hcz, hc', hrun⟩ := run_storeCells (P := P) (η := η) v.cellsL 0 o h3 hheap hz hc (by omega)
          obtain ⟨m1, m2⟩ := move_put hr (b := .cells (spl cs o v.cellsL) ty tl) hb ⟨c', fz, hc', hz.size hcz, rfl⟩
          refine ⟨_, ?_, m1, m2⟩
          have hsz : ¬ ((v.den η).cells.size ≠ n) := by omega
          simp only [Instr.storeAt, SV.den, Instr.sureAddr, bind, Sem.run_bind', Sem.run_pure, Result.andThen_ok, storeVar, run_szOf hn, hsz, if_false, pure, Sem.run]
          rw [hcl]
          exact hrun
        · cases h
      · cases h
    · rename_i n fc ty tl hb
      split at h
      · rename_i m hm
        split at h
        · rename_i h1
          have h1 := Nat.eq_of_beq_eq_true h1
          obtain ⟨h2, h⟩ := h
          obtain ⟨fc', hK, hs, e1, e2⟩ := setRow_sound h
          refine ⟨_, hK, fun η w hr => ?_⟩
          obtain ⟨c, fz, g0, g1, g2, hz, hheap, hcell⟩ := fblk_at hr hb
          have hle := ST.ok_le g1
          simp only [List.length_singleton, Nat.mul_one] at hle
          obtain ⟨c2, s1, s2, s3, s4⟩ := run_storeAll (P := P) (η := η) v.cellsL o hs hheap hz (by omega)
          have hfr : FRel n [fc'] c2 := by
            refine FRel.of_row1 fun i hi => ?_
            by_cases hin : o ≤ i ∧ i < o + v.cellsL.length
            · have hv2 : v.cellsL[i - o]? = some v.cellsL[i - o] := List.getElem?_eq_getElem (by omega)
              have := s3 (i - o) _ hv2
              rw [show o + (i - o) = i by omega] at this
              rw [this, e1 _ _ hv2 η]
              congr 2; omega
            · rw [s2 i hin, g2.row1 hi, e2 _ (by omega)]
          obtain ⟨m1, m2⟩ := move_put hr (b := .fblk n [fc'] ty tl) hb ⟨c2, fz, ⟨g0, by rw [s1]; exact g1, hfr⟩, hz.size s1, rfl⟩
          exact ⟨_, run_storeAt hv hs hm h1 s4, m1, m2⟩
        · cases h
      · cases h
    · cases h
  · rename_i b i z o
    split at h
    · rename_i n fs ty tl hb
      split at h
      · rename_i m hm
        split at h
        · rename_i h1 hzl
          have h1 := Nat.eq_of_beq_eq_true h1
          have hzl := Nat.eq_of_beq_eq_true hzl
          split at h
          · rename_i fc
            obtain ⟨⟨h2, h3⟩, h⟩ := h
            obtain ⟨fc', hK, hs, e1, e2⟩ := setRow_sound h
            refine ⟨_, hK, fun η w hr => ?_⟩
            obtain ⟨c, fz, g0, g1, g2, hz, hheap, hcell⟩ := fblk_at hr hb
            have hle := ST.ok_le g1
            simp only [List.length_singleton, Nat.mul_one] at hle
            obtain ⟨c2, s1, s2, s3, s4⟩ := run_storeAll (P := P) (η := η) v.cellsL i.toNat hs hheap hz (by omega)
            have hfr : FRel n [fc'] c2 := by
              refine FRel.of_row1 fun j hj => ?_
              by_cases hin : i.toNat ≤ j ∧ j < i.toNat + v.cellsL.length
              · have hv2 : v.cellsL[j - i.toNat]? = some v.cellsL[j - i.toNat] := List.getElem?_eq_getElem (by omega)
                have := s3 (j - i.toNat) _ hv2
                rw [show i.toNat + (j - i.toNat) = j by omega] at this
                rw [this, e1 _ _ hv2 η]
                congr 2; omega
              · rw [s2 j hin, g2.row1 hj, e2 _ (by omega)]
            obtain ⟨m1, m2⟩ := move_put hr (b := .fblk n [fc'] ty tl) hb ⟨c2, fz, ⟨g0, by rw [s1]; exact g1, hfr⟩, hz.size s1, rfl⟩
            refine ⟨_, ?_, m1, m2⟩
            have hz1 : z = 1 := hzl
            have : (SV.fptr b i z 0).den η = .pointer (some ⟨η b, i.toNat, none⟩) := by simp [SV.den, hz1]
            rw [this]
            exact run_storeAt hv hs hm h1 s4
          · obtain ⟨⟨h2, h3⟩, h⟩ := h
            obtain ⟨fs', hK, f1, hs, f3, f4⟩ := setAt_sound h
            refine ⟨_, hK, fun η w hr => ?_⟩
            obtain ⟨c, fz, g0, g1, g2, hz, hheap, hcell⟩ := fblk_at hr hb
            have hle := ST.ok_le g1
            have hmul : (i.toNat + 1) * fs.length ≤ n.toNat * fs.length := Nat.mul_le_mul_right _ (by omega)
            rw [Nat.add_mul] at hmul
            obtain ⟨c2, s1, s2, s3, s4⟩ := run_storeAll (P := P) (η := η) v.cellsL (i.toNat * z + o) hs hheap hz (by rw [hzl]; omega)
            have hfr : FRel n fs' c2 := by
              intro a j fc' ha hj
              obtain ⟨fc, k1, k2, k3, k4⟩ := f4 j fc' hj
              have hjl := (List.getElem?_eq_some_iff.1 k1).1
              rw [f1]
              by_cases hai : a = i.toNat
              · by_cases hin : o ≤ j ∧ j < o + v.cellsL.length
                · have hv2 : v.cellsL[j - o]? = some v.cellsL[j - o] := List.getElem?_eq_getElem (by omega)
                  have := s3 (j - o) _ hv2
                  rw [show i.toNat * z + o + (j - o) = a * fs.length + j by rw [hzl, hai]; omega] at this
                  rw [this, k3 _ hin.1 hv2 η, hai, Int.toNat_of_nonneg h2]
                · have e5 := k4 (by rcases Nat.lt_or_ge j o with h | h; exact .inl h; exact .inr (List.getElem?_eq_none (by omega)))
                  rw [s2 _ (by rw [hzl, hai]; omega), g2 a j fc ha k1, hai, Int.toNat_of_nonneg h2, e5]
              · have hd : ¬ (i.toNat * z + o ≤ a * fs.length + j ∧ a * fs.length + j < i.toNat * z + o + v.cellsL.length) := by
                  rw [hzl]
                  rcases Nat.lt_or_ge a i.toNat with h | h
                  · have : (a + 1) * fs.length ≤ i.toNat * fs.length := Nat.mul_le_mul_right _ h
                    rw [Nat.add_mul] at this; omega
                  · have : (i.toNat + 1) * fs.length ≤ a * fs.length := Nat.mul_le_mul_right _ (by omega)
                    rw [Nat.add_mul] at this; omega
                rw [s2 _ hd, g2 a j fc ha k1, k2 _ (by omega)]
            obtain ⟨m1, m2⟩ := move_put hr (b := .fblk n fs' ty tl) hb ⟨c2, fz, ⟨g0, by rw [s1, f1]; exact g1, hfr⟩, hz.size s1, rfl⟩
            exact ⟨_, run_storeAt hv hs hm h1 s4, m1, m2⟩
        · cases h
      · cases h
    · cases h
  · cases h

theorem loop_at {w0 : World} {η : Nat → Nat} {hp : Hp} {w : World} (h : HR w0 η hp w) {b : Nat} {st : LoopState} {pe : Option Code} {ts : List SV} {ps : Array Tmp} {asg body : Code} {db : Nat}
    (hb : hget hp b = some (.loop st pe ts ps asg body db)) :
    ∃ r : Loop, w.heap[η b]? = some (.loop r) ∧ r.state = st ∧ r.pending = pe ∧ LRel η ts r.tmps ∧ r.params = ps ∧ r.assign = asg ∧ r.body = body ∧ r.defers = η db ∧
      ∀ st' pe', HR w0 η (hput hp b (some (.loop st' pe' ts ps asg body db))) (w.putObj (η b) (.loop { r with state := st', pending := pe' })) ∧
        PO η hp w η (hput hp b (some (.loop st' pe' ts ps asg body db))) (w.putObj (η b) (.loop { r with state := st', pending := pe' })) := by
  obtain ⟨o, ho, fn, tmps, ht, rfl⟩ := h.cell b _ hb
  exact ⟨_, ho, rfl, rfl, ht, rfl, rfl, rfl, rfl, fun st' pe' => move_put h hb ⟨fn, tmps, ht, rfl⟩⟩

theorem isReady_eq {s : LoopState} (h : isReady s = true) : s = .ready := by cases s <;> first | rfl | cases h
theorem isBusy_ne {s : LoopState} (h : isBusy s = false) : s ≠ .busy := by cases s <;> first | (intro e; cases e; done) | cases h

theorem putAll_rel {η : Nat → Nat} : ∀ (ps : List Tmp) (vs : List SV) {ts : List SV} {a : Array Value}, LRel η ts a →
    LRel η (putAll ts ps vs) ((ps.zip (SV.dens η vs)).foldl (fun t (p : Tmp × Value) => t.setIfInBounds p.1 p.2) a)
  | [], vs, ts, a, h => by simpa [putAll] using h
  | p :: ps, [], ts, a, h => by simpa [putAll, SV.dens] using h
  | p :: ps, v :: vs, ts, a, h => by
    simp only [putAll, SV.dens, List.zip_cons_cons, List.foldl_cons]
    exact putAll_rel ps vs (h.put p (.inr rfl))

def RoundOk (G : Glob) (b : Nat) (args : List SV) (hp : Hp) (v : SV) (hp' : Hp) : Prop :=
  ∀ η w, HR G.w0 η hp w → ∃ fn tmps asg body, (Instr.yield (η b) (SV.dens η args).toArray).run G.P w = .ok (.round (η b) fn tmps asg body) w ∧
    RoundIn Fence.wide 0 G.P (η b) fn tmps asg body w fun e w' => ∃ η', e = .returned (v.den η') ∧ HR G.w0 η' hp' w' ∧ PO η hp w η' hp' w'

theorem exRound_sound {G : Glob} {r : Rec} (hr : RecOk G r) {cx : Cx} {b : Nat} {args : List SV} {hp : Hp} {K : SV → Hp → Prop} (h : exRound r cx b args hp K) :
    ∃ v hp', K v hp' ∧ RoundOk G b args hp v hp' := by
  unfold exRound at h
  simp only [forceVs_eq, forceHp_eq] at h
  split at h
  · rename_i st pe ts ps asg body db hb
    split at h
    · rename_i h1 h2
      have h1 := isReady_eq h1
      subst h1
      have h2 := Nat.eq_of_beq_eq_true h2
      have hlt := hget_some_lt hb
      obtain ⟨e, S, hK, oke, hdone⟩ := hr.code _ _ _ _ (fun b' hb' => by simp at hb'; subst hb'; exact hlt) h
      split at hK
      · split at hK
        · rename_i st1 pe1 ts1 ps1 asg1 body1 db1 hb1
          split at hK
          · rename_i hrd
            have hrd := isReady_eq hrd
            subst hrd
            obtain ⟨e2, S2, hK2, oke2, hdone2⟩ := hr.code _ _ _ _ (fun b' hb' => by simp at hb'; subst hb'; exact hlt) hK
            split at hK2
            · rename_i st2 pe2 ts2 ps2 asg2 body2 db2 hb2
              -- the machine's side, for whatever jump
              have key : ∀ (v : SV) (hp' : Hp) (jump : Option Code), hp' = hput S2.hp b (some (.loop (if jump.isNone then .ready else .done) jump ts2 ps2 asg2 body2 db2)) → v = .bool (.lit jump.isNone) →
                  (∀ (l : Nat) (R : Ending → World → Prop) (a : Act) (w : World), (∃ x w', (Instr.endRound l jump).run G.P w = .ok x w' ∧ R (.returned x) w') → roundPost G.P l R e2 a w) → RoundOk G b args hp v hp' := by
                intro v hp' jump hhp hv hpost η w hw
                obtain ⟨rc, hheap, hst, hpe, htm, hps, has, hbo, hdf, _⟩ := loop_at hw hb
                refine ⟨rc.fn, (rc.params.zip (SV.dens η args).toArray).foldl (fun tmps (t, a) => tmps.setIfInBounds t a) rc.tmps, rc.assign, rc.body, run_yield hheap (by simp [hps, h2]), ?_⟩
                have htmps : LRel η (putAll ts ps.toList args) ((rc.params.zip (SV.dens η args).toArray).foldl (fun tmps (t, a) => tmps.setIfInBounds t a) rc.tmps) := by
                  have := putAll_rel (η := η) ps.toList args htm
                  rw [hps, ← Array.foldl_toList]
                  simpa using this
                refine roundIn_of_wpIn (F := Fence.wide) trivial ?_
                let E : Ent := ⟨η, hget hp, hp.length, w⟩
                have h0 : RelS G.w0 E η ⟨putAll ts ps.toList args, [], hp⟩ { tmps := (rc.params.zip (SV.dens η args).toArray).foldl (fun tmps (t, a) => tmps.setIfInBounds t a) rc.tmps, defers := [] } w :=
                  ⟨hw, htmps, rfl, (fun d hd => by cases hd), PO.refl _ _ _⟩
                have w1 := hdone E rfl η _ w h0
                rw [has]
                refine wpIn_mono w1 ?_
                rintro e' a1 w1' ⟨rfl, η1, hS⟩
                obtain ⟨rc1, hheap1, hst1, hpe1, htm1, hps1, has1, hbo1, hdf1, turn1⟩ := loop_at hS.hr hb1
                have hηb : η1 b = η b := hS.po.ext b hlt
                obtain ⟨t1, t2⟩ := turn1 .busy pe1
                have hrec : ({ rc1 with state := .busy, pending := pe1 } : Loop) = { rc1 with state := .busy } := by rw [← hpe1]
                rw [hrec] at t1 t2
                refine ⟨w1'.putObj (η b) (.loop { rc1 with state := .busy }), by rw [← hηb]; exact run_beginRound hheap1 hst1, ?_⟩
                rw [hηb] at t1 t2
                have h2' : RelS G.w0 E η1 { S with hp := hput S.hp b (some (.loop .busy pe1 ts1 ps1 asg1 body1 db1)) } a1 (w1'.putObj (η b) (.loop { rc1 with state := .busy })) :=
                  ⟨t1, hS.ts, hS.df, (fun d hd => by have := hS.dfl d hd; simpa using this), hS.po.trans t2⟩
                have w2 := hdone2 E rfl η1 a1 _ h2'
                rw [hbo]
                refine wpIn_mono w2 ?_
                rintro e' a2 w2' ⟨rfl, η2, hS2⟩
                refine hpost (η b) _ a2 w2' ?_
                obtain ⟨rc2, hheap2, hst2, hpe2, htm2, hps2, has2, hbo2, hdf2, turn2⟩ := loop_at hS2.hr hb2
                have hηb2 : η2 b = η b := hS2.po.ext b hlt
                obtain ⟨u1, u2⟩ := turn2 (if jump.isNone then .ready else .done) jump
                refine ⟨_, _, by rw [← hηb2]; exact run_endRound jump hheap2, η2, by rw [hv]; rfl, by rw [hhp]; exact u1, by rw [hhp]; exact hS2.po.trans u2⟩
              split at hK2
              · exact ⟨_, _, hK2, key _ _ none rfl rfl fun l R a w hh => hh⟩
              · exact ⟨_, _, hK2, key _ _ (some .ret) rfl rfl fun l R a w hh => hh⟩
              · rename_i id
                exact ⟨_, _, hK2, key _ _ (some (.exit id)) rfl rfl fun l R a w hh => hh⟩
              · cases hK2
            · cases hK2
          · cases hK
        · cases hK
      · cases hK
    · cases h
  · cases h

theorem evo_rel {η : Nat → Nat} {ts : List SV} {a : Act} (h : LRel η ts a.tmps) {x : Operand} (hx : (evo ts x).isAny = false) : a.eval x = (evo ts x).den η := by
  cases x with
  | tmp t =>
    simp only [evo] at hx ⊢
    have := h.nth (i := t) rfl (fun e => by rw [e] at hx; cases hx)
    simp [Act.eval, Array.getD_eq_getD_getElem?, this]
  | const v => simp [evo, Act.eval, den_ofValA]
  | global g => simp [evo, Act.eval, SV.den]
  | func f => simp [evo, Act.eval, SV.den, SV.dens]

def EffOk (G : Glob) (o : Oper) (ts : List SV) (hp : Hp) (v : SV) (hp' : Hp) : Prop :=
  ∀ (F : Fence), WideF F → ∀ η (a : Act) w, HR G.w0 η hp w → (∀ x ∈ o.op.operands, a.eval x = (evo ts x).den η) → ∀ (next : Act → World → Prop) (Q : Exit → Act → World → Prop),
    (∀ η' w', HR G.w0 η' hp' w' → PO η hp w η' hp' w' → next (a.put o.dst (v.den η')) w') → o.wpIn F 0 G.P a w next Q

theorem about_ok {F : Fence} (h : WideF F) {P : Program} {o : Oper} {w : World} {ρ : Operand → Value} : ∀ f, o.about P w ρ = some f → F.fn f := fun f _ => h.fn f

theorem exEff_sound {G : Glob} {r : Rec} (hr : RecOk G r) {cx : Cx} {o : Oper} {ts : List SV} {hp : Hp} {K : SV → Hp → Prop} (hok : opsOk ts o = true) (h : exEff G r cx o ts hp K) :
    ∃ v hp', K v hp' ∧ EffOk G o ts hp v hp' := by
  unfold exEff at h
  split at h
  · rename_i t a x hop
    obtain ⟨hp', hK, hs⟩ := sStore_sound (w0 := G.w0) (opsOk_mem hok (x := x) (by rw [hop]; simp [Op.operands])) h
    refine ⟨_, hp', hK, fun F hF η ac w hw ho next Q hn => ⟨about_ok hF, ?_⟩⟩
    obtain ⟨w', hrun, h1, h2⟩ := hs η w hw
    have e1 := ho a (by rw [hop]; simp [Op.operands])
    have e2 := ho x (by rw [hop]; simp [Op.operands])
    rw [Oper.semAt_eq _ _ _ (fun c => by rw [hop]; simp)]
    have : (execOp ac.eval o).run G.P w = .ok .skip w' := by
      simp only [execOp, hop, e1, e2, bind, Sem.run_bind', hrun, Result.andThen_ok]
      rfl
    rw [this, Oper.uponIn_skip]
    exact hn η w' h1 h2
  · rename_i c hop
    split at h
    · rename_i f hcal
      have hargs : ∀ (η : Nat → Nat) (ac : Act), (∀ x ∈ o.op.operands, ac.eval x = (evo ts x).den η) → c.args.map ac.eval = (SV.dens η (c.args.toList.map (evo ts))).toArray := fun η ac ho =>
        args_den c.args (fun x hx => ho x (by rw [hop]; simp only [Op.operands, Call.operands, hcal]; simp; right; simpa using hx))
      split at h
      · rename_i g cap hg
        obtain ⟨v, hp', hK, hc⟩ := hr.call _ _ _ _ h
        refine ⟨v, hp', hK, fun F hF η ac w hw ho next Q hn => ⟨about_ok hF, ?_⟩⟩
        obtain ⟨nx, hrun, hnx⟩ := hc η w hw
        have e1 := ho f (by rw [hop]; simp only [Op.operands, Call.operands, hcal]; simp)
        rw [hg] at e1
        have hrun' : (execOp ac.eval o).run G.P w = .ok nx w := by
          simp only [execOp, hop, resolve, hcal, e1, SV.den, Deferred.ofValue, hargs η ac ho]
          simp only [Sem.run_bind, Sem.run_pure, Result.andThen_ok, invoke, Array.empty_append]
          rw [List.append_toArray, ← dens_append]
          exact hrun
        rw [Oper.semAt_eq _ _ _ (fun c => by rw [hop]; simp), hrun']
        cases nx with
        | value x =>
          obtain ⟨η', rfl, h1, h2⟩ := hnx
          exact hn η' w h1 h2
        | enter g as =>
          refine ⟨hF.deep _, (hF.calls hnx).mono ?_⟩
          rintro e w' ⟨x, rfl, η', rfl, h1, h2⟩
          exact hn η' w' h1 h2
        | row row as =>
          refine ⟨hF.deep _, (hF.rows hnx).mono ?_⟩
          rintro x w' ⟨η', rfl, h1, h2⟩
          exact hn η' w' h1 h2
        | _ => exact hnx.elim
      · rename_i g fs hg
        obtain ⟨v, hp', hK, hc⟩ := hr.call _ _ _ _ h
        refine ⟨v, hp', hK, fun F hF η ac w hw ho next Q hn => ⟨about_ok hF, ?_⟩⟩
        obtain ⟨nx, hrun, hnx⟩ := hc η w hw
        have e1 := ho f (by rw [hop]; simp only [Op.operands, Call.operands, hcal]; simp)
        rw [hg] at e1
        have hrun' : (execOp ac.eval o).run G.P w = .ok nx w := by
          simp only [execOp, hop, resolve, hcal, e1, SV.den, Deferred.ofValue, hargs η ac ho]
          simp only [Sem.run_bind, Sem.run_pure, Result.andThen_ok, invoke, Array.append_empty]
          rw [List.append_toArray, ← dens_append]
          exact hrun
        rw [Oper.semAt_eq _ _ _ (fun c => by rw [hop]; simp), hrun']
        cases nx with
        | value x =>
          obtain ⟨η', rfl, h1, h2⟩ := hnx
          exact hn η' w h1 h2
        | enter g as =>
          refine ⟨hF.deep _, (hF.calls hnx).mono ?_⟩
          rintro e w' ⟨x, rfl, η', rfl, h1, h2⟩
          exact hn η' w' h1 h2
        | row row as =>
          refine ⟨hF.deep _, (hF.rows hnx).mono ?_⟩
          rintro x w' ⟨η', rfl, h1, h2⟩
          exact hn η' w' h1 h2
        | _ => exact hnx.elim
      · rename_i b hg
        obtain ⟨v, hp', hK, hc⟩ := exRound_sound hr h
        refine ⟨v, hp', hK, fun F hF η ac w hw ho next Q hn => ⟨about_ok hF, ?_⟩⟩
        obtain ⟨fn, tmps, asg, body, hrun, hrd⟩ := hc η w hw
        have e1 := ho f (by rw [hop]; simp only [Op.operands, Call.operands, hcal]; simp)
        rw [hg] at e1
        have hrun' : (execOp ac.eval o).run G.P w = .ok (.round (η b) fn tmps asg body) w := by
          simp only [execOp, hop, resolve, hcal, e1, SV.den, Deferred.ofValue, hargs η ac ho]
          simp only [Sem.run_bind, Sem.run_pure, Result.andThen_ok, invoke, Array.empty_append, hrun]
        rw [Oper.semAt_eq _ _ _ (fun c => by rw [hop]; simp), hrun']
        refine ⟨hF.deep _, (hF.round hrd).mono ?_⟩
        rintro e w' ⟨η', rfl, h1, h2⟩
        exact hn η' w' h1 h2
      · cases h
    · rename_i b hcal
      have hargs : ∀ (η : Nat → Nat) (ac : Act), (∀ x ∈ o.op.operands, ac.eval x = (evo ts x).den η) → c.args.map ac.eval = (SV.dens η (c.args.toList.map (evo ts))).toArray := fun η ac ho =>
        args_den c.args (fun x hx => ho x (by rw [hop]; simp only [Op.operands, Call.operands, hcal]; simpa using hx))
      split at h
      · rename_i s x hl
        have hq : ∃ v hp', K v hp' ∧ EffRun G.P G.w0 hp v hp' fun η => Builtin.append_ c.argTypes o.type #[(evo ts s).den η, (evo ts x).den η] := by
          split at h
          · rename_i b hx
            obtain ⟨v, hp', hK, hc⟩ := sAppStr_sound h o.type
            exact ⟨v, hp', hK, by rw [hx]; exact hc G.w0⟩
          · split at h
            · exact sAppFn_sound h o.type
            · split at h
              · obtain ⟨v, hp', hK, hc⟩ := sAppMany_sound h o.type
                exact ⟨v, hp', hK, hc G.w0⟩
              · obtain ⟨v, hp', hK, hc⟩ := sAppend_sound h o.type
                exact ⟨v, hp', hK, hc G.w0⟩
        obtain ⟨v, hp', hK, hc⟩ := hq
        refine ⟨v, hp', hK, fun F hF η ac w hw ho next Q hn => ⟨about_ok hF, ?_⟩⟩
        obtain ⟨η', w', hrun, h1, h2⟩ := hc η w hw
        have ha := hargs η ac ho
        rw [hl] at ha
        have hrun' : (execOp ac.eval o).run G.P w = .ok (.value (v.den η')) w' := by
          simp only [execOp, hop, resolve, hcal, ha]
          simp only [Sem.run_bind, Sem.run_pure, Result.andThen_ok, invoke, builtin, List.map_cons, List.map_nil, SV.dens]
          rw [show ([(evo ts s).den η, (evo ts x).den η] : List Value).toArray = #[(evo ts s).den η, (evo ts x).den η] from rfl, hrun]
          rfl
        rw [Oper.semAt_eq _ _ _ (fun c => by rw [hop]; simp), hrun']
        exact hn η' w' h1 h2
      · rename_i d x hl
        have hq : ∃ v hp', K v hp' ∧ EffRun G.P G.w0 hp v hp' fun η => Builtin.copy_ c.argTypes o.type #[(evo ts d).den η, (evo ts x).den η] := by
          split at h
          · exact sCopyFn_sound h o.type
          · obtain ⟨v, hp', hK, hc⟩ := sCopy_sound h o.type
            exact ⟨v, hp', hK, hc G.w0⟩
        obtain ⟨v, hp', hK, hc⟩ := hq
        refine ⟨v, hp', hK, fun F hF η ac w hw ho next Q hn => ⟨about_ok hF, ?_⟩⟩
        obtain ⟨η', w', hrun, h1, h2⟩ := hc η w hw
        have ha := hargs η ac ho
        rw [hl] at ha
        have hrun' : (execOp ac.eval o).run G.P w = .ok (.value (v.den η')) w' := by
          simp only [execOp, hop, resolve, hcal, ha]
          simp only [Sem.run_bind, Sem.run_pure, Result.andThen_ok, invoke, builtin, List.map_cons, List.map_nil, SV.dens]
          rw [show ([(evo ts d).den η, (evo ts x).den η] : List Value).toArray = #[(evo ts d).den η, (evo ts x).den η] from rfl, hrun]
          rfl
        rw [Oper.semAt_eq _ _ _ (fun c => by rw [hop]; simp), hrun']
        exact hn η' w' h1 h2
      · rename_i x hl
        obtain ⟨v, hp', hK, hc⟩ := sSlData_sound (P := G.P) h c.argTypes o.type
        refine ⟨v, hp', hK, fun F hF η ac w hw ho next Q hn => ⟨about_ok hF, ?_⟩⟩
        obtain ⟨η', w', hrun, h1, h2⟩ := hc G.w0 η w hw
        have ha := hargs η ac ho
        rw [hl] at ha
        have hrun' : (execOp ac.eval o).run G.P w = .ok (.value (v.den η')) w' := by
          simp only [execOp, hop, resolve, hcal, ha]
          simp only [Sem.run_bind, Sem.run_pure, Result.andThen_ok, invoke, builtin, List.map_cons, List.map_nil, SV.dens]
          rw [show ([(evo ts x).den η] : List Value).toArray = #[(evo ts x).den η] from rfl, hrun]
          rfl
        rw [Oper.semAt_eq _ _ _ (fun c => by rw [hop]; simp), hrun']
        exact hn η' w' h1 h2
      · rename_i p n hl
        obtain ⟨v, hp', hK, hc⟩ := sUnStr_sound h o.type
        refine ⟨v, hp', hK, fun F hF η ac w hw ho next Q hn => ⟨about_ok hF, ?_⟩⟩
        obtain ⟨η', w', hrun, h1, h2⟩ := hc G.w0 η w hw
        have ha := hargs η ac ho
        rw [hl] at ha
        have hrun' : (execOp ac.eval o).run G.P w = .ok (.value (v.den η')) w' := by
          simp only [execOp, hop, resolve, hcal, ha]
          simp only [Sem.run_bind, Sem.run_pure, Result.andThen_ok, invoke, builtin, List.map_cons, List.map_nil, SV.dens]
          rw [show ([(evo ts p).den η, (evo ts n).den η] : List Value).toArray = #[(evo ts p).den η, (evo ts n).den η] from rfl, hrun]
          rfl
        rw [Oper.semAt_eq _ _ _ (fun c => by rw [hop]; simp), hrun']
        exact hn η' w' h1 h2
      · cases h
    · cases h
  · rename_i s d x hop
    obtain ⟨v, hp', hK, hc⟩ := sConvE_sound h
    refine ⟨v, hp', hK, fun F hF η ac w hw ho next Q hn => ⟨about_ok hF, ?_⟩⟩
    obtain ⟨η', w', hrun, h1, h2⟩ := hc G.w0 η w hw
    have e1 := ho x (by rw [hop]; simp [Op.operands])
    have hrun' : (execOp ac.eval o).run G.P w = .ok (.value (v.den η')) w' := by
      simp only [execOp, hop, e1]
      simp only [Sem.run_bind, Sem.run_pure, hrun, Result.andThen_ok]
    rw [Oper.semAt_eq _ _ _ (fun c => by rw [hop]; simp), hrun']
    exact hn η' w' h1 h2
  · cases h

theorem exEff_calm {G : Glob} {r : Rec} (hr : RecOk G r) {cx : Cx} {o : Oper} {ts : List SV} {hp : Hp} {K : SV → Hp → Prop} (hok : opsOk ts o = true) (hcalm : calmOp G ts o = true) (h : exEff G r cx o ts hp K) :
    ∃ v hp', K v hp' ∧ EffOk G o ts hp v hp' ∧ ∃ e, hp' = hp ++ e := by
  let r2 : Rec := ⟨fun _ _ _ _ => False, fun f args hp K => ∃ v hp', K v hp' ∧ CallOk G f args hp v hp' ∧ ∃ e, hp' = hp ++ e, fun _ _ _ _ => False⟩
  have hr2 : RecOk G r2 := ⟨fun _ _ _ _ _ h => h.elim, fun f args hp K ⟨v, hp', a, b, _⟩ => ⟨v, hp', a, b⟩, fun f _ args hp K h => h, fun _ _ _ _ _ h => h.elim⟩
  have h2 : exEff G r2 cx o ts hp fun v hp' => K v hp' ∧ ∃ e, hp' = hp ++ e := by
    unfold calmOp at hcalm
    unfold exEff at h ⊢
    split at hcalm
    · rename_i c hop
      simp only [hop] at h ⊢
      split at hcalm
      · rename_i f hcal
        simp only [hcal] at h ⊢
        split at hcalm
        · rename_i g cap hev
          simp only [hev] at h ⊢
          obtain ⟨v, hp', a, b, c⟩ := hr.calm g hcalm _ _ _ h
          exact ⟨v, hp', ⟨a, c⟩, b, c⟩
        · rename_i g cap hev
          simp only [hev] at h ⊢
          obtain ⟨v, hp', a, b, c⟩ := hr.calm g hcalm _ _ _ h
          exact ⟨v, hp', ⟨a, c⟩, b, c⟩
        · cases hcalm
      · cases hcalm
    · cases hcalm
  obtain ⟨v, hp', ⟨a, c⟩, b⟩ := exEff_sound hr2 hok h2
  exact ⟨v, hp', a, b, c⟩

end Go.Sx
set_option linter.unusedSimpArgs false
set_option linter.unusedVariables false
namespace Go.Sx
open Go.RowKit (Below)

theorem yielded_eq {ops : Array Oper} {tmps : Array Value} {j : Nat} {oj : Oper} {d : Nat} (h1 : ops.toList[j]? = some oj) (h2 : oj.dst = some d) :
    yielded ops tmps j = match tmps[d]? with | some (.bool b) => some b | _ => none := by
  have h1' : ops[j]? = some oj := by rw [← Array.getElem?_toList]; exact h1
  simp only [yielded, h1', h2, Option.bind_some]
  rfl

theorem nth_some {η : Nat → Nat} {ts : List SV} {a : Array Value} (h : LRel η ts a) {d : Nat} {v : SV} (hv : nth ts d = v) (hn : v ≠ .any) : a[d]? = some (v.den η) := h.nth hv hn

theorem guard_wanted {ops : Array Oper} {ts : List SV} {o : Oper} {η : Nat → Nat} {tmps : Array Value} (h : LRel η ts tmps) :
    (guardOf ops ts o = .yes → Region.wanted o (yielded ops tmps) = true) ∧
    (guardOf ops ts o = .no → Region.wanted o (yielded ops tmps) = false) ∧
    (∀ d b want, guardOf ops ts o = .ask d b want → nth ts d = .bool (.sym b) ∧ Region.wanted o (yielded ops tmps) = (b == want)) := by
  unfold guardOf Region.wanted
  cases hg : o.guard with
  | none => simp
  | some p =>
    obtain ⟨j, want⟩ := p
    simp only
    cases hj : ops.toList[j]? with
    | none =>
      have : yielded ops tmps j = none := by
        have h1' : ops[j]? = none := by rw [← Array.getElem?_toList]; exact hj
        simp [yielded, h1']
      simp [this]
    | some oj =>
      simp only
      cases hd : oj.dst with
      | none =>
        have : yielded ops tmps j = none := by
          have h1' : ops[j]? = some oj := by rw [← Array.getElem?_toList]; exact hj
          simp [yielded, h1', hd]
        simp [this]
      | some d =>
        simp only
        have hy := yielded_eq (tmps := tmps) hj hd
        cases hv : nth ts d with
        | any => simp
        | bool b =>
          have := nth_some h hv (by simp)
          rw [this] at hy
          simp only [SV.den] at hy
          cases b with
          | lit b => cases b <;> cases want <;> simp [hy]
          | sym b => simp only [hy]; refine ⟨by simp, by simp, ?_⟩; rintro d' b' w' e; cases e; exact ⟨hv, by simp⟩
        | val v =>
          have := nth_some h hv (by simp)
          rw [this] at hy
          simp only [SV.den] at hy
          cases v <;> simp_all
        | int k n => have := nth_some h hv (by simp); rw [this] at hy; simp only [SV.den] at hy; simp [hy]
        | str k => have := nth_some h hv (by simp); rw [this] at hy; simp only [SV.den] at hy; simp [hy]
        | ptr k n => have := nth_some h hv (by simp); rw [this] at hy; simp only [SV.den] at hy; simp [hy]
        | slice k n m l => have := nth_some h hv (by simp); rw [this] at hy; simp only [SV.den] at hy; simp [hy]
        | fsl k n m => have := nth_some h hv (by simp); rw [this] at hy; simp only [SV.den] at hy; simp [hy]
        | fptr k n m l => have := nth_some h hv (by simp); rw [this] at hy; simp only [SV.den] at hy; simp [hy]
        | bsl k n m l => have := nth_some h hv (by simp); rw [this] at hy; simp only [SV.den] at hy; simp [hy]
        | osl k n m l u => have := nth_some h hv (by simp); rw [this] at hy; simp only [SV.den] at hy; simp [hy]
        | bptr k n m l => have := nth_some h hv (by simp); rw [this] at hy; simp only [SV.den] at hy; simp [hy]
        | fn k n => have := nth_some h hv (by simp); rw [this] at hy; simp only [SV.den] at hy; simp [hy]
        | mth k n => have := nth_some h hv (by simp); rw [this] at hy; simp only [SV.den] at hy; simp [hy]
        | yld k => have := nth_some h hv (by simp); rw [this] at hy; simp only [SV.den] at hy; simp [hy]
        | agg k => have := nth_some h hv (by simp); rw [this] at hy; simp only [SV.den] at hy; simp [hy]
        | tup k => have := nth_some h hv (by simp); rw [this] at hy; simp only [SV.den] at hy; simp [hy]

theorem putDst_rel {η : Nat → Nat} {ts : List SV} {a : Act} (h : LRel η ts a.tmps) (dst : Option Tmp) {v : SV} {x : Value} (hx : v = .any ∨ x = v.den η) : LRel η (putDst ts dst v) (a.put dst x).tmps := by
  cases dst with
  | none => exact h
  | some d => exact h.put d hx
@[simp] theorem put_defers (a : Act) (dst : Option Tmp) (x : Value) : (a.put dst x).defers = a.defers := by cases dst <;> rfl

theorem okAlloc_eq {ts : List SV} {hp : Hp} {b : SBk} (h : okAlloc ts hp b = true) : okHp (ltb hp.length) hp = true ∧ SV.allvs (ltb hp.length) ts = true ∧ b.allb (ltb hp.length) = true := by
  unfold okAlloc at h
  split at h
  · exact ⟨by assumption, by assumption, by assumption⟩
  · cases h

theorem dfs_congr {η η' : Nat → Nat} {l : List Nat} (h : ∀ d ∈ l, η' d = η d) : dfs η' l = dfs η l := by
  unfold dfs
  apply List.map_congr_left
  intro d hd
  rw [h d hd]

theorem lit_rel {w0 : World} {E : Ent} {η : Nat → Nat} {S : St} {a : Act} {w : World} (hS : RelS w0 E η S a w) {d : Nat} {b want : Bool} (hd : nth S.ts d = .bool (.sym b)) (hb : b = want) :
    RelS w0 E η ⟨put S.ts d (.bool (.lit want)), S.df, S.hp⟩ a w := by
  refine ⟨hS.hr, ?_, hS.df, hS.dfl, hS.po⟩
  have hv := hS.ts.nth hd (by simp)
  have := hS.ts.put d (v := .bool (.lit want)) (x := .bool b) (.inr (by simp [SV.den, hb]))
  have e : a.tmps.setIfInBounds d (.bool b) = a.tmps := by
    apply Array.ext_getElem?
    intro i
    rw [Array.getElem?_setIfInBounds]
    split
    · rename_i e; subst e
      rw [hv]
      have hlt := (Array.getElem?_eq_some_iff.1 hv).1
      simp [hlt, SV.den]
    · rfl
  rw [e] at this
  exact this

def RowOk (G : Glob) (cx : Cx) (ops : Array Oper) (k n : Nat) (S S' : St) : Prop :=
  ∀ E : Ent, ∀ F, WideF F → ∀ η a w, RelS G.w0 E η S a w → ∀ Q : Exit → Act → World → Prop, (∀ η' a' w', RelS G.w0 E η' S' a' w' → Q .normal a' w') →
    wpOpsIn F 0 G.P ops Q (List.range' k n) a w

theorem read_step {G : Glob} {E : Ent} {F : Fence} (hF : WideF F) {o : Oper} {S : St} {v : SV} {nb : Option SBk} {η : Nat → Nat} {a : Act} {w : World} (hd : ∀ c, o.op ≠ .defer c)
    (hok : opsOk S.ts o = true) (hR : ReadOk G.P G.w0 S.ts S.hp o v nb) (hna : ∀ b, nb = some b → okAlloc S.ts S.hp b = true) (hS : RelS G.w0 E η S a w)
    {next : Act → World → Prop} {Q : Exit → Act → World → Prop}
    (hn : ∀ η' a' w', RelS G.w0 E η' { S with ts := putDst S.ts o.dst v, hp := S.hp ++ (nb.map some).toList } a' w' → next a' w') : o.wpIn F 0 G.P a w next Q := by
  have ho : ∀ x ∈ o.op.operands, a.eval x = (evo S.ts x).den η := fun x hx => evo_rel hS.ts (opsOk_mem hok hx)
  have hrun := hR η a.eval w hS.hr ho
  refine ⟨about_ok hF, ?_⟩
  rw [Oper.semAt_eq _ _ _ hd]
  cases nb with
  | none =>
    simp only at hrun
    rw [hrun, Oper.uponIn_value]
    refine hn η _ w ?_
    simp only [Option.map_none, Option.toList_none, List.append_nil]
    exact ⟨hS.hr, putDst_rel hS.ts _ (.inr rfl), by simpa using hS.df, hS.dfl, hS.po⟩
  | some b =>
    obtain ⟨obj, hb, hrun⟩ := hrun
    obtain ⟨k1, k2, k3⟩ := okAlloc_eq (hna b rfl)
    rw [hrun, Oper.uponIn_value]
    have hlt : ∀ i, ltb S.hp.length i = true → upd η S.hp.length w.heap.size i = η i := fun i hi => upd_lt η (ltb_iff.1 hi)
    obtain ⟨m1, m2⟩ := move_alloc hS.hr k1 (b := b) (o := obj) (hb.congr hlt k3)
    refine hn (upd η S.hp.length w.heap.size) _ _ ?_
    simp only [Option.map_some, Option.toList_some]
    refine ⟨m1, putDst_rel (hS.ts.congr hlt k2) _ (.inr rfl), ?_, (fun d hd => by have := hS.dfl d hd; simp; omega), hS.po.trans m2⟩
    rw [put_defers, hS.df]
    exact (dfs_congr fun d hd => upd_lt η (hS.dfl d hd)).symm

theorem isRead_defer {G : Glob} {w0 : World} {ts : List SV} {hp : Hp} {o : Oper} {K : SV → Option SBk → Prop} (h : sRead G.P w0 ts hp o K) : ∀ c, o.op ≠ .defer c := by
  intro c e
  simp [sRead, e] at h

theorem eff_step {G : Glob} {E : Ent} {F : Fence} (hF : WideF F) {o : Oper} {S : St} {v : SV} {hp' : Hp} {η : Nat → Nat} {a : Act} {w : World}
    (hok : opsOk S.ts o = true) (hR : EffOk G o S.ts S.hp v hp') (hl : SV.allvs (ltb S.hp.length) S.ts = true) (hS : RelS G.w0 E η S a w)
    {next : Act → World → Prop} {Q : Exit → Act → World → Prop}
    (hn : ∀ η' a' w', RelS G.w0 E η' { S with ts := putDst S.ts o.dst v, hp := hp' } a' w' → next a' w') : o.wpIn F 0 G.P a w next Q := by
  have ho : ∀ x ∈ o.op.operands, a.eval x = (evo S.ts x).den η := fun x hx => evo_rel hS.ts (opsOk_mem hok hx)
  refine hR F hF η a w hS.hr ho next Q fun η' w' h1 h2 => hn η' _ w' ?_
  have hlt : ∀ i, ltb S.hp.length i = true → η' i = η i := fun i hi => h2.ext i (ltb_iff.1 hi)
  refine ⟨h1, putDst_rel (hS.ts.congr hlt hl) _ (.inr rfl), ?_, fun d hd => Nat.lt_of_lt_of_le (hS.dfl d hd) h2.len, hS.po.trans h2⟩
  rw [put_defers, hS.df]
  exact (dfs_congr fun d hd => h2.ext d (hS.dfl d hd)).symm

theorem skip_step {w0 : World} {E : Ent} {o : Oper} {S : St} {η : Nat → Nat} {a : Act} {w : World} (hS : RelS w0 E η S a w) :
    RelS w0 E η { S with ts := putDst S.ts o.dst (.val undef) } (a.put o.dst undef) w :=
  ⟨hS.hr, putDst_rel hS.ts _ (.inr rfl), by simpa using hS.df, hS.dfl, hS.po⟩

theorem exOps_sound {G : Glob} {r : Rec} (hr : RecOk G r) {cx : Cx} {ops : Array Oper} : ∀ (rest : List Oper) (k : Nat) (S : St) (K : St → Prop), exOps G r cx ops rest S K → ops.toList.drop k = rest →
    ∃ S', K S' ∧ S'.df = S.df ∧ RowOk G cx ops k rest.length S S'
  | [], k, S, K, h, _ => ⟨S, h, rfl, fun E F hF η a w hS Q hQ => by simpa [wpOpsIn] using hQ η a w hS⟩
  | o :: rest, k, S, K, h, hk => by
    have hk' : ops.toList.drop (k + 1) = rest := by rw [← List.drop_drop, hk]; rfl
    have hok : ops[k]? = some o := by
      rw [← Array.getElem?_toList]
      have := congrArg (fun l => l[0]?) hk
      simpa using this
    simp only [exOps_cons, forceV_eq, putDstF_eq, forceHp_eq] at h
    -- what is run
    have run : ∀ S : St, (match opsOk S.ts o with
      | false => False
      | true => match isRead o with
        | true => sRead G.P G.w0 S.ts S.hp o fun v nb =>
          match nb with
          | none => exOps G r cx ops rest { S with ts := putDst S.ts o.dst v } K
          | some b => match okAlloc S.ts S.hp b with
            | true => exOps G r cx ops rest { S with ts := putDst S.ts o.dst v, hp := S.hp ++ [some b] } K
            | false => False
        | false => match SV.allvs (ltb S.hp.length) S.ts with
          | true => exEff G r cx o S.ts S.hp fun v hp' => exOps G r cx ops rest { S with ts := putDst S.ts o.dst v, hp := hp' } K
          | false => False) →
        ∃ S', K S' ∧ S'.df = S.df ∧ ∀ E : Ent, ∀ F, WideF F → ∀ η a w, RelS G.w0 E η S a w → ∀ Q : Exit → Act → World → Prop, (∀ η' a' w', RelS G.w0 E η' S' a' w' → Q .normal a' w') →
          o.wpIn F 0 G.P a w (wpOpsIn F 0 G.P ops Q (List.range' (k + 1) rest.length)) Q := by
      intro S h
      split at h
      · cases h
      · rename_i hoo
        split at h
        · obtain ⟨v, nb, hK, hva, hR⟩ := sRead_sound hoo h
          have hdd := isRead_defer (G := G) h
          cases nb with
          | none =>
            simp only at hK
            obtain ⟨S', hS', hdf', hrow⟩ := exOps_sound hr rest (k + 1) _ K hK hk'
            exact ⟨S', hS', hdf', fun E F hF η a w hS Q hQ => read_step hF hdd hoo hR (fun b hb => by cases hb) hS (fun η' a' w' hr' => hrow E F hF η' a' w' (by simpa using hr') Q hQ)⟩
          | some b =>
            simp only at hK
            split at hK
            · rename_i hal
              obtain ⟨S', hS', hdf', hrow⟩ := exOps_sound hr rest (k + 1) _ K hK hk'
              exact ⟨S', hS', hdf', fun E F hF η a w hS Q hQ => read_step hF hdd hoo hR (fun b' hb => by cases hb; exact hal) hS (fun η' a' w' hr' => hrow E F hF η' a' w' (by simpa using hr') Q hQ)⟩
            · cases hK
        · split at h
          · rename_i hl
            obtain ⟨v, hp', hK, hE⟩ := exEff_sound hr hoo h
            obtain ⟨S', hS', hdf', hrow⟩ := exOps_sound hr rest (k + 1) _ K hK hk'
            refine ⟨S', hS', hdf', fun E F hF η a w hS Q hQ => eff_step hF hoo hE hl hS (fun η' a' w' hr' => hrow E F hF η' a' w' hr' Q hQ)⟩
          · cases h
    have skip : ∀ S : St, exOps G r cx ops rest { S with ts := putDst S.ts o.dst (.val undef) } K → ∃ S', K S' ∧ S'.df = S.df ∧ ∀ E : Ent, ∀ F, WideF F → ∀ η a w, RelS G.w0 E η S a w → ∀ Q : Exit → Act → World → Prop, (∀ η' a' w', RelS G.w0 E η' S' a' w' → Q .normal a' w') →
          wpOpsIn F 0 G.P ops Q (List.range' (k + 1) rest.length) (a.put o.dst undef) w := by
      intro S h
      obtain ⟨S', hS', hdf', hrow⟩ := exOps_sound hr rest (k + 1) _ K h hk'
      exact ⟨S', hS', hdf', fun E F hF η a w hS Q hQ => hrow E F hF η _ w (skip_step hS) Q hQ⟩
    have unf : ∀ F (Q : Exit → Act → World → Prop) a w, wpOpsIn F 0 G.P ops Q (List.range' k (o :: rest).length) a w =
        if Region.wanted o (yielded ops a.tmps) then o.wpIn F 0 G.P a w (wpOpsIn F 0 G.P ops Q (List.range' (k + 1) rest.length)) Q
        else (∀ f, o.about G.P w a.eval = some f → F.fn f) ∧ wpOpsIn F 0 G.P ops Q (List.range' (k + 1) rest.length) (a.put o.dst undef) w := by
      intro F Q a w
      simp only [List.length_cons, List.range'_succ, wpOpsIn, hok]
    cases hg : guardOf ops S.ts o with
    | yes =>
      rw [hg] at h
      obtain ⟨S', h1, h2, h3⟩ := run S h
      refine ⟨S', h1, h2, fun E F hF η a w hS Q hQ => ?_⟩
      rw [unf, if_pos ((guard_wanted hS.ts).1 hg)]
      exact h3 E F hF η a w hS Q hQ
    | no =>
      rw [hg] at h
      obtain ⟨S', h1, h2, h3⟩ := skip S h
      refine ⟨S', h1, h2, fun E F hF η a w hS Q hQ => ?_⟩
      rw [unf, if_neg (by rw [(guard_wanted hS.ts).2.1 hg]; simp)]
      exact ⟨about_ok hF, h3 E F hF η a w hS Q hQ⟩
    | ask d b want =>
      rw [hg] at h
      simp only [putF_eq] at h
      have h := askK_both h
      by_cases hb : b = want
      · obtain ⟨S', h1, h2, h3⟩ := run ⟨put S.ts d (.bool (.lit want)), S.df, S.hp⟩ (h.1 hb)
        refine ⟨S', h1, h2, fun E F hF η a w hS Q hQ => ?_⟩
        obtain ⟨g1, g2⟩ := (guard_wanted hS.ts).2.2 d b want hg
        rw [unf, if_pos (by rw [g2, hb]; cases want <;> rfl)]
        exact h3 E F hF η a w (lit_rel hS g1 hb) Q hQ
      · have hb' : b = !want := by clear h; cases b <;> cases want <;> first | rfl | exact absurd rfl hb
        obtain ⟨S', h1, h2, h3⟩ := skip ⟨put S.ts d (.bool (.lit (!want))), S.df, S.hp⟩ (h.2 hb')
        refine ⟨S', h1, h2, fun E F hF η a w hS Q hQ => ?_⟩
        obtain ⟨g1, g2⟩ := (guard_wanted hS.ts).2.2 d b want hg
        rw [unf, if_neg (by rw [g2, hb']; cases want <;> simp)]
        exact ⟨about_ok hF, h3 E F hF η a w (lit_rel hS g1 hb') Q hQ⟩
    | bad => rw [hg] at h; exact h.elim

end Go.Sx
set_option linter.unusedSimpArgs false
set_option linter.unusedVariables false
namespace Go.Sx
open Go.RowKit (Below)

mutual
theorem allv_ids {p : Nat → Bool} : ∀ v : SV, v.allv p = true ↔ ∀ i ∈ idsV v, p i = true
  | .any => by simp [SV.allv, idsV]
  | .bool _ => by simp [SV.allv, idsV]
  | .int _ _ => by simp [SV.allv, idsV]
  | .str _ => by simp [SV.allv, idsV]
  | .ptr b o => by simp [SV.allv, idsV]
  | .slice b o l c => by
    cases c with
    | lit n => cases hb : p b <;> simp [SV.allv, idsV, SN.all, hb]
    | ltr k => cases hb : p b <;> simp [SV.allv, idsV, SN.all, hb]
    | num k => cases hb : p b <;> simp [SV.allv, idsV, SN.all, hb]
  | .fsl b n c => by
    cases c with
    | lit n => cases hb : p b <;> simp [SV.allv, idsV, SN.all, hb]
    | ltr k => cases hb : p b <;> simp [SV.allv, idsV, SN.all, hb]
    | num k => cases hb : p b <;> simp [SV.allv, idsV, SN.all, hb]
  | .fptr b i z o => by simp [SV.allv, idsV]
  | .bsl _ _ _ _ => by simp [SV.allv, idsV]
  | .bptr _ _ _ _ => by simp [SV.allv, idsV]
  | .osl b o z n c => by simp [SV.allv, idsV]
  | .fn f cs => by simp only [SV.allv, idsV]; exact allvs_ids cs
  | .mth f cs => by simp only [SV.allv, idsV]; exact allvs_ids cs
  | .yld b => by simp [SV.allv, idsV]
  | .agg cs => by simp only [SV.allv, idsV]; exact allvs_ids cs
  | .tup cs => by simp only [SV.allv, idsV]; exact allvs_ids cs
  | .val _ => by simp [SV.allv, idsV]
theorem allvs_ids {p : Nat → Bool} : ∀ l : List SV, SV.allvs p l = true ↔ ∀ i ∈ idsL l, p i = true
  | [] => by simp [SV.allvs, idsL]
  | c :: r => by
    rw [allvs_cons, allv_ids c, allvs_ids r]
    simp only [idsL, List.mem_append]
    exact ⟨fun h i hi => hi.elim (h.1 i) (h.2 i), fun h => ⟨fun i hi => h i (.inl hi), fun i hi => h i (.inr hi)⟩⟩
end
theorem allb_ids {p : Nat → Bool} (b : SBk) : b.allb p = true ↔ ∀ i ∈ idsB (some b), p i = true := by
  cases b with
  | cells cs ty tl =>
    cases tl with
    | full => exact allvs_ids cs
    | ltr k z =>
      have := allvs_ids (p := p) cs
      cases hk : p k <;> simp [SBk.allb, idsB, ST.all, hk, this]
  | loop st pe ts ps asg body db =>
    simp only [SBk.allb, idsB, List.mem_cons]
    constructor
    · intro h i hi
      split at h
      · rename_i hd
        rcases hi with rfl | hi
        · exact hd
        · exact (allvs_ids ts).1 h i hi
      · cases h
    · intro h
      rw [h db (.inl rfl)]
      exact (allvs_ids ts).2 fun i hi => h i (.inr hi)
  | dfr => simp [SBk.allb, idsB]
  | fblk n fs ty tl => cases tl <;> simp [SBk.allb, idsB, ST.all]

theorem den_ids {η η' : Nat → Nat} {v : SV} (h : ∀ i ∈ idsV v, η' i = η i) : v.den η' = v.den η := by
  have := den_congr (p := fun i => decide (η' i = η i)) (η := η) (η' := η') (fun i hi => of_decide_eq_true hi) v ((allv_ids v).2 fun i hi => by simpa using h i hi)
  exact this
theorem brel_ids {η η' : Nat → Nat} {b : SBk} {o : Obj} (h : ∀ i ∈ idsB (some b), η' i = η i) (hb : b.Rel η o) : b.Rel η' o :=
  hb.congr (p := fun i => decide (η' i = η i)) (fun i hi => of_decide_eq_true hi) ((allb_ids b).2 fun i hi => by simpa using h i hi)

theorem memN_iff {x : Nat} : ∀ {l : List Nat}, memN x l = true ↔ x ∈ l
  | [] => by simp [memN]
  | y :: r => by
    simp only [memN]
    split
    · rename_i h; have h := Nat.eq_of_beq_eq_true h; simp [h]
    · rename_i h; have h := Nat.ne_of_beq_eq_false h; rw [memN_iff (l := r)]; simp [h]
theorem memN_false {x : Nat} {l : List Nat} : memN x l = false ↔ x ∉ l := by
  rw [← memN_iff]; simp

theorem allLt_mem : ∀ {l : List Nat} {n : Nat}, allLt l n = true → ∀ d ∈ l, d < n
  | [], _, _, d, hd => by cases hd
  | x :: r, n, h, d, hd => by
    simp only [allLt] at h
    split at h
    · rename_i hx
      rcases List.mem_cons.1 hd with rfl | hd
      · simpa [Nat.blt_eq] using hx
      · exact allLt_mem h d hd
    · cases h

theorem restrict_go (fp : List Nat) : ∀ (hp : Hp) (k i : Nat), hget (restrict.go fp k hp) i = match memN (k + i) fp with | true => hget hp i | false => none
  | [], k, i => by simp only [restrict.go, hget]; cases memN (k + i) fp <;> rfl
  | b :: r, k, 0 => by
    simp only [restrict.go, hget, Nat.add_zero]
    cases memN k fp <;> rfl
  | b :: r, k, i + 1 => by
    simp only [restrict.go, hget]
    rw [restrict_go fp r (k + 1) i, show k + 1 + i = k + (i + 1) by omega]
theorem hget_restrict (hp : Hp) (fp : List Nat) (i : Nat) : hget (restrict hp fp) i = match memN i fp with | true => hget hp i | false => none := by
  have := restrict_go fp hp 0 i
  simpa [restrict] using this
theorem restrict_go_length (fp : List Nat) : ∀ (hp : Hp) (k : Nat), (restrict.go fp k hp).length = hp.length
  | [], k => rfl
  | b :: r, k => by simp [restrict.go, restrict_go_length fp r]
@[simp] theorem restrict_length (hp : Hp) (fp : List Nat) : (restrict hp fp).length = hp.length := restrict_go_length fp hp 0
theorem merge_go (fp : List Nat) : ∀ (hp hp' : Hp) (k i : Nat), hp.length ≤ hp'.length → hget (mergeH.go fp k hp hp') i = if i < hp.length ∧ memN (k + i) fp = false then hget hp i else hget hp' i
  | [], hp', k, i, _ => by simp [mergeH.go]
  | b :: r, [], k, i, h => by simp at h
  | b :: r, b' :: r', k, 0, h => by
    simp only [mergeH.go, hget, Nat.add_zero]
    cases memN k fp <;> simp
  | b :: r, b' :: r', k, i + 1, h => by
    simp only [mergeH.go, hget]
    rw [merge_go fp r r' (k + 1) i (by simpa using h), show k + 1 + i = k + (i + 1) by omega]
    simp
theorem hget_merge {hp hp' : Hp} {fp : List Nat} (h : hp.length ≤ hp'.length) (i : Nat) : hget (mergeH hp hp' fp) i = if i < hp.length ∧ memN i fp = false then hget hp i else hget hp' i := by
  have := merge_go fp hp hp' 0 i h
  simpa [mergeH] using this
theorem merge_go_length (fp : List Nat) : ∀ (hp hp' : Hp) (k : Nat), hp.length ≤ hp'.length → (mergeH.go fp k hp hp').length = hp'.length
  | [], hp', k, _ => by simp [mergeH.go]
  | b :: r, [], k, h => by simp at h
  | b :: r, b' :: r', k, h => by simp [mergeH.go, merge_go_length fp r r' (k + 1) (by simpa using h)]
theorem merge_length {hp hp' : Hp} {fp : List Nat} (h : hp.length ≤ hp'.length) : (mergeH hp hp' fp).length = hp'.length := merge_go_length fp hp hp' 0 h

def Agree (η : Nat → Nat) (x : Option Value) (v : SV) : Prop := v = .any ∨ x = some (v.den η)
structure Sim (v u : SV) : Prop where
  any : v = .any ↔ u = .any
  den : ∀ η, v.den η = u.den η
  ids : idsV v = idsV u
theorem Sim.refl (v : SV) : Sim v v := ⟨Iff.rfl, fun _ => rfl, rfl⟩
theorem Sim.trans {a b c : SV} (h : Sim a b) (k : Sim b c) : Sim a c := ⟨h.any.trans k.any, fun η => (h.den η).trans (k.den η), h.ids.trans k.ids⟩
theorem Sim.agree {a b : SV} (h : Sim a b) {η : Nat → Nat} {x : Option Value} (hx : Agree η x b) : Agree η x a := by
  rcases hx with e | e
  · exact .inl (h.any.2 e)
  · exact .inr (by rw [e, h.den])

structure Rc where
  o : Oper
  S : St
  ts1 : List SV
  v : SV
  sk : Bool
  ev : Ev
  hpr : Hp
  nx : St

def Src (ops : Array Oper) (rc : Rc) (i : Nat) : Prop :=
  (rc.ev.n ≤ i ∧ i < rc.ev.n') ∨ (∃ t ∈ namesOf ops rc.o, i ∈ idsV (nth rc.S.ts t)) ∨ (∃ b, memN b rc.ev.fp = true ∧ i ∈ idsB (hget rc.S.hp b))

structure RcOk (G : Glob) (ops : Array Oper) (rc : Rc) : Prop where
  sim1 : ∀ t, Sim (nth rc.ts1 t) (nth rc.S.ts t)
  len1 : rc.ts1.length = rc.S.ts.length
  nts : rc.nx.ts = putDst rc.ts1 rc.o.dst rc.v
  ndf : rc.nx.df = rc.S.df
  en : rc.ev.n = rc.S.hp.length
  en' : rc.ev.n' = rc.nx.hp.length
  le : rc.ev.n ≤ rc.ev.n'
  fplt : ∀ b, memN b rc.ev.fp = true → b < rc.ev.n
  keep : ∀ b, b < rc.ev.n → (rc.ev.wr = true → memN b rc.ev.fp = false) → hget rc.nx.hp b = hget rc.S.hp b
  aft : rc.sk = false → ∀ b, (memN b rc.ev.fp = true ∨ rc.ev.n ≤ b) → hget rc.hpr b = hget rc.nx.hp b
  plen : rc.sk = false → rc.hpr.length = rc.ev.n'
  vids : ∀ i ∈ idsV rc.v, Src ops rc i
  bids : ∀ b c, (memN b rc.ev.fp = true ∨ rc.ev.n ≤ b) → hget rc.nx.hp b = some c → ∀ i ∈ idsB (some c), Src ops rc i
  skp : rc.sk = true → rc.v = .val undef ∧ rc.ev.n' = rc.ev.n ∧ rc.ev.wr = false ∧ ∀ η (tmps : Array Value), (∀ t ∈ namesOf ops rc.o, Agree η tmps[t]? (nth rc.S.ts t)) → Region.wanted rc.o (yielded ops tmps) = false
  go : rc.sk = false → ∀ η (a : Act), (∀ t ∈ namesOf ops rc.o, Agree η a.tmps[t]? (nth rc.S.ts t)) → Region.wanted rc.o (yielded ops a.tmps) = true ∧
    ∀ F, WideF F → ∀ w, HR G.w0 η (restrict rc.S.hp rc.ev.fp) w → ∀ (next : Act → World → Prop) (Q : Exit → Act → World → Prop),
      (∀ η' w', HR G.w0 η' rc.hpr w' → PO η (restrict rc.S.hp rc.ev.fp) w η' rc.hpr w' → next (a.put rc.o.dst (rc.v.den η')) w') → rc.o.wpIn F 0 G.P a w next Q

def Chain : St → List Rc → St → Prop
  | S, [], S' => S = S'
  | S, rc :: R, S' => rc.S = S ∧ Chain rc.nx R S'

theorem guard_wanted' {ops : Array Oper} {ts : List SV} {o : Oper} {η : Nat → Nat} {tmps : Array Value} (h : ∀ t ∈ namesOf ops o, Agree η tmps[t]? (nth ts t)) :
    (guardOf ops ts o = .yes → Region.wanted o (yielded ops tmps) = true) ∧
    (guardOf ops ts o = .no → Region.wanted o (yielded ops tmps) = false) ∧
    (∀ d b want, guardOf ops ts o = .ask d b want → nth ts d = .bool (.sym b) ∧ Region.wanted o (yielded ops tmps) = (b == want)) := by
  unfold guardOf Region.wanted
  cases hg : o.guard with
  | none => simp
  | some p =>
    obtain ⟨j, want⟩ := p
    simp only
    cases hj : ops.toList[j]? with
    | none =>
      have : yielded ops tmps j = none := by
        have h1' : ops[j]? = none := by rw [← Array.getElem?_toList]; exact hj
        simp [yielded, h1']
      simp [this]
    | some oj =>
      simp only
      cases hd : oj.dst with
      | none =>
        have : yielded ops tmps j = none := by
          have h1' : ops[j]? = some oj := by rw [← Array.getElem?_toList]; exact hj
          simp [yielded, h1', hd]
        simp [this]
      | some d =>
        simp only
        have hy := yielded_eq (tmps := tmps) hj hd
        have hmem : d ∈ namesOf ops o := by simp [namesOf, hg, hj, hd]
        have hag := h d hmem
        cases hv : nth ts d with
        | any => simp
        | bool b =>
          rw [hv] at hag
          have := hag.resolve_left (by simp)
          rw [this] at hy
          simp only [SV.den] at hy
          cases b with
          | lit b => cases b <;> cases want <;> simp [hy]
          | sym b => simp only [hy]; refine ⟨by simp, by simp, ?_⟩; rintro d' b' w' e; cases e; exact ⟨hv, by simp⟩
        | val v =>
          rw [hv] at hag
          have := hag.resolve_left (by simp)
          rw [this] at hy
          simp only [SV.den] at hy
          cases v <;> simp_all
        | int k n => rw [hv] at hag; have := hag.resolve_left (by simp); rw [this] at hy; simp only [SV.den] at hy; simp [hy]
        | str k => rw [hv] at hag; have := hag.resolve_left (by simp); rw [this] at hy; simp only [SV.den] at hy; simp [hy]
        | ptr k n => rw [hv] at hag; have := hag.resolve_left (by simp); rw [this] at hy; simp only [SV.den] at hy; simp [hy]
        | slice k n m l => rw [hv] at hag; have := hag.resolve_left (by simp); rw [this] at hy; simp only [SV.den] at hy; simp [hy]
        | fsl k n m => rw [hv] at hag; have := hag.resolve_left (by simp); rw [this] at hy; simp only [SV.den] at hy; simp [hy]
        | fptr k n m l => rw [hv] at hag; have := hag.resolve_left (by simp); rw [this] at hy; simp only [SV.den] at hy; simp [hy]
        | bsl k n m l => rw [hv] at hag; have := hag.resolve_left (by simp); rw [this] at hy; simp only [SV.den] at hy; simp [hy]
        | osl k n m l u => rw [hv] at hag; have := hag.resolve_left (by simp); rw [this] at hy; simp only [SV.den] at hy; simp [hy]
        | bptr k n m l => rw [hv] at hag; have := hag.resolve_left (by simp); rw [this] at hy; simp only [SV.den] at hy; simp [hy]
        | fn k n => rw [hv] at hag; have := hag.resolve_left (by simp); rw [this] at hy; simp only [SV.den] at hy; simp [hy]
        | mth k n => rw [hv] at hag; have := hag.resolve_left (by simp); rw [this] at hy; simp only [SV.den] at hy; simp [hy]
        | yld k => rw [hv] at hag; have := hag.resolve_left (by simp); rw [this] at hy; simp only [SV.den] at hy; simp [hy]
        | agg k => rw [hv] at hag; have := hag.resolve_left (by simp); rw [this] at hy; simp only [SV.den] at hy; simp [hy]
        | tup k => rw [hv] at hag; have := hag.resolve_left (by simp); rw [this] at hy; simp only [SV.den] at hy; simp [hy]

theorem evo_agree {ops : Array Oper} {o : Oper} {ts : List SV} {η : Nat → Nat} {a : Act} (h : ∀ t ∈ namesOf ops o, Agree η a.tmps[t]? (nth ts t)) {x : Operand} (hx : x ∈ o.op.operands) (hn : (evo ts x).isAny = false) :
    a.eval x = (evo ts x).den η := by
  cases x with
  | tmp t =>
    have hm : t ∈ namesOf ops o := by
      simp only [namesOf, List.mem_append, List.mem_filterMap]
      exact .inl (.inr ⟨.tmp t, by simpa using hx, rfl⟩)
    simp only [evo] at hn ⊢
    have := (h t hm).resolve_left (fun e => by rw [e] at hn; cases hn)
    simp [Act.eval, Array.getD_eq_getD_getElem?, this]
  | const v => simp [evo, Act.eval, den_ofValA]
  | global g => simp [evo, Act.eval, SV.den]
  | func f => simp [evo, Act.eval, SV.den, SV.dens]

theorem ids_ofVal (v : Value) : idsV (ofVal v) = [] := by unfold ofVal; split <;> rfl
theorem ids_ofValA (v : Value) : idsV (ofValA v) = [] := by
  unfold ofValA; split
  · rename_i cs
    simp only [idsV]
    induction cs.toList with
    | nil => rfl
    | cons x r ih => simp [idsL, ids_ofVal, ih]
  · exact ids_ofVal _

theorem operand_ids {ops : Array Oper} {o : Oper} {ts : List SV} {i : Nat} (h : i ∈ idsL (o.op.operands.toList.map (evo ts))) : ∃ t ∈ namesOf ops o, i ∈ idsV (nth ts t) := by
  have key : ∀ (l : List Operand), (∀ x ∈ l, x ∈ o.op.operands.toList) → i ∈ idsL (l.map (evo ts)) → ∃ t ∈ namesOf ops o, i ∈ idsV (nth ts t) := by
    intro l
    induction l with
    | nil => intro _ h; simp [idsL] at h
    | cons x r ih =>
      intro hm h
      simp only [List.map_cons, idsL, List.mem_append] at h
      rcases h with h | h
      · cases x with
        | tmp t =>
          refine ⟨t, ?_, h⟩
          simp only [namesOf, List.mem_append, List.mem_filterMap]
          exact .inl (.inr ⟨.tmp t, hm _ (by simp), rfl⟩)
        | const v => simp only [evo, ids_ofValA] at h; cases h
        | global g => simp [evo, idsV] at h
        | func f => simp [evo, idsV, idsL] at h
      · exact ih (fun y hy => hm y (by simp [hy])) h
  exact key _ (fun x hx => hx) h

theorem okId_src {ops : Array Oper} {rc : Rc} {i : Nat} (hsim : ∀ t, Sim (nth rc.ts1 t) (nth rc.S.ts t)) (hn : rc.ev.n = rc.S.hp.length) (h : okId rc.ts1 rc.S.hp rc.o rc.ev.fp rc.ev.n' i = true) : Src ops rc i := by
  unfold okId at h
  split at h
  · rename_i h1 h2
    exact .inl ⟨by rw [hn]; exact Nat.le_of_ble_eq_true h1, by simpa [Nat.blt_eq] using h2⟩
  · split at h
    · rename_i hm
      obtain ⟨t, ht, hi⟩ := operand_ids (ops := ops) (memN_iff.1 hm)
      exact .inr (.inl ⟨t, ht, by rw [← (hsim t).ids]; exact hi⟩)
    · have := memN_iff.1 h
      rw [List.mem_flatMap] at this
      obtain ⟨b, hb, hi⟩ := this
      exact .inr (.inr ⟨b, memN_iff.2 hb, hi⟩)

theorem okHpFrom_get {p : Nat → Bool} {fp : List Nat} {lo : Nat} : ∀ {hp : Hp} {k : Nat}, okHpFrom p fp lo k hp = true → ∀ {i : Nat} {b : SBk}, hget hp i = some b → (memN (k + i) fp = true ∨ lo ≤ k + i) → b.allb p = true
  | [], k, _, i, b, hb, _ => by simp [hget] at hb
  | c :: r, k, h, 0, b, hb, hi => by
    simp only [hget] at hb; subst hb
    simp only [okHpFrom, Nat.add_zero] at h hi
    split at h
    · rename_i hc
      split at hc
      · rename_i h1 h2
        rcases hi with e | e
        · rw [h1] at e; cases e
        · have : Nat.ble lo k = true := (by rw [Nat.ble_eq]; exact e)
          rw [h2] at this; cases this
      · exact hc
    · cases h
  | c :: r, k, h, i + 1, b, hb, hi => by
    simp only [okHpFrom] at h
    split at h
    · exact okHpFrom_get (hp := r) (k := k + 1) h (by simpa [hget] using hb) (by rw [show k + 1 + i = k + (i + 1) by omega]; exact hi)
    · cases h

theorem guard_ask {ops : Array Oper} {ts : List SV} {o : Oper} {d : Nat} {b want : Bool} (h : guardOf ops ts o = .ask d b want) : nth ts d = .bool (.sym b) := by
  unfold guardOf at h
  split at h
  · cases h
  · split at h
    · cases h
    · split at h
      · cases h
      · split at h <;> first | (cases h; done) | skip
        · split at h <;> cases h
        · rename_i hh; cases h; exact hh
        · split at h <;> cases h

theorem sim_put_lit {ts : List SV} {d : Nat} {b want : Bool} (hd : nth ts d = .bool (.sym b)) (hb : b = want) (t : Nat) : Sim (nth (put ts d (.bool (.lit want))) t) (nth ts t) := by
  have hlt : d < ts.length := by
    rw [nth_eq] at hd
    rcases Nat.lt_or_ge d ts.length with h | h
    · exact h
    · simp [List.getElem?_eq_none h] at hd
  by_cases e : t = d
  · subst e
    have : nth (put ts t (.bool (.lit want))) t = .bool (.lit want) := by rw [nth_eq, put_eq]; simp [hlt]
    rw [this, hd]
    exact ⟨by simp, fun η => by simp [SV.den, hb], rfl⟩
  · have : nth (put ts d (.bool (.lit want))) t = nth ts t := by rw [nth_eq, nth_eq, put_eq, List.getElem?_set_ne (Ne.symm e)]
    rw [this]; exact .refl _

theorem exDraw_trace {G : Glob} {r : Rec} (hr : RecOk G r) {cx : Cx} {ops : Array Oper} : ∀ (rest : List Oper) (S : St) (evs : List Ev) (K : St → Prop), exDraw G r cx ops rest S evs K →
    ∃ R S', K S' ∧ R.map (·.o) = rest ∧ Chain S R S' ∧ (∀ rc ∈ R, RcOk G ops rc) ∧ chkReg ops (befL ops.toList []) [] [] ops.toList (evs.reverse ++ R.map (·.ev)) = true ∧ edgesOk 0 ops.toList = true
  | [], S, evs, K, h => by
    simp only [exDraw] at h
    split at h
    · rename_i h1 h2
      exact ⟨[], S, h, rfl, rfl, (fun rc hrc => by cases hrc), (by simpa using h1), h2⟩
    · cases h
  | o :: rest, S, evs, K, h => by
    rw [exDraw_cons] at h
    simp only [forceV_eq, putDstF_eq, forceHp_eq, putF_eq] at h
    have skip : ∀ ts1 : List SV, (∀ t, Sim (nth ts1 t) (nth S.ts t)) → ts1.length = S.ts.length → (∀ η (tmps : Array Value), (∀ t ∈ namesOf ops o, Agree η tmps[t]? (nth S.ts t)) → Region.wanted o (yielded ops tmps) = false) →
        exDraw G r cx ops rest ⟨putDst ts1 o.dst (.val undef), S.df, S.hp⟩ (⟨[], false, S.hp.length, S.hp.length⟩ :: evs) K →
        ∃ R S', K S' ∧ R.map (·.o) = o :: rest ∧ Chain S R S' ∧ (∀ rc ∈ R, RcOk G ops rc) ∧ chkReg ops (befL ops.toList []) [] [] ops.toList (evs.reverse ++ R.map (·.ev)) = true ∧ edgesOk 0 ops.toList = true := by
      intro ts1 hsim hlen hw h
      obtain ⟨R, S', hK, hm, hc, hok, hch, hedg⟩ := exDraw_trace hr rest _ _ K h
      let rc : Rc := ⟨o, S, ts1, .val undef, true, ⟨[], false, S.hp.length, S.hp.length⟩, S.hp, ⟨putDst ts1 o.dst (.val undef), S.df, S.hp⟩⟩
      refine ⟨rc :: R, S', hK, (by simp [rc, hm]), ⟨rfl, hc⟩, ?_, (by simpa [rc] using hch), hedg⟩
      intro q hq
      rcases List.mem_cons.1 hq with rfl | hq
      · refine ⟨hsim, hlen, rfl, rfl, rfl, rfl, Nat.le_refl _, (fun b hb => by simp [rc, memN] at hb), (fun b _ _ => rfl), (fun h => by cases h), (fun h => by cases h), (fun i hi => by simp [rc, idsV] at hi), (fun b c hb hc => ?_), (fun _ => ⟨rfl, rfl, rfl, hw⟩), (fun h => by cases h)⟩
        have := hget_some_lt hc
        simp only [rc, memN] at hb this
        rcases hb with e | e
        · cases e
        · omega
      · exact hok q hq
    have run : ∀ ts1 : List SV, (∀ t, Sim (nth ts1 t) (nth S.ts t)) → ts1.length = S.ts.length → (∀ η (tmps : Array Value), (∀ t ∈ namesOf ops o, Agree η tmps[t]? (nth S.ts t)) → Region.wanted o (yielded ops tmps) = true) →
        (match opsOk ts1 o with
          | false => False
          | true =>
            match isRead o with
            | true =>
              sRead G.P G.w0 ts1 (restrict S.hp (fpRead ts1 S.hp o)) o fun v nb =>
                match nb with
                | none => match v.allv (okId ts1 S.hp o (fpRead ts1 S.hp o) S.hp.length), allLt (fpRead ts1 S.hp o) S.hp.length with
                  | true, true => exDraw G r cx ops rest ⟨putDst ts1 o.dst v, S.df, S.hp⟩ (⟨fpRead ts1 S.hp o, false, S.hp.length, S.hp.length⟩ :: evs) K
                  | _, _ => False
                | some b => match v.allv (okId ts1 S.hp o (fpRead ts1 S.hp o) (S.hp.length + 1)), b.allb (okId ts1 S.hp o (fpRead ts1 S.hp o) S.hp.length), allLt (fpRead ts1 S.hp o) S.hp.length, okAlloc [] (restrict S.hp (fpRead ts1 S.hp o)) b with
                  | true, true, true, true => exDraw G r cx ops rest ⟨putDst ts1 o.dst v, S.df, S.hp ++ [some b]⟩ (⟨fpRead ts1 S.hp o, false, S.hp.length, S.hp.length + 1⟩ :: evs) K
                  | _, _, _, _ => False
            | false =>
              exEff G r cx o ts1 (restrict S.hp (fpEff ts1 S.hp o)) fun v hp' =>
                match v.allv (okId ts1 S.hp o (fpEff ts1 S.hp o) hp'.length), okHpFrom (okId ts1 S.hp o (fpEff ts1 S.hp o) hp'.length) (fpEff ts1 S.hp o) S.hp.length 0 hp', allLt (fpEff ts1 S.hp o) S.hp.length, Nat.ble S.hp.length hp'.length with
                | true, true, true, true => exDraw G r cx ops rest ⟨putDst ts1 o.dst v, S.df, mergeH S.hp hp' (fpEff ts1 S.hp o)⟩ (⟨fpEff ts1 S.hp o, calmW (calmOp G ts1 o), S.hp.length, hp'.length⟩ :: evs) K
                | _, _, _, _ => False) →
        ∃ R S', K S' ∧ R.map (·.o) = o :: rest ∧ Chain S R S' ∧ (∀ rc ∈ R, RcOk G ops rc) ∧ chkReg ops (befL ops.toList []) [] [] ops.toList (evs.reverse ++ R.map (·.ev)) = true ∧ edgesOk 0 ops.toList = true := by
      intro ts1 hsim hlen hw h
      have ev1 : ∀ η (a : Act), opsOk ts1 o = true → (∀ t ∈ namesOf ops o, Agree η a.tmps[t]? (nth S.ts t)) → ∀ x ∈ o.op.operands, a.eval x = (evo ts1 x).den η := fun η a hoo ha x hx =>
        evo_agree (fun t ht => (hsim t).agree (ha t ht)) hx (opsOk_mem hoo hx)
      split at h
      · cases h
      · rename_i hoo
        split at h
        · obtain ⟨v, nb, hK, hva, hR⟩ := sRead_sound hoo h
          have hdd := isRead_defer (G := G) h
          cases nb with
          | none =>
            simp only at hK
            split at hK
            case h_2 => cases hK
            rename_i hids hfl
            obtain ⟨R, S', hK', hm, hc, hok, hch, hedg⟩ := exDraw_trace hr rest _ _ K hK
            let rc : Rc := ⟨o, S, ts1, v, false, ⟨fpRead ts1 S.hp o, false, S.hp.length, S.hp.length⟩, restrict S.hp (fpRead ts1 S.hp o), ⟨putDst ts1 o.dst v, S.df, S.hp⟩⟩
            refine ⟨rc :: R, S', hK', (by simp [rc, hm]), ⟨rfl, hc⟩, ?_, (by simpa [rc] using hch), hedg⟩
            intro q hq
            rcases List.mem_cons.1 hq with rfl | hq
            · refine ⟨hsim, hlen, rfl, rfl, rfl, rfl, Nat.le_refl _, (fun b hb => allLt_mem hfl b (memN_iff.1 hb)), (fun b _ _ => rfl), (fun _ b hb => ?_), (fun _ => by simp [rc]), (fun i hi => okId_src (rc := rc) hsim rfl ((allv_ids v).1 hids i hi)), (fun b c hb hc i hi => ?_), (fun h => by cases h), (fun _ η a ha => ⟨hw η a.tmps ha, fun F hF w hw0 next Q hn => ?_⟩)⟩
              · simp only [rc] at hb ⊢
                rw [hget_restrict]
                rcases hb with e | e
                · rw [e]
                · cases hmm : memN b (fpRead ts1 S.hp o) with
                  | true => rfl
                  | false =>
                    cases hgg : hget S.hp b with
                    | none => rfl
                    | some c => have := hget_some_lt hgg; omega
              · simp only [rc] at hb hc
                have hlt := hget_some_lt hc
                exact .inr (.inr ⟨b, hb.resolve_right (by omega), by rw [show hget rc.S.hp b = some c from hc]; exact hi⟩)
              · have hrun := hR η a.eval w hw0 (ev1 η a hoo ha)
                simp only at hrun
                refine ⟨about_ok hF, ?_⟩
                rw [Oper.semAt_eq _ _ _ hdd, hrun, Oper.uponIn_value]
                exact hn η w hw0 (PO.refl _ _ _)
            · exact hok q hq
          | some b =>
            simp only at hK
            split at hK
            case h_2 => cases hK
            rename_i hids hbids hfl hal
            obtain ⟨R, S', hK', hm, hc, hok, hch, hedg⟩ := exDraw_trace hr rest _ _ K hK
            let rc : Rc := ⟨o, S, ts1, v, false, ⟨fpRead ts1 S.hp o, false, S.hp.length, S.hp.length + 1⟩, restrict S.hp (fpRead ts1 S.hp o) ++ [some b], ⟨putDst ts1 o.dst v, S.df, S.hp ++ [some b]⟩⟩
            refine ⟨rc :: R, S', hK', (by simp [rc, hm]), ⟨rfl, hc⟩, ?_, (by simpa [rc] using hch), hedg⟩
            intro q hq
            rcases List.mem_cons.1 hq with rfl | hq
            · refine ⟨hsim, hlen, rfl, rfl, rfl, (by simp [rc]), (by simp [rc]), (fun b hb => allLt_mem hfl b (memN_iff.1 hb)), (fun b' hb' _ => ?_), (fun _ b' hb' => ?_), (fun _ => by simp [rc]), (fun i hi => okId_src (rc := rc) hsim rfl ((allv_ids v).1 hids i hi)), (fun b' c hb' hc i hi => ?_), (fun h => by cases h), (fun _ η a ha => ⟨hw η a.tmps ha, fun F hF w hw0 next Q hn => ?_⟩)⟩
              · simp only [rc] at hb' ⊢
                rw [hget_append, if_pos hb']
              · simp only [rc] at hb' ⊢
                rw [hget_append, hget_append, restrict_length]
                split
                · rename_i hlt
                  rw [hget_restrict, hb'.resolve_right (by omega)]
                · rfl
              · simp only [rc] at hb' hc
                rw [hget_append] at hc
                split at hc
                · rename_i hlt
                  exact .inr (.inr ⟨b', hb'.resolve_right (by omega), by rw [show hget rc.S.hp b' = some c from hc]; exact hi⟩)
                · have hcb : c = b := by
                    have hl := hget_some_lt hc
                    simp at hl
                    rw [hl] at hc
                    simp [hget] at hc; exact hc.symm
                  subst hcb
                  have hx := (allb_ids c).1 hbids i hi
                  refine okId_src (rc := rc) hsim rfl ?_
                  simp only [rc]
                  unfold okId at hx ⊢
                  split at hx
                  · rename_i h1 h2
                    have h1 := Nat.le_of_ble_eq_true h1
                    have h2 : i < S.hp.length := by simpa [Nat.blt_eq] using h2
                    omega
                  · split
                    · rfl
                    · exact hx
              · obtain ⟨obj, hb, hrun⟩ := hR η a.eval w hw0 (ev1 η a hoo ha)
                refine ⟨about_ok hF, ?_⟩
                rw [Oper.semAt_eq _ _ _ hdd, hrun, Oper.uponIn_value]
                obtain ⟨k1, k2, k3⟩ := okAlloc_eq hal
                have hlt : ∀ i, ltb (restrict S.hp (fpRead ts1 S.hp o)).length i = true → upd η (restrict S.hp (fpRead ts1 S.hp o)).length w.heap.size i = η i := fun i hi => upd_lt η (ltb_iff.1 hi)
                obtain ⟨m1, m2⟩ := move_alloc hw0 k1 (b := b) (o := obj) (hb.congr hlt k3)
                exact hn _ _ m1 m2
            · exact hok q hq
        · have hx := h
          obtain ⟨v, hp', hK, hE, hcl⟩ : ∃ v hp', _ ∧ EffOk G o ts1 (restrict S.hp (fpEff ts1 S.hp o)) v hp' ∧ (calmOp G ts1 o = true → ∃ e, hp' = restrict S.hp (fpEff ts1 S.hp o) ++ e) := by
            cases hcm : calmOp G ts1 o with
            | true => obtain ⟨v, hp', a, b, c⟩ := exEff_calm hr hoo hcm hx; exact ⟨v, hp', a, b, fun _ => c⟩
            | false => obtain ⟨v, hp', a, b⟩ := exEff_sound hr hoo hx; exact ⟨v, hp', a, b, fun z => by cases z⟩
          split at hK
          case h_2 => cases hK
          rename_i hids hbids hfl hlen2
          obtain ⟨R, S', hK', hm, hc, hok, hch, hedg⟩ := exDraw_trace hr rest _ _ K hK
          have hle : S.hp.length ≤ hp'.length := Nat.le_of_ble_eq_true hlen2
          let rc : Rc := ⟨o, S, ts1, v, false, ⟨fpEff ts1 S.hp o, calmW (calmOp G ts1 o), S.hp.length, hp'.length⟩, hp', ⟨putDst ts1 o.dst v, S.df, mergeH S.hp hp' (fpEff ts1 S.hp o)⟩⟩
          refine ⟨rc :: R, S', hK', (by simp [rc, hm]), ⟨rfl, hc⟩, ?_, (by simpa [rc] using hch), hedg⟩
          intro q hq
          rcases List.mem_cons.1 hq with rfl | hq
          · refine ⟨hsim, hlen, rfl, rfl, rfl, (by simp [rc, merge_length hle]), hle, (fun b hb => allLt_mem hfl b (memN_iff.1 hb)), (fun b' hb' hwr => ?_), (fun _ b' hb' => ?_), (fun _ => rfl), (fun i hi => okId_src (rc := rc) hsim rfl ((allv_ids v).1 hids i hi)), (fun b' c hb' hc i hi => ?_), (fun h => by cases h), (fun _ η a ha => ⟨hw η a.tmps ha, fun F hF w hw0 next Q hn => ?_⟩)⟩
            · simp only [rc] at hb' hwr ⊢
              cases hcm : calmOp G ts1 o with
              | false =>
                rw [hcm] at hwr
                rw [hget_merge hle, if_pos ⟨hb', hwr rfl⟩]
              | true =>
                obtain ⟨e, rfl⟩ := hcl hcm
                cases hmf : memN b' (fpEff ts1 S.hp o) with
                | false => rw [hget_merge hle, if_pos ⟨hb', hmf⟩]
                | true =>
                  rw [hget_merge hle, if_neg (fun z => by rw [hmf] at z; cases z.2), hget_append, if_pos (by rw [restrict_length]; exact hb'), hget_restrict, hmf]
            · simp only [rc] at hb' ⊢
              rw [hget_merge hle, if_neg]
              rintro ⟨h1, h2⟩
              rcases hb' with e | e
              · rw [h2] at e; cases e
              · omega
            · simp only [rc] at hb' hc
              rw [hget_merge hle, if_neg (by
                rintro ⟨h1, h2⟩
                rcases hb' with e | e
                · rw [h2] at e; cases e
                · omega)] at hc
              have := okHpFrom_get (k := 0) hbids hc (by simpa using hb')
              exact okId_src (rc := rc) hsim rfl ((allb_ids c).1 this i hi)
            · exact hE F hF η a w hw0 (ev1 η a hoo ha) next Q hn
          · exact hok q hq
    cases hg : guardOf ops S.ts o with
    | yes => rw [hg] at h; exact run S.ts (fun t => .refl _) rfl (fun η tmps ha => (guard_wanted' ha).1 hg) h
    | no => rw [hg] at h; exact skip S.ts (fun t => .refl _) rfl (fun η tmps ha => (guard_wanted' ha).2.1 hg) h
    | ask d b want =>
      rw [hg] at h
      have hd : nth S.ts d = .bool (.sym b) := guard_ask hg
      have h := askK_both h
      by_cases hb : b = want
      · exact run _ (sim_put_lit hd hb) (by simp) (fun η tmps ha => by rw [((guard_wanted' ha).2.2 d b want hg).2, hb]; cases want <;> rfl) (h.1 hb)
      · have hb' : b = !want := by clear h; cases b <;> cases want <;> first | rfl | exact absurd rfl hb
        exact skip _ (sim_put_lit hd hb') (by simp) (fun η tmps ha => by rw [((guard_wanted' ha).2.2 d b want hg).2, hb']; cases want <;> rfl) (h.2 hb')
    | bad => rw [hg] at h; exact h.elim

end Go.Sx
