import Derived.Test.YtaaobpalpcdlbaaSxG
set_option linter.unusedSimpArgs false
set_option linter.unusedVariables false
namespace Go.Sx
open Go.RowKit (Below)

def fnc (rd : Option Nat) (η : Nat → Nat) : Fence := match rd with | none => Fence.wide | some b => Fence.wide.inRound (η b)
def WideF (F : Fence) : Prop := F = Fence.wide ∨ ∃ l, F = Fence.wide.inRound l
theorem fnc_wide (rd : Option Nat) (η : Nat → Nat) : WideF (fnc rd η) := by
  cases rd with
  | none => exact .inl rfl
  | some b => exact .inr ⟨_, rfl⟩
theorem WideF.fn {F : Fence} (h : WideF F) (f : FuncId) : F.fn f := by rcases h with rfl | ⟨l, rfl⟩ <;> exact trivial
theorem WideF.depth {F : Fence} (h : WideF F) : F.depth = none := by rcases h with rfl | ⟨l, rfl⟩ <;> rfl
theorem WideF.deep {F : Fence} (h : WideF F) (n : Nat) : F.depth.isSome = true → 1 ≤ n := by rw [h.depth]; intro h; cases h
theorem WideF.calls {F : Fence} (h : WideF F) {n : Nat} {P : Program} {f : FuncId} {args : Array Value} {w : World} {R : Ending → World → Prop} (hc : CallsIn Fence.wide n P f args w R) : CallsIn F n P f args w R := by
  rcases h with rfl | ⟨l, rfl⟩
  · exact hc
  · exact hc
theorem WideF.rows {F : Fence} (h : WideF F) {n : Nat} {P : Program} {row : String} {args : Array Value} {w : World} {R : Value → World → Prop} (hc : RowsIn Fence.wide n P row args w R) : RowsIn F n P row args w R := by
  rcases h with rfl | ⟨l, rfl⟩
  · exact hc
  · exact hc
theorem WideF.round {F : Fence} (h : WideF F) {n : Nat} {P : Program} {l : Nat} {f : FuncId} {tmps : Array Value} {a b : Code} {w : World} {R : Ending → World → Prop} (hc : RoundIn Fence.wide n P l f tmps a b w R) : RoundIn F n P l f tmps a b w R := by
  rcases h with rfl | ⟨l, rfl⟩
  · exact hc
  · exact hc
theorem fnc_round (rd : Option Nat) (η : Nat → Nat) : (fnc rd η).round = rd.map η := by cases rd <;> rfl

structure Ent where
  η : Nat → Nat
  f : Nat → Option SBk
  n : Nat
  w : World

def dfs (η : Nat → Nat) (l : List Nat) : List Deferred := l.map fun d => { target := .collected (η d), args := #[] }

structure RelS (w0 : World) (E : Ent) (η : Nat → Nat) (S : St) (a : Act) (w : World) : Prop where
  hr : HR w0 η S.hp w
  ts : LRel η S.ts a.tmps
  df : a.defers = dfs η S.df
  dfl : ∀ d ∈ S.df, d < S.hp.length
  po : Post E.η E.f E.n E.w η (hget S.hp) S.hp.length w

theorem RelS.step {w0 E η S a w} (h : RelS w0 E η S a w) {η' : Nat → Nat} {hp' : Hp} {w' : World} (hr : HR w0 η' hp' w') (po : PO η S.hp w η' hp' w') : Post E.η E.f E.n E.w η' (hget hp') hp'.length w' := h.po.trans po

def FnRun (P : Program) (f : FuncId) (args : Array Value) (w : World) (R : Value → World → Prop) : Prop :=
  ∃ nx, (callFunc f args).run P w = .ok nx w ∧
    match nx with
    | .value v => R v w
    | .enter g as => CallsIn Fence.wide 0 P g as w fun e w' => ∃ v, e = .returned v ∧ R v w'
    | .row row as => RowsIn Fence.wide 0 P row as w R
    | _ => False

def CallOk (G : Glob) (f : FuncId) (args : List SV) (hp : Hp) (r : SV) (hp' : Hp) : Prop :=
  ∀ η w, HR G.w0 η hp w → FnRun G.P f (SV.dens η args).toArray w fun x w' => ∃ η', x = r.den η' ∧ HR G.w0 η' hp' w' ∧ PO η hp w η' hp' w'

def Done (G : Glob) (cx : Cx) (S : St) (c : Code) (e : Exit) (S' : St) : Prop :=
  ∀ E : Ent, E.n = cx.lo → ∀ η a w, RelS G.w0 E η S a w →
    c.wpIn (fnc cx.rd E.η) 0 G.P (fun e' a' w' => e' = e ∧ ∃ η', RelS G.w0 E η' S' a' w') a w

def cxOk (cx : Cx) : Prop := ∀ b, cx.rd = some b → b < cx.lo

def okE : Exit → Prop | .normal => True | .exit _ => True | .ret => True | _ => False

structure RecOk (G : Glob) (r : Rec) : Prop where
  code : ∀ cx c S K, cxOk cx → r.code cx c S K → ∃ e S', K e S' ∧ okE e ∧ Done G cx S c e S'
  call : ∀ f args hp K, r.call f args hp K → ∃ v hp', K v hp' ∧ CallOk G f args hp v hp'
  loop : ∀ cx c S K, cxOk cx → r.loop cx c S K → ∃ e S', K e S' ∧ okE e ∧ ∃ m, ∀ E : Ent, E.n = cx.lo → ∀ η a w, RelS G.w0 E η S a w →
    Code.roundsIn (fnc cx.rd E.η) 0 G.P c (fun e' a' w' => e' = e ∧ ∃ η', RelS G.w0 E η' S' a' w') m a w

structure GOk (G : Glob) : Prop where
  names : ∀ (f : Nat) (fn : Func), G.P.funcs[f]? = some fn → (fn.name == "runtime.NumGoroutine") = false
  orders : G.P.follows .mixedOrders = true
  orc : ∀ f C, G.orc f = some C → ∀ args hp K, C args hp K → ∃ v hp', K v hp' ∧ CallOk G f args hp v hp'

theorem FRel.of_row1 {n : Int} {fc : FC} {c : Array Value} (h : ∀ i : Nat, i < n.toNat → c[i]? = some (fc.val i)) : FRel n [fc] c := by
  intro i j fc' hi hj
  cases j with
  | zero => simp at hj; subst hj; simpa using h i hi
  | succ j => simp at hj
theorem run_storeAt {P : Program} {w w' : World} {η : Nat → Nat} {t : TypeId} {a : Addr} {v : SV} {m : Nat} (hv : v.isAny = false) (hs : allScalar v.cellsL = true) (hm : szOf P t = some m) (h1 : v.cellsL.length = m)
    (hrun : (storeCells a (SV.dens η v.cellsL)).run P w = .ok () w') : (Instr.storeAt t (.pointer (some a)) (v.den η)).run P w = .ok () w' := by
  have hcells := cells_den hv η
  have hcl := hcells.eq_dens (fun u hu => scalar_ne_any (allScalar_iff hs u hu))
  have hsz : ¬ ((v.den η).cells.size ≠ m) := by rw [hcells.1, h1]; simp
  simp only [Instr.storeAt, Instr.sureAddr, bind, Sem.run_bind', Sem.run_pure, Result.andThen_ok, storeVar, run_szOf hm, hsz, if_false, pure, Sem.run]
  rw [hcl]
  exact hrun
theorem sStore_sound {P : Program} {w0 : World} {hp : Hp} {t : TypeId} {p v : SV} {K : Hp → Prop} (hv : v.isAny = false) (h : sStore P hp t p v K) :
    ∃ hp', K hp' ∧ ∀ η w, HR w0 η hp w → ∃ w', (Instr.storeAt t (p.den η) (v.den η)).run P w = .ok () w' ∧ HR w0 η hp' w' ∧ PO η hp w η hp' w' := by
  unfold sStore at h
  split at h
  · rename_i b o
    split at h
    · rename_i cs ty tl hb
      split at h
      · rename_i n hn
        split at h
        · rename_i h1 h2 h3
          have h1 := Nat.eq_of_beq_eq_true h1
          have h2 := Nat.le_of_ble_eq_true h2
          refine ⟨_, h, fun η w hr => ?_⟩
          obtain ⟨c, fz, hc, hz, hheap, _⟩ := cell_at hr hb
          have hcells := cells_den hv η
          have hcl := hcells.eq_dens (fun u hu => scalar_ne_any (allScalar_iff h3 u hu))
          have hs : (v.den η).cells.size = n := by rw [hcells.1, h1]
          have hcs := ST.ok_le hc.1
          obtain ⟨c', hcz, hc', hrun⟩ := run_storeCells (P := P) (η := η) v.cellsL 0 o h3 hheap hz hc (by omega)
          obtain ⟨m1, m2⟩ := move_put hr (b := .cells (spl cs o v.cellsL) ty tl) hb ⟨c', fz, hc', hz.size hcz, rfl⟩
          refine ⟨_, ?_, m1, m2⟩
          have hsz : ¬ ((v.den η).cells.size ≠ n) := by omega
          simp only [Instr.storeAt, SV.den, Instr.sureAddr, bind, Sem.run_bind', Sem.run_pure, Result.andThen_ok, storeVar, run_szOf hn, hsz, if_false, pure, Sem.run]
          rw [hcl]
          exact hrun
        · cases h
      · cases h
    · rename_i n fc ty tl hb
      split at h
      · rename_i m hm
        split at h
        · rename_i h1
          have h1 := Nat.eq_of_beq_eq_true h1
          obtain ⟨h2, h⟩ := h
          obtain ⟨fc', hK, hs, e1, e2⟩ := setRow_sound h
          refine ⟨_, hK, fun η w hr => ?_⟩
          obtain ⟨c, fz, g0, g1, g2, hz, hheap, hcell⟩ := fblk_at hr hb
          have hle := ST.ok_le g1
          simp only [List.length_singleton, Nat.mul_one] at hle
          obtain ⟨c2, s1, s2, s3, s4⟩ := run_storeAll (P := P) (η := η) v.cellsL o hs hheap hz (by omega)
          have hfr : FRel n [fc'] c2 := by
            refine FRel.of_row1 fun i hi => ?_
            by_cases hin : o ≤ i ∧ i < o + v.cellsL.length
            · have hv2 : v.cellsL[i - o]? = some v.cellsL[i - o] := List.getElem?_eq_getElem (by omega)
              have := s3 (i - o) _ hv2
              rw [show o + (i - o) = i by omega] at this
              rw [this, e1 _ _ hv2 η]
              congr 2; omega
            · rw [s2 i hin, g2.row1 hi, e2 _ (by omega)]
          obtain ⟨m1, m2⟩ := move_put hr (b := .fblk n [fc'] ty tl) hb ⟨c2, fz, ⟨g0, by rw [s1]; exact g1, hfr⟩, hz.size s1, rfl⟩
          exact ⟨_, run_storeAt hv hs hm h1 s4, m1, m2⟩
        · cases h
      · cases h
    · cases h
  · rename_i b i z o
    split at h
    · rename_i n fs ty tl hb
      split at h
      · rename_i m hm
        split at h
        · rename_i h1 hzl
          have h1 := Nat.eq_of_beq_eq_true h1
          have hzl := Nat.eq_of_beq_eq_true hzl
          split at h
          · rename_i fc
            obtain ⟨⟨h2, h3⟩, h⟩ := h
            obtain ⟨fc', hK, hs, e1, e2⟩ := setRow_sound h
            refine ⟨_, hK, fun η w hr => ?_⟩
            obtain ⟨c, fz, g0, g1, g2, hz, hheap, hcell⟩ := fblk_at hr hb
            have hle := ST.ok_le g1
            simp only [List.length_singleton, Nat.mul_one] at hle
            obtain ⟨c2, s1, s2, s3, s4⟩ := run_storeAll (P := P) (η := η) v.cellsL i.toNat hs hheap hz (by omega)
            have hfr : FRel n [fc'] c2 := by
              refine FRel.of_row1 fun j hj => ?_
              by_cases hin : i.toNat ≤ j ∧ j < i.toNat + v.cellsL.length
              · have hv2 : v.cellsL[j - i.toNat]? = some v.cellsL[j - i.toNat] := List.getElem?_eq_getElem (by omega)
                have := s3 (j - i.toNat) _ hv2
                rw [show i.toNat + (j - i.toNat) = j by omega] at this
                rw [this, e1 _ _ hv2 η]
                congr 2; omega
              · rw [s2 j hin, g2.row1 hj, e2 _ (by omega)]
            obtain ⟨m1, m2⟩ := move_put hr (b := .fblk n [fc'] ty tl) hb ⟨c2, fz, ⟨g0, by rw [s1]; exact g1, hfr⟩, hz.size s1, rfl⟩
            refine ⟨_, ?_, m1, m2⟩
            have hz1 : z = 1 := hzl
            have : (SV.fptr b i z 0).den η = .pointer (some ⟨η b, i.toNat, none⟩) := by simp [SV.den, hz1]
            rw [this]
            exact run_storeAt hv hs hm h1 s4
          · obtain ⟨⟨h2, h3⟩, h⟩ := h
            obtain ⟨fs', hK, f1, hs, f3, f4⟩ := setAt_sound h
            refine ⟨_, hK, fun η w hr => ?_⟩
            obtain ⟨c, fz, g0, g1, g2, hz, hheap, hcell⟩ := fblk_at hr hb
            have hle := ST.ok_le g1
            have hmul : (i.toNat + 1) * fs.length ≤ n.toNat * fs.length := Nat.mul_le_mul_right _ (by omega)
            rw [Nat.add_mul] at hmul
            obtain ⟨c2, s1, s2, s3, s4⟩ := run_storeAll (P := P) (η := η) v.cellsL (i.toNat * z + o) hs hheap hz (by rw [hzl]; omega)
            have hfr : FRel n fs' c2 := by
              intro a j fc' ha hj
              obtain ⟨fc, k1, k2, k3, k4⟩ := f4 j fc' hj
              have hjl := (List.getElem?_eq_some_iff.1 k1).1
              rw [f1]
              by_cases hai : a = i.toNat
              · by_cases hin : o ≤ j ∧ j < o + v.cellsL.length
                · have hv2 : v.cellsL[j - o]? = some v.cellsL[j - o] := List.getElem?_eq_getElem (by omega)
                  have := s3 (j - o) _ hv2
                  rw [show i.toNat * z + o + (j - o) = a * fs.length + j by rw [hzl, hai]; omega] at this
                  rw [this, k3 _ hin.1 hv2 η, hai, Int.toNat_of_nonneg h2]
                · have e5 := k4 (by rcases Nat.lt_or_ge j o with h | h; exact .inl h; exact .inr (List.getElem?_eq_none (by omega)))
                  rw [s2 _ (by rw [hzl, hai]; omega), g2 a j fc ha k1, hai, Int.toNat_of_nonneg h2, e5]
              · have hd : ¬ (i.toNat * z + o ≤ a * fs.length + j ∧ a * fs.length + j < i.toNat * z + o + v.cellsL.length) := by
                  rw [hzl]
                  rcases Nat.lt_or_ge a i.toNat with h | h
                  · have : (a + 1) * fs.length ≤ i.toNat * fs.length := Nat.mul_le_mul_right _ h
                    rw [Nat.add_mul] at this; omega
                  · have : (i.toNat + 1) * fs.length ≤ a * fs.length := Nat.mul_le_mul_right _ (by omega)
                    rw [Nat.add_mul] at this; omega
                rw [s2 _ hd, g2 a j fc ha k1, k2 _ (by omega)]
            obtain ⟨m1, m2⟩ := move_put hr (b := .fblk n fs' ty tl) hb ⟨c2, fz, ⟨g0, by rw [s1, f1]; exact g1, hfr⟩, hz.size s1, rfl⟩
            exact ⟨_, run_storeAt hv hs hm h1 s4, m1, m2⟩
        · cases h
      · cases h
    · cases h
  · cases h

theorem loop_at {w0 : World} {η : Nat → Nat} {hp : Hp} {w : World} (h : HR w0 η hp w) {b : Nat} {st : LoopState} {pe : Option Code} {ts : List SV} {ps : Array Tmp} {asg body : Code} {db : Nat}
    (hb : hget hp b = some (.loop st pe ts ps asg body db)) :
    ∃ r : Loop, w.heap[η b]? = some (.loop r) ∧ r.state = st ∧ r.pending = pe ∧ LRel η ts r.tmps ∧ r.params = ps ∧ r.assign = asg ∧ r.body = body ∧ r.defers = η db ∧
      ∀ st' pe', HR w0 η (hput hp b (some (.loop st' pe' ts ps asg body db))) (w.putObj (η b) (.loop { r with state := st', pending := pe' })) ∧
        PO η hp w η (hput hp b (some (.loop st' pe' ts ps asg body db))) (w.putObj (η b) (.loop { r with state := st', pending := pe' })) := by
  obtain ⟨o, ho, fn, tmps, ht, rfl⟩ := h.cell b _ hb
  exact ⟨_, ho, rfl, rfl, ht, rfl, rfl, rfl, rfl, fun st' pe' => move_put h hb ⟨fn, tmps, ht, rfl⟩⟩

theorem isReady_eq {s : LoopState} (h : isReady s = true) : s = .ready := by cases s <;> first | rfl | cases h
theorem isBusy_ne {s : LoopState} (h : isBusy s = false) : s ≠ .busy := by cases s <;> first | (intro e; cases e; done) | cases h

theorem putAll_rel {η : Nat → Nat} : ∀ (ps : List Tmp) (vs : List SV) {ts : List SV} {a : Array Value}, LRel η ts a →
    LRel η (putAll ts ps vs) ((ps.zip (SV.dens η vs)).foldl (fun t (p : Tmp × Value) => t.setIfInBounds p.1 p.2) a)
  | [], vs, ts, a, h => by simpa [putAll] using h
  | p :: ps, [], ts, a, h => by simpa [putAll, SV.dens] using h
  | p :: ps, v :: vs, ts, a, h => by
    simp only [putAll, SV.dens, List.zip_cons_cons, List.foldl_cons]
    exact putAll_rel ps vs (h.put p (.inr rfl))

def RoundOk (G : Glob) (b : Nat) (args : List SV) (hp : Hp) (v : SV) (hp' : Hp) : Prop :=
  ∀ η w, HR G.w0 η hp w → ∃ fn tmps asg body, (Instr.yield (η b) (SV.dens η args).toArray).run G.P w = .ok (.round (η b) fn tmps asg body) w ∧
    RoundIn Fence.wide 0 G.P (η b) fn tmps asg body w fun e w' => ∃ η', e = .returned (v.den η') ∧ HR G.w0 η' hp' w' ∧ PO η hp w η' hp' w'

theorem exRound_sound {G : Glob} {r : Rec} (hr : RecOk G r) {cx : Cx} {b : Nat} {args : List SV} {hp : Hp} {K : SV → Hp → Prop} (h : exRound r cx b args hp K) :
    ∃ v hp', K v hp' ∧ RoundOk G b args hp v hp' := by
  unfold exRound at h
  simp only [forceVs_eq, forceHp_eq] at h
  split at h
  · rename_i st pe ts ps asg body db hb
    split at h
    · rename_i h1 h2
      have h1 := isReady_eq h1
      subst h1
      have h2 := Nat.eq_of_beq_eq_true h2
      have hlt := hget_some_lt hb
      obtain ⟨e, S, hK, oke, hdone⟩ := hr.code _ _ _ _ (fun b' hb' => by simp at hb'; subst hb'; exact hlt) h
      split at hK
      · split at hK
        · rename_i st1 pe1 ts1 ps1 asg1 body1 db1 hb1
          split at hK
          · rename_i hrd
            have hrd := isReady_eq hrd
            subst hrd
            obtain ⟨e2, S2, hK2, oke2, hdone2⟩ := hr.code _ _ _ _ (fun b' hb' => by simp at hb'; subst hb'; exact hlt) hK
            split at hK2
            · rename_i st2 pe2 ts2 ps2 asg2 body2 db2 hb2
              -- the machine's side, for whatever jump
              have key : ∀ (v : SV) (hp' : Hp) (jump : Option Code), hp' = hput S2.hp b (some (.loop (if jump.isNone then .ready else .done) jump ts2 ps2 asg2 body2 db2)) → v = .bool (.lit jump.isNone) →
                  (∀ (l : Nat) (R : Ending → World → Prop) (a : Act) (w : World), (∃ x w', (Instr.endRound l jump).run G.P w = .ok x w' ∧ R (.returned x) w') → roundPost G.P l R e2 a w) → RoundOk G b args hp v hp' := by
                intro v hp' jump hhp hv hpost η w hw
                obtain ⟨rc, hheap, hst, hpe, htm, hps, has, hbo, hdf, _⟩ := loop_at hw hb
                refine ⟨rc.fn, (rc.params.zip (SV.dens η args).toArray).foldl (fun tmps (t, a) => tmps.setIfInBounds t a) rc.tmps, rc.assign, rc.body, run_yield hheap (by simp [hps, h2]), ?_⟩
                have htmps : LRel η (putAll ts ps.toList args) ((rc.params.zip (SV.dens η args).toArray).foldl (fun tmps (t, a) => tmps.setIfInBounds t a) rc.tmps) := by
                  have := putAll_rel (η := η) ps.toList args htm
                  rw [hps, ← Array.foldl_toList]
                  simpa using this
                refine roundIn_of_wpIn (F := Fence.wide) trivial ?_
                let E : Ent := ⟨η, hget hp, hp.length, w⟩
                have h0 : RelS G.w0 E η ⟨putAll ts ps.toList args, [], hp⟩ { tmps := (rc.params.zip (SV.dens η args).toArray).foldl (fun tmps (t, a) => tmps.setIfInBounds t a) rc.tmps, defers := [] } w :=
                  ⟨hw, htmps, rfl, (fun d hd => by cases hd), PO.refl _ _ _⟩
                have w1 := hdone E rfl η _ w h0
                rw [has]
                refine wpIn_mono w1 ?_
                rintro e' a1 w1' ⟨rfl, η1, hS⟩
                obtain ⟨rc1, hheap1, hst1, hpe1, htm1, hps1, has1, hbo1, hdf1, turn1⟩ := loop_at hS.hr hb1
                have hηb : η1 b = η b := hS.po.ext b hlt
                obtain ⟨t1, t2⟩ := turn1 .busy pe1
                have hrec : ({ rc1 with state := .busy, pending := pe1 } : Loop) = { rc1 with state := .busy } := by rw [← hpe1]
                rw [hrec] at t1 t2
                refine ⟨w1'.putObj (η b) (.loop { rc1 with state := .busy }), by rw [← hηb]; exact run_beginRound hheap1 hst1, ?_⟩
                rw [hηb] at t1 t2
                have h2' : RelS G.w0 E η1 { S with hp := hput S.hp b (some (.loop .busy pe1 ts1 ps1 asg1 body1 db1)) } a1 (w1'.putObj (η b) (.loop { rc1 with state := .busy })) :=
                  ⟨t1, hS.ts, hS.df, (fun d hd => by have := hS.dfl d hd; simpa using this), hS.po.trans t2⟩
                have w2 := hdone2 E rfl η1 a1 _ h2'
                rw [hbo]
                refine wpIn_mono w2 ?_
                rintro e' a2 w2' ⟨rfl, η2, hS2⟩
                refine hpost (η b) _ a2 w2' ?_
                obtain ⟨rc2, hheap2, hst2, hpe2, htm2, hps2, has2, hbo2, hdf2, turn2⟩ := loop_at hS2.hr hb2
                have hηb2 : η2 b = η b := hS2.po.ext b hlt
                obtain ⟨u1, u2⟩ := turn2 (if jump.isNone then .ready else .done) jump
                refine ⟨_, _, by rw [← hηb2]; exact run_endRound jump hheap2, η2, by rw [hv]; rfl, by rw [hhp]; exact u1, by rw [hhp]; exact hS2.po.trans u2⟩
              split at hK2
              · exact ⟨_, _, hK2, key _ _ none rfl rfl fun l R a w hh => hh⟩
              · exact ⟨_, _, hK2, key _ _ (some .ret) rfl rfl fun l R a w hh => hh⟩
              · rename_i id
                exact ⟨_, _, hK2, key _ _ (some (.exit id)) rfl rfl fun l R a w hh => hh⟩
              · cases hK2
            · cases hK2
          · cases hK
        · cases hK
      · cases hK
    · cases h
  · cases h

theorem evo_rel {η : Nat → Nat} {ts : List SV} {a : Act} (h : LRel η ts a.tmps) {x : Operand} (hx : (evo ts x).isAny = false) : a.eval x = (evo ts x).den η := by
  cases x with
  | tmp t =>
    simp only [evo] at hx ⊢
    have := h.nth (i := t) rfl (fun e => by rw [e] at hx; cases hx)
    simp [Act.eval, Array.getD_eq_getD_getElem?, this]
  | const v => simp [evo, Act.eval, den_ofValA]
  | global g => simp [evo, Act.eval, SV.den]
  | func f => simp [evo, Act.eval, SV.den, SV.dens]

def EffOk (G : Glob) (o : Oper) (ts : List SV) (hp : Hp) (v : SV) (hp' : Hp) : Prop :=
  ∀ (F : Fence), WideF F → ∀ η (a : Act) w, HR G.w0 η hp w → (∀ x ∈ o.op.operands, a.eval x = (evo ts x).den η) → ∀ (next : Act → World → Prop) (Q : Exit → Act → World → Prop),
    (∀ η' w', HR G.w0 η' hp' w' → PO η hp w η' hp' w' → next (a.put o.dst (v.den η')) w') → o.wpIn F 0 G.P a w next Q

theorem about_ok {F : Fence} (h : WideF F) {P : Program} {o : Oper} {w : World} {ρ : Operand → Value} : ∀ f, o.about P w ρ = some f → F.fn f := fun f _ => h.fn f

theorem exEff_sound {G : Glob} {r : Rec} (hr : RecOk G r) {cx : Cx} {o : Oper} {ts : List SV} {hp : Hp} {K : SV → Hp → Prop} (hok : opsOk ts o = true) (h : exEff G r cx o ts hp K) :
    ∃ v hp', K v hp' ∧ EffOk G o ts hp v hp' := by
  unfold exEff at h
  split at h
  · rename_i t a x hop
    obtain ⟨hp', hK, hs⟩ := sStore_sound (w0 := G.w0) (opsOk_mem hok (x := x) (by rw [hop]; simp [Op.operands])) h
    refine ⟨_, hp', hK, fun F hF η ac w hw ho next Q hn => ⟨about_ok hF, ?_⟩⟩
    obtain ⟨w', hrun, h1, h2⟩ := hs η w hw
    have e1 := ho a (by rw [hop]; simp [Op.operands])
    have e2 := ho x (by rw [hop]; simp [Op.operands])
    rw [Oper.semAt_eq _ _ _ (fun c => by rw [hop]; simp)]
    have : (execOp ac.eval o).run G.P w = .ok .skip w' := by
      simp only [execOp, hop, e1, e2, bind, Sem.run_bind', hrun, Result.andThen_ok]
      rfl
    rw [this, Oper.uponIn_skip]
    exact hn η w' h1 h2
  · rename_i c hop
    split at h
    · rename_i f hcal
      have hargs : ∀ (η : Nat → Nat) (ac : Act), (∀ x ∈ o.op.operands, ac.eval x = (evo ts x).den η) → c.args.map ac.eval = (SV.dens η (c.args.toList.map (evo ts))).toArray := fun η ac ho =>
        args_den c.args (fun x hx => ho x (by rw [hop]; simp only [Op.operands, Call.operands, hcal]; simp; right; simpa using hx))
      split at h
      · rename_i g cap hg
        obtain ⟨v, hp', hK, hc⟩ := hr.call _ _ _ _ h
        refine ⟨v, hp', hK, fun F hF η ac w hw ho next Q hn => ⟨about_ok hF, ?_⟩⟩
        obtain ⟨nx, hrun, hnx⟩ := hc η w hw
        have e1 := ho f (by rw [hop]; simp only [Op.operands, Call.operands, hcal]; simp)
        rw [hg] at e1
        have hrun' : (execOp ac.eval o).run G.P w = .ok nx w := by
          simp only [execOp, hop, resolve, hcal, e1, SV.den, Deferred.ofValue, hargs η ac ho]
          simp only [Sem.run_bind, Sem.run_pure, Result.andThen_ok, invoke, Array.empty_append]
          rw [List.append_toArray, ← dens_append]
          exact hrun
        rw [Oper.semAt_eq _ _ _ (fun c => by rw [hop]; simp), hrun']
        cases nx with
        | value x =>
          obtain ⟨η', rfl, h1, h2⟩ := hnx
          exact hn η' w h1 h2
        | enter g as =>
          refine ⟨hF.deep _, (hF.calls hnx).mono ?_⟩
          rintro e w' ⟨x, rfl, η', rfl, h1, h2⟩
          exact hn η' w' h1 h2
        | row row as =>
          refine ⟨hF.deep _, (hF.rows hnx).mono ?_⟩
          rintro x w' ⟨η', rfl, h1, h2⟩
          exact hn η' w' h1 h2
        | _ => exact hnx.elim
      · rename_i g fs hg
        obtain ⟨v, hp', hK, hc⟩ := hr.call _ _ _ _ h
        refine ⟨v, hp', hK, fun F hF η ac w hw ho next Q hn => ⟨about_ok hF, ?_⟩⟩
        obtain ⟨nx, hrun, hnx⟩ := hc η w hw
        have e1 := ho f (by rw [hop]; simp only [Op.operands, Call.operands, hcal]; simp)
        rw [hg] at e1
        have hrun' : (execOp ac.eval o).run G.P w = .ok nx w := by
          simp only [execOp, hop, resolve, hcal, e1, SV.den, Deferred.ofValue, hargs η ac ho]
          simp only [Sem.run_bind, Sem.run_pure, Result.andThen_ok, invoke, Array.append_empty]
          rw [List.append_toArray, ← dens_append]
          exact hrun
        rw [Oper.semAt_eq _ _ _ (fun c => by rw [hop]; simp), hrun']
        cases nx with
        | value x =>
          obtain ⟨η', rfl, h1, h2⟩ := hnx
          exact hn η' w h1 h2
        | enter g as =>
          refine ⟨hF.deep _, (hF.calls hnx).mono ?_⟩
          rintro e w' ⟨x, rfl, η', rfl, h1, h2⟩
          exact hn η' w' h1 h2
        | row row as =>
          refine ⟨hF.deep _, (hF.rows hnx).mono ?_⟩
          rintro x w' ⟨η', rfl, h1, h2⟩
          exact hn η' w' h1 h2
        | _ => exact hnx.elim
      · rename_i b hg
        obtain ⟨v, hp', hK, hc⟩ := exRound_sound hr h
        refine ⟨v, hp', hK, fun F hF η ac w hw ho next Q hn => ⟨about_ok hF, ?_⟩⟩
        obtain ⟨fn, tmps, asg, body, hrun, hrd⟩ := hc η w hw
        have e1 := ho f (by rw [hop]; simp only [Op.operands, Call.operands, hcal]; simp)
        rw [hg] at e1
        have hrun' : (execOp ac.eval o).run G.P w = .ok (.round (η b) fn tmps asg body) w := by
          simp only [execOp, hop, resolve, hcal, e1, SV.den, Deferred.ofValue, hargs η ac ho]
          simp only [Sem.run_bind, Sem.run_pure, Result.andThen_ok, invoke, Array.empty_append, hrun]
        rw [Oper.semAt_eq _ _ _ (fun c => by rw [hop]; simp), hrun']
        refine ⟨hF.deep _, (hF.round hrd).mono ?_⟩
        rintro e w' ⟨η', rfl, h1, h2⟩
        exact hn η' w' h1 h2
      · cases h
    · rename_i b hcal
      have hargs : ∀ (η : Nat → Nat) (ac : Act), (∀ x ∈ o.op.operands, ac.eval x = (evo ts x).den η) → c.args.map ac.eval = (SV.dens η (c.args.toList.map (evo ts))).toArray := fun η ac ho =>
        args_den c.args (fun x hx => ho x (by rw [hop]; simp only [Op.operands, Call.operands, hcal]; simpa using hx))
      split at h
      · rename_i s x hl
        obtain ⟨v, hp', hK, hc⟩ := sAppend_sound h o.type
        refine ⟨v, hp', hK, fun F hF η ac w hw ho next Q hn => ⟨about_ok hF, ?_⟩⟩
        obtain ⟨η', w', hrun, h1, h2⟩ := hc G.w0 η w hw
        have ha := hargs η ac ho
        rw [hl] at ha
        have hrun' : (execOp ac.eval o).run G.P w = .ok (.value (v.den η')) w' := by
          simp only [execOp, hop, resolve, hcal, ha]
          simp only [Sem.run_bind, Sem.run_pure, Result.andThen_ok, invoke, builtin, List.map_cons, List.map_nil, SV.dens]
          rw [show ([(evo ts s).den η, (evo ts x).den η] : List Value).toArray = #[(evo ts s).den η, (evo ts x).den η] from rfl, hrun]
          rfl
        rw [Oper.semAt_eq _ _ _ (fun c => by rw [hop]; simp), hrun']
        exact hn η' w' h1 h2
      · rename_i d x hl
        obtain ⟨v, hp', hK, hc⟩ := sCopy_sound h o.type
        refine ⟨v, hp', hK, fun F hF η ac w hw ho next Q hn => ⟨about_ok hF, ?_⟩⟩
        obtain ⟨η', w', hrun, h1, h2⟩ := hc G.w0 η w hw
        have ha := hargs η ac ho
        rw [hl] at ha
        have hrun' : (execOp ac.eval o).run G.P w = .ok (.value (v.den η')) w' := by
          simp only [execOp, hop, resolve, hcal, ha]
          simp only [Sem.run_bind, Sem.run_pure, Result.andThen_ok, invoke, builtin, List.map_cons, List.map_nil, SV.dens]
          rw [show ([(evo ts d).den η, (evo ts x).den η] : List Value).toArray = #[(evo ts d).den η, (evo ts x).den η] from rfl, hrun]
          rfl
        rw [Oper.semAt_eq _ _ _ (fun c => by rw [hop]; simp), hrun']
        exact hn η' w' h1 h2
      · cases h
    · cases h
  · rename_i s d x hop
    obtain ⟨v, hp', hK, hc⟩ := sConvE_sound h
    refine ⟨v, hp', hK, fun F hF η ac w hw ho next Q hn => ⟨about_ok hF, ?_⟩⟩
    obtain ⟨η', w', hrun, h1, h2⟩ := hc G.w0 η w hw
    have e1 := ho x (by rw [hop]; simp [Op.operands])
    have hrun' : (execOp ac.eval o).run G.P w = .ok (.value (v.den η')) w' := by
      simp only [execOp, hop, e1]
      simp only [Sem.run_bind, Sem.run_pure, hrun, Result.andThen_ok]
    rw [Oper.semAt_eq _ _ _ (fun c => by rw [hop]; simp), hrun']
    exact hn η' w' h1 h2
  · cases h

end Go.Sx
