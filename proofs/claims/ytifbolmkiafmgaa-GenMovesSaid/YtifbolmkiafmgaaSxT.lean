import Derived.Test.YtifbolmkiafmgaaSxQ
set_option linter.unusedVariables false
namespace Go.Sx
open Go.RowKit (Below)

def shF {α : Type} (o : Int) (f : Int → α) : Int → α := fun i => f (o + i)
def cpF {α : Type} (q m : Int) (g f : Int → α) : Int → α := fun i => if q ≤ i ∧ i < q + m then g (i - q) else f i
def tabF {α : Type} (l : List α) (d : α) : Int → α := fun i => l.getD i.toNat d
def shFC (o : Int) : FC → FC
  | .int k f => .int k (shF o f)
  | .bool f => .bool (shF o f)
  | .str f => .str (shF o f)
theorem shFC_val (o : Int) (fc : FC) (i : Int) : (shFC o fc).val i = fc.val (o + i) := by cases fc <;> rfl
def shFCs (o : Int) : List FC → List FC
  | [] => []
  | fc :: r => shFC o fc :: shFCs o r
theorem shFCs_get (o : Int) : ∀ (fs : List FC) (j : Nat), (shFCs o fs)[j]? = (fs[j]?).map (shFC o)
  | [], j => by simp [shFCs]
  | fc :: r, 0 => by simp [shFCs]
  | fc :: r, j + 1 => by simp [shFCs, shFCs_get o r j]
theorem shFCs_len (o : Int) : ∀ fs : List FC, (shFCs o fs).length = fs.length
  | [] => rfl
  | fc :: r => by simp [shFCs, shFCs_len o r]

def srcFn (w0 : World) (hp : Hp) (z : Nat) (x : SV) (K : Int → List FC → Prop) : Prop :=
  match x with
  | .bsl a n _ fs => (match Nat.beq z fs.length with | true => (0 ≤ n ∧ ∀ i : Int, 0 ≤ i → i < n → BaseAt w0 a fs i) ∧ K n fs | false => False)
  | .fsl b n _ => (match hget hp b with
    | some (.fblk n' fs _ _) => (match Nat.beq z fs.length with | true => (0 ≤ n ∧ n ≤ n') ∧ K n fs | false => False)
    | _ => False)
  | .osl b o y n _ => (match hget hp b with
    | some (.fblk n' fs _ _) => (match Nat.beq z fs.length, Nat.beq z y with | true, true => (0 ≤ o ∧ 0 ≤ n ∧ o + n ≤ n') ∧ K n (shFCs o fs) | _, _ => False)
    | _ => False)
  | _ => False
def fcsv (fs : List FC) (q : Nat) : SV := match fs[q % fs.length]? with
  | some (.int k f) => .int k (.sym (f ((q / fs.length : Nat) : Int)))
  | some (.bool f) => .bool (.sym (f ((q / fs.length : Nat) : Int)))
  | some (.str f) => .str (.sym (f ((q / fs.length : Nat) : Int)))
  | none => .bool (.lit true)
def fcells (fs : List FC) (n : Nat) : List SV := (List.range (n * fs.length)).map (fcsv fs)
theorem fcsv_den {fs : List FC} {q : Nat} {fc : FC} (h : fs[q % fs.length]? = some fc) (η : Nat → Nat) : (fcsv fs q).den η = fc.val ((q / fs.length : Nat) : Int) := by
  unfold fcsv; rw [h]; cases fc <;> rfl
theorem fcsv_scalar (fs : List FC) (q : Nat) : (fcsv fs q).scalar = true := by unfold fcsv; split <;> rfl
theorem fcsv_allv (p : Nat → Bool) (fs : List FC) (q : Nat) : (fcsv fs q).allv p = true := by unfold fcsv; split <;> rfl
theorem allScalar_map {f : Nat → SV} (h : ∀ q, (f q).scalar = true) : ∀ l : List Nat, allScalar (l.map f) = true
  | [] => rfl
  | q :: r => by simp only [List.map_cons, allScalar, h, allScalar_map h r]
theorem fcells_scalar (fs : List FC) (n : Nat) : allScalar (fcells fs n) = true := allScalar_map (fcsv_scalar fs) _
theorem fcells_len (fs : List FC) (n : Nat) : (fcells fs n).length = n * fs.length := by simp [fcells]
theorem fcells_take (fs : List FC) {m n : Nat} (h : m ≤ n) : (fcells fs n).take (m * fs.length) = fcells fs m := by
  have := Nat.mul_le_mul_right fs.length h
  unfold fcells
  rw [← List.map_take, List.take_range, Nat.min_eq_left this]
theorem fcells_at {fs : List FC} {n i j : Nat} {fc : FC} (hi : i < n) (hj : fs[j]? = some fc) (η : Nat → Nat) : ∃ v, (fcells fs n)[i * fs.length + j]? = some v ∧ v.den η = fc.val i := by
  have hjl : j < fs.length := (List.getElem?_eq_some_iff.1 hj).1
  have h1 : (i + 1) * fs.length ≤ n * fs.length := Nat.mul_le_mul_right _ hi
  rw [Nat.add_mul] at h1
  have e1 : (i * fs.length + j) % fs.length = j := by rw [Nat.mul_comm, Nat.mul_add_mod]; exact Nat.mod_eq_of_lt hjl
  have e2 : (i * fs.length + j) / fs.length = i := by rw [Nat.mul_comm, Nat.mul_add_div (by omega), Nat.div_eq_of_lt hjl, Nat.add_zero]
  refine ⟨fcsv fs (i * fs.length + j), ?_, ?_⟩
  · unfold fcells
    rw [List.getElem?_map, List.getElem?_range (by omega)]; rfl
  · rw [fcsv_den (fc := fc) (by rw [e1]; exact hj), e2]
theorem srcFn_sound {P : Program} {w0 : World} {hp : Hp} {z : Nat} {x : SV} {K : Int → List FC → Prop} (h : srcFn w0 hp z x K) :
    ∃ n fs, K n fs ∧ 0 ≤ n ∧ fs.length = z ∧ ∀ (η : Nat → Nat) (w : World), HR w0 η hp w → (Builtin.lenOf (x.den η)).run P w = .ok n.toNat w ∧
      ∀ m, m ≤ n.toNat → (Builtin.firstCells z m (x.den η)).run P w = .ok (SV.dens η (fcells fs m)).toArray w := by
  have main : ∀ (w : World) (η : Nat → Nat) (a : Addr) (len cap m : Nat) (fs : List FC), (∀ i j fc, i < m → fs[j]? = some fc → w.cell? (a.add (i * fs.length + j)) = some (fc.val (i : Int))) →
      (Builtin.firstCells fs.length m (.slice (some a) len cap)).run P w = .ok (SV.dens η (fcells fs m)).toArray w := by
    intro w η a len cap m fs hc
    refine run_firstCells_some (P := P) w fs.length m a len cap _ (by rw [dens_length, fcells_len]) fun q v hv => ?_
    rw [dens_get] at hv
    simp only [Option.map_eq_some_iff] at hv
    obtain ⟨u, hu, rfl⟩ := hv
    have hq : q < m * fs.length := by have := (List.getElem?_eq_some_iff.1 hu).1; rwa [fcells_len] at this
    have hz : 0 < fs.length := by rcases Nat.eq_zero_or_pos fs.length with e | e; · rw [e] at hq; simp at hq
                                  · exact e
    have hjl : q % fs.length < fs.length := Nat.mod_lt _ hz
    have hi : q / fs.length < m := Nat.div_lt_of_lt_mul (by rwa [Nat.mul_comm] at hq)
    have hj : fs[q % fs.length]? = some fs[q % fs.length] := List.getElem?_eq_getElem hjl
    have e : q / fs.length * fs.length + q % fs.length = q := by rw [Nat.mul_comm]; exact Nat.div_add_mod _ _
    have := hc (q / fs.length) (q % fs.length) _ hi hj
    rw [e] at this
    rw [this]
    have hu' : u = fcsv fs q := by
      unfold fcells at hu
      rw [List.getElem?_map, List.getElem?_range hq] at hu
      injection hu with hu; exact hu.symm
    rw [hu', fcsv_den hj]
  unfold srcFn at h
  split at h
  · rename_i a n c fs
    split at h
    · rename_i hz
      have hz := Nat.eq_of_beq_eq_true hz
      subst hz
      obtain ⟨⟨h0, hb⟩, h⟩ := h
      refine ⟨_, _, h, h0, rfl, fun η w hr => ⟨by simp [Builtin.lenOf, SV.den], fun m hm => ?_⟩⟩
      refine main w η a n.toNat c m fs fun i j fc hi hj => ?_
      have := hb (i : Int) (by omega) (by omega) j fc hj
      rw [Int.toNat_natCast] at this
      exact base_cell hr this
    · cases h
  · rename_i b n c
    split at h
    · rename_i n' fs ty tl hb
      split at h
      · rename_i hz
        have hz := Nat.eq_of_beq_eq_true hz
        subst hz
        obtain ⟨⟨h0, h1⟩, h⟩ := h
        refine ⟨_, _, h, h0, rfl, fun η w hr => ⟨by simp [Builtin.lenOf, SV.den], fun m hm => ?_⟩⟩
        obtain ⟨c', fz, g0, g1, g2, hz, hheap, hcell⟩ := fblk_at hr hb
        refine main w η _ n.toNat (c.den η) m fs fun i j fc hi hj => ?_
        rw [add_ptr, hcell, Nat.zero_add]
        exact g2 i j fc (by omega) hj
      · cases h
    · cases h
  · rename_i b o y n c
    split at h
    · rename_i n' fs ty tl hb
      split at h
      · rename_i hz hy
        have hz := Nat.eq_of_beq_eq_true hz
        have hy := Nat.eq_of_beq_eq_true hy
        subst hz; subst hy
        obtain ⟨⟨h0, h1, h2⟩, h⟩ := h
        refine ⟨_, _, h, h1, shFCs_len _ _, fun η w hr => ⟨by simp [Builtin.lenOf, SV.den], fun m hm => ?_⟩⟩
        obtain ⟨c', fz, g0, g1, g2, hz, hheap, hcell⟩ := fblk_at hr hb
        have := main w η ⟨η b, o.toNat * fs.length, none⟩ n.toNat c.toNat m (shFCs o fs) fun i j fc hi hj => ?_
        · rw [shFCs_len] at this; exact this
        rw [shFCs_get] at hj
        simp only [Option.map_eq_some_iff] at hj
        obtain ⟨gc, hj, rfl⟩ := hj
        rw [add_ptr, hcell, shFC_val, shFCs_len]
        have := g2 (o.toNat + i) j gc (by omega) hj
        rw [Nat.add_mul] at this
        rw [show o.toNat * fs.length + (i * fs.length + j) = o.toNat * fs.length + i * fs.length + j by omega, this]
        congr 2; omega
      · cases h
    · cases h
  · cases h

def isFnS : SV → Bool
  | .bsl _ _ _ _ => true
  | .fsl _ _ _ => true
  | .osl _ _ _ _ _ => true
  | _ => false
def nmFC (fc : FC) (K : FC → Prop) : Prop := match fc with
  | .int k f => ∀ g : Int → Int, g = f → K (.int k g)
  | .bool f => ∀ g : Int → Bool, g = f → K (.bool g)
  | .str f => ∀ g : Int → ByteArray, g = f → K (.str g)
def nmFCs : List FC → (List FC → Prop) → Prop
  | [], K => K []
  | fc :: r, K => nmFC fc fun fc' => nmFCs r fun r' => K (fc' :: r')
theorem nmFC_sound {fc : FC} {K : FC → Prop} (h : nmFC fc K) : K fc := by
  cases fc <;> exact h _ rfl
theorem nmFCs_sound : ∀ {fs : List FC} {K : List FC → Prop}, nmFCs fs K → K fs
  | [], _, h => h
  | fc :: r, K, h => nmFCs_sound (fs := r) (nmFC_sound h)

def bare : SV → Bool
  | .val (.slice none 0 0) => true
  | .slice _ _ 0 (.lit 0) => true
  | _ => false
theorem bare_den {s : SV} (h : bare s = true) (η : Nat → Nat) : ∃ x, s.den η = .slice x 0 0 := by
  unfold bare at h
  split at h
  · exact ⟨_, rfl⟩
  · exact ⟨_, rfl⟩
  · cases h
def setRows (z : Nat) : Nat → Int → List FC → List SV → (List FC → Prop) → Prop
  | 0, _, fs, [], K => K fs
  | k + 1, m, fs, news, K => (match Nat.beq (news.take z).length z with | true => setFCs m fs (news.take z) fun fs' => setRows z k (m + 1) fs' (news.drop z) K | false => False)
  | _, _, _, _, _ => False
def sAppFn (P : Program) (w0 : World) (hp : Hp) (ats : List TypeId) (s x : SV) (K : SV → Hp → Prop) : Prop :=
  match ats with
  | t :: u :: _ =>
    match P.underlying t, P.underlying u with
    | some (.slice e), some (.slice _) =>
      match szOf P e, bytesOf P e, zeroOf P e with
      | some z, some by_, some zv =>
        match Nat.beq (ofValA zv).cellsL.length z, okHp (ltb hp.length) hp, bare s with
        | true, true, true => srcFn w0 hp z x fun n fs => (0 < n ∧ n * (by_ : Int) ≤ 140737488355328 ∧ n ≤ 140737488355328) ∧ nmFCs fs fun fs' => ∀ m : Int, m = n →
            K (.fsl (hp.length + 1) m (.ltr hp.length)) (hp ++ [none, some (.fblk m fs' e (.ltr hp.length z))])
        | _, _, _ => False
      | _, _, _ => False
    | _, _ => False
  | _ => False
theorem sAppFn_sound {P : Program} {w0 : World} {hp : Hp} {ats : Array TypeId} {s x : SV} {K : SV → Hp → Prop} (h : sAppFn P w0 hp ats.toList s x K) (ty : TypeId) :
    ∃ v hp', K v hp' ∧ EffRun P w0 hp v hp' fun η => Builtin.append_ ats ty #[s.den η, x.den η] := by
  unfold sAppFn at h
  split at h
  · rename_i t u rest hats
    have h0 : ats[0]? = some t := by rw [← Array.getElem?_toList, hats]; rfl
    have h1 : ats[1]? = some u := by rw [← Array.getElem?_toList, hats]; rfl
    split at h
    · rename_i e e' ht hu
      split at h
      · rename_i z by_ zv hsz hby hzv
        obtain ⟨i, hi, rfl, hib, hiz⟩ := info_of hsz hby hzv
        split at h
        · rename_i hzl hok hbare
          have hzl := Nat.eq_of_beq_eq_true hzl
          obtain ⟨n, fs, ⟨⟨n0, r1, r2⟩, h⟩, _, hfl, hrun⟩ := srcFn_sound (P := P) h
          have h := nmFCs_sound h _ rfl
          refine ⟨_, _, h, fun η w hr => ?_⟩
          obtain ⟨base, hbase⟩ := bare_den hbare η
          obtain ⟨N, rfl⟩ := Int.eq_ofNat_of_zero_le (Int.le_of_lt n0)
          rw [Int.toNat_natCast] at hrun
          obtain ⟨q1, q2⟩ := hrun η w hr
          obtain ⟨_, q3⟩ := hrun η w.drew hr.drew'
          have r1' : N * i.bytes ≤ 140737488355328 := by
            rw [hib]
            have : ((N * by_ : Nat) : Int) ≤ 140737488355328 := by push_cast; exact r1
            omega
          have hs : (Builtin.firstCells i.size 0 (.slice base 0 0)).run P w.drew = .ok ([] : List Value).toArray w.drew := by
            cases base with
            | none => exact run_firstCells_none _ _ _ _ _
            | some a => exact run_firstCells_some (P := P) _ _ _ _ _ _ _ (by simp) (fun j v hv => by simp at hv)
          have run := run_append_new (ty := ty) h0 h1 ht hu rfl hi hiz (base := base) (sLen := 0) (sCap := 0) (olds := []) (news := SV.dens η (fcells fs N)) (w := w) hs q1 (q3 N (Nat.le_refl _)) (by omega) (by simpa using r1') (by omega)
          simp only [Nat.zero_add, List.nil_append] at run
          have hgc := grownCap_le' w N 0 e
          have hsz : ((SV.dens η (fcells fs N)).toArray ++ Builtin.zeroCells zv.cells (grownCap w N 0 e - N)).size = grownCap w N 0 e * i.size := by
            rw [Array.size_append, zeroCells_size hzl, List.size_toArray, dens_length, fcells_len, hfl, ← Nat.add_mul]
            congr 1; omega
          obtain ⟨η', m1, m2, m3, m4⟩ := move_grownB (w := w.drew) hr.drew' hok (c := grownCap w N 0 e) (b := .fblk (N : Int) fs e (.ltr hp.length i.size))
            (o := .cells ((SV.dens η (fcells fs N)).toArray ++ Builtin.zeroCells zv.cells (grownCap w N 0 e - N)) e)
            (by
              refine ⟨_, (0, 0), ⟨by omega, ⟨?_, ?_⟩, fun a j fc ha hj => ?_⟩, FzOk.zero, rfl⟩
              · rw [upd_lt _ (by omega), upd_same, hsz]
              · rw [hsz, Int.toNat_natCast, hfl]; exact Nat.mul_le_mul_right _ hgc
              · rw [Int.toNat_natCast] at ha
                obtain ⟨v, v1, v2⟩ := fcells_at (n := N) ha hj η
                have := (List.getElem?_eq_some_iff.1 v1).1
                rw [Array.getElem?_append_left (by simpa using this), List.getElem?_toArray, dens_get, v1, Option.map_some, v2])
          refine ⟨η', _, ?_, m1, PO.drew m2⟩
          simp only [SV.den, SN.den, m3, m4, hbase, Int.toNat_natCast]
          exact run
        · cases h
      · cases h
    · cases h
  · cases h

def colI (k : IntKind) (z j : Nat) (cs : List SV) : Nat → Option (List Int)
  | 0 => some []
  | i + 1 => (match colI k z j cs i, nth cs (i * z + j) with | some l, .int k' n => (match kEq k k' with | true => some (l ++ [n.val]) | false => none) | _, _ => none)
def colB (z j : Nat) (cs : List SV) : Nat → Option (List Bool)
  | 0 => some []
  | i + 1 => (match colB z j cs i, nth cs (i * z + j) with | some l, .bool n => some (l ++ [n.val]) | _, _ => none)
def colS (z j : Nat) (cs : List SV) : Nat → Option (List ByteArray)
  | 0 => some []
  | i + 1 => (match colS z j cs i, nth cs (i * z + j) with | some l, .str n => some (l ++ [n.val]) | _, _ => none)
def colFC (fc : FC) (z j : Nat) (cs : List SV) (N : Nat) : Option FC :=
  match fc with
  | .int k _ => (match colI k z j cs N with | some l => some (.int k (tabF l 0)) | none => none)
  | .bool _ => (match colB z j cs N with | some l => some (.bool (tabF l false)) | none => none)
  | .str _ => (match colS z j cs N with | some l => some (.str (tabF l ByteArray.empty)) | none => none)
def colFCs (z : Nat) (cs : List SV) (N : Nat) : List FC → Nat → Option (List FC)
  | [], _ => some []
  | fc :: r, j => (match colFC fc z j cs N, colFCs z cs N r (j + 1) with | some f, some l => some (f :: l) | _, _ => none)
theorem colI_sound {k : IntKind} {z j : Nat} {cs : List SV} : ∀ {N : Nat} {l : List Int}, colI k z j cs N = some l → l.length = N ∧ ∀ i, i < N → ∃ v, cs[i * z + j]? = some v ∧ v ≠ .any ∧ ∀ η, v.den η = .int k (l.getD i 0)
  | 0, l, h => by simp only [colI, Option.some.injEq] at h; subst h; exact ⟨rfl, fun i hi => absurd hi (by omega)⟩
  | N + 1, l, h => by
    simp only [colI] at h
    split at h
    · rename_i l' k' n hl hn
      split at h
      · rename_i hk
        have hk := kEq_eq hk
        subst hk
        injection h with h; subst h
        obtain ⟨a, b⟩ := colI_sound hl
        refine ⟨by simp [a], fun i hi => ?_⟩
        by_cases hlt : i < N
        · obtain ⟨v, v1, v2, v3⟩ := b i hlt
          refine ⟨v, v1, v2, fun η => ?_⟩
          rw [v3 η, List.getD_eq_getElem?_getD, List.getD_eq_getElem?_getD, List.getElem?_append_left (by omega)]
        · have : i = N := by omega
          subst this
          refine ⟨.int k n, ?_, (by simp), fun η => ?_⟩
          · rw [nth_eq] at hn
            cases hc : cs[i * z + j]? with
            | none => rw [hc] at hn; simp at hn
            | some u => rw [hc] at hn; simp at hn; rw [hn]
          · simp [SV.den, List.getD_eq_getElem?_getD, ← a]
      · cases h
    · cases h
theorem colB_sound {z j : Nat} {cs : List SV} : ∀ {N : Nat} {l : List Bool}, colB z j cs N = some l → l.length = N ∧ ∀ i, i < N → ∃ v, cs[i * z + j]? = some v ∧ v ≠ .any ∧ ∀ η, v.den η = .bool (l.getD i false)
  | 0, l, h => by simp only [colB, Option.some.injEq] at h; subst h; exact ⟨rfl, fun i hi => absurd hi (by omega)⟩
  | N + 1, l, h => by
    simp only [colB] at h
    split at h
    · rename_i l' n hl hn
      injection h with h; subst h
      obtain ⟨a, b⟩ := colB_sound hl
      refine ⟨by simp [a], fun i hi => ?_⟩
      by_cases hlt : i < N
      · obtain ⟨v, v1, v2, v3⟩ := b i hlt
        refine ⟨v, v1, v2, fun η => ?_⟩
        rw [v3 η, List.getD_eq_getElem?_getD, List.getD_eq_getElem?_getD, List.getElem?_append_left (by omega)]
      · have : i = N := by omega
        subst this
        refine ⟨.bool n, ?_, (by simp), fun η => ?_⟩
        · rw [nth_eq] at hn
          cases hc : cs[i * z + j]? with
          | none => rw [hc] at hn; simp at hn
          | some u => rw [hc] at hn; simp at hn; rw [hn]
        · simp [SV.den, List.getD_eq_getElem?_getD, ← a]
    · cases h
theorem colS_sound {z j : Nat} {cs : List SV} : ∀ {N : Nat} {l : List ByteArray}, colS z j cs N = some l → l.length = N ∧ ∀ i, i < N → ∃ v, cs[i * z + j]? = some v ∧ v ≠ .any ∧ ∀ η, v.den η = .string (l.getD i ByteArray.empty)
  | 0, l, h => by simp only [colS, Option.some.injEq] at h; subst h; exact ⟨rfl, fun i hi => absurd hi (by omega)⟩
  | N + 1, l, h => by
    simp only [colS] at h
    split at h
    · rename_i l' n hl hn
      injection h with h; subst h
      obtain ⟨a, b⟩ := colS_sound hl
      refine ⟨by simp [a], fun i hi => ?_⟩
      by_cases hlt : i < N
      · obtain ⟨v, v1, v2, v3⟩ := b i hlt
        refine ⟨v, v1, v2, fun η => ?_⟩
        rw [v3 η, List.getD_eq_getElem?_getD, List.getD_eq_getElem?_getD, List.getElem?_append_left (by omega)]
      · have : i = N := by omega
        subst this
        refine ⟨.str n, ?_, (by simp), fun η => ?_⟩
        · rw [nth_eq] at hn
          cases hc : cs[i * z + j]? with
          | none => rw [hc] at hn; simp at hn
          | some u => rw [hc] at hn; simp at hn; rw [hn]
        · simp [SV.den, List.getD_eq_getElem?_getD, ← a]
    · cases h
theorem colFC_sound {fc f : FC} {z j : Nat} {cs : List SV} {N : Nat} (h : colFC fc z j cs N = some f) : ∀ i, i < N → ∃ v, cs[i * z + j]? = some v ∧ v ≠ .any ∧ ∀ η, v.den η = f.val (i : Int) := by
  unfold colFC at h
  split at h
  · split at h
    · rename_i l hl
      injection h with h; subst h
      intro i hi
      obtain ⟨v, v1, v2, v3⟩ := (colI_sound hl).2 i hi
      exact ⟨v, v1, v2, fun η => by rw [v3 η]; simp [FC.val, tabF]⟩
    · cases h
  · split at h
    · rename_i l hl
      injection h with h; subst h
      intro i hi
      obtain ⟨v, v1, v2, v3⟩ := (colB_sound hl).2 i hi
      exact ⟨v, v1, v2, fun η => by rw [v3 η]; simp [FC.val, tabF]⟩
    · cases h
  · split at h
    · rename_i l hl
      injection h with h; subst h
      intro i hi
      obtain ⟨v, v1, v2, v3⟩ := (colS_sound hl).2 i hi
      exact ⟨v, v1, v2, fun η => by rw [v3 η]; simp [FC.val, tabF]⟩
    · cases h
theorem colFCs_sound {z : Nat} {cs : List SV} {N : Nat} : ∀ {gs : List FC} {j : Nat} {fs : List FC}, colFCs z cs N gs j = some fs → fs.length = gs.length ∧ ∀ (q : Nat) (f : FC), fs[q]? = some f → ∀ i, i < N → ∃ v, cs[i * z + (j + q)]? = some v ∧ v ≠ .any ∧ ∀ η, v.den η = f.val (i : Int)
  | [], j, fs, h => by simp only [colFCs, Option.some.injEq] at h; subst h; exact ⟨rfl, fun q f hq => by simp at hq⟩
  | g :: gs, j, fs, h => by
    simp only [colFCs] at h
    split at h
    · rename_i f l hf hl
      injection h with h; subst h
      obtain ⟨a, b⟩ := colFCs_sound hl
      refine ⟨by simp [a], fun q f' hq i hi => ?_⟩
      cases q with
      | zero => simp at hq; subst hq; exact colFC_sound hf i hi
      | succ q =>
        have := b q f' (by simpa using hq) i hi
        rwa [show j + 1 + q = j + (q + 1) by omega] at this
    · cases h
def cpFC (q m : Int) (g f : FC) (K : FC → Prop) : Prop := match g, f with
  | .int k g, .int k' f => (match kEq k k' with | true => ∀ h : Int → Int, h = cpF q m g f → K (.int k h) | false => False)
  | .bool g, .bool f => ∀ h : Int → Bool, h = cpF q m g f → K (.bool h)
  | .str g, .str f => ∀ h : Int → ByteArray, h = cpF q m g f → K (.str h)
  | _, _ => False
def cpFCs (q m : Int) : List FC → List FC → (List FC → Prop) → Prop
  | [], [], K => K []
  | g :: gs, f :: fs, K => cpFC q m g f fun h => cpFCs q m gs fs fun hs => K (h :: hs)
  | _, _, _ => False
theorem cpFC_sound {q m : Int} {g f : FC} {K : FC → Prop} (h : cpFC q m g f K) : ∃ r, K r ∧ ∀ i, r.val i = if q ≤ i ∧ i < q + m then g.val (i - q) else f.val i := by
  unfold cpFC at h
  split at h
  · split at h
    · rename_i hk
      have hk := kEq_eq hk
      subst hk
      exact ⟨_, h _ rfl, fun i => by simp only [FC.val, cpF]; split <;> rfl⟩
    · cases h
  · exact ⟨_, h _ rfl, fun i => by simp only [FC.val, cpF]; split <;> rfl⟩
  · exact ⟨_, h _ rfl, fun i => by simp only [FC.val, cpF]; split <;> rfl⟩
  · cases h
theorem cpFCs_sound {q m : Int} : ∀ {gs fs : List FC} {K : List FC → Prop}, cpFCs q m gs fs K → ∃ rs, K rs ∧ rs.length = gs.length ∧ gs.length = fs.length ∧ ∀ (j : Nat) (r : FC), rs[j]? = some r → ∃ g f, gs[j]? = some g ∧ fs[j]? = some f ∧ ∀ i, r.val i = if q ≤ i ∧ i < q + m then g.val (i - q) else f.val i
  | [], [], K, h => ⟨[], h, rfl, rfl, fun j r hr => by simp at hr⟩
  | g :: gs, f :: fs, K, h => by
    obtain ⟨r, h, hr⟩ := cpFC_sound h
    obtain ⟨rs, h, h1, h2, h3⟩ := cpFCs_sound h
    refine ⟨_, h, by simp [h1], by simp [h2], fun j r' hj => ?_⟩
    cases j with
    | zero => simp at hj; subst hj; exact ⟨g, f, rfl, rfl, hr⟩
    | succ j =>
      obtain ⟨g', f', a, b, c⟩ := h3 j r' (by simpa using hj)
      exact ⟨g', f', by simpa using a, by simpa using b, c⟩
  | [], _ :: _, _, h => h.elim
  | _ :: _, [], _, h => h.elim
def sCopyFn (P : Program) (w0 : World) (hp : Hp) (ats : List TypeId) (d x : SV) (K : SV → Hp → Prop) : Prop :=
  match ats with
  | t :: _ =>
    match P.underlying t with
    | some (.slice e) => match szOf P e with
      | some z => match d with
        | .slice b o len _ => match hget hp b with
          | some (.cells cs ty tl) => match Nat.beq z 0, Nat.beq (cs.length / z * z) cs.length, Nat.beq (o / z * z) o, Nat.ble (o + len * z) cs.length with
            | false, true, true, true => srcFn w0 hp z x fun n gs => match colFCs z cs (cs.length / z) gs 0 with
              | some fs => ∀ m : Int, m = (if n < (len : Int) then n else (len : Int)) → cpFCs ((o / z : Nat) : Int) m gs fs fun hs => K (.int .i64 (.sym m)) (hput hp b (some (.fblk ((cs.length / z : Nat) : Int) hs ty tl)))
              | none => False
            | _, _, _, _ => False
          | _ => False
        | _ => False
      | none => False
    | _ => False
  | _ => False
theorem sCopyFn_sound {P : Program} {w0 : World} {hp : Hp} {ats : Array TypeId} {d x : SV} {K : SV → Hp → Prop} (h : sCopyFn P w0 hp ats.toList d x K) (ty : TypeId) :
    ∃ v hp', K v hp' ∧ EffRun P w0 hp v hp' fun η => Builtin.copy_ ats ty #[d.den η, x.den η] := by
  unfold sCopyFn at h
  split at h
  · rename_i t rest hats
    have h0 : ats[0]? = some t := by rw [← Array.getElem?_toList, hats]; rfl
    split at h
    · rename_i e ht
      split at h
      · rename_i z hz
        obtain ⟨i, hi, rfl⟩ := info_sz hz
        split at h
        · rename_i b o len cap
          split at h
          · rename_i cs bty tl hb
            split at h
            · rename_i z0 z1 z2 z3
              have z0 := Nat.ne_of_beq_eq_false z0
              have z1 := Nat.eq_of_beq_eq_true z1
              have z2 := Nat.eq_of_beq_eq_true z2
              have z3 := Nat.le_of_ble_eq_true z3
              obtain ⟨n, gs, h, n0, hgl, hrun⟩ := srcFn_sound (P := P) h
              split at h
              · rename_i fs hfs
                obtain ⟨fl, fv⟩ := colFCs_sound hfs
                have h := h _ rfl
                generalize hm : (if n < (len : Int) then n else (len : Int)) = m at h
                obtain ⟨hs, h, l1, l2, hv⟩ := cpFCs_sound h
                refine ⟨_, _, h, fun η w hr => ?_⟩
                obtain ⟨N, rfl⟩ := Int.eq_ofNat_of_zero_le n0
                have hm' : m = ((Nat.min N len : Nat) : Int) := by rw [← hm]; simp only [Nat.min_def]; split <;> split <;> omega
                subst hm'
                generalize hM : Nat.min N len = M at *
                have hMN : M ≤ N := by rw [← hM]; exact Nat.min_le_left _ _
                have hMl : M ≤ len := by rw [← hM]; exact Nat.min_le_right _ _
                rw [Int.toNat_natCast] at hrun
                obtain ⟨q1, q2⟩ := hrun η w hr
                have q2 := q2 M hMN
                obtain ⟨c', fz, hc, hz', hheap, _⟩ := cell_at hr hb
                have hcs := ST.ok_le hc.1
                have hroom : M * i.size ≤ len * i.size := Nat.mul_le_mul_right _ hMl
                have hlen : (fcells gs M).length = M * i.size := by rw [fcells_len, hgl]
                obtain ⟨c2, s1, s2, s3, s4⟩ := run_storeAll (P := P) (η := η) (fcells gs M) o (fcells_scalar _ _) hheap hz' (by rw [hlen]; omega)
                have hrel : (SBk.fblk ((cs.length / i.size : Nat) : Int) hs bty tl).Rel η (.cells c2 bty fz) := by
                  refine ⟨c2, fz, ⟨Int.natCast_nonneg _, ?_, fun a j fc ha hj => ?_⟩, hz'.size s1, rfl⟩
                  · rw [Int.toNat_natCast, l1, hgl, z1, s1]; exact hc.1
                  · rw [Int.toNat_natCast] at ha
                    obtain ⟨g, f, g1, f1, hval⟩ := hv j fc hj
                    have hjl : j < i.size := by have := (List.getElem?_eq_some_iff.1 g1).1; omega
                    rw [l1, hgl, hval]
                    by_cases hin : ((o / i.size : Nat) : Int) ≤ (a : Int) ∧ (a : Int) < ((o / i.size : Nat) : Int) + (M : Int)
                    · rw [if_pos hin]
                      obtain ⟨k, hk⟩ := Nat.le.dest (show o / i.size ≤ a by omega)
                      have hkM : k < M := by omega
                      obtain ⟨v, v1, v2⟩ := fcells_at (n := M) hkM g1 η
                      have := s3 _ v v1
                      rw [hgl] at this
                      rw [show a * i.size + j = o + (k * i.size + j) by rw [← hk, Nat.add_mul]; omega, this, v2]
                      congr 2; omega
                    · rw [if_neg hin]
                      obtain ⟨v, v1, v2, v3⟩ := fv j f f1 a ha
                      rw [Nat.zero_add] at v1
                      rw [s2 _ (by
                        rw [hlen]
                        intro hh
                        apply hin
                        have e1 : o / i.size ≤ a := by
                          rcases Nat.lt_or_ge a (o / i.size) with q | q
                          · have := Nat.mul_le_mul_right i.size (show a + 1 ≤ o / i.size from q)
                            rw [Nat.add_mul] at this
                            omega
                          · exact q
                        have e2 : a < o / i.size + M := by
                          rcases Nat.lt_or_ge a (o / i.size + M) with q | q
                          · exact q
                          · have := Nat.mul_le_mul_right i.size q
                            rw [Nat.add_mul] at this
                            omega
                        omega)]
                      rcases hc.2 _ v v1 with e | e
                      · exact absurd e v2
                      · rw [e, v3]
                obtain ⟨m1, m2⟩ := move_put hr hb hrel
                refine ⟨η, _, ?_, m1, m2⟩
                simp [Builtin.copy_, h0, run_underlying ht, SV.den, sizeOf, typeInfo, hi, q1, hM, q2, goInt, s4]
              · cases h
            · cases h
          · cases h
        · cases h
      · cases h
    · cases h
  · cases h
theorem setRows_sound {z : Nat} : ∀ {n : Nat} {m : Int} {fs : List FC} {news : List SV} {K : List FC → Prop}, setRows z n m fs news K → ∃ fs', K fs' ∧ fs'.length = fs.length ∧ allScalar news = true ∧ news.length = n * z ∧ ∀ (j : Nat) (fc' : FC), j < z → fs'[j]? = some fc' → ∃ fc, fs[j]? = some fc ∧
    (∀ i : Int, ¬ (m ≤ i ∧ i < m + n) → fc'.val i = fc.val i) ∧ ∀ (a : Nat) (v : SV), a < n → news[a * z + j]? = some v → ∀ η, v.den η = fc'.val (m + a)
  | 0, m, fs, [], K, h => ⟨fs, h, rfl, rfl, by simp, fun j fc' _ hj => ⟨fc', hj, fun _ _ => rfl, fun a v ha => absurd ha (by omega)⟩⟩
  | 0, m, fs, _ :: _, K, h => h.elim
  | n + 1, m, fs, news, K, h => by
    simp only [setRows] at h
    split at h
    · rename_i hz
      have hz := Nat.eq_of_beq_eq_true hz
      obtain ⟨fs1, h, a1, a2, a3, a4⟩ := setFCs_sound h
      obtain ⟨fs', h, b1, b2, b3, b4⟩ := setRows_sound h
      have hsplit : news = news.take z ++ news.drop z := (List.take_append_drop z news).symm
      have happ : ∀ {l r : List SV}, allScalar l = true → allScalar r = true → allScalar (l ++ r) = true := by
        intro l
        induction l with
        | nil => intro r _ h; exact h
        | cons v l ih =>
          intro r h1 h2
          have h3 : v.scalar = true := allScalar_iff h1 v (by simp)
          have h4 : allScalar l = true := by simp only [allScalar, h3] at h1; exact h1
          simp only [List.cons_append, allScalar, h3]; exact ih h4 h2
      refine ⟨fs', h, b1.trans a1, by rw [hsplit]; exact happ a2 b2, ?_, fun j fc' hj hfc => ?_⟩
      · rw [hsplit, List.length_append, hz, b3, Nat.add_mul]; omega
      · obtain ⟨g, g1, g2, g3⟩ := b4 j fc' hj hfc
        obtain ⟨f, f1, f2, f3, _⟩ := a4 j g g1
        refine ⟨f, f1, fun i hi => ?_, fun a v ha hv η => ?_⟩
        · rw [g2 i (by omega), f2 i (by omega)]
        · rw [hsplit] at hv
          cases a with
          | zero =>
            rw [List.getElem?_append_left (by rw [hz]; omega), Nat.zero_mul, Nat.zero_add] at hv
            rw [f3 v hv η, show m + ((0 : Nat) : Int) = m by omega, g2 m (by omega)]
          | succ a =>
            rw [List.getElem?_append_right (by rw [hz, Nat.add_mul]; omega), hz, show (a + 1) * z + j - z = a * z + j by rw [Nat.add_mul]; omega] at hv
            rw [g3 a v (by omega) hv η]; congr 1; push_cast; omega
    · cases h
def isMany : SV → SV → Bool
  | .fsl _ _ _, .slice _ _ (_ + 2) _ => true
  | _, _ => false
def sAppMany (P : Program) (hp : Hp) (ats : List TypeId) (s x : SV) (K : SV → Hp → Prop) : Prop :=
  match ats with
  | t :: u :: _ =>
    match P.underlying t, P.underlying u with
    | some (.slice e), some d =>
      match isSrcT d, szOf P e, bytesOf P e, zeroOf P e with
      | true, some z, some by_, some zv =>
        match Nat.beq (ofValA zv).cellsL.length z, srcCells hp z x, okHp (ltb hp.length) hp, s with
        | true, some (n, news), true, .fsl b m (.ltr k) =>
          (match hget hp b with
            | some (.fblk m' fs ty (.ltr k' z')) => (match Nat.beq k k', Nat.beq z z', Nat.beq z fs.length, Nat.beq z 0, Nat.beq ty e with
              | true, true, true, false, true => (m = m' ∧ (m + (n : Int)) * (by_ : Int) ≤ 140737488355328 ∧ m + (n : Int) ≤ 140737488355328) ∧ setRows z n m fs news fun fs' => ∀ m2 : Int, m2 = m + (n : Int) → K (.fsl (hp.length + 1) m2 (.ltr hp.length)) (hput hp b none ++ [none, some (.fblk m2 fs' e (.ltr hp.length z))])
              | _, _, _, _, _ => False)
            | _ => False)
        | _, _, _, _ => False
      | _, _, _, _ => False
    | _, _ => False
  | _ => False
theorem sAppMany_sound {P : Program} {hp : Hp} {ats : Array TypeId} {s x : SV} {K : SV → Hp → Prop} (h : sAppMany P hp ats.toList s x K) (ty : TypeId) :
    ∃ v hp', K v hp' ∧ ∀ w0, EffRun P w0 hp v hp' fun η => Builtin.append_ ats ty #[s.den η, x.den η] := by
  unfold sAppMany at h
  split at h
  · rename_i t u rest hats
    have h0 : ats[0]? = some t := by rw [← Array.getElem?_toList, hats]; rfl
    have h1 : ats[1]? = some u := by rw [← Array.getElem?_toList, hats]; rfl
    split at h
    · rename_i e d ht hu
      split at h
      · rename_i z by_ zv hd hsz hby hzv
        obtain ⟨i, hi, rfl, hib, hiz⟩ := info_of hsz hby hzv
        split at h
        · rename_i n news b m k hzl hsrc hok
          have hzl := Nat.eq_of_beq_eq_true hzl
          obtain ⟨sc1, sc2, sc3⟩ := src_sound hsrc (P := P)
          have all : ∀ {w0 η w}, HR w0 η hp w → (Builtin.firstCells i.size n (x.den η)).run P w = .ok (SV.dens η news).toArray w := by
            intro w0 η w hr
            have := (sc3 w0 η w hr).2 n (Nat.le_refl _)
            rwa [List.take_of_length_le (by omega)] at this
          split at h
          · rename_i m' fs bty k' z' hb
            split at h
            · rename_i e1 e2 e3 e4 e5
              have e1 := Nat.eq_of_beq_eq_true e1
              have e2 := Nat.eq_of_beq_eq_true e2
              have e3 := Nat.eq_of_beq_eq_true e3
              have e4 := Nat.ne_of_beq_eq_false e4
              have e5 := Nat.eq_of_beq_eq_true e5
              subst e1; subst e2; subst e5
              obtain ⟨⟨rfl, r1, r2⟩, h⟩ := h
              obtain ⟨fs', h, f1, f2, f3, f4⟩ := setRows_sound h
              refine ⟨_, _, h _ rfl, fun w0 η w hr => ?_⟩
              obtain ⟨c', fz, g0, ⟨g1, g2⟩, g3, hz, hheap, hcell⟩ := fblk_at hr hb
              obtain ⟨M, rfl⟩ := Int.eq_ofNat_of_zero_le g0
              rw [Int.toNat_natCast, ← e3] at g2
              have hM2 : ((M : Int) + (n : Int)).toNat = M + n := by omega
              have r1' : (M + n) * i.bytes ≤ 140737488355328 := by
                rw [hib]
                have : (((M + n) * by_ : Nat) : Int) ≤ 140737488355328 := by push_cast; exact r1
                omega
              have r2' : M + n ≤ 140737488355328 := by omega
              have frel : ∀ vs : Array Value, (∀ j, j < M * i.size → vs[j]? = c'[j]?) → (∀ j v, news[j]? = some v → vs[M * i.size + j]? = some (v.den η)) → FRel ((M : Int) + (n : Int)) fs' vs := by
                intro vs v1 v2 a j fc ha hj
                rw [hM2] at ha
                have hjl : j < i.size := by have := (List.getElem?_eq_some_iff.1 hj).1; omega
                obtain ⟨fc0, k1, k2, k3⟩ := f4 j fc hjl hj
                rw [f1, ← e3]
                by_cases hlt : a < M
                · have : (a + 1) * i.size ≤ M * i.size := Nat.mul_le_mul_right _ hlt
                  rw [Nat.add_mul] at this
                  rw [v1 _ (by omega), e3, g3 a j fc0 hlt k1, k2 _ (by omega)]
                · obtain ⟨q, hq⟩ := Nat.le.dest (show M ≤ a by omega)
                  have hqn : q < n := by omega
                  have : (q + 1) * i.size ≤ n * i.size := Nat.mul_le_mul_right _ hqn
                  rw [Nat.add_mul] at this
                  have hj2 : news[q * i.size + j]? = some news[q * i.size + j] := List.getElem?_eq_getElem (by omega)
                  have := v2 _ _ hj2
                  rw [show a * i.size + j = M * i.size + (q * i.size + j) by rw [← hq, Nat.add_mul]; omega, this, k3 q _ hqn hj2 η]
                  congr 2; omega
              by_cases hfit : M + n ≤ η k
              · have hroomc : (M + n) * i.size ≤ η k * i.size := Nat.mul_le_mul_right _ hfit
                rw [Nat.add_mul] at hroomc
                obtain ⟨c2, s1, s2, s3, s4⟩ := run_storeAll (P := P) (η := η) news (M * i.size) sc1 hheap hz (by omega)
                obtain ⟨η', m1, m2, m3, m4⟩ := move_regrownB hr hok hb (c := η k) (nb := .fblk ((M : Int) + (n : Int)) fs' bty (.ltr hp.length i.size)) (o := .cells c2 bty fz)
                  ⟨c2, fz, ⟨by omega, ⟨by rw [upd_lt _ (by omega), upd_same, s1, g1], by rw [hM2, f1, ← e3, s1, g1]; exact Nat.mul_le_mul_right _ hfit⟩, frel c2 (fun j hj => s2 j (by omega)) s3⟩, hz.size s1, rfl⟩
                refine ⟨η', _, ?_, m1, m2⟩
                have := run_append_fit (ty := ty) h0 h1 ht hu hd hi (a := ⟨η b, 0, none⟩) (sLen := M) (sCap := η k) (sc3 w0 η w hr).1 (all hr) hfit (by rw [add_ptr, Nat.zero_add]; exact s4)
                simp only [SV.den, SN.den, m3, m4, hM2]
                exact this
              · have hold : (Builtin.firstCells i.size M (.slice (some ⟨η b, 0, none⟩) M (η k))).run P w.drew = .ok (c'.toList.take (M * i.size)).toArray w.drew := by
                  refine run_firstCells_some (P := P) w.drew i.size M ⟨η b, 0, none⟩ M (η k) _ (by simp; omega) fun j v hv => ?_
                  have : w.drew.cell? ⟨η b, 0 + j, none⟩ = c'[0 + j]? := (fblk_at hr.drew' hb).elim fun _ _ => hcell _
                  rw [add_ptr, this, Nat.zero_add]
                  rw [List.getElem?_take] at hv
                  split at hv
                  · rwa [Array.getElem?_toList] at hv
                  · cases hv
                have hrun := run_append_new (ty := ty) h0 h1 ht hu hd hi hiz (base := some ⟨η b, 0, none⟩) (sLen := M) (sCap := η k) (olds := c'.toList.take (M * i.size)) (news := SV.dens η news) (w := w) hold (sc3 w0 η w hr).1 (all hr.drew') (by omega) r1' r2'
                obtain ⟨d1, d2⟩ := move_drop (w := w.drew) hr.drew' b
                have hokd : okHp (ltb (hput hp b none).length) (hput hp b none) = true := by rw [hput_length]; exact okHp_hput hok b
                have hgc := grownCap_le' w (M + n) (η k) bty
                have hol : (c'.toList.take (M * i.size)).length = M * i.size := by simp; omega
                obtain ⟨η', m1, m2, m3, m4⟩ := move_grownB (w := w.drew) d1 hokd (c := grownCap w (M + n) (η k) bty) (b := .fblk ((M : Int) + (n : Int)) fs' bty (.ltr hp.length i.size))
                  (o := .cells ((c'.toList.take (M * i.size) ++ SV.dens η news).toArray ++ Builtin.zeroCells zv.cells (grownCap w (M + n) (η k) bty - (M + n))) bty)
                  (by
                    have hsz : ((c'.toList.take (M * i.size) ++ SV.dens η news).toArray ++ Builtin.zeroCells zv.cells (grownCap w (M + n) (η k) bty - (M + n))).size = grownCap w (M + n) (η k) bty * i.size := by
                      rw [Array.size_append, zeroCells_size hzl, List.size_toArray, List.length_append, hol, dens_length, sc2, ← Nat.add_mul, ← Nat.add_mul]
                      congr 1; omega
                    refine ⟨_, (0, 0), ⟨by omega, ⟨?_, ?_⟩, frel _ (fun j hj => ?_) fun j v hv => ?_⟩, FzOk.zero, rfl⟩
                    · rw [hput_length, upd_lt _ (by omega), upd_same, hsz]
                    · rw [hM2, f1, ← e3, hsz]; exact Nat.mul_le_mul_right _ hgc
                    · rw [Array.getElem?_append_left (by simp; omega), List.getElem?_toArray, List.getElem?_append_left (by omega), List.getElem?_take, if_pos hj, Array.getElem?_toList]
                    · have hjl := (List.getElem?_eq_some_iff.1 hv).1
                      rw [Array.getElem?_append_left (by simp; omega), List.getElem?_toArray, List.getElem?_append_right (by omega), hol, show M * i.size + j - M * i.size = j by omega, dens_get, hv]; rfl)
                rw [hput_length] at m3 m4
                refine ⟨η', _, ?_, m1, PO.drew (d2.trans m2)⟩
                simp only [SV.den, SN.den, m3, m4, hM2]
                exact hrun
            · cases h
          · cases h
        · cases h
      · cases h
    · cases h
  · cases h
end Go.Sx
