import Derived.Test.YtbocopfieadgoaaSxR
import Derived.Test.YtbocopfieadgoaaProg
import Derived.Test.YtbocopfieadgoaaJ
import Derived.KernelRfl
namespace Go.Proofs.Ytbocopfieadgoaa.J
open Go Go.Sx Go.RowKit Go.Proofs.Ytbocopfieadgoaa.C Go.Proofs.Ytbocopfieadgoaa.F
set_option linter.unusedVariables false
set_option maxRecDepth 100000
def hKeepSpec (S : St) (b : Nat) (ks : List Nat) : St := match hget S.hp b with
  | some (.loop st pe ts ps asg body db) => ⟨S.ts, S.df, hput S.hp b (some (.loop st pe (keepTs ks 0 ts) ps asg body db))⟩
  | _ => S
def slnAtSpec (S : St) (t : Nat) : Int := match nth S.ts t with
  | .bsl _ n _ _ => n
  | .fsl _ n _ => n
  | _ => 0
def bestN (R : Int → Int) : Nat → Int
  | 0 => -1
  | k + 1 => if bestN R k < 0 ∨ R k < R (bestN R k) then k else bestN R k
def rootsF (d p a : Int → Int) (now : Int) : Int → Int := fun j => rootF (d j) (p j) (a j) now
def bestF (n : Int) (d p a : Int → Int) (now : Int) : Int := bestN (rootsF d p a now) n.toNat
def bestR (d p a : Int → Int) (now n i b r : Int) : Prop := (0 ≤ i ∧ i ≤ n) ∧ b = bestN (rootsF d p a now) i.toNat ∧ (0 ≤ b → r = rootsF d p a now b)
def bestASpec : St → Inv := fun S =>
  { ι := Int × Int × Int
    T := fun q => stS (keepS (hKeepSpec (hset (hset S 0 0 (.int .i64 (.sym q.2.1))) 1 0 (.int .i64 (.sym q.2.2))) 4 [0, 1, 4, 5, 6, 11]) [0, 1, 2, 6, 7]) [(8, .int .i64 (.sym q.1))]
    R := fun q => bestR (slAtSpec S 6 1) (slAtSpec S 6 2) (slAtSpec S 6 3) (hat S 3 0) (iat S 7) q.1 q.2.1 q.2.2
    μ := fun q => (iat S 7 - q.1).toNat }
def rbestASpec : St → Inv := fun S =>
  { ι := Int × Int
    T := fun q => stS (keepS S [0, 1]) [(5, .int .i64 (.sym q.2)), (6, .int .i64 (.sym q.1))]
    R := fun q => bestR (slAtSpec S 0 1) (slAtSpec S 0 2) (slAtSpec S 0 3) (iat S 1) (slnAtSpec S 0) q.1 q.2 (rootsF (slAtSpec S 0 1) (slAtSpec S 0 2) (slAtSpec S 0 3) (iat S 1) q.2)
    μ := fun q => (slnAtSpec S 0 - q.1).toNat }
def rfHintK : List Nat := [13]
def bestAnnSpec : Anns := [(33, 0, bestASpec), (22, 0, rbestASpec)]
def bestsSpec : List (FuncId × CSpec) := [(10, rootSpec), (17, rRootSpec)]
theorem bests_ok : SpecsOk Try.prog bestsSpec := ⟨root_ok, rRoot_ok, trivial⟩
--@PLAIN
theorem bestN_in (R : Int → Int) : ∀ k : Nat, -1 ≤ bestN R k ∧ bestN R k < (k : Int) ∧ (0 < k → 0 ≤ bestN R k)
  | 0 => by simp [bestN]
  | k + 1 => by
    have := bestN_in R k
    unfold bestN
    split
    · refine ⟨by omega, by push_cast; omega, fun _ => by omega⟩
    · refine ⟨by omega, by push_cast; omega, fun _ => by omega⟩
theorem bestF_in (n : Int) (d p a : Int → Int) (now : Int) (h : 0 ≤ n) : -1 ≤ bestF n d p a now ∧ bestF n d p a now < max n 1 ∧ (0 < n → 0 ≤ bestF n d p a now ∧ bestF n d p a now < n) ∧ (n ≤ 0 → bestF n d p a now = -1) := by
  have := bestN_in (rootsF d p a now) n.toNat
  unfold bestF
  refine ⟨by omega, by omega, fun _ => by omega, fun z => ?_⟩
  have : n.toNat = 0 := by omega
  rw [this]; rfl
theorem bestR_start {d p a : Int → Int} {now n r : Int} (h : 0 ≤ n) : bestR d p a now n 0 (-1) r := ⟨⟨by omega, h⟩, rfl, fun z => by omega⟩
theorem bestN_succ (R : Int → Int) {i : Int} (h : 0 ≤ i) : bestN R (i + 1).toNat = if bestN R i.toNat < 0 ∨ R i < R (bestN R i.toNat) then i else bestN R i.toNat := by
  have e : (i + 1).toNat = i.toNat + 1 := by omega
  rw [e]
  show (if bestN R i.toNat < 0 ∨ R (i.toNat : Int) < R (bestN R i.toNat) then (i.toNat : Int) else _) = _
  rw [Int.toNat_of_nonneg h]
theorem bestR_new {d p a : Int → Int} {now n i b r v : Int} (h : bestR d p a now n i b r) (hi : i < n) (hv : v = rootsF d p a now i) (hx : b < 0 ∨ v < r) : bestR d p a now n (i + 1) i v := by
  obtain ⟨⟨i0, i1⟩, hb, hr⟩ := h
  refine ⟨⟨by omega, by omega⟩, ?_, fun _ => hv⟩
  rw [bestN_succ _ i0, if_pos]
  rw [← hb, ← hv]
  rcases Int.lt_or_le b 0 with z | z
  · exact Or.inl z
  · right; rw [← hr z]; omega
theorem bestR_old {d p a : Int → Int} {now n i b r v : Int} (h : bestR d p a now n i b r) (hi : i < n) (hv : v = rootsF d p a now i) (hb0 : 0 ≤ b) (hx : ¬ v < r) : bestR d p a now n (i + 1) b r := by
  obtain ⟨⟨i0, i1⟩, hb, hr⟩ := h
  refine ⟨⟨by omega, by omega⟩, ?_, hr⟩
  rw [bestN_succ _ i0, if_neg]
  · exact hb
  · rw [← hb, ← hv, ← hr hb0]; omega
theorem bestR_end {d p a : Int → Int} {now n i b r : Int} (h : bestR d p a now n i b r) (hi : ¬ i < n) : b = bestF n d p a now := by
  obtain ⟨⟨i0, i1⟩, hb, hr⟩ := h
  have : i = n := by omega
  subst this
  exact hb
def bestSpec : CSpec := fun args k => match args, k with
  | [.bsl la0 ln lc0 [.int .i64 o, .int .i64 d, .int .i64 p, .int .i64 a], .int .i64 now], k => ((fitP ln o d p a ∧ I64 now.val)) ∧ (∀ r0 : Int, r0 = (bestF ln d p a now.val) → k (.int .i64 (.sym r0)))
  | _, _ => False
def VCBest (w0 : World) (la : Addr) (ln : Int) (lc : Nat) (o : Int → Int) (d : Int → Int) (p : Int → Int) (a : Int → Int) (now : Int) : Prop :=
  (0 : Int) ≤ ln /\ (∃ (x1 : Int × Int × Int), bestR d p a now ln x1.fst x1.snd.fst x1.snd.snd /\ (True /\ True /\ True /\ (la = la /\ ln = ln /\ lc = lc) /\ ln = ln /\ (0 : Int) = x1.fst /\ True) /\ ((-1 : Int) = x1.snd.fst /\ True) /\ ((0 : Int) = x1.snd.snd /\ True) /\ ((la = la /\ ln = ln /\ lc = lc) /\ True) /\ (now = now /\ True) /\ True /\ (((la = la /\ ln = ln /\ lc = lc) /\ now = now /\ undef = undef /\ undef = undef /\ (0 : Int) = (0 : Int) /\ True /\ True /\ undef = undef /\ undef = undef /\ (la = la /\ ln = ln /\ lc = lc) /\ now = now /\ (True /\ True /\ True) /\ undef = undef /\ undef = undef /\ undef = undef /\ undef = undef /\ undef = undef /\ undef = undef /\ undef = undef /\ undef = undef /\ undef = undef /\ undef = undef /\ undef = undef /\ undef = undef /\ True) /\ sameCode (rfAt Try.prog 13 0).fst (rfAt Try.prog 13 0).fst /\ sameCode (rfAt Try.prog 13 0).snd (rfAt Try.prog 13 0).snd) /\ True) /\ ∀ (v2 : Int × Int × Int), bestR d p a now ln v2.fst v2.snd.fst v2.snd.snd -> ∀ v3, v3 = decide (v2.fst < ln) -> (v3 = true -> ((0 : Int) ≤ v2.fst /\ v2.fst < ln) /\ BaseAt w0 la [FC.int IntKind.i64 o, FC.int IntKind.i64 d, FC.int IntKind.i64 p, FC.int IntKind.i64 a] v2.fst /\ ∀ v4, v4 = o v2.fst -> ∀ v5, v5 = d v2.fst -> ∀ v6, v6 = p v2.fst -> ∀ v7, v7 = a v2.fst -> (I64 v4 /\ I64 v5 /\ I64 v6 /\ I64 v7 /\ I64 now /\ goodF v4 v5 v6 v7 = true) /\ ∀ v8, v8 = rootF v5 v6 v7 now -> ∀ v9, v9 = decide (v2.snd.fst < (0 : Int)) -> (v9 = false -> ∀ v10, v10 = decide (v8 < v2.snd.snd) -> (v10 = true -> ∀ v11, v11 = IntKind.i64.wrap (v2.fst + (1 : Int)) -> ∃ (x12 : Int × Int × Int), bestR d p a now ln x12.fst x12.snd.fst x12.snd.snd /\ ((True /\ True /\ True /\ (la = la /\ ln = ln /\ lc = lc) /\ ln = ln /\ v11 = x12.fst /\ True) /\ (v2.fst = x12.snd.fst /\ True) /\ (v8 = x12.snd.snd /\ True) /\ ((la = la /\ ln = ln /\ lc = lc) /\ True) /\ (now = now /\ True) /\ True /\ (((la = la /\ ln = ln /\ lc = lc) /\ now = now /\ undef = undef /\ undef = undef /\ (0 : Int) = (0 : Int) /\ True /\ True /\ undef = undef /\ undef = undef /\ (la = la /\ ln = ln /\ lc = lc) /\ now = now /\ (True /\ True /\ True) /\ undef = undef /\ undef = undef /\ undef = undef /\ undef = undef /\ undef = undef /\ undef = undef /\ undef = undef /\ undef = undef /\ undef = undef /\ undef = undef /\ undef = undef /\ undef = undef /\ True) /\ sameCode (rfAt Try.prog 13 0).fst (rfAt Try.prog 13 0).fst /\ sameCode (rfAt Try.prog 13 0).snd (rfAt Try.prog 13 0).snd) /\ True) /\ (ln - x12.fst).toNat < (ln - v2.fst).toNat) /\ (v10 = false -> ∀ v13, v13 = IntKind.i64.wrap (v2.fst + (1 : Int)) -> ∃ (x14 : Int × Int × Int), bestR d p a now ln x14.fst x14.snd.fst x14.snd.snd /\ ((True /\ True /\ True /\ (la = la /\ ln = ln /\ lc = lc) /\ ln = ln /\ v13 = x14.fst /\ True) /\ (v2.snd.fst = x14.snd.fst /\ True) /\ (v2.snd.snd = x14.snd.snd /\ True) /\ ((la = la /\ ln = ln /\ lc = lc) /\ True) /\ (now = now /\ True) /\ True /\ (((la = la /\ ln = ln /\ lc = lc) /\ now = now /\ undef = undef /\ undef = undef /\ (0 : Int) = (0 : Int) /\ True /\ True /\ undef = undef /\ undef = undef /\ (la = la /\ ln = ln /\ lc = lc) /\ now = now /\ (True /\ True /\ True) /\ undef = undef /\ undef = undef /\ undef = undef /\ undef = undef /\ undef = undef /\ undef = undef /\ undef = undef /\ undef = undef /\ undef = undef /\ undef = undef /\ undef = undef /\ undef = undef /\ True) /\ sameCode (rfAt Try.prog 13 0).fst (rfAt Try.prog 13 0).fst /\ sameCode (rfAt Try.prog 13 0).snd (rfAt Try.prog 13 0).snd) /\ True) /\ (ln - x14.fst).toNat < (ln - v2.fst).toNat)) /\ (v9 = true -> ∀ v15, v15 = IntKind.i64.wrap (v2.fst + (1 : Int)) -> ∃ (x16 : Int × Int × Int), bestR d p a now ln x16.fst x16.snd.fst x16.snd.snd /\ ((True /\ True /\ True /\ (la = la /\ ln = ln /\ lc = lc) /\ ln = ln /\ v15 = x16.fst /\ True) /\ (v2.fst = x16.snd.fst /\ True) /\ (v8 = x16.snd.snd /\ True) /\ ((la = la /\ ln = ln /\ lc = lc) /\ True) /\ (now = now /\ True) /\ True /\ (((la = la /\ ln = ln /\ lc = lc) /\ now = now /\ undef = undef /\ undef = undef /\ (0 : Int) = (0 : Int) /\ True /\ True /\ undef = undef /\ undef = undef /\ (la = la /\ ln = ln /\ lc = lc) /\ now = now /\ (True /\ True /\ True) /\ undef = undef /\ undef = undef /\ undef = undef /\ undef = undef /\ undef = undef /\ undef = undef /\ undef = undef /\ undef = undef /\ undef = undef /\ undef = undef /\ undef = undef /\ undef = undef /\ True) /\ sameCode (rfAt Try.prog 13 0).fst (rfAt Try.prog 13 0).fst /\ sameCode (rfAt Try.prog 13 0).snd (rfAt Try.prog 13 0).snd) /\ True) /\ (ln - x16.fst).toNat < (ln - v2.fst).toNat)) /\ (v3 = false -> IntKind.i64 = IntKind.i64 /\ v2.snd.fst = bestF ln d p a now)
theorem tieBest (w0 : World) (la : Addr) (ln : Int) (lc : Nat) (o : Int → Int) (d : Int → Int) (p : Int → Int) (a : Int → Int) (now : Int) : VCBest w0 la ln lc o d p a now = ((recN (GL Try.prog bestsSpec bestAnnSpec fitCutSpec w0) 90).call 13 [.bsl la ln lc [.int .i64 o, .int .i64 d, .int .i64 p, .int .i64 a], .int .i64 (.sym now)] [] (fun r__ _ => eqV r__ (.int .i64 (.sym (bestF ln d p a now))))) := by kernel_rfl
theorem pureBest (w0 : World) (la : Addr) (ln : Int) (lc : Nat) (o d p a : Int → Int) (now : Int) (h : fitP ln o d p a ∧ I64 now) (hm : (0 ≤ ln ∧ ln ≤ (lc : Int) ∧ ∀ i : Int, 0 ≤ i → i < ln → BaseAt w0 la [.int .i64 o, .int .i64 d, .int .i64 p, .int .i64 a] i) ∧ True) : VCBest w0 la ln lc o d p a now := by
  have hF := h
  obtain ⟨⟨⟨n0, ho, hd, hp, ha⟩, n8, hg⟩, hn⟩ := h
  obtain ⟨⟨_, hc, hb⟩, _⟩ := hm
  refine ⟨n0, ⟨(0, -1, 0), bestR_start n0, by simp [sameCode]⟩, ?_⟩
  rintro ⟨i, b, r⟩ hR
  dsimp only at hR ⊢
  have i0 := hR.1.1
  refine br (fun ci => ?_) fun ci => ⟨rfl, bestR_end hR ci⟩
  have w2 : IntKind.i64.wrap (i + 1) = i + 1 := i64_id (by omega) (by omega)
  refine ⟨⟨i0, ci⟩, hb i i0 ci, ?_⟩
  rintro _ rfl _ rfl _ rfl _ rfl
  refine ⟨⟨ho i i0 ci, hd i i0 ci, hp i i0 ci, ha i i0 ci, hn, hg i i0 ci⟩, fun v hv => ?_⟩
  rw [w2]
  refine rb (fun b0 => br (fun lt => ?_) fun ge => ?_) fun b0 => ?_
  · rintro _ rfl
    exact ⟨(i + 1, i, v), bestR_new hR ci hv (Or.inr lt), by simp [sameCode], by dsimp only; omega⟩
  · rintro _ rfl
    exact ⟨(i + 1, b, r), bestR_old hR ci hv (Int.not_lt.1 b0) ge, by simp [sameCode], by dsimp only; omega⟩
  · rintro _ rfl
    exact ⟨(i + 1, i, v), bestR_new hR ci hv (Or.inl b0), by simp [sameCode], by dsimp only; omega⟩
theorem best_ok : SpecOkF Try.prog 13 bestSpec := by
  intro args k h
  unfold bestSpec at h
  split at h
  · rename_i la0 ln lc0 o d p a now
    obtain ⟨hr, h⟩ := h
    refine ⟨_, h _ rfl, fun w0 args' he0 hm => ?_⟩
    obtain ⟨la, lc, _, rfl, he1⟩ := eqBL_b he0
    obtain ⟨_, rfl, he2⟩ := eqBL_i he1
    obtain rfl := eqBL_n he2
    exact PureOkAt.of_tieF (GL Try.prog bestsSpec bestAnnSpec fitCutSpec) (fun w__ => gokL w__ namesOk_ mixed_ bests_ok) (fun _ => rfl) (fun _ => rfl) (args' := [.bsl la ln lc [.int .i64 o, .int .i64 d, .int .i64 p, .int .i64 a], .int .i64 (.sym now.val)]) ⟨⟨rfl, rfl, rfl⟩, ⟨rfl, rfl⟩, trivial⟩ 90 (fun w__ => VCBest w__ la ln lc o d p a now.val) (fun w__ => tieBest w__ la ln lc o d p a now.val) hm (fun w__ hm__ => pureBest w__ la ln lc o d p a now.val hr hm__)
  · exact h.elim

def rBestSpec : CSpec := fun args k => match args, k with
  | [.bsl la0 ln lc0 [.int .i64 o, .int .i64 d, .int .i64 p, .int .i64 a], .int .i64 now], k => ((fitP ln o d p a ∧ I64 now.val)) ∧ (∀ r0 : Int, r0 = (bestF ln d p a now.val) → k (.int .i64 (.sym r0)))
  | _, _ => False
def VCRBest (w0 : World) (la : Addr) (ln : Int) (lc : Nat) (o : Int → Int) (d : Int → Int) (p : Int → Int) (a : Int → Int) (now : Int) : Prop :=
  (∃ (x1 : Int × Int), bestR d p a now ln x1.fst x1.snd (rootsF d p a now x1.snd) /\ ((la = la /\ ln = ln /\ lc = lc) /\ now = now /\ (-1 : Int) = x1.snd /\ (0 : Int) = x1.fst /\ True) /\ True) /\ ∀ (v2 : Int × Int), bestR d p a now ln v2.fst v2.snd (rootsF d p a now v2.snd) -> (0 : Int) ≤ ln /\ ∀ v3, v3 = decide (v2.fst < ln) -> (v3 = true -> ∀ v4, v4 = decide (v2.snd < (0 : Int)) -> (v4 = false -> ((0 : Int) ≤ v2.fst /\ v2.fst < ln) /\ BaseAt w0 la [FC.int IntKind.i64 o, FC.int IntKind.i64 d, FC.int IntKind.i64 p, FC.int IntKind.i64 a] v2.fst /\ ∀ v5, v5 = o v2.fst -> ∀ v6, v6 = d v2.fst -> ∀ v7, v7 = p v2.fst -> ∀ v8, v8 = a v2.fst -> (I64 v5 /\ I64 v6 /\ I64 v7 /\ I64 v8 /\ I64 now /\ goodF v5 v6 v7 v8 = true) /\ ∀ v9, v9 = rootF v6 v7 v8 now -> ((0 : Int) ≤ v2.snd /\ v2.snd < ln) /\ BaseAt w0 la [FC.int IntKind.i64 o, FC.int IntKind.i64 d, FC.int IntKind.i64 p, FC.int IntKind.i64 a] v2.snd /\ ∀ v10, v10 = o v2.snd -> ∀ v11, v11 = d v2.snd -> ∀ v12, v12 = p v2.snd -> ∀ v13, v13 = a v2.snd -> (I64 v10 /\ I64 v11 /\ I64 v12 /\ I64 v13 /\ I64 now /\ goodF v10 v11 v12 v13 = true) /\ ∀ v14, v14 = rootF v11 v12 v13 now -> ∀ v15, v15 = decide (v9 < v14) -> (v15 = true -> ∀ v16, v16 = IntKind.i64.wrap (v2.fst + (1 : Int)) -> ∃ (x17 : Int × Int), bestR d p a now ln x17.fst x17.snd (rootsF d p a now x17.snd) /\ (((la = la /\ ln = ln /\ lc = lc) /\ now = now /\ v2.fst = x17.snd /\ v16 = x17.fst /\ True) /\ True) /\ (ln - x17.fst).toNat < (ln - v2.fst).toNat) /\ (v15 = false -> ∀ v18, v18 = IntKind.i64.wrap (v2.fst + (1 : Int)) -> ∃ (x19 : Int × Int), bestR d p a now ln x19.fst x19.snd (rootsF d p a now x19.snd) /\ (((la = la /\ ln = ln /\ lc = lc) /\ now = now /\ v2.snd = x19.snd /\ v18 = x19.fst /\ True) /\ True) /\ (ln - x19.fst).toNat < (ln - v2.fst).toNat)) /\ (v4 = true -> ∀ v20, v20 = IntKind.i64.wrap (v2.fst + (1 : Int)) -> ∃ (x21 : Int × Int), bestR d p a now ln x21.fst x21.snd (rootsF d p a now x21.snd) /\ (((la = la /\ ln = ln /\ lc = lc) /\ now = now /\ v2.fst = x21.snd /\ v20 = x21.fst /\ True) /\ True) /\ (ln - x21.fst).toNat < (ln - v2.fst).toNat)) /\ (v3 = false -> IntKind.i64 = IntKind.i64 /\ v2.snd = bestF ln d p a now)
theorem tieRBest (w0 : World) (la : Addr) (ln : Int) (lc : Nat) (o : Int → Int) (d : Int → Int) (p : Int → Int) (a : Int → Int) (now : Int) : VCRBest w0 la ln lc o d p a now = ((recN (GL Try.prog bestsSpec bestAnnSpec fitCutSpec w0) 90).call 22 [.bsl la ln lc [.int .i64 o, .int .i64 d, .int .i64 p, .int .i64 a], .int .i64 (.sym now)] [] (fun r__ _ => eqV r__ (.int .i64 (.sym (bestF ln d p a now))))) := by kernel_rfl
theorem pureRBest (w0 : World) (la : Addr) (ln : Int) (lc : Nat) (o d p a : Int → Int) (now : Int) (h : fitP ln o d p a ∧ I64 now) (hm : (0 ≤ ln ∧ ln ≤ (lc : Int) ∧ ∀ i : Int, 0 ≤ i → i < ln → BaseAt w0 la [.int .i64 o, .int .i64 d, .int .i64 p, .int .i64 a] i) ∧ True) : VCRBest w0 la ln lc o d p a now := by
  have hF := h
  obtain ⟨⟨⟨n0, ho, hd, hp, ha⟩, n8, hg⟩, hn⟩ := h
  obtain ⟨⟨_, hc, hb⟩, _⟩ := hm
  refine ⟨⟨(0, -1), bestR_start n0, by simp⟩, ?_⟩
  rintro ⟨i, b⟩ hR
  dsimp only at hR ⊢
  have i0 := hR.1.1
  have bi := bestN_in (rootsF d p a now) i.toNat
  rw [← hR.2.1] at bi
  refine ⟨n0, br (fun ci => ?_) fun ci => ⟨rfl, bestR_end hR ci⟩⟩
  have w2 : IntKind.i64.wrap (i + 1) = i + 1 := i64_id (by omega) (by omega)
  rw [w2]
  refine rb (fun b0 => ⟨⟨i0, ci⟩, hb i i0 ci, ?_⟩) fun b0 => ?_
  · rintro _ rfl _ rfl _ rfl _ rfl
    refine ⟨⟨ho i i0 ci, hd i i0 ci, hp i i0 ci, ha i i0 ci, hn, hg i i0 ci⟩, fun v hv => ⟨⟨by omega, by omega⟩, hb b (by omega) (by omega), ?_⟩⟩
    rintro _ rfl _ rfl _ rfl _ rfl
    refine ⟨⟨ho b (by omega) (by omega), hd b (by omega) (by omega), hp b (by omega) (by omega), ha b (by omega) (by omega), hn, hg b (by omega) (by omega)⟩, fun u hu => ?_⟩
    subst hu
    refine br (fun lt => ?_) fun ge => ?_
    · rintro _ rfl
      have := bestR_new hR ci hv (Or.inr lt)
      rw [hv] at this
      exact ⟨(i + 1, i), this, by simp, by dsimp only; omega⟩
    · rintro _ rfl
      exact ⟨(i + 1, b), bestR_old hR ci hv (by omega) ge, by simp, by dsimp only; omega⟩
  · rintro _ rfl
    exact ⟨(i + 1, i), bestR_new hR ci rfl (Or.inl b0), by simp, by dsimp only; omega⟩
theorem rBest_ok : SpecOkF Try.prog 22 rBestSpec := by
  intro args k h
  unfold rBestSpec at h
  split at h
  · rename_i la0 ln lc0 o d p a now
    obtain ⟨hr, h⟩ := h
    refine ⟨_, h _ rfl, fun w0 args' he0 hm => ?_⟩
    obtain ⟨la, lc, _, rfl, he1⟩ := eqBL_b he0
    obtain ⟨_, rfl, he2⟩ := eqBL_i he1
    obtain rfl := eqBL_n he2
    exact PureOkAt.of_tieF (GL Try.prog bestsSpec bestAnnSpec fitCutSpec) (fun w__ => gokL w__ namesOk_ mixed_ bests_ok) (fun _ => rfl) (fun _ => rfl) (args' := [.bsl la ln lc [.int .i64 o, .int .i64 d, .int .i64 p, .int .i64 a], .int .i64 (.sym now.val)]) ⟨⟨rfl, rfl, rfl⟩, ⟨rfl, rfl⟩, trivial⟩ 90 (fun w__ => VCRBest w__ la ln lc o d p a now.val) (fun w__ => tieRBest w__ la ln lc o d p a now.val) hm (fun w__ hm__ => pureRBest w__ la ln lc o d p a now.val hr hm__)
  · exact h.elim

end Go.Proofs.Ytbocopfieadgoaa.J
