import Derived.Test.YtbocopfieadgoaaSxR
import Derived.Test.YtbocopfieadgoaaProg
import Derived.Test.YtbocopfieadgoaaK
import Derived.KernelRfl
namespace Go.Proofs.Ytbocopfieadgoaa.J
open Go Go.Sx Go.RowKit Go.Proofs.Ytbocopfieadgoaa.C Go.Proofs.Ytbocopfieadgoaa.F
set_option linter.unusedVariables false
set_option maxRecDepth 100000
def apF (x q : Int) : Int := least (if x < q then q - x else x - q)
def jitN (o : Int → Int) (q : Int) : Nat → Int
  | 0 => 0
  | k + 1 => max (jitN o q k) (apF (o k) q)
def peO (n : Int) (o d p a : Int → Int) (now : Int) : Int := if n ≤ 0 then 0 else o (bestF n d p a now)
def peR (n : Int) (d p a : Int → Int) (now : Int) : Int := if n ≤ 0 then 0 else rootsF d p a now (bestF n d p a now)
def peJ (n : Int) (o d p a : Int → Int) (now : Int) : Int := if n ≤ 0 then 0 else jitN o (o (bestF n d p a now)) n.toNat
def peE (n : Int) : Int := if n ≤ 0 then 19 else 0
def peerASpec : St → Inv := fun S =>
  { ι := Int × Int
    T := fun q => stS (keepS (hset S 1 2 (.int .i64 (.sym q.2))) [0, 1, 4, 7, 29, 30]) [(31, .int .i64 (.sym q.1))]
    R := fun q => (0 ≤ q.1 ∧ q.1 ≤ iat S 30) ∧ q.2 = jitN (slAtSpec S 29 0) (hat S 1 0) q.1.toNat
    μ := fun q => (iat S 30 - q.1).toNat }
def rpeerASpec : St → Inv := fun S =>
  { ι := Int × Int
    T := fun q => stS (keepS (hset S 1 2 (.int .i64 (.sym q.2))) [0, 1, 4, 7]) [(8, .int .i64 (.sym q.1))]
    R := fun q => (0 ≤ q.1 ∧ q.1 ≤ slnAtSpec S 0) ∧ q.2 = jitN (slAtSpec S 0 0) (hat S 1 0) q.1.toNat
    μ := fun q => (slnAtSpec S 0 - q.1).toNat }
def peerAnnSpec : Anns := [(20, 0, peerASpec), (21, 0, rpeerASpec)]
def peersFSpec : List (FuncId × CSpec) := [(13, bestSpec), (22, rBestSpec)]
theorem peersF_ok : SpecsOkF Try.prog peersFSpec := ⟨best_ok, rBest_ok, trivial⟩
--@PLAIN
theorem jitN_in (o : Int → Int) (q : Int) : ∀ k, 0 ≤ jitN o q k ∧ jitN o q k ≤ 140737488355328
  | 0 => by simp [jitN]
  | k + 1 => by
    have := jitN_in o q k
    unfold jitN apF least
    omega
theorem jitN_succ (o : Int → Int) (q : Int) {i : Int} (h : 0 ≤ i) : jitN o q (i + 1).toNat = max (jitN o q i.toNat) (apF (o i) q) := by
  have e : (i + 1).toNat = i.toNat + 1 := by omega
  rw [e]
  show max (jitN o q i.toNat) (apF (o (i.toNat : Int)) q) = _
  rw [Int.toNat_of_nonneg h]
theorem pe_none {ln : Int} {o d p a : Int → Int} {now : Int} (h : ln ≤ 0) : peO ln o d p a now = 0 ∧ peR ln d p a now = 0 ∧ peJ ln o d p a now = 0 ∧ peE ln = 19 := ⟨if_pos h, if_pos h, if_pos h, if_pos h⟩
theorem pe_some {ln : Int} {o d p a : Int → Int} {now : Int} (h : ¬ ln ≤ 0) : peO ln o d p a now = o (bestF ln d p a now) ∧ peR ln d p a now = rootsF d p a now (bestF ln d p a now) ∧ peJ ln o d p a now = jitN o (o (bestF ln d p a now)) ln.toNat ∧ peE ln = 0 := ⟨if_neg h, if_neg h, if_neg h, if_neg h⟩
theorem jit_f {J x q : Int} (h0 : 0 ≤ J) (h1 : J ≤ 140737488355328) (d : Int) (hd : d = x - q) (e : Int) (he : e = 0 - d) (u : Int) (hu : u = if d > J then d else J) (v : Int) (hv : v = if e > u then e else u) (w : Int) (hw : w = if (140737488355328 : Int) < v then 140737488355328 else v) : w = max J (apF x q) := by
  unfold apF least; omega
theorem off_in {o d p a : Int} (h : goodF o d p a = true) : -140737488355328 ≤ o ∧ o ≤ 140737488355328 := by rw [good_iff] at h; omega
def peerSpec : CSpec := fun args k => match args, k with
  | [.bsl la0 ln lc0 [.int .i64 o, .int .i64 d, .int .i64 p, .int .i64 a], .int .i64 now], k => ((fitP ln o d p a ∧ I64 now.val)) ∧ (∀ r0 : Int, r0 = (peO ln o d p a now.val) → ∀ r1 : Int, r1 = (peR ln d p a now.val) → ∀ r2 : Int, r2 = (peJ ln o d p a now.val) → ∀ r3 : Int, r3 = (peE ln) → k (.tup [.agg [.int .i64 (.sym r0), .int .i64 (.sym r1), .int .i64 (.sym r2)], .int .i64 (.sym r3)]))
  | _, _ => False
def VCPeer (w0 : World) (la : Addr) (ln : Int) (lc : Nat) (o : Int → Int) (d : Int → Int) (p : Int → Int) (a : Int → Int) (now : Int) : Prop :=
  memB w0 la ln lc [FC.int IntKind.i64 o, FC.int IntKind.i64 d, FC.int IntKind.i64 p, FC.int IntKind.i64 a] /\ (fitP ln o d p a /\ I64 now) /\ ∀ v1, v1 = bestF ln d p a now -> ∀ v2, v2 = decide (v1 < (0 : Int)) -> (v2 = true -> ((IntKind.i64 = IntKind.i64 /\ (0 : Int) = peO ln o d p a now) /\ (IntKind.i64 = IntKind.i64 /\ (0 : Int) = peR ln d p a now) /\ (IntKind.i64 = IntKind.i64 /\ (0 : Int) = peJ ln o d p a now) /\ True) /\ (IntKind.i64 = IntKind.i64 /\ (19 : Int) = peE ln) /\ True) /\ (v2 = false -> ((0 : Int) ≤ v1 /\ v1 < ln) /\ BaseAt w0 la [FC.int IntKind.i64 o, FC.int IntKind.i64 d, FC.int IntKind.i64 p, FC.int IntKind.i64 a] v1 /\ ∀ v3, v3 = o v1 -> ((0 : Int) ≤ v1 /\ v1 < ln) /\ BaseAt w0 la [FC.int IntKind.i64 o, FC.int IntKind.i64 d, FC.int IntKind.i64 p, FC.int IntKind.i64 a] v1 /\ ∀ v4, v4 = o v1 -> ∀ v5, v5 = d v1 -> ∀ v6, v6 = p v1 -> ∀ v7, v7 = a v1 -> (I64 v4 /\ I64 v5 /\ I64 v6 /\ I64 v7 /\ I64 now /\ goodF v4 v5 v6 v7 = true) /\ ∀ v8, v8 = rootF v5 v6 v7 now -> (0 : Int) ≤ ln /\ (∃ (x9 : Int × Int), (((0 : Int) ≤ x9.fst /\ x9.fst ≤ ln) /\ x9.snd = jitN o v3 x9.fst.toNat) /\ ((la = la /\ ln = ln /\ lc = lc) /\ now = now /\ True /\ True /\ (la = la /\ ln = ln /\ lc = lc) /\ ln = ln /\ (0 : Int) = x9.fst /\ True) /\ ((0 : Int) = (0 : Int) /\ (0 : Int) = (0 : Int) /\ (0 : Int) = (0 : Int) /\ True) /\ (v3 = v3 /\ v8 = v8 /\ (0 : Int) = x9.snd /\ True) /\ True) /\ ∀ (v10 : Int × Int), ((0 : Int) ≤ v10.fst /\ v10.fst ≤ ln) /\ v10.snd = jitN o v3 v10.fst.toNat -> ∀ v11, v11 = decide (v10.fst < ln) -> (v11 = true -> ((0 : Int) ≤ v10.fst /\ v10.fst < ln) /\ BaseAt w0 la [FC.int IntKind.i64 o, FC.int IntKind.i64 d, FC.int IntKind.i64 p, FC.int IntKind.i64 a] v10.fst /\ ∀ v12, v12 = o v10.fst -> ∀ v13, v13 = d v10.fst -> ∀ v14, v14 = p v10.fst -> ∀ v15, v15 = a v10.fst -> ∀ v16, v16 = IntKind.i64.wrap (v12 - v3) -> ∀ v17, v17 = IntKind.i64.wrap ((0 : Int) - v16) -> ∀ (v18 : Int), (v18 = if v16 > v10.snd then v16 else v10.snd) -> ∀ (v19 : Int), (v19 = if v17 > v18 then v17 else v18) -> ∀ (v20 : Int), (v20 = if (140737488355328 : Int) < v19 then (140737488355328 : Int) else v19) -> ∀ v21, v21 = IntKind.i64.wrap (v10.fst + (1 : Int)) -> ∃ (x22 : Int × Int), (((0 : Int) ≤ x22.fst /\ x22.fst ≤ ln) /\ x22.snd = jitN o v3 x22.fst.toNat) /\ (((la = la /\ ln = ln /\ lc = lc) /\ now = now /\ True /\ True /\ (la = la /\ ln = ln /\ lc = lc) /\ ln = ln /\ v21 = x22.fst /\ True) /\ ((0 : Int) = (0 : Int) /\ (0 : Int) = (0 : Int) /\ (0 : Int) = (0 : Int) /\ True) /\ (v3 = v3 /\ v8 = v8 /\ v20 = x22.snd /\ True) /\ True) /\ (ln - x22.fst).toNat < (ln - v10.fst).toNat) /\ (v11 = false -> ((IntKind.i64 = IntKind.i64 /\ v3 = peO ln o d p a now) /\ (IntKind.i64 = IntKind.i64 /\ v8 = peR ln d p a now) /\ (IntKind.i64 = IntKind.i64 /\ v10.snd = peJ ln o d p a now) /\ True) /\ (IntKind.i64 = IntKind.i64 /\ (0 : Int) = peE ln) /\ True))
theorem tiePeer (w0 : World) (la : Addr) (ln : Int) (lc : Nat) (o : Int → Int) (d : Int → Int) (p : Int → Int) (a : Int → Int) (now : Int) : VCPeer w0 la ln lc o d p a now = ((recN (GF Try.prog bestsSpec [] peersFSpec peerAnnSpec fitCutSpec [] [] w0) 90).call 20 [.bsl la ln lc [.int .i64 o, .int .i64 d, .int .i64 p, .int .i64 a], .int .i64 (.sym now)] [] (fun r__ _ => eqV r__ (.tup [.agg [.int .i64 (.sym (peO ln o d p a now)), .int .i64 (.sym (peR ln d p a now)), .int .i64 (.sym (peJ ln o d p a now))], .int .i64 (.sym (peE ln))]))) := by kernel_rfl
theorem purePeer (w0 : World) (la : Addr) (ln : Int) (lc : Nat) (o d p a : Int → Int) (now : Int) (h : fitP ln o d p a ∧ I64 now) (hm : (0 ≤ ln ∧ ln ≤ (lc : Int) ∧ ∀ i : Int, 0 ≤ i → i < ln → BaseAt w0 la [.int .i64 o, .int .i64 d, .int .i64 p, .int .i64 a] i) ∧ True) : VCPeer w0 la ln lc o d p a now := by
  have hF := h
  obtain ⟨⟨⟨n0, ho, hd, hp, ha⟩, n8, hg⟩, hn⟩ := h
  obtain ⟨⟨_, hc, hb⟩, _⟩ := hm
  have bi := bestF_in ln d p a now n0
  refine ⟨⟨⟨n0, hc⟩, hb⟩, hF, ?_⟩
  rintro _ rfl
  refine br (fun c => ?_) fun c => ?_
  · obtain ⟨e1, e2, e3, e4⟩ := pe_none (o := o) (d := d) (p := p) (a := a) (now := now) (show ln ≤ 0 by omega)
    rw [e1, e2, e3, e4]; simp
  obtain ⟨e1, e2, e3, e4⟩ := pe_some (o := o) (d := d) (p := p) (a := a) (now := now) (show ¬ ln ≤ 0 by omega)
  rw [e1, e2, e3, e4]
  have b0 : 0 ≤ bestF ln d p a now := by omega
  have b1 : bestF ln d p a now < ln := by omega
  generalize bestF ln d p a now = k at *
  have gk := hg k b0 b1
  have ok := off_in gk
  refine ⟨⟨b0, b1⟩, hb k b0 b1, ?_⟩
  rintro _ rfl
  refine ⟨⟨b0, b1⟩, hb k b0 b1, ?_⟩
  rintro _ rfl _ rfl _ rfl _ rfl
  refine ⟨⟨ho k b0 b1, hd k b0 b1, hp k b0 b1, ha k b0 b1, hn, gk⟩, ?_⟩
  rintro _ rfl
  refine ⟨n0, ⟨(0, 0), ⟨⟨by dsimp only; omega, n0⟩, rfl⟩, by simp⟩, ?_⟩
  rintro ⟨i, J⟩ ⟨⟨i0, i1⟩, hJ⟩
  dsimp only at i0 i1 hJ ⊢
  have jb := jitN_in o (o k) i.toNat
  rw [← hJ] at jb
  refine br (fun ci => ⟨⟨i0, ci⟩, hb i i0 ci, ?_⟩) fun ci => ?_
  · have gi := off_in (hg i i0 ci)
    rintro _ rfl _ rfl _ rfl _ rfl v22 h22 v23 h23 v24 h24 v25 h25 v26 h26 v27 h27
    rw [i64_id (by omega) (by omega)] at h22 h27
    rw [i64_id (by omega) (by omega)] at h23
    have key := jit_f jb.1 jb.2 _ h22 _ h23 _ h24 _ h25 _ h26
    refine ⟨(i + 1, v26), ⟨⟨by dsimp only; omega, by dsimp only; omega⟩, ?_⟩, by simp [h27], by dsimp only; omega⟩
    dsimp only
    rw [jitN_succ _ _ i0, ← hJ]; exact key
  · have e : i = ln := by omega
    subst e
    simp [hJ, rootsF]
theorem peer_ok : SpecOkF Try.prog 20 peerSpec := by
  intro args k h
  unfold peerSpec at h
  split at h
  · rename_i la0 ln lc0 o d p a now
    obtain ⟨hr, h⟩ := h
    refine ⟨_, h _ rfl _ rfl _ rfl _ rfl, fun w0 args' he0 hm => ?_⟩
    obtain ⟨la, lc, _, rfl, he1⟩ := eqBL_b he0
    obtain ⟨_, rfl, he2⟩ := eqBL_i he1
    obtain rfl := eqBL_n he2
    exact PureOkAt.of_tieF (GF Try.prog bestsSpec [] peersFSpec peerAnnSpec fitCutSpec [] []) (fun w__ => gokF w__ namesOk_ mixed_ bests_ok trivial peersF_ok) (fun _ => rfl) (fun _ => rfl) (args' := [.bsl la ln lc [.int .i64 o, .int .i64 d, .int .i64 p, .int .i64 a], .int .i64 (.sym now.val)]) ⟨⟨rfl, rfl, rfl⟩, ⟨rfl, rfl⟩, trivial⟩ 90 (fun w__ => VCPeer w__ la ln lc o d p a now.val) (fun w__ => tiePeer w__ la ln lc o d p a now.val) hm (fun w__ hm__ => purePeer w__ la ln lc o d p a now.val hr hm__)
  · exact h.elim

def rPeerSpec : CSpec := fun args k => match args, k with
  | [.bsl la0 ln lc0 [.int .i64 o, .int .i64 d, .int .i64 p, .int .i64 a], .int .i64 now], k => ((fitP ln o d p a ∧ I64 now.val)) ∧ (∀ r0 : Int, r0 = (peO ln o d p a now.val) → ∀ r1 : Int, r1 = (peR ln d p a now.val) → ∀ r2 : Int, r2 = (peJ ln o d p a now.val) → ∀ r3 : Int, r3 = (peE ln) → k (.tup [.agg [.int .i64 (.sym r0), .int .i64 (.sym r1), .int .i64 (.sym r2)], .int .i64 (.sym r3)]))
  | _, _ => False
def VCRPeer (w0 : World) (la : Addr) (ln : Int) (lc : Nat) (o : Int → Int) (d : Int → Int) (p : Int → Int) (a : Int → Int) (now : Int) : Prop :=
  memB w0 la ln lc [FC.int IntKind.i64 o, FC.int IntKind.i64 d, FC.int IntKind.i64 p, FC.int IntKind.i64 a] /\ (fitP ln o d p a /\ I64 now) /\ ∀ v1, v1 = bestF ln d p a now -> ∀ v2, v2 = decide (v1 < (0 : Int)) -> (v2 = true -> ((IntKind.i64 = IntKind.i64 /\ (0 : Int) = peO ln o d p a now) /\ (IntKind.i64 = IntKind.i64 /\ (0 : Int) = peR ln d p a now) /\ (IntKind.i64 = IntKind.i64 /\ (0 : Int) = peJ ln o d p a now) /\ True) /\ (IntKind.i64 = IntKind.i64 /\ (19 : Int) = peE ln) /\ True) /\ (v2 = false -> ((0 : Int) ≤ v1 /\ v1 < ln) /\ BaseAt w0 la [FC.int IntKind.i64 o, FC.int IntKind.i64 d, FC.int IntKind.i64 p, FC.int IntKind.i64 a] v1 /\ ∀ v3, v3 = o v1 -> ((0 : Int) ≤ v1 /\ v1 < ln) /\ BaseAt w0 la [FC.int IntKind.i64 o, FC.int IntKind.i64 d, FC.int IntKind.i64 p, FC.int IntKind.i64 a] v1 /\ ∀ v4, v4 = o v1 -> ∀ v5, v5 = d v1 -> ∀ v6, v6 = p v1 -> ∀ v7, v7 = a v1 -> (I64 v4 /\ I64 v5 /\ I64 v6 /\ I64 v7 /\ I64 now /\ goodF v4 v5 v6 v7 = true) /\ ∀ v8, v8 = rootF v5 v6 v7 now -> (∃ (x9 : Int × Int), (((0 : Int) ≤ x9.fst /\ x9.fst ≤ ln) /\ x9.snd = jitN o v3 x9.fst.toNat) /\ ((la = la /\ ln = ln /\ lc = lc) /\ now = now /\ True /\ True /\ (0 : Int) = x9.fst /\ True) /\ ((0 : Int) = (0 : Int) /\ (0 : Int) = (0 : Int) /\ (0 : Int) = (0 : Int) /\ True) /\ (v3 = v3 /\ v8 = v8 /\ (0 : Int) = x9.snd /\ True) /\ True) /\ ∀ (v10 : Int × Int), ((0 : Int) ≤ v10.fst /\ v10.fst ≤ ln) /\ v10.snd = jitN o v3 v10.fst.toNat -> (0 : Int) ≤ ln /\ ∀ v11, v11 = decide (v10.fst < ln) -> (v11 = true -> ((0 : Int) ≤ v10.fst /\ v10.fst < ln) /\ BaseAt w0 la [FC.int IntKind.i64 o, FC.int IntKind.i64 d, FC.int IntKind.i64 p, FC.int IntKind.i64 a] v10.fst /\ ∀ v12, v12 = o v10.fst -> ∀ v13, v13 = decide (v12 < v3) -> (v13 = true -> ∀ v14, v14 = IntKind.i64.wrap (v3 - v12) -> ∀ (v15 : Int), (v15 = if (140737488355328 : Int) < v14 then (140737488355328 : Int) else v14) -> ∀ (v16 : Int), (v16 = if v15 > v10.snd then v15 else v10.snd) -> ∀ v17, v17 = IntKind.i64.wrap (v10.fst + (1 : Int)) -> ∃ (x18 : Int × Int), (((0 : Int) ≤ x18.fst /\ x18.fst ≤ ln) /\ x18.snd = jitN o v3 x18.fst.toNat) /\ (((la = la /\ ln = ln /\ lc = lc) /\ now = now /\ True /\ True /\ v17 = x18.fst /\ True) /\ ((0 : Int) = (0 : Int) /\ (0 : Int) = (0 : Int) /\ (0 : Int) = (0 : Int) /\ True) /\ (v3 = v3 /\ v8 = v8 /\ v16 = x18.snd /\ True) /\ True) /\ (ln - x18.fst).toNat < (ln - v10.fst).toNat) /\ (v13 = false -> ∀ v19, v19 = IntKind.i64.wrap (v12 - v3) -> ∀ (v20 : Int), (v20 = if (140737488355328 : Int) < v19 then (140737488355328 : Int) else v19) -> ∀ (v21 : Int), (v21 = if v20 > v10.snd then v20 else v10.snd) -> ∀ v22, v22 = IntKind.i64.wrap (v10.fst + (1 : Int)) -> ∃ (x23 : Int × Int), (((0 : Int) ≤ x23.fst /\ x23.fst ≤ ln) /\ x23.snd = jitN o v3 x23.fst.toNat) /\ (((la = la /\ ln = ln /\ lc = lc) /\ now = now /\ True /\ True /\ v22 = x23.fst /\ True) /\ ((0 : Int) = (0 : Int) /\ (0 : Int) = (0 : Int) /\ (0 : Int) = (0 : Int) /\ True) /\ (v3 = v3 /\ v8 = v8 /\ v21 = x23.snd /\ True) /\ True) /\ (ln - x23.fst).toNat < (ln - v10.fst).toNat)) /\ (v11 = false -> ((IntKind.i64 = IntKind.i64 /\ v3 = peO ln o d p a now) /\ (IntKind.i64 = IntKind.i64 /\ v8 = peR ln d p a now) /\ (IntKind.i64 = IntKind.i64 /\ v10.snd = peJ ln o d p a now) /\ True) /\ (IntKind.i64 = IntKind.i64 /\ (0 : Int) = peE ln) /\ True))
theorem tieRPeer (w0 : World) (la : Addr) (ln : Int) (lc : Nat) (o : Int → Int) (d : Int → Int) (p : Int → Int) (a : Int → Int) (now : Int) : VCRPeer w0 la ln lc o d p a now = ((recN (GF Try.prog bestsSpec [] peersFSpec peerAnnSpec fitCutSpec [] [] w0) 90).call 21 [.bsl la ln lc [.int .i64 o, .int .i64 d, .int .i64 p, .int .i64 a], .int .i64 (.sym now)] [] (fun r__ _ => eqV r__ (.tup [.agg [.int .i64 (.sym (peO ln o d p a now)), .int .i64 (.sym (peR ln d p a now)), .int .i64 (.sym (peJ ln o d p a now))], .int .i64 (.sym (peE ln))]))) := by kernel_rfl
theorem pureRPeer (w0 : World) (la : Addr) (ln : Int) (lc : Nat) (o d p a : Int → Int) (now : Int) (h : fitP ln o d p a ∧ I64 now) (hm : (0 ≤ ln ∧ ln ≤ (lc : Int) ∧ ∀ i : Int, 0 ≤ i → i < ln → BaseAt w0 la [.int .i64 o, .int .i64 d, .int .i64 p, .int .i64 a] i) ∧ True) : VCRPeer w0 la ln lc o d p a now := by
  have hF := h
  obtain ⟨⟨⟨n0, ho, hd, hp, ha⟩, n8, hg⟩, hn⟩ := h
  obtain ⟨⟨_, hc, hb⟩, _⟩ := hm
  have bi := bestF_in ln d p a now n0
  refine ⟨⟨⟨n0, hc⟩, hb⟩, hF, ?_⟩
  rintro _ rfl
  refine br (fun c => ?_) fun c => ?_
  · obtain ⟨e1, e2, e3, e4⟩ := pe_none (o := o) (d := d) (p := p) (a := a) (now := now) (show ln ≤ 0 by omega)
    rw [e1, e2, e3, e4]; simp
  obtain ⟨e1, e2, e3, e4⟩ := pe_some (o := o) (d := d) (p := p) (a := a) (now := now) (show ¬ ln ≤ 0 by omega)
  rw [e1, e2, e3, e4]
  have b0 : 0 ≤ bestF ln d p a now := by omega
  have b1 : bestF ln d p a now < ln := by omega
  generalize bestF ln d p a now = k at *
  have gk := hg k b0 b1
  have ok := off_in gk
  refine ⟨⟨b0, b1⟩, hb k b0 b1, ?_⟩
  rintro _ rfl
  refine ⟨⟨b0, b1⟩, hb k b0 b1, ?_⟩
  rintro _ rfl _ rfl _ rfl _ rfl
  refine ⟨⟨ho k b0 b1, hd k b0 b1, hp k b0 b1, ha k b0 b1, hn, gk⟩, ?_⟩
  rintro _ rfl
  refine ⟨⟨(0, 0), ⟨⟨by dsimp only; omega, n0⟩, rfl⟩, by simp⟩, ?_⟩
  rintro ⟨i, J⟩ ⟨⟨i0, i1⟩, hJ⟩
  dsimp only at i0 i1 hJ ⊢
  have jb := jitN_in o (o k) i.toNat
  rw [← hJ] at jb
  refine ⟨n0, br (fun ci => ⟨⟨i0, ci⟩, hb i i0 ci, ?_⟩) fun ci => ?_⟩
  · have gi := off_in (hg i i0 ci)
    rintro _ rfl
    refine br (fun cx => ?_) fun cx => ?_
    · rintro v20 h20 v21 h21 v22 h22 v23 h23
      rw [i64_id (by omega) (by omega)] at h20 h23
      refine ⟨(i + 1, v22), ⟨⟨by dsimp only; omega, by dsimp only; omega⟩, ?_⟩, by simp [h23], by dsimp only; omega⟩
      dsimp only
      rw [jitN_succ _ _ i0, ← hJ]; unfold apF least; omega
    · rintro v20 h20 v21 h21 v22 h22 v23 h23
      rw [i64_id (by omega) (by omega)] at h20 h23
      refine ⟨(i + 1, v22), ⟨⟨by dsimp only; omega, by dsimp only; omega⟩, ?_⟩, by simp [h23], by dsimp only; omega⟩
      dsimp only
      rw [jitN_succ _ _ i0, ← hJ]; unfold apF least; omega
  · have e : i = ln := by omega
    subst e
    simp [hJ, rootsF]
theorem rPeer_ok : SpecOkF Try.prog 21 rPeerSpec := by
  intro args k h
  unfold rPeerSpec at h
  split at h
  · rename_i la0 ln lc0 o d p a now
    obtain ⟨hr, h⟩ := h
    refine ⟨_, h _ rfl _ rfl _ rfl _ rfl, fun w0 args' he0 hm => ?_⟩
    obtain ⟨la, lc, _, rfl, he1⟩ := eqBL_b he0
    obtain ⟨_, rfl, he2⟩ := eqBL_i he1
    obtain rfl := eqBL_n he2
    exact PureOkAt.of_tieF (GF Try.prog bestsSpec [] peersFSpec peerAnnSpec fitCutSpec [] []) (fun w__ => gokF w__ namesOk_ mixed_ bests_ok trivial peersF_ok) (fun _ => rfl) (fun _ => rfl) (args' := [.bsl la ln lc [.int .i64 o, .int .i64 d, .int .i64 p, .int .i64 a], .int .i64 (.sym now.val)]) ⟨⟨rfl, rfl, rfl⟩, ⟨rfl, rfl⟩, trivial⟩ 90 (fun w__ => VCRPeer w__ la ln lc o d p a now.val) (fun w__ => tieRPeer w__ la ln lc o d p a now.val) hm (fun w__ hm__ => pureRPeer w__ la ln lc o d p a now.val hr hm__)
  · exact h.elim

end Go.Proofs.Ytbocopfieadgoaa.J
