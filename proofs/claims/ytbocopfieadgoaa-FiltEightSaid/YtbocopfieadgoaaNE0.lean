import Derived.Test.YtbocopfieadgoaaSxR
import Derived.Test.YtbocopfieadgoaaProg
import Derived.Test.YtbocopfieadgoaaM
import Derived.KernelRfl
namespace Go.Proofs.Ytbocopfieadgoaa.J
open Go Go.Sx Go.RowKit Go.Proofs.Ytbocopfieadgoaa.C Go.Proofs.Ytbocopfieadgoaa.F
set_option linter.unusedVariables false
set_option maxRecDepth 100000
def comb (i : Int) (E L : Int → Int) : Int → Int := fun j => if j < i then E (i - 1 - j) else L (j - i)
def eightR (i N n : Int) (o d p a O D Q A g h k m : Int → Int) : Prop := (1 ≤ i ∧ i ≤ 8) ∧ N = (if n + i < 8 then n + i else 8) ∧ (∀ j, 0 ≤ j → j < N → g j = comb i O o j ∧ h j = comb i D d j ∧ k j = comb i Q p j ∧ m j = comb i A a j) ∧ (∀ j, 0 ≤ j → j < i → goodF (O j) (D j) (Q j) (A j) = true) ∧ (∀ j, 1 ≤ j → j < i → A (j - 1) ≤ A j)
--@PLAIN
def rFitNSpec : CSpec := fun args k => match args, k with
  | [.val (.slice none 0 0)], k => (True) ∧ (k (.bool (.lit true)))
  | _, _ => False
def VCRFitN : Prop :=
  true = true
theorem tieRFitN (w0 : World)  : VCRFitN  = ((recN (GC Try.prog fitsSpec w0) 60).call 12 [.val (.slice none 0 0)] [] (fun r__ _ => eqV r__ (.bool (.lit true)))) := by kernel_rfl
theorem pureRFitN (w0 : World) (h : True) (hm : True) : VCRFitN := by
  unfold VCRFitN; trivial
theorem rFitN_ok : SpecOkF Try.prog 12 rFitNSpec := by
  intro args k h
  unfold rFitNSpec at h
  split at h
  · obtain ⟨hr, h⟩ := h
    refine ⟨_, h , fun w0 args' he0 hm => ?_⟩
    obtain ⟨_, rfl, he1⟩ := eqBL_v he0
    obtain rfl := eqBL_n he1
    exact PureOkAt.of_tieF (GC Try.prog fitsSpec) (fun w__ => gok w__ namesOk_ mixed_ fits_ok) (fun _ => rfl) (fun _ => rfl) (args' := [.val (.slice none 0 0)]) ⟨rfl, trivial⟩ 60 (fun w__ => VCRFitN ) (fun w__ => tieRFitN w__ ) hm (fun w__ hm__ => pureRFitN w__  hr hm__)
  · exact h.elim

theorem comb_one (E L : Int → Int) {j : Int} (h : 0 ≤ j) : putF (E 0) L j = comb 1 E L j := by
  unfold putF comb
  by_cases e : j = 0
  · subst e; rfl
  · rw [if_neg e, if_neg (by omega)]
theorem comb_succ (E L g : Int → Int) {i j N : Int} (hi : 1 ≤ i) (h : 0 ≤ j) (hj : j - 1 < N) (hg : ∀ j, 0 ≤ j → j < N → g j = comb i E L j) : putF (E i) g j = comb (i + 1) E L j := by
  unfold putF
  by_cases e : j = 0
  · subst e
    rw [if_pos rfl]; unfold comb; rw [if_pos (by omega), show i + 1 - 1 - 0 = i by omega]
  · rw [if_neg e, hg _ (by omega) hj]
    unfold comb
    by_cases c : j - 1 < i
    · rw [if_pos c, if_pos (by omega), show i - 1 - (j - 1) = i + 1 - 1 - j by omega]
    · rw [if_neg c, if_neg (by omega), show j - 1 - i = j - (i + 1) by omega]
theorem eight_first {N n : Int} {o d p a O D Q A g h k m : Int → Int} (hn : 0 ≤ n) (hn8 : n ≤ 8) (hN : N = (if n < 7 then n else 7) + 1) (h0 : ∀ j, 0 ≤ j → j < N → g j = putF (O 0) o j) (h1 : ∀ j, 0 ≤ j → j < N → h j = putF (D 0) d j) (h2 : ∀ j, 0 ≤ j → j < N → k j = putF (Q 0) p j) (h3 : ∀ j, 0 ≤ j → j < N → m j = putF (A 0) a j)
    (gd : goodF (O 0) (D 0) (Q 0) (A 0) = true) : eightR 1 N n o d p a O D Q A g h k m := by
  refine ⟨by omega, by rw [hN]; split <;> split <;> omega, fun j a b => ⟨?_, ?_, ?_, ?_⟩, fun j a b => ?_, fun j a b => by omega⟩
  · rw [h0 j a b]; exact comb_one _ _ a
  · rw [h1 j a b]; exact comb_one _ _ a
  · rw [h2 j a b]; exact comb_one _ _ a
  · rw [h3 j a b]; exact comb_one _ _ a
  · obtain rfl : j = 0 := by omega
    exact gd
theorem eight_in {i N n : Int} {o d p a O D Q A g h k m : Int → Int} (hn : 0 ≤ n) (hR : eightR i N n o d p a O D Q A g h k m) : 1 ≤ N ∧ N ≤ 8 := by
  obtain ⟨hi, hN, _⟩ := hR
  rw [hN]; split <;> omega
theorem eight_step {i N n N' : Int} {o d p a O D Q A g h k m g' h' k' m' : Int → Int} (hn : 0 ≤ n) (hR : eightR i N n o d p a O D Q A g h k m) (hi : i < 8) (hM : N' = (if N < 7 then N else 7) + 1) (h0 : ∀ j, 0 ≤ j → j < N' → g' j = putF (O i) g j) (h1 : ∀ j, 0 ≤ j → j < N' → h' j = putF (D i) h j) (h2 : ∀ j, 0 ≤ j → j < N' → k' j = putF (Q i) k j) (h3 : ∀ j, 0 ≤ j → j < N' → m' j = putF (A i) m j)
    (gd : goodF (O i) (D i) (Q i) (A i) = true) (at_ : ¬ m 0 > A i) : eightR (i + 1) N' n o d p a O D Q A g' h' k' m' := by
  have b := eight_in hn hR
  obtain ⟨hi1, hN, hv, hg, ha⟩ := hR
  have bN : N' ≤ N + 1 := by rw [hM]; split <;> omega
  refine ⟨by omega, by rw [hM, hN]; (repeat' split) <;> omega, fun j a b => ⟨?_, ?_, ?_, ?_⟩, fun j a b => ?_, fun j a b => ?_⟩
  · rw [h0 j a b]; exact comb_succ _ _ _ hi1.1 a (by omega) fun j a b => (hv j a b).1
  · rw [h1 j a b]; exact comb_succ _ _ _ hi1.1 a (by omega) fun j a b => (hv j a b).2.1
  · rw [h2 j a b]; exact comb_succ _ _ _ hi1.1 a (by omega) fun j a b => (hv j a b).2.2.1
  · rw [h3 j a b]; exact comb_succ _ _ _ hi1.1 a (by omega) fun j a b => (hv j a b).2.2.2
  · by_cases e : j = i
    · subst e; exact gd
    · exact hg j a (by omega)
  · by_cases e : j = i
    · subst e
      rw [(hv 0 (by omega) (by omega)).2.2.2] at at_
      unfold comb at at_
      rw [if_pos (by omega), show j - 1 - 0 = j - 1 by omega] at at_
      omega
    · exact ha j a (by omega)
theorem eight_end {N n : Int} {o d p a O D Q A g h k m : Int → Int} (hn : 0 ≤ n) (hR : eightR 8 N n o d p a O D Q A g h k m) : N = 8 ∧ (∀ j, 0 ≤ j → j < 8 → g (7 - j) = O j ∧ h (7 - j) = D j ∧ k (7 - j) = Q j ∧ m (7 - j) = A j) ∧ fitF N g h k m = true := by
  obtain ⟨hi1, hN, hv, hg, ha⟩ := hR
  have e : N = 8 := by rw [hN, if_neg (by omega)]
  subst e
  have key : ∀ j, 0 ≤ j → j < 8 → g j = O (7 - j) ∧ h j = D (7 - j) ∧ k j = Q (7 - j) ∧ m j = A (7 - j) := fun j a b => by
    have := hv j a b
    unfold comb at this
    rwa [if_pos b, if_pos b, if_pos b, if_pos b, show (8 : Int) - 1 - j = 7 - j by omega] at this
  refine ⟨rfl, fun j a b => ?_, fit_iff.2 ⟨by omega, fun j a b => ?_⟩⟩
  · have := key (7 - j) (by omega) (by omega)
    rwa [show (7 : Int) - (7 - j) = j by omega] at this
  · obtain ⟨k0, k1, k2, k3⟩ := key j a b
    refine ⟨by rw [k0, k1, k2, k3]; exact hg _ (by omega) (by omega), ?_⟩
    by_cases z : j = 0
    · exact Or.inl z
    · right
      rw [k3, (key (j - 1) (by omega) (by omega)).2.2.2, show (7 : Int) - (j - 1) = 7 - j + 1 by omega]
      have := ha (7 - j + 1) (by omega) (by omega)
      rwa [show (7 : Int) - j + 1 - 1 = 7 - j by omega] at this
theorem eight_ok {i N n : Int} {o d p a O D Q A g h k m : Int → Int} (hn : 0 ≤ n) (hR : eightR i N n o d p a O D Q A g h k m) (ho : ∀ i, I64 (o i)) (hd : ∀ i, I64 (d i)) (hp : ∀ i, I64 (p i)) (ha : ∀ i, I64 (a i)) (hO : ∀ i, I64 (O i)) (hD : ∀ i, I64 (D i)) (hQ : ∀ i, I64 (Q i)) (hA : ∀ i, I64 (A i)) : okS N g h k m := by
  have b := eight_in hn hR
  obtain ⟨hi1, hN, hv, hg, _⟩ := hR
  have c : ∀ (E L : Int → Int), (∀ i, I64 (E i)) → (∀ i, I64 (L i)) → ∀ j, I64 (comb i E L j) := fun E L hE hL j => by unfold comb; split; exact hE _; exact hL _
  refine ⟨by omega, fun j a b => ?_, fun j a b => ?_, fun j a b => ?_, fun j a b => ?_⟩
  · rw [(hv j a b).1]; exact c _ _ hO ho j
  · rw [(hv j a b).2.1]; exact c _ _ hD hd j
  · rw [(hv j a b).2.2.1]; exact c _ _ hQ hp j
  · rw [(hv j a b).2.2.2]; exact c _ _ hA ‹_› j
end Go.Proofs.Ytbocopfieadgoaa.J
