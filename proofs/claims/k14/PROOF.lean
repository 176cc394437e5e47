import PyProof.Rows.All
import Wide.All
import OpenK.AllK
import Wide.FinOn
import HandS.ForMost
import PySem.Challenge.RW_anylead_k14_whole_signs_of_sets
import HandS.Head0
import HandS.Head1
import HandS.Head2
import HandS.HeadEnd
import HandS.HeadHook4
import HandS.HeadWalk
import HandS.TupMul
import HandS.TupAny
import HandS.Style
import HandS.IsInst
import HandS.OwnEq
import PyProof.LongRange
import KE.GoesMore
import KE.GoesEnum
import HandS.Lambda
import HandS.Nested
import HandS.TupLe
import HandS.Defaults
set_option Elab.async false
set_option maxHeartbeats 4000000
/-! The plain law: descriptions of sets that come round, their one form. No program here. -/
namespace KF

/-- a description -/
structure Desc where
  start : Int
  below : List Bool
  middle : List Bool
  above : List Bool
  deriving DecidableEq

/-- the row that is repeated for ever -/
def cyc (r : List Bool) (n : Int) : Bool := r.getD (n % (r.length : Int)).toNat false
def Desc.fin (d : Desc) : Int := d.start + (d.middle.length : Int)
def mem (d : Desc) (n : Int) : Bool :=
  if n < d.start then cyc d.below (n - d.start)
  else if n < d.fin then d.middle.getD (n - d.start).toNat false
  else cyc d.above (n - d.fin)

def Per (f : Int → Bool) (q : Int) : Prop := ∀ n, f n = f (n + q)

theorem Per.zero (f : Int → Bool) : Per f 0 := fun n => by rw [Int.add_zero]
theorem Per.add {f : Int → Bool} {a b : Int} (h : Per f a) (k : Per f b) : Per f (a + b) := fun n => by
  rw [h n, k (n + a), Int.add_assoc]
theorem Per.neg {f : Int → Bool} {a : Int} (h : Per f a) : Per f (-a) := fun n => by
  have e := h (n + -a)
  rw [show n + -a + a = n by omega] at e
  exact e.symm
theorem Per.nsmul {f : Int → Bool} {a : Int} (h : Per f a) : ∀ k : Nat, Per f (a * (k : Int))
  | 0 => by simpa using Per.zero f
  | k + 1 => by
    have e : a * ((k + 1 : Nat) : Int) = a * (k : Int) + a := by
      rw [Int.natCast_add, Int.mul_add]; simp
    rw [e]
    exact (Per.nsmul h k).add h
theorem Per.smul {f : Int → Bool} {a : Int} (h : Per f a) (k : Int) : Per f (a * k) := by
  rcases Int.eq_nat_or_neg k with ⟨m, e | e⟩
  · rw [e]; exact h.nsmul m
  · rw [e, Int.mul_neg]; exact (h.nsmul m).neg
theorem Per.mod {f : Int → Bool} {a b : Int} (h : Per f a) (k : Per f b) : Per f (a % b) := by
  rw [Int.emod_def]
  have e : a - b * (a / b) = a + -(b * (a / b)) := by omega
  rw [e]
  exact h.add (k.smul _).neg
theorem Per.dvd {f : Int → Bool} {a b : Int} (h : Per f a) (d : a ∣ b) : Per f b := by
  obtain ⟨k, e⟩ := d
  rw [e]; exact h.smul k
theorem Per.at_mod {f : Int → Bool} {q : Int} (h : Per f q) (n : Int) : f n = f (n % q) := by
  have e := (h.smul (-(n / q))) n
  rw [e]
  congr 1
  rw [Int.emod_def, Int.mul_neg]; omega

structure LeastPer (f : Int → Bool) (q : Int) : Prop where
  pos : 1 ≤ q
  per : Per f q
  min : ∀ p, 1 ≤ p → p < q → ¬ Per f p
theorem LeastPer.dvd {f : Int → Bool} {q p : Int} (h : LeastPer f q) (k : Per f p) : q ∣ p := by
  have hp := h.pos
  have h0 : 0 ≤ p % q := Int.emod_nonneg p (by omega)
  have h1 : p % q < q := Int.emod_lt_of_pos p (by omega)
  by_cases z : p % q = 0
  · exact Int.dvd_of_emod_eq_zero z
  · exact absurd (k.mod h.per) (h.min _ (by omega) h1)
theorem LeastPer.uniq {f : Int → Bool} {q p : Int} (h : LeastPer f q) (k : LeastPer f p) : q = p := by
  rcases Int.lt_trichotomy q p with l | e | l
  · exact absurd h.per (k.min _ h.pos l)
  · exact e
  · exact absurd k.per (h.min _ k.pos l)
theorem LeastPer.ex {f : Int → Bool} : ∀ (m : Nat), 1 ≤ m → Per f (m : Int) → ∃ q, LeastPer f q ∧ q ≤ (m : Int) := by
  intro m
  induction m using Nat.strongRecOn with
  | ind m ih =>
    intro h1 hp
    by_cases z : ∃ p : Nat, 1 ≤ p ∧ p < m ∧ Per f (p : Int)
    · obtain ⟨p, h2, h3, h4⟩ := z
      obtain ⟨q, hq, hl⟩ := ih p h3 h2 h4
      exact ⟨q, hq, by omega⟩
    · refine ⟨m, ⟨by omega, hp, fun p h2 h3 h4 => z ⟨p.toNat, by omega, by omega, ?_⟩⟩, Int.le_refl _⟩
      rw [Int.toNat_of_nonneg (by omega)]
      exact h4

theorem cyc_per (r : List Bool) : Per (cyc r) (r.length : Int) := fun n => by
  unfold cyc
  rw [Int.add_emod_right]
theorem cyc_at (r : List Bool) {n : Int} (h0 : 0 ≤ n) (h1 : n < (r.length : Int)) : cyc r n = r.getD n.toNat false := by
  unfold cyc
  rw [Int.emod_eq_of_lt h0 h1]
theorem cyc_nat (r : List Bool) {i : Nat} (h1 : i < r.length) : cyc r (i : Int) = r.getD i false := by
  rw [cyc_at r (by omega) (by omega)]; rfl
theorem getD_at (r : List Bool) {i : Nat} (h : i < r.length) : r.getD i false = r[i] := by
  rw [List.getD_eq_getElem?_getD, List.getElem?_eq_getElem h]; rfl
/-- two rows of one length that say the same -/
theorem row_ext {r s : List Bool} (hl : r.length = s.length) (h : ∀ i, i < r.length → r.getD i false = s.getD i false) : r = s := by
  apply List.ext_getElem hl
  intro i h1 h2
  have := h i h1
  rw [getD_at r h1, getD_at s h2] at this
  exact this
theorem cyc_ext {r s : List Bool} (hl : r.length = s.length) (h : ∀ n, cyc r n = cyc s n) : r = s :=
  row_ext hl fun i hi => by
    rw [← cyc_nat r hi, ← cyc_nat s (by omega)]
    exact h i

/-! ### the least step of a row -/
theorem cyc_take {r : List Bool} {q : Nat} (h1 : 1 ≤ q) (h2 : q ≤ r.length) (hp : Per (cyc r) (q : Int)) (n : Int) : cyc (r.take q) n = cyc r n := by
  have hl : (r.take q).length = q := by rw [List.length_take]; omega
  have e0 : 0 ≤ n % (q : Int) := Int.emod_nonneg n (by omega)
  have e1 : n % (q : Int) < (q : Int) := Int.emod_lt_of_pos n (by omega)
  rw [hp.at_mod n, cyc_at r e0 (by omega)]
  unfold cyc
  rw [hl]
  rw [List.getD_eq_getElem?_getD, List.getD_eq_getElem?_getD, List.getElem?_take_of_lt (by omega)]
/-- what the package asks of a step -/
def StepOk (r : List Bool) (s : Nat) : Prop := r.length % s = 0 ∧ r.drop s = r.take (r.length - s)
theorem stepOk_all (r : List Bool) (_ : 1 ≤ r.length) : StepOk r r.length := ⟨Nat.mod_self _, by simp⟩
theorem stepOk_shift {r : List Bool} {s : Nat} (h : StepOk r s) {i : Nat} (hi : i + s < r.length) : r.getD (i + s) false = r.getD i false := by
  have e : (r.drop s).getD i false = (r.take (r.length - s)).getD i false := by rw [h.2]
  rw [List.getD_eq_getElem?_getD, List.getD_eq_getElem?_getD, List.getElem?_drop, List.getElem?_take_of_lt (by omega)] at e
  rw [List.getD_eq_getElem?_getD, List.getD_eq_getElem?_getD, Nat.add_comm i s]
  exact e
theorem stepOk_mod {r : List Bool} {s : Nat} (h : StepOk r s) (hs : 1 ≤ s) : ∀ i, i < r.length → r.getD i false = r.getD (i % s) false := by
  intro i
  induction i using Nat.strongRecOn with
  | ind i ih =>
    intro hi
    by_cases z : i < s
    · rw [Nat.mod_eq_of_lt z]
    · have e : i = (i - s) + s := by omega
      rw [e, stepOk_shift h (by omega), ih (i - s) (by omega) (by omega), Nat.add_mod_right]
theorem stepOk_per {r : List Bool} {s : Nat} (h : StepOk r s) (hs : 1 ≤ s) (hl : 1 ≤ r.length) : Per (cyc r) (s : Int) := by
  have key : ∀ n : Int, cyc r n = r.getD (n % (s : Int)).toNat false := fun n => by
    have e0 : 0 ≤ n % (r.length : Int) := Int.emod_nonneg n (by omega)
    have e1 : n % (r.length : Int) < (r.length : Int) := Int.emod_lt_of_pos n (by omega)
    unfold cyc
    rw [stepOk_mod h hs _ (by omega)]
    congr 1
    have d : (s : Int) ∣ (r.length : Int) := Int.natCast_dvd_natCast.mpr (Nat.dvd_of_mod_eq_zero h.1)
    have e2 : n % (r.length : Int) % (s : Int) = n % (s : Int) := Int.emod_emod_of_dvd n d
    have e3 : ((n % (r.length : Int)).toNat % s : Nat) = ((n % (r.length : Int)) % (s : Int)).toNat := by
      rw [Int.toNat_emod e0 (by omega)]; rfl
    rw [e3, e2]
  intro n
  rw [key n, key (n + s), Int.add_emod_right]
theorem stepOk_of_per {r : List Bool} {s : Nat} (d : r.length % s = 0) (hs : s ≤ r.length) (hp : Per (cyc r) (s : Int)) : StepOk r s := by
  refine ⟨d, ?_⟩
  apply List.ext_getElem
  · rw [List.length_drop, List.length_take]; omega
  · intro i h1 h2
    rw [List.length_drop] at h1
    have e := hp (i : Int)
    rw [cyc_nat r (by omega), show ((i : Int) + (s : Int)) = ((i + s : Nat) : Int) by omega, cyc_nat r (by omega), getD_at r (by omega), getD_at r (by omega)] at e
    rw [List.getElem_drop, List.getElem_take, e]
    congr 1; omega
/-- the package's loop: the first step that is right is the least period -/
theorem leastPer_of_first {r : List Bool} {s : Nat} (h1 : 1 ≤ s) (hl : 1 ≤ r.length) (hs : s ≤ r.length) (h : StepOk r s) (hn : ∀ t, 1 ≤ t → t < s → ¬ StepOk r t) : LeastPer (cyc r) (s : Int) := by
  refine ⟨by omega, stepOk_per h h1 hl, fun p hp1 hp2 hp => ?_⟩
  obtain ⟨q, hq, hle⟩ := LeastPer.ex p.toNat (by omega) (by rw [Int.toNat_of_nonneg (by omega)]; exact hp)
  have hq1 := hq.pos
  have hd : q ∣ (r.length : Int) := hq.dvd (cyc_per r)
  have hd2 : r.length % q.toNat = 0 := by
    have : (q.toNat : Int) ∣ (r.length : Int) := by rw [Int.toNat_of_nonneg (by omega)]; exact hd
    exact Nat.mod_eq_zero_of_dvd (Int.natCast_dvd_natCast.mp this)
  refine hn q.toNat (by omega) (by omega) (stepOk_of_per hd2 (by omega) ?_)
  rw [Int.toNat_of_nonneg (by omega)]
  exact hq.per
/-- what the law asks of a step -/
def StepLaw (r : List Bool) (s : Nat) : Prop := ∀ i, i < r.length → r.getD i false = r.getD ((i + s) % r.length) false
theorem stepLaw_iff {r : List Bool} {s : Nat} (hl : 1 ≤ r.length) : StepLaw r s ↔ Per (cyc r) (s : Int) := by
  constructor
  · intro h n
    have e0 : 0 ≤ n % (r.length : Int) := Int.emod_nonneg n (by omega)
    have e1 : n % (r.length : Int) < (r.length : Int) := Int.emod_lt_of_pos n (by omega)
    have k := h (n % (r.length : Int)).toNat (by omega)
    unfold cyc
    rw [k]
    congr 1
    have e2 : (n + (s : Int)) % (r.length : Int) = (n % (r.length : Int) + (s : Int)) % (r.length : Int) := by rw [Int.emod_add_emod]
    rw [e2]
    have e3 : n % (r.length : Int) = (((n % (r.length : Int)).toNat : Nat) : Int) := by omega
    generalize (n % (r.length : Int)).toNat = m at e3 ⊢
    rw [e3]
    norm_cast
  · intro h i hi
    have k := h (i : Int)
    rw [cyc_nat r hi] at k
    rw [k]
    unfold cyc
    congr 1
theorem stepLaw_all (r : List Bool) : StepLaw r r.length := fun i hi => by
  rw [Nat.add_mod_right, Nat.mod_eq_of_lt hi]
theorem leastPer_of_law {r : List Bool} {s : Nat} (h1 : 1 ≤ s) (hl : 1 ≤ r.length) (h : StepLaw r s) (hn : ∀ t, 1 ≤ t → t < s → ¬ StepLaw r t) : LeastPer (cyc r) (s : Int) := by
  refine ⟨by omega, (stepLaw_iff hl).mp h, fun p hp1 hp2 hp => hn p.toNat (by omega) (by omega) ((stepLaw_iff hl).mpr ?_)⟩
  rw [Int.toNat_of_nonneg (by omega)]
  exact hp
end KF
set_option Elab.async false
set_option maxHeartbeats 4000000
set_option linter.all false
namespace KF
/-! ### the one form -/
def Desc.ok (d : Desc) : Prop := d.below ≠ [] ∧ d.above ≠ []
theorem len_pos {α : Type} {r : List α} (h : r ≠ []) : 1 ≤ r.length := by
  cases r with
  | nil => exact absurd rfl h
  | cons a t => simp
theorem ne_nil_of {α : Type} {r : List α} (h : 1 ≤ r.length) : r ≠ [] := by
  intro e; rw [e] at h; simp at h
theorem Desc.fin_ge (d : Desc) : d.start ≤ d.fin := by unfold Desc.fin; omega
theorem mem_low {d : Desc} {n : Int} (h : n < d.start) : mem d n = cyc d.below (n - d.start) := by unfold mem; rw [if_pos h]
theorem mem_high {d : Desc} {n : Int} (h : d.fin ≤ n) : mem d n = cyc d.above (n - d.fin) := by
  have := d.fin_ge
  unfold mem; rw [if_neg (by omega), if_neg (by omega)]
theorem mem_mid {d : Desc} {i : Nat} (h : i < d.middle.length) : mem d (d.start + (i : Int)) = d.middle.getD i false := by
  unfold mem
  rw [if_neg (by omega), if_pos (by unfold Desc.fin; omega)]
  congr 1; omega
theorem mem_mid' {d : Desc} {n : Int} (h0 : d.start ≤ n) (h : n < d.fin) : mem d n = d.middle.getD (n - d.start).toNat false := by
  unfold mem
  rw [if_neg (by omega), if_pos h]
theorem mem_up (d : Desc) {n : Int} (h : d.fin ≤ n) : mem d n = mem d (n + (d.above.length : Int)) := by
  rw [mem_high h, mem_high (by omega), cyc_per d.above (n - d.fin)]
  congr 1; omega
theorem mem_dn (d : Desc) {n : Int} (h : n < d.start) : mem d n = mem d (n - (d.below.length : Int)) := by
  rw [mem_low h, mem_low (by omega), (cyc_per d.below).neg (n - d.start)]
  congr 1; omega

def Up (S : Int → Bool) (q : Int) : Prop := ∃ N : Int, ∀ n, N ≤ n → S n = S (n + q)
def Dn (S : Int → Bool) (p : Int) : Prop := ∃ N : Int, ∀ n, n < N → S n = S (n - p)
structure LeastUp (S : Int → Bool) (q : Int) : Prop where
  pos : 1 ≤ q
  per : Up S q
  min : ∀ p, 1 ≤ p → p < q → ¬ Up S p
structure LeastDn (S : Int → Bool) (q : Int) : Prop where
  pos : 1 ≤ q
  per : Dn S q
  min : ∀ p, 1 ≤ p → p < q → ¬ Dn S p
theorem LeastUp.uniq {f : Int → Bool} {q p : Int} (h : LeastUp f q) (k : LeastUp f p) : q = p := by
  rcases Int.lt_trichotomy q p with l | e | l
  · exact absurd h.per (k.min _ h.pos l)
  · exact e
  · exact absurd k.per (h.min _ k.pos l)
theorem LeastDn.uniq {f : Int → Bool} {q p : Int} (h : LeastDn f q) (k : LeastDn f p) : q = p := by
  rcases Int.lt_trichotomy q p with l | e | l
  · exact absurd h.per (k.min _ h.pos l)
  · exact e
  · exact absurd k.per (h.min _ k.pos l)

/-- d is the one form of the set S -/
structure IsForm (S : Int → Bool) (d : Desc) : Prop where
  ok : d.ok
  mem : ∀ n, mem d n = S n
  up : LeastUp S (d.above.length : Int)
  dn : LeastDn S (d.below.length : Int)
  form : (Per S (d.above.length : Int) ∧ d.start = 0 ∧ d.middle = [] ∧ d.below = d.above) ∨
    (¬ Per S (d.above.length : Int) ∧ (∀ e, (∀ n, e ≤ n → S n = S (n + (d.above.length : Int))) → d.fin ≤ e) ∧
      ∀ t, t ≤ d.fin → (∀ n, n < t → S n = S (n - (d.below.length : Int))) → t ≤ d.start)

theorem IsForm.congr {S T : Int → Bool} {d : Desc} (h : IsForm S d) (e : ∀ n, S n = T n) : IsForm T d := by
  have : S = T := funext e
  rw [← this]; exact h

/-- the one form is one -/
theorem IsForm.uniq {S : Int → Bool} {d e : Desc} (h : IsForm S d) (k : IsForm S e) : d = e := by
  have lu : d.above.length = e.above.length := by have := h.up.uniq k.up; omega
  have ld : d.below.length = e.below.length := by have := h.dn.uniq k.dn; omega
  rcases h.form with ⟨h1, h2, h3, h4⟩ | ⟨h1, h2, h3⟩
  · rcases k.form with ⟨k1, k2, k3, k4⟩ | ⟨k1, _⟩
    · have ha : d.above = e.above := row_ext lu fun i hi => by
        have a := h.mem (i : Int)
        have b := k.mem (i : Int)
        have f1 : d.fin = 0 := by unfold Desc.fin; rw [h2, h3]; simp
        have f2 : e.fin = 0 := by unfold Desc.fin; rw [k2, k3]; simp
        rw [mem_high (by omega), f1, Int.sub_zero, cyc_nat _ hi] at a
        rw [mem_high (by omega), f2, Int.sub_zero, cyc_nat _ (by omega)] at b
        rw [a, b]
      obtain ⟨a1, a2, a3, a4⟩ := d
      obtain ⟨b1, b2, b3, b4⟩ := e
      simp only at *
      subst h2 h3 h4 k2 k3 k4 ha
      rfl
    · rw [lu] at h1; exact absurd h1 k1
  · rcases k.form with ⟨k1, _⟩ | ⟨k1, k2, k3⟩
    · rw [← lu] at k1; exact absurd k1 h1
    · have hf : d.fin = e.fin := by
        have a := h2 e.fin fun n hn => by rw [← k.mem n, ← k.mem, mem_up e hn, lu]
        have b := k2 d.fin fun n hn => by rw [← h.mem n, ← h.mem, mem_up d hn, lu]
        omega
      have hs : d.start = e.start := by
        have a := h3 e.start (by rw [hf]; exact e.fin_ge) fun n hn => by rw [← k.mem n, ← k.mem, mem_dn e hn, ld]
        have b := k3 d.start (by rw [← hf]; exact d.fin_ge) fun n hn => by rw [← h.mem n, ← h.mem, mem_dn d hn, ld]
        omega
      have hm : d.middle.length = e.middle.length := by
        unfold Desc.fin at hf; omega
      have e1 : d.above = e.above := row_ext lu fun i hi => by
        have a := h.mem (d.fin + (i : Int))
        have b := k.mem (e.fin + (i : Int))
        rw [mem_high (by omega), show d.fin + (i : Int) - d.fin = (i : Int) by omega, cyc_nat _ hi] at a
        rw [mem_high (by omega), show e.fin + (i : Int) - e.fin = (i : Int) by omega, cyc_nat _ (by omega)] at b
        rw [a, b, hf]
      have e2 : d.below = e.below := row_ext ld fun i hi => by
        have a := h.mem (d.start - (d.below.length : Int) + (i : Int))
        have b := k.mem (e.start - (e.below.length : Int) + (i : Int))
        rw [mem_low (by omega), show d.start - (d.below.length : Int) + (i : Int) - d.start = (i : Int) + -(d.below.length : Int) by omega, ← (cyc_per d.below).neg (i : Int), cyc_nat _ hi] at a
        rw [mem_low (by omega), show e.start - (e.below.length : Int) + (i : Int) - e.start = (i : Int) + -(e.below.length : Int) by omega, ← (cyc_per e.below).neg (i : Int), cyc_nat _ (by omega)] at b
        rw [a, b, hs, ld]
      have e3 : d.middle = e.middle := row_ext hm fun i hi => by
        have a := h.mem (d.start + (i : Int))
        have b := k.mem (e.start + (i : Int))
        rw [mem_mid hi] at a
        rw [mem_mid (by omega)] at b
        rw [a, b, hs]
      obtain ⟨a1, a2, a3, a4⟩ := d
      obtain ⟨b1, b2, b3, b4⟩ := e
      simp only at *
      subst hs e1 e2 e3
      rfl

/-! ### steps from some number on -/
theorem Per.of_up {f : Int → Bool} {L s : Int} (hL : 1 ≤ L) (h : Per f L) {N : Int} (k : ∀ n, N ≤ n → f n = f (n + s)) : Per f s := fun n => by
  have hm := h.smul ((N - n).toNat : Int)
  have big : N ≤ n + L * ((N - n).toNat : Int) := by
    have : ((N - n).toNat : Int) ≤ L * ((N - n).toNat : Int) := by
      have := Int.mul_le_mul_of_nonneg_right hL (Int.natCast_nonneg (N - n).toNat)
      rw [Int.one_mul] at this; exact this
    omega
  rw [hm n, k _ big, hm (n + s)]
  congr 1; omega
theorem Per.of_dn {f : Int → Bool} {L s : Int} (hL : 1 ≤ L) (h : Per f L) {N : Int} (k : ∀ n, n < N → f n = f (n - s)) : Per f s := fun n => by
  have hm := (h.smul ((n + s - N + 1).toNat : Int)).neg
  have big : n + s - L * ((n + s - N + 1).toNat : Int) < N := by
    have : ((n + s - N + 1).toNat : Int) ≤ L * ((n + s - N + 1).toNat : Int) := by
      have := Int.mul_le_mul_of_nonneg_right hL (Int.natCast_nonneg (n + s - N + 1).toNat)
      rw [Int.one_mul] at this; exact this
    omega
  have e1 := hm n
  have e2 := hm (n + s)
  have e3 := k (n + s - L * ((n + s - N + 1).toNat : Int)) big
  rw [e1, e2]
  have a1 : n + s + -(L * ((n + s - N + 1).toNat : Int)) = n + s - L * ((n + s - N + 1).toNat : Int) := by omega
  have a2 : n + -(L * ((n + s - N + 1).toNat : Int)) = n + s - L * ((n + s - N + 1).toNat : Int) - s := by omega
  rw [a1, a2]
  exact e3.symm
theorem leastUp_of {S f : Int → Bool} {q E : Int} (h : LeastPer f q) (k : ∀ n, E ≤ n → S n = f (n - E)) : LeastUp S q := by
  have hp := h.pos
  refine ⟨h.pos, ⟨E, fun n hn => ?_⟩, fun p h1 h2 ⟨N, hN⟩ => h.min p h1 h2 ?_⟩
  · rw [k n hn, k _ (by omega), h.per (n - E)]
    congr 1; omega
  · refine Per.of_up hp h.per (N := max N E - E) fun n hn => ?_
    have e := hN (n + E) (by omega)
    rw [k _ (by omega), k _ (by omega)] at e
    rw [show n = n + E - E by omega, e]
    congr 1; omega
theorem leastDn_of {S f : Int → Bool} {q E : Int} (h : LeastPer f q) (k : ∀ n, n < E → S n = f (n - E)) : LeastDn S q := by
  have hp := h.pos
  refine ⟨h.pos, ⟨E, fun n hn => ?_⟩, fun p h1 h2 ⟨N, hN⟩ => h.min p h1 h2 ?_⟩
  · rw [k n hn, k _ (by omega), h.per.neg (n - E)]
    congr 1; omega
  · refine Per.of_dn hp h.per (N := min N E - E) fun n hn => ?_
    have e := hN (n + E) (by omega)
    rw [k _ (by omega), k _ (by omega)] at e
    rw [show n = n + E - E by omega, e]
    congr 1; omega
theorem leastUp_per {S : Int → Bool} {q : Int} (h : LeastPer S q) : LeastUp S q := leastUp_of (E := 0) h fun n _ => by rw [Int.sub_zero]
theorem leastDn_per {S : Int → Bool} {q : Int} (h : LeastPer S q) : LeastDn S q := leastDn_of (E := 0) h fun n _ => by rw [Int.sub_zero]
/-- of what a description says the steps are those of its rows -/
theorem up_of_row {d : Desc} {q : Int} (h : LeastPer (cyc d.above) q) : LeastUp (mem d) q := leastUp_of (E := d.fin) h fun n hn => mem_high hn
theorem dn_of_row {d : Desc} {q : Int} (h : LeastPer (cyc d.below) q) : LeastDn (mem d) q := leastDn_of (E := d.start) h fun n hn => mem_low hn

/-! ### rows from a function -/
def rowOf (S : Int → Bool) (a : Int) (n : Nat) : List Bool := (List.range n).map fun i : Nat => S (a + (i : Int))
theorem rowOf_len (S : Int → Bool) (a : Int) (n : Nat) : (rowOf S a n).length = n := by unfold rowOf; simp
theorem rowOf_get (S : Int → Bool) (a : Int) {n i : Nat} (h : i < n) : (rowOf S a n).getD i false = S (a + (i : Int)) := by
  unfold rowOf
  rw [List.getD_eq_getElem?_getD, List.getElem?_map, List.getElem?_range h]; rfl
theorem rowOf_cyc {S : Int → Bool} {a : Int} {n : Nat} (hn : 1 ≤ n) (m : Int) : cyc (rowOf S a n) m = S (a + m % (n : Int)) := by
  have e0 : 0 ≤ m % (n : Int) := Int.emod_nonneg m (by omega)
  have e1 : m % (n : Int) < (n : Int) := Int.emod_lt_of_pos m (by omega)
  unfold cyc
  rw [rowOf_len, rowOf_get S a (by omega)]
  congr 1; omega
/-- the description of a set from where it comes round and by which steps -/
def descr (S : Int → Bool) (start : Int) (low : Nat) (fin : Int) (high : Nat) : Desc :=
  ⟨start, rowOf S (start - (low : Int)) low, rowOf S start (fin - start).toNat, rowOf S fin high⟩
theorem descr_ok {S : Int → Bool} {start fin : Int} {low high : Nat} (h1 : 1 ≤ low) (h2 : 1 ≤ high) : (descr S start low fin high).ok :=
  ⟨ne_nil_of (by show 1 ≤ (rowOf S (start - (low : Int)) low).length; rw [rowOf_len]; exact h1), ne_nil_of (by show 1 ≤ (rowOf S fin high).length; rw [rowOf_len]; exact h2)⟩
theorem up_iter {S : Int → Bool} {q : Int} {E : Int} (hq : 1 ≤ q) (k : ∀ n, E ≤ n → S n = S (n + q)) : ∀ (j : Nat) (n : Int), E ≤ n → S n = S (n + q * (j : Int))
  | 0, n, _ => by simp
  | j + 1, n, hn => by
    rw [k n hn, up_iter hq k j (n + q) (by omega)]
    congr 1
    rw [Int.natCast_add, Int.mul_add]; simp; omega
theorem dn_iter {S : Int → Bool} {q : Int} {E : Int} (hq : 1 ≤ q) (k : ∀ n, n < E → S n = S (n - q)) : ∀ (j : Nat) (n : Int), n < E → S n = S (n - q * (j : Int))
  | 0, n, _ => by simp
  | j + 1, n, hn => by
    rw [k n hn, dn_iter hq k j (n - q) (by omega)]
    congr 1
    rw [Int.natCast_add, Int.mul_add]; simp; omega
theorem descr_fin {S : Int → Bool} {start fin : Int} {low high : Nat} (h : start ≤ fin) : (descr S start low fin high).fin = fin := by
  unfold Desc.fin descr
  simp only [rowOf_len]; omega
theorem descr_mem {S : Int → Bool} {start fin : Int} {low high : Nat} (h : start ≤ fin) (h1 : 1 ≤ low) (h2 : 1 ≤ high) (hd : ∀ n, n < start → S n = S (n - (low : Int))) (hu : ∀ n, fin ≤ n → S n = S (n + (high : Int))) (n : Int) :
    mem (descr S start low fin high) n = S n := by
  have ef := descr_fin (S := S) (low := low) (high := high) h
  by_cases z : n < start
  · rw [mem_low (d := descr S start low fin high) z]
    show cyc (rowOf S (start - (low : Int)) low) (n - start) = S n
    rw [rowOf_cyc h1]
    have e0 : 0 ≤ (n - start) % (low : Int) := Int.emod_nonneg _ (by omega)
    have e1 : (n - start) % (low : Int) < (low : Int) := Int.emod_lt_of_pos _ (by omega)
    have e2 := Int.emod_add_mul_ediv (n - start) (low : Int)
    have e3 : (n - start) / (low : Int) ≤ -1 := by
      have : (n - start) / (low : Int) < 0 := Int.ediv_neg_of_neg_of_pos (by omega) (by omega)
      omega
    have k := dn_iter (q := (low : Int)) (E := start) (by omega) hd ((-1 - (n - start) / (low : Int)).toNat) (start - (low : Int) + (n - start) % (low : Int)) (by omega)
    rw [k]
    congr 1
    rw [Int.toNat_of_nonneg (by omega), Int.mul_sub]
    omega
  · by_cases y : n < fin
    · rw [mem_mid' (d := descr S start low fin high) (by show start ≤ n; omega) (by rw [ef]; exact y)]
      show (rowOf S start (fin - start).toNat).getD (n - start).toNat false = S n
      rw [rowOf_get S start (by omega)]
      congr 1; omega
    · rw [mem_high (d := descr S start low fin high) (by rw [ef]; omega), ef]
      show cyc (rowOf S fin high) (n - fin) = S n
      rw [rowOf_cyc h2]
      have e0 : 0 ≤ (n - fin) % (high : Int) := Int.emod_nonneg _ (by omega)
      have e2 := Int.emod_add_mul_ediv (n - fin) (high : Int)
      have e3 : 0 ≤ (n - fin) / (high : Int) := Int.ediv_nonneg (by omega) (by omega)
      have k := up_iter (q := (high : Int)) (E := fin) (by omega) hu ((n - fin) / (high : Int)).toNat (fin + (n - fin) % (high : Int)) (by omega)
      rw [k]
      congr 1
      rw [Int.toNat_of_nonneg e3]
      omega
end KF
set_option Elab.async false
set_option maxHeartbeats 4000000
set_option linter.all false
namespace KF
/-! ### the package's one form -/
def rot (r : List Bool) (by_ : Int) : List Bool := r.drop (by_ % (r.length : Int)).toNat ++ r.take (by_ % (r.length : Int)).toNat
theorem rot_len (r : List Bool) (b : Int) : (rot r b).length = r.length := by
  unfold rot
  by_cases z : r = []
  · subst z; simp
  · have h0 := len_pos z
    have e0 : 0 ≤ b % (r.length : Int) := Int.emod_nonneg _ (by omega)
    have e1 : b % (r.length : Int) < (r.length : Int) := Int.emod_lt_of_pos _ (by omega)
    rw [List.length_append, List.length_drop, List.length_take]; omega
theorem rot_cyc {r : List Bool} (z : r ≠ []) (b n : Int) : cyc (rot r b) n = cyc r (n + b) := by
  have h0 := len_pos z
  have e0 : 0 ≤ b % (r.length : Int) := Int.emod_nonneg _ (by omega)
  have e1 : b % (r.length : Int) < (r.length : Int) := Int.emod_lt_of_pos _ (by omega)
  have f0 : 0 ≤ n % (r.length : Int) := Int.emod_nonneg _ (by omega)
  have f1 : n % (r.length : Int) < (r.length : Int) := Int.emod_lt_of_pos _ (by omega)
  have g : (n + b) % (r.length : Int) = (n % (r.length : Int) + b % (r.length : Int)) % (r.length : Int) := by rw [Int.add_emod]
  have hl := rot_len r b
  unfold cyc
  rw [hl, g]
  unfold rot
  generalize b % (r.length : Int) = c at e0 e1 ⊢
  generalize n % (r.length : Int) = m at f0 f1 ⊢
  rw [List.getD_eq_getElem?_getD, List.getD_eq_getElem?_getD]
  by_cases y : m + c < (r.length : Int)
  · rw [List.getElem?_append_left (by rw [List.length_drop]; omega), List.getElem?_drop, Int.emod_eq_of_lt (by omega) y]
    congr 2; omega
  · rw [List.getElem?_append_right (by rw [List.length_drop]; omega), List.length_drop, List.getElem?_take_of_lt (by omega)]
    have : (m + c) % (r.length : Int) = m + c - (r.length : Int) := by
      rw [← Int.sub_emod_right, Int.emod_eq_of_lt (by omega) (by omega)]
    rw [this]
    congr 2; omega
theorem rot_ne {r : List Bool} (z : r ≠ []) (b : Int) : rot r b ≠ [] := ne_nil_of (by rw [rot_len]; exact len_pos z)
theorem LeastPer.congr {f g : Int → Bool} {q : Int} (h : LeastPer f q) (e : ∀ n, f n = g n) : LeastPer g q := by
  have : f = g := funext e
  rw [← this]; exact h
theorem LeastPer.shift {f : Int → Bool} {q : Int} (h : LeastPer f q) (c : Int) : LeastPer (fun n => f (n + c)) q := by
  refine ⟨h.pos, fun n => ?_, fun p h1 h2 k => h.min p h1 h2 fun n => ?_⟩
  · show f (n + c) = f (n + q + c)
    rw [h.per (n + c)]; congr 1; omega
  · have e := k (n - c)
    have e' : f (n - c + c) = f (n - c + p + c) := e
    rw [show n - c + c = n by omega, show n - c + p + c = n + p by omega] at e'
    exact e'
/-- a description whose rows have their least lengths -/
structure Least (d : Desc) : Prop where
  lo : LeastPer (cyc d.below) (d.below.length : Int)
  hi : LeastPer (cyc d.above) (d.above.length : Int)
theorem Least.ok {d : Desc} (h : Least d) : d.ok := by
  have h1 := h.lo.pos
  have h2 := h.hi.pos
  exact ⟨ne_nil_of (by omega), ne_nil_of (by omega)⟩
/-- the rows cut to their least lengths -/
def cut (d : Desc) (p q : Nat) : Desc := ⟨d.start, d.below.take p, d.middle, d.above.take q⟩
theorem take_len {r : List Bool} {q : Nat} (h : q ≤ r.length) : (r.take q).length = q := by rw [List.length_take]; omega
theorem least_le {r : List Bool} {q : Int} (z : r ≠ []) (h : LeastPer (cyc r) q) : q ≤ (r.length : Int) :=
  Int.le_of_dvd (by have := len_pos z; omega) (h.dvd (cyc_per r))
theorem cut_mem {d : Desc} {p q : Nat} (ok : d.ok) (hp : LeastPer (cyc d.below) (p : Int)) (hq : LeastPer (cyc d.above) (q : Int)) (n : Int) : mem (cut d p q) n = mem d n := by
  have p1 := hp.pos
  have q1 := hq.pos
  have p2 := least_le ok.1 hp
  have q2 := least_le ok.2 hq
  unfold mem
  show (if n < d.start then cyc (d.below.take p) (n - d.start) else if n < d.fin then _ else cyc (d.above.take q) (n - d.fin)) = _
  rw [cyc_take (by omega) (by omega) hp.per, cyc_take (by omega) (by omega) hq.per]
  rfl
theorem cut_least {d : Desc} {p q : Nat} (ok : d.ok) (hp : LeastPer (cyc d.below) (p : Int)) (hq : LeastPer (cyc d.above) (q : Int)) : Least (cut d p q) := by
  have p1 := hp.pos
  have q1 := hq.pos
  have p2 := least_le ok.1 hp
  have q2 := least_le ok.2 hq
  constructor
  · show LeastPer (cyc (d.below.take p)) ((d.below.take p).length : Int)
    rw [take_len (by omega)]
    exact hp.congr fun n => (cyc_take (by omega) (by omega) hp.per n).symm
  · show LeastPer (cyc (d.above.take q)) ((d.above.take q).length : Int)
    rw [take_len (by omega)]
    exact hq.congr fun n => (cyc_take (by omega) (by omega) hq.per n).symm
/-- the word from the start on, if the set came round throughout -/
def word (d : Desc) : List Bool := rot d.above (-(d.middle.length : Int))
def Same (d : Desc) : Prop := d.below = word d ∧ ∀ i, i < d.middle.length → d.middle.getD i false = cyc (word d) (i : Int)
theorem word_cyc {d : Desc} (ok : d.ok) (n : Int) : cyc (word d) n = cyc d.above (n - (d.middle.length : Int)) := by
  unfold word; rw [rot_cyc ok.2]; congr 1
theorem same_mem {d : Desc} (ok : d.ok) (h : Same d) (n : Int) : mem d n = cyc (word d) (n - d.start) := by
  by_cases z : n < d.start
  · rw [mem_low z, h.1, ← h.1]
  · by_cases y : n < d.fin
    · rw [mem_mid' (by omega) y, h.2 _ (by unfold Desc.fin at y; omega)]
      congr 1; omega
    · rw [mem_high (by omega), word_cyc ok]
      congr 1; unfold Desc.fin; omega
/-- the form of a set that comes round throughout -/
theorem form_same {d : Desc} (l : Least d) (h : Same d) : IsForm (mem d) ⟨0, rot (word d) (-d.start), [], rot (word d) (-d.start)⟩ := by
  have ok := l.ok
  have wn : word d ≠ [] := rot_ne ok.2 _
  have wl : (word d).length = d.above.length := rot_len _ _
  have m : ∀ n, cyc (rot (word d) (-d.start)) n = mem d n := fun n => by
    rw [rot_cyc wn, same_mem ok h]; rfl
  have lp : LeastPer (mem d) (d.above.length : Int) := by
    refine ((l.hi.shift (-(d.middle.length : Int))).shift (-d.start)).congr fun n => ?_
    rw [same_mem ok h, word_cyc ok]
    rfl
  have el : (rot (word d) (-d.start)).length = d.above.length := by rw [rot_len, wl]
  refine ⟨⟨rot_ne wn _, rot_ne wn _⟩, fun n => ?_, ?_, ?_, .inl ⟨?_, rfl, rfl, rfl⟩⟩
  · rw [← m n]
    unfold mem Desc.fin
    simp only [List.length_nil]
    by_cases z : n < 0
    · rw [if_pos z, Int.sub_zero]
    · rw [if_neg z, if_neg (by omega)]
      congr 1; simp
  · show LeastUp _ ((rot (word d) (-d.start)).length : Int)
    rw [el]; exact leastUp_per lp
  · show LeastDn _ ((rot (word d) (-d.start)).length : Int)
    rw [el]; exact leastDn_per lp
  · show Per _ ((rot (word d) (-d.start)).length : Int)
    rw [el]; exact lp.per
/-- else it does not come round throughout -/
theorem not_same {d : Desc} (l : Least d) (h : ¬ Same d) : ¬ Per (mem d) (d.above.length : Int) := fun hp => by
  have ok := l.ok
  have hq := l.hi.pos
  have all : ∀ n, mem d n = cyc d.above (n - d.fin) := fun n => by
    have k := hp.smul ((d.fin - n).toNat : Int)
    have big : d.fin ≤ n + (d.above.length : Int) * ((d.fin - n).toNat : Int) := by
      have : ((d.fin - n).toNat : Int) ≤ (d.above.length : Int) * ((d.fin - n).toNat : Int) := by
        have := Int.mul_le_mul_of_nonneg_right hq (Int.natCast_nonneg (d.fin - n).toNat)
        rw [Int.one_mul] at this; exact this
      omega
    rw [k n, mem_high big, ((cyc_per d.above).smul ((d.fin - n).toNat : Int)) (n - d.fin)]
    congr 1; omega
  refine h ⟨?_, fun i hi => ?_⟩
  · have lp : LeastPer (cyc d.below) (d.above.length : Int) := by
      have e : ∀ n, cyc d.below n = cyc d.above (n - (d.middle.length : Int)) := fun n => by
        have k := (cyc_per d.below).smul (-((n + 1).toNat : Int)) n
        have hb := l.lo.pos
        have neg : n + (d.below.length : Int) * -((n + 1).toNat : Int) < 0 := by
          rw [Int.mul_neg]
          have : ((n + 1).toNat : Int) ≤ (d.below.length : Int) * ((n + 1).toNat : Int) := by
            have := Int.mul_le_mul_of_nonneg_right hb (Int.natCast_nonneg (n + 1).toNat)
            rw [Int.one_mul] at this; exact this
          omega
        have e1 : ∀ m, m < 0 → cyc d.below m = cyc d.above (m - (d.middle.length : Int)) := fun m hm => by
          have a := all (d.start + m)
          rw [mem_low (by omega), show d.start + m - d.start = m by omega] at a
          rw [a]; congr 1; unfold Desc.fin; omega
        -- both rows come round: go down by the product of the lengths
        have pb := (cyc_per d.below).smul (-((d.above.length : Int) * ((n + 1).toNat : Int))) n
        have pa := (cyc_per d.above).smul (-((d.below.length : Int) * ((n + 1).toNat : Int))) (n - (d.middle.length : Int))
        have big : ((n + 1).toNat : Int) ≤ (d.below.length : Int) * ((d.above.length : Int) * ((n + 1).toNat : Int)) := by
          have a1 : ((n + 1).toNat : Int) ≤ (d.above.length : Int) * ((n + 1).toNat : Int) := by
            have := Int.mul_le_mul_of_nonneg_right hq (Int.natCast_nonneg (n + 1).toNat)
            rw [Int.one_mul] at this; exact this
          have a2 : (d.above.length : Int) * ((n + 1).toNat : Int) ≤ (d.below.length : Int) * ((d.above.length : Int) * ((n + 1).toNat : Int)) := by
            have := Int.mul_le_mul_of_nonneg_right hb (show (0 : Int) ≤ (d.above.length : Int) * ((n + 1).toNat : Int) by omega)
            rw [Int.one_mul] at this; exact this
          omega
        have sw : (d.above.length : Int) * -((d.below.length : Int) * ((n + 1).toNat : Int)) = -((d.below.length : Int) * ((d.above.length : Int) * ((n + 1).toNat : Int))) := by
          rw [Int.mul_neg, Int.mul_left_comm]
        rw [pb, pa, sw, Int.mul_neg, e1 _ (by omega)]
        congr 1; omega
      exact (l.hi.shift (-(d.middle.length : Int))).congr fun n => (e n).symm
    have ll := lp.uniq l.lo
    refine cyc_ext (by unfold word; rw [rot_len]; omega) fun n => ?_
    have pb := (cyc_per d.below).smul (-((n + 1).toNat : Int)) n
    have hb := l.lo.pos
    rw [word_cyc ok]
    have pa := (cyc_per d.above).smul (-((n + 1).toNat : Int)) (n - (d.middle.length : Int))
    have big : ((n + 1).toNat : Int) ≤ (d.below.length : Int) * ((n + 1).toNat : Int) := by
      have := Int.mul_le_mul_of_nonneg_right hb (Int.natCast_nonneg (n + 1).toNat)
      rw [Int.one_mul] at this; exact this
    rw [pb, pa, ← ll]
    rw [← ll] at big
    rw [Int.mul_neg] at *
    have a := all (d.start + (n + -((d.above.length : Int) * ((n + 1).toNat : Int))))
    rw [mem_low (by omega)] at a
    rw [show n + -((d.above.length : Int) * ((n + 1).toNat : Int)) = d.start + (n + -((d.above.length : Int) * ((n + 1).toNat : Int))) - d.start by omega, a]
    congr 1; unfold Desc.fin; omega
  · have a := all (d.start + (i : Int))
    rw [mem_mid hi] at a
    rw [a, word_cyc ok]
    congr 1; unfold Desc.fin; omega
/-- the end goes down while the row above goes on -/
def Tail (d : Desc) (lower : Nat) : Prop := ∀ n, d.fin - (lower : Int) ≤ n → mem d n = cyc d.above (n - d.fin)
theorem tail_zero (d : Desc) : Tail d 0 := fun n hn => mem_high (by omega)
theorem tail_step {d : Desc} {j : Nat} (h : Tail d j) (e : mem d (d.fin - 1 - (j : Int)) = cyc d.above (-1 - (j : Int))) : Tail d (j + 1) := fun n hn => by
  by_cases z : d.fin - (j : Int) ≤ n
  · exact h n z
  · have : n = d.fin - 1 - (j : Int) := by omega
    rw [this, e]; congr 1; omega
/-- there is a last odd place: the loop ends -/
theorem odd_place {d : Desc} (l : Least d) (h : ¬ Per (mem d) (d.above.length : Int)) : ∃ b : Nat, ∀ j, Tail d j → j ≤ b := by
  have : ¬ ∀ n, mem d n = cyc d.above (n - d.fin) := fun k => h fun n => by
    rw [k n, k (n + _), cyc_per d.above (n - d.fin)]; congr 1; omega
  obtain ⟨n, hn⟩ := Classical.not_forall.mp this
  refine ⟨(d.fin - n).toNat, fun j hj => ?_⟩
  by_cases z : j ≤ (d.fin - n).toNat
  · exact z
  · exact absurd (hj n (by omega)) hn
/-- the least end -/
theorem fin_least {d : Desc} (l : Least d) {j : Nat} (h : Tail d j) (e : mem d (d.fin - 1 - (j : Int)) ≠ cyc d.above (-1 - (j : Int))) (x : Int) (hx : ∀ n, x ≤ n → mem d n = mem d (n + (d.above.length : Int))) : d.fin - (j : Int) ≤ x := by
  have hq := l.hi.pos
  by_cases z : d.fin - (j : Int) ≤ x
  · exact z
  · exfalso
    apply e
    rw [hx _ (by omega), h _ (by omega)]
    rw [cyc_per d.above (-1 - (j : Int))]
    congr 1; omega
/-- the form: the end lies at or below the start -/
theorem form_low {d : Desc} (l : Least d) (np : ¬ Per (mem d) (d.above.length : Int)) {j : Nat} (h : Tail d j) (e : mem d (d.fin - 1 - (j : Int)) ≠ cyc d.above (-1 - (j : Int))) (hj : d.middle.length ≤ j) :
    IsForm (mem d) ⟨d.start + ((d.middle.length : Int) - (j : Int)), rot d.below ((d.middle.length : Int) - (j : Int)), [], rot d.above (-(j : Int))⟩ := by
  have ok := l.ok
  have ef : (⟨d.start + ((d.middle.length : Int) - (j : Int)), rot d.below ((d.middle.length : Int) - (j : Int)), [], rot d.above (-(j : Int))⟩ : Desc).fin = d.fin - (j : Int) := by
    unfold Desc.fin; simp; omega
  refine ⟨⟨rot_ne ok.1 _, rot_ne ok.2 _⟩, fun n => ?_, ?_, ?_, .inr ⟨?_, fun x hx => ?_, fun t ht _ => ?_⟩⟩
  · by_cases z : n < d.start + ((d.middle.length : Int) - (j : Int))
    · rw [mem_low (by exact z), mem_low (by omega)]
      show cyc (rot d.below _) _ = _
      rw [rot_cyc ok.1]; congr 1
      show n - (d.start + ((d.middle.length : Int) - (j : Int))) + _ = _
      omega
    · have zf : d.fin - (j : Int) ≤ n := by unfold Desc.fin; omega
      rw [mem_high (by rw [ef]; exact zf), ef, h n zf]
      show cyc (rot d.above _) _ = _
      rw [rot_cyc ok.2]; congr 1; omega
  · show LeastUp _ ((rot d.above _).length : Int)
    rw [rot_len]; exact up_of_row l.hi
  · show LeastDn _ ((rot d.below _).length : Int)
    rw [rot_len]; exact dn_of_row l.lo
  · show ¬ Per _ ((rot d.above _).length : Int)
    rw [rot_len]; exact np
  · rw [ef]
    refine fin_least l h e x ?_
    have hx : ∀ n, x ≤ n → mem d n = mem d (n + ((rot d.above (-(j : Int))).length : Int)) := hx
    rw [rot_len] at hx; exact hx
  · rw [ef] at ht
    show t ≤ d.start + ((d.middle.length : Int) - (j : Int))
    unfold Desc.fin at ht; omega
/-- the start goes up while the row below goes on -/
def Head (d : Desc) (i : Nat) : Prop := ∀ n, n < d.start + (i : Int) → mem d n = cyc d.below (n - d.start)
theorem head_zero (d : Desc) : Head d 0 := fun n hn => mem_low (by omega)
theorem head_step {d : Desc} {i : Nat} (h : Head d i) (hi : i < d.middle.length) (e : d.middle.getD i false = cyc d.below (i : Int)) : Head d (i + 1) := fun n hn => by
  by_cases z : n < d.start + (i : Int)
  · exact h n z
  · have : n = d.start + (i : Int) := by omega
    rw [this, mem_mid hi, e]; congr 1; omega
theorem form_high {d : Desc} (l : Least d) (np : ¬ Per (mem d) (d.above.length : Int)) {j i : Nat} (h : Tail d j) (e : mem d (d.fin - 1 - (j : Int)) ≠ cyc d.above (-1 - (j : Int))) (hj : j < d.middle.length)
    (hi : i ≤ d.middle.length - j) (k : Head d i) (ke : i = d.middle.length - j ∨ d.middle.getD i false ≠ cyc d.below (i : Int)) :
    IsForm (mem d) ⟨d.start + (i : Int), rot d.below (i : Int), (d.middle.take (d.middle.length - j)).drop i, rot d.above (-(j : Int))⟩ := by
  have ok := l.ok
  have hb := l.lo.pos
  have ml : ((d.middle.take (d.middle.length - j)).drop i).length = d.middle.length - j - i := by rw [List.length_drop, List.length_take]; omega
  have ef : (⟨d.start + (i : Int), rot d.below (i : Int), (d.middle.take (d.middle.length - j)).drop i, rot d.above (-(j : Int))⟩ : Desc).fin = d.fin - (j : Int) := by
    unfold Desc.fin; simp only [ml]; omega
  refine ⟨⟨rot_ne ok.1 _, rot_ne ok.2 _⟩, fun n => ?_, ?_, ?_, .inr ⟨?_, fun x hx => ?_, fun t ht hx => ?_⟩⟩
  · by_cases z : n < d.start + (i : Int)
    · rw [mem_low (by exact z), k n z]
      show cyc (rot d.below _) _ = _
      rw [rot_cyc ok.1]; congr 1
      show n - (d.start + (i : Int)) + _ = _
      omega
    · by_cases zf : d.fin - (j : Int) ≤ n
      · rw [mem_high (by rw [ef]; exact zf), ef, h n zf]
        show cyc (rot d.above _) _ = _
        rw [rot_cyc ok.2]; congr 1; omega
      · rw [mem_mid' (by show d.start + (i : Int) ≤ n; omega) (by rw [ef]; omega), mem_mid' (d := d) (by omega) (by omega)]
        show ((d.middle.take (d.middle.length - j)).drop i).getD (n - (d.start + (i : Int))).toNat false = _
        have hn2 : n < d.start + (d.middle.length : Int) - (j : Int) := by unfold Desc.fin at zf; omega
        rw [List.getD_eq_getElem?_getD, List.getD_eq_getElem?_getD, List.getElem?_drop, List.getElem?_take_of_lt (by omega)]
        congr 2; omega
  · show LeastUp _ ((rot d.above _).length : Int)
    rw [rot_len]; exact up_of_row l.hi
  · show LeastDn _ ((rot d.below _).length : Int)
    rw [rot_len]; exact dn_of_row l.lo
  · show ¬ Per _ ((rot d.above _).length : Int)
    rw [rot_len]; exact np
  · rw [ef]
    refine fin_least l h e x ?_
    have hx : ∀ n, x ≤ n → mem d n = mem d (n + ((rot d.above (-(j : Int))).length : Int)) := hx
    rw [rot_len] at hx; exact hx
  · rw [ef] at ht
    have hx : ∀ n, n < t → mem d n = mem d (n - ((rot d.below (i : Int)).length : Int)) := hx
    rw [rot_len] at hx
    show t ≤ d.start + (i : Int)
    by_cases z : t ≤ d.start + (i : Int)
    · exact z
    · exfalso
      rcases ke with ke | ke
      · unfold Desc.fin at ht; omega
      · apply ke
        have hi2 : i < d.middle.length := by unfold Desc.fin at ht; omega
        rw [← mem_mid hi2, hx _ (by omega), k _ (by omega), (cyc_per d.below).neg (i : Int)]
        congr 1; omega

/-! ### the law's form -/
/-- what the law looks at tells whether the set comes round throughout -/
theorem law_thru {d : Desc} (ok : d.ok) {q : Int} (hq : 1 ≤ q) (h : ∀ n, d.start - q - (d.below.length : Int) ≤ n → n < d.fin → mem d n = mem d (n + q)) (hu : ∀ n, d.fin ≤ n → mem d n = mem d (n + q)) : Per (mem d) q := fun n => by
  have hb := len_pos ok.1
  by_cases z : d.start - q - (d.below.length : Int) ≤ n
  · by_cases y : n < d.fin
    · exact h n z y
    · exact hu n (by omega)
  · -- go up by steps of the row below into the range that is looked at
    have key : ∀ (k : Nat) (n : Int), n < d.start - q → d.start - q - (d.below.length : Int) * ((k : Int) + 1) ≤ n → mem d n = mem d (n + q) := by
      intro k
      induction k with
      | zero => intro n h1 h2; exact h n (by rw [show (d.below.length : Int) * (((0 : Nat) : Int) + 1) = (d.below.length : Int) by simp] at h2; exact h2) (by have := d.fin_ge; omega)
      | succ k ih =>
        intro n h1 h2
        by_cases y : d.start - q - (d.below.length : Int) ≤ n
        · exact h n y (by have := d.fin_ge; omega)
        · have a := mem_dn d (n := n + (d.below.length : Int)) (by omega)
          have b := mem_dn d (n := n + q + (d.below.length : Int)) (by omega)
          rw [show n + (d.below.length : Int) - (d.below.length : Int) = n by omega] at a
          rw [show n + q + (d.below.length : Int) - (d.below.length : Int) = n + q by omega] at b
          rw [← a, ← b, ih (n + (d.below.length : Int)) (by omega) (by
            have e : (d.below.length : Int) * (((k + 1 : Nat) : Int) + 1) = (d.below.length : Int) * ((k : Int) + 1) + (d.below.length : Int) := by
              rw [Int.natCast_add, Int.mul_add, Int.mul_add, Int.mul_add]; simp
            omega)]
          congr 1; omega
    have t : ((d.start - q - n).toNat : Int) ≤ (d.below.length : Int) * ((d.start - q - n).toNat : Int) := by
      have := Int.mul_le_mul_of_nonneg_right (show (1 : Int) ≤ (d.below.length : Int) by omega) (Int.natCast_nonneg (d.start - q - n).toNat)
      rw [Int.one_mul] at this; exact this
    exact key (d.start - q - n).toNat n (by omega) (by rw [Int.mul_add]; omega)
theorem law_form_thru {d : Desc} (ok : d.ok) {q : Nat} (hq : LeastPer (cyc d.above) (q : Int)) (hp : Per (mem d) (q : Int)) : IsForm (mem d) ⟨0, rowOf (mem d) 0 q, [], rowOf (mem d) 0 q⟩ := by
  have h1 := hq.pos
  have lp : LeastPer (mem d) (q : Int) := by
    have e : ∀ n, mem d n = cyc d.above (n - d.fin) := fun n => by
      have k := hp.smul ((d.fin - n).toNat : Int)
      have big : d.fin ≤ n + (q : Int) * ((d.fin - n).toNat : Int) := by
        have : ((d.fin - n).toNat : Int) ≤ (q : Int) * ((d.fin - n).toNat : Int) := by
          have := Int.mul_le_mul_of_nonneg_right h1 (Int.natCast_nonneg (d.fin - n).toNat)
          rw [Int.one_mul] at this; exact this
        omega
      rw [k n, mem_high big, (hq.per.smul ((d.fin - n).toNat : Int)) (n - d.fin)]
      congr 1; omega
    exact (hq.shift (-d.fin)).congr fun n => (e n).symm
  have m : ∀ n, cyc (rowOf (mem d) 0 q) n = mem d n := fun n => by
    rw [rowOf_cyc (by omega), Int.zero_add]
    exact (hp.at_mod n).symm
  have rn : rowOf (mem d) 0 q ≠ [] := ne_nil_of (by rw [rowOf_len]; omega)
  refine ⟨⟨rn, rn⟩, fun n => ?_, ?_, ?_, .inl ⟨?_, rfl, rfl, rfl⟩⟩
  · rw [← m n]
    unfold mem Desc.fin
    simp only [List.length_nil]
    by_cases z : n < 0
    · rw [if_pos z, Int.sub_zero]
    · rw [if_neg z, if_neg (by omega)]
      congr 1; simp
  · show LeastUp _ ((rowOf (mem d) 0 q).length : Int)
    rw [rowOf_len]; exact leastUp_per lp
  · show LeastDn _ ((rowOf (mem d) 0 q).length : Int)
    rw [rowOf_len]; exact leastDn_per lp
  · show Per _ ((rowOf (mem d) 0 q).length : Int)
    rw [rowOf_len]; exact hp
theorem law_form_else {d : Desc} (ok : d.ok) {p q : Nat} (hp : LeastPer (cyc d.below) (p : Int)) (hq : LeastPer (cyc d.above) (q : Int)) (np : ¬ Per (mem d) (q : Int)) {s e : Int} (he : ∀ n, e ≤ n → mem d n = mem d (n + (q : Int)))
    (he1 : mem d (e - 1) ≠ mem d (e - 1 + (q : Int))) (hs : s ≤ e) (hd : ∀ n, n < s → mem d n = mem d (n - (p : Int))) (hs1 : s = e ∨ mem d s ≠ mem d (s - (p : Int))) : IsForm (mem d) (descr (mem d) s p e q) := by
  have p1 := hp.pos
  have q1 := hq.pos
  have mm := descr_mem (S := mem d) hs (low := p) (high := q) (by omega) (by omega) hd he
  have ef := descr_fin (S := mem d) (low := p) (high := q) hs
  refine ⟨descr_ok (by omega) (by omega), mm, ?_, ?_, .inr ⟨?_, fun x hx => ?_, fun t ht hx => ?_⟩⟩
  · show LeastUp _ ((rowOf (mem d) e q).length : Int)
    rw [rowOf_len]; exact up_of_row hq
  · show LeastDn _ ((rowOf (mem d) _ p).length : Int)
    rw [rowOf_len]; exact dn_of_row hp
  · show ¬ Per _ ((rowOf (mem d) e q).length : Int)
    rw [rowOf_len]; exact np
  · rw [ef]
    have hx : ∀ n, x ≤ n → mem d n = mem d (n + ((rowOf (mem d) e q).length : Int)) := hx
    rw [rowOf_len] at hx
    by_cases z : e ≤ x
    · exact z
    · exact absurd (hx (e - 1) (by omega)) he1
  · rw [ef] at ht
    have hx : ∀ n, n < t → mem d n = mem d (n - ((rowOf (mem d) (s - (p : Int)) p).length : Int)) := hx
    rw [rowOf_len] at hx
    show t ≤ s
    by_cases z : t ≤ s
    · exact z
    · rcases hs1 with h | h
      · omega
      · exact absurd (hx s (by omega)) h
end KF
set_option Elab.async false
set_option maxHeartbeats 4000000
set_option linter.all false
namespace KF
/-! ### signs of descriptions -/
theorem cyc_get (r : List Bool) (z : r ≠ []) (n : Int) : ∃ i, i < r.length ∧ (i : Int) = n % (r.length : Int) ∧ cyc r n = r.getD i false := by
  have h0 := len_pos z
  have e0 : 0 ≤ n % (r.length : Int) := Int.emod_nonneg _ (by omega)
  have e1 : n % (r.length : Int) < (r.length : Int) := Int.emod_lt_of_pos _ (by omega)
  exact ⟨(n % (r.length : Int)).toNat, by omega, by omega, rfl⟩
theorem getD_not (r : List Bool) {i : Nat} (h : i < r.length) : (r.map (!·)).getD i false = !r.getD i false := by
  rw [getD_at _ (by rw [List.length_map]; exact h), getD_at _ h, List.getElem_map]
theorem cyc_not {r : List Bool} (z : r ≠ []) (n : Int) : cyc (r.map (!·)) n = !cyc r n := by
  obtain ⟨i, h1, h2, h3⟩ := cyc_get r z n
  rw [h3, ← getD_not r h1]
  unfold cyc
  rw [List.length_map, ← h2]; rfl
def flip (d : Desc) : Desc := ⟨d.start, d.below.map (!·), d.middle.map (!·), d.above.map (!·)⟩
theorem flip_ok {d : Desc} (ok : d.ok) : (flip d).ok := ⟨fun e => ok.1 (List.map_eq_nil_iff.mp e), fun e => ok.2 (List.map_eq_nil_iff.mp e)⟩
theorem flip_fin (d : Desc) : (flip d).fin = d.fin := by unfold Desc.fin flip; simp
theorem flip_mem {d : Desc} (ok : d.ok) (n : Int) : mem (flip d) n = !mem d n := by
  by_cases z : n < d.start
  · rw [mem_low (d := flip d) z, mem_low z]; exact cyc_not ok.1 _
  · by_cases y : n < d.fin
    · rw [mem_mid' (d := flip d) (by show d.start ≤ n; omega) (by rw [flip_fin]; exact y), mem_mid' (by omega) y]
      show (d.middle.map (!·)).getD (n - d.start).toNat false = !d.middle.getD (n - d.start).toNat false
      exact getD_not d.middle (by unfold Desc.fin at y; omega)
    · rw [mem_high (d := flip d) (by rw [flip_fin]; omega), mem_high (by omega), flip_fin]
      exact cyc_not ok.2 _
theorem getD_rev (r : List Bool) {i : Nat} (h : i < r.length) : r.reverse.getD i false = r.getD (r.length - 1 - i) false := by
  rw [getD_at _ (by rw [List.length_reverse]; exact h), getD_at _ (by omega), List.getElem_reverse]
theorem cyc_rev {r : List Bool} (z : r ≠ []) (n : Int) : cyc r.reverse n = cyc r (-1 - n) := by
  have h0 := len_pos z
  have z' : r.reverse ≠ [] := fun e => z (List.reverse_eq_nil_iff.mp e)
  obtain ⟨i, h1, h2, h3⟩ := cyc_get r.reverse z' n
  rw [List.length_reverse] at h1 h2
  rw [h3, getD_rev r h1]
  unfold cyc
  congr 1
  have e : (-1 - n) % (r.length : Int) = (r.length : Int) - 1 - (i : Int) := by
    have a := Int.emod_add_mul_ediv n (r.length : Int)
    rw [← h2] at a
    have b : -1 - n = ((r.length : Int) - 1 - (i : Int)) + (r.length : Int) * (-(n / (r.length : Int)) - 1) := by
      rw [Int.mul_sub, Int.mul_neg]; omega
    rw [b, Int.add_mul_emod_self_left, Int.emod_eq_of_lt (by omega) (by omega)]
  rw [e]; omega
def mirror (d : Desc) : Desc := ⟨1 - d.fin, d.above.reverse, d.middle.reverse, d.below.reverse⟩
theorem mirror_ok {d : Desc} (ok : d.ok) : (mirror d).ok := ⟨fun e => ok.2 (List.reverse_eq_nil_iff.mp e), fun e => ok.1 (List.reverse_eq_nil_iff.mp e)⟩
theorem mirror_fin (d : Desc) : (mirror d).fin = 1 - d.start := by unfold mirror Desc.fin; simp; omega
theorem mirror_mem {d : Desc} (ok : d.ok) (n : Int) : mem (mirror d) n = mem d (-n) := by
  by_cases z : n < 1 - d.fin
  · rw [mem_low (d := mirror d) z, mem_high (d := d) (by omega)]
    show cyc d.above.reverse (n - (1 - d.fin)) = _
    rw [cyc_rev ok.2]; congr 1; omega
  · by_cases y : n < 1 - d.start
    · rw [mem_mid' (d := mirror d) (by show 1 - d.fin ≤ n; omega) (by rw [mirror_fin]; exact y), mem_mid' (d := d) (by omega) (by omega)]
      show d.middle.reverse.getD (n - (1 - d.fin)).toNat false = _
      rw [getD_rev d.middle (by unfold Desc.fin at *; omega)]
      congr 1; unfold Desc.fin at *; omega
    · rw [mem_high (d := mirror d) (by rw [mirror_fin]; omega), mirror_fin, mem_low (d := d) (by omega)]
      show cyc d.below.reverse _ = _
      rw [cyc_rev ok.1]; congr 1; omega
/-! ### two sets by a table -/
abbrev Tab := Bool → Bool → Bool
def both (g : Tab) (S T : Int → Bool) : Int → Bool := fun n => g (S n) (T n)
theorem dn_dvd {S : Int → Bool} {E q p : Int} (hq : 1 ≤ q) (hp : 0 ≤ p) (d : q ∣ p) (h : ∀ n, n < E → S n = S (n - q)) (n : Int) (hn : n < E) : S n = S (n - p) := by
  obtain ⟨k, e⟩ := d
  have hk : 0 ≤ k := by
    rcases Int.le_total 0 k with z | z
    · exact z
    · rcases Int.lt_or_eq_of_le z with y | y
      · have := Int.mul_neg_of_pos_of_neg (show (0 : Int) < q by omega) y
        omega
      · omega
  have := dn_iter hq h k.toNat n hn
  rw [Int.toNat_of_nonneg hk, ← e] at this
  exact this
theorem up_dvd {S : Int → Bool} {E q p : Int} (hq : 1 ≤ q) (hp : 0 ≤ p) (d : q ∣ p) (h : ∀ n, E ≤ n → S n = S (n + q)) (n : Int) (hn : E ≤ n) : S n = S (n + p) := by
  obtain ⟨k, e⟩ := d
  have hk : 0 ≤ k := by
    rcases Int.le_total 0 k with z | z
    · exact z
    · rcases Int.lt_or_eq_of_le z with y | y
      · have := Int.mul_neg_of_pos_of_neg (show (0 : Int) < q by omega) y
        omega
      · omega
  have := up_iter hq h k.toNat n hn
  rw [Int.toNat_of_nonneg hk, ← e] at this
  exact this
/-- d tells S below a number and from a number on -/
structure Tells (d : Desc) (s e : Int) : Prop where
  lo : ∀ n, n < s → mem d n = mem d (n - (d.below.length : Int))
  hi : ∀ n, e ≤ n → mem d n = mem d (n + (d.above.length : Int))
theorem Tells.self (d : Desc) {s e : Int} (h1 : s ≤ d.start) (h2 : d.fin ≤ e) : Tells d s e := ⟨fun n hn => mem_dn d (by omega), fun n hn => mem_up d (by omega)⟩
/-- a form that comes round throughout -/
def Thr (d : Desc) : Prop := d.start = 0 ∧ d.middle = [] ∧ d.below = d.above
instance (d : Desc) : Decidable (Thr d) := by unfold Thr; exact inferInstance
theorem Thr.fin {d : Desc} (h : Thr d) : d.fin = 0 := by unfold Desc.fin; rw [h.1, h.2.1]; simp
theorem Thr.mem {d : Desc} (h : Thr d) (n : Int) : mem d n = cyc d.above n := by
  by_cases z : n < 0
  · rw [mem_low (by rw [h.1]; exact z), h.1, Int.sub_zero, h.2.2]
  · rw [mem_high (by rw [h.fin]; omega), h.fin, Int.sub_zero]
theorem Thr.tells {d : Desc} (h : Thr d) (s e : Int) : Tells d s e :=
  ⟨fun n _ => by rw [h.mem, h.mem, h.2.2]; exact (cyc_per d.above).neg n, fun n _ => by rw [h.mem, h.mem]; exact cyc_per d.above n⟩
theorem joined_mem {d e : Desc} (ok : d.ok) (ok' : e.ok) (g : Tab) {s f : Int} (hs : s ≤ f) (td : Tells d s f) (te : Tells e s f) {lo hi : Nat} (l1 : 1 ≤ lo) (h1 : 1 ≤ hi) (ld : d.below.length ∣ lo) (le : e.below.length ∣ lo) (hd : d.above.length ∣ hi) (he : e.above.length ∣ hi) (n : Int) :
    mem (descr (both g (mem d) (mem e)) s lo f hi) n = both g (mem d) (mem e) n := by
  have b1 := len_pos ok.1
  have b2 := len_pos ok'.1
  have a1 := len_pos ok.2
  have a2 := len_pos ok'.2
  refine descr_mem hs l1 h1 (fun n hn => ?_) (fun n hn => ?_) n
  · unfold both
    rw [← dn_dvd (by omega) (by omega) (Int.natCast_dvd_natCast.mpr ld) td.lo n hn, ← dn_dvd (by omega) (by omega) (Int.natCast_dvd_natCast.mpr le) te.lo n hn]
  · unfold both
    rw [← up_dvd (by omega) (by omega) (Int.natCast_dvd_natCast.mpr hd) td.hi n hn, ← up_dvd (by omega) (by omega) (Int.natCast_dvd_natCast.mpr he) te.hi n hn]
/-- the law's description of two sets by a table -/
def joinD (g : Tab) (d e : Desc) : Desc := descr (both g (mem d) (mem e)) (min d.start e.start) (d.below.length * e.below.length) (max d.fin e.fin) (d.above.length * e.above.length)
theorem mul_pos' {a b : Nat} (h : 1 ≤ a) (k : 1 ≤ b) : 1 ≤ a * b := Nat.mul_pos h k
theorem joinD_ok {g : Tab} {d e : Desc} (ok : d.ok) (ok' : e.ok) : (joinD g d e).ok := descr_ok (mul_pos' (len_pos ok.1) (len_pos ok'.1)) (mul_pos' (len_pos ok.2) (len_pos ok'.2))
theorem joinD_mem {g : Tab} {d e : Desc} (ok : d.ok) (ok' : e.ok) (n : Int) : mem (joinD g d e) n = g (mem d n) (mem e n) := by
  have h1 := d.fin_ge
  have h2 := e.fin_ge
  exact joined_mem ok ok' g (s := min d.start e.start) (f := max d.fin e.fin) (by omega) (Tells.self d (by omega) (by omega)) (Tells.self e (by omega) (by omega)) (mul_pos' (len_pos ok.1) (len_pos ok'.1)) (mul_pos' (len_pos ok.2) (len_pos ok'.2))
    (Nat.dvd_mul_right _ _) (Nat.dvd_mul_left _ _) (Nat.dvd_mul_right _ _) (Nat.dvd_mul_left _ _) n
/-- the package's bounds of two sets -/
def jb (d e : Desc) : Int × Int := if Thr d then (e.start, e.fin) else if Thr e then (d.start, d.fin) else (min d.start e.start, max d.fin e.fin)
theorem jb_le (d e : Desc) : (jb d e).1 ≤ (jb d e).2 := by
  have h1 := d.fin_ge
  have h2 := e.fin_ge
  unfold jb
  split
  · exact h2
  · split
    · exact h1
    · show min d.start e.start ≤ max d.fin e.fin; omega
theorem jb_tells (d e : Desc) : Tells d (jb d e).1 (jb d e).2 ∧ Tells e (jb d e).1 (jb d e).2 := by
  unfold jb
  split
  · rename_i h
    exact ⟨h.tells _ _, Tells.self e (Int.le_refl _) (Int.le_refl _)⟩
  · split
    · rename_i h
      exact ⟨Tells.self d (Int.le_refl _) (Int.le_refl _), h.tells _ _⟩
    · exact ⟨Tells.self d (by show min d.start e.start ≤ _; omega) (by show _ ≤ max d.fin e.fin; omega), Tells.self e (by show min d.start e.start ≤ _; omega) (by show _ ≤ max d.fin e.fin; omega)⟩
theorem combD_mem {g : Tab} {d e : Desc} (ok : d.ok) (ok' : e.ok) {lo hi : Nat} (l1 : 1 ≤ lo) (h1 : 1 ≤ hi) (ld : d.below.length ∣ lo) (le : e.below.length ∣ lo) (hd : d.above.length ∣ hi) (he : e.above.length ∣ hi) (n : Int) :
    mem (descr (both g (mem d) (mem e)) (jb d e).1 lo (jb d e).2 hi) n = g (mem d n) (mem e n) :=
  joined_mem ok ok' g (jb_le d e) (jb_tells d e).1 (jb_tells d e).2 l1 h1 ld le hd he n
/-- borders farther out, rows lengthened -/
theorem stretch_mem {d : Desc} (ok : d.ok) {s f : Int} (h1 : s ≤ d.start) (h2 : d.fin ≤ f) {i j : Nat} (hi : 1 ≤ i) (hj : 1 ≤ j) (n : Int) : mem (descr (mem d) s (d.below.length * i) f (d.above.length * j)) n = mem d n := by
  have h3 := d.fin_ge
  have t := Tells.self d h1 h2
  have b1 := len_pos ok.1
  have a1 := len_pos ok.2
  refine descr_mem (by omega) (mul_pos' b1 hi) (mul_pos' a1 hj) (fun n hn => ?_) (fun n hn => ?_) n
  · exact dn_dvd (by omega) (by omega) (Int.natCast_dvd_natCast.mpr (Nat.dvd_mul_right _ _)) t.lo n hn
  · exact up_dvd (by omega) (by omega) (Int.natCast_dvd_natCast.mpr (Nat.dvd_mul_right _ _)) t.hi n hn
/-! ### is there a member -/
def anyT (d : Desc) : Bool := d.below.any id || d.middle.any id || d.above.any id
theorem any_row {r : List Bool} : r.any id = true ↔ ∃ i, i < r.length ∧ r.getD i false = true := by
  rw [List.any_eq_true]
  constructor
  · rintro ⟨x, hx, e⟩
    obtain ⟨i, hi, e2⟩ := List.getElem_of_mem hx
    exact ⟨i, hi, by rw [getD_at r hi, e2]; exact e⟩
  · rintro ⟨i, hi, e⟩
    rw [getD_at r hi] at e
    exact ⟨r[i], List.getElem_mem hi, e⟩
theorem anyT_iff {d : Desc} (ok : d.ok) : anyT d = true ↔ ∃ n, mem d n = true := by
  unfold anyT
  rw [Bool.or_eq_true, Bool.or_eq_true, any_row, any_row, any_row]
  constructor
  · rintro ((⟨i, hi, e⟩ | ⟨i, hi, e⟩) | ⟨i, hi, e⟩)
    · refine ⟨d.start + ((i : Int) + -(d.below.length : Int)), ?_⟩
      rw [mem_low (by omega), ← e, ← cyc_nat d.below hi, (cyc_per d.below).neg (i : Int)]
      congr 1; omega
    · exact ⟨d.start + (i : Int), by rw [mem_mid hi]; exact e⟩
    · refine ⟨d.fin + (i : Int), ?_⟩
      rw [mem_high (by omega), ← e, ← cyc_nat d.above hi]
      congr 1; omega
  · rintro ⟨n, e⟩
    by_cases z : n < d.start
    · rw [mem_low z] at e
      obtain ⟨i, h1, _, h3⟩ := cyc_get d.below ok.1 (n - d.start)
      exact .inl (.inl ⟨i, h1, by rw [← h3]; exact e⟩)
    · by_cases y : n < d.fin
      · rw [mem_mid' (by omega) y] at e
        exact .inl (.inr ⟨_, by unfold Desc.fin at y; omega, e⟩)
      · rw [mem_high (by omega)] at e
        obtain ⟨i, h1, _, h3⟩ := cyc_get d.above ok.2 (n - d.fin)
        exact .inr ⟨i, h1, by rw [← h3]; exact e⟩
theorem anyT_congr {d e : Desc} (ok : d.ok) (ok' : e.ok) (h : ∀ n, mem d n = mem e n) : anyT d = anyT e := by
  rw [Bool.eq_iff_iff, anyT_iff ok, anyT_iff ok']
  constructor
  · rintro ⟨n, q⟩; exact ⟨n, by rw [← h]; exact q⟩
  · rintro ⟨n, q⟩; exact ⟨n, by rw [h]; exact q⟩
/-! ### sizes -/
theorem IsForm.sizes {S : Int → Bool} {d t : Desc} (h : IsForm S d) (ok : t.ok) (ht : ∀ n, KF.mem t n = S n) :
    d.below.length ≤ t.below.length ∧ d.above.length ≤ t.above.length ∧ d.middle.length ≤ t.middle.length ∧ (Thr d ∨ (t.start - (t.above.length : Int) - (t.below.length : Int) ≤ d.start ∧ d.fin ≤ t.fin)) := by
  have tb := len_pos ok.1
  have ta := len_pos ok.2
  have up := h.up.pos
  have dp := h.dn.pos
  have hb : d.below.length ≤ t.below.length := by
    by_cases z : d.below.length ≤ t.below.length
    · exact z
    · exact absurd ⟨t.start, fun n hn => by rw [← ht, ← ht]; exact mem_dn t hn⟩ (h.dn.min (t.below.length : Int) (by omega) (by omega))
  have ha : d.above.length ≤ t.above.length := by
    by_cases z : d.above.length ≤ t.above.length
    · exact z
    · exact absurd ⟨t.fin, fun n hn => by rw [← ht, ← ht]; exact mem_up t hn⟩ (h.up.min (t.above.length : Int) (by omega) (by omega))
  -- the steps of the form hold where the description comes round
  have su : ∀ n, t.fin ≤ n → KF.mem t n = KF.mem t (n + (d.above.length : Int)) := by
    have f : ∀ n, t.fin ≤ n → KF.mem t n = cyc t.above (n - t.fin) := fun n hn => mem_high hn
    obtain ⟨N, hN⟩ := h.up.per
    have p : Per (cyc t.above) (d.above.length : Int) := Per.of_up (by omega) (cyc_per t.above) (N := max N t.fin - t.fin) fun n hn => by
      have e := hN (n + t.fin) (by omega)
      rw [← ht, ← ht, f _ (by omega), f _ (by omega)] at e
      rw [show n = n + t.fin - t.fin by omega, e]; congr 1; omega
    intro n hn
    rw [f n hn, f _ (by omega), p (n - t.fin)]; congr 1; omega
  have sd : ∀ n, n < t.start → KF.mem t n = KF.mem t (n - (d.below.length : Int)) := by
    have f : ∀ n, n < t.start → KF.mem t n = cyc t.below (n - t.start) := fun n hn => mem_low hn
    obtain ⟨N, hN⟩ := h.dn.per
    have p : Per (cyc t.below) (d.below.length : Int) := Per.of_dn (by omega) (cyc_per t.below) (N := min N t.start - t.start) fun n hn => by
      have e := hN (n + t.start) (by omega)
      rw [← ht, ← ht, f _ (by omega), f _ (by omega)] at e
      rw [show n = n + t.start - t.start by omega, e]; congr 1; omega
    intro n hn
    rw [f n hn, f _ (by omega), p.neg (n - t.start)]; congr 1; omega
  rcases h.form with ⟨h1, h2, h3, h4⟩ | ⟨h1, h2, h3⟩
  · exact ⟨hb, ha, by rw [h3]; exact Nat.zero_le _, .inl ⟨h2, h3, h4⟩⟩
  · have e1 : d.fin ≤ t.fin := h2 t.fin fun n hn => by rw [← ht, ← ht]; exact su n hn
    have e2 : min t.start d.fin ≤ d.start := h3 _ (by omega) fun n hn => by rw [← ht, ← ht]; exact sd n (by omega)
    have e3 : t.start - (d.above.length : Int) - (t.below.length : Int) < d.fin := by
      by_cases z : t.start - (d.above.length : Int) - (t.below.length : Int) < d.fin
      · exact z
      · exfalso
        apply h1
        have k : ∀ n, d.fin ≤ n → KF.mem t n = KF.mem t (n + (d.above.length : Int)) := fun n hn => by
          rw [ht, ht, ← h.mem, ← h.mem]; exact mem_up d hn
        have := law_thru ok up (fun n h1 _ => k n (by omega)) su
        intro n
        rw [← ht, ← ht]; exact this n
    refine ⟨hb, ha, ?_, .inr ⟨by omega, e1⟩⟩
    have : (d.middle.length : Int) = d.fin - d.start := by unfold Desc.fin; omega
    have : (t.middle.length : Int) = t.fin - t.start := by unfold Desc.fin; omega
    have := d.fin_ge
    have := t.fin_ge
    omega
end KF
set_option Elab.async false
set_option linter.all false
set_option maxRecDepth 100000
/-! The text by places. -/
namespace K14
open PySem L2
def top (i : Nat) : Stmt := PySem.Challenge.pw_anylead_k14_whole_signs_of_sets.main.body.getD i (.Pass ⟨0, 0, 0, 0⟩)
abbrev s_is_int : Stmt := top 7
abbrev s_is_row : Stmt := top 8
abbrev s_check_int : Stmt := top 9
abbrev s_greatest_divisor : Stmt := top 11
abbrev s_common_multiple : Stmt := top 12
abbrev s_least_step : Stmt := top 13
abbrev s_rolled : Stmt := top 14
abbrev s_piece : Stmt := top 15
abbrev s_is_member : Stmt := top 16
abbrev s_one_form : Stmt := top 17
abbrev s_least_middle : Stmt := top 18
abbrev s_is_truths : Stmt := top 30
abbrev m_init : Stmt := inClass (top 31) 0
abbrev m_is_throughout : Stmt := inClass (top 31) 1
abbrev m_eq : Stmt := inClass (top 31) 2
abbrev m_contains : Stmt := inClass (top 31) 3
abbrev m_bool : Stmt := inClass (top 31) 4
abbrev m_and : Stmt := inClass (top 31) 5
abbrev m_or : Stmt := inClass (top 31) 6
abbrev m_xor : Stmt := inClass (top 31) 7
abbrev m_sub : Stmt := inClass (top 31) 8
abbrev m_invert : Stmt := inClass (top 31) 9
abbrev m_neg : Stmt := inClass (top 31) 10
abbrev m_within : Stmt := inClass (top 31) 12
abbrev m_apart : Stmt := inClass (top 31) 13
abbrev s_end_of : Stmt := top 32
abbrev s_mixed_row : Stmt := top 33
abbrev s_joint_bounds : Stmt := top 34
abbrev s_combined : Stmt := top 35
abbrev s_L_pen : Stmt := top 37
abbrev s_L_draw : Stmt := top 38
abbrev s_L_pick : Stmt := top 39
abbrev s_L_far : Stmt := top 40
abbrev s_L_is_int : Stmt := top 41
abbrev s_L_is : Stmt := top 42
abbrev s_L_listed : Stmt := top 43
abbrev s_L_has : Stmt := top 44
abbrev s_L_end : Stmt := top 45
abbrev s_L_described : Stmt := top 46
abbrev s_L_step_of : Stmt := top 47
abbrev s_L_form : Stmt := top 48
abbrev s_L_told : Stmt := top 49
abbrev s_L_is_one_form : Stmt := top 50
abbrev s_L_odd_items : Stmt := top 51
abbrev s_L_bits : Stmt := top 52
abbrev s_L_stretched : Stmt := top 53
abbrev s_L_some_set : Stmt := top 54
abbrev s_L_made_set : Stmt := top 55
abbrev s_L_mirror : Stmt := top 56
abbrev s_L_joined : Stmt := top 57
abbrev s_L_signed : Stmt := top 58
abbrev s_L_flipped : Stmt := top 59
abbrev s_L_is_empty : Stmt := top 60
abbrev s_L_is_like : Stmt := top 61
abbrev s_L_all_signs : Stmt := top 62
abbrev s_L_brought_near : Stmt := top 63
abbrev s_law : Stmt := top 64
end K14
set_option Elab.async false
set_option linter.all false
set_option maxRecDepth 100000
set_option maxHeartbeats 0
/-! The head: facts by names, the run. -/
namespace K14
open PySem PySem.Spec PyProof.Rows L2
abbrev thePw : Program := PySem.Challenge.pw_anylead_k14_whole_signs_of_sets
def d_is_int : He.DefD := ⟨("is_int", none), "is_int", "is_int", defArgs s_is_int, defBody s_is_int, defScope s_is_int, [], []⟩
def d_is_row : He.DefD := ⟨("is_row", none), "is_row", "is_row", defArgs s_is_row, defBody s_is_row, defScope s_is_row, [], []⟩
def d_check_int : He.DefD := ⟨("check_int", none), "check_int", "check_int", defArgs s_check_int, defBody s_check_int, defScope s_check_int, [], []⟩
def d_greatest_divisor : He.DefD := ⟨("greatest_divisor", none), "greatest_divisor", "greatest_divisor", defArgs s_greatest_divisor, defBody s_greatest_divisor, defScope s_greatest_divisor, [], []⟩
def d_common_multiple : He.DefD := ⟨("common_multiple", none), "common_multiple", "common_multiple", defArgs s_common_multiple, defBody s_common_multiple, defScope s_common_multiple, [], []⟩
def d_least_step : He.DefD := ⟨("least_step", none), "least_step", "least_step", defArgs s_least_step, defBody s_least_step, defScope s_least_step, [], []⟩
def d_rolled : He.DefD := ⟨("rolled", none), "rolled", "rolled", defArgs s_rolled, defBody s_rolled, defScope s_rolled, [], []⟩
def d_piece : He.DefD := ⟨("piece", none), "piece", "piece", defArgs s_piece, defBody s_piece, defScope s_piece, [], []⟩
def d_is_member : He.DefD := ⟨("is_member", none), "is_member", "is_member", defArgs s_is_member, defBody s_is_member, defScope s_is_member, [], []⟩
def d_one_form : He.DefD := ⟨("one_form", none), "one_form", "one_form", defArgs s_one_form, defBody s_one_form, defScope s_one_form, [], []⟩
def d_least_middle : He.DefD := ⟨("least_middle", none), "least_middle", "least_middle", defArgs s_least_middle, defBody s_least_middle, defScope s_least_middle, [], []⟩
def d_is_truths : He.DefD := ⟨("is_truths", none), "is_truths", "is_truths", defArgs s_is_truths, defBody s_is_truths, defScope s_is_truths, [], []⟩
def dm_init : He.DefD := ⟨("Rounds", some "__init__"), "__init__", "Rounds.__init__", defArgs m_init, defBody m_init, defScope m_init, [], []⟩
def dm_is_throughout : He.DefD := ⟨("Rounds", some "is_throughout"), "is_throughout", "Rounds.is_throughout", defArgs m_is_throughout, defBody m_is_throughout, defScope m_is_throughout, [], []⟩
def dm_eq : He.DefD := ⟨("Rounds", some "__eq__"), "__eq__", "Rounds.__eq__", defArgs m_eq, defBody m_eq, defScope m_eq, [], []⟩
def dm_contains : He.DefD := ⟨("Rounds", some "__contains__"), "__contains__", "Rounds.__contains__", defArgs m_contains, defBody m_contains, defScope m_contains, [], []⟩
def dm_bool : He.DefD := ⟨("Rounds", some "__bool__"), "__bool__", "Rounds.__bool__", defArgs m_bool, defBody m_bool, defScope m_bool, [], []⟩
def dm_and : He.DefD := ⟨("Rounds", some "__and__"), "__and__", "Rounds.__and__", defArgs m_and, defBody m_and, defScope m_and, [], []⟩
def dm_or : He.DefD := ⟨("Rounds", some "__or__"), "__or__", "Rounds.__or__", defArgs m_or, defBody m_or, defScope m_or, [], []⟩
def dm_xor : He.DefD := ⟨("Rounds", some "__xor__"), "__xor__", "Rounds.__xor__", defArgs m_xor, defBody m_xor, defScope m_xor, [], []⟩
def dm_sub : He.DefD := ⟨("Rounds", some "__sub__"), "__sub__", "Rounds.__sub__", defArgs m_sub, defBody m_sub, defScope m_sub, [], []⟩
def dm_invert : He.DefD := ⟨("Rounds", some "__invert__"), "__invert__", "Rounds.__invert__", defArgs m_invert, defBody m_invert, defScope m_invert, [], []⟩
def dm_neg : He.DefD := ⟨("Rounds", some "__neg__"), "__neg__", "Rounds.__neg__", defArgs m_neg, defBody m_neg, defScope m_neg, [], []⟩
def dm_within : He.DefD := ⟨("Rounds", some "within"), "within", "Rounds.within", defArgs m_within, defBody m_within, defScope m_within, [], []⟩
def dm_apart : He.DefD := ⟨("Rounds", some "apart"), "apart", "Rounds.apart", defArgs m_apart, defBody m_apart, defScope m_apart, [], []⟩
def d_end_of : He.DefD := ⟨("end_of", none), "end_of", "end_of", defArgs s_end_of, defBody s_end_of, defScope s_end_of, [], []⟩
def d_mixed_row : He.DefD := ⟨("mixed_row", none), "mixed_row", "mixed_row", defArgs s_mixed_row, defBody s_mixed_row, defScope s_mixed_row, [], []⟩
def d_joint_bounds : He.DefD := ⟨("joint_bounds", none), "joint_bounds", "joint_bounds", defArgs s_joint_bounds, defBody s_joint_bounds, defScope s_joint_bounds, [], []⟩
def d_combined : He.DefD := ⟨("combined", none), "combined", "combined", defArgs s_combined, defBody s_combined, defScope s_combined, [], []⟩
def d_L_pen : He.DefD := ⟨("_law_pen", none), "_law_pen", "_law_pen", defArgs s_L_pen, defBody s_L_pen, defScope s_L_pen, [], []⟩
def d_L_draw : He.DefD := ⟨("_law_draw", none), "_law_draw", "_law_draw", defArgs s_L_draw, defBody s_L_draw, defScope s_L_draw, [], []⟩
def d_L_pick : He.DefD := ⟨("_law_pick", none), "_law_pick", "_law_pick", defArgs s_L_pick, defBody s_L_pick, defScope s_L_pick, [], []⟩
def d_L_far : He.DefD := ⟨("_law_far", none), "_law_far", "_law_far", defArgs s_L_far, defBody s_L_far, defScope s_L_far, [], []⟩
def d_L_is_int : He.DefD := ⟨("_law_is_int", none), "_law_is_int", "_law_is_int", defArgs s_L_is_int, defBody s_L_is_int, defScope s_L_is_int, [], []⟩
def d_L_is : He.DefD := ⟨("_law_is", none), "_law_is", "_law_is", defArgs s_L_is, defBody s_L_is, defScope s_L_is, [], []⟩
def d_L_listed : He.DefD := ⟨("_law_listed", none), "_law_listed", "_law_listed", defArgs s_L_listed, defBody s_L_listed, defScope s_L_listed, [], []⟩
def d_L_has : He.DefD := ⟨("_law_has", none), "_law_has", "_law_has", defArgs s_L_has, defBody s_L_has, defScope s_L_has, [], []⟩
def d_L_end : He.DefD := ⟨("_law_end", none), "_law_end", "_law_end", defArgs s_L_end, defBody s_L_end, defScope s_L_end, [], []⟩
def d_L_described : He.DefD := ⟨("_law_described", none), "_law_described", "_law_described", defArgs s_L_described, defBody s_L_described, defScope s_L_described, [], []⟩
def d_L_step_of : He.DefD := ⟨("_law_step_of", none), "_law_step_of", "_law_step_of", defArgs s_L_step_of, defBody s_L_step_of, defScope s_L_step_of, [], []⟩
def d_L_form : He.DefD := ⟨("_law_form", none), "_law_form", "_law_form", defArgs s_L_form, defBody s_L_form, defScope s_L_form, [], []⟩
def d_L_told : He.DefD := ⟨("_law_told", none), "_law_told", "_law_told", defArgs s_L_told, defBody s_L_told, defScope s_L_told, [], []⟩
def d_L_is_one_form : He.DefD := ⟨("_law_is_one_form", none), "_law_is_one_form", "_law_is_one_form", defArgs s_L_is_one_form, defBody s_L_is_one_form, defScope s_L_is_one_form, [], []⟩
def d_L_odd_items : He.DefD := ⟨("_law_odd_items", none), "_law_odd_items", "_law_odd_items", defArgs s_L_odd_items, defBody s_L_odd_items, defScope s_L_odd_items, [], []⟩
def d_L_bits : He.DefD := ⟨("_law_bits", none), "_law_bits", "_law_bits", defArgs s_L_bits, defBody s_L_bits, defScope s_L_bits, [], []⟩
def d_L_stretched : He.DefD := ⟨("_law_stretched", none), "_law_stretched", "_law_stretched", defArgs s_L_stretched, defBody s_L_stretched, defScope s_L_stretched, [], []⟩
def d_L_some_set : He.DefD := ⟨("_law_some_set", none), "_law_some_set", "_law_some_set", defArgs s_L_some_set, defBody s_L_some_set, defScope s_L_some_set, [], []⟩
def d_L_made_set : He.DefD := ⟨("_law_made_set", none), "_law_made_set", "_law_made_set", defArgs s_L_made_set, defBody s_L_made_set, defScope s_L_made_set, [], []⟩
def d_L_mirror : He.DefD := ⟨("_law_mirror", none), "_law_mirror", "_law_mirror", defArgs s_L_mirror, defBody s_L_mirror, defScope s_L_mirror, [], []⟩
def d_L_joined : He.DefD := ⟨("_law_joined", none), "_law_joined", "_law_joined", defArgs s_L_joined, defBody s_L_joined, defScope s_L_joined, [], []⟩
def d_L_signed : He.DefD := ⟨("_law_signed", none), "_law_signed", "_law_signed", defArgs s_L_signed, defBody s_L_signed, defScope s_L_signed, [], []⟩
def d_L_flipped : He.DefD := ⟨("_law_flipped", none), "_law_flipped", "_law_flipped", defArgs s_L_flipped, defBody s_L_flipped, defScope s_L_flipped, [], []⟩
def d_L_is_empty : He.DefD := ⟨("_law_is_empty", none), "_law_is_empty", "_law_is_empty", defArgs s_L_is_empty, defBody s_L_is_empty, defScope s_L_is_empty, [], []⟩
def d_L_is_like : He.DefD := ⟨("_law_is_like", none), "_law_is_like", "_law_is_like", defArgs s_L_is_like, defBody s_L_is_like, defScope s_L_is_like, [], []⟩
def d_L_all_signs : He.DefD := ⟨("_law_all_signs", none), "_law_all_signs", "_law_all_signs", defArgs s_L_all_signs, defBody s_L_all_signs, defScope s_L_all_signs, [], []⟩
def d_L_brought_near : He.DefD := ⟨("_law_brought_near", none), "_law_brought_near", "_law_brought_near", defArgs s_L_brought_near, defBody s_L_brought_near, defScope s_L_brought_near, [], []⟩
def d_law : He.DefD := ⟨("law", none), "law", "law", defArgs s_law, defBody s_law, defScope s_law, [], []⟩
def fn : List He.DefD := [d_is_int, d_is_row, d_check_int, d_greatest_divisor, d_common_multiple, d_least_step, d_rolled, d_piece, d_is_member, d_one_form, d_least_middle, d_is_truths, dm_init, dm_is_throughout, dm_eq, dm_contains, dm_bool, dm_and, dm_or, dm_xor, dm_sub, dm_invert, dm_neg, dm_within, dm_apart, d_end_of, d_mixed_row, d_joint_bounds, d_combined, d_L_pen, d_L_draw, d_L_pick, d_L_far, d_L_is_int, d_L_is, d_L_listed, d_L_has, d_L_end, d_L_described, d_L_step_of, d_L_form, d_L_told, d_L_is_one_form, d_L_odd_items, d_L_bits, d_L_stretched, d_L_some_set, d_L_made_set, d_L_mirror, d_L_joined, d_L_signed, d_L_flipped, d_L_is_empty, d_L_is_like, d_L_all_signs, d_L_brought_near, d_law]
def fa1 : List He.Fa := [.glo "is_int", .glo "is_row", .glo "check_int", .glo "greatest_divisor", .glo "common_multiple", .glo "least_step", .glo "rolled", .glo "piece", .glo "is_member", .glo "one_form", .glo "least_middle", .glo "is_truths", .glo "end_of", .glo "mixed_row", .glo "joint_bounds", .glo "combined", .glo "_law_pen", .glo "_law_draw", .glo "_law_pick", .glo "_law_far", .glo "_law_is_int", .glo "_law_is", .glo "_law_listed", .glo "_law_has", .glo "_law_end", .glo "_law_described", .glo "_law_step_of", .glo "_law_form", .glo "_law_told", .glo "_law_is_one_form", .glo "_law_odd_items", .glo "_law_bits", .glo "_law_stretched", .glo "_law_some_set", .glo "_law_made_set"]
def fa2 : List He.Fa := [.glo "_law_mirror", .glo "_law_joined", .glo "_law_signed", .glo "_law_flipped", .glo "_law_is_empty", .glo "_law_is_like", .glo "_law_all_signs", .glo "_law_brought_near", .glo "law", .glo "Rounds", .free "isinstance", .free "int", .free "bool", .free "tuple", .free "list", .free "len", .free "range", .free "all", .free "enumerate", .free "abs", .free "max", .free "min", .int "LIMIT" 20000, .cls "Rounds", .noat "Rounds" "start", .noat "Rounds" "below", .noat "Rounds" "middle", .noat "Rounds" "above", .meth "Rounds" "__init__", .meth "Rounds" "is_throughout", .meth "Rounds" "__eq__", .meth "Rounds" "__contains__", .meth "Rounds" "__bool__", .meth "Rounds" "__and__", .meth "Rounds" "__or__"]
def fa3 : List He.Fa := [.meth "Rounds" "__xor__", .meth "Rounds" "__sub__", .meth "Rounds" "__invert__", .meth "Rounds" "__neg__", .meth "Rounds" "within", .meth "Rounds" "apart", .mkr "Rounds", .glo "IN_BOTH", .glo "IN_ONE_OR_BOTH", .glo "IN_JUST_ONE", .glo "IN_FIRST_ALONE"]
def fa : List He.Fa := fa1 ++ fa2 ++ fa3
def tf : List He.Defn := [("_law_form", none), ("_law_stretched", none), ("_law_some_set", none), ("_law_joined", none), ("_law_brought_near", none)]
def ex (K : PySem.W.Frag) : Bool :=
  PySem.W.selfFirst K (He.ga K "Rounds") && (decide (PySem.W.findIn K (.ref (He.ga K "Rounds")) "__class__" = some (some (.builtin "object.__class__"))) &&
  (decide (PySem.W.specialIn K (.builtin "object.__class__") "__get__" = some (some (.builtin "getset_descriptor.__get__"))) && (decide (PySem.W.takesIn K (.builtin "object.__class__") = some true) &&
  (decide (PySem.W.mroIn K (He.ga K "Rounds") (.type "object") = some true) && (decide (PySem.W.kitOne K (.ref (He.ga K "Rounds")) (.ref (He.ga K "Rounds")) = some true) &&
  (He.tupB K "IN_BOTH" [.bl false, .bl false, .bl false, .bl true] && (He.tupB K "IN_ONE_OR_BOTH" [.bl false, .bl true, .bl true, .bl true] && (He.tupB K "IN_JUST_ONE" [.bl false, .bl true, .bl true, .bl false] && (He.tupB K "IN_FIRST_ALONE" [.bl false, .bl false, .bl true, .bl false] && decide ((tf.map fun p => (He.cT K p).2).Nodup))))))))))
abbrev R : PySem.W.OpenRow := PySem.W.OpenLaw.row PySem.Challenge.rw_anylead_k14_whole_signs_of_sets
abbrev hk : PySem.W.Hook := He.hookX 5 fa fn [] tf ex
def ob (s : PySem.W.SharedT) : He.AlX := He.obsX 5 fa fn [] tf ex (HandSHeadRun.getT s)
theorem ob_eq (s : PySem.W.SharedT) : ob s = hk.obs s.abs := He.obsX_eq (HandSHeadRun.getT_eq s)
def ls0 : List PySem.Str := ["_wall", "__name__", "LeadError", "BadNumber", "BadRow", "TooMany", "is_int", "is_row", "check_int", "greatest_divisor", "common_multiple", "least_step", "rolled", "piece", "is_member", "one_form", "least_middle", "rank_of", "place_of_rank", "runs_of", "items_of", "text_of", "LIMIT", "IN_BOTH", "IN_ONE_OR_BOTH", "IN_JUST_ONE", "IN_FIRST_ALONE", "is_truths", "Rounds", "end_of"]
def ls1 : List PySem.Str := ["mixed_row", "joint_bounds", "combined", "_law_pen", "_law_draw", "_law_pick", "_law_far", "_law_is_int", "_law_is", "_law_listed", "_law_has", "_law_end", "_law_described", "_law_step_of", "_law_form", "_law_told", "_law_is_one_form", "_law_odd_items", "_law_bits", "_law_stretched", "_law_some_set", "_law_made_set", "_law_mirror", "_law_joined", "_law_signed", "_law_flipped", "_law_is_empty", "_law_is_like", "_law_all_signs", "_law_brought_near"]
def ls : List PySem.Str := ls0 ++ ls1
theorem run (w : World) : HandSHeadRun.RunEq R (PySem.W.view R.prog [64]) hk ob 20000 ls w := by
  intro os
  kernel_rfl
end K14
set_option Elab.async false
set_option linter.all false
set_option maxRecDepth 100000
set_option maxHeartbeats 4000000
/-! Own rules, first part: tuple times a small count, a tuple backwards, attributes as targets, the signs that a class defines. -/
namespace K14
open PySem PySem.Spec PyProof.Rows L2
/-! ### t * k, k from 0 on -/
theorem mulW_same (l : Addr) (items : Array Value) (n : Nat) (dd : Option Addr) (sl : Array (Option Value)) (u : Tok) :
    Meets (Builtin.«tuple.__mul__» ⟨[.ref l, .int 1 u], []⟩) (fun _ R s => s.heap.get? l = some { cls := .type "tuple", dict := dd, data := .seq items n, slots := sl } ∧ R (.ok (.ret (Value.ref l))) s) :=
  .of_wp fun prog w A R s h => by
    obtain ⟨hp, g, d, tk, os⟩ := s
    obtain ⟨hl, h⟩ := h
    have f1 := AutoSeq1.idx_int
    wp_walk using wpAny_loadPart' hl
    repeat (first
      | (refine wpAny_ite_false (by decide) ?_; wp_walk using wpAny_loadPart' hl)
      | (refine wpAny_ite_true (by simp) ?_; wp_walk using wpAny_loadPart' hl))
    exact ⟨_, rfl, h⟩
theorem mulW_none (l : Addr) (items : Array Value) (n : Nat) (dd : Option Addr) (sl : Array (Option Value)) (u : Tok) (hi : items.isEmpty = false) :
    Meets (Builtin.«tuple.__mul__» ⟨[.ref l, .int 0 u], []⟩) (fun _ R s => s.heap.get? l = some { cls := .type "tuple", dict := dd, data := .seq items n, slots := sl } ∧
      R (.ok (.ret (Value.ref s.heap.objs.size))) { s with heap := s.heap.push { cls := Value.type "tuple", data := Data.seq #[] }, toks := s.toks }) :=
  .of_wp fun prog w A R s h => by
    obtain ⟨hp, g, d, tk, os⟩ := s
    obtain ⟨hl, h⟩ := h
    have f1 := AutoSeq1.idx_int
    wp_walk using wpAny_loadPart' hl
    repeat (first
      | (refine wpAny_ite_false (by decide) ?_; wp_walk using wpAny_loadPart' hl)
      | (refine wpAny_ite_false (by simp [hi]) ?_; wp_walk using wpAny_loadPart' hl)
      | (refine wpAny_ite_true (by simp) ?_; wp_walk using wpAny_loadPart' hl))
    exact ⟨_, rfl, h⟩

def rRepA (K : PySem.W.Frag) : R2 := fun x y H Q => ∃ l k xs, x = .ref l ∧ y = .int k ∧ SqT K H l xs ∧ xs ≠ [] ∧ 0 ≤ k ∧ k ≤ 1000 ∧ xs.length ≤ 1000 ∧ (k = 1 → Q (.ref l) H) ∧
  (k ≠ 1 → ∀ p, H p = none → Q (.ref p) (upd H p (.tup (List.replicate k.toNat xs).flatten)))
section
variable {X : Cx}
theorem op_repA : OpR X (binaryOp .Mult) (rRepA X.K) := by
  intro pins s σ H x y v u Q I rx ry h
  obtain ⟨l, k, xs, rfl, rfl, hT, hne, h0, h2, hz, q1, q2⟩ := h
  by_cases z2 : 2 ≤ k
  · exact op_repT pins s σ H _ _ v u Q I rx ry ⟨l, k, xs, rfl, rfl, hT, hne, z2, h2, hz, q2 (by omega)⟩
  cases rx
  obtain ⟨t, rfl⟩ := ry
  obtain ⟨its, r, ⟨⟨cls, dd, data, sl⟩, ho, hc, n, hd⟩, hs⟩ := I.tuple hT
  simp only at hc hd
  subst hc hd
  have hi : its.toArray.isEmpty = false := by
    cases r with
    | nil => exact absurd rfl hne
    | cons _ _ => rfl
  by_cases z1 : k = 1
  · subst z1
    exact wpAny_binaryOp_repeat_ref (T := "tuple") (U := "int") (by decide) ⟨_, ho, rfl⟩ (fun s' => typeIs_int s' 1 t) noFill_tuple_mul F.fills_int_mul F.slot_int_rmul repeat_tuple F.slot_int_index.lookup
      (call_meets F.slot_int_rmul (typeIs_int s 1 t) F.entry_int_rmul (F.args_int_rmul_2 _ _) (int_rmul_tuple 1 t l its.toArray n dd sl)
        ⟨ho, rfl, ⟨_, ho, rfl⟩, call_meets F.slot_tuple_mul ⟨_, ho, rfl⟩ F.entry_tuple_mul (F.args_tuple_mul_2 _ _) (mulW_same l its.toArray n dd sl t) ⟨ho, ⟨.ref l, H, I, rfl, q1 rfl⟩⟩⟩)
  · have z0 : k = 0 := by omega
    subst z0
    refine wpAny_binaryOp_repeat_ref (T := "tuple") (U := "int") (by decide) ⟨_, ho, rfl⟩ (fun s' => typeIs_int s' 0 t) noFill_tuple_mul F.fills_int_mul F.slot_int_rmul repeat_tuple F.slot_int_index.lookup
      (call_meets F.slot_int_rmul (typeIs_int s 0 t) F.entry_int_rmul (F.args_int_rmul_2 _ _) (int_rmul_tuple 0 t l its.toArray n dd sl)
        ⟨ho, rfl, ⟨_, ho, rfl⟩, call_meets F.slot_tuple_mul ⟨_, ho, rfl⟩ F.entry_tuple_mul (F.args_tuple_mul_2 _ _) (mulW_none l its.toArray n dd sl t hi) ⟨ho, ?_⟩⟩)
    refine ⟨.ref s.heap.objs.size, _, I.laid (t' := s.toks) (o := .tup []) (fun b ob q => Heap.get?_push_of_some _ q) (Nat.le_refl _) ?_, rfl, q2 (by decide) _ (I.hok.fresh (Nat.le_refl _))⟩
    exact ⟨Nat.zero_le _, [], .nil, IsTup.new _ _⟩
/-! ### t[::-1] -/
theorem rev_pick (xs : Array Value) : ((List.range xs.size).filterMap fun (k : Nat) => xs[(((xs.size : Nat) : Int) - 1 + (k : Int) * (-1)).toNat]?).toArray = xs.toList.reverse.toArray := by
  congr 1
  apply List.ext_getElem?
  intro i
  have e : ∀ m : Nat, m ≤ xs.size → (List.range m).filterMap (fun (k : Nat) => xs[(((xs.size : Nat) : Int) - 1 + (k : Int) * (-1)).toNat]?) = (List.range m).map (fun k => xs.toList.getD (xs.size - 1 - k) .none) := by
    intro m
    induction m with
    | zero => intro _; rfl
    | succ m ih =>
      intro hm
      rw [List.range_succ, List.filterMap_append, List.map_append, ih (by omega)]
      congr 1
      have : (((xs.size : Nat) : Int) - 1 + (m : Int) * (-1)).toNat = xs.size - 1 - m := by omega
      simp only [List.filterMap_cons, List.filterMap_nil, List.map_cons, List.map_nil]
      rw [this, Array.getElem?_eq_getElem (by omega)]
      rw [List.getD_eq_getElem?_getD, List.getElem?_eq_getElem (by rw [Array.length_toList]; omega)]
      simp
  rw [e _ (Nat.le_refl _), List.getElem?_map]
  by_cases h : i < xs.size
  · rw [List.getElem?_range h, List.getElem?_reverse (by rw [Array.length_toList]; exact h)]
    show some (xs.toList.getD (xs.size - 1 - i) .none) = _
    rw [List.getD_eq_getElem?_getD, Array.length_toList, List.getElem?_eq_getElem (by rw [Array.length_toList]; omega)]
    rfl
  · rw [List.getElem?_eq_none (by rw [List.length_range]; omega), List.getElem?_eq_none (by rw [List.length_reverse, Array.length_toList]; omega)]
    rfl
theorem getItem_tuple_rev {prog : Program} {w : World} {A : Around} {E : Value → Shared → Prop} {s : Shared} {t sl : Addr} {items : Array Value} {vs : Value} {Q : Value → Shared → Prop} (ht : IsTup s.heap t items) (hs : s.heap.IsSliceOf sl .none .none vs) (ps : IsPart vs (some (-1)))
    (h : Q (.ref s.heap.objs.size) { s with heap := s.heap.push { cls := .type "tuple", data := .seq items.toList.reverse.toArray } }) (hsz : items.size ≤ sizeLine) : wpAny (model prog w) A (getItem (.ref t) (.ref sl)) Q E s := by
  have htake : sizeOk (.seq items.toList.reverse.toArray) := by
    show items.toList.reverse.toArray.size ≤ sizeLine
    rw [List.size_toArray, List.length_reverse, Array.length_toList]
    exact hsz
  obtain ⟨os, hos, hcs, hds⟩ := id hs
  have hTs : s.TypeIs (.ref sl) "slice" := ⟨os, hos, hcs⟩
  unfold getItem
  try with_reducible refine wpAny_holding ?_
  first | refine wpAny_bind (wpAny_pure ?_) | skip
  refine wpAny_bind (wpAny_sequenceKey ht.typeIs (by decide) ?_)
  refine wpAny_bind (wpAny_callSpecial?_slot (name := Str.ofString "__getitem__") ht.typeIs PyProof.Rows.slot_tuple_getitem
    (wpAny_call_entry PyProof.Rows.slot_tuple_getitem ht.typeIs entry_tuple_getitem ?_ (args_tuple_getitem _ _)))
  show wpAny _ _ (Builtin.Tuple.tupleItemsOf (.ref t) >>= _) _ _ s
  refine wpAny_bind (tupleItemsOf_ ht ?_)
  refine wpAny_bind (wpAny_typeOf hTs ?_)
  rw [if_pos (by decide)]
  have ha : Builtin.Slice.sliceAdjust none none (-1) ((items.size : Nat) : Int) = (((items.size : Nat) : Int) - 1, -1) := rfl
  have hp : Builtin.Slice.slicePlaces (((items.size : Nat) : Int) - 1) (-1) (-1) = items.size := by
    unfold Builtin.Slice.slicePlaces
    rw [if_neg (by decide)]
    by_cases z : ((items.size : Nat) : Int) - 1 > -1
    · rw [if_pos z, show -(-1 : Int) = 1 by decide, Int.ediv_one]; omega
    · rw [if_neg z]; omega
  refine wpAny_bind ?_
  unfold Builtin.Slice.sliceApplied Builtin.Slice.sliceFields
  refine wpAny_bind (wpAny_bind (wpAny_field hos hds (x := .none) rfl (wpAny_bind (wpAny_field hos hds (x := .none) rfl (wpAny_bind (wpAny_field hos hds (x := vs) rfl (wpAny_pure ?_)))))))
  refine wpAny_bind (HT.slicePart_ ps ?_)
  show wpAny _ _ (if ((-1 : Int) == 0) = true then _ else _) _ _ s
  rw [if_neg (by decide)]
  refine wpAny_bind (HT.slicePart_ .none (wpAny_bind (HT.slicePart_ .none (wpAny_bind (wpAny_pure ?_)))))
  show wpAny _ _ (match Builtin.Slice.sliceAdjust none none (-1) ((items.size : Nat) : Int) with | (lo, hi) => pure (lo, (-1 : Int), Builtin.Slice.slicePlaces lo hi (-1))) _ _ s
  rw [ha]
  show wpAny _ _ (pure (((items.size : Nat) : Int) - 1, (-1 : Int), Builtin.Slice.slicePlaces (((items.size : Nat) : Int) - 1) (-1) (-1))) _ _ s
  rw [hp]
  refine wpAny_pure ?_
  show wpAny _ _ (if ((((items.size : Nat) : Int) - 1) == 0 && (-1 : Int) == 1 && items.size == items.size) = true then _ else _) _ _ s
  rw [if_neg (by simp), rev_pick]
  first
    | exact wpAny_bind (m := Builtin.Tuple.tupleExact _) (wpAny_newObj_type (wpAny_pure ⟨_, rfl, wpAny_pure h⟩) htake)
    | exact wpAny_bind (m := Builtin.Tuple.tupleExact _) (wpAny_newObj_type (wpAny_bind (wpAny_pure (wpAny_pure ⟨_, rfl, wpAny_pure h⟩))) htake)
    | exact wpAny_bind (wpAny_bind (m := Builtin.Tuple.tupleExact _) (wpAny_newObj_type (wpAny_pure (wpAny_pure ⟨_, rfl, wpAny_pure h⟩)) htake))
    | exact wpAny_bind (wpAny_bind (m := Builtin.Tuple.tupleExact _) (wpAny_newObj_type (wpAny_pure ⟨_, rfl, wpAny_pure h⟩) htake))
def tRevT (K : PySem.W.Frag) (te : TE) : TE := fun σ H Q => te σ H fun x H1 => ∃ a xs, x = .ref a ∧ SqT K H1 a xs ∧ ∀ p, H1 p = none → Q (.ref p) (upd H1 p (.tup xs.reverse))
theorem pe_revT {e : Expr} {te : TE} {k : Nat} {p1 p2 p3 pos : Pos} (he : PE X e te) : PE X (.Subscript e (.Slice none none (some (.UnaryOp .USub (.Constant (.int 1) k p1) p2)) p3) pos) (tRevT X.K te) := by
  refine ⟨fun pins s σ H Q I h => ?_⟩
  refine Subscript_ (thn (he.run pins s σ H _ I h) fun v s1 ⟨x, H1, I1, r1, q1⟩ => ?_)
  obtain ⟨a, xs, ex, hx, q⟩ := q1
  subst ex
  cases r1
  have hst : PO X (some (.UnaryOp .USub (.Constant (.int 1) k p1) p2)) (tPart (tUn (rU fun i => .int (-i)) (tC (.int 1)))) := po_some (pe_un un_neg pe_int)
  refine wpAny_Slice (thn (po_none.run pins s1 σ H1 (fun o H2 => o = none ∧ H2 = H1) I1 ⟨rfl, rfl⟩) fun vl s2 ⟨l, H2, I2, pl, el, e2⟩ => ?_)
  subst el e2
  refine thn (po_none.run pins s2 σ H2 (fun o H3 => o = none ∧ H3 = H2) I2 ⟨rfl, rfl⟩) fun vu s3 ⟨u, H3, I3, pu, eu, e3⟩ => ?_
  subst eu e3
  refine thn (hst.run pins s3 σ H3 (fun o H4 => o = some (-1) ∧ H4 = H3) I3 ⟨1, rfl, -1, rfl, rfl, rfl⟩) fun vs s4 ⟨o, H4, I4, ps, eo, e4⟩ => ?_
  subst eo e4
  cases pl
  cases pu
  have I5 : Inv X pins σ H4 { s4 with heap := s4.heap.push { cls := .type "slice", data := .fields #[.none, .none, vs] } } := I4.kept (t' := s4.toks) fun b ob q => Heap.get?_push_of_some _ q
  obtain ⟨its, r, ht, hz⟩ := I5.tuple hx
  have hlen := r.length
  show wpAny (model X.prog X.w) X.A (subscriptTail e (.Slice none none (some (.UnaryOp .USub (.Constant (.int 1) k p1) p2)) p3) (.ref a) (.ref s4.heap.objs.size)) (EP X pins σ Q) X.xe { s4 with heap := s4.heap.push { cls := .type "slice", data := .fields #[.none, .none, vs] } }
  refine tail_any (ops := [.ref a, .ref s4.heap.objs.size]) ht.typeIs (PyProof.Rows.slot_tuple_getitem.lookup) ?_ (by with_unfolding_all rfl)
  refine getItem_tuple_rev ht (Heap.IsSliceOf.new _ .none .none vs) ps ?_ (by rw [List.size_toArray]; omega)
  refine ⟨.ref _, _, I5.laid (t' := s4.toks) (o := .tup xs.reverse) (fun b ob q => Heap.get?_push_of_some _ q) (Nat.le_refl _) ?_, rfl, q _ (I5.hok.fresh (Nat.le_refl _))⟩
  exact ⟨by rw [List.length_reverse]; exact hz, _, r.reverse, IsTup.new _ _⟩
/-! ### o.f as a target -/
def gFld (K : PySem.W.Frag) (to : TE) (f : Str) : TG := fun v σ H Q => to σ H fun x H1 => ∃ a C dx fs, x = .ref a ∧ H1 a = some (.ins C dx fs) ∧ Cls K C ∧ NoAttr K C f ∧ fs.length < 1000 ∧ Q σ (upd H1 a (.ins C dx (putF f v fs)))
theorem pg_fld {o : Expr} {f : Str} {pos : Pos} {to : TE} (ho : PE X o to) : PG X (.Attribute o f pos) (gFld X.K to f) := by
  refine ⟨fun pins s σ H v u Q I r h => ?_⟩
  rw [arm_assign_Attribute]
  refine wpAny_bind (wpAny_holding (thn (ho.run pins s σ H _ I h) fun ov s1 ⟨x, H1, I1, r1, a, C, dx, fs, ex, ea, c, n, l, q⟩ => ?_))
  subst ex
  obtain rfl : ov = Value.ref a := r1
  refine wpAny_bind (wpAny_standAt (wpAny_bind (wpAny_holding (setattr_ok I1 ea c n l r fun s3 I3 => ?_))))
  exact wpAny_release ⟨σ, _, I3, q⟩
/-! ### the signs that a class defines -/
theorem back_of {pins : List (Addr × Obj)} {σ : L2.St} {Q : VK} {u : Value} {s : Shared} (h : EP X pins σ Q u s) : PySem.W.CmpBack (EP X pins σ Q) u s := by
  obtain ⟨v, H, I, r, q⟩ := id h
  cases u with
  | notImplemented =>
    cases v with
    | non => cases r
    | bl _ => cases r
    | int _ => obtain ⟨_, z⟩ := r; cases z
    | str _ => obtain ⟨_, z⟩ := r; cases z
    | byt _ => obtain ⟨_, z⟩ := r; cases z
    | flt _ => obtain ⟨_, z⟩ := r; cases z
    | ref _ => cases r
    | ty _ => cases r
  | _ => exact h
variable {C f : Addr} {fd : FuncData} {ps : List Str} {sp : Sp} {k : Nat}
theorem inst_at {pins : List (Addr × Obj)} {s : Shared} {σ : L2.St} {H : Hp} {a dx : Addr} {fs : List (Str × V)} (I : Inv X pins σ H s) (e : H a = some (.ins C dx fs)) : ∃ od, PySem.W.InstAt s.heap a (PySem.W.instObj C dx) C (some od) := by
  obtain ⟨mA, J, _⟩ := ins_get I.hok e
  obtain ⟨od, J, _⟩ := J.look
  exact ⟨od, J⟩
/-- a sign of two instances of the class at C, by its method -/
def rOwn2 (C : Addr) (sp : Sp) : R2 := fun x y H Q => ∃ a b dx dy fs gs, x = .ref a ∧ y = .ref b ∧ H a = some (.ins C dx fs) ∧ H b = some (.ins C dy gs) ∧ sp [.ref a, .ref b] H Q E0
theorem op_own {op : Operator} (F : FnOk X.prog X.w X.K X.mg X.base CX0 k f fd ps sp) (hr : Room k X.A) (hb : Binds X.K fd ps []) (hc : PySem.W.selfFirst X.K C = true) (hm : Meth X.K C (PySem.dunder op.info.2) f) : OpR X (binaryOp op) (rOwn2 C sp) := by
  intro pins s σ H x y v u Q I rx ry h
  obtain ⟨a, b, dx, dy, fs, gs, rfl, rfl, ea, eb, q⟩ := h
  cases rx
  cases ry
  obtain ⟨od, J⟩ := inst_at I ea
  obtain ⟨od', J'⟩ := inst_at I eb
  obtain ⟨m, hF⟩ := I.fr
  refine PySem.W.binop_K hF I.ok.mod.kin J J'.type hc hm.at_ hm.fn ?_
  exact thn (run_fn (us := [.ref a, .ref b]) (vs := [.ref a, .ref b]) (dvs := []) (E := E0) F hr hb .nil pass0 I (.cons rfl (.cons rfl .nil)) q) fun _ _ z => back_of z
theorem op_ownEq (F : FnOk X.prog X.w X.K X.mg X.base CX0 k f fd ps sp) (hr : Room k X.A) (hb : Binds X.K fd ps []) (hm : Meth X.K C "__eq__" f) : OpR X (compareOp .Eq) (rOwn2 C sp) := by
  intro pins s σ H x y v u Q I rx ry h
  obtain ⟨a, b, dx, dy, fs, gs, rfl, rfl, ea, eb, q⟩ := h
  cases rx
  cases ry
  obtain ⟨od, J⟩ := inst_at I ea
  obtain ⟨od', J'⟩ := inst_at I eb
  obtain ⟨m, hF⟩ := I.fr
  show wpAny (model X.prog X.w) X.A (richCompare .Eq (.ref a) (.ref b)) (EP X pins σ Q) X.xe s
  refine PySem.W.cmp_K (op := .Eq) (tb := .ref C) hr.units0 hF I.ok.mod.kin J J'.type (by simp [PySem.W.notFirst]) hm.at_ hm.fn ?_
  exact thn (run_fn (us := [.ref a, .ref b]) (vs := [.ref a, .ref b]) (dvs := []) (E := E0) F hr hb .nil pass0 I (.cons rfl (.cons rfl .nil)) q) fun _ _ z => back_of z
/-- n in o, by the class's __contains__, which tells a truth -/
def rOwnIn (C : Addr) (sp : Sp) : R2 := fun x y H Q => ∃ b dy gs, y = .ref b ∧ H b = some (.ins C dy gs) ∧ sp [.ref b, x] H (fun z H' => ∃ c, z = .bl c ∧ Q (.bl c) H') E0
theorem op_ownIn (F : FnOk X.prog X.w X.K X.mg X.base CX0 k f fd ps sp) (hr : Room k X.A) (hb : Binds X.K fd ps []) (hm : Meth X.K C "__contains__" f) : OpR X (compareOp .In) (rOwnIn C sp) := by
  intro pins s σ H x y v u Q I rx ry h
  obtain ⟨b, dy, gs, rfl, eb, q⟩ := h
  cases ry
  obtain ⟨od', J'⟩ := inst_at I eb
  obtain ⟨m, hF⟩ := I.fr
  refine PySem.W.in_K hF I.ok.mod.kin J' hm.at_ hm.fn ?_
  refine thn (run_fn (us := [.ref b, v]) (vs := [.ref b, x]) (dvs := []) (E := E0) F hr hb .nil pass0 I (.cons rfl (.cons rx .nil)) q) fun r s' ⟨z, H', I', rz, c, ez, q'⟩ => ?_
  subst ez
  cases rz
  exact wpAny_truthy_bool ⟨.bl c, H', I', rfl, q'⟩
/-- ~o, -o -/
def rOwn1 (C : Addr) (sp : Sp) : V → Hp → VK → Prop := fun x H Q => ∃ a dx fs, x = .ref a ∧ H a = some (.ins C dx fs) ∧ sp [.ref a] H Q E0
theorem un_ownInv (F : FnOk X.prog X.w X.K X.mg X.base CX0 k f fd ps sp) (hr : Room k X.A) (hb : Binds X.K fd ps []) (hm : Meth X.K C "__invert__" f) : UnR X (unaryOp .Invert) (rOwn1 C sp) := by
  intro pins s σ H x v Q I rx h
  obtain ⟨a, dx, fs, rfl, ea, q⟩ := h
  cases rx
  obtain ⟨od, J⟩ := inst_at I ea
  obtain ⟨m, hF⟩ := I.fr
  exact PySem.W.ksp_inv hF I.ok.mod.kin J hm.at_ hm.fn (run_fn (us := [.ref a]) (vs := [.ref a]) (dvs := []) (E := E0) F hr hb .nil pass0 I (.cons rfl .nil) q)
theorem un_ownNeg (F : FnOk X.prog X.w X.K X.mg X.base CX0 k f fd ps sp) (hr : Room k X.A) (hb : Binds X.K fd ps []) (hm : Meth X.K C "__neg__" f) : UnR X (unaryOp .USub) (rOwn1 C sp) := by
  intro pins s σ H x v Q I rx h
  obtain ⟨a, dx, fs, rfl, ea, q⟩ := h
  cases rx
  obtain ⟨od, J⟩ := inst_at I ea
  obtain ⟨m, hF⟩ := I.fr
  exact PySem.W.ksp_neg hF I.ok.mod.kin J hm.at_ hm.fn (run_fn (us := [.ref a]) (vs := [.ref a]) (dvs := []) (E := E0) F hr hb .nil pass0 I (.cons rfl .nil) q)
/-- a test: the truth of an instance, by its __bool__ -/
def tOwnT (C : Addr) (sp : Sp) (te : TE) : TT := fun σ H Q => te σ H fun x H1 => ∃ a dx fs, x = .ref a ∧ H1 a = some (.ins C dx fs) ∧ sp [.ref a] H1 (fun z H' => ∃ c, z = .bl c ∧ Q c H') E0
theorem tru_own (F : FnOk X.prog X.w X.K X.mg X.base CX0 k f fd ps sp) (hr : Room k X.A) (hb : Binds X.K fd ps []) (hm : Meth X.K C "__bool__" f) {pins : List (Addr × Obj)} {s : Shared} {σ : L2.St} {H : Hp} {a dx : Addr} {fs : List (Str × V)} {Q : Bool → Hp → Prop}
    (I : Inv X pins σ H s) (ea : H a = some (.ins C dx fs)) (q : sp [.ref a] H (fun z H' => ∃ c, z = .bl c ∧ Q c H') E0) : wpAny (model X.prog X.w) X.A (truthy (.ref a)) (TP X pins σ Q) X.xe s := by
  obtain ⟨od, J⟩ := inst_at I ea
  obtain ⟨m, hF⟩ := I.fr
  refine PySem.W.truthy_K hF I.ok.mod.kin J hm.at_ hm.fn ?_
  refine thn (run_fn (us := [.ref a]) (vs := [.ref a]) (dvs := []) (E := E0) F hr hb .nil pass0 I (.cons rfl .nil) q) fun r s' ⟨z, H', I', rz, c, ez, q'⟩ => ?_
  subst ez
  cases rz
  exact ⟨H', I', q'⟩
theorem pt_own {e : Expr} {te : TE} (he : PE X e te) (F : FnOk X.prog X.w X.K X.mg X.base CX0 k f fd ps sp) (hr : Room k X.A) (hb : Binds X.K fd ps []) (hm : Meth X.K C "__bool__" f) (hx : ∀ whole, isTrue e X.env whole = (do let v ← whole; standAt e.pos; holding [v] (truthy v)) := by intro _; rfl) : PT X e (tOwnT C sp te) := by
  refine ⟨fun pins s σ H Q I h => ?_⟩
  refine isTrue_plain (thn (he.run pins s σ H _ I h) fun v s1 ⟨x, H1, I1, r1, a, dx, fs, ex, ea, q⟩ => ?_) (hx _)
  subst ex
  cases r1
  exact tru_own F hr hb hm I1 ea q
/-- not o as a value -/
def tOwnNot (C : Addr) (sp : Sp) (te : TE) : TE := fun σ H Q => te σ H fun x H1 => ∃ a dx fs, x = .ref a ∧ H1 a = some (.ins C dx fs) ∧ sp [.ref a] H1 (fun z H' => ∃ c, z = .bl c ∧ Q (.bl (!c)) H') E0
theorem pe_ownNot {e : Expr} {te : TE} {pos : Pos} (he : PE X e te) (F : FnOk X.prog X.w X.K X.mg X.base CX0 k f fd ps sp) (hr : Room k X.A) (hb : Binds X.K fd ps []) (hm : Meth X.K C "__bool__" f) : PE X (.UnaryOp .Not e pos) (tOwnNot C sp te) := by
  refine ⟨fun pins s σ H Q I h => ?_⟩
  refine UnaryOp_ (thn (he.run pins s σ H _ I h) fun v s1 ⟨x, H1, I1, r1, a, dx, fs, ex, ea, q⟩ => ?_)
  subst ex
  cases r1
  refine not_of (thn (tru_own (Q := fun c H' => Q (.bl (!c)) H') F hr hb hm I1 ea q) fun c s2 ⟨H2, I2, q2⟩ => ?_)
  exact ⟨.bl (!c), H2, I2, rfl, q2⟩
end
end K14
set_option Elab.async false
set_option linter.all false
set_option maxRecDepth 100000
set_option maxHeartbeats 4000000
/-! Own rules, second part: a range of any ints; enumerate of a tuple. -/
namespace K14
open PySem PySem.Spec PyProof.Rows L2
/-! ### range(a, b), any ints -/
theorem turn_long {P : Program} {w : World} {K : PySem.W.Frag} {tg : Expr} (it : Addr) (lo : Int) (n : Nat) : Turn P w K tg (Itr lo n) [it] it (fun i h => IsLongIter h it (lo + (i : Nat)) ((n : Int) - (i : Nat)) 1) where
  mem := by simp
  obj := fun i h st b hb => by
    have e : b = it := by simpa using hb
    subst e
    exact ⟨_, st, fun v z => nomatch z⟩
  keep := fun i h h' st k => k it (by simp) _ st
  item := by
    intro X hP hw hK hc i pins s σ H E I hf st hg
    subst hP hw hK
    obtain ⟨f0, f1, f2, f3, f4, f5⟩ := hf it (by simp)
    have hg : i < n := hg
    refine wpAny_pyNext_long_item st (by omega) fun h' st' sb => ?_
    have I1 : Inv X pins σ H { s with heap := h', toks := s.toks + 1 } := I.turned (fun b o hb e => (sb.2 b hb).trans e) f0 f1 f3 f4 f5
    refine ⟨_, rfl, go_of (s := { s with heap := h', toks := s.toks + 1 }) (n := "longrange_iterator") st' rfl rfl (by decide) ⟨.int (lo + (i : Nat)), H, I1, ⟨_, rfl⟩, ⟨rfl, rfl⟩, ?_, fun b hb => (hf b hb).1⟩⟩
    have e1 : lo + ((i + 1 : Nat) : Int) = lo + (i : Nat) + 1 := by omega
    have e2 : (n : Int) - ((i + 1 : Nat) : Int) = (n : Int) - (i : Nat) - 1 := by omega
    show IsLongIter h' it _ _ _
    rw [e1, e2]
    exact st'
  done := by
    intro X hP hw hK hc i pins s σ H E I hf st hg
    subst hP hw hK
    obtain ⟨f0, f1, f2, f3, f4, f5⟩ := hf it (by simp)
    have hg : n ≤ i := hg
    exact wpAny_pyNext_long_end (I.ok.hd hc) st (by omega) fun h' eb => ⟨rfl, I.turned (t' := s.toks) (fun b o hb e => eb b o hb e) f0 f1 f3 f4 f5⟩
  self := fun _ _ _ _ _ st h => wpAny_pyIter_longiter st h
theorem rangeAny_it {X : Cx} {tg : Expr} {pins : List (Addr × Obj)} {σ : L2.St} {H : Hp} {s : Shared} {R : It → Hp → Prop} {E : Value → Shared → Prop} {lo hi : Int} {t u v : Tok} {tk : Nat} (I : Inv X pins σ H s)
    (q : R (Itr lo (hi - lo).toNat) H) : wpAny (model X.prog X.w) X.A (pyIter (.ref s.heap.objs.size)) (PIE X pins σ tg R) E { s with heap := s.heap.push { cls := .type "range", data := .fields #[.int lo t, .int hi u, .int 1 v] }, toks := tk } := by
  have I1 : Inv X pins σ H { s with heap := s.heap.push { cls := .type "range", data := .fields #[.int lo t, .int hi u, .int 1 v] }, toks := tk } := I.kept fun b o e => Heap.get?_push_of_some _ e
  have own : ∀ b ∈ [(s.heap.push { cls := .type "range", data := .fields #[.int lo t, .int hi u, .int 1 v] }).objs.size], FpOk X pins H b := fun b hb => by
    have e : b = (s.heap.push { cls := .type "range", data := .fields #[.int lo t, .int hi u, .int 1 v] }).objs.size := by simpa using hb
    subst e
    exact I1.fpOk (Nat.le_refl _) (I1.hok.fresh (Nat.le_refl _))
  have e2 : (((hi - lo).toNat : Nat) : Int) - ((0 : Nat) : Int) = Builtin.Range.rangeSize lo hi 1 := by rw [rangeSize_one]; split <;> omega
  cases sm : Builtin.Range.small lo hi 1 with
  | true =>
    refine wpAny_pyIter_range (IsRange.new ..) sm ?_
    refine ⟨_, _, _, _, H, rfl, I1.kept (t' := tk) fun b o e => Heap.get?_push_of_some _ e, turn_range _ lo (hi - lo).toNat, ?_, own, q⟩
    have e1 : lo + ((0 : Nat) : Int) * 1 = lo := by simp
    show IsRangeIter _ _ (lo + ((0 : Nat) : Int) * 1) ((((hi - lo).toNat : Nat) : Int) - ((0 : Nat) : Int)) 1
    rw [e1, e2]
    exact Heap.get?_push_size _ rfl
  | false =>
    refine wpAny_pyIter_longrange (IsRange.new ..) sm ?_
    refine ⟨_, _, _, _, H, rfl, I1.kept (t' := tk) fun b o e => Heap.get?_push_of_some _ e, turn_long _ lo (hi - lo).toNat, ?_, own, q⟩
    have e1 : lo + ((0 : Nat) : Int) = lo := by simp
    show IsLongIter _ _ (lo + ((0 : Nat) : Int)) ((((hi - lo).toNat : Nat) : Int) - ((0 : Nat) : Int)) 1
    rw [e1, e2]
    exact Heap.get?_push_size _ rfl
def iRngA2 (ta : TA) : TI := fun σ H R => ta σ H fun vs H1 => ∃ i j : Int, vs = [.int i, .int j] ∧ R (Itr i (j - i).toNat) H1
theorem pi_rangeA2 {X : Cx} {tg a b : Expr} {ta : TA} {p pos : Pos} (hg : Gl X "range") (hm : X.mg "range" = none) (ha : PA X [a, b] ta) (hs : starEach [a, b] X.env = [(false, eval a X.env), (false, eval b X.env)] := by rfl) (hs2 : starEach [b] X.env = [(false, eval b X.env)] := by rfl) :
    PI X tg (.Call (.Name "range" p) [a, b] [] pos) (iRngA2 ta) := by
  refine ⟨fun pins s σ H R I h => ?_⟩
  refine Call_ (ld_blt I hg hm boot_range (PyProof.Rows.callWith_type1 (thn (ha.run pos pins s σ H _ I h) fun us s1 ⟨vs, H1, I1, r1, q1⟩ => ?_) (by rw [hs, hs2]) (by rw [hs2]; rfl)))
  obtain ⟨i, j, e, q⟩ := q1
  subst e
  cases r1 with
  | cons r rr =>
    cases rr with
    | cons r' rr =>
      cases rr
      obtain ⟨t, rfl⟩ := r
      obtain ⟨t', rfl⟩ := r'
      exact call_range_2 (rangeAny_it I1 q)
/-! ### enumerate(t), t a tuple -/
theorem enumNew1 {v : Value} {o : Obj} {H : Heap → Prop} (B : Begins v o H) :
    Meets (Builtin.«enumerate.__new__» ⟨[.type "enumerate", v], []⟩) (fun _ R s => H s.heap ∧
      R (.ok (.ret (.ref (s.heap.push o).objs.size))) { s with heap := (s.heap.push o).push { cls := .type "enumerate", data := .fields #[.none, .bool false, .ref s.heap.objs.size, rawInt 0, .none, .none] } }) :=
  .of_wp fun prog w A R s h => by
    obtain ⟨hp, g, d, tk, os⟩ := s
    obtain ⟨h1, h⟩ := h
    have hsub := sub_enumerate
    have q1 : ∀ {A' : Around} {E : Value → Shared → Prop} {Q : Value → Shared → Prop}, Q (.ref hp.objs.size) ⟨hp.push o, g, d, tk, os⟩ → wpAny (model prog w) A' (pyIter v) Q E ⟨hp, g, d, tk, os⟩ :=
      fun q => B.iter prog w _ _ ⟨hp, g, d, tk, os⟩ _ h1 q
    wp_walk using q1
    refine wpAny_stack_any fun st => wpAny_pure ?_
    split
    · rename_i c _ _ _ _ _
      cases (c == Value.type "enumerate")
      · wp_walk using q1
        exact ⟨_, rfl, h⟩
      · wp_walk using q1
        exact ⟨_, rfl, h⟩
    · wp_walk using q1
      exact ⟨_, rfl, h⟩
theorem enumCall1 {prog : Program} {w : World} {A : Around} {E : Value → Shared → Prop} {s : Shared} {v : Value} {o : Obj} {H : Heap → Prop} {Q : Value → Shared → Prop} (B : Begins v o H) (h1 : H s.heap)
    (h : ∀ h', IsEnum h' (s.heap.objs.size + 1) s.heap.objs.size 0 .none → h'.get? s.heap.objs.size = some o → (∀ b o, s.heap.get? b = some o → h'.get? b = some o) → Q (.ref (s.heap.objs.size + 1)) { s with heap := h' }) :
    wpAny (model prog w) A (call (.type "enumerate") [v]) Q E s := by
  refine callType_new F.called_enumerate (by decide) (F.typeCall_enumerate_1 _) (F.newCall_enumerate_1 _) (fun obj => F.args_object_init_2 obj _) F.entry_enumerate_new (enumNew1 B) ⟨h1, ?_⟩
  have hz : (s.heap.push o).objs.size = s.heap.objs.size + 1 := Heap.size_push ..
  show _ ∧ _
  rw [hz]
  have he : IsEnum ((s.heap.push o).push { cls := .type "enumerate", data := .fields #[.none, .bool false, .ref s.heap.objs.size, rawInt 0, .none, .none] }) (s.heap.objs.size + 1) s.heap.objs.size 0 .none := by
    have q := Heap.get?_push_size (s.heap.push o) (o := { cls := .type "enumerate", data := .fields #[.none, .bool false, .ref s.heap.objs.size, rawInt 0, .none, .none] }) rfl
    rw [hz] at q
    exact q
  exact ⟨⟨_, he, rfl⟩, h _ he (Heap.get?_push_of_some _ (Heap.get?_push_size _ B.free)) fun b o x => Heap.get?_push_of_some _ (Heap.get?_push_of_some _ x)⟩
def IteT (K : PySem.W.Frag) (a : Addr) : It :=
  ⟨fun i H => ∃ (xs : List V) (x : V), SqT K H a xs ∧ xs[i]? = some x, fun i H v H' => ∃ T x, v = .ref T ∧ H T = none ∧ H' = upd H T (.tup [.int (i : Nat), x]) ∧ ∀ xs, SqT K H a xs → xs[i]? = some x, fun i H => ∃ xs : List V, SqT K H a xs ∧ xs.length ≤ i⟩
theorem turn_enumT {P : Program} {w : World} {K : PySem.W.Frag} {elts : List Expr} {kk : Nat} {tpos : Pos} (a e it : Addr) :
    Turn P w K (.Tuple elts kk tpos) (IteT K a) [e, it] e (fun i h => (∃ old, IsEnum h e it ((i : Nat) : Int) old) ∧ h.IsTupleIter it a i ∧ e ≠ it ∧ e ≠ a ∧ a ≠ it) where
  mem := by simp
  obj := fun i h st b hb => by
    obtain ⟨⟨old, he⟩, ⟨o, ho, hc, hd⟩, _⟩ := st
    have e' : b = e ∨ b = it := by simpa using hb
    rcases e' with z | z
    · rw [z]; exact ⟨_, he, fun v q => nomatch q⟩
    · rw [z]; exact ⟨o, ho, fun v q => by rw [hd] at q; cases q⟩
  keep := fun i h h' st k => let ⟨⟨old, he⟩, hi, hne⟩ := st; ⟨⟨old, k e (by simp) _ he⟩, hi.at fun o q => k it (by simp) o q, hne⟩
  item := by
    intro X hP hw hK hc i pins s σ H E I hf st hg
    subst hP hw hK
    obtain ⟨⟨old, he⟩, hit, hne, hea, hai⟩ := st
    obtain ⟨xs, x, hq, hx⟩ := hg
    obtain ⟨its, rv, p, hz⟩ := I.tuple hq
    obtain ⟨u, hu, ru⟩ := rv.get hx
    have hel : e < s.heap.objs.size := Heap.lt_size he
    have hil : it < s.heap.objs.size := by obtain ⟨_, q, _⟩ := hit; exact Heap.lt_size q
    have D := Draws.tuple (prog := X.prog) (w := X.w) (A := X.A.in1) (show X.A.in1.handled = none from I.ok.hd hc) it a hai its.toArray
    have hlen := rv.length
    have hi : i < its.toArray.size := by
      have := (List.getElem?_eq_some_iff.mp hx).1
      rw [List.size_toArray]; omega
    refine wpAny_pyNext_enum_itemD D he ⟨hit, p⟩ hi hne (by simp [hne, hea]) fun x' h' tk hP ho st' hT hsz hk => ?_
    have ex : x' = u := by
      have q1 : its[i]? = some x' := by simpa using hP
      rw [hu] at q1
      exact (Option.some.inj q1).symm
    subst ex
    refine ⟨_, rfl, wpAny_letOwnedTupleGo_enum (s := { s with heap := h', toks := tk + 1 }) ho fun h'' he' sb => ?_⟩
    have hT2 : h''.get? s.heap.objs.size = some { cls := .type "tuple", data := .seq #[.int i tk, x'] } := (sb.2 _ (Nat.ne_of_gt hel)).trans hT
    have new : ObjOk X.prog X.w (upd H s.heap.objs.size (.tup [.int (i : Nat), x])) h'' s.heap.objs.size (.tup [.int (i : Nat), x]) :=
      ⟨by show 2 ≤ sizeLine; decide, [.int i tk, x'], .cons ⟨_, rfl⟩ (.cons ru .nil), ⟨_, hT2, rfl, _, rfl⟩⟩
    have I1 : Inv X pins σ (upd H s.heap.objs.size (.tup [.int (i : Nat), x])) { s with heap := h'', toks := tk + 1 } :=
      I.turnedNew (ch := [e, it]) (fun b ob hb q => (sb.2 b (fun z => hb (by simp [z]))).trans (hk b ob (fun z => hb (by simp [z])) (fun z => hb (by simp [z])) q)) hf (Nat.le_refl _) new
    refine ⟨.ref s.heap.objs.size, _, I1, rfl, ⟨_, x, rfl, I.hok.fresh (Nat.le_refl _), rfl, fun ys hy => by rw [I.tuple_inj hy hq]; exact hx⟩, ⟨⟨x', ?_⟩, st'.1.at fun o q => (sb.2 it (Ne.symm hne)).trans q, hne, hea, hai⟩, fun b hb => ?_⟩
    · have e1 : ((i + 1 : Nat) : Int) = (i : Int) + 1 := by omega
      rw [e1]; exact he'
    · have hb' : b < s.heap.objs.size := by
        have e' : b = e ∨ b = it := by simpa using hb
        rcases e' with z | z
        · rw [z]; exact hel
        · rw [z]; exact hil
      rw [upd_ne (Nat.ne_of_lt hb')]
      exact (hf b hb).1
  done := by
    intro X hP hw hK hc i pins s σ H E I hf st hg
    subst hP hw hK
    obtain ⟨⟨old, he⟩, hit, hne, hea, hai⟩ := st
    obtain ⟨xs, hq, hx⟩ := hg
    obtain ⟨its, rv, p, hz⟩ := I.tuple hq
    obtain ⟨f0, f1, f2, f3, f4, f5⟩ := hf it (by simp)
    have hl := rv.length
    have hT : s.TypeIs (.ref e) "enumerate" := ⟨_, he, rfl⟩
    unfold pyNext
    refine wpAny_bind (wpAny_attempt (wpAny_callSpecial?_slot (name := Str.ofString "__next__") hT F.slot_enumerate_next
      (wpAny_call_entry F.slot_enumerate_next hT F.entry_enumerate_next ?_ (F.args_enumerate_next_1 _))))
    show wpAny _ _ (field (.ref e) 2 >>= _) _ _ _
    refine wpAny_bind (wpAny_field he rfl (x := .ref it) rfl ?_)
    refine wpAny_bind (wpAny_nextOf_tuple_end (I.ok.hd hc) hit p (by simp; omega) fun h' x he' hx' => ?_)
    obtain ⟨o, ho, hc⟩ := hx'
    refine wpAny_bind (wpAny_isInstance (T := "StopIteration") (b := true) ⟨o, ho, hc⟩ isSubtype_stop ?_)
    exact wpAny_pure ⟨rfl, I.turned (t' := s.toks) (fun b o hb q => he' b o hb q) f0 f1 f3 f4 f5⟩
  self := fun A i s Q E st h => let ⟨⟨_, he⟩, _⟩ := st; wpAny_pyIter_enum he h
def iEnumT (K : PySem.W.Frag) (ta : TA) : TI := fun σ H R => ta σ H fun vs H1 => ∃ a xs, vs = [.ref a] ∧ SqT K H1 a xs ∧ R (IteT K a) H1
theorem pi_enumT {X : Cx} {e : Expr} {ta : TA} {p pos tpos : Pos} {elts : List Expr} {kk : Nat} (hg : Gl X "enumerate") (hm : X.mg "enumerate" = none) (ha : PA X [e] ta) (hs : starEach [e] X.env = [(false, eval e X.env)] := by rfl) :
    PI X (.Tuple elts kk tpos) (.Call (.Name "enumerate" p) [e] [] pos) (iEnumT X.K ta) := by
  refine ⟨fun pins s σ H R I h => ?_⟩
  refine Call_ (ld_blt I hg hm boot_enumerate (PyProof.Rows.callWith_type1 (thn (ha.run pos pins s σ H _ I h) fun us s1 ⟨vs, H1, I1, r1, q1⟩ => ?_) hs rfl))
  obtain ⟨a, xs, ex, hq, q⟩ := q1
  subst ex
  cases r1 with
  | cons r rr =>
    cases rr
    cases r
    obtain ⟨its, rv, p', hz⟩ := I1.tuple hq
    have hal : a < s1.heap.objs.size := p'.lt
    refine enumCall1 (begins_tuple a its.toArray) (show s1.heap.IsTuple a its.toArray from p') fun h' he hit hk => wpAny_pyIter_enum he ?_
    have I2 : Inv X pins σ H1 { s1 with heap := h' } := I1.kept (t' := s1.toks) hk
    refine ⟨s1.heap.objs.size + 1, [s1.heap.objs.size + 1, s1.heap.objs.size], _, _, H1, rfl, I2, turn_enumT a (s1.heap.objs.size + 1) s1.heap.objs.size, ⟨⟨.none, he⟩, ⟨_, hit, rfl, rfl⟩, Nat.succ_ne_self _, Nat.ne_of_gt (Nat.lt_succ_of_lt hal), Nat.ne_of_lt hal⟩, fun b hb => ?_, q⟩
    have e' : b = s1.heap.objs.size + 1 ∨ b = s1.heap.objs.size := by simpa using hb
    have hle : s1.heap.objs.size ≤ b := by
      rcases e' with z | z
      · rw [z]; exact Nat.le_add_right _ _
      · rw [z]; exact Nat.le_refl _
    exact I1.fpOk hle (I1.hok.fresh hle)
/-- a comprehension over enumerate of a tuple that stays -/
theorem lc_enumT {K : PySem.W.Frag} {a : Addr} {xs : List V} {g : TG} {tt : TT} {te : TE} {vs : List Nat} {σ : L2.St} {H1 : Hp} {D : Addr} {Qd : Hp → Prop} (Pv : Nat → Hp → Prop) (h0 : Pv 0 (upd H1 D (.lst []))) (hl : ∀ i H, i ≤ xs.length → Pv i H → SqT K H a xs)
    (hs : ∀ i x H T, xs[i]? = some x → Pv i H → H T = none → g (.ref T) (wipe σ vs) (upd H T (.tup [.int (i : Nat), x])) fun σ2 H2 => wipe σ2 vs = wipe σ vs ∧ tt σ2 H2 fun b H3 => if b = true then te σ2 H3 fun y H4 => ∃ acc, H4 D = some (.lst acc) ∧ acc.length < sizeLine ∧ Pv (i + 1) (upd H4 D (.lst (acc ++ [y]))) else Pv (i + 1) H3)
    (hd : ∀ H, Pv xs.length H → Qd H) :
    ∃ W : Nat → Nat → Hp → Prop, (∃ m, W 0 m (upd H1 D (.lst []))) ∧ ∀ i m H, W i m H →
      ((IteT K a).stop i H ∧ Qd H) ∨ ((IteT K a).go i H ∧ ∃ Nx : Hp → Prop, (∀ H', Nx H' → ∃ m', m' < m ∧ W (i + 1) m' H') ∧ ∀ x H', (IteT K a).yld i H x H' → g x (wipe σ vs) H' fun σ2 H2 => wipe σ2 vs = wipe σ vs ∧ tt σ2 H2 fun b H3 => if b = true then te σ2 H3 fun y H4 => ∃ acc, H4 D = some (.lst acc) ∧ acc.length < sizeLine ∧ Nx (upd H4 D (.lst (acc ++ [y]))) else Nx H3) := by
  refine ⟨fun i m H => m = xs.length - i ∧ i ≤ xs.length ∧ Pv i H, ⟨xs.length, by simp, Nat.zero_le _, h0⟩, ?_⟩
  rintro i m H ⟨rfl, hi, p⟩
  have q := hl i H hi p
  by_cases hlt : i < xs.length
  · refine .inr ⟨⟨xs, xs[i], q, by simp [hlt]⟩, Pv (i + 1), fun H' p' => ⟨xs.length - (i + 1), by omega, rfl, hlt, p'⟩, fun x H' y => ?_⟩
    obtain ⟨T, z, e, hT, eH, y⟩ := y
    subst e eH
    exact hs i z H T (y xs q) p hT
  · have e : i = xs.length := by omega
    subst e
    exact .inl ⟨⟨xs, q, Nat.le_refl _⟩, hd H p⟩
end K14
set_option Elab.async false
set_option linter.all false
set_option maxRecDepth 100000
set_option maxHeartbeats 4000000
/-! Own rules, third part: a lambda with a parameter, handed to a def that calls it. -/
namespace K14
open PySem PySem.Spec PyProof.Rows L2 LamX NdefX
/-! ### the lambda's object -/
def LamO (f : Addr) (F : NF) (body : Expr) : HO := .ext fun h => ∃ (od : Option Addr) (sl : Array (Option Value)) (pm ctv : Value), h.get? f = some (⟨.type "function", od, .func (PySem.W.kla_fn "<lambda>" F.qual F.params body F.scope F.cl pm (.ref F.c) ctv), sl⟩ : Obj)
theorem lamO_at {P : Program} {w : World} {H : Hp} {h : Heap} {f : Addr} {F : NF} {body : Expr} (hok : HOk P w H h) (e : H f = some (LamO f F body)) : ∃ (od : Option Addr) (sl : Array (Option Value)) (pm ctv : Value), h.get? f = some (⟨.type "function", od, .func (PySem.W.kla_fn "<lambda>" F.qual F.params body F.scope F.cl pm (.ref F.c) ctv), sl⟩ : Obj) := by
  obtain ⟨z, _, _⟩ := hok f _ e
  exact z
/-- some lambda stands at f -/
def FnTr (H : Hp) (f : Addr) : Prop := ∃ F body, H f = some (LamO f F body)
theorem FnTr.same {H H' : Hp} {f : Addr} (h : FnTr H f) (e : L2.Same H H') : FnTr H' f := by
  obtain ⟨F, b, z⟩ := h
  exact ⟨F, b, e _ _ z⟩
theorem FnTr.at_ {P : Program} {w : World} {H : Hp} {h : Heap} {f : Addr} (hok : HOk P w H h) (e : FnTr H f) : PySem.W.FnAt f h := by
  obtain ⟨F, b, z⟩ := e
  obtain ⟨od, sl, pm, ctv, ho⟩ := lamO_at hok z
  exact ⟨_, od, _, sl, ho⟩
/-- the lambda is made, and tracked -/
theorem lam_makeT {X : Cx} {pins : List (Addr × Obj)} {σ : L2.St} {H : Hp} {s : Shared} {T : List (Addr × Str)} {c P : Addr} {params : Arguments} {body : Expr} {scope : Scope} {pos : Pos} {E : Value → Shared → Prop} {Q : Value → Shared → Prop} (I : Inv X pins σ H s) (TB : TabB X.base X.mg c P) (hcode : X.env.code = .ref c)
    (hm : (P, X.env.qual ++ "<lambda>") ∈ T) (hu : ∀ p ∈ T, p.1 = P → p.2 = X.env.qual ++ "<lambda>") (hT : Tabs T H) (hdef : defaultsOf params X.env = ([], [])) (hfree : ∀ y ∈ scope.names, y.2 = .free → ∃ c, X.env.cells.lookup y.1 = some c)
    (h : ∀ (f c' : Addr) (H1 : Hp) (s' : Shared), Inv X pins σ H1 s' → ExtN H H1 → (∀ b, H1 b = Option.none → H b = Option.none) → Tabs T H1 → H f = none → H1 f = some (LamO f ⟨"<lambda>", X.env.qual ++ "<lambda>", params, [], scope, cloFrom X.env.cells scope.names [], c'⟩ body) →
      H1 c' = some (CodeO c' (X.env.qual ++ "<lambda>")) → Q (.ref f) s') :
    wpAny (model X.prog X.w) X.A (eval (.Lambda params body scope pos) X.env) Q E s := by
  obtain ⟨ps, hP, ht, ha⟩ := hT _ hm
  refine PySem.W.kla_eval hdef ?_
  have bP : s.heap.BuiltinsAt X.mg P := TB.bm.keeps I.bk
  have hP' : s.heap.get? P = some { cls := .none, data := .fields ps } := I.hok P _ hP
  have lay : ∀ {H' : Hp} {h' : Heap} {tk tk' : Nat} (c' : Addr) (pm ctv : Value), Inv X pins σ H' { s with heap := h', toks := tk } →
      Inv X pins σ (upd H' h'.objs.size (LamO h'.objs.size ⟨"<lambda>", X.env.qual ++ "<lambda>", params, [], scope, cloFrom X.env.cells scope.names [], c'⟩ body)) { s with heap := h'.push (PySem.W.kla_obj "<lambda>" (X.env.qual ++ "<lambda>") params body scope (cloFrom X.env.cells scope.names []) pm c' ctv), toks := tk' } := fun {H' h' tk tk'} c' pm ctv I' => by
    refine I'.laid (a := h'.objs.size) (t' := tk') (fun b u e => Heap.get?_push_of_some _ e) (Nat.le_refl _) ?_
    have e : (h'.push (PySem.W.kla_obj "<lambda>" (X.env.qual ++ "<lambda>") params body scope (cloFrom X.env.cells scope.names []) pm c' ctv)).get? h'.objs.size = some (PySem.W.kla_obj "<lambda>" (X.env.qual ++ "<lambda>") params body scope (cloFrom X.env.cells scope.names []) pm c' ctv) := Heap.get?_push_size _ rfl
    exact ⟨⟨_, _, pm, ctv, e⟩, ⟨_, e⟩, fun h1 h2 ⟨od, sl, p, t, z⟩ st => ⟨od, sl, p, t, st _ z⟩⟩
  cases hc : codeAmong pos ps.toList with
  | none =>
    refine PySem.W.kla_makeFunction (mg := X.mg) (c := c) (P := P) (ps := ps) (closure_ok hfree) I.ok.glob (I.mod.glob.keeps I.bk) hcode (TB.code.keeps I.bk) hP' ht hc TB.gP bP fun c' ctv h' tk hx hge hlt hrec htb => ?_
    obtain ⟨c2, oc, vs, t, e2, hoc, hd, hv⟩ := hrec
    cases e2
    have hsz : s.heap.objs.size ≤ h'.objs.size := Nat.le_trans hge (Nat.le_of_lt hlt)
    have nC : H c' = none := I.hok.fresh hge
    have I1 := inv_table (t' := tk) (q := X.env.qual ++ "<lambda>") (more := #[rawInt pos.line, rawInt pos.col, .ref c']) (h' := h') I hP (fun b o hb e => hx b o hb e) htb hge ⟨oc, vs, t, hoc, hd, hv⟩
    have hE : ExtN H (upd (upd H P (.tbl (ps ++ #[rawInt pos.line, rawInt pos.col, .ref c']))) c' (CodeO c' (X.env.qual ++ "<lambda>"))) := fun b o e n => by
      rw [upd_ne (ne_of_none e nC), upd_ne (fun z => n ps (Option.some.inj (e.symm.trans (by rw [z]; exact hP))))]
      exact e
    have eL : (ps ++ #[rawInt pos.line, rawInt pos.col, .ref c']).toList = ps.toList ++ [rawInt pos.line, rawInt pos.col, .ref c'] := by simp
    have T1 : Tabs T (upd (upd H P (.tbl (ps ++ #[rawInt pos.line, rawInt pos.col, .ref c']))) c' (CodeO c' (X.env.qual ++ "<lambda>"))) := fun p hp => by
      by_cases hb : p.1 = P
      · rw [hu p hp hb, hb]
        refine ⟨_, by rw [upd_ne (ne_of_none hP nC), upd_same], by rw [eL]; exact PySem.TriplesOk_snoc _ _ _ _ ht, fun p' cv hcv => ?_⟩
        rw [eL] at hcv
        rcases among_app _ ht hcv with z | z
        · obtain ⟨c0, e1, e2⟩ := ha p' cv z
          exact ⟨c0, e1, hE _ _ e2 codeO_ne⟩
        · exact ⟨c', z, upd_same⟩
      · obtain ⟨ps', a1, a2, a3⟩ := hT p hp
        refine ⟨ps', by rw [upd_ne (ne_of_none a1 nC), upd_ne hb]; exact a1, a2, fun p' cv hcv => ?_⟩
        obtain ⟨c0, e1, e2⟩ := a3 p' cv hcv
        exact ⟨c0, e1, hE _ _ e2 codeO_ne⟩
    have nF := I1.hok.fresh (Nat.le_refl _)
    refine h h'.objs.size c' _ _ (lay (tk' := tk) c' ((X.mg "__name__").getD .none) ctv I1) (fun b o e n => ?_) (fun b e => upd_none (upd_none (upd_none e))) (T1.ext fun b o e => ?_) (I.hok.fresh hsz) upd_same ?_
    · have e1 := hE b o e n
      exact (upd_ne (ne_of_none e1 nF)).trans e1
    · exact (upd_ne (ne_of_none e nF)).trans e
    · exact (upd_ne (Nat.ne_of_lt hlt)).trans upd_same
  | some cv =>
    obtain ⟨c', e, hco⟩ := ha pos cv hc
    subst e
    refine PySem.W.kla_makeFunctionHit (mg := X.mg) (c := c) (P := P) (ps := ps) (closure_ok hfree) I.ok.glob (I.mod.glob.keeps I.bk) hcode (TB.code.keeps I.bk) hP' ht hc bP fun ctv h' tk hx hsz => ?_
    have I1 : Inv X pins σ H { s with heap := h', toks := tk } := I.kept hx
    have nF : H h'.objs.size = none := I1.hok.fresh (Nat.le_refl _)
    refine h h'.objs.size c' _ _ (lay (tk' := tk) c' ((X.mg "__name__").getD .none) ctv I1) (fun b o e n => ?_) (fun b e => upd_none e) (hT.ext fun b o e => ?_) nF upd_same ?_
    · exact (upd_ne (ne_of_none e nF)).trans e
    · exact (upd_ne (ne_of_none e nF)).trans e
    · exact (upd_ne (ne_of_none hco nF)).trans hco
abbrev lamF (X : Cx) (params : Arguments) (scope : Scope) (c' : Addr) : NF := ⟨"<lambda>", X.env.qual ++ "<lambda>", params, [], scope, cloFrom X.env.cells scope.names [], c'⟩
def tLamE (T : List (Addr × Str)) (mk : Addr → NF) (body : Expr) : TE := fun σ H Q => Tabs T H ∧ ∀ (f c' : Addr) (H1 : Hp), ExtN H H1 → (∀ b, H1 b = Option.none → H b = Option.none) → Tabs T H1 → H f = none → H1 f = some (LamO f (mk c') body) → H1 c' = some (CodeO c' (mk c').qual) → Q (.ref f) H1
theorem pe_lam {X : Cx} {T : List (Addr × Str)} {c P : Addr} {params : Arguments} {body : Expr} {scope : Scope} {pos : Pos} (TB : TabB X.base X.mg c P) (hcode : X.env.code = .ref c) (hm : (P, X.env.qual ++ "<lambda>") ∈ T) (hu : ∀ p ∈ T, p.1 = P → p.2 = X.env.qual ++ "<lambda>")
    (hfree : ∀ y ∈ scope.names, y.2 = .free → X.env.scope.names.lookup y.1 = some .cell ∨ X.env.scope.names.lookup y.1 = some .free) (hdef : defaultsOf params X.env = ([], []) := by rfl) :
    PE X (.Lambda params body scope pos) (tLamE T (lamF X params scope) body) := by
  refine ⟨fun pins s σ H Q I h => ?_⟩
  obtain ⟨hT, h⟩ := h
  have hfr : ∀ y ∈ scope.names, y.2 = .free → ∃ c, X.env.cells.lookup y.1 = some c := fun y hy e => (hfree y hy e).elim (fun z => I.ok.has _ (.inl z)) fun z => I.ok.has _ (.inr z)
  refine lam_makeT I TB hcode hm hu hT hdef hfr fun f c' H1 s' I1 eN nn T1 f0 f1 c1 => ?_
  exact ⟨.ref f, H1, I1, rfl, h f c' H1 eN nn T1 f0 f1 c1⟩
/-! ### captured cells, tracked for the time of a call -/
def CelO (c : Addr) (o : Obj) : HO := .ext fun h => h.get? c = some o
def IsCl (cl : List (Str × Addr)) (a : Addr) : Prop := ∃ y, cl.lookup y = some a
open Classical in
noncomputable def hid (cl : List (Str × Addr)) (H : Hp) : Hp := fun a => if IsCl cl a then none else H a
theorem hid_in {cl : List (Str × Addr)} {H : Hp} {a : Addr} (h : IsCl cl a) : hid cl H a = none := by unfold hid; rw [if_pos h]
theorem hid_out {cl : List (Str × Addr)} {H : Hp} {a : Addr} (h : ¬ IsCl cl a) : hid cl H a = H a := by unfold hid; rw [if_neg h]
theorem hid_some {cl : List (Str × Addr)} {H : Hp} {a : Addr} {o : HO} (h : hid cl H a = some o) : ¬ IsCl cl a ∧ H a = some o := by
  by_cases z : IsCl cl a
  · rw [hid_in z] at h; cases h
  · rw [hid_out z] at h; exact ⟨z, h⟩
theorem hid_none {cl : List (Str × Addr)} {H : Hp} {a : Addr} (h : H a = none) : hid cl H a = none := by
  by_cases z : IsCl cl a
  · exact hid_in z
  · rw [hid_out z]; exact h
/-- what the cells hold -/
structure CellsV (cl : List (Str × Addr)) (fr : List Str) (ws : List (Option V)) (H : Hp) : Prop where
  len : ws.length = fr.length
  all : ∀ y c, cl.lookup y = some c → ∃ (o : Obj) (v : Option Value), H c = some (CelO c o) ∧ o.data = .cell v
  inj : ∀ x y c, cl.lookup x = some c → cl.lookup y = some c → x = y
  has : ∀ (i : Nat) (y : Str), fr[i]? = some y → ∃ c, cl.lookup y = some c ∧ ∀ v, ws[i]? = some (some v) → ∃ (u : Value) (o : Obj), L2.RelV v u ∧ H c = some (CelO c o) ∧ o.data = .cell (some u)
theorem CellsV.same {cl : List (Str × Addr)} {fr : List Str} {ws : List (Option V)} {H H' : Hp} (C : CellsV cl fr ws H) (e : L2.Same H H') : CellsV cl fr ws H' := by
  refine ⟨C.len, fun y c h => ?_, C.inj, fun i y h => ?_⟩
  · obtain ⟨o, v, h1, h2⟩ := C.all y c h
    exact ⟨o, v, e _ _ h1, h2⟩
  · obtain ⟨c, h1, h2⟩ := C.has i y h
    refine ⟨c, h1, fun v hv => ?_⟩
    obtain ⟨u, o, a, b, d⟩ := h2 v hv
    exact ⟨u, o, a, e _ _ b, d⟩
theorem celO_at {P : Program} {w : World} {H : Hp} {h : Heap} {c : Addr} {o : Obj} (hok : HOk P w H h) (e : H c = some (CelO c o)) : h.get? c = some o := by
  obtain ⟨z, _, _⟩ := hok c _ e
  exact z
theorem celO_ok {P : Program} {w : World} {H : Hp} {h : Heap} {c : Addr} {o : Obj} (e : h.get? c = some o) : ObjOk P w H h c (CelO c o) := ⟨e, ⟨_, e⟩, fun h1 h2 z st => st _ z⟩
theorem CellsV.at_ {P : Program} {w : World} {cl : List (Str × Addr)} {fr : List Str} {ws : List (Option V)} {H : Hp} {h : Heap} (C : CellsV cl fr ws H) (hok : HOk P w H h) : CellsAt cl fr ws h (hid cl H) := by
  refine ⟨C.len, fun y c e => ⟨hid_in ⟨y, e⟩, ?_⟩, C.inj, fun i y e => ?_⟩
  · obtain ⟨o, v, h1, h2⟩ := C.all y c e
    exact ⟨v, o, celO_at hok h1, h2⟩
  · obtain ⟨c, h1, h2⟩ := C.has i y e
    refine ⟨c, h1, fun v hv => ?_⟩
    obtain ⟨u, o, a, b, d⟩ := h2 v hv
    exact ⟨u, a, o, celO_at hok b, d⟩
/-- own dicts and tuples are no cells -/
theorem CellsV.hidOk {P : Program} {w : World} {cl : List (Str × Addr)} {fr : List Str} {ws : List (Option V)} {H : Hp} {h : Heap} (C : CellsV cl fr ws H) (hok : HOk P w H h) : HOk P w (hid cl H) h := fun b u e => by
  obtain ⟨n, e1⟩ := hid_some e
  have no : ∀ d o, H d = some o → (∀ c ob, o ≠ CelO c ob) → hid cl H d = some o := fun d o e2 ne => by
    by_cases z : IsCl cl d
    · obtain ⟨y, hy⟩ := z
      obtain ⟨ob, v, h1, _⟩ := C.all y d hy
      rw [h1] at e2
      exact absurd (Option.some.inj e2).symm (ne d ob)
    · rw [hid_out z]; exact e2
  exact (hok b u e1).stay (fun d v _ q => q) (fun d q => no d _ q (fun c ob z => by unfold CelO at z; cases z)) fun d xs q => no d _ q (fun c ob z => by unfold CelO at z; cases z)
/-! ### what a called lambda gives -/
def CallsTo (P : Program) (w : World) (K : PySem.W.Frag) (mg : Str → Option Value) (base : Heap) (k : Nat) (f : Addr) (H0 : Hp) (S : Int → Bool) : Prop :=
  ∀ (A : Around) (outer : List Env) (s : Shared) (H : Hp) (us : List Value) (n : Int) (Q : VK), Room k A → Env0 P w K mg base A outer s H → L2.Same H0 H → Vals [.int n] us → (∀ H', L2.Same H H' → Q (.bl (S n)) H') →
    codeAny (model P w) A (.call (.ref f) ⟨us, []⟩) (CR L2.CX0 outer P w H s Q L2.E0) s
theorem CallsTo.same {P : Program} {w : World} {K : PySem.W.Frag} {mg : Str → Option Value} {base : Heap} {k : Nat} {f : Addr} {H0 H1 : Hp} {S : Int → Bool} (h : CallsTo P w K mg base k f H0 S) (e : L2.Same H0 H1) : CallsTo P w K mg base k f H1 S :=
  fun A outer s H us n Q hr e0 sm r q => h A outer s H us n Q hr e0 (e.trans sm) r q
theorem lam_calls {P : Program} {w : World} {K : PySem.W.Frag} {mg : Str → Option Value} {base : Heap} {k : Nat} {f : Addr} {F : NF} {body : Expr} {N fr : List Str} {x : Str} {ws : List (Option V)} {H0 : Hp} {S : Int → Bool} (Sc : NScope N [x] fr F.scope)
    (hb : ∀ (pm cv ctv u : Value), bindArgs (PySem.W.kla_fn "<lambda>" F.qual F.params body F.scope F.cl pm cv ctv) ⟨[u], []⟩ = pure [(x, u)]) (hf : H0 f = some (LamO f F body)) (hc : H0 F.c = some (CodeO F.c F.qual)) (C0 : CellsV F.cl fr ws H0)
    (hbody : ∀ (A : Around) (outer : List Env) (s : Shared) (H : Hp) (n : Int), Room k (A.deeper (envF F f s.heap.objs.size)) → L2.Same (hid F.cl H0) H →
      ∃ t, PE (ncx L2.CX0 P w K mg base N F f A outer s H L2.E0) body t ∧ t (startF N [.int n] ws) H fun v H' => v = .bl (S n) ∧ L2.Same H H') :
    CallsTo P w K mg base (k + 1) f H0 S := by
  intro A outer s H us n Q hr e0 sm r q
  have C : CellsV F.cl fr ws H := C0.same sm
  have CA : CellsAt F.cl fr ws s.heap (hid F.cl H) := C.at_ e0.hok
  have hok' := C.hidOk e0.hok
  have nfr : ∀ b, IsCl F.cl b → b ∉ frs outer := fun b ⟨y, hy⟩ hb => by
    obtain ⟨o, v, h1, _⟩ := C.all y b hy
    rw [e0.frf b hb] at h1
    cases h1
  have e0' : Env0 P w K mg base A outer s (hid F.cl H) := ⟨e0.frames, e0.mod, fun b o e => ⟨(e0.bs b o e).1, hid_none (e0.bs b o e).2⟩, e0.bsz, e0.funs, fun b hb => hid_none (e0.frf b hb), hok', e0.bare⟩
  have lim : s.heap.NoLimit := e0.mod.nolimit.keeps fun b o e => (e0.bs b o e).1
  obtain ⟨od, sl, pm, ctv, ho⟩ := lamO_at e0.hok (sm _ _ hf)
  have hl : [V.int n].length = us.length := r.length
  obtain ⟨u, rfl⟩ : ∃ u, us = [u] := by
    match us, hl with
    | [u], _ => exact ⟨u, rfl⟩
  refine PySem.W.kla_callFunE hr.depth ho rfl Sc.co Sc.gen rfl (codeO_at e0.hok (sm _ _ hc)) ?_
  rw [hb pm (.ref F.c) ctv u]
  refine wpAny_pure (wpAny_newFunctionEnv Sc.nocell (fun y hy => ?_) (fun h₁ hns hsb => ⟨lim.fresh _ hsb, ?_⟩) Sc.kind)
  · have e : y = (x, u) := by simpa using hy
    rw [e]
    exact Sc.par x (by simp)
  show codeAny _ _ (.expr body (envF F f s.heap.objs.size)) _ _
  have kp : ∀ b o, s.heap.get? b = some o → h₁.get? b = some o := fun b o e => hsb.extBut b o (Nat.ne_of_lt (Heap.lt_size e)) (Heap.get?_push_of_some _ e)
  have sm' : L2.Same (hid F.cl H0) (hid F.cl H) := fun b o e => by
    obtain ⟨z, e1⟩ := hid_some e
    rw [hid_out z]
    exact sm _ _ e1
  obtain ⟨t, ht, hq⟩ := hbody A outer s (hid F.cl H) n (hr.deeper _) sm'
  have I : Inv (ncx L2.CX0 P w K mg base N F f A outer s (hid F.cl H) L2.E0) [] (startF N [.int n] ws) (hid F.cl H) { s with heap := h₁, toks := s.toks + ([x].zip [u]).length } := inv_startN (us := [u]) Sc hr.hd e0' rfl r CA hns kp
  refine PySem.W.kla_codeExpr (wpAny_mono (ht.run [] _ _ _ _ I hq) (fun v s' hv => ?_) fun e s' hq => hq)
  obtain ⟨y, H1, J, rv, ey, sm1⟩ := hv
  subst ey
  have un : Un (frs outer) [] (hid F.cl H) H1 s.heap s'.heap := J.base
  have n1 : ∀ b, IsCl F.cl b → H1 b = none := fun b hb => by
    obtain ⟨y, hy⟩ := id hb
    obtain ⟨o, v, h1, _⟩ := C.all y b hy
    exact un.free b o (celO_at e0.hok h1) (hid_in hb) (by simp)
  let H3 : Hp := fun a => match H1 a with
    | some o => some o
    | none => open Classical in if IsCl F.cl a then H a else none
  have h3a : ∀ b o, H1 b = some o → H3 b = some o := fun b o e => by show (match H1 b with | some o => some o | none => _) = _; rw [e]
  have h3b : ∀ b, IsCl F.cl b → H3 b = H b := fun b hb => by show (match H1 b with | some o => some o | none => _) = _; rw [n1 b hb]; exact if_pos hb
  have h3c : ∀ b, ¬ IsCl F.cl b → H3 b = H1 b := fun b hb => by
    show (match H1 b with | some o => some o | none => _) = _
    cases e : H1 b with
    | some o => rfl
    | none => exact if_neg hb
  have sm3 : L2.Same H H3 := fun b o e => by
    by_cases hb : IsCl F.cl b
    · rw [h3b b hb]; exact e
    · rw [h3c b hb]
      exact sm1 b o (by rw [hid_out hb]; exact e)
  refine ⟨.bl (S n), H3, J.os, J.bare, ⟨fun b o e hn hfb hx => ?_, fun b o e hn hfb hx => ?_, fun b o e hn hx => ?_, fun b o e hx => un.there b o e hx, fun b xs e => sm3 _ _ e, fun b o w e => sm3 _ _ e, fun b ps e => ⟨#[], by rw [sm3 _ _ e]; simp⟩⟩, fun b o e => ?_, rv, q H3 sm3⟩
  · exact un.keep b o e (hid_none hn) hfb hx
  · exact un.slot b o e (hid_none hn) hfb hx
  · by_cases hb : IsCl F.cl b
    · rw [h3b b hb]; exact hn
    · rw [h3c b hb]; exact un.free b o e (hid_none hn) hx
  · by_cases hb : IsCl F.cl b
    · rw [h3b b hb] at e
      obtain ⟨y, hy⟩ := id hb
      obtain ⟨ob, v, h1, _⟩ := C.all y b hy
      rw [h1] at e
      cases e
      exact celO_ok (un.keep b ob (celO_at e0.hok h1) (hid_in hb) (nfr b hb) (by simp))
    · rw [h3c b hb] at e
      exact (J.hok b o e).stay (fun d v _ q => q) (fun d q => h3a d _ q) fun d xs q => h3a d _ q
/-- f(n), f a name that holds a lambda -/
def tCallV (P : Program) (w : World) (K : PySem.W.Frag) (mg : Str → Option Value) (base : Heap) (k i : Nat) (t : TA) : TE := fun σ H Q => ∃ f, σ[i]? = some (some (.ref f)) ∧ FnTr H f ∧
  t σ H fun vs H1 => ∃ (n : Int) (S : Int → Bool), vs = [.int n] ∧ FnTr H1 f ∧ CallsTo P w K mg base k f H1 S ∧ ∀ H2, L2.Same H1 H2 → Q (.bl (S n)) H2
theorem pe_callV {X : Cx} {k i : Nat} {x : Str} {t : TA} {e : Expr} {es : List Expr} {p pos : Pos} (hr : Room k X.A) (hN : X.N[i]? = some x) (hv : Vis X.env.scope x) (ha : PA X (e :: es) t)
    (hd : (x == ("__debug__" : Str)) = false := by decide) (hcd : (x == ("__classdict__" : Str)) = false := by decide)
    (he : starEach (e :: es) X.env = (false, eval e X.env) :: starEach es X.env := by rfl) (hpl : (backTo pos (starEach es X.env)).any (·.1) = false := by rfl) :
    PE X (.Call (.Name x p) (e :: es) [] pos) (tCallV X.prog X.w X.K X.mg X.base k i t) := by
  refine ⟨fun pins s σ H Q I h => ?_⟩
  obtain ⟨f, hs, hf, ht⟩ := h
  refine wpAny_Call_Name_kw (thn ((pe_var (pos := p) hN hv hd hcd).run pins s σ H (fun v H1 => v = .ref f ∧ H1 = H) I ⟨.ref f, hs, rfl, rfl⟩) fun u s1 ⟨v, H1, I1, r1, q1⟩ => ?_)
  obtain ⟨ev, eH⟩ := q1
  subst ev
  rw [eH] at I1
  obtain rfl : u = Value.ref f := r1
  refine PySem.W.callWith_F (first := []) (hf.at_ I1.hok) (thn (ha.run pos pins s1 σ H _ I1 ht) fun us s2 ⟨vs, H2, I2, r, n, S, ev, h1, h2, q⟩ => ⟨h1.at_ I2.hok, ?_⟩) he hpl
  subst ev
  show wpAny _ _ (call (.ref f) us) _ _ _
  refine wpAny_call (codeAny_mono (h2 X.A X.stack s2 H2 us n Q hr I2.env0 (L2.Same.refl _) r q) fun r s' hq => ?_)
  cases r with
  | error e => exact False.elim hq
  | ok fl =>
    cases fl with
    | ret u => exact I2.after hq
    | next => exact False.elim hq
    | brk => exact False.elim hq
    | cont => exact False.elim hq
/-! ### the call of a def that gets a lambda -/
def tCallC (sp : Sp) (cl : List (Str × Addr)) (fr : List Str) (js : List Nat) (t : TA) : TE := fun σ H Q => t σ H fun vs H1 => ∀ H2 : Hp, (∀ a, ¬ IsCl cl a → H2 a = H1 a) → (∀ a, IsCl cl a → H1 a = none) → CellsV cl fr (js.map (slotAt σ)) H2 →
  sp vs H2 (fun v H3 => L2.Same H2 H3 ∧ Q v (hid cl H3)) L2.E0
theorem pe_callC {X : Cx} {k : Nat} {f : Addr} {fd : FuncData} {ps fr : List Str} {js : List Nat} {cl : List (Str × Addr)} {sp : Sp} {x : Str} {t : TA} {e : Expr} {es : List Expr} {p pos : Pos} (F : FnOk X.prog X.w X.K X.mg X.base L2.CX0 k f fd ps sp) (hr : Room k X.A) (hfn : ∀ y, X.fn y = true) (cp : X.Ok → Caps X cl fr js)
    (hg : Gl X x) (hm : X.mg x = some (.ref f)) (hk : PySem.W.keepIn X.K (.ref f) = true) (hb : Binds X.K fd ps [])
    (ha : PA X (e :: es) t) (hdb : (x == ("__debug__" : Str)) = false := by decide) (he : starEach (e :: es) X.env = (false, eval e X.env) :: starEach es X.env := by rfl) (hpl : (backTo pos (starEach es X.env)).any (·.1) = false := by rfl) :
    PE X (.Call (.Name x p) (e :: es) [] pos) (tCallC sp cl fr js t) := by
  refine ⟨fun pins s σ H Q I h => ?_⟩
  refine wpAny_Call_Name_kw (ld_glob I hg hm ?_ hdb)
  refine PySem.W.callWith_K (h₀ := X.base) I.ok.mod.kin hk (thn (ha.run pos pins s σ H _ I h) fun us s1 ⟨vs, H1, I1, r, q⟩ => ⟨I1.kIn, ?_⟩) he hpl
  have cp := cp I.ok
  have CA : CellsAt cl fr (js.map (slotAt σ)) s1.heap H1 := cells_of I1 cp
  let H2 : Hp := fun a => match H1 a with
    | some o => some o
    | none => open Classical in if IsCl cl a then (s1.heap.get? a).map (CelO a) else none
  have cn : ∀ a, IsCl cl a → H1 a = none := fun a ⟨y, hy⟩ => (CA.all y a hy).1
  have h2a : ∀ b o, H1 b = some o → H2 b = some o := fun b o e => by show (match H1 b with | some o => some o | none => _) = _; rw [e]
  have h2b : ∀ b o, IsCl cl b → s1.heap.get? b = some o → H2 b = some (CelO b o) := fun b o hb e => by
    show (match H1 b with | some o => some o | none => _) = _
    rw [cn b hb]
    show (open Classical in if IsCl cl b then (s1.heap.get? b).map (CelO b) else none) = _
    rw [if_pos hb, e]; rfl
  have h2c : ∀ b, ¬ IsCl cl b → H2 b = H1 b := fun b hb => by
    show (match H1 b with | some o => some o | none => _) = _
    cases e : H1 b with
    | some o => rfl
    | none => exact if_neg hb
  have get : ∀ b, IsCl cl b → ∃ (o : Obj) (v : Option Value), s1.heap.get? b = some o ∧ o.data = .cell v := fun b ⟨y, hy⟩ => by
    obtain ⟨_, v, o, h1, h2⟩ := CA.all y b hy
    exact ⟨o, v, h1, h2⟩
  have CV : CellsV cl fr (js.map (slotAt σ)) H2 := by
    refine ⟨CA.len, fun y c e => ?_, CA.inj, fun i y e => ?_⟩
    · obtain ⟨o, v, h1, h2⟩ := get c ⟨y, e⟩
      exact ⟨o, v, h2b c o ⟨y, e⟩ h1, h2⟩
    · obtain ⟨c, h1, h2⟩ := CA.has i y e
      refine ⟨c, h1, fun v hv => ?_⟩
      obtain ⟨u, ru, o, h3, h4⟩ := h2 v hv
      exact ⟨u, o, ru, h2b c o ⟨y, h1⟩ h3, h4⟩
  have big : ∀ b, IsCl cl b → X.s_0.heap.objs.size ≤ b := fun b ⟨y, hy⟩ => I.ok.cab y b (hfn y) (cp.sub y b hy)
  have hl : ∀ b, IsCl cl b → b ≠ X.env.locals := fun b ⟨y, hy⟩ => I.cne y b (cp.sub y b hy)
  have nfr : ∀ b, b ∈ frs X.stack → ¬ IsCl cl b := fun b hb hc => by
    rcases List.mem_cons.mp (I.stkSub b hb) with e | hb
    · exact hl b hc e
    · obtain ⟨_, o, ho, _⟩ := I.ok.funs.mem hb
      exact absurd (Nat.lt_of_lt_of_le (Heap.lt_size ho) (big b hc)) (Nat.lt_irrefl _)
  have hok2 : HOk X.prog X.w H2 s1.heap := fun b o e => by
    by_cases hb : IsCl cl b
    · obtain ⟨ob, v, h1, _⟩ := get b hb
      rw [h2b b ob hb h1] at e
      cases e
      exact celO_ok h1
    · rw [h2c b hb] at e
      exact (I1.hok b o e).stay (fun d v _ q => q) (fun d q => h2a d _ q) fun d xs q => h2a d _ q
  have e1 := I1.env0
  have e2 : Env0 X.prog X.w X.K X.mg X.base X.A X.stack s1 H2 := by
    refine ⟨e1.frames, e1.mod, fun b o e => ⟨(e1.bs b o e).1, ?_⟩, e1.bsz, e1.funs, fun b hb => ?_, hok2, e1.bare⟩
    · have nb : ¬ IsCl cl b := fun hc => absurd (Nat.lt_of_lt_of_le (Heap.lt_size e) (Nat.le_trans I.ok.bsz (big b hc))) (Nat.lt_irrefl _)
      rw [h2c b nb]
      exact (e1.bs b o e).2
    · rw [h2c b (nfr b hb)]
      exact e1.frf b hb
  have hsp := q H2 h2c cn CV
  have hl : us.length = ps.length := by rw [← r.length]; exact F.len _ _ _ _ hsp
  have hl' : (us ++ []).length = ps.length := by rw [List.append_nil]; exact hl
  have bnd := hb s1 us I1.kIn hl'
  rw [List.append_nil] at bnd
  show wpAny _ _ (call (.ref f) us) _ _ _
  refine wpAny_call (codeAny_mono (F.run X.A X.stack s1 H2 ⟨us, []⟩ us vs _ L2.E0 hr e2 bnd r hsp) fun r s' hq => ?_)
  cases r with
  | error e => exact False.elim hq
  | ok fl =>
    cases fl with
    | next => exact False.elim hq
    | brk => exact False.elim hq
    | cont => exact False.elim hq
    | ret u =>
      obtain ⟨v, H3, os, bare, un, hok, rv, sm, qv⟩ := hq
      have CV3 := CV.same sm
      have old : ∀ b o, H1 b = some o → hid cl H3 b = some o := fun b o e => by
        have nb : ¬ IsCl cl b := fun hc => by rw [cn b hc] at e; cases e
        rw [hid_out nb]
        exact sm _ _ (h2a _ _ e)
      refine ⟨v, hid cl H3, I1.call' (ch := []) os ⟨fun b o e hn hf hx => ?_, fun b o e hn hf hx => ?_, fun b o e hn hx => ?_, un.there, fun b xs e => old _ _ e, fun b o w e => old _ _ e, fun b ps e => ⟨#[], by rw [old _ _ e]; simp⟩⟩ (CV3.hidOk hok) bare (fun b z => absurd z (by simp)), rv, qv⟩
      · by_cases hb : IsCl cl b
        · exact celO_at hok (sm _ _ (h2b b o hb e))
        · exact un.keep b o e (by rw [h2c b hb]; exact hn) hf hx
      · exact un.slot b o e (by rw [h2c b (nfr b hf)]; exact hn) hf hx
      · by_cases hb : IsCl cl b
        · exact hid_in hb
        · rw [hid_out hb]
          exact un.free b o e (by rw [h2c b hb]; exact hn) hx
end K14
set_option Elab.async false
set_option linter.all false
set_option maxRecDepth 100000
set_option maxHeartbeats 4000000
/-! What the walks share: packs of a def and its promise, rows of bools. -/
namespace K14
open PySem PySem.Spec PyProof.Rows L2
/-! ### packs -/
def Has (K : PySem.W.Frag) (mg : Str → Option Value) (x : Str) (st : Stmt) (ps : List Str) : Prop :=
  ∃ f fd, FunD K x x (defArgs st) (defBody st) (defScope st) [] [] f fd ∧ mg x = some (.ref f) ∧ Binds K fd ps []
def HasM (K : PySem.W.Frag) (C : Addr) (m qual : Str) (st : Stmt) (ps : List Str) : Prop :=
  ∃ f fd, FunD K m qual (defArgs st) (defBody st) (defScope st) [] [] f fd ∧ Meth K C m f ∧ Binds K fd ps []
def Ok (P : Program) (w : World) (K : PySem.W.Frag) (mg : Str → Option Value) (base : Heap) (k : Nat) (x : Str) (ps : List Str) (sp : Sp) : Prop :=
  ∃ f fd, FnOk P w K mg base L2.CX0 k f fd ps sp ∧ (mg x = some (.ref f) ∧ ∃ oc od osl, K.lookup f = some ⟨oc, od, .func fd, osl⟩) ∧ PySem.W.keepIn K (.ref f) = true ∧ Binds K fd ps []
def OkM (P : Program) (w : World) (K : PySem.W.Frag) (mg : Str → Option Value) (base : Heap) (k : Nat) (C : Addr) (m : Str) (ps : List Str) (sp : Sp) : Prop :=
  ∃ f fd, FnOk P w K mg base L2.CX0 k f fd ps sp ∧ Meth K C m f ∧ Binds K fd ps []
section
variable {P : Program} {w : World} {K : PySem.W.Frag} {mg : Str → Option Value} {base : Heap}
theorem Has.ok {x : Str} {st : Stmt} {N ps : List Str} {k : Nat} {sp : Sp} (h : Has K mg x st ps) (S : FnScope N ps (defScope st)) (len : ∀ vs H Q E, sp vs H Q E → vs.length = ps.length)
    (hbody : ∀ (f : Addr) (cdv : Value) (A : Around) (outer : List Env) (s : Shared) (H : Hp) (vs : List V) (Q : VK) (E : XK), Room k (A.deeper (envOfC x (defScope st) s.heap.objs.size f cdv)) → sp vs H Q E →
      ∃ t, PSs (cxOf L2.CX0 P w K mg base N x (defScope st) f cdv A outer s H E).nox (defBody st) t ∧ t { nx := fun _ H' => Q .non H', rt := Q } (start N vs) H) : Ok P w K mg base (k + 1) x ps sp := by
  obtain ⟨f, fd, F, hm, hb⟩ := h
  have lk : ∃ oc od osl, K.lookup f = some ⟨oc, od, .func fd, osl⟩ := by
    obtain ⟨oc, od, dV, kV, doc, pm, an, cdv, ct, osl, e, lk, _⟩ := F.ex
    exact ⟨oc, od, osl, lk⟩
  refine ⟨f, fd, F.ok S len fun cdv A outer s H vs Q E hr hs => ?_, ⟨hm, lk⟩, F.kp, hb⟩
  obtain ⟨t, h1, h2⟩ := hbody f cdv A outer s H vs Q E hr hs
  exact ⟨t, h1.nox, h2⟩
theorem HasM.ok {C : Addr} {m qual : Str} {st : Stmt} {N ps : List Str} {k : Nat} {sp : Sp} (h : HasM K C m qual st ps) (S : FnScope N ps (defScope st)) (len : ∀ vs H Q E, sp vs H Q E → vs.length = ps.length)
    (hbody : ∀ (f : Addr) (cdv : Value) (A : Around) (outer : List Env) (s : Shared) (H : Hp) (vs : List V) (Q : VK) (E : XK), Room k (A.deeper (envOfC qual (defScope st) s.heap.objs.size f cdv)) → sp vs H Q E →
      ∃ t, PSs (cxOf L2.CX0 P w K mg base N qual (defScope st) f cdv A outer s H E).nox (defBody st) t ∧ t { nx := fun _ H' => Q .non H', rt := Q } (start N vs) H) : OkM P w K mg base (k + 1) C m ps sp := by
  obtain ⟨f, fd, F, hm, hb⟩ := h
  refine ⟨f, fd, F.ok S len fun cdv A outer s H vs Q E hr hs => ?_, hm, hb⟩
  obtain ⟨t, h1, h2⟩ := hbody f cdv A outer s H vs Q E hr hs
  exact ⟨t, h1.nox, h2⟩
end
section
variable {X : Cx} {k : Nat} {x m : Str} {C : Addr} {ps : List Str} {sp : Sp} {p pos apos : Pos} {e o : Expr} {es : List Expr} {ta : TE} {t : TA}
theorem pe_co (F : Ok X.prog X.w X.K X.mg X.base k x ps sp) (hr : Room k X.A) (hg : Gl X x) (ha : PA X (e :: es) t)
    (hdb : (x == ("__debug__" : Str)) = false := by decide) (he : starEach (e :: es) X.env = (false, eval e X.env) :: starEach es X.env := by rfl) (hpl : (backTo pos (starEach es X.env)).any (·.1) = false := by rfl) :
    PE X (.Call (.Name x p) (e :: es) [] pos) (tCall sp [] L2.E0 t) := by
  obtain ⟨f, fd, F, hm, hk, hb⟩ := F
  exact pe_call F hr hg hm.1 hk hb .nil L2.pass0 ha hdb he hpl
theorem pe_mo (c : Cls X.K C) (F : OkM X.prog X.w X.K X.mg X.base k C m ps sp) (hr : Room k X.A) (he : PE X o ta) (ha : PA X (e :: es) t) {pl : Sem Bool}
    (hst : starEach (e :: es) X.env = (false, eval e X.env) :: starEach es X.env := by rfl) (hpl : (backTo pos (starEach es X.env)).any (·.1) = false := by rfl)
    (ht : eval (.Call (.Attribute o m apos) (e :: es) [] pos) X.env = (do
      let ov ← eval o X.env
      standAt apos.atName
      let (f, first) ← holding [ov] (getMethod ov m pl)
      callWith pos f first (backTo pos (starEach (e :: es) X.env)) []) := by rfl) :
    PE X (.Call (.Attribute o m apos) (e :: es) [] pos) (tMeth C m sp [] L2.E0 ta t) := by
  obtain ⟨f, fd, F, hm, hb⟩ := F
  exact pe_meth he c hm F hr hb .nil L2.pass0 ha hst hpl ht
theorem pe_mo0 (c : Cls X.K C) (F : OkM X.prog X.w X.K X.mg X.base k C m ps sp) (hr : Room k X.A) (he : PE X o ta) {pl : Sem Bool}
    (ht : eval (.Call (.Attribute o m apos) [] [] pos) X.env = (do
      let ov ← eval o X.env
      standAt apos.atName
      let (f, first) ← holding [ov] (getMethod ov m pl)
      callWith pos f first (backTo pos (starEach [] X.env)) []) := by rfl) :
    PE X (.Call (.Attribute o m apos) [] [] pos) (tMeth C m sp [] L2.E0 ta tNil) := by
  obtain ⟨f, fd, F, hm, hb⟩ := F
  exact pe_meth0 he c hm F hr hb .nil L2.pass0 ht
end
/-! ### heaps -/
theorem rd_same {H H' : Hp} {a : Addr} {u : HO} (h : Rd H a u) (e : L2.Same H H') : Rd H' a u := by
  rcases h with h | ⟨o, h⟩
  · exact .inl (e _ _ h)
  · exact .inr ⟨o, e _ _ h⟩
theorem sqt_same {K : PySem.W.Frag} {H H' : Hp} {a : Addr} {xs : List V} (h : SqT K H a xs) (e : L2.Same H H') : SqT K H' a xs := by
  rcases h with h | h
  · exact .inl (rd_same h e)
  · exact .inr h
theorem sqt_of {K : PySem.W.Frag} {H : Hp} {a : Addr} {xs : List V} (h : H a = some (.tup xs)) : SqT K H a xs := .inl (.inl h)
theorem sql_of {K : PySem.W.Frag} {H : Hp} {a : Addr} {xs : List V} (h : H a = some (.lst xs)) : SqL K H a xs := .inl (.inl h)
theorem same_new {H : Hp} {a : Addr} {o : HO} (h : H a = none) : L2.Same H (upd H a o) := fun b u e => by
  rw [upd_ne (ne_of_none e h)]; exact e
theorem same_upd {H H' : Hp} {a : Addr} {o : HO} (s : L2.Same H H') (h : H a = none) : L2.Same H (upd H' a o) := fun b u e => by
  rw [upd_ne (ne_of_none e h)]; exact s b u e
/-! ### rows of bools -/
def Bt (K : PySem.W.Frag) (H : Hp) (a : Addr) (r : List Bool) : Prop := SqT K H a (r.map V.bl)
theorem Bt.same {K : PySem.W.Frag} {H H' : Hp} {a : Addr} {r : List Bool} (h : Bt K H a r) (e : L2.Same H H') : Bt K H' a r := sqt_same h e
theorem Bt.of {K : PySem.W.Frag} {H : Hp} {a : Addr} {r : List Bool} (h : H a = some (.tup (r.map V.bl))) : Bt K H a r := sqt_of h
theorem dpAll_row {K : PySem.W.Frag} {H : Hp} : ∀ r : List Bool, DpAll K H (r.map V.bl) (r.map PyData.bool)
  | [] => .nil
  | b :: r => .cons (.bl b) (dpAll_row r)
theorem Bt.dp {K : PySem.W.Frag} {H : Hp} {a : Addr} {r : List Bool} (h : Bt K H a r) : Dp K H (.ref a) (.tuple (r.map PyData.bool)) := .tup h (dpAll_row r)
theorem eqvAll_row : ∀ r s : List Bool, PyData.eqvAll (r.map PyData.bool) (s.map PyData.bool) = decide (r = s)
  | [], [] => by simp [PyData.eqvAll]
  | [], _ :: _ => by simp [PyData.eqvAll]
  | _ :: _, [] => by simp [PyData.eqvAll]
  | a :: r, b :: s => by
    simp only [List.map_cons, PyData.eqvAll, PyData.eqv]
    rw [eqvAll_row r s]
    rw [Bool.eq_iff_iff, Bool.and_eq_true, beq_iff_eq, decide_eq_true_iff, decide_eq_true_iff, List.cons.injEq]
theorem eqv_row (r s : List Bool) : PyData.eqv (.tuple (r.map PyData.bool)) (.tuple (s.map PyData.bool)) = decide (r = s) := by
  simp only [PyData.eqv]
  exact eqvAll_row r s
theorem lay_row : ∀ r : List Bool, PyData.canLayAll0 (r.map PyData.bool) = true
  | [] => by simp [PyData.canLayAll0]
  | b :: r => by simp only [List.map_cons, PyData.canLayAll0, PyData.canLay0, Bool.true_and]; exact lay_row r
theorem depth_row : ∀ r : List Bool, PyData.depthAll (r.map PyData.bool) ≤ 1
  | [] => by simp [PyData.depthAll]
  | b :: r => by
    have := depth_row r
    simp only [List.map_cons, PyData.depthAll, PyData.depth]; omega
theorem shaped_row (r : List Bool) : SeqAt.shaped (.tuple (r.map PyData.bool)) = true := by
  show (PyData.canLay0 (.tuple (r.map PyData.bool)) && decide (PyData.depth (.tuple (r.map PyData.bool)) ≤ 64)) = true
  rw [Bool.and_eq_true]
  refine ⟨?_, decide_eq_true ?_⟩
  · simp only [PyData.canLay0]; exact lay_row r
  · have := depth_row r
    simp only [PyData.depth]; omega
section
variable {X : Cx}
def rEqB (K : PySem.W.Frag) : R2 := fun x y H Q => ∃ a b r s, x = .ref a ∧ y = .ref b ∧ Bt K H a r ∧ Bt K H b s ∧ Q (.bl (decide (r = s))) H
def rNeB (K : PySem.W.Frag) : R2 := fun x y H Q => ∃ a b r s, x = .ref a ∧ y = .ref b ∧ Bt K H a r ∧ Bt K H b s ∧ Q (.bl (!decide (r = s))) H
theorem op_eqB (hu : X.A.units + 64 < cLine) : OpR X (compareOp .Eq) (rEqB X.K) := by
  intro pins s σ H x y v u Q I rx ry h
  obtain ⟨a, b, r, s', rfl, rfl, h1, h2, q⟩ := h
  refine op_eqD hu pins s σ H _ _ v u Q I rx ry ⟨_, _, h1.dp, h2.dp, shaped_row _, shaped_row _, ?_⟩
  rw [eqv_row]; exact q
theorem op_neB (hu : X.A.units + 64 < cLine) : OpR X (compareOp .NotEq) (rNeB X.K) := by
  intro pins s σ H x y v u Q I rx ry h
  obtain ⟨a, b, r, s', rfl, rfl, h1, h2, q⟩ := h
  refine op_neD hu pins s σ H _ _ v u Q I rx ry ⟨_, _, h1.dp, h2.dp, shaped_row _, shaped_row _, ?_⟩
  rw [eqv_row]; exact q
/-! ### r[i], r[lo:hi], r + s, True in r -/
theorem atI_row {r : List Bool} {i : Int} (h0 : 0 ≤ i) (h1 : i < (r.length : Int)) : atI (r.map V.bl) i = some (.bl (r.getD i.toNat false)) := by
  unfold atI ixN
  rw [List.length_map, if_pos h0, if_pos h1]
  show (r.map V.bl)[i.toNat]? = _
  rw [List.getElem?_map, List.getElem?_eq_getElem (by omega), KF.getD_at r (by omega)]
  rfl
def rIxB (K : PySem.W.Frag) : R2 := fun x y H Q => ∃ a r i, x = .ref a ∧ y = .int i ∧ Bt K H a r ∧ (0 ≤ i ∧ i < (r.length : Int)) ∧ Q (.bl (r.getD i.toNat false)) H
theorem ix_row : IxR X (rIxB X.K) := by
  intro value slice pins s σ H x y v u Q I rx ry h hs
  obtain ⟨a, r, i, rfl, rfl, h1, h2, q⟩ := h
  exact ix_tup value slice pins s σ H _ _ v u Q I rx ry ⟨a, _, i, _, rfl, rfl, h1, atI_row h2.1 h2.2, q⟩ hs
def cutB (r : List Bool) (lo hi : Option Int) : List Bool := (r.drop (HT.sIx r.length 0 lo)).take (HT.sIx r.length r.length hi - HT.sIx r.length 0 lo)
theorem cutV_row (r : List Bool) (lo hi : Option Int) : cutV (r.map V.bl) lo hi = (cutB r lo hi).map V.bl := by
  unfold cutV cutB
  rw [List.length_map, List.map_take, List.map_drop]
theorem cutB_from (r : List Bool) {i : Int} (h : 0 ≤ i) : cutB r (some i) none = r.drop i.toNat := by
  unfold cutB
  show (r.drop (if i < 0 then _ else min i.toNat r.length)).take (r.length - (if i < 0 then _ else min i.toNat r.length)) = _
  rw [if_neg (by omega)]
  by_cases z : i.toNat ≤ r.length
  · rw [Nat.min_eq_left z, List.take_of_length_le (by rw [List.length_drop]; omega)]
  · rw [Nat.min_eq_right (by omega), List.drop_eq_nil_of_le (Nat.le_refl _), List.drop_eq_nil_of_le (by omega)]; simp
theorem cutB_to (r : List Bool) {i : Int} (h : 0 ≤ i) : cutB r none (some i) = r.take i.toNat := by
  unfold cutB
  show (r.drop 0).take ((if i < 0 then _ else min i.toNat r.length) - 0) = _
  rw [if_neg (by omega), List.drop_zero, Nat.sub_zero]
  by_cases z : i.toNat ≤ r.length
  · rw [Nat.min_eq_left z]
  · rw [Nat.min_eq_right (by omega), List.take_of_length_le (Nat.le_refl _), List.take_of_length_le (by omega)]
theorem cutB_mid (r : List Bool) {i j : Int} (h : 0 ≤ i) (h2 : i ≤ j) (h3 : j ≤ (r.length : Int)) : cutB r (some i) (some j) = (r.take j.toNat).drop i.toNat := by
  unfold cutB
  show (r.drop (if i < 0 then _ else min i.toNat r.length)).take ((if j < 0 then _ else min j.toNat r.length) - (if i < 0 then _ else min i.toNat r.length)) = _
  rw [if_neg (by omega), if_neg (by omega), Nat.min_eq_left (by omega), Nat.min_eq_left (by omega), List.drop_take]
def rSlB (K : PySem.W.Frag) : V → Option Int → Option Int → Hp → VK → Prop := fun x lo hi H Q => ∃ a r, x = .ref a ∧ Bt K H a r ∧ ∀ p H', L2.Same H H' → Bt K H' p (cutB r lo hi) → Q (.ref p) H'
theorem sl_row : SlR X (rSlB X.K) := by
  intro pins s σ H x v vl vu lo hi sl Q I rx hs pl pu h
  obtain ⟨a, r, rfl, h1, q⟩ := h
  refine sl_tupA pins s σ H _ v vl vu lo hi sl Q I rx hs pl pu ⟨a, _, rfl, h1, fun hw => q a H (L2.Same.refl _) ?_, fun _ p hp => q p _ (same_new hp) ?_⟩
  · rw [List.length_map] at hw
    unfold cutB
    rw [hw.1, hw.2, List.drop_zero, Nat.sub_zero, List.take_of_length_le (Nat.le_refl _)]
    exact h1
  · refine Bt.of ?_
    rw [upd_same, cutV_row]
def rCatB (K : PySem.W.Frag) : R2 := fun x y H Q => ∃ a b r s, x = .ref a ∧ y = .ref b ∧ Bt K H a r ∧ Bt K H b s ∧ r.length + s.length ≤ 100000 ∧ ∀ p H', L2.Same H H' → Bt K H' p (r ++ s) → Q (.ref p) H'
theorem op_catB : OpR X (binaryOp .Add) (rCatB X.K) := by
  intro pins s σ H x y v u Q I rx ry h
  obtain ⟨a, b, r, z, rfl, rfl, h1, h2, hz, q⟩ := h
  refine op_catA pins s σ H _ _ v u Q I rx ry ⟨a, b, _, _, rfl, rfl, h1, h2, Nat.le_trans (by rw [List.length_map, List.length_map]; exact hz) (by decide : 100000 ≤ sizeLine), fun e => ?_, fun _ e => ?_, fun _ _ p hp => q p _ (same_new hp) ?_⟩
  · have e' : r = [] := List.map_eq_nil_iff.mp e
    subst e'
    exact q b H (L2.Same.refl _) h2
  · have e' : z = [] := List.map_eq_nil_iff.mp e
    subst e'
    exact q a H (L2.Same.refl _) (by rw [List.append_nil]; exact h1)
  · refine Bt.of ?_
    rw [upd_same, List.map_append]
theorem flat_row : ∀ r : List Bool, (r.map V.bl).all flatV = true
  | [] => rfl
  | b :: r => flat_row r
theorem inV_row : ∀ r : List Bool, inV (.bl true) (r.map V.bl) = r.any id
  | [] => rfl
  | b :: r => by
    have e : inV (.bl true) ((b :: r).map V.bl) = (b == true || inV (.bl true) (r.map V.bl)) := rfl
    rw [e, inV_row r]
    cases b <;> rfl
def rInB (K : PySem.W.Frag) (neg : Bool) : R2 := fun x y H Q => ∃ a r, x = .bl true ∧ y = .ref a ∧ Bt K H a r ∧ Q (.bl (if neg then !(r.any id) else r.any id)) H
theorem op_inB : OpR X (compareOp .In) (rInB X.K false) := by
  intro pins s σ H x y v u Q I rx ry h
  obtain ⟨a, r, rfl, rfl, h1, q⟩ := h
  refine op_in_seq pins s σ H _ _ v u Q I rx ry ⟨a, _, rfl, .inr h1, rfl, flat_row r, ?_⟩
  rw [inV_row]; exact q
theorem op_notInB : OpR X (compareOp .NotIn) (rInB X.K true) := by
  intro pins s σ H x y v u Q I rx ry h
  obtain ⟨a, r, rfl, rfl, h1, q⟩ := h
  refine op_notIn_seq pins s σ H _ _ v u Q I rx ry ⟨a, _, rfl, .inr h1, rfl, flat_row r, ?_⟩
  rw [inV_row]; exact q
def rLenB (K : PySem.W.Frag) : List V → Hp → VK → Prop := fun xs H Q => ∃ a r, xs = [.ref a] ∧ Bt K H a r ∧ Q (.int (r.length : Nat)) H
theorem call_lenB : CallR X (.builtin "len") (rLenB X.K) := by
  intro pins s σ H xs us Q I r h
  obtain ⟨a, z, rfl, h1, q⟩ := h
  exact call_len_seq pins s σ H _ us Q I r ⟨a, _, rfl, .inr h1, by rw [List.length_map]; exact q⟩
/-! ### told sets -/
def Told (K : PySem.W.Frag) (H : Hp) (t : Addr) (d : KF.Desc) : Prop := ∃ b m a, SqT K H t [.int d.start, .ref b, .ref m, .ref a] ∧ Bt K H b d.below ∧ Bt K H m d.middle ∧ Bt K H a d.above
theorem Told.same {K : PySem.W.Frag} {H H' : Hp} {t : Addr} {d : KF.Desc} (h : Told K H t d) (e : L2.Same H H') : Told K H' t d := by
  obtain ⟨b, m, a, h0, h1, h2, h3⟩ := h
  exact ⟨b, m, a, sqt_same h0 e, h1.same e, h2.same e, h3.same e⟩
def toldD (d : KF.Desc) : PyData := .tuple [.int d.start, .tuple (d.below.map PyData.bool), .tuple (d.middle.map PyData.bool), .tuple (d.above.map PyData.bool)]
theorem Told.dp {K : PySem.W.Frag} {H : Hp} {t : Addr} {d : KF.Desc} (h : Told K H t d) : Dp K H (.ref t) (toldD d) := by
  obtain ⟨b, m, a, h0, h1, h2, h3⟩ := h
  exact .tup h0 (.cons (.int _) (.cons h1.dp (.cons h2.dp (.cons h3.dp .nil))))
theorem shaped_told (d : KF.Desc) : SeqAt.shaped (toldD d) = true := by
  show (PyData.canLay0 (toldD d) && decide (PyData.depth (toldD d) ≤ 64)) = true
  rw [Bool.and_eq_true]
  refine ⟨?_, decide_eq_true ?_⟩
  · simp [toldD, PyData.canLay0, PyData.canLayAll0, lay_row]
  · have h1 := depth_row d.below
    have h2 := depth_row d.middle
    have h3 := depth_row d.above
    simp only [toldD, PyData.depth, PyData.depthAll]; omega
theorem eqv_told (d e : KF.Desc) : PyData.eqv (toldD d) (toldD e) = decide (d = e) := by
  unfold toldD
  simp only [PyData.eqv, PyData.eqvAll]
  rw [eqvAll_row, eqvAll_row, eqvAll_row]
  obtain ⟨a, b, c, f⟩ := d
  obtain ⟨a', b', c', f'⟩ := e
  rw [Bool.eq_iff_iff]
  simp [KF.Desc.mk.injEq]
def rEqF (K : PySem.W.Frag) : R2 := fun x y H Q => ∃ a b d e, x = .ref a ∧ y = .ref b ∧ Told K H a d ∧ Told K H b e ∧ Q (.bl (decide (d = e))) H
theorem op_eqF (hu : X.A.units + 64 < cLine) : OpR X (compareOp .Eq) (rEqF X.K) := by
  intro pins s σ H x y v u Q I rx ry h
  obtain ⟨a, b, d, e, rfl, rfl, h1, h2, q⟩ := h
  refine op_eqD hu pins s σ H _ _ v u Q I rx ry ⟨_, _, h1.dp, h2.dp, shaped_told _, shaped_told _, ?_⟩
  rw [eqv_told]; exact q
end
theorem hu64 {A : Around} {k : Nat} (hr : Room k A) : A.units + 64 < cLine := hr.units
end K14
set_option Elab.async false
set_option linter.all false
set_option maxRecDepth 100000
set_option maxHeartbeats 4000000
/-! The walks, first part: the package's small functions. -/
namespace K14
open PySem PySem.Spec PyProof.Rows L2
/-- what the walks ask of the top -/
structure Tx (K : PySem.W.Frag) (mg : Str → Option Value) (C : Addr) : Prop where
  cl : Cls K C
  nS : NoAttr K C "start"
  nB : NoAttr K C "below"
  nM : NoAttr K C "middle"
  nA : NoAttr K C "above"
  gC : mg "Rounds" = some (.ref C)
  isi : mg "isinstance" = none
  int : mg "int" = none
  bool : mg "bool" = none
  tup : mg "tuple" = none
  lst : mg "list" = none
  len : mg "len" = none
  rng : mg "range" = none
  all : mg "all" = none
  enu : mg "enumerate" = none
  abs : mg "abs" = none
  max : mg "max" = none
  min : mg "min" = none
  lim : ∃ t, mg "LIMIT" = some (.int 20000 t)
  t0 : ∃ a, mg "IN_BOTH" = some (.ref a) ∧ ∀ H, Bt K H a [false, false, false, true]
  t1 : ∃ a, mg "IN_ONE_OR_BOTH" = some (.ref a) ∧ ∀ H, Bt K H a [false, true, true, true]
  t2 : ∃ a, mg "IN_JUST_ONE" = some (.ref a) ∧ ∀ H, Bt K H a [false, true, true, false]
  t3 : ∃ a, mg "IN_FIRST_ALONE" = some (.ref a) ∧ ∀ H, Bt K H a [false, false, true, false]
  self : PySem.W.selfFirst K C = true
  kRR : PySem.W.kitOne K (.ref C) (.ref C) = some true
  cc : PySem.W.findIn K (.ref C) "__class__" = some (some (.builtin "object.__class__"))
  cg : PySem.W.specialIn K (.builtin "object.__class__") "__get__" = some (some (.builtin "getset_descriptor.__get__"))
  ct : PySem.W.takesIn K (.builtin "object.__class__") = some true
  cm : PySem.W.mroIn K C (.type "object") = some true
  mks : ∃ f, Mk K C f
theorem iteB {b : Bool} {A B : Prop} (e : b = true) (h : A) : if b = true then A else B := by rw [if_pos e]; exact h
theorem iteG {b : Bool} {A B : Prop} (e : b = false) (h : B) : if b = true then A else B := by rw [if_neg (by rw [e]; decide)]; exact h
theorem bIf {b : Bool} {A B : Prop} (h1 : b = true → A) (h2 : b = false → B) : if b = true then A else B := by
  cases b with
  | true => exact iteT (h1 rfl)
  | false => exact iteF (h2 rfl)
theorem bIf2 {c A B : Prop} [Decidable c] (h1 : c → A) (h2 : ¬ c → B) : if decide c = true then A else B := by
  by_cases h : c
  · exact iteB (decide_eq_true h) (h1 h)
  · exact iteG (decide_eq_false h) (h2 h)
theorem bifN {c A B : Prop} [Decidable c] (h1 : ¬ c → A) (h2 : c → B) : if (!decide c) = true then A else B := by
  by_cases h : c
  · exact iteG (by rw [decide_eq_true h]; rfl) (h2 h)
  · exact iteB (by rw [decide_eq_false h]; rfl) (h1 h)
theorem wh_by {c : TT} {tb : TS} {D : Ends} {σ : L2.St} {H : Hp} (Pv : L2.St → Hp → Prop) (μ : L2.St → Hp → Nat) (h0 : Pv σ H)
    (hs : ∀ σ H, Pv σ H → c σ H fun b H1 => if b = true then (∃ N : L2.St → Hp → Prop, (∀ σ' H', N σ' H' → ∃ m', m' < μ σ H ∧ m' = μ σ' H' ∧ Pv σ' H') ∧ tb { D with nx := N, ct := N, bk := D.nx } σ H1) else D.nx σ H1) : tWhile c tb D σ H :=
  ⟨fun m σ H => m = μ σ H ∧ Pv σ H, ⟨_, rfl, h0⟩, by rintro m σ H ⟨rfl, p⟩; exact hs σ H p⟩
theorem whN {Pv : L2.St → Hp → Prop} {μ : L2.St → Hp → Nat} {n : Nat} : ∀ σ' H', (Pv σ' H' ∧ μ σ' H' < n) → ∃ m', m' < n ∧ m' = μ σ' H' ∧ Pv σ' H' := fun _ _ ⟨p, l⟩ => ⟨_, l, rfl, p⟩
section
variable {P : Program} {w : World} {K : PySem.W.Frag} {mg : Str → Option Value} {base : Heap} {C : Addr}
theorem pe_ty {X : Cx} {x : Str} {n : String} {pos : Pos} (hg : Gl X x) (hm : X.mg x = none) (hv : bootBuiltins x = some (.type n)) (hn : x ≠ "__name__" := by decide) (hd : (x == ("__debug__" : Str)) = false := by decide) : PE X (.Name x pos) (tC (.ty n)) :=
  pe_bltn hg hm hv rfl hn hd
theorem boot_isi : bootBuiltins "isinstance" = some (.builtin "isinstance") := by decide +kernel
theorem boot_range' : bootBuiltins "range" = some (.type "range") := by decide +kernel
theorem boot_all' : bootBuiltins "all" = some (.builtin "all") := by decide +kernel
theorem boot_abs' : bootBuiltins "abs" = some (.builtin "abs") := by decide +kernel
theorem boot_max' : bootBuiltins "max" = some (.builtin "max") := by decide +kernel
theorem boot_min' : bootBuiltins "min" = some (.builtin "min") := by decide +kernel
theorem kit_ii {K : PySem.W.Frag} : PySem.W.kitOne K (.type "int") (.type "int") = some true := kit_ty (by decide +kernel)
theorem kit_ib {K : PySem.W.Frag} : PySem.W.kitOne K (.type "int") (.type "bool") = some false := kit_ty (by decide +kernel)
theorem kit_tt {K : PySem.W.Frag} : PySem.W.kitOne K (.type "tuple") (.type "tuple") = some true := kit_ty (by decide +kernel)
theorem kit_lt {K : PySem.W.Frag} : PySem.W.kitOne K (.type "list") (.type "tuple") = some false := kit_ty (by decide +kernel)
theorem kit_ll {K : PySem.W.Frag} : PySem.W.kitOne K (.type "list") (.type "list") = some true := kit_ty (by decide +kernel)
/-! ### is_int -/
def spInt : Sp := fun vs H Q _ => ∃ i : Int, vs = [.int i] ∧ Q (.bl true) H
theorem sc_is_int : FnScope ["value"] ["value"] (defScope s_is_int) := ⟨rfl, rfl, rfl, by decide +kernel, rfl, by decide +kernel, by decide +kernel⟩
theorem w_is_int (T : Tx K mg C) (h : Has K mg "is_int" s_is_int ["value"]) : Ok P w K mg base 1 "is_int" ["value"] spInt := by
  refine h.ok sc_is_int (fun vs H Q E h => ?_) (fun f cdv A outer s H vs Q E hr h => ?_)
  · obtain ⟨i, rfl, _⟩ := h; rfl
  · obtain ⟨i, rfl, q⟩ := h
    refine ⟨_, pss_one (ps_ret (pe_and (pe_callB call_isi (by rfl) T.isi boot_isi (pa_cons (pv 0) (pa_cons (pe_ty rfl T.int boot_int) pa_nil)))
      (pe_one (pe_not (pe_callB call_isi (by rfl) T.isi boot_isi (pa_cons (pv 0) (pa_cons (pe_ty rfl T.bool boot_bool) pa_nil))))))), ?_⟩
    refine ⟨_, rfl, _, _, _, _, _, rfl, .ty _, .base (.int i), kit_ii, _, rfl, iteT ?_⟩
    exact ⟨_, rfl, _, _, _, _, _, rfl, .ty _, .base (.int i), kit_ib, _, rfl, q⟩
/-! ### is_row -/
def RowV (K : PySem.W.Frag) (H : Hp) (a : Addr) (r : List Bool) : Prop := Bt K H a r ∨ SqL K H a (r.map V.bl)
theorem RowV.same {K : PySem.W.Frag} {H H' : Hp} {a : Addr} {r : List Bool} (h : RowV K H a r) (e : L2.Same H H') : RowV K H' a r := by
  rcases h with h | h
  · exact .inl (h.same e)
  · exact .inr (e.seq h)
theorem tyT {H : Hp} {a : Addr} {xs : List V} (h : SqT K H a xs) : TyX K H (.ref a) (.type "tuple") := by
  rcases h with (h | ⟨o, h⟩) | ⟨o, _, _, h, c, _⟩
  · exact .base (.tup h)
  · exact .fTuple h
  · exact .kTuple h c
theorem tyL {H : Hp} {a : Addr} {xs : List V} (h : SqL K H a xs) : TyX K H (.ref a) (.type "list") := by
  rcases h with (h | ⟨o, h⟩) | ⟨o, _, _, h, c, _⟩
  · exact .base (.lst h)
  · exact .base (.frz h)
  · exact .kList h c
theorem kit_any1 {b : Bool} {t : Value} (h1 : PySem.W.kitOne K t (.type "tuple") = some b) (h2 : PySem.W.kitOne K t (.type "list") = some true) : PySem.W.kitAny K t [.type "tuple", .type "list"] = some true :=
  kitAny_cons h1 (fun _ => kitAny_cons h2 (fun z => by cases z) fun _ => rfl) fun _ => rfl
theorem kit_any2 {t : Value} (h1 : PySem.W.kitOne K t (.type "tuple") = some true) : PySem.W.kitAny K t [.type "tuple", .type "list"] = some true :=
  kitAny_cons h1 (fun z => by cases z) fun _ => rfl
def spRow (K : PySem.W.Frag) : Sp := fun vs H Q _ => ∃ a r, vs = [.ref a] ∧ RowV K H a r ∧ ∀ H', L2.Same H H' → Q (.bl true) H'
theorem sc_is_row : FnScope ["value"] ["value"] (defScope s_is_row) := ⟨rfl, rfl, rfl, by decide +kernel, rfl, by decide +kernel, by decide +kernel⟩
theorem w_is_row (T : Tx K mg C) (h : Has K mg "is_row" s_is_row ["value"]) : Ok P w K mg base 1 "is_row" ["value"] (spRow K) := by
  refine h.ok sc_is_row (fun vs H Q E h => ?_) (fun f cdv A outer s H vs Q E hr h => ?_)
  · obtain ⟨a, r, rfl, _⟩ := h; rfl
  · obtain ⟨a, r, rfl, hR, q⟩ := h
    refine ⟨_, pss_one (ps_ret (pe_callB call_isiT (by rfl) T.isi boot_isi (pa_cons (pv 0) (pa_cons (pe_tup (pa_cons (pe_ty rfl T.tup boot_tuple) (pa_cons (pe_ty rfl T.lst boot_list) pa_nil))) pa_nil)))), ?_⟩
    refine ⟨_, rfl, (by show 2 ≤ sizeLine; decide), fun p hp => ?_⟩
    have sm : L2.Same H (upd H p (.tup [.ty "tuple", .ty "list"])) := same_new hp
    rcases hR.same sm with z | z
    · exact ⟨_, p, _, _, _, true, rfl, upd_same, .cons (.ty _) (.cons (.ty _) .nil), tyT z, kit_any2 kit_tt, q _ sm⟩
    · exact ⟨_, p, _, _, _, true, rfl, upd_same, .cons (.ty _) (.cons (.ty _) .nil), tyL z, kit_any1 kit_lt kit_ll, q _ sm⟩
/-! ### check_int -/
def spCheck : Sp := fun vs H Q _ => ∃ (v : V) (i : Int), vs = [v, .int i] ∧ Q .non H
theorem sc_check_int : FnScope ["what", "value"] ["what", "value"] (defScope s_check_int) := ⟨rfl, rfl, rfl, by decide +kernel, rfl, by decide +kernel, by decide +kernel⟩
theorem w_check_int (T : Tx K mg C) (h : Has K mg "check_int" s_check_int ["what", "value"]) (o1 : Ok P w K mg base 1 "is_int" ["value"] spInt) : Ok P w K mg base 2 "check_int" ["what", "value"] spCheck := by
  refine h.ok sc_check_int (fun vs H Q E h => ?_) (fun f cdv A outer s H vs Q E hr h => ?_)
  · obtain ⟨v, i, rfl, _⟩ := h; rfl
  · obtain ⟨v, i, rfl, q⟩ := h
    refine ⟨_, pss_one (ps_if (pt_not (pt_val (pe_co o1 hr rfl (pa_cons (pv 1) pa_nil)))) pss_never pss_nil), ?_⟩
    exact ⟨_, rfl, i, rfl, _, rfl, iteF q⟩
/-! ### greatest_divisor, common_multiple -/
def spGcd : Sp := fun vs H Q _ => ∃ a b : Int, vs = [.int a, .int b] ∧ 0 < a ∧ 0 < b ∧ Q (.int (Int.gcd a b : Nat)) H
theorem sc_greatest_divisor : FnScope ["one", "other"] ["one", "other"] (defScope s_greatest_divisor) := ⟨rfl, rfl, rfl, by decide +kernel, rfl, by decide +kernel, by decide +kernel⟩
theorem w_greatest_divisor (T : Tx K mg C) (h : Has K mg "greatest_divisor" s_greatest_divisor ["one", "other"]) : Ok P w K mg base 1 "greatest_divisor" ["one", "other"] spGcd := by
  refine h.ok sc_greatest_divisor (fun vs H Q E h => ?_) (fun f cdv A outer s H vs Q E hr h => ?_)
  · obtain ⟨a, b, rfl, _⟩ := h; rfl
  · obtain ⟨a, b, rfl, ha, hb, q⟩ := h
    refine ⟨_, pss_cons (ps_par (i := 0) (j := 1) rfl sc_greatest_divisor.nd rfl rfl (by decide) rfl rfl (pa_cons (pe_callB call_abs (by rfl) T.abs boot_abs' (pa_cons (pv 0) pa_nil)) (pa_cons (pe_callB call_abs (by rfl) T.abs boot_abs' (pa_cons (pv 1) pa_nil)) pa_nil)) (by rfl))
      (pss_cons (ps_while PassesOwn.never (pt_cmpR op_ne (pv 1) pe_int (nomark _)) (pss_one (ps_par (i := 0) (j := 1) rfl sc_greatest_divisor.nd rfl rfl (by decide) rfl rfl (pa_cons (pv 1) (pa_cons (pe_op op_mod (pv 0) (pv 1)) pa_nil)) (by rfl))))
      (pss_one (ps_ret (pv 0)))), ?_⟩
    refine ⟨_, rfl, _, rfl, _, rfl, _, rfl, _, _, rfl, ?_⟩
    rw [if_neg (by omega), if_neg (by omega)]
    refine while_by (fun σ H' => H' = H ∧ ∃ x y : Int, σ = [some (.int x), some (.int y)] ∧ 0 ≤ x ∧ 0 ≤ y ∧ Int.gcd x y = Int.gcd a b) (fun σ _ => match σ with | [_, some (.int y)] => y.toNat | _ => 0) ⟨rfl, a, b, rfl, by omega, by omega, rfl⟩ ?_ ?_
    · rintro σ H' ⟨rfl, x, y, rfl, hx, hy, e⟩
      refine ⟨_, rfl, rfl, _, rfl, ?_⟩
      by_cases z : y = 0
      · subst z
        refine iteNS rfl ?_
        refine ⟨_, rfl, ?_⟩
        rw [Int.gcd_zero_right] at e
        rw [← e, Int.natAbs_of_nonneg hx] at q
        exact q
      · refine iteB (by simp [z]) ?_
        refine ⟨_, rfl, _, rfl, _, rfl, _, _, rfl, rfl, by omega, _, _, rfl, ⟨rfl, y, x % y, rfl, hy, Int.emod_nonneg _ z, ?_⟩, ?_⟩
        · rw [← e]
          show Nat.gcd y.natAbs (x % y).natAbs = Nat.gcd x.natAbs y.natAbs
          rw [Int.natAbs_emod_of_nonneg hx, Nat.gcd_comm x.natAbs y.natAbs, Nat.gcd_rec y.natAbs x.natAbs, Nat.gcd_comm]
        · show (x % y).toNat < y.toNat
          have := Int.emod_lt_of_pos x (show 0 < y by omega)
          have := Int.emod_nonneg x z
          omega
    · rintro σ H' Q1 Q2 m ⟨v, e1, e2, k, e3, q⟩
      exact ⟨v, e1, e2, k, e3, m _ _ q⟩
/-- one // g * other: a multiple of both, at most the product -/
def spLcm : Sp := fun vs H Q _ => ∃ a b : Nat, vs = [.int a, .int b] ∧ 0 < a ∧ 0 < b ∧ a < 2 ^ 20 ∧ b < 2 ^ 20 ∧ Q (.int (Nat.lcm a b : Nat)) H
theorem sc_common_multiple : FnScope ["one", "other"] ["one", "other"] (defScope s_common_multiple) := ⟨rfl, rfl, rfl, by decide +kernel, rfl, by decide +kernel, by decide +kernel⟩
theorem w_common_multiple (T : Tx K mg C) (h : Has K mg "common_multiple" s_common_multiple ["one", "other"]) (o1 : Ok P w K mg base 1 "greatest_divisor" ["one", "other"] spGcd) : Ok P w K mg base 2 "common_multiple" ["one", "other"] spLcm := by
  refine h.ok sc_common_multiple (fun vs H Q E h => ?_) (fun f cdv A outer s H vs Q E hr h => ?_)
  · obtain ⟨a, b, rfl, _⟩ := h; rfl
  · obtain ⟨a, b, rfl, ha, hb, ha2, hb2, q⟩ := h
    refine ⟨_, pss_one (ps_ret (pe_op op_mul (pe_op op_fdiv (pv 0) (pe_co o1 hr rfl (pa_cons (pv 0) (pa_cons (pv 1) pa_nil)))) (pv 1))), ?_⟩
    have g0 : 0 < Nat.gcd a b := Nat.gcd_pos_of_pos_left _ ha
    have g1 : Nat.gcd a b ≤ a := Nat.gcd_le_left _ ha
    have e : Int.gcd (a : Int) (b : Int) = Nat.gcd a b := rfl
    refine ⟨_, rfl, _, rfl, _, rfl, _, _, rfl, by omega, by omega, _, _, rfl, rfl, ?_, _, rfl, _, _, rfl, rfl, .inr ⟨by omega, by omega⟩, ?_⟩
    · rw [e]; exact ⟨by omega, by omega⟩
    · rw [e]
      have z : (a : Int) / ((Nat.gcd a b : Nat) : Int) * (b : Int) = ((Nat.lcm a b : Nat) : Int) := by
        unfold Nat.lcm
        have k : a * b / Nat.gcd a b = a / Nat.gcd a b * b := by
          rw [Nat.mul_comm a b, Nat.mul_div_assoc _ (Nat.gcd_dvd_left a b), Nat.mul_comm]
        rw [k]; simp
      first
        | (rw [z]; exact q)
        | (show Q (.int ((a : Int) / ((Nat.gcd a b : Nat) : Int) * (b : Int))) H; rw [z]; exact q)
/-! ### least_step -/
def spStep (K : PySem.W.Frag) : Sp := fun vs H Q _ => ∃ a r, vs = [.ref a] ∧ Bt K H a r ∧ 1 ≤ r.length ∧ r.length < 100000 ∧ ∀ (n : Nat) H', L2.Same H H' → 1 ≤ n → n ≤ r.length → KF.LeastPer (KF.cyc r) (n : Int) → Q (.int n) H'
theorem sc_least_step : FnScope ["row", "step"] ["row"] (defScope s_least_step) := ⟨rfl, rfl, rfl, by decide +kernel, rfl, by decide +kernel, by decide +kernel⟩
theorem w_least_step (T : Tx K mg C) (h : Has K mg "least_step" s_least_step ["row"]) : Ok P w K mg base 1 "least_step" ["row"] (spStep K) := by
  refine h.ok sc_least_step (fun vs H Q E h => ?_) (fun f cdv A outer s H vs Q E hr h => ?_)
  · obtain ⟨a, r, rfl, _⟩ := h; rfl
  · obtain ⟨a, r, rfl, hR, h1, h2, q⟩ := h
    have hu := hu64 hr
    refine ⟨_, pss_cons (ps_set (i := 1) sc_least_step.nd rfl (Or.inl rfl) pe_int)
      (pss_cons (ps_while PassesOwn.never (PW.pt (pw_or (pt_cmpR op_ne (pe_op op_mod (pe_callB call_lenB (by rfl) T.len boot_len (pa_cons (pv 0) pa_nil)) (pv 1)) pe_int (nomark _))
          (pw_or1 (pt_cmpR (op_neB hu) (pe_slice sl_row (pv 0) (po_some (pv 1)) po_none) (pe_slice sl_row (pv 0) po_none (po_some (pe_op op_sub (pe_callB call_lenB (by rfl) T.len boot_len (pa_cons (pv 0) pa_nil)) (pv 1)))) (nomark _)))))
        (pss_one (ps_aug (i := 1) sc_least_step.nd rfl (Or.inl rfl) pe_int ip_add)))
      (pss_one (ps_ret (pv 1)))), ?_⟩
    refine wh_by (fun σ H' => L2.Same H H' ∧ ∃ n : Nat, σ = [some (.ref a), some (.int n)] ∧ 1 ≤ n ∧ n ≤ r.length ∧ ∀ t, 1 ≤ t → t < n → ¬ KF.StepOk r t) (fun σ _ => match σ with | [_, some (.int y)] => r.length - y.toNat | _ => 0) ⟨L2.Same.refl _, 1, rfl, Nat.le_refl _, h1, fun t h1 h2 => by omega⟩ ?_
    · rintro σ H' ⟨sm, n, rfl, n1, n2, hn⟩
      have step : ∀ H3, L2.Same H H3 → ¬ KF.StepOk r n → L2.Same H H3 ∧ ∃ m : Nat, [some (.ref a), some (.int ((n : Int) + 1))] = [some (V.ref a), some (.int (m : Int))] ∧ 1 ≤ m ∧ m ≤ r.length ∧ ∀ t, 1 ≤ t → t < m → ¬ KF.StepOk r t := fun H3 sm3 no => by
        have nl : n ≠ r.length := fun z => no (by rw [z]; exact KF.stepOk_all r h1)
        refine ⟨sm3, n + 1, by simp, by omega, by omega, fun t t1 t2 => ?_⟩
        by_cases z : t = n
        · rw [z]; exact no
        · exact hn t t1 (by omega)
      have fin : ∀ H3, L2.Same H H3 → KF.StepOk r n → Q (.int n) H3 := fun H3 sm3 ok => q n H3 sm3 n1 n2 (KF.leastPer_of_first n1 h1 n2 ok hn)
      refine ⟨_, rfl, _, r, rfl, hR.same sm, _, rfl, _, _, rfl, rfl, by omega, rfl, _, rfl, ?_⟩
      refine bifN (fun z => ?_) (fun z => ?_)
      · refine iteT ⟨_, whN, ?_⟩
        refine ⟨_, rfl, _, _, rfl, rfl, ?_⟩
        have no : ¬ KF.StepOk r n := fun k => z (by
          have := k.1
          have e : (r.length : Int) % (n : Int) = ((r.length % n : Nat) : Int) := by simp
          exact congrArg V.int (show (r.length : Int) % (n : Int) = 0 by rw [e, this]; rfl))
        refine ⟨step H' sm no, ?_⟩
        show r.length - ((n : Int) + 1).toNat < r.length - (n : Int).toNat
        have nl : n ≠ r.length := fun z => no (by rw [z]; exact KF.stepOk_all r h1)
        omega
      · have z1 : r.length % n = 0 := by
          have e : (r.length : Int) % (n : Int) = ((r.length % n : Nat) : Int) := by simp
          have z2 : (r.length : Int) % (n : Int) = 0 := by injection z
          omega
        refine ⟨_, rfl, _, rfl, _, rfl, _, r, rfl, hR.same sm, fun p1 H2 s2 b1 => ?_⟩
        rw [cutB_from r (by omega)] at b1
        refine ⟨_, rfl, _, rfl, _, r, rfl, hR.same (sm.trans s2), _, rfl, _, _, rfl, rfl, _, rfl, _, r, rfl, hR.same (sm.trans s2), fun p2 H3 s3 b2 => ?_⟩
        rw [cutB_to r (by omega)] at b2
        have e2 : ((r.length : Int) - (n : Int)).toNat = r.length - n := by omega
        rw [e2] at b2
        have sm3 := (sm.trans s2).trans s3
        refine ⟨_, _, _, _, rfl, rfl, b1.same s3, b2, ?_⟩
        refine ⟨_, rfl, bifN (fun y => ?_) (fun y => ?_)⟩
        · have no : ¬ KF.StepOk r n := fun k => y (by simpa using k.2)
          refine ⟨_, whN, _, rfl, _, _, rfl, rfl, step H3 sm3 no, ?_⟩
          show r.length - ((n : Int) + 1).toNat < r.length - (n : Int).toNat
          have nl : n ≠ r.length := fun z => no (by rw [z]; exact KF.stepOk_all r h1)
          omega
        · exact ⟨_, rfl, fin H3 sm3 ⟨z1, by simpa using y⟩⟩
/-! ### rolled, piece, is_member -/
def spRolled (K : PySem.W.Frag) : Sp := fun vs H Q _ => ∃ a r b, vs = [.ref a, .int b] ∧ Bt K H a r ∧ r ≠ [] ∧ r.length ≤ 10000 ∧ ∀ p H', L2.Same H H' → Bt K H' p (KF.rot r b) → Q (.ref p) H'
theorem sc_rolled : FnScope ["row", "by", "at"] ["row", "by"] (defScope s_rolled) := ⟨rfl, rfl, rfl, by decide +kernel, rfl, by decide +kernel, by decide +kernel⟩
theorem w_rolled (T : Tx K mg C) (h : Has K mg "rolled" s_rolled ["row", "by"]) : Ok P w K mg base 1 "rolled" ["row", "by"] (spRolled K) := by
  refine h.ok sc_rolled (fun vs H Q E h => ?_) (fun f cdv A outer s H vs Q E hr h => ?_)
  · obtain ⟨a, r, b, rfl, _⟩ := h; rfl
  · obtain ⟨a, r, b, rfl, hR, hn, hl, q⟩ := h
    refine ⟨_, pss_cons (ps_set (i := 2) sc_rolled.nd rfl (Or.inl rfl) (pe_op op_mod (pv 1) (pe_callB call_lenB (by rfl) T.len boot_len (pa_cons (pv 0) pa_nil))))
      (pss_one (ps_ret (pe_op op_catB (pe_slice sl_row (pv 0) (po_some (pv 2)) po_none) (pe_slice sl_row (pv 0) po_none (po_some (pv 2)))))), ?_⟩
    have h0 := KF.len_pos hn
    have e0 : 0 ≤ b % (r.length : Int) := Int.emod_nonneg _ (by omega)
    refine ⟨_, rfl, _, rfl, _, r, rfl, hR, _, _, rfl, rfl, by omega, ?_⟩
    refine ⟨_, rfl, _, rfl, _, rfl, _, r, rfl, hR, fun p1 H1 s1 b1 => ⟨_, rfl, _, rfl, _, rfl, _, r, rfl, hR.same s1, fun p2 H2 s2 b2 => ?_⟩⟩
    rw [cutB_from r e0] at b1
    rw [cutB_to r e0] at b2
    refine ⟨_, _, _, _, rfl, rfl, b1.same s2, b2, ?_, fun p H3 s3 b3 => q p H3 ((s1.trans s2).trans s3) b3⟩
    rw [List.length_drop, List.length_take]; omega
def spPiece (K : PySem.W.Frag) : Sp := fun vs H Q _ => ∃ b m rb rm i, vs = [.ref b, .ref m, .int i] ∧ Bt K H b rb ∧ Bt K H m rm ∧ rb ≠ [] ∧ i < (rm.length : Int) ∧ Q (.bl (if i < 0 then KF.cyc rb i else rm.getD i.toNat false)) H
theorem sc_piece : FnScope ["below", "middle", "at"] ["below", "middle", "at"] (defScope s_piece) := ⟨rfl, rfl, rfl, by decide +kernel, rfl, by decide +kernel, by decide +kernel⟩
theorem w_piece (T : Tx K mg C) (h : Has K mg "piece" s_piece ["below", "middle", "at"]) : Ok P w K mg base 1 "piece" ["below", "middle", "at"] (spPiece K) := by
  refine h.ok sc_piece (fun vs H Q E h => ?_) (fun f cdv A outer s H vs Q E hr h => ?_)
  · obtain ⟨b, m, rb, rm, i, rfl, _⟩ := h; rfl
  · obtain ⟨b, m, rb, rm, i, rfl, hb, hm, hn, hi, q⟩ := h
    refine ⟨_, pss_cons (ps_if (pt_cmpR op_lt (pv 2) pe_int (nomark _)) (pss_one (ps_ret (pe_ix ix_row (pv 0) (pe_op op_mod (pv 2) (pe_callB call_lenB (by rfl) T.len boot_len (pa_cons (pv 0) pa_nil))) (fun _ _ => rfl)))) pss_nil)
      (pss_one (ps_ret (pe_ix ix_row (pv 1) (pv 2) (fun _ _ => rfl)))), ?_⟩
    have h0 := KF.len_pos hn
    refine ⟨_, rfl, _, _, rfl, rfl, _, rfl, bIf2 (fun z => ?_) (fun z => ?_)⟩
    · rw [if_pos z] at q
      exact ⟨_, rfl, _, rfl, _, rfl, _, rb, rfl, hb, _, _, rfl, rfl, by omega, _, rb, _, rfl, rfl, hb, ⟨Int.emod_nonneg _ (by omega), Int.emod_lt_of_pos _ (by omega)⟩, q⟩
    · rw [if_neg z] at q
      exact ⟨_, rfl, _, rfl, _, rm, _, rfl, rfl, hm, ⟨by omega, hi⟩, q⟩
/-- the four rows -/
structure Rows4 (K : PySem.W.Frag) (H : Hp) (b m a : Addr) (d : KF.Desc) : Prop where
  lo : Bt K H b d.below
  mi : Bt K H m d.middle
  hi : Bt K H a d.above
  ok : d.ok
theorem Rows4.same {K : PySem.W.Frag} {H H' : Hp} {b m a : Addr} {d : KF.Desc} (h : Rows4 K H b m a d) (e : L2.Same H H') : Rows4 K H' b m a d := ⟨h.lo.same e, h.mi.same e, h.hi.same e, h.ok⟩
def spMember (K : PySem.W.Frag) : Sp := fun vs H Q _ => ∃ b m a d n, vs = [.int d.start, .ref b, .ref m, .ref a, .int n] ∧ Rows4 K H b m a d ∧ Q (.bl (KF.mem d n)) H
theorem sc_is_member : FnScope ["start", "below", "middle", "above", "n", "at"] ["start", "below", "middle", "above", "n"] (defScope s_is_member) := ⟨rfl, rfl, rfl, by decide +kernel, rfl, by decide +kernel, by decide +kernel⟩
theorem w_is_member (T : Tx K mg C) (h : Has K mg "is_member" s_is_member ["start", "below", "middle", "above", "n"]) (o1 : Ok P w K mg base 1 "piece" ["below", "middle", "at"] (spPiece K)) : Ok P w K mg base 2 "is_member" ["start", "below", "middle", "above", "n"] (spMember K) := by
  refine h.ok sc_is_member (fun vs H Q E h => ?_) (fun f cdv A outer s H vs Q E hr h => ?_)
  · obtain ⟨b, m, a, d, n, rfl, _⟩ := h; rfl
  · obtain ⟨b, m, a, d, n, rfl, h4, q⟩ := h
    refine ⟨_, pss_cons (ps_set (i := 5) sc_is_member.nd rfl (Or.inl rfl) (pe_op op_sub (pv 4) (pv 0)))
      (pss_cons (ps_if (pt_cmpR op_lt (pv 5) (pe_callB call_lenB (by rfl) T.len boot_len (pa_cons (pv 2) pa_nil)) (nomark _)) (pss_one (ps_ret (pe_co o1 hr rfl (pa_cons (pv 1) (pa_cons (pv 2) (pa_cons (pv 5) pa_nil)))))) pss_nil)
      (pss_one (ps_ret (pe_ix ix_row (pv 3) (pe_op op_mod (pe_op op_sub (pv 5) (pe_callB call_lenB (by rfl) T.len boot_len (pa_cons (pv 2) pa_nil))) (pe_callB call_lenB (by rfl) T.len boot_len (pa_cons (pv 3) pa_nil))) (fun _ _ => rfl))))), ?_⟩
    have h1 := KF.len_pos h4.ok.2
    refine ⟨_, rfl, _, rfl, _, _, rfl, rfl, _, rfl, _, rfl, _, d.middle, rfl, h4.mi, _, _, rfl, rfl, _, rfl, bIf2 (fun z => ?_) (fun z => ?_)⟩
    · refine ⟨_, rfl, _, rfl, _, rfl, b, m, d.below, d.middle, _, rfl, h4.lo, h4.mi, h4.ok.1, z, ?_⟩
      have e : (if n - d.start < 0 then KF.cyc d.below (n - d.start) else d.middle.getD (n - d.start).toNat false) = KF.mem d n := by
        by_cases y : n < d.start
        · rw [KF.mem_low y, if_pos (by omega)]
        · rw [KF.mem_mid' (by omega) (by unfold KF.Desc.fin; omega), if_neg (by omega)]
      rw [e]; exact q
    · refine ⟨_, rfl, _, rfl, _, rfl, _, d.middle, rfl, h4.mi, _, _, rfl, rfl, _, rfl, _, d.above, rfl, h4.hi, _, _, rfl, rfl, by omega, _, d.above, _, rfl, rfl, h4.hi, ⟨Int.emod_nonneg _ (by omega), Int.emod_lt_of_pos _ (by omega)⟩, ?_⟩
      have e : KF.mem d n = KF.cyc d.above (n - d.start - (d.middle.length : Int)) := by
        rw [KF.mem_high (by unfold KF.Desc.fin; omega)]; unfold KF.Desc.fin; congr 1; omega
      rw [e] at q
      exact q
end
end K14
set_option Elab.async false
set_option linter.all false
set_option maxRecDepth 100000
set_option maxHeartbeats 4000000
/-! The walks, second part: the one form. -/
namespace K14
open PySem PySem.Spec PyProof.Rows L2
section
variable {P : Program} {w : World} {K : PySem.W.Frag} {mg : Str → Option Value} {base : Heap} {C : Addr}
theorem sz4 : 4 ≤ sizeLine := by decide
theorem sz0 : 0 ≤ sizeLine := by decide
theorem sz3 : 3 ≤ sizeLine := by decide
theorem sz2 : 2 ≤ sizeLine := by decide
theorem dec_bl {a b : Bool} : decide (V.bl a = V.bl b) = decide (a = b) := by
  by_cases h : a = b
  · subst h; simp
  · rw [decide_eq_false h, decide_eq_false (fun z => h (by injection z))]
theorem bl_inj {a b : Bool} (h : V.bl a = V.bl b) : a = b := by injection h
theorem mem_at {d : KF.Desc} (i : Int) (hi : i < (d.middle.length : Int)) : KF.mem d (d.start + i) = (if i < 0 then KF.cyc d.below i else d.middle.getD i.toNat false) := by
  by_cases z : i < 0
  · rw [KF.mem_low (by omega), if_pos z]; congr 1; omega
  · rw [KF.mem_mid' (by omega) (by unfold KF.Desc.fin; omega), if_neg z]; congr 2; omega
theorem cyc_mod (r : List Bool) (n : Int) : r.getD (n % (r.length : Int)).toNat false = KF.cyc r n := rfl
def spMiddle (K : PySem.W.Frag) : Sp := fun vs H Q _ => ∃ b m a d, vs = [.int d.start, .ref b, .ref m, .ref a] ∧ Rows4 K H b m a d ∧ KF.Least d ∧ ¬ KF.Per (KF.mem d) (d.above.length : Int) ∧ d.below.length ≤ 10000 ∧ d.above.length ≤ 10000 ∧
  ∀ t d' H', L2.Same H H' → Told K H' t d' → KF.IsForm (KF.mem d) d' → Q (.ref t) H'
theorem sc_least_middle : FnScope ["start", "below", "middle", "above", "lower", "left", "higher"] ["start", "below", "middle", "above"] (defScope s_least_middle) := ⟨rfl, rfl, rfl, by decide +kernel, rfl, by decide +kernel, by decide +kernel⟩
theorem w_least_middle (T : Tx K mg C) (h : Has K mg "least_middle" s_least_middle ["start", "below", "middle", "above"]) (o1 : Ok P w K mg base 1 "piece" ["below", "middle", "at"] (spPiece K)) (o2 : Ok P w K mg base 1 "rolled" ["row", "by"] (spRolled K)) :
    Ok P w K mg base 2 "least_middle" ["start", "below", "middle", "above"] (spMiddle K) := by
  refine h.ok sc_least_middle (fun vs H Q E h => ?_) (fun f cdv A outer s H vs Q E hr h => ?_)
  · obtain ⟨b, m, a, d, rfl, _⟩ := h; rfl
  · obtain ⟨b, m, a, d, rfl, h4, hl, np, lb, la, q⟩ := h
    have nd := sc_least_middle.nd
    refine ⟨_, pss_cons (ps_set (i := 4) nd rfl (Or.inl rfl) pe_int)
      (pss_cons (ps_while PassesOwn.never (pt_cmpR op_eq (pe_co o1 hr rfl (pa_cons (pv 1) (pa_cons (pv 2) (pa_cons (pe_op op_sub (pe_op op_sub (pe_callB call_lenB (by rfl) T.len boot_len (pa_cons (pv 2) pa_nil)) pe_int) (pv 4)) pa_nil))))
          (pe_ix ix_row (pv 3) (pe_op op_mod (pe_op op_sub (pe_un un_neg pe_int) (pv 4)) (pe_callB call_lenB (by rfl) T.len boot_len (pa_cons (pv 3) pa_nil))) (fun _ _ => rfl)) (nomark _))
        (pss_one (ps_aug (i := 4) nd rfl (Or.inl rfl) pe_int ip_add)))
      (pss_cons (ps_set (i := 3) nd rfl (Or.inl rfl) (pe_co o2 hr rfl (pa_cons (pv 3) (pa_cons (pe_un un_neg (pv 4)) pa_nil))))
      (pss_cons (ps_set (i := 5) nd rfl (Or.inl rfl) (pe_op op_sub (pe_callB call_lenB (by rfl) T.len boot_len (pa_cons (pv 2) pa_nil)) (pv 4)))
      (pss_cons (ps_if (pt_cmpR op_le (pv 5) pe_int (nomark _)) (pss_one (ps_ret (pe_tup (pa_cons (pe_op op_add (pv 0) (pv 5)) (pa_cons (pe_co o2 hr rfl (pa_cons (pv 1) (pa_cons (pv 5) pa_nil))) (pa_cons (pe_tup pa_nil) (pa_cons (pv 3) pa_nil))))))) pss_nil)
      (pss_cons (ps_set (i := 6) nd rfl (Or.inl rfl) pe_int)
      (pss_cons (ps_while PassesOwn.never (PW.pt (pw_and (pt_cmpR op_lt (pv 6) (pv 5) (nomark _)) (pw_and1 (pt_cmpR op_eq (pe_ix ix_row (pv 2) (pv 6) (fun _ _ => rfl)) (pe_ix ix_row (pv 1) (pe_op op_mod (pv 6) (pe_callB call_lenB (by rfl) T.len boot_len (pa_cons (pv 1) pa_nil))) (fun _ _ => rfl)) (nomark _)))))
        (pss_one (ps_aug (i := 6) nd rfl (Or.inl rfl) pe_int ip_add)))
      (pss_one (ps_ret (pe_tup (pa_cons (pe_op op_add (pv 0) (pv 6)) (pa_cons (pe_co o2 hr rfl (pa_cons (pv 1) (pa_cons (pv 6) pa_nil))) (pa_cons (pe_slice sl_row (pv 2) (po_some (pv 6)) (po_some (pv 5))) (pa_cons (pv 3) pa_nil))))))))))))), ?_⟩
    have hb := KF.len_pos h4.ok.1
    have ha := KF.len_pos h4.ok.2
    obtain ⟨B, hB⟩ := KF.odd_place hl np
    refine wh_by (fun σ H' => H' = H ∧ ∃ j : Nat, σ = [some (.int d.start), some (.ref b), some (.ref m), some (.ref a), some (.int j), none, none] ∧ KF.Tail d j) (fun σ _ => match σ with | [_, _, _, _, some (.int y), _, _] => B - y.toNat | _ => 0) ⟨rfl, 0, rfl, KF.tail_zero d⟩ ?_
    rintro σ H' ⟨rfl, j, rfl, tl⟩
    have fl : ∀ j : Nat, KF.mem d (d.fin - 1 - (j : Int)) = (if (d.middle.length : Int) - 1 - (j : Int) < 0 then KF.cyc d.below ((d.middle.length : Int) - 1 - (j : Int)) else d.middle.getD ((d.middle.length : Int) - 1 - (j : Int)).toNat false) := fun j => by
      rw [← mem_at _ (by omega)]; congr 1; unfold KF.Desc.fin; omega
    refine ⟨_, rfl, _, rfl, _, rfl, _, d.middle, rfl, h4.mi, _, _, rfl, rfl, _, rfl, _, _, rfl, rfl, b, m, d.below, d.middle, _, rfl, h4.lo, h4.mi, h4.ok.1, by omega, ?_⟩
    refine ⟨_, rfl, _, rfl, _, rfl, _, _, rfl, rfl, _, rfl, _, d.above, rfl, h4.hi, _, _, rfl, rfl, by omega, _, d.above, _, rfl, rfl, h4.hi, ⟨Int.emod_nonneg _ (by omega), Int.emod_lt_of_pos _ (by omega)⟩, rfl, _, rfl, bIf2 (fun z => ⟨_, whN, ?_⟩) (fun z => ?_)⟩
    · have tl2 := KF.tail_step tl (by rw [fl j]; exact bl_inj z)
      have := hB _ tl2
      refine ⟨_, rfl, _, _, rfl, rfl, ⟨rfl, j + 1, by simp, tl2⟩, ?_⟩
      show B - ((j : Int) + 1).toNat < B - (j : Int).toNat
      omega
    · have ne : KF.mem d (d.fin - 1 - (j : Int)) ≠ KF.cyc d.above (-1 - (j : Int)) := fun k => z (congrArg V.bl (by rw [fl j] at k; exact k))
      refine ⟨_, rfl, _, rfl, _, rfl, a, d.above, _, rfl, h4.hi, h4.ok.2, la, fun a1 H1 s1 b1 => ?_⟩
      refine ⟨_, rfl, _, d.middle, rfl, h4.mi.same s1, _, rfl, _, _, rfl, rfl, ?_⟩
      refine ⟨_, rfl, _, _, rfl, rfl, _, rfl, bIf2 (fun y => ?_) (fun y => ?_)⟩
      · refine ⟨_, rfl, _, rfl, _, _, rfl, rfl, _, rfl, _, rfl, b, d.below, _, rfl, h4.lo.same s1, h4.ok.1, lb, fun b2 H2 s2 e2 => ?_⟩
        refine ⟨sz0, fun p3 hp3 => ?_⟩
        have s3 : L2.Same H2 (upd H2 p3 (.tup [])) := same_new hp3
        refine ⟨_, rfl, sz4, fun t ht => ?_⟩
        have s4 := same_new (o := .tup [.int (d.start + ((d.middle.length : Int) - (j : Int))), .ref b2, .ref p3, .ref a1]) ht
        refine q t ⟨d.start + ((d.middle.length : Int) - (j : Int)), KF.rot d.below ((d.middle.length : Int) - (j : Int)), [], KF.rot d.above (-(j : Int))⟩ _ (((s1.trans s2).trans s3).trans s4) ⟨b2, p3, a1, sqt_of upd_same, e2.same (s3.trans s4), Bt.of (s4 _ _ upd_same), b1.same ((s2.trans s3).trans s4)⟩ ?_
        exact KF.form_low hl np tl ne (by omega)
      · refine wh_by (fun σ H' => H' = H1 ∧ ∃ i : Nat, σ = [some (.int d.start), some (.ref b), some (.ref m), some (.ref a1), some (.int j), some (.int ((d.middle.length : Int) - (j : Int))), some (.int i)] ∧ KF.Head d i ∧ i ≤ d.middle.length - j) (fun σ _ => match σ with | [_, _, _, _, _, _, some (.int y)] => d.middle.length - y.toNat | _ => 0) ⟨rfl, 0, rfl, KF.head_zero d, by omega⟩ ?_
        rintro σ H' ⟨rfl, i, rfl, hd, hi⟩
        have fin : (i = d.middle.length - j ∨ d.middle.getD i false ≠ KF.cyc d.below (i : Int)) → _ := fun ke => KF.form_high hl np tl ne (by omega) hi hd ke
        have done : (i = d.middle.length - j ∨ d.middle.getD i false ≠ KF.cyc d.below (i : Int)) → tRet (tTup (tCons (tOp (rI0 fun i j => .int (i + j)) (tVar 0) (tVar 6)) (tCons (tCall (spRolled K) [] E0 (tCons (tVar 1) (tCons (tVar 6) tNil))) (tCons (tSl (rSlB K) (tVar 2) (tPart (tVar 6)) (tPart (tVar 5))) (tCons (tVar 3) tNil)))))
            { nx := fun _ H' => Q .non H', rt := Q } [some (.int d.start), some (.ref b), some (.ref m), some (.ref a1), some (.int j), some (.int ((d.middle.length : Int) - (j : Int))), some (.int i)] H' := fun ke => by
          refine ⟨_, rfl, _, rfl, _, _, rfl, rfl, _, rfl, _, rfl, b, d.below, _, rfl, h4.lo.same s1, h4.ok.1, lb, fun b2 H2 s2 e2 => ?_⟩
          refine ⟨_, rfl, _, rfl, _, rfl, _, rfl, _, rfl, _, d.middle, rfl, h4.mi.same (s1.trans s2), fun p3 H3 s3 e3 => ?_⟩
          rw [cutB_mid _ (by omega) (by omega) (by omega)] at e3
          refine ⟨_, rfl, sz4, fun t ht => ?_⟩
          have s4 := same_new (o := .tup [.int (d.start + (i : Int)), .ref b2, .ref p3, .ref a1]) ht
          have e : ((d.middle.length : Int) - (j : Int)).toNat = d.middle.length - j := by omega
          rw [e] at e3
          exact q t _ _ (((s1.trans s2).trans s3).trans s4) ⟨b2, p3, a1, sqt_of upd_same, e2.same (s3.trans s4), e3.same s4, b1.same ((s2.trans s3).trans s4)⟩ (fin ke)
        refine ⟨_, rfl, _, rfl, _, _, rfl, rfl, _, rfl, bIf2 (fun x => ?_) (fun x => ?_)⟩
        · refine ⟨_, rfl, _, rfl, _, d.middle, _, rfl, rfl, h4.mi.same s1, ⟨by omega, by omega⟩, ?_⟩
          refine ⟨_, rfl, _, rfl, _, rfl, _, d.below, rfl, h4.lo.same s1, _, _, rfl, rfl, by omega, _, d.below, _, rfl, rfl, h4.lo.same s1, ⟨Int.emod_nonneg _ (by omega), Int.emod_lt_of_pos _ (by omega)⟩, rfl, _, rfl, bIf2 (fun v => ⟨_, whN, ?_⟩) (fun v => ?_)⟩
          · have hd2 := KF.head_step hd (by omega) (bl_inj v)
            refine ⟨_, rfl, _, _, rfl, rfl, ⟨rfl, i + 1, by simp, hd2, by omega⟩, ?_⟩
            show d.middle.length - ((i : Int) + 1).toNat < d.middle.length - (i : Int).toNat
            omega
          · exact done (.inr fun k => v (congrArg V.bl k))
        · exact iteF (done (.inl (by omega)))
theorem call_lenK {X : Cx} (K : PySem.W.Frag) (hK : X.K = K) : CallR X (.builtin "len") (rLenB K) := by subst hK; exact call_lenB
theorem ix_rowK {X : Cx} (K : PySem.W.Frag) (hK : X.K = K) : IxR X (rIxB K) := by subst hK; exact ix_row
/-! ### one_form -/
def spForm (K : PySem.W.Frag) : Sp := fun vs H Q _ => ∃ b m a d, vs = [.int d.start, .ref b, .ref m, .ref a] ∧ Rows4 K H b m a d ∧ d.below.length ≤ 10000 ∧ d.above.length ≤ 10000 ∧ d.middle.length ≤ 30000 ∧
  ∀ t d' H', L2.Same H H' → Told K H' t d' → KF.IsForm (KF.mem d) d' → Q (.ref t) H'
theorem sc_one_form : FnScope ["start", "below", "middle", "above", "word", "at", "truth"] ["start", "below", "middle", "above"] (defScope s_one_form) := ⟨rfl, rfl, rfl, by decide +kernel, rfl, by decide +kernel, by decide +kernel⟩
theorem all_range {n : Nat} {g : Nat → Bool} : ((List.range n).map g).all id = true ↔ ∀ i, i < n → g i = true := by
  rw [List.all_eq_true]
  constructor
  · intro h i hi
    exact h (g i) (List.mem_map.mpr ⟨i, List.mem_range.mpr hi, rfl⟩)
  · intro h x hx
    obtain ⟨i, hi, rfl⟩ := List.mem_map.mp hx
    exact h i (List.mem_range.mp hi)
theorem row_at {r : List Bool} {i : Nat} {x : V} (h : (r.map V.bl)[i]? = some x) : i < r.length ∧ x = .bl (r.getD i false) := by
  rw [List.getElem?_map] at h
  by_cases z : i < r.length
  · rw [List.getElem?_eq_getElem z] at h
    exact ⟨z, by rw [KF.getD_at r z]; exact (Option.some.inj h).symm⟩
  · rw [List.getElem?_eq_none (by omega)] at h; cases h
theorem small_row {n : Nat} (h : n < 100000) : n < sizeLine := Nat.lt_of_lt_of_le h (by decide)
theorem w_one_form (T : Tx K mg C) (h : Has K mg "one_form" s_one_form ["start", "below", "middle", "above"]) (o0 : Ok P w K mg base 1 "least_step" ["row"] (spStep K)) (o2 : Ok P w K mg base 1 "rolled" ["row", "by"] (spRolled K)) (o3 : Ok P w K mg base 2 "least_middle" ["start", "below", "middle", "above"] (spMiddle K)) :
    Ok P w K mg base 3 "one_form" ["start", "below", "middle", "above"] (spForm K) := by
  refine h.ok sc_one_form (fun vs H Q E h => ?_) (fun f cdv A outer s H vs Q E hr h => ?_)
  · obtain ⟨b, m, a, d, rfl, _⟩ := h; rfl
  · obtain ⟨b, m, a, d, rfl, h4, lb, la, lm, q⟩ := h
    have nd := sc_one_form.nd
    have hu := hu64 hr
    have hr1 : Room 1 _ := hr.mono (by decide)
    refine ⟨_, pss_cons (ps_set (i := 3) nd rfl (Or.inl rfl) (pe_slice sl_row (pv 3) po_none (po_some (pe_co o0 hr1 rfl (pa_cons (pv 3) pa_nil)))))
      (pss_cons (ps_set (i := 1) nd rfl (Or.inl rfl) (pe_slice sl_row (pv 1) po_none (po_some (pe_co o0 hr1 rfl (pa_cons (pv 1) pa_nil)))))
      (pss_cons (ps_set (i := 4) nd rfl (Or.inr rfl) (pe_co o2 hr1 rfl (pa_cons (pv 3) (pa_cons (pe_un un_neg (pe_callB call_lenB (by rfl) T.len boot_len (pa_cons (pv 2) pa_nil))) pa_nil))))
      (pss_cons (ps_if (PW.pt (pw_and (pt_cmpR (op_eqB hu) (pv 1) (pv 4) (nomark _)) (pw_and1 (pt_val (pe_callB (cr_all rfl) (by rfl) T.all boot_all' (pa_cons
          (pe_lc (own := [("at", 5), ("truth", 6)]) (g := gTup K 2 (gCons (gName 5) (gCons (gName 6) gNil))) (tt := tYes) rfl nd (pi_enumT rfl T.enu (pa_cons (pv 2) pa_nil))
            (blkOk_by (N := ["start", "below", "middle", "above", "word", "at", "truth"]) (sc := defScope s_one_form) (by decide +kernel)) (fun _ _ _ _ _ => pg_tup rfl (pgs_cons (pg_name (i := 5) nd rfl (Or.inl rfl)) (pgs_cons (pg_name (i := 6) nd rfl (Or.inl rfl)) pgs_nil))) (fun _ _ _ _ _ => pts_nil)
            (fun _ _ _ _ _ => pe_cmpR op_eq (pv 6) (pe_ix (ix_rowK K rfl) (pv 4) (pe_op op_mod (pv 5) (pe_callB (call_lenK K rfl) (by rfl) T.len boot_len (pa_cons (pv 4) pa_nil))) (fun _ _ => rfl)) (nomark _))) pa_nil))))))
        (pss_cons (ps_set (i := 4) nd rfl (Or.inr rfl) (pe_co o2 hr1 rfl (pa_cons (pv 4) (pa_cons (pe_un un_neg (pv 0)) pa_nil))))
          (pss_one (ps_ret (pe_tup (pa_cons pe_int (pa_cons (pv 4) (pa_cons (pe_tup pa_nil) (pa_cons (pv 4) pa_nil)))))))) pss_nil)
      (pss_one (ps_ret (pe_co o3 hr rfl (pa_cons (pv 0) (pa_cons (pv 1) (pa_cons (pv 2) (pa_cons (pv 3) pa_nil)))))))))), ?_⟩
    have hb := KF.len_pos h4.ok.1
    have ha := KF.len_pos h4.ok.2
    refine ⟨_, rfl, _, rfl, a, _, rfl, h4.hi, ha, by omega, fun qn H1 s1 q1 q2 lq => ?_⟩
    refine ⟨_, rfl, _, _, rfl, h4.hi.same s1, fun a1 H2 s2 b2 => ?_⟩
    rw [cutB_to _ (by omega)] at b2
    have s12 := s1.trans s2
    refine ⟨_, rfl, _, rfl, b, _, rfl, h4.lo.same s12, hb, by omega, fun pn H3 s3 p1 p2 lp => ?_⟩
    refine ⟨_, rfl, _, _, rfl, h4.lo.same (s12.trans s3), fun b1 H4 s4 c1 => ?_⟩
    rw [cutB_to _ (by omega)] at c1
    have s14 := (s12.trans s3).trans s4
    have en : ∀ k : Nat, ((k : Int)).toNat = k := fun k => by omega
    rw [en] at b2 c1
    have L := KF.cut_least h4.ok lp lq
    have M := KF.cut_mem h4.ok lp lq
    have ok' := L.ok
    have b2' : Bt K H4 a1 (KF.cut d pn qn).above := b2.same (s3.trans s4)
    have c1' : Bt K H4 b1 (KF.cut d pn qn).below := c1
    have m4 : Bt K H4 m (KF.cut d pn qn).middle := h4.mi.same s14
    have mem_eq : KF.mem (KF.cut d pn qn) = KF.mem d := funext M
    have la' : (KF.cut d pn qn).above.length ≤ 10000 := by show (d.above.take qn).length ≤ 10000; rw [List.length_take]; omega
    have lb' : (KF.cut d pn qn).below.length ≤ 10000 := by show (d.below.take pn).length ≤ 10000; rw [List.length_take]; omega
    rw [← mem_eq] at q
    have lm' : (KF.cut d pn qn).middle.length ≤ 30000 := lm
    have es : (KF.cut d pn qn).start = d.start := rfl
    rw [← es]
    generalize KF.cut d pn qn = e at L ok' b2' c1' m4 la' lb' q lm'
    refine ⟨_, rfl, _, rfl, _, e.middle, rfl, m4, _, rfl, a1, e.above, _, rfl, b2', ok'.2, la', fun wd H5 s5 w5 => ?_⟩
    have wn : KF.word e ≠ [] := KF.rot_ne ok'.2 _
    have wl : (KF.word e).length = e.above.length := KF.rot_len _ _
    have hw := KF.len_pos wn
    have w5 : Bt K H5 wd (KF.word e) := w5
    have other : ∀ (σ6 : Option V) (σ7 : Option V) (H6 : Hp), L2.Same H4 H6 → ¬ KF.Same e → (tRet (tCall (spMiddle K) [] E0 (tCons (tVar 0) (tCons (tVar 1) (tCons (tVar 2) (tCons (tVar 3) tNil))))))
        { nx := fun _ H' => Q .non H', rt := Q } [some (.int e.start), some (.ref b1), some (.ref m), some (.ref a1), some (.ref wd), σ6, σ7] H6 := fun σ6 σ7 H6 s6 ns =>
      ⟨_, rfl, _, rfl, _, rfl, _, rfl, b1, m, a1, e, rfl, ⟨c1'.same s6, m4.same s6, b2'.same s6, ok'⟩, L, KF.not_same L ns, lb', la', fun t d' H7 s7 t7 f7 => q t d' H7 ((s14.trans s6).trans s7) t7 f7⟩
    refine ⟨_, rfl, _, rfl, _, _, _, _, rfl, rfl, c1'.same s5, w5, _, rfl, bIf2 (fun z => ?_) (fun z => ?_)⟩
    · refine ⟨_, rfl, m, e.middle.map V.bl, rfl, m4.same s5, fun D hD => lc_enumT (fun i H' => L2.Same H5 H' ∧ H' D = some (.lst ((List.range i).map fun k => V.bl (decide (e.middle.getD k false = KF.cyc (KF.word e) (k : Int)))))) ⟨same_new hD, upd_same⟩ (fun i H' _ p => (m4.same s5).same p.1) ?_ ?_⟩
      · rintro i x H' U hx ⟨p1, p2⟩ hU
        obtain ⟨hi, rfl⟩ := row_at hx
        have sU : L2.Same H' (upd H' U (.tup [.int (i : Nat), .bl (e.middle.getD i false)])) := same_new hU
        refine ⟨U, _, rfl, sqt_of upd_same, rfl, _, _, rfl, _, _, rfl, rfl, rfl, ?_⟩
        refine ⟨_, rfl, _, rfl, _, rfl, _, rfl, _, KF.word e, rfl, w5.same (p1.trans sU), _, _, rfl, rfl, by omega, _, KF.word e, _, rfl, rfl, w5.same (p1.trans sU), ⟨Int.emod_nonneg _ (by omega), Int.emod_lt_of_pos _ (by omega)⟩, rfl, ?_⟩
        refine ⟨_, sU _ _ p2, by rw [List.length_map, List.length_range]; exact small_row (by omega), ?_, ?_⟩
        · exact fun c o z => (by rw [upd_ne (ne_of_none z hD)]; exact sU _ _ (p1 _ _ z))
        · rw [upd_same, List.range_succ, List.map_append]
          have : decide (V.bl (e.middle.getD i false) = V.bl ((KF.word e).getD ((i : Int) % ((KF.word e).length : Int)).toNat false)) = decide (e.middle.getD i false = KF.cyc (KF.word e) (i : Int)) := dec_bl
          exact congrArg (fun v => some (HO.lst (_ ++ [V.bl v]))) this
      · rintro H6 ⟨p1, p2⟩
        rw [List.length_map] at p2
        have e6 : ((List.range e.middle.length).map fun k => V.bl (decide (e.middle.getD k false = KF.cyc (KF.word e) (k : Int)))) = ((List.range e.middle.length).map fun k => decide (e.middle.getD k false = KF.cyc (KF.word e) (k : Int))).map V.bl := by rw [List.map_map]; rfl
        rw [e6] at p2
        refine ⟨D, _, rfl, sql_of p2, _, rfl, bIf (fun y => ?_) (fun y => ?_)⟩
        · have sm : KF.Same e := ⟨z, fun i hi => by simpa using all_range.mp y i hi⟩
          refine ⟨_, rfl, _, rfl, _, rfl, wd, KF.word e, _, rfl, w5.same p1, wn, by omega, fun w2 H7 s7 w7 => ?_⟩
          refine ⟨_, rfl, sz0, fun p3 hp3 => ?_⟩
          have s8 : L2.Same H7 (upd H7 p3 (.tup [])) := same_new hp3
          refine ⟨_, rfl, sz4, fun t ht => ?_⟩
          have s9 := same_new (o := .tup [.int 0, .ref w2, .ref p3, .ref w2]) ht
          refine q t ⟨0, KF.rot (KF.word e) (-e.start), [], KF.rot (KF.word e) (-e.start)⟩ _ (((((s14.trans s5).trans p1).trans s7).trans s8).trans s9) ⟨w2, p3, w2, sqt_of upd_same, w7.same (s8.trans s9), Bt.of (s9 _ _ upd_same), w7.same (s8.trans s9)⟩ (KF.form_same L sm)
        · refine other _ _ _ (s5.trans p1) fun sm => ?_
          have : ((List.range e.middle.length).map fun k => decide (e.middle.getD k false = KF.cyc (KF.word e) (k : Int))).all id = true := all_range.mpr fun i hi => decide_eq_true (sm.2 i hi)
          rw [this] at y; cases y
    · exact iteF (other _ _ _ s5 fun sm => z sm.1)
end
end K14
set_option Elab.async false
set_option linter.all false
set_option maxRecDepth 100000
set_option maxHeartbeats 4000000
/-! The walks, third part: the class, first half. -/
namespace K14
open PySem PySem.Spec PyProof.Rows L2
section
variable {X : Cx} {C : Addr} {sp : Sp} {k : Nat} {ps : List Str}
theorem op_mo {op : Operator} (F : OkM X.prog X.w X.K X.mg X.base k C (PySem.dunder op.info.2) ps sp) (hr : Room k X.A) (hc : PySem.W.selfFirst X.K C = true) : OpR X (binaryOp op) (rOwn2 C sp) := by
  obtain ⟨f, fd, F, hm, hb⟩ := F
  exact op_own F hr hb hc hm
theorem op_moEq (F : OkM X.prog X.w X.K X.mg X.base k C "__eq__" ps sp) (hr : Room k X.A) : OpR X (compareOp .Eq) (rOwn2 C sp) := by
  obtain ⟨f, fd, F, hm, hb⟩ := F
  exact op_ownEq F hr hb hm
theorem op_moIn (F : OkM X.prog X.w X.K X.mg X.base k C "__contains__" ps sp) (hr : Room k X.A) : OpR X (compareOp .In) (rOwnIn C sp) := by
  obtain ⟨f, fd, F, hm, hb⟩ := F
  exact op_ownIn F hr hb hm
theorem un_moInv (F : OkM X.prog X.w X.K X.mg X.base k C "__invert__" ps sp) (hr : Room k X.A) : UnR X (unaryOp .Invert) (rOwn1 C sp) := by
  obtain ⟨f, fd, F, hm, hb⟩ := F
  exact un_ownInv F hr hb hm
theorem un_moNeg (F : OkM X.prog X.w X.K X.mg X.base k C "__neg__" ps sp) (hr : Room k X.A) : UnR X (unaryOp .USub) (rOwn1 C sp) := by
  obtain ⟨f, fd, F, hm, hb⟩ := F
  exact un_ownNeg F hr hb hm
theorem pe_moNot {e : Expr} {te : TE} {pos : Pos} (he : PE X e te) (F : OkM X.prog X.w X.K X.mg X.base k C "__bool__" ps sp) (hr : Room k X.A) : PE X (.UnaryOp .Not e pos) (tOwnNot C sp te) := by
  obtain ⟨f, fd, F, hm, hb⟩ := F
  exact pe_ownNot he F hr hb hm
def rTupRow (K : PySem.W.Frag) : List V → Hp → VK → Prop := fun xs H Q => ∃ a r, xs = [.ref a] ∧ RowV K H a r ∧ ∀ p H', L2.Same H H' → Bt K H' p r → Q (.ref p) H'
theorem call_tupRow : CallR X (.type "tuple") (rTupRow X.K) := by
  intro pins s σ H xs us Q I r h
  obtain ⟨a, z, rfl, h1, q⟩ := h
  refine call_tuple_of pins s σ H _ us Q I r ?_
  rcases h1 with h1 | h1
  · exact ⟨a, _, rfl, .inr ⟨h1, q a H (L2.Same.refl _) h1⟩⟩
  · exact ⟨a, _, rfl, .inl ⟨h1, fun l hl => q l _ (same_new hl) (Bt.of upd_same)⟩⟩
theorem pi_or {tg l : Expr} {i j : TI} (h1 : PI X tg l i) (h2 : PI X tg l j) : PI X tg l (fun σ H R => i σ H R ∨ j σ H R) :=
  ⟨fun pins s σ H R I h => h.elim (fun h => h1.run pins s σ H R I h) fun h => h2.run pins s σ H R I h⟩
end
section
variable {P : Program} {w : World} {K : PySem.W.Frag} {mg : Str → Option Value} {base : Heap} {C : Addr}
/-! ### is_truths -/
theorem sc_is_truths : FnScope ["value", "item"] ["value"] (defScope s_is_truths) := ⟨rfl, rfl, rfl, by decide +kernel, rfl, by decide +kernel, by decide +kernel⟩
def spTruths (K : PySem.W.Frag) : Sp := fun vs H Q _ => ∃ a r, vs = [.ref a] ∧ RowV K H a r ∧ r.length ≤ 30000 ∧ ∀ H', L2.Same H H' → Q (.bl true) H'
theorem w_is_truths (T : Tx K mg C) (h : Has K mg "is_truths" s_is_truths ["value"]) (o1 : Ok P w K mg base 1 "is_row" ["value"] (spRow K)) : Ok P w K mg base 2 "is_truths" ["value"] (spTruths K) := by
  refine h.ok sc_is_truths (fun vs H Q E h => ?_) (fun f cdv A outer s H vs Q E hr h => ?_)
  · obtain ⟨a, r, rfl, _⟩ := h; rfl
  · obtain ⟨a, r, rfl, hR, hl, q⟩ := h
    have nd := sc_is_truths.nd
    refine ⟨_, pss_one (ps_ret (pe_and (pe_co o1 hr rfl (pa_cons (pv 0) pa_nil)) (pe_one (pe_callB (cr_all rfl) (by rfl) T.all boot_all' (pa_cons
      (pe_lc (own := [("item", 1)]) (g := gName 1) (tt := tYes) rfl nd (pi_or (pi_tup (pv 0)) (pi_list (pv 0))) (blkOk_by (N := ["value", "item"]) (sc := defScope s_is_truths) (by decide +kernel)) (fun _ _ _ _ _ => pg_name (i := 1) nd rfl (Or.inl rfl)) (fun _ _ _ _ _ => pts_nil)
        (fun _ _ _ _ _ => pe_or (pe_cmpR op_is_bl (pv 1) pe_bl (nomark _)) (pe_one (pe_cmpR op_is_bl (pv 1) pe_bl (nomark _))))) pa_nil))))), ?_⟩
    refine ⟨_, rfl, a, r, rfl, hR, fun H1 s1 => ⟨_, rfl, iteT ?_⟩⟩
    have turn : ∀ (D : Addr) (i : Nat) (x : V) (H' : Hp), H1 D = none → (r.map V.bl)[i]? = some x → (L2.Same H1 H' ∧ H' D = some (.lst (List.replicate i (.bl true)))) →
        gName 1 x (wipe (start ["value", "item"] [.ref a]) [1]) H' fun σ2 H2 => wipe σ2 [1] = wipe (start ["value", "item"] [.ref a]) [1] ∧ tYes σ2 H2 fun b H3 => if b = true then tOrV (tOp (fun x y H Q => ∃ a b, x = .bl a ∧ y = .bl b ∧ Q (.bl (decide (a = b))) H) (tVar 1) (tC (.bl true))) (tOp (fun x y H Q => ∃ a b, x = .bl a ∧ y = .bl b ∧ Q (.bl (decide (a = b))) H) (tVar 1) (tC (.bl false))) σ2 H3 fun y H4 =>
          ∃ acc, H4 D = some (.lst acc) ∧ acc.length < sizeLine ∧ (L2.Same H1 (upd H4 D (.lst (acc ++ [y]))) ∧ (upd H4 D (.lst (acc ++ [y]))) D = some (.lst (List.replicate (i + 1) (.bl true)))) else (L2.Same H1 H3 ∧ H3 D = some (.lst (List.replicate (i + 1) (.bl true)))) := by
      rintro D i x H' hD hx ⟨p1, p2⟩
      obtain ⟨hi, rfl⟩ := row_at hx
      have last : ∃ acc, H' D = some (.lst acc) ∧ acc.length < sizeLine ∧ (L2.Same H1 (upd H' D (.lst (acc ++ [V.bl true]))) ∧ (upd H' D (.lst (acc ++ [V.bl true]))) D = some (.lst (List.replicate (i + 1) (.bl true)))) :=
        ⟨_, p2, by rw [List.length_replicate]; exact small_row (by omega), same_upd p1 hD, by rw [upd_same, List.replicate_succ']⟩
      refine ⟨rfl, ⟨_, rfl, _, _, rfl, rfl, _, rfl, ?_⟩⟩
      cases r.getD i false with
      | true => exact iteT last
      | false => exact iteF ⟨_, rfl, _, _, rfl, rfl, last⟩
    have fin : ∀ (D : Addr) (H' : Hp), (L2.Same H1 H' ∧ H' D = some (.lst (List.replicate (r.map V.bl).length (.bl true)))) → ∃ (a' : Addr) (bs : List Bool), [V.ref D] = [.ref a'] ∧ SqL K H' a' (bs.map V.bl) ∧ Q (.bl (bs.all id)) H' := fun D H' ⟨p1, p2⟩ => by
      refine ⟨D, List.replicate (r.map V.bl).length true, rfl, sql_of (by rw [List.map_replicate]; exact p2), ?_⟩
      have e : (List.replicate (r.map V.bl).length true).all id = true := by rw [List.all_replicate]; simp
      rw [e]
      exact q _ (s1.trans p1)
    rcases hR.same s1 with z | z
    · exact .inl ⟨_, rfl, a, rfl, ⟨_, z⟩, fun D hD => lc_tup (xs := r.map V.bl) (fun i H' => L2.Same H1 H' ∧ H' D = some (.lst (List.replicate i (.bl true)))) ⟨same_new hD, upd_same⟩ (fun i H' _ p => sqt_same z p.1) (fun i x H' hx p => turn D i x H' hD hx p) (fun H' p => fin D H' p)⟩
    · exact .inr ⟨_, rfl, a, rfl, ⟨_, z⟩, fun D hD => lc_list (xs := r.map V.bl) (fun i H' => L2.Same H1 H' ∧ H' D = some (.lst (List.replicate i (.bl true)))) ⟨same_new hD, upd_same⟩ (fun i H' _ p => p.1.seq z) (fun i x H' hx p => turn D i x H' hD hx p) (fun H' p => fin D H' p)⟩
/-! ### the instances -/
def fs4 (i : Int) (b m a : Addr) : List (Str × V) := [("start", .int i), ("below", .ref b), ("middle", .ref m), ("above", .ref a)]
structure RAt (K : PySem.W.Frag) (C : Addr) (H : Hp) (x : Addr) (d : KF.Desc) : Prop where
  ex : ∃ dx b m a, H x = some (.ins C dx (fs4 d.start b m a)) ∧ Rows4 K H b m a d
theorem RAt.same {H H' : Hp} {x : Addr} {d : KF.Desc} (h : RAt K C H x d) (e : L2.Same H H') : RAt K C H' x d := by
  obtain ⟨dx, b, m, a, h1, h2⟩ := h.ex
  exact ⟨dx, b, m, a, e _ _ h1, h2.same e⟩
theorem fs4_S {i : Int} {b m a : Addr} : (fs4 i b m a).lookup ("start" : Str) = some (.int i) := rfl
theorem fs4_B {i : Int} {b m a : Addr} : (fs4 i b m a).lookup ("below" : Str) = some (.ref b) := by unfold fs4; simp [List.lookup, show (("below" : Str) == "start") = false by decide +kernel]
theorem fs4_M {i : Int} {b m a : Addr} : (fs4 i b m a).lookup ("middle" : Str) = some (.ref m) := by unfold fs4; simp [List.lookup, show (("middle" : Str) == "start") = false by decide +kernel, show (("middle" : Str) == "below") = false by decide +kernel]
theorem fs4_A {i : Int} {b m a : Addr} : (fs4 i b m a).lookup ("above" : Str) = some (.ref a) := by unfold fs4; simp [List.lookup, show (("above" : Str) == "start") = false by decide +kernel, show (("above" : Str) == "below") = false by decide +kernel, show (("above" : Str) == "middle") = false by decide +kernel]
theorem fs4_no {i : Int} {b m a : Addr} {x : Str} (h : ((x == "start") || (x == "below") || (x == "middle") || (x == "above")) = false) : (fs4 i b m a).lookup x = none := by
  simp only [Bool.or_eq_false_iff] at h
  unfold fs4
  simp [List.lookup, h.1.1.1, h.1.1.2, h.1.2, h.2]
theorem put4 (i : Int) (b m a : Addr) : putF "above" (.ref a) (putF "middle" (.ref m) (putF "below" (.ref b) (putF "start" (.int i) []))) = fs4 i b m a := by
  have h1 : ¬ (("start" : Str) = "below") := by decide +kernel
  have h2 : ¬ (("start" : Str) = "middle") := by decide +kernel
  have h3 : ¬ (("start" : Str) = "above") := by decide +kernel
  have h4 : ¬ (("below" : Str) = "middle") := by decide +kernel
  have h5 : ¬ (("below" : Str) = "above") := by decide +kernel
  have h6 : ¬ (("middle" : Str) = "above") := by decide +kernel
  simp [putF, h1, h2, h3, h4, h5, h6, fs4]
/-! ### __init__ -/
def spInit (K : PySem.W.Frag) (C : Addr) : Sp := fun vs H Q _ => ∃ x dx b m a d, vs = [.ref x, .int d.start, .ref b, .ref m, .ref a] ∧ H x = some (.ins C dx []) ∧ RowV K H b d.below ∧ RowV K H m d.middle ∧ RowV K H a d.above ∧ d.ok ∧ d.below.length ≤ 10000 ∧ d.above.length ≤ 10000 ∧ d.middle.length ≤ 30000 ∧
  ∀ d' H', (∀ y o, H y = some o → y ≠ x → H' y = some o) → RAt K C H' x d' → KF.IsForm (KF.mem d) d' → Q .non H'
theorem sc_init : FnScope ["self", "start", "below", "middle", "above", "form"] ["self", "start", "below", "middle", "above"] (defScope m_init) := ⟨rfl, rfl, rfl, by decide +kernel, rfl, by decide +kernel, by decide +kernel⟩
theorem w_init (T : Tx K mg C) (h : HasM K C "__init__" "Rounds.__init__" m_init ["self", "start", "below", "middle", "above"]) (o1 : Ok P w K mg base 2 "check_int" ["what", "value"] spCheck) (o2 : Ok P w K mg base 2 "is_truths" ["value"] (spTruths K)) (o3 : Ok P w K mg base 3 "one_form" ["start", "below", "middle", "above"] (spForm K)) :
    OkM P w K mg base 4 C "__init__" ["self", "start", "below", "middle", "above"] (spInit K C) := by
  refine h.ok sc_init (fun vs H Q E h => ?_) (fun f cdv A outer s H vs Q E hr h => ?_)
  · obtain ⟨x, dx, b, m, a, d, rfl, _⟩ := h; rfl
  · obtain ⟨x, dx, b, m, a, d, rfl, hx, rb, rm, ra, ok, lb, la, lm, q⟩ := h
    have nd := sc_init.nd
    have hr2 : Room 2 _ := hr.mono (by decide)
    refine ⟨_, pss_cons (ps_expr (pe_co o1 hr2 rfl (pa_cons pe_str (pa_cons (pv 1) pa_nil))))
      (pss_cons (ps_if (PW.pt (pw_or (pt_not (pt_val (pe_co o2 hr2 rfl (pa_cons (pv 2) pa_nil)))) (pw_or1 (pt_cmpR op_eq (pe_callB call_len_seq (by rfl) T.len boot_len (pa_cons (pv 2) pa_nil)) pe_int (nomark _))))) pss_never pss_nil)
      (pss_cons (ps_if (pt_not (pt_val (pe_co o2 hr2 rfl (pa_cons (pv 3) pa_nil)))) pss_never pss_nil)
      (pss_cons (ps_if (PW.pt (pw_or (pt_not (pt_val (pe_co o2 hr2 rfl (pa_cons (pv 4) pa_nil)))) (pw_or1 (pt_cmpR op_eq (pe_callB call_len_seq (by rfl) T.len boot_len (pa_cons (pv 4) pa_nil)) pe_int (nomark _))))) pss_never pss_nil)
      (pss_cons (ps_set (i := 5) nd rfl (Or.inl rfl) (pe_co o3 hr rfl (pa_cons (pv 1) (pa_cons (pe_callTy call_tupRow (by rfl) T.tup boot_tuple (pa_cons (pv 2) pa_nil)) (pa_cons (pe_callTy call_tupRow (by rfl) T.tup boot_tuple (pa_cons (pv 3) pa_nil)) (pa_cons (pe_callTy call_tupRow (by rfl) T.tup boot_tuple (pa_cons (pv 4) pa_nil)) pa_nil))))))
      (pss_one (ps_asg (pv 5) (pg_tup rfl (pgs_cons (pg_fld (pv 0)) (pgs_cons (pg_fld (pv 0)) (pgs_cons (pg_fld (pv 0)) (pgs_cons (pg_fld (pv 0)) pgs_nil))))))))))), ?_⟩
    have hb := KF.len_pos ok.1
    have ha := KF.len_pos ok.2
    have sq : ∀ {H' : Hp} {p : Addr} {r : List Bool}, RowV K H' p r → SqL K H' p (r.map V.bl) ∨ SqT K H' p (r.map V.bl) := fun z => z.symm
    refine ⟨_, rfl, _, _, rfl, ?_⟩
    refine ⟨_, rfl, b, d.below, rfl, rb, by omega, fun H1 s1 => ⟨_, rfl, iteF ?_⟩⟩
    refine ⟨_, rfl, b, _, rfl, sq (rb.same s1), rfl, _, rfl, iteG (decide_eq_false fun z => ?_) ?_⟩
    · have z' : (((d.below.map V.bl).length : Nat) : Int) = 0 := by injection z
      rw [List.length_map] at z'; omega
    refine ⟨_, rfl, m, d.middle, rfl, rm.same s1, by omega, fun H2 s2 => ⟨_, rfl, iteF ?_⟩⟩
    refine ⟨_, rfl, a, d.above, rfl, ra.same (s1.trans s2), by omega, fun H3 s3 => ⟨_, rfl, iteF ?_⟩⟩
    have s13 := (s1.trans s2).trans s3
    refine ⟨_, rfl, a, _, rfl, sq (ra.same s13), rfl, _, rfl, iteG (decide_eq_false fun z => ?_) ?_⟩
    · have z' : (((d.above.map V.bl).length : Nat) : Int) = 0 := by injection z
      rw [List.length_map] at z'; omega
    refine ⟨_, rfl, _, rfl, b, _, rfl, rb.same s13, fun b' H4 s4 eb => ?_⟩
    refine ⟨_, rfl, m, _, rfl, rm.same (s13.trans s4), fun m' H5 s5 em => ?_⟩
    refine ⟨_, rfl, a, _, rfl, ra.same ((s13.trans s4).trans s5), fun a' H6 s6 ea => ?_⟩
    refine ⟨b', m', a', d, rfl, ⟨eb.same (s5.trans s6), em.same s6, ea, ok⟩, lb, la, lm, fun t d' H7 s7 ht hf => ?_⟩
    have s17 := (((s13.trans s4).trans s5).trans s6).trans s7
    obtain ⟨b2, m2, a2, e0, e1, e2, e3⟩ := ht
    have hx7 := s17 _ _ hx
    have keep : ∀ fs y o, H7 y = some o → y ≠ x → upd H7 x (.ins C dx fs) y = some o := fun fs y o h1 h2 => by rw [upd_ne h2]; exact h1
    have nx : ∀ {p xs}, SqT K H7 p xs → SqT K (upd (upd (upd (upd H7 x (.ins C dx (putF "start" (.int d'.start) []))) x (.ins C dx (putF "below" (.ref b2) (putF "start" (.int d'.start) [])))) x (.ins C dx (putF "middle" (.ref m2) (putF "below" (.ref b2) (putF "start" (.int d'.start) []))))) x (.ins C dx (putF "above" (.ref a2) (putF "middle" (.ref m2) (putF "below" (.ref b2) (putF "start" (.int d'.start) [])))))) p xs := fun {p xs} z => by
      rw [upd_upd, upd_upd, upd_upd]
      rcases z with (z | ⟨o, z⟩) | z
      · exact .inl (.inl (keep _ _ _ z (ne_of z hx7 (by intro k; cases k))))
      · exact .inl (.inr ⟨o, keep _ _ _ z (ne_of z hx7 (by intro k; cases k))⟩)
      · exact .inr z
    refine ⟨_, rfl, t, _, rfl, e0, rfl, _, _, rfl, _, rfl, x, C, dx, _, rfl, hx7, T.cl, T.nS, (by show 0 < 1000; decide), ?_⟩
    refine ⟨_, _, rfl, _, rfl, x, C, dx, _, rfl, upd_same, T.cl, T.nB, (by show 1 < 1000; decide), ?_⟩
    have l2 : (putF "below" (V.ref b2) (putF "start" (V.int d'.start) [])).length < 1000 := by
      have h1 : ¬ (("start" : Str) = "below") := by decide +kernel
      simp [putF, h1]
    refine ⟨_, _, rfl, _, rfl, x, C, dx, _, rfl, upd_same, T.cl, T.nM, l2, ?_⟩
    have l3 : (putF "middle" (V.ref m2) (putF "below" (V.ref b2) (putF "start" (V.int d'.start) []))).length < 1000 := by
      have h1 : ¬ (("start" : Str) = "below") := by decide +kernel
      have h2 : ¬ (("start" : Str) = "middle") := by decide +kernel
      have h4 : ¬ (("below" : Str) = "middle") := by decide +kernel
      simp [putF, h1, h2, h4]
    refine ⟨_, _, rfl, _, rfl, x, C, dx, _, rfl, upd_same, T.cl, T.nA, l3, ?_⟩
    refine ⟨rfl, q d' _ (fun y o h1 h2 => ?_) ⟨dx, b2, m2, a2, by rw [upd_same, put4], nx e1, nx e2, nx e3, hf.ok⟩ hf⟩
    rw [upd_upd, upd_upd, upd_upd, upd_ne h2]
    exact s17 _ _ h1
end
end K14
set_option Elab.async false
set_option linter.all false
set_option maxRecDepth 100000
set_option maxHeartbeats 4000000
/-! The walks, fourth part: the class, second half. -/
namespace K14
open PySem PySem.Spec PyProof.Rows L2
/-! ### a row made by a comprehension over a range -/
theorem rowOf_map (S : Int → Bool) (lo : Int) (n : Nat) : (KF.rowOf S lo n).map V.bl = (List.range n).map fun k : Nat => V.bl (S (lo + (k : Int))) := by
  unfold KF.rowOf; rw [List.map_map]; rfl
theorem lc_rowR {lo : Int} {n j : Nat} {S : Int → Bool} {te : TE} {vs : List Nat} {σ : L2.St} {H1 : Hp} {D : Addr} {Qd : Hp → Prop} (hw : ∀ v, wipe ((wipe σ vs).set j v) vs = wipe σ vs) (hn : n < 100000) (hD : H1 D = none)
    (ht : ∀ (i : Nat) (H : Hp) (R : VK), i < n → L2.Same H1 H → (∀ H4, L2.Same H H4 → R (.bl (S (lo + (i : Int)))) H4) → te ((wipe σ vs).set j (some (.int (lo + (i : Int))))) H R) (hd : ∀ H, L2.Same H1 H → H D = some (.lst ((KF.rowOf S lo n).map V.bl)) → Qd H) :
    ∃ W : Nat → Nat → Hp → Prop, (∃ m, W 0 m (upd H1 D (.lst []))) ∧ ∀ i m H, W i m H →
      ((Itr lo n).stop i H ∧ Qd H) ∨ ((Itr lo n).go i H ∧ ∃ Nx : Hp → Prop, (∀ H', Nx H' → ∃ m', m' < m ∧ W (i + 1) m' H') ∧ ∀ x H', (Itr lo n).yld i H x H' → gName j x (wipe σ vs) H' fun σ2 H2 => wipe σ2 vs = wipe σ vs ∧ tYes σ2 H2 fun b H3 =>
        if b = true then te σ2 H3 fun y H4 => ∃ acc, H4 D = some (.lst acc) ∧ acc.length < sizeLine ∧ Nx (upd H4 D (.lst (acc ++ [y]))) else Nx H3) := by
  refine lc_range (fun i H' => L2.Same H1 H' ∧ H' D = some (.lst ((List.range i).map fun k : Nat => V.bl (S (lo + (k : Int)))))) ⟨same_new hD, upd_same⟩ (fun i H' hi p => ?_) fun H' p => hd H' p.1 (by rw [rowOf_map]; exact p.2)
  obtain ⟨p1, p2⟩ := p
  refine ⟨hw _, ht i H' _ hi p1 fun H4 s4 => ⟨_, s4 _ _ p2, by rw [List.length_map, List.length_range]; exact small_row (by omega), same_upd (p1.trans s4) hD, ?_⟩⟩
  rw [upd_same, List.range_succ, List.map_append]; rfl
section
variable {P : Program} {w : World} {K : PySem.W.Frag} {mg : Str → Option Value} {base : Heap} {C : Addr}
/-! ### end_of, is_throughout, ==, in, truth -/
def spEnd (K : PySem.W.Frag) (C : Addr) : Sp := fun vs H Q _ => ∃ x d, vs = [.ref x] ∧ RAt K C H x d ∧ Q (.int d.fin) H
theorem sc_end_of : FnScope ["one"] ["one"] (defScope s_end_of) := ⟨rfl, rfl, rfl, by decide +kernel, rfl, by decide +kernel, by decide +kernel⟩
theorem w_end_of (T : Tx K mg C) (h : Has K mg "end_of" s_end_of ["one"]) : Ok P w K mg base 1 "end_of" ["one"] (spEnd K C) := by
  refine h.ok sc_end_of (fun vs H Q E h => ?_) (fun f cdv A outer s H vs Q E hr h => ?_)
  · obtain ⟨x, d, rfl, _⟩ := h; rfl
  · obtain ⟨x, d, rfl, hx, q⟩ := h
    refine ⟨_, pss_one (ps_ret (pe_op op_add (pe_fld (pv 0) rfl) (pe_callB call_lenB (by rfl) T.len boot_len (pa_cons (pe_fld (pv 0) rfl) pa_nil)))), ?_⟩
    obtain ⟨dx, b, m, a, h1, h4⟩ := hx.ex
    exact ⟨_, rfl, x, C, dx, _, _, rfl, h1, T.cl, T.nS, fs4_S, _, rfl, x, C, dx, _, _, rfl, h1, T.cl, T.nM, fs4_M, m, d.middle, rfl, h4.mi, _, _, rfl, rfl, q⟩
def spThr (K : PySem.W.Frag) (C : Addr) : Sp := fun vs H Q _ => ∃ x d, vs = [.ref x] ∧ RAt K C H x d ∧ Q (.bl (decide (KF.Thr d))) H
theorem sc_is_throughout : FnScope ["self"] ["self"] (defScope m_is_throughout) := ⟨rfl, rfl, rfl, by decide +kernel, rfl, by decide +kernel, by decide +kernel⟩
theorem w_is_throughout (T : Tx K mg C) (h : HasM K C "is_throughout" "Rounds.is_throughout" m_is_throughout ["self"]) : OkM P w K mg base 1 C "is_throughout" ["self"] (spThr K C) := by
  refine h.ok sc_is_throughout (fun vs H Q E h => ?_) (fun f cdv A outer s H vs Q E hr h => ?_)
  · obtain ⟨x, d, rfl, _⟩ := h; rfl
  · obtain ⟨x, d, rfl, hx, q⟩ := h
    have hu := hu64 hr
    refine ⟨_, pss_one (ps_ret (pe_and (pe_cmpR op_eq (pe_fld (pv 0) rfl) pe_int (nomark _)) (pe_and (pe_cmpR op_eq (pe_callB call_lenB (by rfl) T.len boot_len (pa_cons (pe_fld (pv 0) rfl) pa_nil)) pe_int (nomark _)) (pe_one (pe_cmpR (op_eqB hu) (pe_fld (pv 0) rfl) (pe_fld (pv 0) rfl) (nomark _)))))), ?_⟩
    obtain ⟨dx, b, m, a, h1, h4⟩ := hx.ex
    refine ⟨_, rfl, x, C, dx, _, _, rfl, h1, T.cl, T.nS, fs4_S, rfl, _, rfl, bIf2 (fun z => ?_) (fun z => ?_)⟩
    · refine ⟨_, rfl, x, C, dx, _, _, rfl, h1, T.cl, T.nM, fs4_M, m, d.middle, rfl, h4.mi, rfl, _, rfl, bIf2 (fun y => ?_) (fun y => ?_)⟩
      · refine ⟨_, rfl, x, C, dx, _, _, rfl, h1, T.cl, T.nB, fs4_B, _, rfl, x, C, dx, _, _, rfl, h1, T.cl, T.nA, fs4_A, b, a, _, _, rfl, rfl, h4.lo, h4.hi, ?_⟩
        have e : decide (d.below = d.above) = decide (KF.Thr d) := by
          have z1 : d.start = 0 := by injection z
          have y1 : ((d.middle.length : Nat) : Int) = 0 := by injection y
          have y2 : d.middle = [] := List.eq_nil_of_length_eq_zero (by omega)
          exact decide_eq_decide.mpr ⟨fun k => ⟨z1, y2, k⟩, fun k => k.2.2⟩
        rw [e]; exact q
      · have e : decide (KF.Thr d) = false := decide_eq_false fun k => y (congrArg V.int (by rw [k.2.1]; rfl))
        rw [e] at q; exact q
    · have e : decide (KF.Thr d) = false := decide_eq_false fun k => z (congrArg V.int k.1)
      rw [e] at q; exact q
def spEqR (K : PySem.W.Frag) (C : Addr) : Sp := fun vs H Q _ => ∃ x y d e, vs = [.ref x, .ref y] ∧ RAt K C H x d ∧ RAt K C H y e ∧ ∀ H', L2.Same H H' → Q (.bl (decide (d = e))) H'
theorem tyR (T : Tx K mg C) {H : Hp} {x dx : Addr} {fs : List (Str × V)} (h : H x = some (.ins C dx fs)) : TyX K H (.ref x) (.ref C) := .base (.ins h T.cl T.cc T.cg T.ct T.cm)
theorem sc_eq : FnScope ["self", "other"] ["self", "other"] (defScope m_eq) := ⟨rfl, rfl, rfl, by decide +kernel, rfl, by decide +kernel, by decide +kernel⟩
theorem w_eq (T : Tx K mg C) (h : HasM K C "__eq__" "Rounds.__eq__" m_eq ["self", "other"]) : OkM P w K mg base 1 C "__eq__" ["self", "other"] (spEqR K C) := by
  refine h.ok sc_eq (fun vs H Q E h => ?_) (fun f cdv A outer s H vs Q E hr h => ?_)
  · obtain ⟨x, y, d, e, rfl, _⟩ := h; rfl
  · obtain ⟨x, y, d, e, rfl, hx, hy, q⟩ := h
    have hu := hu64 hr
    refine ⟨_, pss_cons (ps_if (pt_not (pt_val (pe_callB call_isi (by rfl) T.isi boot_isi (pa_cons (pv 1) (pa_cons (pe_glob (v := .ref C) rfl T.gC rfl) pa_nil))))) (pss_one (ps_ret pe_bl)) pss_nil)
      (pss_one (ps_ret (pe_cmpR (op_eqF hu) (pe_tup (pa_cons (pe_fld (pv 0) rfl) (pa_cons (pe_fld (pv 0) rfl) (pa_cons (pe_fld (pv 0) rfl) (pa_cons (pe_fld (pv 0) rfl) pa_nil)))))
        (pe_tup (pa_cons (pe_fld (pv 1) rfl) (pa_cons (pe_fld (pv 1) rfl) (pa_cons (pe_fld (pv 1) rfl) (pa_cons (pe_fld (pv 1) rfl) pa_nil))))) (nomark _)))), ?_⟩
    obtain ⟨dx, b, m, a, h1, h4⟩ := hx.ex
    obtain ⟨dy, b', m', a', k1, k4⟩ := hy.ex
    refine ⟨_, rfl, _, _, _, _, _, rfl, .own C, tyR T k1, T.kRR, _, rfl, iteF ?_⟩
    refine ⟨_, rfl, x, C, dx, _, _, rfl, h1, T.cl, T.nS, fs4_S, _, rfl, x, C, dx, _, _, rfl, h1, T.cl, T.nB, fs4_B, _, rfl, x, C, dx, _, _, rfl, h1, T.cl, T.nM, fs4_M, _, rfl, x, C, dx, _, _, rfl, h1, T.cl, T.nA, fs4_A, sz4, fun t ht => ?_⟩
    have s1 := same_new (o := .tup [.int d.start, .ref b, .ref m, .ref a]) ht
    have k1 := s1 _ _ k1
    refine ⟨_, rfl, y, C, dy, _, _, rfl, k1, T.cl, T.nS, fs4_S, _, rfl, y, C, dy, _, _, rfl, k1, T.cl, T.nB, fs4_B, _, rfl, y, C, dy, _, _, rfl, k1, T.cl, T.nM, fs4_M, _, rfl, y, C, dy, _, _, rfl, k1, T.cl, T.nA, fs4_A, sz4, fun u hu' => ?_⟩
    have s2 := same_new (o := .tup [.int e.start, .ref b', .ref m', .ref a']) hu'
    have h4' := h4.same (s1.trans s2)
    have k4' := k4.same (s1.trans s2)
    exact ⟨t, u, d, e, rfl, rfl, ⟨b, m, a, sqt_of (s2 _ _ upd_same), h4'.lo, h4'.mi, h4'.hi⟩, ⟨b', m', a', sqt_of upd_same, k4'.lo, k4'.mi, k4'.hi⟩, q _ (s1.trans s2)⟩
def spCont (K : PySem.W.Frag) (C : Addr) : Sp := fun vs H Q _ => ∃ x d n, vs = [.ref x, .int n] ∧ RAt K C H x d ∧ Q (.bl (KF.mem d n)) H
theorem sc_contains : FnScope ["self", "n"] ["self", "n"] (defScope m_contains) := ⟨rfl, rfl, rfl, by decide +kernel, rfl, by decide +kernel, by decide +kernel⟩
theorem w_contains (T : Tx K mg C) (h : HasM K C "__contains__" "Rounds.__contains__" m_contains ["self", "n"]) (o1 : Ok P w K mg base 2 "is_member" ["start", "below", "middle", "above", "n"] (spMember K)) : OkM P w K mg base 3 C "__contains__" ["self", "n"] (spCont K C) := by
  refine h.ok sc_contains (fun vs H Q E h => ?_) (fun f cdv A outer s H vs Q E hr h => ?_)
  · obtain ⟨x, d, n, rfl, _⟩ := h; rfl
  · obtain ⟨x, d, n, rfl, hx, q⟩ := h
    refine ⟨_, pss_one (ps_ret (pe_co o1 hr rfl (pa_cons (pe_fld (pv 0) rfl) (pa_cons (pe_fld (pv 0) rfl) (pa_cons (pe_fld (pv 0) rfl) (pa_cons (pe_fld (pv 0) rfl) (pa_cons (pv 1) pa_nil))))))), ?_⟩
    obtain ⟨dx, b, m, a, h1, h4⟩ := hx.ex
    exact ⟨_, rfl, x, C, dx, _, _, rfl, h1, T.cl, T.nS, fs4_S, _, rfl, x, C, dx, _, _, rfl, h1, T.cl, T.nB, fs4_B, _, rfl, x, C, dx, _, _, rfl, h1, T.cl, T.nM, fs4_M, _, rfl, x, C, dx, _, _, rfl, h1, T.cl, T.nA, fs4_A, _, rfl, b, m, a, d, n, rfl, h4, q⟩
def spBool (K : PySem.W.Frag) (C : Addr) : Sp := fun vs H Q _ => ∃ x d, vs = [.ref x] ∧ RAt K C H x d ∧ Q (.bl (KF.anyT d)) H
theorem sc_bool : FnScope ["self"] ["self"] (defScope m_bool) := ⟨rfl, rfl, rfl, by decide +kernel, rfl, by decide +kernel, by decide +kernel⟩
theorem w_bool (T : Tx K mg C) (h : HasM K C "__bool__" "Rounds.__bool__" m_bool ["self"]) : OkM P w K mg base 1 C "__bool__" ["self"] (spBool K C) := by
  refine h.ok sc_bool (fun vs H Q E h => ?_) (fun f cdv A outer s H vs Q E hr h => ?_)
  · obtain ⟨x, d, rfl, _⟩ := h; rfl
  · obtain ⟨x, d, rfl, hx, q⟩ := h
    refine ⟨_, pss_one (ps_ret (pe_or (pe_cmpR op_inB pe_bl (pe_fld (pv 0) rfl) rfl) (pe_or (pe_cmpR op_inB pe_bl (pe_fld (pv 0) rfl) rfl) (pe_one (pe_cmpR op_inB pe_bl (pe_fld (pv 0) rfl) rfl))))), ?_⟩
    obtain ⟨dx, b, m, a, h1, h4⟩ := hx.ex
    unfold KF.anyT at q
    refine ⟨_, rfl, x, C, dx, _, _, rfl, h1, T.cl, T.nB, fs4_B, b, d.below, rfl, rfl, h4.lo, d.below.any id, rfl, ?_⟩
    cases e1 : d.below.any id with
    | true => rw [e1] at q; exact iteT q
    | false =>
      rw [e1] at q
      refine iteF ⟨_, rfl, x, C, dx, _, _, rfl, h1, T.cl, T.nM, fs4_M, m, d.middle, rfl, rfl, h4.mi, d.middle.any id, rfl, ?_⟩
      cases e2 : d.middle.any id with
      | true => rw [e2] at q; exact iteT q
      | false =>
        rw [e2] at q
        exact iteF ⟨_, rfl, x, C, dx, _, _, rfl, h1, T.cl, T.nA, fs4_A, a, d.above, rfl, rfl, h4.hi, q⟩
/-! ### mixed_row, joint_bounds, combined -/
def tabR (g : KF.Tab) : List Bool := [g false false, g false true, g true false, g true true]
theorem tab_at (g : KF.Tab) (x y : Bool) : (0 ≤ 2 * (if x = true then (1 : Int) else 0) + (if y = true then 1 else 0) ∧ 2 * (if x = true then (1 : Int) else 0) + (if y = true then 1 else 0) < ((tabR g).length : Int)) ∧
    (tabR g).getD (2 * (if x = true then (1 : Int) else 0) + (if y = true then 1 else 0)).toNat false = g x y := by
  cases x <;> cases y <;> exact ⟨⟨by decide, by show _ < ((4 : Nat) : Int); decide⟩, rfl⟩
def spMix (K : PySem.W.Frag) (C : Addr) : Sp := fun vs H Q _ => ∃ x y t d e g first many, vs = [.ref x, .ref y, .int first, .int many, .ref t] ∧ RAt K C H x d ∧ RAt K C H y e ∧ Bt K H t (tabR g) ∧ 0 ≤ many ∧ many ≤ 30000 ∧
  ∀ p H', L2.Same H H' → Bt K H' p (KF.rowOf (KF.both g (KF.mem d) (KF.mem e)) first many.toNat) → Q (.ref p) H'
theorem sc_mixed_row : FnScope ["one", "other", "first", "many", "table", "n"] ["one", "other", "first", "many", "table"] (defScope s_mixed_row) := ⟨rfl, rfl, rfl, by decide +kernel, rfl, by decide +kernel, by decide +kernel⟩
theorem w_mixed_row (T : Tx K mg C) (h : Has K mg "mixed_row" s_mixed_row ["one", "other", "first", "many", "table"]) (o1 : OkM P w K mg base 3 C "__contains__" ["self", "n"] (spCont K C)) : Ok P w K mg base 4 "mixed_row" ["one", "other", "first", "many", "table"] (spMix K C) := by
  refine h.ok sc_mixed_row (fun vs H Q E h => ?_) (fun f cdv A outer s H vs Q E hr h => ?_)
  · obtain ⟨x, y, t, d, e, g, first, many, rfl, _⟩ := h; rfl
  · obtain ⟨x, y, t, d, e, g, first, many, rfl, hx, hy, ht, h0, hm, q⟩ := h
    have nd := sc_mixed_row.nd
    refine ⟨_, pss_one (ps_ret (pe_callTy call_tupRow (by rfl) T.tup boot_tuple (pa_cons
      (pe_lc (own := [("n", 5)]) (g := gName 5) (tt := tYes) rfl nd (pi_rangeA2 rfl T.rng (pa_cons (pv 2) (pa_cons (pe_op op_add (pv 2) (pv 3)) pa_nil))) (blkOk_by (N := ["one", "other", "first", "many", "table", "n"]) (sc := defScope s_mixed_row) (by decide +kernel)) (fun _ _ _ _ _ => pg_name (i := 5) nd rfl (Or.inl rfl)) (fun _ _ _ _ _ => pts_nil)
        (fun _ _ _ _ _ => pe_ix (ix_rowK K rfl) (pv 4) (pe_op op_add (pe_op op_mul pe_int (pe_callTy call_int1 (by rfl) T.int boot_int (pa_cons (pe_cmpR (op_moIn o1 hr) (pv 5) (pv 0) rfl) pa_nil))) (pe_callTy call_int1 (by rfl) T.int boot_int (pa_cons (pe_cmpR (op_moIn o1 hr) (pv 5) (pv 1) rfl) pa_nil))) (fun _ _ => rfl))) pa_nil))), ?_⟩
    refine ⟨_, rfl, _, rfl, _, rfl, _, _, rfl, rfl, _, _, rfl, fun D hD => ?_⟩
    have e1 : (first + many - first).toNat = many.toNat := by congr 1; omega
    show ∃ W : Nat → Nat → Hp → Prop, _
    rw [e1]
    refine lc_rowR (S := KF.both g (KF.mem d) (KF.mem e)) (fun _ => rfl) (by omega) hD (fun i H' R hi s' k => ?_) fun H' s' hd => ⟨D, _, rfl, .inr (sql_of hd), fun p H'' s2 b2 => q p H'' (s'.trans s2) b2⟩
    obtain ⟨dx, b, m, a, h1, h4⟩ := (hx.same s').ex
    obtain ⟨dy, b', m', a', k1, k4⟩ := (hy.same s').ex
    obtain ⟨t0, t1⟩ := tab_at g (KF.mem d (first + (i : Int))) (KF.mem e (first + (i : Int)))
    refine ⟨_, rfl, _, rfl, _, rfl, x, dx, _, rfl, h1, x, d, _, rfl, hx.same s', _, rfl, .inr ⟨_, rfl, _, _, rfl, rfl, .inl ⟨by decide, by decide⟩, ?_⟩⟩
    refine ⟨_, rfl, _, rfl, y, dy, _, rfl, k1, y, e, _, rfl, hy.same s', _, rfl, .inr ⟨_, rfl, _, _, rfl, rfl, t, tabR g, _, rfl, rfl, ht.same s', t0, ?_⟩⟩
    have kk := k H' (L2.Same.refl _)
    have e2 : KF.both g (KF.mem d) (KF.mem e) (first + (i : Int)) = g (KF.mem d (first + (i : Int))) (KF.mem e (first + (i : Int))) := rfl
    rw [e2, ← t1] at kk
    exact kk
def spBounds (K : PySem.W.Frag) (C : Addr) : Sp := fun vs H Q _ => ∃ x y d e, vs = [.ref x, .ref y] ∧ RAt K C H x d ∧ RAt K C H y e ∧ ∀ t H', L2.Same H H' → SqT K H' t [.int (KF.jb d e).1, .int (KF.jb d e).2] → Q (.ref t) H'
theorem sc_joint_bounds : FnScope ["one", "other"] ["one", "other"] (defScope s_joint_bounds) := ⟨rfl, rfl, rfl, by decide +kernel, rfl, by decide +kernel, by decide +kernel⟩
theorem min_if (a b : Int) : (if b < a then b else a) = min a b := by omega
theorem max_if (a b : Int) : (if b > a then b else a) = max a b := by omega
theorem w_joint_bounds (T : Tx K mg C) (h : Has K mg "joint_bounds" s_joint_bounds ["one", "other"]) (o1 : OkM P w K mg base 1 C "is_throughout" ["self"] (spThr K C)) (o2 : Ok P w K mg base 1 "end_of" ["one"] (spEnd K C)) : Ok P w K mg base 2 "joint_bounds" ["one", "other"] (spBounds K C) := by
  refine h.ok sc_joint_bounds (fun vs H Q E h => ?_) (fun f cdv A outer s H vs Q E hr h => ?_)
  · obtain ⟨x, y, d, e, rfl, _⟩ := h; rfl
  · obtain ⟨x, y, d, e, rfl, hx, hy, q⟩ := h
    refine ⟨_, pss_cons (ps_if (pt_val (pe_mo0 T.cl o1 hr (pv 0))) (pss_one (ps_ret (pe_tup (pa_cons (pe_fld (pv 1) rfl) (pa_cons (pe_co o2 hr rfl (pa_cons (pv 1) pa_nil)) pa_nil))))) pss_nil)
      (pss_cons (ps_if (pt_val (pe_mo0 T.cl o1 hr (pv 1))) (pss_one (ps_ret (pe_tup (pa_cons (pe_fld (pv 0) rfl) (pa_cons (pe_co o2 hr rfl (pa_cons (pv 0) pa_nil)) pa_nil))))) pss_nil)
      (pss_one (ps_ret (pe_tup (pa_cons (pe_callB (call_min2 rfl) (by rfl) T.min boot_min' (pa_cons (pe_fld (pv 0) rfl) (pa_cons (pe_fld (pv 1) rfl) pa_nil))) (pa_cons (pe_callB (call_max2 rfl) (by rfl) T.max boot_max' (pa_cons (pe_co o2 hr rfl (pa_cons (pv 0) pa_nil)) (pa_cons (pe_co o2 hr rfl (pa_cons (pv 1) pa_nil)) pa_nil))) pa_nil)))))), ?_⟩
    obtain ⟨dx, b, m, a, h1, h4⟩ := hx.ex
    obtain ⟨dy, b', m', a', k1, k4⟩ := hy.ex
    unfold KF.jb at q
    refine ⟨_, rfl, x, dx, _, rfl, h1, fs4_no (by decide +kernel), x, d, rfl, hx, _, rfl, bIf2 (fun z => ?_) (fun z => ?_)⟩
    · rw [if_pos z] at q
      exact ⟨_, rfl, y, C, dy, _, _, rfl, k1, T.cl, T.nS, fs4_S, _, rfl, y, e, rfl, hy, sz2, fun t ht => q t _ (same_new ht) (sqt_of upd_same)⟩
    rw [if_neg z] at q
    refine ⟨_, rfl, y, dy, _, rfl, k1, fs4_no (by decide +kernel), y, e, rfl, hy, _, rfl, bIf2 (fun z => ?_) (fun z => ?_)⟩
    · rw [if_pos z] at q
      exact ⟨_, rfl, x, C, dx, _, _, rfl, h1, T.cl, T.nS, fs4_S, _, rfl, x, d, rfl, hx, sz2, fun t ht => q t _ (same_new ht) (sqt_of upd_same)⟩
    · rw [if_neg z] at q
      refine ⟨_, rfl, x, C, dx, _, _, rfl, h1, T.cl, T.nS, fs4_S, _, rfl, y, C, dy, _, _, rfl, k1, T.cl, T.nS, fs4_S, _, _, rfl, ?_⟩
      rw [min_if]
      refine ⟨_, rfl, x, d, rfl, hx, _, rfl, y, e, rfl, hy, _, _, rfl, ?_⟩
      rw [max_if]
      exact ⟨sz2, fun t ht => q t _ (same_new ht) (sqt_of upd_same)⟩
end
end K14
set_option Elab.async false
set_option linter.all false
set_option maxRecDepth 100000
set_option maxHeartbeats 4000000
/-! The walks, fifth part: the signs of the class. -/
namespace K14
open PySem PySem.Spec PyProof.Rows L2
/-! ### Rounds(..) -/
def tNew (K : PySem.W.Frag) (C : Addr) (t : TA) : TE := fun σ H Q => t σ H fun vs H1 => ∃ b m a d, vs = [.int d.start, .ref b, .ref m, .ref a] ∧ RowV K H1 b d.below ∧ RowV K H1 m d.middle ∧ RowV K H1 a d.above ∧ d.ok ∧ d.below.length ≤ 10000 ∧ d.above.length ≤ 10000 ∧ d.middle.length ≤ 30000 ∧
  ∀ x d' H2, L2.Same H1 H2 → RAt K C H2 x d' → KF.IsForm (KF.mem d) d' → Q (.ref x) H2
theorem pe_new {X : Cx} {C : Addr} {e : Expr} {es : List Expr} {t : TA} {p pos : Pos} (T : Tx X.K X.mg C) (o : OkM X.prog X.w X.K X.mg X.base 4 C "__init__" ["self", "start", "below", "middle", "above"] (spInit X.K C)) (hr : Room 5 X.A) (hg : Gl X "Rounds")
    (ha : PA X (e :: es) t) (he : starEach (e :: es) X.env = (false, eval e X.env) :: starEach es X.env := by rfl) (hpl : (backTo pos (starEach es X.env)).any (·.1) = false := by rfl) :
    PE X (.Call (.Name "Rounds" p) (e :: es) [] pos) (tNew X.K C t) := by
  obtain ⟨f, fd, F, hm, hb⟩ := o
  obtain ⟨f0, M⟩ := T.mks
  have ef : f0 = f := by
    have h1 := M.init
    have h2 := hm.at_
    rw [h1] at h2
    injection h2 with h2
    injection h2 with h2
    injection h2
  subst ef
  refine ⟨fun pins s σ H Q I h => ?_⟩
  refine wpAny_Call_Name_kw (ld_glob I hg T.gC ?_ (by decide))
  refine PySem.W.callWith_K (h₀ := X.base) I.ok.mod.kin M.kp (thn (ha.run pos pins s σ H _ I h) fun us s1 ⟨vs, H1, I1, r, q⟩ => ⟨I1.kIn, ?_⟩) he hpl
  refine run_make (dvs := []) (ds := []) (E := L2.E0) M F hr hb .nil L2.pass0 I1 r fun x dx nx ndx ne => ?_
  obtain ⟨b, m, a, d, rfl, h1, h2, h3, ok, l1, l2, l3, q⟩ := q
  have sm : L2.Same H1 (upd (upd H1 dx (.own x)) x (.ins C dx [])) := same_upd (same_new ndx) nx
  refine ⟨x, dx, b, m, a, d, rfl, upd_same, h1.same sm, h2.same sm, h3.same sm, ok, l1, l2, l3, fun d' H' k1 k2 k3 => ⟨rfl, q x d' H' (fun y o z => ?_) k2 k3⟩⟩
  exact k1 y o (sm y o z) (ne_of_none z nx)
/-! ### a row made by a comprehension over a row -/
theorem lc_mapR {K : PySem.W.Frag} {a : Addr} {r : List Bool} {g : Bool → Bool} {j : Nat} {te : TE} {vs : List Nat} {σ : L2.St} {H1 : Hp} {D : Addr} {Qd : Hp → Prop} (hw : ∀ v, wipe ((wipe σ vs).set j v) vs = wipe σ vs) (hn : r.length < 100000) (hD : H1 D = none) (hB : Bt K H1 a r)
    (ht : ∀ (x : Bool) (H : Hp) (R : VK), L2.Same H1 H → (∀ H4, L2.Same H H4 → R (.bl (g x)) H4) → te ((wipe σ vs).set j (some (.bl x))) H R) (hd : ∀ H, L2.Same H1 H → H D = some (.lst ((r.map g).map V.bl)) → Qd H) :
    ∃ W : Nat → Nat → Hp → Prop, (∃ m, W 0 m (upd H1 D (.lst []))) ∧ ∀ i m H, W i m H →
      ((Itt K a).stop i H ∧ Qd H) ∨ ((Itt K a).go i H ∧ ∃ Nx : Hp → Prop, (∀ H', Nx H' → ∃ m', m' < m ∧ W (i + 1) m' H') ∧ ∀ x H', (Itt K a).yld i H x H' → gName j x (wipe σ vs) H' fun σ2 H2 => wipe σ2 vs = wipe σ vs ∧ tYes σ2 H2 fun b H3 =>
        if b = true then te σ2 H3 fun y H4 => ∃ acc, H4 D = some (.lst acc) ∧ acc.length < sizeLine ∧ Nx (upd H4 D (.lst (acc ++ [y]))) else Nx H3) := by
  refine lc_tup (xs := r.map V.bl) (fun i H' => L2.Same H1 H' ∧ H' D = some (.lst (((r.take i).map g).map V.bl))) ⟨same_new hD, upd_same⟩ (fun i H' _ p => sqt_same hB p.1) (fun i x H' hx p => ?_) fun H' p => hd H' p.1 (by
    have e : r.take (r.map V.bl).length = r := by rw [List.length_map]; exact List.take_of_length_le (Nat.le_refl _)
    have q := p.2
    rw [e] at q
    exact q)
  obtain ⟨p1, p2⟩ := p
  obtain ⟨hi, rfl⟩ := row_at hx
  refine ⟨hw _, ht _ H' _ p1 fun H4 s4 => ⟨_, s4 _ _ p2, by rw [List.length_map, List.length_map, List.length_take]; exact small_row (by omega), same_upd (p1.trans s4) hD, ?_⟩⟩
  rw [upd_same, show r.take (i + 1) = r.take i ++ [r.getD i false] by rw [List.take_succ, List.getElem?_eq_getElem hi, KF.getD_at r hi]; rfl, List.map_append, List.map_append]
  rfl
section
variable {P : Program} {w : World} {K : PySem.W.Frag} {mg : Str → Option Value} {base : Heap} {C : Addr}
/-! ### combined -/
structure Fits (d e : KF.Desc) : Prop where
  lo : d.below.length * e.below.length ≤ 10000
  hi : d.above.length * e.above.length ≤ 10000
  mi : (KF.jb d e).2 - (KF.jb d e).1 ≤ 20000
theorem lcm_le_mul {a b : Nat} (ha : 0 < a) (hb : 0 < b) : Nat.lcm a b ≤ a * b := Nat.le_of_dvd (Nat.mul_pos ha hb) (Nat.lcm_dvd (Nat.dvd_mul_right _ _) (Nat.dvd_mul_left _ _))
def spComb (K : PySem.W.Frag) (C : Addr) : Sp := fun vs H Q _ => ∃ x y t d e g, vs = [.ref x, .ref y, .ref t] ∧ RAt K C H x d ∧ RAt K C H y e ∧ Bt K H t (tabR g) ∧ Fits d e ∧
  ∀ z f H', L2.Same H H' → RAt K C H' z f → KF.IsForm (KF.both g (KF.mem d) (KF.mem e)) f → Q (.ref z) H'
theorem sc_combined : FnScope ["one", "other", "table", "below", "above", "start", "end"] ["one", "other", "table"] (defScope s_combined) := ⟨rfl, rfl, rfl, by decide +kernel, rfl, by decide +kernel, by decide +kernel⟩
theorem w_combined (T : Tx K mg C) (h : Has K mg "combined" s_combined ["one", "other", "table"]) (o1 : Ok P w K mg base 2 "common_multiple" ["one", "other"] spLcm) (o2 : Ok P w K mg base 2 "joint_bounds" ["one", "other"] (spBounds K C))
    (o3 : Ok P w K mg base 4 "mixed_row" ["one", "other", "first", "many", "table"] (spMix K C)) (o4 : OkM P w K mg base 4 C "__init__" ["self", "start", "below", "middle", "above"] (spInit K C)) : Ok P w K mg base 6 "combined" ["one", "other", "table"] (spComb K C) := by
  refine h.ok sc_combined (fun vs H Q E h => ?_) (fun f cdv A outer s H vs Q E hr h => ?_)
  · obtain ⟨x, y, t, d, e, g, rfl, _⟩ := h; rfl
  · obtain ⟨x, y, t, d, e, g, rfl, hx, hy, ht, fit, q⟩ := h
    have nd := sc_combined.nd
    have hr2 : Room 2 _ := hr.mono (by decide)
    have hr4 : Room 4 _ := hr.mono (by decide)
    obtain ⟨tl, lim⟩ := T.lim
    refine ⟨_, pss_cons (ps_set (i := 3) nd rfl (Or.inl rfl) (pe_co o1 hr2 rfl (pa_cons (pe_callB call_lenB (by rfl) T.len boot_len (pa_cons (pe_fld (pv 0) rfl) pa_nil)) (pa_cons (pe_callB call_lenB (by rfl) T.len boot_len (pa_cons (pe_fld (pv 1) rfl) pa_nil)) pa_nil))))
      (pss_cons (ps_set (i := 4) nd rfl (Or.inl rfl) (pe_co o1 hr2 rfl (pa_cons (pe_callB call_lenB (by rfl) T.len boot_len (pa_cons (pe_fld (pv 0) rfl) pa_nil)) (pa_cons (pe_callB call_lenB (by rfl) T.len boot_len (pa_cons (pe_fld (pv 1) rfl) pa_nil)) pa_nil))))
      (pss_cons (ps_if (pt_cmpR op_gt (pe_callB (call_max2 rfl) (by rfl) T.max boot_max' (pa_cons (pv 3) (pa_cons (pv 4) pa_nil))) (pe_glob (v := .int 20000) rfl lim ⟨_, rfl⟩) (nomark _)) pss_never pss_nil)
      (pss_cons (ps_asg (pe_co o2 hr2 rfl (pa_cons (pv 0) (pa_cons (pv 1) pa_nil))) (pg_tup rfl (pgs_cons (pg_name (i := 5) nd rfl (Or.inl rfl)) (pgs_cons (pg_name (i := 6) nd rfl (Or.inl rfl)) pgs_nil))))
      (pss_cons (ps_if (pt_cmpR op_gt (pe_op op_sub (pv 6) (pv 5)) (pe_glob (v := .int 20000) rfl lim ⟨_, rfl⟩) (nomark _)) pss_never pss_nil)
      (pss_one (ps_ret (pe_new T o4 hr rfl (pa_cons (pv 5)
        (pa_cons (pe_co o3 hr4 rfl (pa_cons (pv 0) (pa_cons (pv 1) (pa_cons (pe_op op_sub (pv 5) (pv 3)) (pa_cons (pv 3) (pa_cons (pv 2) pa_nil))))))
        (pa_cons (pe_co o3 hr4 rfl (pa_cons (pv 0) (pa_cons (pv 1) (pa_cons (pv 5) (pa_cons (pe_op op_sub (pv 6) (pv 5)) (pa_cons (pv 2) pa_nil))))))
        (pa_cons (pe_co o3 hr4 rfl (pa_cons (pv 0) (pa_cons (pv 1) (pa_cons (pv 6) (pa_cons (pv 4) (pa_cons (pv 2) pa_nil)))))) pa_nil))))))))))), ?_⟩
    obtain ⟨dx, b, m, a, h1, h4⟩ := hx.ex
    obtain ⟨dy, b', m', a', k1, k4⟩ := hy.ex
    have p1 := KF.len_pos h4.ok.1
    have p2 := KF.len_pos h4.ok.2
    have p3 := KF.len_pos k4.ok.1
    have p4 := KF.len_pos k4.ok.2
    have b1 : d.below.length ≤ 10000 := Nat.le_trans (Nat.le_mul_of_pos_right _ p3) fit.lo
    have b2 : e.below.length ≤ 10000 := Nat.le_trans (Nat.le_mul_of_pos_left _ p1) fit.lo
    have b3 : d.above.length ≤ 10000 := Nat.le_trans (Nat.le_mul_of_pos_right _ p4) fit.hi
    have b4 : e.above.length ≤ 10000 := Nat.le_trans (Nat.le_mul_of_pos_left _ p2) fit.hi
    have L1 := Nat.le_trans (lcm_le_mul p1 p3) fit.lo
    have L2 := Nat.le_trans (lcm_le_mul p2 p4) fit.hi
    have q1 : 1 ≤ Nat.lcm d.below.length e.below.length := Nat.lcm_pos p1 p3
    have q2 : 1 ≤ Nat.lcm d.above.length e.above.length := Nat.lcm_pos p2 p4
    have jl := KF.jb_le d e
    have cm := fun n => KF.combD_mem (g := g) h4.ok k4.ok q1 q2 (Nat.dvd_lcm_left _ _) (Nat.dvd_lcm_right _ _) (Nat.dvd_lcm_left _ _) (Nat.dvd_lcm_right _ _) n
    have fitm := fit.mi
    refine ⟨_, rfl, x, C, dx, _, _, rfl, h1, T.cl, T.nB, fs4_B, b, d.below, rfl, h4.lo, _, rfl, y, C, dy, _, _, rfl, k1, T.cl, T.nB, fs4_B, b', e.below, rfl, k4.lo, _, _, rfl, p1, p3, by omega, by omega, ?_⟩
    refine ⟨_, rfl, x, C, dx, _, _, rfl, h1, T.cl, T.nA, fs4_A, a, d.above, rfl, h4.hi, _, rfl, y, C, dy, _, _, rfl, k1, T.cl, T.nA, fs4_A, a', e.above, rfl, k4.hi, _, _, rfl, p2, p4, by omega, by omega, ?_⟩
    refine ⟨_, rfl, _, rfl, _, _, rfl, ?_⟩
    rw [max_if]
    refine ⟨_, _, rfl, rfl, _, rfl, iteG (decide_eq_false (by omega)) ?_⟩
    refine ⟨_, rfl, _, rfl, x, y, d, e, rfl, hx, hy, fun tj H1 s1 ej => ?_⟩
    refine ⟨tj, _, rfl, ej, rfl, _, _, rfl, _, _, rfl, rfl, ?_⟩
    generalize (KF.jb d e).1 = js at *
    generalize (KF.jb d e).2 = je at *
    refine ⟨_, rfl, _, rfl, _, _, rfl, rfl, _, _, rfl, rfl, _, rfl, iteG (decide_eq_false (by omega)) ?_⟩
    have hx1 := hx.same s1
    have hy1 := hy.same s1
    have ht1 := ht.same s1
    refine ⟨_, rfl, _, rfl, _, rfl, _, rfl, _, rfl, _, _, rfl, rfl, _, rfl, _, rfl, x, y, t, d, e, g, _, _, rfl, hx1, hy1, ht1, by omega, by omega, fun r1 H2 s2 e2 => ?_⟩
    refine ⟨_, rfl, _, rfl, _, rfl, _, rfl, _, rfl, _, _, rfl, rfl, _, rfl, x, y, t, d, e, g, _, _, rfl, hx1.same s2, hy1.same s2, ht1.same s2, by omega, by omega, fun r2 H3 s3 e3 => ?_⟩
    have s23 := s2.trans s3
    refine ⟨_, rfl, _, rfl, _, rfl, _, rfl, _, rfl, x, y, t, d, e, g, _, _, rfl, hx1.same s23, hy1.same s23, ht1.same s23, by omega, by omega, fun r3 H4 s4 e4 => ?_⟩
    have en : ∀ k : Nat, ((k : Int)).toNat = k := fun k => by omega
    rw [en] at e2 e4
    refine ⟨r1, r2, r3, KF.descr (KF.both g (KF.mem d) (KF.mem e)) js (Nat.lcm d.below.length e.below.length) je (Nat.lcm d.above.length e.above.length), rfl, .inl (e2.same (s3.trans s4)), .inl (e3.same s4), .inl e4, KF.descr_ok q1 q2, ?_, ?_, ?_, fun z d' H5 s5 hz hf => ?_⟩
    · show (KF.rowOf _ _ _).length ≤ _
      rw [KF.rowOf_len]; omega
    · show (KF.rowOf _ _ _).length ≤ _
      rw [KF.rowOf_len]; omega
    · show (KF.rowOf _ _ _).length ≤ _
      rw [KF.rowOf_len]; omega
    · exact q z d' H5 (((s1.trans s23).trans s4).trans s5) hz (hf.congr cm)
/-! ### & | ^ -, within, apart -/
def spSign (K : PySem.W.Frag) (C : Addr) (g : KF.Tab) : Sp := fun vs H Q _ => ∃ x y d e, vs = [.ref x, .ref y] ∧ RAt K C H x d ∧ RAt K C H y e ∧ Fits d e ∧ ∀ z f H', L2.Same H H' → RAt K C H' z f → KF.IsForm (KF.both g (KF.mem d) (KF.mem e)) f → Q (.ref z) H'
def gAnd : KF.Tab := fun x y => x && y
def gOr : KF.Tab := fun x y => x || y
def gXor : KF.Tab := fun x y => x != y
def gSub : KF.Tab := fun x y => x && !y
theorem sc_and : FnScope ["self", "other"] ["self", "other"] (defScope m_and) := ⟨rfl, rfl, rfl, by decide +kernel, rfl, by decide +kernel, by decide +kernel⟩
theorem w_and (T : Tx K mg C) (h : HasM K C "__and__" "Rounds.__and__" m_and ["self", "other"]) (o : Ok P w K mg base 6 "combined" ["one", "other", "table"] (spComb K C)) : OkM P w K mg base 7 C "__and__" ["self", "other"] (spSign K C gAnd) := by
  refine h.ok sc_and (fun vs H Q E h => ?_) (fun f cdv A outer s H vs Q E hr h => ?_)
  · obtain ⟨x, y, d, e, rfl, _⟩ := h; rfl
  · obtain ⟨x, y, d, e, rfl, hx, hy, ft, q⟩ := h
    obtain ⟨a, ha, tb⟩ := T.t0
    refine ⟨_, pss_one (ps_ret (pe_co o hr rfl (pa_cons (pv 0) (pa_cons (pv 1) (pa_cons (pe_glob (v := .ref a) rfl ha rfl) pa_nil))))), ?_⟩
    exact ⟨_, rfl, _, rfl, x, y, a, d, e, gAnd, rfl, hx, hy, tb H, ft, q⟩
theorem sc_or : FnScope ["self", "other"] ["self", "other"] (defScope m_or) := ⟨rfl, rfl, rfl, by decide +kernel, rfl, by decide +kernel, by decide +kernel⟩
theorem w_or (T : Tx K mg C) (h : HasM K C "__or__" "Rounds.__or__" m_or ["self", "other"]) (o : Ok P w K mg base 6 "combined" ["one", "other", "table"] (spComb K C)) : OkM P w K mg base 7 C "__or__" ["self", "other"] (spSign K C gOr) := by
  refine h.ok sc_or (fun vs H Q E h => ?_) (fun f cdv A outer s H vs Q E hr h => ?_)
  · obtain ⟨x, y, d, e, rfl, _⟩ := h; rfl
  · obtain ⟨x, y, d, e, rfl, hx, hy, ft, q⟩ := h
    obtain ⟨a, ha, tb⟩ := T.t1
    refine ⟨_, pss_one (ps_ret (pe_co o hr rfl (pa_cons (pv 0) (pa_cons (pv 1) (pa_cons (pe_glob (v := .ref a) rfl ha rfl) pa_nil))))), ?_⟩
    exact ⟨_, rfl, _, rfl, x, y, a, d, e, gOr, rfl, hx, hy, tb H, ft, q⟩
theorem sc_xor : FnScope ["self", "other"] ["self", "other"] (defScope m_xor) := ⟨rfl, rfl, rfl, by decide +kernel, rfl, by decide +kernel, by decide +kernel⟩
theorem w_xor (T : Tx K mg C) (h : HasM K C "__xor__" "Rounds.__xor__" m_xor ["self", "other"]) (o : Ok P w K mg base 6 "combined" ["one", "other", "table"] (spComb K C)) : OkM P w K mg base 7 C "__xor__" ["self", "other"] (spSign K C gXor) := by
  refine h.ok sc_xor (fun vs H Q E h => ?_) (fun f cdv A outer s H vs Q E hr h => ?_)
  · obtain ⟨x, y, d, e, rfl, _⟩ := h; rfl
  · obtain ⟨x, y, d, e, rfl, hx, hy, ft, q⟩ := h
    obtain ⟨a, ha, tb⟩ := T.t2
    refine ⟨_, pss_one (ps_ret (pe_co o hr rfl (pa_cons (pv 0) (pa_cons (pv 1) (pa_cons (pe_glob (v := .ref a) rfl ha rfl) pa_nil))))), ?_⟩
    exact ⟨_, rfl, _, rfl, x, y, a, d, e, gXor, rfl, hx, hy, tb H, ft, q⟩
theorem sc_sub : FnScope ["self", "other"] ["self", "other"] (defScope m_sub) := ⟨rfl, rfl, rfl, by decide +kernel, rfl, by decide +kernel, by decide +kernel⟩
theorem w_sub (T : Tx K mg C) (h : HasM K C "__sub__" "Rounds.__sub__" m_sub ["self", "other"]) (o : Ok P w K mg base 6 "combined" ["one", "other", "table"] (spComb K C)) : OkM P w K mg base 7 C "__sub__" ["self", "other"] (spSign K C gSub) := by
  refine h.ok sc_sub (fun vs H Q E h => ?_) (fun f cdv A outer s H vs Q E hr h => ?_)
  · obtain ⟨x, y, d, e, rfl, _⟩ := h; rfl
  · obtain ⟨x, y, d, e, rfl, hx, hy, ft, q⟩ := h
    obtain ⟨a, ha, tb⟩ := T.t3
    refine ⟨_, pss_one (ps_ret (pe_co o hr rfl (pa_cons (pv 0) (pa_cons (pv 1) (pa_cons (pe_glob (v := .ref a) rfl ha rfl) pa_nil))))), ?_⟩
    exact ⟨_, rfl, _, rfl, x, y, a, d, e, gSub, rfl, hx, hy, tb H, ft, q⟩
def spNone (K : PySem.W.Frag) (C : Addr) (g : KF.Tab) : Sp := fun vs H Q _ => ∃ x y d e, vs = [.ref x, .ref y] ∧ RAt K C H x d ∧ RAt K C H y e ∧ Fits d e ∧ ∀ f H', L2.Same H H' → KF.IsForm (KF.both g (KF.mem d) (KF.mem e)) f → Q (.bl (!KF.anyT f)) H'
theorem sc_within : FnScope ["self", "other"] ["self", "other"] (defScope m_within) := ⟨rfl, rfl, rfl, by decide +kernel, rfl, by decide +kernel, by decide +kernel⟩
theorem w_within (T : Tx K mg C) (h : HasM K C "within" "Rounds.within" m_within ["self", "other"]) (o : Ok P w K mg base 6 "combined" ["one", "other", "table"] (spComb K C)) (o1 : OkM P w K mg base 1 C "__bool__" ["self"] (spBool K C)) : OkM P w K mg base 7 C "within" ["self", "other"] (spNone K C gSub) := by
  refine h.ok sc_within (fun vs H Q E h => ?_) (fun f cdv A outer s H vs Q E hr h => ?_)
  · obtain ⟨x, y, d, e, rfl, _⟩ := h; rfl
  · obtain ⟨x, y, d, e, rfl, hx, hy, ft, q⟩ := h
    obtain ⟨a, ha, tb⟩ := T.t3
    refine ⟨_, pss_one (ps_ret (pe_moNot (pe_co o hr rfl (pa_cons (pv 0) (pa_cons (pv 1) (pa_cons (pe_glob (v := .ref a) rfl ha rfl) pa_nil)))) o1 (hr.mono (by decide)))), ?_⟩
    refine ⟨_, rfl, _, rfl, x, y, a, d, e, gSub, rfl, hx, hy, tb H, ft, fun z f H' s' hz hf => ?_⟩
    obtain ⟨dz, b, m, a', h1, h4⟩ := hz.ex
    exact ⟨z, dz, _, rfl, h1, z, f, rfl, hz, _, rfl, q f H' s' hf⟩
theorem sc_apart : FnScope ["self", "other"] ["self", "other"] (defScope m_apart) := ⟨rfl, rfl, rfl, by decide +kernel, rfl, by decide +kernel, by decide +kernel⟩
theorem w_apart (T : Tx K mg C) (h : HasM K C "apart" "Rounds.apart" m_apart ["self", "other"]) (o : Ok P w K mg base 6 "combined" ["one", "other", "table"] (spComb K C)) (o1 : OkM P w K mg base 1 C "__bool__" ["self"] (spBool K C)) : OkM P w K mg base 7 C "apart" ["self", "other"] (spNone K C gAnd) := by
  refine h.ok sc_apart (fun vs H Q E h => ?_) (fun f cdv A outer s H vs Q E hr h => ?_)
  · obtain ⟨x, y, d, e, rfl, _⟩ := h; rfl
  · obtain ⟨x, y, d, e, rfl, hx, hy, ft, q⟩ := h
    obtain ⟨a, ha, tb⟩ := T.t0
    refine ⟨_, pss_one (ps_ret (pe_moNot (pe_co o hr rfl (pa_cons (pv 0) (pa_cons (pv 1) (pa_cons (pe_glob (v := .ref a) rfl ha rfl) pa_nil)))) o1 (hr.mono (by decide)))), ?_⟩
    refine ⟨_, rfl, _, rfl, x, y, a, d, e, gAnd, rfl, hx, hy, tb H, ft, fun z f H' s' hz hf => ?_⟩
    obtain ⟨dz, b, m, a', h1, h4⟩ := hz.ex
    exact ⟨z, dz, _, rfl, h1, z, f, rfl, hz, _, rfl, q f H' s' hf⟩
/-! ### -o -/
def spUn (K : PySem.W.Frag) (C : Addr) (g : KF.Desc → KF.Desc) : Sp := fun vs H Q _ => ∃ x d, vs = [.ref x] ∧ RAt K C H x d ∧ d.below.length ≤ 10000 ∧ d.above.length ≤ 10000 ∧ d.middle.length ≤ 30000 ∧ ∀ z f H', L2.Same H H' → RAt K C H' z f → KF.IsForm (KF.mem (g d)) f → Q (.ref z) H'
theorem sc_neg : FnScope ["self"] ["self"] (defScope m_neg) := ⟨rfl, rfl, rfl, by decide +kernel, rfl, by decide +kernel, by decide +kernel⟩
theorem w_neg (T : Tx K mg C) (h : HasM K C "__neg__" "Rounds.__neg__" m_neg ["self"]) (o1 : Ok P w K mg base 1 "end_of" ["one"] (spEnd K C)) (o4 : OkM P w K mg base 4 C "__init__" ["self", "start", "below", "middle", "above"] (spInit K C)) : OkM P w K mg base 6 C "__neg__" ["self"] (spUn K C KF.mirror) := by
  refine h.ok sc_neg (fun vs H Q E h => ?_) (fun f cdv A outer s H vs Q E hr h => ?_)
  · obtain ⟨x, d, rfl, _⟩ := h; rfl
  · obtain ⟨x, d, rfl, hx, l1, l2, l3, q⟩ := h
    refine ⟨_, pss_one (ps_ret (pe_new T o4 hr rfl (pa_cons (pe_op op_sub pe_int (pe_co o1 (hr.mono (by decide)) rfl (pa_cons (pv 0) pa_nil))) (pa_cons (pe_revT (pe_fld (pv 0) rfl)) (pa_cons (pe_revT (pe_fld (pv 0) rfl)) (pa_cons (pe_revT (pe_fld (pv 0) rfl)) pa_nil)))))), ?_⟩
    obtain ⟨dx, b, m, a, h1, h4⟩ := hx.ex
    refine ⟨_, rfl, x, d, rfl, hx, _, _, rfl, rfl, ?_⟩
    refine ⟨_, rfl, x, C, dx, _, _, rfl, h1, T.cl, T.nA, fs4_A, a, _, rfl, h4.hi, fun p1 n1 => ?_⟩
    have s1 := same_new (o := .tup (d.above.map V.bl).reverse) n1
    refine ⟨_, rfl, x, C, dx, _, _, rfl, s1 _ _ h1, T.cl, T.nM, fs4_M, m, _, rfl, h4.mi.same s1, fun p2 n2 => ?_⟩
    have s2 := same_new (o := .tup (d.middle.map V.bl).reverse) n2
    refine ⟨_, rfl, x, C, dx, _, _, rfl, s2 _ _ (s1 _ _ h1), T.cl, T.nB, fs4_B, b, _, rfl, h4.lo.same (s1.trans s2), fun p3 n3 => ?_⟩
    have s3 := same_new (o := .tup (d.below.map V.bl).reverse) n3
    refine ⟨p1, p2, p3, KF.mirror d, rfl, .inl (Bt.of (s3 _ _ (s2 _ _ ?_))), .inl (Bt.of (s3 _ _ ?_)), .inl (Bt.of ?_), KF.mirror_ok h4.ok, ?_, ?_, ?_, fun z f H' s' hz hf => q z f H' (((s1.trans s2).trans s3).trans s') hz hf⟩
    · rw [upd_same]; exact congrArg (fun l => some (HO.tup l)) (List.map_reverse).symm
    · rw [upd_same]; exact congrArg (fun l => some (HO.tup l)) (List.map_reverse).symm
    · rw [upd_same]; exact congrArg (fun l => some (HO.tup l)) (List.map_reverse).symm
    · show d.above.reverse.length ≤ _
      rw [List.length_reverse]; exact l2
    · show d.below.reverse.length ≤ _
      rw [List.length_reverse]; exact l1
    · show d.middle.reverse.length ≤ _
      rw [List.length_reverse]; exact l3
end
end K14
set_option Elab.async false
set_option linter.all false
set_option maxRecDepth 100000
set_option maxHeartbeats 4000000
/-! The walks, sixth part: ~o; the law's plain defs. -/
namespace K14
open PySem PySem.Spec PyProof.Rows L2
/-! ### rows of rows, filters -/
theorem lc_rows {K : PySem.W.Frag} {t : Addr} {L : List (Addr × List Bool)} {G : List Bool → List Bool} {j : Nat} {te : TE} {vs : List Nat} {σ : L2.St} {H1 : Hp} {D : Addr} {Qd : Hp → Prop} (hw : ∀ v, wipe ((wipe σ vs).set j v) vs = wipe σ vs) (hn : L.length < 1000) (hD : H1 D = none) (hT : SqT K H1 t (L.map fun q => V.ref q.1))
    (ht : ∀ (q : Addr × List Bool) (H : Hp) (R : VK), q ∈ L → L2.Same H1 H → (∀ p H4, L2.Same H H4 → Bt K H4 p (G q.2) → R (.ref p) H4) → te ((wipe σ vs).set j (some (.ref q.1))) H R)
    (hd : ∀ (H : Hp) (ps : List Addr), L2.Same H1 H → H D = some (.lst (ps.map V.ref)) → ps.length = L.length → (∀ (k : Nat) (p : Addr) (q : Addr × List Bool), ps[k]? = some p → L[k]? = some q → Bt K H p (G q.2)) → Qd H) :
    ∃ W : Nat → Nat → Hp → Prop, (∃ m, W 0 m (upd H1 D (.lst []))) ∧ ∀ i m H, W i m H →
      ((Itt K t).stop i H ∧ Qd H) ∨ ((Itt K t).go i H ∧ ∃ Nx : Hp → Prop, (∀ H', Nx H' → ∃ m', m' < m ∧ W (i + 1) m' H') ∧ ∀ x H', (Itt K t).yld i H x H' → gName j x (wipe σ vs) H' fun σ2 H2 => wipe σ2 vs = wipe σ vs ∧ tYes σ2 H2 fun b H3 =>
        if b = true then te σ2 H3 fun y H4 => ∃ acc, H4 D = some (.lst acc) ∧ acc.length < sizeLine ∧ Nx (upd H4 D (.lst (acc ++ [y]))) else Nx H3) := by
  refine lc_tup (xs := L.map fun q => V.ref q.1) (fun i H' => L2.Same H1 H' ∧ ∃ ps : List Addr, ps.length = i ∧ H' D = some (.lst (ps.map V.ref)) ∧ ∀ (k : Nat) (p : Addr) (q : Addr × List Bool), ps[k]? = some p → L[k]? = some q → Bt K H' p (G q.2))
    ⟨same_new hD, [], rfl, upd_same, fun k p q z _ => by simp at z⟩ (fun i H' _ p => sqt_same hT p.1) (fun i x H' hx p => ?_) fun H' p => ?_
  · obtain ⟨p1, ps, pl, p2, p3⟩ := p
    rw [List.getElem?_map] at hx
    cases e : L[i]? with
    | none => rw [e] at hx; cases hx
    | some q =>
      rw [e] at hx
      obtain rfl : V.ref q.1 = x := Option.some.inj hx
      have hil : i < L.length := (List.getElem?_eq_some_iff.mp e).1
      refine ⟨hw _, ht q H' _ (List.mem_of_getElem? e) p1 fun p H4 s4 b4 => ⟨_, s4 _ _ p2, by rw [List.length_map]; exact small_row (by omega), same_upd (p1.trans s4) hD, ps ++ [p], by simp [pl], by rw [upd_same, List.map_append]; rfl, fun k p' q' z1 z2 => ?_⟩⟩
      have s5 : ∀ {a : Addr} {r : List Bool}, Bt K H4 a r → Bt K (upd H4 D (.lst (ps.map V.ref ++ [V.ref p]))) a r := fun {a r} z => by
        rcases z with (z | ⟨o, z⟩) | z
        · exact .inl (.inl (by rw [upd_ne (ne_of z (s4 _ _ p2) (by intro k; cases k))]; exact z))
        · exact .inl (.inr ⟨o, by rw [upd_ne (ne_of z (s4 _ _ p2) (by intro k; cases k))]; exact z⟩)
        · exact .inr z
      by_cases hk : k < ps.length
      · rw [List.getElem?_append_left hk] at z1
        exact s5 ((p3 k p' q' z1 z2).same s4)
      · rw [List.getElem?_append_right (by omega)] at z1
        have hk2 : k = ps.length := by
          by_cases y : k = ps.length
          · exact y
          · rw [List.getElem?_eq_none (by simp; omega)] at z1; cases z1
        rw [hk2, Nat.sub_self] at z1
        have ep : p = p' := by simpa using z1
        rw [hk2, pl, e] at z2
        cases z2
        rw [← ep]
        exact s5 b4
  · obtain ⟨p1, ps, pl, p2, p3⟩ := p
    rw [List.length_map] at pl
    exact hd H' ps p1 p2 pl p3
theorem lc_filtR {lo : Int} {n j : Nat} {c : Int → Bool} {tt : TT} {vs : List Nat} {σ : L2.St} {H1 : Hp} {D : Addr} {Qd : Hp → Prop} (hw : ∀ v, wipe ((wipe σ vs).set j v) vs = wipe σ vs) (hj : ∀ v, ((wipe σ vs).set j (some v))[j]? = some (some v)) (hn : n < 100000) (hD : H1 D = none)
    (ht : ∀ (i : Nat) (H : Hp) (R : Bool → Hp → Prop), i < n → L2.Same H1 H → (∀ H4, L2.Same H H4 → R (c (lo + (i : Int))) H4) → tt ((wipe σ vs).set j (some (.int (lo + (i : Int))))) H R)
    (hd : ∀ (H : Hp) (ns : List Int), L2.Same H1 H → H D = some (.lst (ns.map V.int)) → (ns = [] ↔ ∀ i : Nat, i < n → c (lo + (i : Int)) = false) → Qd H) :
    ∃ W : Nat → Nat → Hp → Prop, (∃ m, W 0 m (upd H1 D (.lst []))) ∧ ∀ i m H, W i m H →
      ((Itr lo n).stop i H ∧ Qd H) ∨ ((Itr lo n).go i H ∧ ∃ Nx : Hp → Prop, (∀ H', Nx H' → ∃ m', m' < m ∧ W (i + 1) m' H') ∧ ∀ x H', (Itr lo n).yld i H x H' → gName j x (wipe σ vs) H' fun σ2 H2 => wipe σ2 vs = wipe σ vs ∧ tt σ2 H2 fun b H3 =>
        if b = true then tVar j σ2 H3 fun y H4 => ∃ acc, H4 D = some (.lst acc) ∧ acc.length < sizeLine ∧ Nx (upd H4 D (.lst (acc ++ [y]))) else Nx H3) := by
  refine lc_range (fun i H' => L2.Same H1 H' ∧ ∃ ns : List Int, ns.length ≤ i ∧ H' D = some (.lst (ns.map V.int)) ∧ (ns = [] ↔ ∀ k : Nat, k < i → c (lo + (k : Int)) = false)) ⟨same_new hD, [], Nat.le_refl _, upd_same, by simp⟩ (fun i H' hi p => ?_) fun H' p => ?_
  · obtain ⟨p1, ns, nl, p2, p3⟩ := p
    refine ⟨hw _, ht i H' _ hi p1 fun H4 s4 => ?_⟩
    cases e : c (lo + (i : Int)) with
    | true =>
      refine iteT ⟨_, hj _, _, s4 _ _ p2, by rw [List.length_map]; exact small_row (by omega), same_upd (p1.trans s4) hD, ns ++ [lo + (i : Int)], by simp; omega, by rw [upd_same, List.map_append]; rfl, ?_⟩
      constructor
      · intro z; simp at z
      · intro z
        have := z i (by omega)
        rw [e] at this; cases this
    | false =>
      refine iteF ⟨p1.trans s4, ns, by omega, s4 _ _ p2, p3.trans ⟨fun z k hk => ?_, fun z k hk => z k (by omega)⟩⟩
      by_cases y : k = i
      · rw [y]; exact e
      · exact z k (by omega)
  · obtain ⟨p1, ns, nl, p2, p3⟩ := p
    exact hd H' ns p1 p2 p3
section
variable {X : Cx}
theorem dpAll_ints {K : PySem.W.Frag} {H : Hp} : ∀ r : List Int, DpAll K H (r.map V.int) (r.map PyData.int)
  | [] => .nil
  | b :: r => .cons (.int b) (dpAll_ints r)
theorem lay_ints : ∀ r : List Int, PyData.canLayAll0 (r.map PyData.int) = true
  | [] => by simp [PyData.canLayAll0]
  | b :: r => by simp only [List.map_cons, PyData.canLayAll0, PyData.canLay0, Bool.true_and]; exact lay_ints r
theorem depth_ints : ∀ r : List Int, PyData.depthAll (r.map PyData.int) ≤ 1
  | [] => by simp [PyData.depthAll]
  | b :: r => by
    have := depth_ints r
    simp only [List.map_cons, PyData.depthAll, PyData.depth]; omega
theorem shaped_ints (r : List Int) : SeqAt.shaped (.list (r.map PyData.int)) = true := by
  show (PyData.canLay0 (.list (r.map PyData.int)) && decide (PyData.depth (.list (r.map PyData.int)) ≤ 64)) = true
  rw [Bool.and_eq_true]
  refine ⟨?_, decide_eq_true ?_⟩
  · simp only [PyData.canLay0]; exact lay_ints r
  · have := depth_ints r
    simp only [PyData.depth]; omega
/-- [..] == [] -/
def rEqNil (K : PySem.W.Frag) (neg : Bool) : R2 := fun x y H Q => ∃ a b ns, x = .ref a ∧ y = .ref b ∧ SqL K H a (ns.map V.int) ∧ SqL K H b [] ∧ Q (.bl (if neg then !decide (ns = []) else decide (ns = []))) H
theorem eqv_nil (ns : List Int) : PyData.eqv (.list (ns.map PyData.int)) (.list []) = decide (ns = []) := by
  cases ns with
  | nil => simp [PyData.eqv, PyData.eqvAll]
  | cons a r => simp [PyData.eqv, PyData.eqvAll]
theorem op_eqNil (hu : X.A.units + 64 < cLine) : OpR X (compareOp .Eq) (rEqNil X.K false) := by
  intro pins s σ H x y v u Q I rx ry h
  obtain ⟨a, b, ns, rfl, rfl, h1, h2, q⟩ := h
  refine op_eqD hu pins s σ H _ _ v u Q I rx ry ⟨_, _, .lst h1 (dpAll_ints ns), .lst (ds := []) h2 .nil, shaped_ints ns, shaped_ints [], ?_⟩
  rw [eqv_nil]; exact q
theorem op_neNil (hu : X.A.units + 64 < cLine) : OpR X (compareOp .NotEq) (rEqNil X.K true) := by
  intro pins s σ H x y v u Q I rx ry h
  obtain ⟨a, b, ns, rfl, rfl, h1, h2, q⟩ := h
  refine op_neD hu pins s σ H _ _ v u Q I rx ry ⟨_, _, .lst h1 (dpAll_ints ns), .lst (ds := []) h2 .nil, shaped_ints ns, shaped_ints [], ?_⟩
  rw [eqv_nil]; exact q
end
section
variable {P : Program} {w : World} {K : PySem.W.Frag} {mg : Str → Option Value} {base : Heap} {C : Addr}
/-! ### ~o -/
theorem call_tupRowK {X : Cx} (K : PySem.W.Frag) (hK : X.K = K) : CallR X (.type "tuple") (rTupRow K) := by subst hK; exact call_tupRow
theorem pi_tupK {X : Cx} {tg l : Expr} {tl : TE} (K : PySem.W.Frag) (hK : X.K = K) (hl : PE X l tl) : PI X tg l (iTup K tl) := by subst hK; exact pi_tup hl
theorem get3 {K : PySem.W.Frag} {H : Hp} {G : List Bool → List Bool} {ps : List Addr} {b m a : Addr} {rb rm ra : List Bool} (hl : ps.length = 3) (h : ∀ (k : Nat) (p : Addr) (q : Addr × List Bool), ps[k]? = some p → [(b, rb), (m, rm), (a, ra)][k]? = some q → Bt K H p (G q.2)) :
    ∃ p0 p1 p2, ps = [p0, p1, p2] ∧ Bt K H p0 (G rb) ∧ Bt K H p1 (G rm) ∧ Bt K H p2 (G ra) := by
  match ps, hl with
  | [p0, p1, p2], _ => exact ⟨p0, p1, p2, rfl, h 0 p0 _ rfl rfl, h 1 p1 _ rfl rfl, h 2 p2 _ rfl rfl⟩
theorem sc_invert : FnScope ["self", "rows", "row", "truth"] ["self"] (defScope m_invert) := ⟨rfl, rfl, rfl, by decide +kernel, rfl, by decide +kernel, by decide +kernel⟩
theorem w_invert (T : Tx K mg C) (h : HasM K C "__invert__" "Rounds.__invert__" m_invert ["self"]) (o4 : OkM P w K mg base 4 C "__init__" ["self", "start", "below", "middle", "above"] (spInit K C)) : OkM P w K mg base 6 C "__invert__" ["self"] (spUn K C KF.flip) := by
  refine h.ok sc_invert (fun vs H Q E h => ?_) (fun f cdv A outer s H vs Q E hr h => ?_)
  · obtain ⟨x, d, rfl, _⟩ := h; rfl
  · obtain ⟨x, d, rfl, hx, l1, l2, l3, q⟩ := h
    have nd := sc_invert.nd
    refine ⟨_, pss_cons (ps_setLc (i := 1) (own := [("row", 2)]) (g := gName 2) (tt := tYes) rfl nd rfl rfl (sw_true rfl rfl rfl (by decide +kernel)) (pi_tup (pe_tup (pa_cons (pe_fld (pv 0) rfl) (pa_cons (pe_fld (pv 0) rfl) (pa_cons (pe_fld (pv 0) rfl) pa_nil))))) (blkOk_by (by rfl)) (fun _ _ _ _ _ => pg_name (i := 2) nd rfl (Or.inl rfl)) (fun _ _ _ _ _ => pts_nil)
        (fun _ _ _ _ _ => pe_callTy (call_tupRowK K rfl) (by rfl) T.tup boot_tuple (pa_cons (pe_lc (own := [("truth", 3)]) (g := gName 3) (tt := tYes) rfl nd (pi_tupK K rfl (pv 2)) (blkOk_by (by rfl)) (fun _ _ _ _ _ => pg_name (i := 3) nd rfl (Or.inl rfl)) (fun _ _ _ _ _ => pts_nil) (fun _ _ _ _ _ => pe_not (pv 3))) pa_nil)))
      (pss_one (ps_ret (pe_new T o4 hr rfl (pa_cons (pe_fld (pv 0) rfl) (pa_cons (pe_ix ix_list (pv 1) pe_int (fun _ _ => rfl)) (pa_cons (pe_ix ix_list (pv 1) pe_int (fun _ _ => rfl)) (pa_cons (pe_ix ix_list (pv 1) pe_int (fun _ _ => rfl)) pa_nil))))))), ?_⟩
    obtain ⟨dx, b, m, a, h1, h4⟩ := hx.ex
    refine ⟨_, rfl, x, C, dx, _, _, rfl, h1, T.cl, T.nB, fs4_B, _, rfl, x, C, dx, _, _, rfl, h1, T.cl, T.nM, fs4_M, _, rfl, x, C, dx, _, _, rfl, h1, T.cl, T.nA, fs4_A, sz3, fun t ht => ?_⟩
    have s1 := same_new (o := .tup [.ref b, .ref m, .ref a]) ht
    have h4 := h4.same s1
    refine ⟨t, rfl, ⟨_, sqt_of upd_same⟩, fun D hD => lc_rows (K := K) (L := [(b, d.below), (m, d.middle), (a, d.above)]) (G := fun r => r.map (!·)) (fun _ => rfl) (by show 3 < 1000; decide) hD (sqt_of upd_same) (fun z H' R hz s' k => ?_) fun H' ps s' hd hl hB => ?_⟩
    · have hz2 : Bt K H' z.1 z.2 ∧ z.2.length < 100000 := by
        have h5 := h4.same s'
        simp only [List.mem_cons, List.not_mem_nil, or_false] at hz
        rcases hz with rfl | rfl | rfl
        · exact ⟨h5.lo, by show d.below.length < _; omega⟩
        · exact ⟨h5.mi, by show d.middle.length < _; omega⟩
        · exact ⟨h5.hi, by show d.above.length < _; omega⟩
      refine ⟨_, rfl, z.1, rfl, ⟨_, hz2.1⟩, fun D2 hD2 => lc_mapR (r := z.2) (g := (!·)) (fun _ => rfl) hz2.2 hD2 hz2.1 (fun y H5 R5 s5 k5 => ⟨_, rfl, _, rfl, k5 _ (L2.Same.refl _)⟩) fun H5 s5 e5 => ⟨D2, _, rfl, .inr (sql_of e5), fun p H6 s6 b6 => k p H6 (s5.trans s6) b6⟩⟩
    · obtain ⟨p0, p1, p2, rfl, b0, b1, b2⟩ := get3 hl hB
      refine ⟨_, rfl, x, C, dx, _, _, rfl, s' _ _ (s1 _ _ h1), T.cl, T.nS, fs4_S, _, rfl, D, _, 0, .ref p0, rfl, rfl, sql_of hd, rfl, _, rfl, D, _, 1, .ref p1, rfl, rfl, sql_of hd, rfl, _, rfl, D, _, 2, .ref p2, rfl, rfl, sql_of hd, rfl, ?_⟩
      refine ⟨p0, p1, p2, KF.flip d, rfl, .inl b0, .inl b1, .inl b2, KF.flip_ok h4.ok, ?_, ?_, ?_, fun z f H6 s6 hz hf => q z f H6 ((s1.trans s').trans s6) hz hf⟩
      · show (d.below.map (!·)).length ≤ _
        rw [List.length_map]; exact l1
      · show (d.above.map (!·)).length ≤ _
        rw [List.length_map]; exact l2
      · show (d.middle.map (!·)).length ≤ _
        rw [List.length_map]; exact l3
end
end K14
set_option Elab.async false
set_option linter.all false
set_option maxRecDepth 100000
set_option maxHeartbeats 4000000
/-! The walks, seventh part: the law's plain defs. -/
namespace K14
open PySem PySem.Spec PyProof.Rows L2
section
variable {P : Program} {w : World} {K : PySem.W.Frag} {mg : Str → Option Value} {base : Heap} {C : Addr}
/-! ### _law_is_int, _law_is -/
theorem sc_L_is_int : FnScope ["_law_value"] ["_law_value"] (defScope s_L_is_int) := ⟨rfl, rfl, rfl, by decide +kernel, rfl, by decide +kernel, by decide +kernel⟩
theorem w_L_is_int (T : Tx K mg C) (h : Has K mg "_law_is_int" s_L_is_int ["_law_value"]) : Ok P w K mg base 1 "_law_is_int" ["_law_value"] spInt := by
  refine h.ok sc_L_is_int (fun vs H Q E h => ?_) (fun f cdv A outer s H vs Q E hr h => ?_)
  · obtain ⟨i, rfl, _⟩ := h; rfl
  · obtain ⟨i, rfl, q⟩ := h
    refine ⟨_, pss_one (ps_ret (pe_and (pe_callB call_isi (by rfl) T.isi boot_isi (pa_cons (pv 0) (pa_cons (pe_ty rfl T.int boot_int) pa_nil)))
      (pe_one (pe_not (pe_callB call_isi (by rfl) T.isi boot_isi (pa_cons (pv 0) (pa_cons (pe_ty rfl T.bool boot_bool) pa_nil))))))), ?_⟩
    refine ⟨_, rfl, _, _, _, _, _, rfl, .ty _, .base (.int i), kit_ii, _, rfl, iteT ?_⟩
    exact ⟨_, rfl, _, _, _, _, _, rfl, .ty _, .base (.int i), kit_ib, _, rfl, q⟩
def spIs : Sp := fun vs H Q _ => ∃ a b : Bool, vs = [.bl a, .bl b] ∧ Q (.bl (decide (a = b))) H
theorem sc_L_is : FnScope ["_law_value", "_law_due"] ["_law_value", "_law_due"] (defScope s_L_is) := ⟨rfl, rfl, rfl, by decide +kernel, rfl, by decide +kernel, by decide +kernel⟩
theorem w_L_is (T : Tx K mg C) (h : Has K mg "_law_is" s_L_is ["_law_value", "_law_due"]) : Ok P w K mg base 1 "_law_is" ["_law_value", "_law_due"] spIs := by
  refine h.ok sc_L_is (fun vs H Q E h => ?_) (fun f cdv A outer s H vs Q E hr h => ?_)
  · obtain ⟨a, b, rfl, _⟩ := h; rfl
  · obtain ⟨a, b, rfl, q⟩ := h
    refine ⟨_, pss_one (ps_ret (pe_ifExp (pt_val (pv 1)) (pe_cmpR op_is_bl (pv 0) pe_bl (nomark _)) (pe_cmpR op_is_bl (pv 0) pe_bl (nomark _)))), ?_⟩
    refine ⟨_, rfl, b, rfl, ?_⟩
    cases b with
    | true => exact iteT ⟨_, rfl, _, _, rfl, rfl, q⟩
    | false => exact iteF ⟨_, rfl, _, _, rfl, rfl, q⟩
/-! ### _law_has, _law_end, _law_told -/
def spHas (K : PySem.W.Frag) : Sp := fun vs H Q _ => ∃ t d n, vs = [.ref t, .int n] ∧ Told K H t d ∧ d.ok ∧ Q (.bl (KF.mem d n)) H
theorem sc_L_has : FnScope ["_law_told_here", "_law_n", "_law_start", "_law_below", "_law_middle", "_law_above"] ["_law_told_here", "_law_n"] (defScope s_L_has) := ⟨rfl, rfl, rfl, by decide +kernel, rfl, by decide +kernel, by decide +kernel⟩
theorem w_L_has (T : Tx K mg C) (h : Has K mg "_law_has" s_L_has ["_law_told_here", "_law_n"]) : Ok P w K mg base 1 "_law_has" ["_law_told_here", "_law_n"] (spHas K) := by
  refine h.ok sc_L_has (fun vs H Q E h => ?_) (fun f cdv A outer s H vs Q E hr h => ?_)
  · obtain ⟨t, d, n, rfl, _⟩ := h; rfl
  · obtain ⟨t, d, n, rfl, ht, ok, q⟩ := h
    have nd := sc_L_has.nd
    obtain ⟨b, m, a, e0, e1, e2, e3⟩ := ht
    have p1 := KF.len_pos ok.1
    have p2 := KF.len_pos ok.2
    refine ⟨_, pss_cons (ps_asg (pv 0) (pg_tup rfl (pgs_cons (pg_name (i := 2) nd rfl (Or.inl rfl)) (pgs_cons (pg_name (i := 3) nd rfl (Or.inl rfl)) (pgs_cons (pg_name (i := 4) nd rfl (Or.inl rfl)) (pgs_cons (pg_name (i := 5) nd rfl (Or.inl rfl)) pgs_nil))))))
      (pss_cons (ps_if (pt_cmpR op_lt (pv 1) (pv 2) (nomark _)) (pss_one (ps_ret (pe_ix ix_row (pv 3) (pe_op op_mod (pe_callTy call_int1 (by rfl) T.int boot_int (pa_cons (pe_op op_sub (pv 1) (pv 2)) pa_nil)) (pe_callB call_lenB (by rfl) T.len boot_len (pa_cons (pv 3) pa_nil))) (fun _ _ => rfl)))) pss_nil)
      (pss_cons (ps_if (pt_cmpR op_lt (pv 1) (pe_op op_add (pv 2) (pe_callB call_lenB (by rfl) T.len boot_len (pa_cons (pv 4) pa_nil))) (nomark _)) (pss_one (ps_ret (pe_ix ix_row (pv 4) (pe_op op_sub (pv 1) (pv 2)) (fun _ _ => rfl)))) pss_nil)
      (pss_one (ps_ret (pe_ix ix_row (pv 5) (pe_op op_mod (pe_callTy call_int1 (by rfl) T.int boot_int (pa_cons (pe_op op_sub (pe_op op_sub (pv 1) (pv 2)) (pe_callB call_lenB (by rfl) T.len boot_len (pa_cons (pv 4) pa_nil))) pa_nil)) (pe_callB call_lenB (by rfl) T.len boot_len (pa_cons (pv 5) pa_nil))) (fun _ _ => rfl)))))), ?_⟩
    refine ⟨_, rfl, t, _, rfl, e0, rfl, _, _, rfl, _, _, rfl, _, _, rfl, _, _, rfl, rfl, ?_⟩
    refine ⟨_, rfl, _, rfl, _, _, rfl, rfl, _, rfl, bIf2 (fun z => ?_) (fun z => ?_)⟩
    · rw [KF.mem_low z] at q
      exact ⟨_, rfl, _, rfl, _, rfl, _, _, rfl, rfl, .inl ⟨_, rfl, _, rfl, _, d.below, rfl, e1, _, _, rfl, rfl, by omega, _, d.below, _, rfl, rfl, e1, ⟨Int.emod_nonneg _ (by omega), Int.emod_lt_of_pos _ (by omega)⟩, q⟩⟩
    · refine ⟨_, rfl, _, rfl, _, rfl, _, d.middle, rfl, e2, _, _, rfl, rfl, _, _, rfl, rfl, _, rfl, bIf2 (fun y => ?_) (fun y => ?_)⟩
      · rw [KF.mem_mid' (by omega) (by unfold KF.Desc.fin; exact y)] at q
        exact ⟨_, rfl, _, rfl, _, rfl, _, _, rfl, rfl, _, d.middle, _, rfl, rfl, e2, ⟨by omega, by omega⟩, q⟩
      · have e : KF.mem d n = KF.cyc d.above (n - d.start - (d.middle.length : Int)) := by
          rw [KF.mem_high (by unfold KF.Desc.fin; omega)]; unfold KF.Desc.fin; congr 1; omega
        rw [e] at q
        exact ⟨_, rfl, _, rfl, _, rfl, _, _, rfl, rfl, _, rfl, _, d.middle, rfl, e2, _, _, rfl, rfl, .inl ⟨_, rfl, _, rfl, _, d.above, rfl, e3, _, _, rfl, rfl, by omega, _, d.above, _, rfl, rfl, e3, ⟨Int.emod_nonneg _ (by omega), Int.emod_lt_of_pos _ (by omega)⟩, q⟩⟩
def spFin (K : PySem.W.Frag) : Sp := fun vs H Q _ => ∃ t d, vs = [.ref t] ∧ Told K H t d ∧ Q (.int d.fin) H
theorem sc_L_end : FnScope ["_law_told_here"] ["_law_told_here"] (defScope s_L_end) := ⟨rfl, rfl, rfl, by decide +kernel, rfl, by decide +kernel, by decide +kernel⟩
theorem w_L_end (T : Tx K mg C) (h : Has K mg "_law_end" s_L_end ["_law_told_here"]) : Ok P w K mg base 1 "_law_end" ["_law_told_here"] (spFin K) := by
  refine h.ok sc_L_end (fun vs H Q E h => ?_) (fun f cdv A outer s H vs Q E hr h => ?_)
  · obtain ⟨t, d, rfl, _⟩ := h; rfl
  · obtain ⟨t, d, rfl, ht, q⟩ := h
    obtain ⟨b, m, a, e0, e1, e2, e3⟩ := ht
    refine ⟨_, pss_one (ps_ret (pe_op op_add (pe_ix ix_tup (pv 0) pe_int (fun _ _ => rfl)) (pe_callB call_lenB (by rfl) T.len boot_len (pa_cons (pe_ix ix_tup (pv 0) pe_int (fun _ _ => rfl)) pa_nil)))), ?_⟩
    exact ⟨_, rfl, t, _, 0, _, rfl, rfl, e0, rfl, _, rfl, t, _, 2, _, rfl, rfl, e0, rfl, m, d.middle, rfl, e2, _, _, rfl, rfl, q⟩
def spTold (K : PySem.W.Frag) (C : Addr) : Sp := fun vs H Q _ => ∃ x d, vs = [.ref x] ∧ RAt K C H x d ∧ ∀ t H', L2.Same H H' → Told K H' t d → Q (.ref t) H'
theorem sc_L_told : FnScope ["_law_one"] ["_law_one"] (defScope s_L_told) := ⟨rfl, rfl, rfl, by decide +kernel, rfl, by decide +kernel, by decide +kernel⟩
theorem w_L_told (T : Tx K mg C) (h : Has K mg "_law_told" s_L_told ["_law_one"]) : Ok P w K mg base 1 "_law_told" ["_law_one"] (spTold K C) := by
  refine h.ok sc_L_told (fun vs H Q E h => ?_) (fun f cdv A outer s H vs Q E hr h => ?_)
  · obtain ⟨x, d, rfl, _⟩ := h; rfl
  · obtain ⟨x, d, rfl, hx, q⟩ := h
    refine ⟨_, pss_one (ps_ret (pe_tup (pa_cons (pe_fld (pv 0) rfl) (pa_cons (pe_fld (pv 0) rfl) (pa_cons (pe_fld (pv 0) rfl) (pa_cons (pe_fld (pv 0) rfl) pa_nil)))))), ?_⟩
    obtain ⟨dx, b, m, a, h1, h4⟩ := hx.ex
    refine ⟨_, rfl, x, C, dx, _, _, rfl, h1, T.cl, T.nS, fs4_S, _, rfl, x, C, dx, _, _, rfl, h1, T.cl, T.nB, fs4_B, _, rfl, x, C, dx, _, _, rfl, h1, T.cl, T.nM, fs4_M, _, rfl, x, C, dx, _, _, rfl, h1, T.cl, T.nA, fs4_A, sz4, fun t ht => ?_⟩
    have s1 := same_new (o := .tup [.int d.start, .ref b, .ref m, .ref a]) ht
    have h5 := h4.same s1
    exact q t _ s1 ⟨b, m, a, sqt_of upd_same, h5.lo, h5.mi, h5.hi⟩
/-! ### _law_is_empty -/
def spEmpty (K : PySem.W.Frag) : Sp := fun vs H Q _ => ∃ t d, vs = [.ref t] ∧ Told K H t d ∧ Q (.bl (!KF.anyT d)) H
theorem sc_L_is_empty : FnScope ["_law_told_here"] ["_law_told_here"] (defScope s_L_is_empty) := ⟨rfl, rfl, rfl, by decide +kernel, rfl, by decide +kernel, by decide +kernel⟩
theorem w_L_is_empty (T : Tx K mg C) (h : Has K mg "_law_is_empty" s_L_is_empty ["_law_told_here"]) : Ok P w K mg base 1 "_law_is_empty" ["_law_told_here"] (spEmpty K) := by
  refine h.ok sc_L_is_empty (fun vs H Q E h => ?_) (fun f cdv A outer s H vs Q E hr h => ?_)
  · obtain ⟨t, d, rfl, _⟩ := h; rfl
  · obtain ⟨t, d, rfl, ht, q⟩ := h
    obtain ⟨b, m, a, e0, e1, e2, e3⟩ := ht
    refine ⟨_, pss_one (ps_ret (pe_and (pe_cmpR op_notInB pe_bl (pe_ix ix_tup (pv 0) pe_int (fun _ _ => rfl)) rfl) (pe_and (pe_cmpR op_notInB pe_bl (pe_ix ix_tup (pv 0) pe_int (fun _ _ => rfl)) rfl) (pe_one (pe_cmpR op_notInB pe_bl (pe_ix ix_tup (pv 0) pe_int (fun _ _ => rfl)) rfl))))), ?_⟩
    unfold KF.anyT at q
    refine ⟨_, rfl, t, _, 1, _, rfl, rfl, e0, rfl, b, d.below, rfl, rfl, e1, _, rfl, ?_⟩
    cases z1 : d.below.any id with
    | true => rw [z1] at q; exact iteF q
    | false =>
      rw [z1] at q
      refine iteT ⟨_, rfl, t, _, 2, _, rfl, rfl, e0, rfl, m, d.middle, rfl, rfl, e2, _, rfl, ?_⟩
      cases z2 : d.middle.any id with
      | true => rw [z2] at q; exact iteF q
      | false =>
        rw [z2] at q
        exact iteT ⟨_, rfl, t, _, 3, _, rfl, rfl, e0, rfl, a, d.above, rfl, rfl, e3, q⟩
/-! ### _law_described -/
theorem pe_callVK {X : Cx} {k i : Nat} {x : Str} {t : TA} {e : Expr} {es : List Expr} {p pos : Pos} (P : Program) (w : World) (K : PySem.W.Frag) (mg : Str → Option Value) (base : Heap) (h1 : X.prog = P) (h2 : X.w = w) (h3 : X.K = K) (h4 : X.mg = mg) (h5 : X.base = base) (hr : Room k X.A) (hN : X.N[i]? = some x) (hv : Vis X.env.scope x) (ha : PA X (e :: es) t)
    (hd : (x == ("__debug__" : Str)) = false := by decide) (hcd : (x == ("__classdict__" : Str)) = false := by decide)
    (he : starEach (e :: es) X.env = (false, eval e X.env) :: starEach es X.env := by rfl) (hpl : (backTo pos (starEach es X.env)).any (·.1) = false := by rfl) :
    PE X (.Call (.Name x p) (e :: es) [] pos) (tCallV P w K mg base k i t) := by
  subst h1 h2 h3 h4 h5
  exact pe_callV hr hN hv ha hd hcd he hpl
def spDesc (P : Program) (w : World) (K : PySem.W.Frag) (mg : Str → Option Value) (base : Heap) : Sp := fun vs H Q _ => ∃ (f : Addr) (start fin : Int) (low high : Nat) (S : Int → Bool), vs = [.ref f, .int start, .int (low : Int), .int fin, .int (high : Int)] ∧ FnTr H f ∧ CallsTo P w K mg base 2 f H S ∧ low ≤ 10000 ∧ high ≤ 10000 ∧ fin - start ≤ 30000 ∧
  ∀ t H', L2.Same H H' → Told K H' t (KF.descr S start low fin high) → Q (.ref t) H'
theorem sc_L_described : FnScope ["_law_fun", "_law_start", "_law_low_step", "_law_end_here", "_law_high_step", "_law_below", "_law_middle", "_law_n"] ["_law_fun", "_law_start", "_law_low_step", "_law_end_here", "_law_high_step"] (defScope s_L_described) := ⟨rfl, rfl, rfl, by decide +kernel, rfl, by decide +kernel, by decide +kernel⟩
theorem w_L_described (T : Tx K mg C) (h : Has K mg "_law_described" s_L_described ["_law_fun", "_law_start", "_law_low_step", "_law_end_here", "_law_high_step"]) : Ok P w K mg base 3 "_law_described" ["_law_fun", "_law_start", "_law_low_step", "_law_end_here", "_law_high_step"] (spDesc P w K mg base) := by
  refine h.ok sc_L_described (fun vs H Q E h => ?_) (fun f cdv A outer s H vs Q E hr h => ?_)
  · obtain ⟨f, start, fin, low, high, S, rfl, _⟩ := h; rfl
  · obtain ⟨g, start, fin, low, high, S, rfl, ft, ct, l1, l2, l3, q⟩ := h
    have nd := sc_L_described.nd
    refine ⟨_, pss_cons (ps_set (i := 5) nd rfl (Or.inl rfl) (pe_callTy call_tupRow (by rfl) T.tup boot_tuple (pa_cons (pe_lc (own := [("_law_n", 7)]) (g := gName 7) (tt := tYes) rfl nd (pi_rangeA2 rfl T.rng (pa_cons (pe_op op_sub (pv 1) (pv 2)) (pa_cons (pv 1) pa_nil))) (blkOk_by (by rfl)) (fun _ _ _ _ _ => pg_name (i := 7) nd rfl (Or.inl rfl)) (fun _ _ _ _ _ => pts_nil)
          (fun _ _ _ _ _ => pe_callVK (k := 2) (i := 0) P w K mg base rfl rfl rfl rfl rfl hr rfl (by first | exact Or.inl rfl | exact Or.inr (Or.inl rfl) | exact Or.inr (Or.inr rfl)) (pa_cons (pv 7) pa_nil))) pa_nil)))
      (pss_cons (ps_set (i := 6) nd rfl (Or.inl rfl) (pe_callTy call_tupRow (by rfl) T.tup boot_tuple (pa_cons (pe_lc (own := [("_law_n", 7)]) (g := gName 7) (tt := tYes) rfl nd (pi_rangeA2 rfl T.rng (pa_cons (pv 1) (pa_cons (pv 3) pa_nil))) (blkOk_by (by rfl)) (fun _ _ _ _ _ => pg_name (i := 7) nd rfl (Or.inl rfl)) (fun _ _ _ _ _ => pts_nil)
          (fun _ _ _ _ _ => pe_callVK (k := 2) (i := 0) P w K mg base rfl rfl rfl rfl rfl hr rfl (by first | exact Or.inl rfl | exact Or.inr (Or.inl rfl) | exact Or.inr (Or.inr rfl)) (pa_cons (pv 7) pa_nil))) pa_nil)))
      (pss_one (ps_ret (pe_tup (pa_cons (pv 1) (pa_cons (pv 5) (pa_cons (pv 6) (pa_cons (pe_callTy call_tupRow (by rfl) T.tup boot_tuple (pa_cons (pe_lc (own := [("_law_n", 7)]) (g := gName 7) (tt := tYes) rfl nd (pi_rangeA2 rfl T.rng (pa_cons (pv 3) (pa_cons (pe_op op_add (pv 3) (pv 4)) pa_nil))) (blkOk_by (by rfl)) (fun _ _ _ _ _ => pg_name (i := 7) nd rfl (Or.inl rfl)) (fun _ _ _ _ _ => pts_nil)
          (fun _ _ _ _ _ => pe_callVK (k := 2) (i := 0) P w K mg base rfl rfl rfl rfl rfl hr rfl (by first | exact Or.inl rfl | exact Or.inr (Or.inl rfl) | exact Or.inr (Or.inr rfl)) (pa_cons (pv 7) pa_nil))) pa_nil)) pa_nil)))))))), ?_⟩
    have turn : ∀ {H1 H' : Hp} {n : Int} {R : VK} {σ : L2.St}, L2.Same H H1 → L2.Same H1 H' → σ[0]? = some (some (.ref g)) → σ[7]? = some (some (.int n)) → (∀ H4, L2.Same H' H4 → R (.bl (S n)) H4) → tCallV P w K mg base 2 0 (tCons (tVar 7) tNil) σ H' R := fun {H1 H' n R σ} s1 s2 e0 e7 k =>
      ⟨g, e0, ft.same (s1.trans s2), _, e7, n, S, rfl, ft.same (s1.trans s2), ct.same (s1.trans s2), k⟩
    refine ⟨_, rfl, _, rfl, _, _, rfl, rfl, _, rfl, _, _, rfl, fun D1 hD1 => ?_⟩
    have n1 : (start - (start - (low : Int))).toNat = low := by omega
    show ∃ W : Nat → Nat → Hp → Prop, _
    rw [n1]
    refine lc_rowR (S := S) (fun _ => rfl) (by omega) hD1 (fun i H' R hi s' k => turn (L2.Same.refl _) s' rfl rfl k) fun H1 s1 e1 => ⟨D1, _, rfl, .inr (sql_of e1), fun p1 H2 s2 b1 => ?_⟩
    refine ⟨_, rfl, _, rfl, _, _, rfl, fun D2 hD2 => ?_⟩
    refine lc_rowR (S := S) (fun _ => rfl) (by omega) hD2 (fun i H' R hi s' k => turn (s1.trans s2) s' rfl rfl k) fun H3 s3 e3 => ⟨D2, _, rfl, .inr (sql_of e3), fun p2 H4 s4 b2 => ?_⟩
    have s14 := (s1.trans s2).trans (s3.trans s4)
    refine ⟨_, rfl, _, rfl, _, rfl, _, rfl, _, rfl, _, rfl, _, _, rfl, rfl, _, _, rfl, fun D3 hD3 => ?_⟩
    have n3 : (fin + (high : Int) - fin).toNat = high := by omega
    show ∃ W : Nat → Nat → Hp → Prop, _
    rw [n3]
    refine lc_rowR (S := S) (fun _ => rfl) (by omega) hD3 (fun i H' R hi s' k => turn s14 s' rfl rfl k) fun H5 s5 e5 => ⟨D3, _, rfl, .inr (sql_of e5), fun p3 H6 s6 b3 => ⟨sz4, fun t ht => ?_⟩⟩
    have s7 := same_new (o := .tup [.int start, .ref p1, .ref p2, .ref p3]) ht
    exact q t _ ((s14.trans (s5.trans s6)).trans s7) ⟨p1, p2, p3, sqt_of upd_same, b1.same ((s3.trans s4).trans ((s5.trans s6).trans s7)), b2.same ((s5.trans s6).trans s7), b3.same s7⟩
/-! ### _law_step_of -/
theorem sc_L_step_of : FnScope ["_law_row", "_law_step", "_law_at"] ["_law_row"] (defScope s_L_step_of) := ⟨rfl, rfl, rfl, by decide +kernel, rfl, by decide +kernel, by decide +kernel⟩
theorem w_L_step_of (T : Tx K mg C) (h : Has K mg "_law_step_of" s_L_step_of ["_law_row"]) : Ok P w K mg base 1 "_law_step_of" ["_law_row"] (spStep K) := by
  refine h.ok sc_L_step_of (fun vs H Q E h => ?_) (fun f cdv A outer s H vs Q E hr h => ?_)
  · obtain ⟨a, r, rfl, _⟩ := h; rfl
  · obtain ⟨a, r, rfl, hR, h1, h2, q⟩ := h
    have nd := sc_L_step_of.nd
    have hu := hu64 hr
    refine ⟨_, pss_cons (ps_for PassesOwn.never rfl (pi_rangeA2 rfl T.rng (pa_cons pe_int (pa_cons (pe_op op_add (pe_callB call_lenB (by rfl) T.len boot_len (pa_cons (pv 0) pa_nil)) pe_int) pa_nil))) (pg_name (i := 1) nd rfl (Or.inr rfl))
        (pss_one (ps_if (pt_cmpR (op_eqNil hu) (pe_lc (own := [("_law_at", 2)]) (g := gName 2) (te := tVar 2) rfl nd (pi_range1 rfl T.rng (pa_cons (pe_callB call_lenB (by rfl) T.len boot_len (pa_cons (pv 0) pa_nil)) pa_nil)) (blkOk_by (by rfl)) (fun _ _ _ _ _ => pg_name (i := 2) nd rfl (Or.inl rfl))
            (fun _ _ _ _ _ => pts_one (pt_cmpR op_ne (pe_ix (ix_rowK K rfl) (pv 0) (pv 2) (fun _ _ => rfl)) (pe_ix (ix_rowK K rfl) (pv 0) (pe_op op_mod (pe_callTy call_int1 (by rfl) T.int boot_int (pa_cons (pe_op op_add (pv 2) (pv 1)) pa_nil)) (pe_callB (call_lenK K rfl) (by rfl) T.len boot_len (pa_cons (pv 0) pa_nil))) (fun _ _ => rfl)) (nomark _)))
            (fun _ _ _ _ _ => pv 2)) (pe_lst pa_nil) (nomark _)) (pss_one (ps_ret (pv 1))) pss_nil)))
      (pss_one (ps_ret (pe_callB call_lenB (by rfl) T.len boot_len (pa_cons (pv 0) pa_nil)))), ?_⟩
    refine ⟨_, rfl, _, r, rfl, hR, _, _, rfl, rfl, _, _, rfl, ?_⟩
    have n1 : ((r.length : Int) + 1 - 1).toNat = r.length := by omega
    show ∃ W : Nat → Nat → L2.St → Hp → Prop, _
    rw [n1]
    refine for_range (fun i σ H' => L2.Same H H' ∧ (∃ v, σ = [some (.ref a), v, none]) ∧ ∀ t, 1 ≤ t → t ≤ i → ¬ KF.StepLaw r t) ⟨L2.Same.refl _, ⟨none, rfl⟩, fun t t1 t2 => by omega⟩ ?_ ?_
    · rintro i σ H' hi ⟨sm, ⟨v, rfl⟩, hn⟩
      have hR' := hR.same sm
      refine ⟨_, rfl, _, r, rfl, hR', _, rfl, by omega, by omega, fun D hD => ?_⟩
      have en : ((r.length : Nat) : Int).toNat = r.length := by omega
      show ∃ W : Nat → Nat → Hp → Prop, _
      rw [en]
      refine lc_filtR (c := fun n => !decide (r.getD n.toNat false = r.getD ((n + (1 + (i : Int))) % (r.length : Int)).toNat false)) (fun _ => rfl) (fun _ => rfl) (by omega) hD (fun k H3 R hk s3 z => ?_) fun H3 ns s3 e3 hns => ?_
      · have hR3 := hR'.same s3
        have zz := z H3 (L2.Same.refl _)
        refine ⟨_, rfl, _, rfl, _, r, _, rfl, rfl, hR3, ⟨by omega, by omega⟩, _, rfl, _, rfl, _, rfl, _, _, rfl, rfl, .inl ⟨_, rfl, _, rfl, _, r, rfl, hR3, _, _, rfl, rfl, by omega, _, r, _, rfl, rfl, hR3, ⟨Int.emod_nonneg _ (by omega), Int.emod_lt_of_pos _ (by omega)⟩, rfl, _, rfl, ?_⟩⟩
        have e : decide (V.bl (r.getD ((0 : Int) + (k : Int)).toNat false) = V.bl (r.getD (((0 : Int) + (k : Int) + (1 + (i : Int))) % (r.length : Int)).toNat false)) = decide (r.getD ((0 : Int) + (k : Int)).toNat false = r.getD (((0 : Int) + (k : Int) + (1 + (i : Int))) % (r.length : Int)).toNat false) := dec_bl
        have zz : R (!decide (r.getD ((0 : Int) + (k : Int)).toNat false = r.getD (((0 : Int) + (k : Int) + (1 + (i : Int))) % (r.length : Int)).toNat false)) H3 := zz
        rw [← e] at zz
        exact zz
      · have law : ns = [] ↔ KF.StepLaw r (1 + i) := by
          rw [hns]
          constructor
          · intro z k hk
            have := z k hk
            have this : (!decide (r.getD ((0 : Int) + (k : Int)).toNat false = r.getD (((0 : Int) + (k : Int) + (1 + (i : Int))) % (r.length : Int)).toNat false)) = false := this
            have e1 : ((0 : Int) + (k : Int)).toNat = k := by omega
            have e2 : (((0 : Int) + (k : Int) + (1 + (i : Int))) % (r.length : Int)).toNat = (k + (1 + i)) % r.length := by
              have : ((0 : Int) + (k : Int) + (1 + (i : Int))) % (r.length : Int) = (((k + (1 + i)) % r.length : Nat) : Int) := by simp
              omega
            rw [e1, e2] at this
            simpa using this
          · intro z k hk
            show (!decide (r.getD ((0 : Int) + (k : Int)).toNat false = r.getD (((0 : Int) + (k : Int) + (1 + (i : Int))) % (r.length : Int)).toNat false)) = false
            have e1 : ((0 : Int) + (k : Int)).toNat = k := by omega
            have e2 : (((0 : Int) + (k : Int) + (1 + (i : Int))) % (r.length : Int)).toNat = (k + (1 + i)) % r.length := by
              have : ((0 : Int) + (k : Int) + (1 + (i : Int))) % (r.length : Int) = (((k + (1 + i)) % r.length : Nat) : Int) := by simp
              omega
            rw [e1, e2]
            simpa using z k hk
        refine ⟨sz0, fun p hp => ⟨D, p, ns, rfl, rfl, sql_of (same_new hp _ _ e3), sql_of upd_same, _, rfl, bIf2 (fun y => ?_) (fun y => ?_)⟩⟩
        · refine ⟨_, rfl, ?_⟩
          have e : (1 + (i : Int)) = ((1 + i : Nat) : Int) := by omega
          have k := q (1 + i) _ ((sm.trans s3).trans (same_new (o := .lst []) hp)) (by omega) (by omega) (KF.leastPer_of_law (by omega) h1 (law.mp y) fun t t1 t2 => hn t t1 (by omega))
          rw [← e] at k
          exact k
        · refine ⟨(sm.trans s3).trans (same_new hp), ⟨_, rfl⟩, fun t t1 t2 k => ?_⟩
          by_cases z : t = 1 + i
          · exact y (law.mpr (z ▸ k))
          · exact hn t t1 (by omega) k
    · rintro σ H' ⟨sm, ⟨v, rfl⟩, hn⟩
      exact absurd (KF.stepLaw_all r) (hn r.length h1 (Nat.le_refl _))
end
end K14
set_option Elab.async false
set_option linter.all false
set_option maxRecDepth 100000
set_option maxHeartbeats 4000000
/-! The walks, eighth part: the pen. -/
namespace K14
open PySem PySem.Spec PyProof.Rows L2 LamX
/-! ### what stays -/
def penK (l : Addr) (at_ dg ct fo : Int) : List (Key × V) := [(.inr "cells", .ref l), (.inr "at", .int at_), (.inr "digits", .int dg), (.inr "count", .int ct), (.inr "fold", .int fo)]
/-- all stays but the tables of code objects and (pen) the dicts -/
structure Rl (Tb : List (Addr × Str)) (pen : Bool) (H H' : Hp) : Prop where
  ext : ∀ b o, H b = some o → (∀ ps, o ≠ .tbl ps) → (pen = true → ∀ kvs, o ≠ .dK kvs) → H' b = some o
  no : ∀ b, H' b = none → H b = none
  tb : Tabs Tb H → Tabs Tb H'
  pk : ∀ (b l : Addr) (x y z v : Int), H b = some (.dK (penK l x y z v)) → ∃ x' y' z' v' : Int, H' b = some (.dK (penK l x' y' z' v'))
section
variable {Tb : List (Addr × Str)} {pen : Bool} {H H1 H2 : Hp} {K : PySem.W.Frag} {C : Addr}
theorem Rl.refl (H : Hp) : Rl Tb pen H H := ⟨fun _ _ h _ _ => h, fun _ h => h, fun h => h, fun _ _ x y z v h => ⟨x, y, z, v, h⟩⟩
theorem Rl.trans (a : Rl Tb pen H H1) (b : Rl Tb pen H1 H2) : Rl Tb pen H H2 := ⟨fun c o h n m => b.ext c o (a.ext c o h n m) n m, fun c h => a.no c (b.no c h), fun h => b.tb (a.tb h), fun c l x y z v h => by
  obtain ⟨x', y', z', v', e⟩ := a.pk c l x y z v h
  exact b.pk c l x' y' z' v' e⟩
theorem Rl.of (s : L2.Same H H1) : Rl Tb pen H H1 := ⟨fun c o h _ _ => s c o h, fun c h => s.free h, fun h => h.ext s, fun c l x y z v h => ⟨x, y, z, v, s _ _ h⟩⟩
theorem Rl.up (a : Rl Tb pen H H1) : Rl Tb true H H1 := ⟨fun c o h n m => a.ext c o h n fun _ => m rfl, a.no, a.tb, a.pk⟩
theorem Rl.sqt (s : Rl Tb pen H H1) {a : Addr} {xs : List V} (h : SqT K H a xs) : SqT K H1 a xs := by
  rcases h with (h | ⟨o, h⟩) | h
  · exact .inl (.inl (s.ext _ _ h (fun _ z => by cases z) fun _ _ z => by cases z))
  · exact .inl (.inr ⟨o, s.ext _ _ h (fun _ z => by cases z) fun _ _ z => by cases z⟩)
  · exact .inr h
theorem Rl.sql (s : Rl Tb pen H H1) {a : Addr} {xs : List V} (h : SqL K H a xs) : SqL K H1 a xs := by
  rcases h with (h | ⟨o, h⟩) | h
  · exact .inl (.inl (s.ext _ _ h (fun _ z => by cases z) fun _ _ z => by cases z))
  · exact .inl (.inr ⟨o, s.ext _ _ h (fun _ z => by cases z) fun _ _ z => by cases z⟩)
  · exact .inr h
theorem Rl.bt (s : Rl Tb pen H H1) {a : Addr} {r : List Bool} (h : Bt K H a r) : Bt K H1 a r := s.sqt h
theorem Rl.row (s : Rl Tb pen H H1) {a : Addr} {r : List Bool} (h : RowV K H a r) : RowV K H1 a r := h.elim (fun h => .inl (s.bt h)) fun h => .inr (s.sql h)
theorem Rl.told (s : Rl Tb pen H H1) {t : Addr} {d : KF.Desc} (h : Told K H t d) : Told K H1 t d := by
  obtain ⟨b, m, a, h0, h1, h2, h3⟩ := h
  exact ⟨b, m, a, s.sqt h0, s.bt h1, s.bt h2, s.bt h3⟩
theorem Rl.ins (s : Rl Tb pen H H1) {x C' dx : Addr} {fs : List (Str × V)} (h : H x = some (.ins C' dx fs)) : H1 x = some (.ins C' dx fs) := s.ext _ _ h (fun _ z => by cases z) fun _ _ z => by cases z
theorem Rl.rat (s : Rl Tb pen H H1) {x : Addr} {d : KF.Desc} (h : RAt K C H x d) : RAt K C H1 x d := by
  obtain ⟨dx, b, m, a, h1, h2⟩ := h.ex
  exact ⟨dx, b, m, a, s.ins h1, s.bt h2.lo, s.bt h2.mi, s.bt h2.hi, h2.ok⟩
theorem Rl.new {a : Addr} {o : HO} (s : Rl Tb pen H H1) (h : H1 a = none) : Rl Tb pen H (upd H1 a o) := s.trans (.of (same_new h))
/-- a write at what was not there at H -/
theorem Rl.upd_new {a : Addr} {o : HO} (s : Rl Tb pen H H1) (h : H a = none) (hn : ∃ u, H1 a = some u ∧ ∀ ps, u ≠ .tbl ps) (hc : ∃ u, H1 a = some u ∧ ∀ q, u ≠ LamX.CodeO a q) : Rl Tb pen H (upd H1 a o) := by
  obtain ⟨u, e, nt⟩ := hn
  obtain ⟨u', e', nc⟩ := hc
  refine ⟨fun b v z n m => by rw [upd_ne (ne_of_none z h)]; exact s.ext b v z n m, fun b z => s.no b ?_, fun t p hp => ?_, fun b l x y z v q => ?_⟩
  · by_cases y : b = a
    · rw [y, upd_same] at z; cases z
    · rw [upd_ne y] at z; exact z
  · obtain ⟨ps, t1, t2, t3⟩ := s.tb t p hp
    refine ⟨ps, by rw [upd_ne (ne_of t1 e (fun z => nt ps z.symm))]; exact t1, t2, fun pos cv hcv => ?_⟩
    obtain ⟨c, e1, e2⟩ := t3 pos cv hcv
    have nca : c ≠ a := fun z => by
      rw [z, e'] at e2
      exact nc p.2 (Option.some.inj e2)
    exact ⟨c, e1, by rw [upd_ne nca]; exact e2⟩
  · obtain ⟨x', y', z', v', e⟩ := s.pk b l x y z v q
    exact ⟨x', y', z', v', by rw [upd_ne (ne_of_none q h)]; exact e⟩
end
/-! ### the pen -/
theorem n12 : ¬ ((Sum.inr ("cells" : Str) : Key) = Sum.inr ("at" : Str)) := by decide +kernel
theorem n13 : ¬ ((Sum.inr ("cells" : Str) : Key) = Sum.inr ("digits" : Str)) := by decide +kernel
theorem n14 : ¬ ((Sum.inr ("cells" : Str) : Key) = Sum.inr ("count" : Str)) := by decide +kernel
theorem n15 : ¬ ((Sum.inr ("cells" : Str) : Key) = Sum.inr ("fold" : Str)) := by decide +kernel
theorem n23 : ¬ ((Sum.inr ("at" : Str) : Key) = Sum.inr ("digits" : Str)) := by decide +kernel
theorem n24 : ¬ ((Sum.inr ("at" : Str) : Key) = Sum.inr ("count" : Str)) := by decide +kernel
theorem n25 : ¬ ((Sum.inr ("at" : Str) : Key) = Sum.inr ("fold" : Str)) := by decide +kernel
theorem n34 : ¬ ((Sum.inr ("digits" : Str) : Key) = Sum.inr ("count" : Str)) := by decide +kernel
theorem n35 : ¬ ((Sum.inr ("digits" : Str) : Key) = Sum.inr ("fold" : Str)) := by decide +kernel
theorem n45 : ¬ ((Sum.inr ("count" : Str) : Key) = Sum.inr ("fold" : Str)) := by decide +kernel
theorem m12 : ¬ (("cells" : Str) = ("at" : Str)) := by decide +kernel
theorem m13 : ¬ (("cells" : Str) = ("digits" : Str)) := by decide +kernel
theorem m14 : ¬ (("cells" : Str) = ("count" : Str)) := by decide +kernel
theorem m15 : ¬ (("cells" : Str) = ("fold" : Str)) := by decide +kernel
theorem m21 : ¬ (("at" : Str) = ("cells" : Str)) := by decide +kernel
theorem m23 : ¬ (("at" : Str) = ("digits" : Str)) := by decide +kernel
theorem m24 : ¬ (("at" : Str) = ("count" : Str)) := by decide +kernel
theorem m25 : ¬ (("at" : Str) = ("fold" : Str)) := by decide +kernel
theorem m31 : ¬ (("digits" : Str) = ("cells" : Str)) := by decide +kernel
theorem m32 : ¬ (("digits" : Str) = ("at" : Str)) := by decide +kernel
theorem m34 : ¬ (("digits" : Str) = ("count" : Str)) := by decide +kernel
theorem m35 : ¬ (("digits" : Str) = ("fold" : Str)) := by decide +kernel
theorem m41 : ¬ (("count" : Str) = ("cells" : Str)) := by decide +kernel
theorem m42 : ¬ (("count" : Str) = ("at" : Str)) := by decide +kernel
theorem m43 : ¬ (("count" : Str) = ("digits" : Str)) := by decide +kernel
theorem m45 : ¬ (("count" : Str) = ("fold" : Str)) := by decide +kernel
theorem m51 : ¬ (("fold" : Str) = ("cells" : Str)) := by decide +kernel
theorem m52 : ¬ (("fold" : Str) = ("at" : Str)) := by decide +kernel
theorem m53 : ¬ (("fold" : Str) = ("digits" : Str)) := by decide +kernel
theorem m54 : ¬ (("fold" : Str) = ("count" : Str)) := by decide +kernel
section
variable (l : Addr) (at_ dg ct fo z : Int)
theorem get_cells : valV (penK l at_ dg ct fo) (Sum.inr ("cells" : Str)) = some (.ref l) := valV_pos rfl
theorem get_at : valV (penK l at_ dg ct fo) (Sum.inr ("at" : Str)) = some (.int at_) := by unfold penK; rw [valV_neg n12, valV_pos rfl]
theorem get_digits : valV (penK l at_ dg ct fo) (Sum.inr ("digits" : Str)) = some (.int dg) := by unfold penK; rw [valV_neg n13, valV_neg n23, valV_pos rfl]
theorem get_count : valV (penK l at_ dg ct fo) (Sum.inr ("count" : Str)) = some (.int ct) := by unfold penK; rw [valV_neg n14, valV_neg n24, valV_neg n34, valV_pos rfl]
theorem get_fold : valV (penK l at_ dg ct fo) (Sum.inr ("fold" : Str)) = some (.int fo) := by unfold penK; rw [valV_neg n15, valV_neg n25, valV_neg n35, valV_neg n45, valV_pos rfl]
theorem put_at : putK (penK l at_ dg ct fo) (Sum.inr ("at" : Str)) (.int z) = penK l z dg ct fo := by
  simp [putK, penK, m12, m13, m14, m15, m21, m23, m24, m25, m31, m32, m34, m35, m41, m42, m43, m45, m51, m52, m53, m54]
theorem put_digits : putK (penK l at_ dg ct fo) (Sum.inr ("digits" : Str)) (.int z) = penK l at_ z ct fo := by
  simp [putK, penK, m12, m13, m14, m15, m21, m23, m24, m25, m31, m32, m34, m35, m41, m42, m43, m45, m51, m52, m53, m54]
theorem put_count : putK (penK l at_ dg ct fo) (Sum.inr ("count" : Str)) (.int z) = penK l at_ dg z fo := by
  simp [putK, penK, m12, m13, m14, m15, m21, m23, m24, m25, m31, m32, m34, m35, m41, m42, m43, m45, m51, m52, m53, m54]
theorem put_fold : putK (penK l at_ dg ct fo) (Sum.inr ("fold" : Str)) (.int z) = penK l at_ dg ct z := by
  simp [putK, penK, m12, m13, m14, m15, m21, m23, m24, m25, m31, m32, m34, m35, m41, m42, m43, m45, m51, m52, m53, m54]
theorem mk_pen : mergeK [] (penK l at_ dg ct fo) = penK l at_ dg ct fo := by
  simp [mergeK, putK, penK, m12, m13, m14, m15, m21, m23, m24, m25, m31, m32, m34, m35, m41, m42, m43, m45, m51, m52, m53, m54]
end
/-- the pen stands at p, at most n draws behind it -/
structure PenAt (K : PySem.W.Frag) (H : Hp) (p : Addr) (n : Nat) : Prop where
  ex : ∃ (l : Addr) (cells : List Int) (at_ dg ct fo : Int), H p = some (.dK (penK l at_ dg ct fo)) ∧ H l = some (.lst (cells.map V.int)) ∧ 0 ≤ at_ ∧ 0 ≤ dg ∧ 0 ≤ ct ∧ ct ≤ (n : Int) ∧ 0 ≤ fo ∧ fo < 2147483587
theorem PenAt.mono {K : PySem.W.Frag} {H : Hp} {p : Addr} {n m : Nat} (h : PenAt K H p n) (z : n ≤ m) : PenAt K H p m := by
  obtain ⟨l, cells, at_, dg, ct, fo, h1, h2, h3, h4, h5, h6, h7, h8⟩ := h.ex
  exact ⟨l, cells, at_, dg, ct, fo, h1, h2, h3, h4, h5, by omega, h7, h8⟩
theorem PenAt.rl {Tb : List (Addr × Str)} {K : PySem.W.Frag} {H H1 : Hp} {p : Addr} {n : Nat} (h : PenAt K H p n) (s : Rl Tb false H H1) : PenAt K H1 p n := by
  obtain ⟨l, cells, at_, dg, ct, fo, h1, h2, h3⟩ := h.ex
  exact ⟨l, cells, at_, dg, ct, fo, s.ext _ _ h1 (fun _ z => by cases z) (fun z => by cases z), s.ext _ _ h2 (fun _ z => by cases z) (fun z => by cases z), h3⟩
theorem PenAt.same {K : PySem.W.Frag} {H H1 : Hp} {p : Addr} {n : Nat} (h : PenAt K H p n) (s : L2.Same H H1) : PenAt K H1 p n := h.rl (Tb := []) (.of s)
theorem rl_put {Tb : List (Addr × Str)} {H : Hp} {p l : Addr} {x y z v x' y' z' v' : Int} (h : H p = some (.dK (penK l x y z v))) : Rl Tb true H (upd H p (.dK (penK l x' y' z' v'))) := by
  refine ⟨fun b o e n m => ?_, fun b z => ?_, fun t q hq => ?_, fun b l1 x1 y1 z1 v1 e => ?_⟩
  · rw [upd_ne (fun z => m rfl _ (by rw [z, h] at e; exact (Option.some.inj e).symm))]; exact e
  · by_cases y : b = p
    · rw [y, upd_same] at z; cases z
    · rw [upd_ne y] at z; exact z
  · obtain ⟨ps, t1, t2, t3⟩ := t q hq
    refine ⟨ps, by rw [upd_ne (ne_of t1 h (by intro z; cases z))]; exact t1, t2, fun pos cv hcv => ?_⟩
    obtain ⟨c, e1, e2⟩ := t3 pos cv hcv
    exact ⟨c, e1, by rw [upd_ne (ne_of e2 h (by intro z; unfold CodeO at z; cases z))]; exact e2⟩
  · by_cases yb : b = p
    · rw [yb, h] at e
      have el : l = l1 := by
        injection e with e; injection e with e; unfold penK at e; injection e with e _; injection e with _ e; injection e
      rw [yb, upd_same, el]
      exact ⟨x', y', z', v', rfl⟩
    · exact ⟨x1, y1, z1, v1, by rw [upd_ne yb]; exact e⟩
/-- a write at a thing that came after the pen -/
theorem PenAt.later {Tb : List (Addr × Str)} {K : PySem.W.Frag} {H H1 : Hp} {p a : Addr} {o : HO} {n m : Nat} (h0 : PenAt K H p n) (s : Rl Tb true H H1) (ha : H a = none) (h1 : PenAt K H1 p m) (hk : ∀ kvs, H1 a ≠ some (.dK kvs)) : PenAt K (upd H1 a o) p m := by
  obtain ⟨l, cells, at_, dg, ct, fo, e1, e2, _⟩ := h0.ex
  obtain ⟨l', cells', at', dg', ct', fo', g1, g2, g3⟩ := h1.ex
  obtain ⟨x, y, z, v, e3⟩ := s.pk p l at_ dg ct fo e1
  have el : l = l' := by
    rw [g1] at e3
    injection e3 with e; injection e with e; unfold penK at e; injection e with e _; injection e with _ e; injection e with e; exact e.symm
  have la : l' ≠ a := by rw [← el]; exact ne_of_none e2 ha
  have pa : p ≠ a := ne_of_none e1 ha
  exact ⟨l', cells', at', dg', ct', fo', by rw [upd_ne pa]; exact g1, by rw [upd_ne la]; exact g2, g3⟩
/-- the pen in full -/
structure PenS (Tb : List (Addr × Str)) (K : PySem.W.Frag) (H0 H : Hp) (p l : Addr) (cells : List Int) (at_ dg ct fo : Int) : Prop where
  d : H p = some (.dK (penK l at_ dg ct fo))
  c : H l = some (.lst (cells.map V.int))
  r : Rl Tb true H0 H
section
variable {Tb : List (Addr × Str)} {K : PySem.W.Frag} {H0 H : Hp} {p l : Addr} {cells : List Int} {at_ dg ct fo : Int} (S : PenS Tb K H0 H p l cells at_ dg ct fo)
include S
theorem PenS.g1 : DGet H p (.str "cells") (some (.ref l)) := by have z := DGet.k (k := Sum.inr "cells") S.d; rw [get_cells] at z; exact z
theorem PenS.g2 : DGet H p (.str "at") (some (.int at_)) := by have z := DGet.k (k := Sum.inr "at") S.d; rw [get_at] at z; exact z
theorem PenS.g3 : DGet H p (.str "digits") (some (.int dg)) := by have z := DGet.k (k := Sum.inr "digits") S.d; rw [get_digits] at z; exact z
theorem PenS.g4 : DGet H p (.str "count") (some (.int ct)) := by have z := DGet.k (k := Sum.inr "count") S.d; rw [get_count] at z; exact z
theorem PenS.g5 : DGet H p (.str "fold") (some (.int fo)) := by have z := DGet.k (k := Sum.inr "fold") S.d; rw [get_fold] at z; exact z
theorem PenS.put (a b c d : Int) : PenS Tb K H0 (upd H p (.dK (penK l a b c d))) p l cells a b c d := ⟨upd_same, by rw [upd_ne (ne_of S.c S.d (by intro z; cases z))]; exact S.c, S.r.trans (rl_put S.d)⟩
theorem PenS.p2 (z : Int) : DPut H p (.str "at") (.int z) (upd H p (.dK (penK l z dg ct fo))) := by have y := DPut.k (k := Sum.inr "at") (v := .int z) S.d (show 5 < sizeLine by decide); rw [put_at] at y; exact y
theorem PenS.p3 (z : Int) : DPut H p (.str "digits") (.int z) (upd H p (.dK (penK l at_ z ct fo))) := by have y := DPut.k (k := Sum.inr "digits") (v := .int z) S.d (show 5 < sizeLine by decide); rw [put_digits] at y; exact y
theorem PenS.p4 (z : Int) : DPut H p (.str "count") (.int z) (upd H p (.dK (penK l at_ dg z fo))) := by have y := DPut.k (k := Sum.inr "count") (v := .int z) S.d (show 5 < sizeLine by decide); rw [put_count] at y; exact y
theorem PenS.p5 (z : Int) : DPut H p (.str "fold") (.int z) (upd H p (.dK (penK l at_ dg ct z))) := by have y := DPut.k (k := Sum.inr "fold") (v := .int z) S.d (show 5 < sizeLine by decide); rw [put_fold] at y; exact y
theorem PenS.pen (a : 0 ≤ at_) (b : 0 ≤ dg) (c : 0 ≤ ct) {n : Nat} (d : ct ≤ (n : Int)) (e : 0 ≤ fo) (f : fo < 2147483587) : PenAt K H p n := ⟨l, cells, at_, dg, ct, fo, S.d, S.c, a, b, c, d, e, f⟩
end
section
variable {P : Program} {w : World} {K : PySem.W.Frag} {mg : Str → Option Value} {base : Heap} {C : Addr} {Tb : List (Addr × Str)}
/-! ### _law_pen -/
def spPen (K : PySem.W.Frag) : Sp := fun vs H Q _ => ∃ (a : Addr) (ns : List Int), vs = [.ref a] ∧ SqL K H a (ns.map V.int) ∧ ∀ p H', L2.Same H H' → PenAt K H' p 0 → Q (.ref p) H'
theorem sc_L_pen : FnScope ["_law_script", "_law_fold", "_law_cell"] ["_law_script"] (defScope s_L_pen) := ⟨rfl, rfl, rfl, by decide +kernel, rfl, by decide +kernel, by decide +kernel⟩
theorem w_L_pen (T : Tx K mg C) (h : Has K mg "_law_pen" s_L_pen ["_law_script"]) : Ok P w K mg base 1 "_law_pen" ["_law_script"] (spPen K) := by
  refine h.ok sc_L_pen (fun vs H Q E h => ?_) (fun f cdv A outer s H vs Q E hr h => ?_)
  · obtain ⟨a, ns, rfl, _⟩ := h; rfl
  · obtain ⟨a, ns, rfl, hS, q⟩ := h
    have nd := sc_L_pen.nd
    refine ⟨_, pss_cons (ps_set (i := 1) nd rfl (Or.inl rfl) pe_int)
      (pss_cons (ps_for PassesOwn.never rfl (pi_list (pv 0)) (pg_name (i := 2) nd rfl (Or.inl rfl))
        (pss_one (ps_set (i := 1) nd rfl (Or.inl rfl) (pe_op op_mod (pe_callTy call_int1 (by rfl) T.int boot_int (pa_cons (pe_op op_add (pe_op op_mul (pv 1) pe_int) (pv 2)) pa_nil)) pe_int))))
      (pss_one (ps_ret (pe_disp (pps_cons pe_str (pe_callTy call_list_of (by rfl) T.lst boot_list (pa_cons (pv 0) pa_nil)) (pps_cons pe_str pe_int (pps_cons pe_str pe_int (pps_cons pe_str pe_int (pps_cons pe_str (pv 1) pps_nil))))) rfl rfl (by decide) (by decide))))), ?_⟩
    refine ⟨_, rfl, a, rfl, ⟨_, hS⟩, for_list (K := K) (a := a) (xs := ns.map V.int) (fun i σ H' => H' = H ∧ ∃ (fo : Int) (v : Option V), σ = [some (.ref a), some (.int fo), v] ∧ 0 ≤ fo ∧ fo < 2147483587) ⟨rfl, 0, none, rfl, by decide, by decide⟩ (fun i σ H' _ p => by rw [p.1]; exact hS) ?_ ?_⟩
    · rintro i x σ H' hx ⟨rfl, fo, v, rfl, f0, f1⟩
      rw [List.getElem?_map] at hx
      cases e : ns[i]? with
      | none => rw [e] at hx; cases hx
      | some z =>
        rw [e] at hx
        obtain rfl : V.int z = x := Option.some.inj hx
        refine ⟨_, rfl, _, _, rfl, rfl, .inr ⟨by decide, by decide⟩, _, rfl, _, _, rfl, rfl, .inl ⟨_, rfl, _, _, rfl, rfl, (by show (0 : Int) < 1000000007; decide), rfl, _, _, rfl, Int.emod_nonneg _ (by decide), ?_⟩⟩
        have := Int.emod_lt_of_pos (fo * 43 + z) (show (0 : Int) < 1000000007 by decide)
        show (fo * 43 + z) % 1000000007 < 2147483587
        omega
    · rintro σ H' ⟨rfl, fo, v, rfl, f0, f1⟩
      intro p hp
      have s1 := same_new (o := .dK []) hp
      refine ⟨_, rfl, a, _, rfl, .inl (s1.seq hS), fun l hl => ?_⟩
      have s2 := same_new (o := .lst (ns.map V.int)) hl
      refine ⟨_, rfl, s2 _ _ upd_same, penK l 0 0 0 fo, rfl, (by show 5 ≤ 15; decide), ?_⟩
      rw [mk_pen]
      have hlp : l ≠ p := fun z => by rw [z, upd_same] at hl; cases hl
      refine q p _ (fun b o z => ?_) ⟨l, ns, 0, 0, 0, fo, upd_same, ?_, by decide, by decide, by decide, by decide, f0, f1⟩
      · rw [upd_ne (ne_of_none z hp)]; exact s2 _ _ (s1 _ _ z)
      · rw [upd_ne hlp, upd_same]
/-! ### _law_draw -/
def spDraw (Tb : List (Addr × Str)) (K : PySem.W.Frag) : Sp := fun vs H Q _ => ∃ (p : Addr) (many : Int) (n : Nat), vs = [.ref p, .int many] ∧ 0 < many ∧ many < 1073741824 ∧ PenAt K H p n ∧ n < 1000000000 ∧ ∀ (d : Int) H', Rl Tb true H H' → PenAt K H' p (n + 1) → 0 ≤ d → d < many → Q (.int d) H'
theorem sc_L_draw : FnScope ["_law_pen_here", "_law_many", "_law_cell", "_law_digit", "_law_mixed"] ["_law_pen_here", "_law_many"] (defScope s_L_draw) := ⟨rfl, rfl, rfl, by decide +kernel, rfl, by decide +kernel, by decide +kernel⟩
theorem w_L_draw (T : Tx K mg C) (h : Has K mg "_law_draw" s_L_draw ["_law_pen_here", "_law_many"]) : Ok P w K mg base 1 "_law_draw" ["_law_pen_here", "_law_many"] (spDraw Tb K) := by
  refine h.ok sc_L_draw (fun vs H Q E h => ?_) (fun f cdv A outer s H vs Q E hr h => ?_)
  · obtain ⟨p, many, n, rfl, _⟩ := h; rfl
  · obtain ⟨p, many, n, rfl, m0, m1, hp, hn, q⟩ := h
    have nd := sc_L_draw.nd
    have hu := hu_of hr
    have g : ∀ {x : Str} {pos p1 p2 : Pos} {kk}, PE (cxOf L2.CX0 P w K mg base ["_law_pen_here", "_law_many", "_law_cell", "_law_digit", "_law_mixed"] "_law_draw" (defScope s_L_draw) f cdv A outer s H E).nox (.Subscript (.Name "_law_pen_here" p1) (.Constant (.str x) kk p2) pos) (tDGet (tVar 0) (tC (.str x))) := fun {x pos p1 p2 kk} => pe_dget hu (pv 0) pe_str (fun _ _ => rfl)
    refine ⟨_, pss_cons (ps_dput hu (pv 0) pe_str (pe_op op_add g pe_int) rfl)
      (pss_cons (ps_if (PW.pt (pw_and (pt_cmpR op_eq g pe_int (nomark _)) (pw_and1 (pt_cmpR op_lt g (pe_callB call_len_seq (by rfl) T.len boot_len (pa_cons g pa_nil)) (nomark _)))))
        (pss_cons (ps_set (i := 2) nd rfl (Or.inl rfl) (pe_ix ix_list g g (fun _ _ => rfl)))
        (pss_cons (ps_dput hu (pv 0) pe_str (pe_op op_add g pe_int) rfl)
        (pss_one (ps_if (pt_cmpR op_ge (pv 2) (pe_op op_pow pe_int pe_int) (nomark _)) (pss_one (ps_dput hu (pv 0) pe_str (pe_op op_sub (pv 2) (pe_op op_pow pe_int pe_int)) rfl))
          (pss_one (ps_dput hu (pv 0) pe_str (pe_op op_mod (pe_callTy call_int1 (by rfl) T.int boot_int (pa_cons (pe_op op_add (pe_op op_mul g pe_int) (pv 2)) pa_nil)) pe_int) rfl)))))) pss_nil)
      (pss_cons (ps_if (pt_cmpR op_gt g pe_int (nomark _))
        (pss_cons (ps_set (i := 3) nd rfl (Or.inl rfl) (pe_op op_mod (pe_callTy call_int1 (by rfl) T.int boot_int (pa_cons g pa_nil)) (pv 1)))
        (pss_cons (ps_dput hu (pv 0) pe_str (pe_op op_fdiv g (pv 1)) rfl)
        (pss_one (ps_ret (pv 3))))) pss_nil)
      (pss_cons (ps_set (i := 4) nd rfl (Or.inl rfl) (pe_op op_add (pe_op op_add g (pe_op op_mul g pe_int)) pe_int))
      (pss_one (ps_ret (pe_op op_mod (pe_op op_fdiv (pe_callTy call_int1 (by rfl) T.int boot_int (pa_cons (pe_op op_mod (pe_op op_pow (pv 4) pe_int) pe_int) pa_nil)) pe_int) (pv 1))))))), ?_⟩
    obtain ⟨l, cells, at_, dg, ct, fo, hd, hl, b1, b2, b3, b4, b5, b6⟩ := hp.ex
    have S0 : PenS Tb K H H p l cells at_ dg ct fo := ⟨hd, hl, Rl.refl _⟩
    -- count
    refine ⟨_, rfl, p, _, rfl, S0.g4, _, _, rfl, rfl, _, rfl, p, _, rfl, S0.p4 (ct + 1), ?_⟩
    have S1 := S0.put at_ dg (ct + 1) fo
    generalize upd H p (.dK (penK l at_ dg (ct + 1) fo)) = H1 at S1
    -- what follows the cells
    have rest : ∀ (H2 : Hp) (v : Option V) (at2 dg2 fo2 : Int), PenS Tb K H H2 p l cells at2 dg2 (ct + 1) fo2 → 0 ≤ at2 → 0 ≤ dg2 → 0 ≤ fo2 → fo2 < 2147483587 →
        tSeq (tIfS (tTest (tOp (rI0 fun i j => .bl (decide (i > j))) (tDGet (tVar 0) (tC (.str "digits"))) (tC (.int 0))))
          (tSeq (tAsg (tOp (rI (fun _ j => 0 < j) fun i j => .int (i % j)) (tCB (fun xs H Q => (∃ i, xs = [.int i] ∧ Q (.int i) H) ∨ ∃ k, xs = [.bl k] ∧ Q (.int (if k = true then 1 else 0)) H) (tCons (tDGet (tVar 0) (tC (.str "digits"))) tNil)) (tVar 1)) (gName 3))
            (tSeq (sDPut (tVar 0) (tC (.str "digits")) (tOp (rI CDiv fun i j => .int (i / j)) (tDGet (tVar 0) (tC (.str "digits"))) (tVar 1))) (tRet (tVar 3)))) tNext)
          (tSeq (tAsg (tOp (rI0 fun i j => .int (i + j)) (tOp (rI0 fun i j => .int (i + j)) (tDGet (tVar 0) (tC (.str "fold"))) (tOp (rI CMul fun i j => .int (i * j)) (tDGet (tVar 0) (tC (.str "count"))) (tC (.int 7919)))) (tC (.int 41))) (gName 4))
            (tRet (tOp (rI (fun _ j => 0 < j) fun i j => .int (i % j)) (tOp (rI CDiv fun i j => .int (i / j)) (tCB (fun xs H Q => (∃ i, xs = [.int i] ∧ Q (.int i) H) ∨ ∃ k, xs = [.bl k] ∧ Q (.int (if k = true then 1 else 0)) H) (tCons (tOp (rI (fun _ j => 0 < j) fun i j => .int (i % j)) (tOp (rI CPow fun i j => .int (i ^ j.toNat)) (tVar 4) (tC (.int 17))) (tC (.int 2305843009213693951))) tNil)) (tC (.int 128))) (tVar 1))))
          { nx := fun _ H' => Q .non H', rt := Q } [some (.ref p), some (.int many), v, none, none] H2 := fun H2 v at2 dg2 fo2 S a0 d0 f0 f1 => by
      refine ⟨_, rfl, p, _, rfl, S.g3, _, _, rfl, rfl, _, rfl, bIf2 (fun z => ?_) (fun z => ?_)⟩
      · refine ⟨_, rfl, p, _, rfl, S.g3, .inl ⟨_, rfl, _, rfl, _, _, rfl, rfl, m0, ?_⟩⟩
        refine ⟨_, rfl, p, _, rfl, S.g3, _, rfl, _, _, rfl, rfl, ⟨m0, m1⟩, _, rfl, p, _, rfl, S.p3 _, _, rfl, ?_⟩
        have S' := S.put at2 (dg2 / many) (ct + 1) fo2
        exact q _ _ S'.r (S'.pen a0 (Int.ediv_nonneg (by omega) (by omega)) (by omega) (by omega) f0 f1) (Int.emod_nonneg _ (by omega)) (Int.emod_lt_of_pos _ m0)
      · refine ⟨_, rfl, p, _, rfl, S.g5, _, rfl, p, _, rfl, S.g4, _, _, rfl, rfl, .inr ⟨by decide, by decide⟩, _, _, rfl, rfl, _, _, rfl, rfl, ?_⟩
        refine ⟨_, rfl, _, _, rfl, rfl, ⟨by decide, by decide, ?_⟩, _, _, rfl, rfl, (by show (0 : Int) < 2305843009213693951; decide), .inl ⟨_, rfl, _, _, rfl, rfl, ⟨by decide, by decide⟩, _, rfl, _, _, rfl, rfl, m0, ?_⟩⟩
        · show (fo2 + (ct + 1) * 7919 + 41).natAbs < 2 ^ 64
          omega
        · exact q _ _ S.r (S.pen a0 d0 (by omega) (by omega) f0 f1) (Int.emod_nonneg _ (by omega)) (Int.emod_lt_of_pos _ m0)
    refine ⟨_, rfl, p, _, rfl, S1.g3, rfl, _, rfl, bIf2 (fun z => ?_) (fun z => ?_)⟩
    · refine ⟨_, rfl, p, _, rfl, S1.g2, _, rfl, p, _, rfl, S1.g1, l, _, rfl, .inl (sql_of S1.c), _, _, rfl, rfl, _, rfl, bIf2 (fun y => ?_) (fun y => ?_)⟩
      · have y : at_ < ((cells.map V.int).length : Int) := y
        rw [List.length_map] at y
        have ec : atI (cells.map V.int) at_ = some (.int (cells.getD at_.toNat 0)) := by
          unfold atI ixN
          rw [List.length_map, if_pos b1, if_pos y]
          show (cells.map V.int)[at_.toNat]? = _
          rw [List.getElem?_map, List.getElem?_eq_getElem (by omega), List.getD_eq_getElem?_getD, List.getElem?_eq_getElem (by omega)]
          rfl
        refine ⟨_, rfl, p, _, rfl, S1.g1, _, rfl, p, _, rfl, S1.g2, l, _, _, _, rfl, rfl, sql_of S1.c, ec, ?_⟩
        generalize cells.getD at_.toNat 0 = cell
        refine ⟨_, rfl, p, _, rfl, S1.g2, _, _, rfl, rfl, _, rfl, p, _, rfl, S1.p2 _, ?_⟩
        have S2 := S1.put (at_ + 1) dg (ct + 1) fo
        generalize upd H1 p (.dK (penK l (at_ + 1) dg (ct + 1) fo)) = H2 at S2
        refine ⟨_, rfl, _, _, rfl, rfl, ⟨by decide, by decide, by decide⟩, _, _, rfl, rfl, _, rfl, bIf2 (fun x => ?_) (fun x => ?_)⟩
        · refine ⟨_, rfl, _, _, rfl, rfl, ⟨by decide, by decide, by decide⟩, _, _, rfl, rfl, _, rfl, p, _, rfl, S2.p3 _, ?_⟩
          exact rest _ _ _ _ _ (S2.put _ _ _ _) (by omega) (by omega) b5 b6
        · refine ⟨_, rfl, p, _, rfl, S2.g5, _, _, rfl, rfl, .inr ⟨by decide, by decide⟩, _, rfl, _, _, rfl, rfl, .inl ⟨_, rfl, _, _, rfl, rfl, (by show (0 : Int) < 2147483587; decide), _, rfl, p, _, rfl, S2.p5 _, ?_⟩⟩
          exact rest _ _ _ _ _ (S2.put _ _ _ _) (by omega) b2 (Int.emod_nonneg _ (by decide)) (Int.emod_lt_of_pos _ (by decide))
      · exact rest _ _ _ _ _ S1 b1 b2 b5 b6
    · exact iteF (rest _ _ _ _ _ S1 b1 b2 b5 b6)
end
end K14
set_option Elab.async false
set_option linter.all false
set_option maxRecDepth 100000
set_option maxHeartbeats 4000000
/-! The walks, ninth part: what the pen picks. -/
namespace K14
open PySem PySem.Spec PyProof.Rows L2 LamX
section
variable {P : Program} {w : World} {K : PySem.W.Frag} {mg : Str → Option Value} {base : Heap} {C : Addr} {Tb : List (Addr × Str)}
theorem atI_get {xs : List V} {d : Int} (h0 : 0 ≤ d) (h1 : d < (xs.length : Int)) : ∃ v, atI xs d = some v ∧ xs[d.toNat]? = some v := by
  have e : xs[d.toNat]? = some xs[d.toNat] := List.getElem?_eq_getElem (by omega)
  refine ⟨xs[d.toNat], ?_, e⟩
  unfold atI ixN
  rw [if_pos h0, if_pos h1]
  exact e
/-! ### _law_pick -/
def spPick (Tb : List (Addr × Str)) (K : PySem.W.Frag) : Sp := fun vs H Q _ => ∃ (p l : Addr) (xs : List V) (n : Nat), vs = [.ref p, .ref l] ∧ SqL K H l xs ∧ xs ≠ [] ∧ xs.length < 1000000 ∧ PenAt K H p n ∧ n < 1000000000 ∧ ∀ (i : Nat) (v : V) H', xs[i]? = some v → Rl Tb true H H' → PenAt K H' p (n + 1) → Q v H'
theorem sc_L_pick : FnScope ["_law_pen_here", "_law_some"] ["_law_pen_here", "_law_some"] (defScope s_L_pick) := ⟨rfl, rfl, rfl, by decide +kernel, rfl, by decide +kernel, by decide +kernel⟩
theorem w_L_pick (T : Tx K mg C) (h : Has K mg "_law_pick" s_L_pick ["_law_pen_here", "_law_some"]) (o1 : Ok P w K mg base 1 "_law_draw" ["_law_pen_here", "_law_many"] (spDraw Tb K)) : Ok P w K mg base 2 "_law_pick" ["_law_pen_here", "_law_some"] (spPick Tb K) := by
  refine h.ok sc_L_pick (fun vs H Q E h => ?_) (fun f cdv A outer s H vs Q E hr h => ?_)
  · obtain ⟨p, l, xs, n, rfl, _⟩ := h; rfl
  · obtain ⟨p, l, xs, n, rfl, hl, ne, lt, hp, hn, q⟩ := h
    refine ⟨_, pss_one (ps_ret (pe_ix ix_list (pv 1) (pe_co o1 hr rfl (pa_cons (pv 0) (pa_cons (pe_callB call_len_seq (by rfl) T.len boot_len (pa_cons (pv 1) pa_nil)) pa_nil))) (fun _ _ => rfl))), ?_⟩
    have h0 : 1 ≤ xs.length := by cases xs with
      | nil => exact absurd rfl ne
      | cons a r => simp
    refine ⟨_, rfl, _, rfl, _, rfl, l, _, rfl, .inl hl, p, _, n, rfl, by omega, by omega, hp, hn, fun d H' r' p' d0 d1 => ?_⟩
    obtain ⟨v, e1, e2⟩ := atI_get d0 d1
    exact ⟨l, xs, d, v, rfl, rfl, r'.sql hl, e1, q _ v H' e2 r' p'⟩
/-! ### _law_far -/
def spFar (Tb : List (Addr × Str)) (K : PySem.W.Frag) : Sp := fun vs H Q _ => ∃ (p : Addr) (n : Nat), vs = [.ref p] ∧ PenAt K H p n ∧ n < 100000000 ∧ ∀ (i : Int) H', Rl Tb true H H' → PenAt K H' p (n + 12) → Q (.int i) H'
theorem sc_L_far : FnScope ["_law_pen_here", "_law_sign", "_law_many", "_law_far_here", "_law_lap"] ["_law_pen_here"] (defScope s_L_far) := ⟨rfl, rfl, rfl, by decide +kernel, rfl, by decide +kernel, by decide +kernel⟩
theorem w_L_far (T : Tx K mg C) (h : Has K mg "_law_far" s_L_far ["_law_pen_here"]) (o1 : Ok P w K mg base 1 "_law_draw" ["_law_pen_here", "_law_many"] (spDraw Tb K)) (o2 : Ok P w K mg base 2 "_law_pick" ["_law_pen_here", "_law_some"] (spPick Tb K)) : Ok P w K mg base 3 "_law_far" ["_law_pen_here"] (spFar Tb K) := by
  refine h.ok sc_L_far (fun vs H Q E h => ?_) (fun f cdv A outer s H vs Q E hr h => ?_)
  · obtain ⟨p, n, rfl, _⟩ := h; rfl
  · obtain ⟨p, n, rfl, hp, hn, q⟩ := h
    have nd := sc_L_far.nd
    have hr1 : Room 1 _ := hr.mono (by decide)
    refine ⟨_, pss_cons (ps_par3 (i := 1) (j := 2) (l := 3) rfl nd rfl rfl rfl (by decide) (by decide) (by decide) rfl rfl rfl
        (pa_cons (pe_op op_sub pe_int (pe_op op_mul pe_int (pe_co o1 hr1 rfl (pa_cons (pv 0) (pa_cons pe_int pa_nil))))) (pa_cons (pe_co o2 hr rfl (pa_cons (pv 0) (pa_cons (pe_lst (pa_cons pe_int (pa_cons pe_int (pa_cons pe_int (pa_cons pe_int (pa_cons pe_int pa_nil)))))) pa_nil))) (pa_cons (pe_co o1 hr1 rfl (pa_cons (pv 0) (pa_cons pe_int pa_nil))) pa_nil))) (by rfl))
      (pss_cons (ps_for PassesOwn.never rfl (pi_range1 rfl T.rng (pa_cons (pv 2) pa_nil)) (pg_name (i := 4) nd rfl (Or.inl rfl))
        (pss_one (ps_set (i := 3) nd rfl (Or.inl rfl) (pe_op op_add (pe_op op_mul (pv 3) (pe_op op_pow pe_int pe_int)) (pe_co o1 hr1 rfl (pa_cons (pv 0) (pa_cons (pe_op op_pow pe_int pe_int) pa_nil)))))))
      (pss_one (ps_ret (pe_op op_mul (pv 1) (pv 3))))), ?_⟩
    refine ⟨_, rfl, p, _, n, rfl, by decide, by decide, hp, by omega, fun d1 H1 r1 p1 d10 d11 => ?_⟩
    refine ⟨_, _, rfl, rfl, .inl ⟨by decide, by decide⟩, _, _, rfl, rfl, ?_⟩
    refine ⟨_, rfl, (by show 5 ≤ sizeLine; decide), fun l hl => ?_⟩
    have s2 := same_new (o := .lst [.int 0, .int 0, .int 1, .int 3, .int 9]) hl
    refine ⟨p, l, _, n + 1, rfl, sql_of upd_same, by simp, (by show 5 < 1000000; decide), p1.same s2, by omega, fun i v H3 hi r3 p3 => ?_⟩
    obtain ⟨m, rfl, m0, m1⟩ : ∃ m : Int, v = .int m ∧ 0 ≤ m ∧ m ≤ 9 := by
      match i, hi with
      | 0, hi => exact ⟨0, (Option.some.inj hi).symm, by decide, by decide⟩
      | 1, hi => exact ⟨0, (Option.some.inj hi).symm, by decide, by decide⟩
      | 2, hi => exact ⟨1, (Option.some.inj hi).symm, by decide, by decide⟩
      | 3, hi => exact ⟨3, (Option.some.inj hi).symm, by decide, by decide⟩
      | 4, hi => exact ⟨9, (Option.some.inj hi).symm, by decide, by decide⟩
    refine ⟨_, rfl, p, _, n + 1 + 1, rfl, by decide, by decide, p3, by omega, fun d4 H4 r4 p4 d40 d41 => ?_⟩
    have r14 : Rl Tb true H H4 := ((r1.trans (.of s2)).trans r3).trans r4
    refine ⟨_, _, _, rfl, _, rfl, _, rfl, by omega, by omega, ?_⟩
    refine for_range (fun i σ H' => Rl Tb true H H' ∧ PenAt K H' p (n + 3 + i) ∧ ∃ (fa : Int) (v : Option V), σ = [some (.ref p), some (.int (1 - 2 * d1)), some (.int m), some (.int fa), v]) ⟨r14, p4, d4, none, rfl⟩ ?_ ?_
    · rintro i σ H' hi ⟨r', p', fa, v, rfl⟩
      refine ⟨_, rfl, _, _, rfl, rfl, ⟨by decide, by decide, by decide⟩, _, _, rfl, rfl, .inr ⟨by decide, by decide⟩, _, rfl, _, _, rfl, rfl, ⟨by decide, by decide, by decide⟩, p, _, n + 3 + i, rfl, by decide, by decide, p', by omega, fun d5 H5 r5 p5 d50 d51 => ?_⟩
      exact ⟨_, _, rfl, rfl, r'.trans r5, p5, _, _, rfl⟩
    · rintro σ H' ⟨r', p', fa, v, rfl⟩
      refine ⟨_, rfl, _, rfl, _, _, rfl, rfl, .inl ⟨by omega, by omega⟩, q _ H' r' (p'.mono (by omega))⟩
/-! ### _law_listed -/
def spListed (Tb : List (Addr × Str)) (K : PySem.W.Frag) : Sp := fun vs H Q _ => ∃ (p a : Addr) (r : List Bool) (n : Nat), vs = [.ref p, .ref a] ∧ Bt K H a r ∧ PenAt K H p n ∧ n < 100000000 ∧ ∀ (b : Addr) H', RowV K H' b r → Rl Tb true H H' → PenAt K H' p (n + 1) → Q (.ref b) H'
theorem sc_L_listed : FnScope ["_law_pen_here", "_law_row"] ["_law_pen_here", "_law_row"] (defScope s_L_listed) := ⟨rfl, rfl, rfl, by decide +kernel, rfl, by decide +kernel, by decide +kernel⟩
theorem w_L_listed (T : Tx K mg C) (h : Has K mg "_law_listed" s_L_listed ["_law_pen_here", "_law_row"]) (o2 : Ok P w K mg base 2 "_law_pick" ["_law_pen_here", "_law_some"] (spPick Tb K)) : Ok P w K mg base 3 "_law_listed" ["_law_pen_here", "_law_row"] (spListed Tb K) := by
  refine h.ok sc_L_listed (fun vs H Q E h => ?_) (fun f cdv A outer s H vs Q E hr h => ?_)
  · obtain ⟨p, a, r, n, rfl, _⟩ := h; rfl
  · obtain ⟨p, a, r, n, rfl, hR, hp, hn, q⟩ := h
    refine ⟨_, pss_one (ps_ret (pe_co o2 hr rfl (pa_cons (pv 0) (pa_cons (pe_lst (pa_cons (pe_callTy call_tupRow (by rfl) T.tup boot_tuple (pa_cons (pv 1) pa_nil)) (pa_cons (pe_callTy call_list_of (by rfl) T.lst boot_list (pa_cons (pv 1) pa_nil)) pa_nil))) pa_nil)))), ?_⟩
    refine ⟨_, rfl, _, rfl, a, r, rfl, .inl hR, fun b1 H1 s1 e1 => ⟨_, rfl, a, _, rfl, .inr (hR.same s1), fun b2 hb2 => ?_⟩⟩
    have s2 := same_new (o := .lst (r.map V.bl)) hb2
    refine ⟨sz2, fun l hl => ?_⟩
    have s3 := same_new (o := .lst [.ref b1, .ref b2]) hl
    have s13 := (s1.trans s2).trans s3
    refine ⟨p, l, _, n, rfl, sql_of upd_same, by simp, (by show 2 < 1000000; decide), hp.same s13, by omega, fun i v H4 hi r4 p4 => ?_⟩
    have rr : Rl Tb true H H4 := (Rl.of s13).trans r4
    match i, hi with
    | 0, hi =>
      obtain rfl : V.ref b1 = v := Option.some.inj hi
      exact q b1 H4 (.inl (r4.bt (e1.same (s2.trans s3)))) rr p4
    | 1, hi =>
      obtain rfl : V.ref b2 = v := Option.some.inj hi
      exact q b2 H4 (.inr (r4.sql (sql_of (s3 _ _ upd_same)))) rr p4
/-! ### _law_bits -/
def spBits (Tb : List (Addr × Str)) (K : PySem.W.Frag) : Sp := fun vs H Q _ => ∃ (p : Addr) (m n : Nat), vs = [.ref p, .int (m : Int)] ∧ m ≤ 1000 ∧ PenAt K H p n ∧ n < 100000000 ∧ ∀ (b : Addr) (r : List Bool) H', r.length = m → Bt K H' b r → Rl Tb true H H' → PenAt K H' p (n + m + 3) → Q (.ref b) H'
theorem sc_L_bits : FnScope ["_law_pen_here", "_law_many", "_law_way", "_law_at", "_law_odd", "_law_k"] ["_law_pen_here", "_law_many"] (defScope s_L_bits) := ⟨rfl, rfl, rfl, by decide +kernel, rfl, by decide +kernel, by decide +kernel⟩
theorem op_eqP {X : Cx} : OpR X (compareOp .Eq) rEq := op_eq
theorem rep_row (b : Bool) : ∀ m : Nat, (List.replicate m [V.bl b]).flatten = (List.replicate m b).map V.bl
  | 0 => rfl
  | m + 1 => by rw [List.replicate_succ, List.flatten_cons, rep_row b m, List.replicate_succ, List.map_cons]; rfl
theorem w_L_bits (T : Tx K mg C) (h : Has K mg "_law_bits" s_L_bits ["_law_pen_here", "_law_many"]) (o1 : Ok P w K mg base 1 "_law_draw" ["_law_pen_here", "_law_many"] (spDraw Tb K)) : Ok P w K mg base 2 "_law_bits" ["_law_pen_here", "_law_many"] (spBits Tb K) := by
  refine h.ok sc_L_bits (fun vs H Q E h => ?_) (fun f cdv A outer s H vs Q E hr h => ?_)
  · obtain ⟨p, m, n, rfl, _⟩ := h; rfl
  · obtain ⟨p, m, n, rfl, hm, hp, hn, q⟩ := h
    have nd := sc_L_bits.nd
    refine ⟨_, pss_cons (ps_set (i := 2) nd rfl (Or.inl rfl) (pe_co o1 hr rfl (pa_cons (pv 0) (pa_cons pe_int pa_nil))))
      (pss_cons (ps_if (PW.pt (pw_or (pt_cmpR op_lt (pv 2) pe_int (nomark _)) (pw_or1 (pt_cmpR op_eq (pv 1) pe_int (nomark _))))) (pss_one (ps_ret (pe_op op_repA (pe_tup (pa_cons (pe_cmpR op_eq (pv 2) pe_int (nomark _)) pa_nil)) (pv 1)))) pss_nil)
      (pss_cons (ps_if (pt_cmpR op_eq (pv 2) pe_int (nomark _))
        (pss_cons (ps_asg (pe_tup (pa_cons (pe_co o1 hr rfl (pa_cons (pv 0) (pa_cons (pv 1) pa_nil))) (pa_cons (pe_cmpR op_eq (pe_co o1 hr rfl (pa_cons (pv 0) (pa_cons pe_int pa_nil))) pe_int (nomark _)) pa_nil))) (pg_tup rfl (pgs_cons (pg_name (i := 3) nd rfl (Or.inr rfl)) (pgs_cons (pg_name (i := 4) nd rfl (Or.inr rfl)) pgs_nil))))
        (pss_one (ps_ret (pe_callTy call_tupRow (by rfl) T.tup boot_tuple (pa_cons (pe_lc (own := [("_law_k", 5)]) (g := gName 5) (tt := tYes) rfl nd (pi_range1 rfl T.rng (pa_cons (pv 1) pa_nil)) (blkOk_by (by rfl)) (fun _ _ _ _ _ => pg_name (i := 5) nd rfl (Or.inl rfl)) (fun _ _ _ _ _ => pts_nil)
          (fun _ _ _ _ _ => pe_cmpR op_eq (pe_cmpR op_eq (pv 5) (pv 3) (nomark _)) (pv 4) (nomark _))) pa_nil))))) pss_nil)
      (pss_one (ps_ret (pe_callTy call_tupRow (by rfl) T.tup boot_tuple (pa_cons (pe_lc (own := [("_law_k", 5)]) (g := gName 5) (tt := tYes) rfl nd (pi_range1 rfl T.rng (pa_cons (pv 1) pa_nil)) (blkOk_by (by rfl)) (fun _ _ _ _ _ => pg_name (i := 5) nd rfl (Or.inl rfl)) (fun _ _ _ _ _ => pts_nil)
          (fun _ _ _ _ _ => pe_cmpR op_eq (pe_co o1 hr rfl (pa_cons (pv 0) (pa_cons pe_int pa_nil))) pe_int (nomark _))) pa_nil)))))), ?_⟩
    refine ⟨_, rfl, p, _, n, rfl, by decide, by decide, hp, by omega, fun wy H1 r1 p1 w0 w1 => ?_⟩
    have flat : tRet (tOp (rRepA K) (tTup (tCons (tOp rEq (tVar 2) (tC (.int 1))) tNil)) (tVar 1)) { nx := fun _ H' => Q .non H', rt := Q } [some (.ref p), some (.int (m : Int)), some (.int wy), none, none, none] H1 := by
      refine ⟨_, rfl, rfl, (by show 1 ≤ sizeLine; decide), fun a ha => ?_⟩
      have s2 := same_new (o := .tup [.bl (decide (V.int wy = V.int 1))]) ha
      refine ⟨_, rfl, a, _, _, rfl, rfl, sqt_of upd_same, by simp, by omega, by omega, (by show 1 ≤ 1000; decide), fun e1 => ?_, fun _ b hb => ?_⟩
      · have em : m = 1 := by omega
        exact q a [decide (V.int wy = V.int 1)] _ (by rw [em]; rfl) (Bt.of upd_same) (r1.trans (.of s2)) ((p1.same s2).mono (by omega))
      · have s3 := same_new (o := .tup (List.replicate (m : Int).toNat [V.bl (decide (V.int wy = V.int 1))]).flatten) hb
        refine q b (List.replicate m (decide (V.int wy = V.int 1))) _ (List.length_replicate ..) (Bt.of ?_) (r1.trans (.of (s2.trans s3))) ((p1.same (s2.trans s3)).mono (by omega))
        rw [upd_same, rep_row]
        rfl
    refine ⟨_, rfl, _, _, rfl, rfl, _, rfl, bIf2 (fun z => iteT flat) (fun z => ⟨_, rfl, rfl, _, rfl, bIf2 (fun y => flat) (fun y => ?_)⟩)⟩
    have m1 : m ≠ 0 := fun k => y (by rw [k]; rfl)
    refine ⟨_, rfl, rfl, _, rfl, bIf2 (fun x => ?_) (fun x => ?_)⟩
    · refine ⟨_, rfl, _, rfl, p, _, n + 1, rfl, by omega, by omega, p1, by omega, fun d2 H2 r2 p2 d20 d21 => ?_⟩
      refine ⟨_, rfl, p, _, n + 1 + 1, rfl, by decide, by decide, p2, by omega, fun d3 H3 r3 p3 d30 d31 => ⟨rfl, sz2, fun t ht => ?_⟩⟩
      have s4 := same_new (o := .tup [.int d2, .bl (decide (V.int d3 = V.int 1))]) ht
      refine ⟨t, _, rfl, sqt_of upd_same, rfl, _, _, rfl, _, _, rfl, rfl, ?_⟩
      refine ⟨_, rfl, _, rfl, by omega, by omega, fun D hD => ?_⟩
      refine lc_rowR (S := fun k => decide (V.bl (decide (V.int k = V.int d2)) = V.bl (decide (V.int d3 = V.int 1)))) (fun _ => rfl) (by omega) hD (fun i H' R hi s' k => ?_) fun H5 s5 e5 => ⟨D, _, rfl, .inr (sql_of e5), fun b H6 s6 b6 => ?_⟩
      · exact ⟨_, rfl, _, rfl, rfl, _, rfl, rfl, k H' (L2.Same.refl _)⟩
      · refine q b _ H6 (by rw [KF.rowOf_len]; omega) b6 (((r1.trans r2).trans r3).trans (.of (s4.trans (s5.trans s6)))) ((p3.same (s4.trans (s5.trans s6))).mono (by omega))
    · refine ⟨_, rfl, _, rfl, by omega, by omega, fun D hD => ?_⟩
      refine lc_range (fun i H' => Rl Tb true H1 H' ∧ PenAt K H' p (n + 1 + i) ∧ ∃ r : List Bool, r.length = i ∧ H' D = some (.lst (r.map V.bl))) ⟨.of (same_new hD), p1.same (same_new hD), [], rfl, upd_same⟩ (fun i H' hi z => ?_) fun H' z => ?_
      · obtain ⟨r', p', r, rl, e⟩ := z
        refine ⟨rfl, ⟨_, rfl, p, _, n + 1 + i, rfl, by decide, by decide, p', by omega, fun d5 H5 r5 p5 d50 d51 => ⟨rfl, ?_⟩⟩⟩
        have e5 := r5.ext _ _ e (fun _ z => by cases z) (fun _ _ z => by cases z)
        refine ⟨_, e5, by rw [List.length_map]; exact small_row (by omega), (r'.trans r5).upd_new hD ⟨_, e5, fun _ z => by cases z⟩ ⟨_, e5, fun _ z => by unfold CodeO at z; cases z⟩, p1.later (r'.trans r5) hD p5 (by intro _ z; rw [e5] at z; cases z), r ++ [decide (V.int d5 = V.int 1)], by simp [rl], by rw [upd_same, List.map_append]; rfl⟩
      · obtain ⟨r', p', r, rl, e⟩ := z
        exact ⟨D, r, rfl, .inr (sql_of e), fun b H6 s6 b6 => q b r H6 (by omega) b6 (r1.trans (r'.trans (.of s6))) ((p'.same s6).mono (by omega))⟩
end
end K14
set_option Elab.async false
set_option linter.all false
set_option maxRecDepth 100000
set_option maxHeartbeats 4000000
/-! The walks, tenth part: lambdas; the law's form. -/
namespace K14
open PySem PySem.Spec PyProof.Rows L2 LamX NdefX
/-! ### a def that makes a lambda -/
def HasL (K : PySem.W.Frag) (mg : Str → Option Value) (x : Str) (st : Stmt) (ps : List Str) (c : Addr) : Prop :=
  ∃ f fd, FunD K x x (defArgs st) (defBody st) (defScope st) [] [] f fd ∧ mg x = some (.ref f) ∧ Binds K fd ps [] ∧ fd.code = .ref c
structure LamT (Tb : List (Addr × Str)) (base : Heap) (mg : Str → Option Value) (q : Str) (c P : Addr) : Prop where
  tb : TabB base mg c P
  mem : (P, q) ∈ Tb
  un : ∀ p ∈ Tb, p.1 = P → p.2 = q
section
variable {P : Program} {w : World} {K : PySem.W.Frag} {mg : Str → Option Value} {base : Heap}
theorem HasL.ok {x : Str} {st : Stmt} {N ps : List Str} {k : Nat} {sp : Sp} {c : Addr} (h : HasL K mg x st ps c) (S : FnScope N ps (defScope st)) (len : ∀ vs H Q E, sp vs H Q E → vs.length = ps.length)
    (hbody : ∀ (f : Addr) (A : Around) (outer : List Env) (s : Shared) (H : Hp) (vs : List V) (Q : VK) (E : XK), Room k (A.deeper (envOfC x (defScope st) s.heap.objs.size f (.ref c))) → sp vs H Q E →
      ∃ t, PSs (cxOf L2.CX0 P w K mg base N x (defScope st) f (.ref c) A outer s H E).nox (defBody st) t ∧ t { nx := fun _ H' => Q .non H', rt := Q } (start N vs) H) : Ok P w K mg base (k + 1) x ps sp := by
  obtain ⟨f, fd, F, hm, hb, hc⟩ := h
  obtain ⟨oc, od, dV, kV, doc, pm, an, cdv, ct, osl, rfl, lk, hcd, _, _⟩ := F.ex
  obtain rfl : cdv = .ref c := hc
  refine ⟨f, _, fn_of lk hcd S len fun A outer s H vs Q E hr hs => ?_, ⟨hm, _, _, _, lk⟩, F.kp, hb⟩
  obtain ⟨t, h1, h2⟩ := hbody f A outer s H vs Q E hr hs
  exact ⟨t, h1.nox, h2⟩
end
/-! ### around the call that gets it -/
theorem sqt_hid {cl : List (Str × Addr)} {fr : List Str} {ws : List (Option V)} {K : PySem.W.Frag} {H : Hp} {a : Addr} {xs : List V} (C : CellsV cl fr ws H) (h : SqT K H a xs) : SqT K (hid cl H) a xs := by
  have no : ∀ o, H a = some o → (∀ c ob, o ≠ CelO c ob) → hid cl H a = some o := fun o e ne => by
    by_cases z : IsCl cl a
    · obtain ⟨y, hy⟩ := z
      obtain ⟨ob, v, h1, _⟩ := C.all y a hy
      rw [h1] at e
      exact absurd (Option.some.inj e).symm (ne a ob)
    · rw [hid_out z]; exact e
  rcases h with (h | ⟨o, h⟩) | h
  · exact .inl (.inl (no _ h fun _ _ z => by unfold CelO at z; cases z))
  · exact .inl (.inr ⟨o, no _ h fun _ _ z => by unfold CelO at z; cases z⟩)
  · exact .inr h
theorem told_hid {cl : List (Str × Addr)} {fr : List Str} {ws : List (Option V)} {K : PySem.W.Frag} {H : Hp} {t : Addr} {d : KF.Desc} (C : CellsV cl fr ws H) (h : Told K H t d) : Told K (hid cl H) t d := by
  obtain ⟨b, m, a, h0, h1, h2, h3⟩ := h
  exact ⟨b, m, a, sqt_hid C h0, sqt_hid C h1, sqt_hid C h2, sqt_hid C h3⟩
section
variable {P : Program} {w : World} {K : PySem.W.Frag} {mg : Str → Option Value} {base : Heap} {C : Addr} {Tb : List (Addr × Str)}
/-- what the making of the lambda and the call leave -/
theorem rl_lam {cl : List (Str × Addr)} {H H1 H2 H3 : Hp} (eN : ExtN H H1) (nn : ∀ b, H1 b = Option.none → H b = Option.none) (T1 : Tabs Tb H1) (e1 : ∀ a, ¬ IsCl cl a → H2 a = H1 a) (e2 : ∀ a, IsCl cl a → H1 a = none) (s3 : L2.Same H2 H3) : Rl Tb false H (hid cl H3) := by
  have s1 : L2.Same H1 (hid cl H3) := fun b o e => by
    have nb : ¬ IsCl cl b := fun hc => by rw [e2 b hc] at e; cases e
    rw [hid_out nb]
    exact s3 _ _ (by rw [e1 b nb]; exact e)
  refine ⟨fun b o e n _ => s1 _ _ (eN b o e n), fun b e => nn b (s1.free e), fun _ => T1.ext s1, fun b l x y z v e => ⟨x, y, z, v, s1 _ _ (eN b _ e fun _ z => by cases z)⟩⟩
theorem desc_fin {cl : List (Str × Addr)} {fr : List Str} {ws : List (Option V)} {H H1 H2 : Hp} {f : Addr} {F : NF} {body : Expr} {S : Int → Bool} {start fin : Int} {low high : Nat} {Q : VK} (eN : ExtN H H1) (nn : ∀ b, H1 b = Option.none → H b = Option.none) (T1 : Tabs Tb H1) (f1 : H1 f = some (LamO f F body))
    (e1 : ∀ a, ¬ IsCl cl a → H2 a = H1 a) (e2 : ∀ a, IsCl cl a → H1 a = none) (CV : CellsV cl fr ws H2) (hc : CallsTo P w K mg base 2 f H2 S) (l1 : low ≤ 10000) (l2 : high ≤ 10000) (l3 : fin - start ≤ 30000)
    (q : ∀ t H', Rl Tb false H H' → Told K H' t (KF.descr S start low fin high) → Q (.ref t) H') : spDesc P w K mg base [.ref f, .int start, .int (low : Int), .int fin, .int (high : Int)] H2 (fun v H3 => L2.Same H2 H3 ∧ Q v (hid cl H3)) L2.E0 := by
  have nf : ¬ IsCl cl f := fun hz => by rw [e2 f hz] at f1; cases f1
  exact ⟨f, start, fin, low, high, S, rfl, ⟨F, body, by rw [e1 f nf]; exact f1⟩, hc, l1, l2, l3, fun t H3 s3 ht => ⟨s3, q t _ (rl_lam eN nn T1 e1 e2 s3) (told_hid (CV.same s3) ht)⟩⟩
/-- what was known at H is known where the lambda runs -/
theorem at_hid {cl : List (Str × Addr)} {H H1 H2 : Hp} (eN : ExtN H H1) (e1 : ∀ a, ¬ IsCl cl a → H2 a = H1 a) (e2 : ∀ a, IsCl cl a → H1 a = none) : ExtN H (hid cl H2) := fun b o e n => by
  have e := eN b o e n
  have nb : ¬ IsCl cl b := fun hc => by rw [e2 b hc] at e; cases e
  rw [hid_out nb, e1 b nb]; exact e
theorem extN_told {H H' : Hp} (e : ExtN H H') {t : Addr} {d : KF.Desc} (h : Told K H t d) : Told K H' t d := by
  have sq : ∀ {a : Addr} {xs : List V}, SqT K H a xs → SqT K H' a xs := fun {a xs} h => by
    rcases h with (h | ⟨o, h⟩) | h
    · exact .inl (.inl (e _ _ h fun _ z => by cases z))
    · exact .inl (.inr ⟨o, e _ _ h fun _ z => by cases z⟩)
    · exact .inr h
  obtain ⟨b, m, a, h0, h1, h2, h3⟩ := h
  exact ⟨b, m, a, sq h0, sq h1, sq h2, sq h3⟩
/-! ### mirror, flipped -/
def spPlain (K : PySem.W.Frag) (g : KF.Desc → KF.Desc) : Sp := fun vs H Q _ => ∃ t d, vs = [.ref t] ∧ Told K H t d ∧ d.below.length ≤ 10000 ∧ d.middle.length ≤ 10000 ∧ d.above.length ≤ 10000 ∧ ∀ t' H', L2.Same H H' → Told K H' t' (g d) → Q (.ref t') H'
theorem sc_L_flipped : FnScope ["_law_told_here", "_law_rows", "_law_row", "_law_truth"] ["_law_told_here"] (defScope s_L_flipped) := ⟨rfl, rfl, rfl, by decide +kernel, rfl, by decide +kernel, by decide +kernel⟩
theorem w_L_flipped (T : Tx K mg C) (h : Has K mg "_law_flipped" s_L_flipped ["_law_told_here"]) : Ok P w K mg base 1 "_law_flipped" ["_law_told_here"] (spPlain K KF.flip) := by
  refine h.ok sc_L_flipped (fun vs H Q E h => ?_) (fun f cdv A outer s H vs Q E hr h => ?_)
  · obtain ⟨t, d, rfl, _⟩ := h; rfl
  · obtain ⟨t, d, rfl, ht, l1, l2, l3, q⟩ := h
    have nd := sc_L_flipped.nd
    refine ⟨_, pss_cons (ps_setLc (i := 1) (own := [("_law_row", 2)]) (g := gName 2) (tt := tYes) rfl nd rfl rfl (sw_true rfl rfl rfl (by decide +kernel)) (pi_tup (pe_slice sl_tupA (pv 0) (po_some pe_int) po_none)) (blkOk_by (by rfl)) (fun _ _ _ _ _ => pg_name (i := 2) nd rfl (Or.inl rfl)) (fun _ _ _ _ _ => pts_nil)
        (fun _ _ _ _ _ => pe_callTy (call_tupRowK K rfl) (by rfl) T.tup boot_tuple (pa_cons (pe_lc (own := [("_law_truth", 3)]) (g := gName 3) (tt := tYes) rfl nd (pi_tupK K rfl (pv 2)) (blkOk_by (by rfl)) (fun _ _ _ _ _ => pg_name (i := 3) nd rfl (Or.inl rfl)) (fun _ _ _ _ _ => pts_nil) (fun _ _ _ _ _ => pe_not (pv 3))) pa_nil)))
      (pss_one (ps_ret (pe_tup (pa_cons (pe_ix ix_tup (pv 0) pe_int (fun _ _ => rfl)) (pa_cons (pe_ix ix_list (pv 1) pe_int (fun _ _ => rfl)) (pa_cons (pe_ix ix_list (pv 1) pe_int (fun _ _ => rfl)) (pa_cons (pe_ix ix_list (pv 1) pe_int (fun _ _ => rfl)) pa_nil))))))), ?_⟩
    obtain ⟨b, m, a, e0, e1, e2, e3⟩ := ht
    refine ⟨_, rfl, _, rfl, t, _, rfl, e0, fun hw => absurd hw.1 (by show ¬ min 1 4 = 0; decide), fun _ u hu => ?_⟩
    have s1 : L2.Same H (upd H u (.tup [.ref b, .ref m, .ref a])) := same_new hu
    refine ⟨u, rfl, ⟨_, sqt_of upd_same⟩, fun D hD => lc_rows (K := K) (L := [(b, d.below), (m, d.middle), (a, d.above)]) (G := fun r => r.map (!·)) (fun _ => rfl) (by show 3 < 1000; decide) hD (sqt_of upd_same) (fun z H' R hz s' k => ?_) fun H' ps s' hd hl hB => ?_⟩
    · have s1' := s1.trans s'
      have hz2 : Bt K H' z.1 z.2 ∧ z.2.length < 100000 := by
        simp only [List.mem_cons, List.not_mem_nil, or_false] at hz
        rcases hz with rfl | rfl | rfl
        · exact ⟨e1.same s1', by show d.below.length < _; omega⟩
        · exact ⟨e2.same s1', by show d.middle.length < _; omega⟩
        · exact ⟨e3.same s1', by show d.above.length < _; omega⟩
      refine ⟨_, rfl, z.1, rfl, ⟨_, hz2.1⟩, fun D2 hD2 => lc_mapR (r := z.2) (g := (!·)) (fun _ => rfl) hz2.2 hD2 hz2.1 (fun y H5 R5 s5 k5 => ⟨_, rfl, _, rfl, k5 _ (L2.Same.refl _)⟩) fun H5 s5 e5 => ⟨D2, _, rfl, .inr (sql_of e5), fun p H6 s6 b6 => k p H6 (s5.trans s6) b6⟩⟩
    · obtain ⟨p0, p1, p2, rfl, b0, b1, b2⟩ := get3 hl hB
      refine ⟨_, rfl, t, _, 0, _, rfl, rfl, sqt_same e0 (s1.trans s'), rfl, _, rfl, D, _, 0, .ref p0, rfl, rfl, sql_of hd, rfl, _, rfl, D, _, 1, .ref p1, rfl, rfl, sql_of hd, rfl, _, rfl, D, _, 2, .ref p2, rfl, rfl, sql_of hd, rfl, sz4, fun v hv => ?_⟩
      have s4 := same_new (o := .tup [.int d.start, .ref p0, .ref p1, .ref p2]) hv
      exact q v _ ((s1.trans s').trans s4) ⟨p0, p1, p2, sqt_of upd_same, b0.same s4, b1.same s4, b2.same s4⟩
theorem sc_L_mirror : FnScope ["_law_told_here", "_law_rows", "_law_row", "_law_k"] ["_law_told_here"] (defScope s_L_mirror) := ⟨rfl, rfl, rfl, by decide +kernel, rfl, by decide +kernel, by decide +kernel⟩
theorem rowOf_rev (r : List Bool) : KF.rowOf (fun k => r.getD ((r.length : Int) - 1 - k).toNat false) 0 r.length = r.reverse := by
  refine KF.row_ext (by rw [KF.rowOf_len, List.length_reverse]) fun i hi => ?_
  rw [KF.rowOf_len] at hi
  rw [KF.rowOf_get _ _ hi, KF.getD_rev r hi]
  congr 1; omega
theorem w_L_mirror (T : Tx K mg C) (h : Has K mg "_law_mirror" s_L_mirror ["_law_told_here"]) (o1 : Ok P w K mg base 1 "_law_end" ["_law_told_here"] (spFin K)) : Ok P w K mg base 2 "_law_mirror" ["_law_told_here"] (spPlain K KF.mirror) := by
  refine h.ok sc_L_mirror (fun vs H Q E h => ?_) (fun f cdv A outer s H vs Q E hr h => ?_)
  · obtain ⟨t, d, rfl, _⟩ := h; rfl
  · obtain ⟨t, d, rfl, ht, l1, l2, l3, q⟩ := h
    have nd := sc_L_mirror.nd
    refine ⟨_, pss_cons (ps_setLc (i := 1) (own := [("_law_row", 2)]) (g := gName 2) (tt := tYes) rfl nd rfl rfl (sw_true rfl rfl rfl (by decide +kernel)) (pi_tup (pe_slice sl_tupA (pv 0) (po_some pe_int) po_none)) (blkOk_by (by rfl)) (fun _ _ _ _ _ => pg_name (i := 2) nd rfl (Or.inr rfl)) (fun _ _ _ _ _ => pts_nil)
        (fun _ _ _ _ _ => pe_callTy (call_tupRowK K rfl) (by rfl) T.tup boot_tuple (pa_cons (pe_lc (own := [("_law_k", 3)]) (g := gName 3) (tt := tYes) rfl nd (pi_range1 rfl T.rng (pa_cons (pe_callB (call_lenK K rfl) (by rfl) T.len boot_len (pa_cons (pv 2) pa_nil)) pa_nil)) (blkOk_by (by rfl)) (fun _ _ _ _ _ => pg_name (i := 3) nd rfl (Or.inl rfl)) (fun _ _ _ _ _ => pts_nil)
          (fun _ _ _ _ _ => pe_ix (ix_rowK K rfl) (pv 2) (pe_op op_sub (pe_op op_sub (pe_callB (call_lenK K rfl) (by rfl) T.len boot_len (pa_cons (pv 2) pa_nil)) pe_int) (pv 3)) (fun _ _ => rfl))) pa_nil)))
      (pss_one (ps_ret (pe_tup (pa_cons (pe_op op_sub pe_int (pe_co o1 hr rfl (pa_cons (pv 0) pa_nil))) (pa_cons (pe_ix ix_list (pv 1) pe_int (fun _ _ => rfl)) (pa_cons (pe_ix ix_list (pv 1) pe_int (fun _ _ => rfl)) (pa_cons (pe_ix ix_list (pv 1) pe_int (fun _ _ => rfl)) pa_nil))))))), ?_⟩
    obtain ⟨b, m, a, e0, e1, e2, e3⟩ := id ht
    refine ⟨_, rfl, _, rfl, t, _, rfl, e0, fun hw => absurd hw.1 (by show ¬ min 1 4 = 0; decide), fun _ u hu => ?_⟩
    have s1 : L2.Same H (upd H u (.tup [.ref b, .ref m, .ref a])) := same_new hu
    refine ⟨u, rfl, ⟨_, sqt_of upd_same⟩, fun D hD => lc_rows (K := K) (L := [(b, d.below), (m, d.middle), (a, d.above)]) (G := List.reverse) (fun _ => rfl) (by show 3 < 1000; decide) hD (sqt_of upd_same) (fun z H' R hz s' k => ?_) fun H' ps s' hd hl hB => ?_⟩
    · have s1' := s1.trans s'
      have hz2 : Bt K H' z.1 z.2 ∧ z.2.length < 100000 := by
        simp only [List.mem_cons, List.not_mem_nil, or_false] at hz
        rcases hz with rfl | rfl | rfl
        · exact ⟨e1.same s1', by show d.below.length < _; omega⟩
        · exact ⟨e2.same s1', by show d.middle.length < _; omega⟩
        · exact ⟨e3.same s1', by show d.above.length < _; omega⟩
      refine ⟨_, rfl, z.1, z.2, rfl, hz2.1, _, rfl, by omega, by omega, fun D2 hD2 => ?_⟩
      have en : ((z.2.length : Nat) : Int).toNat = z.2.length := by omega
      show ∃ W : Nat → Nat → Hp → Prop, _
      rw [en]
      refine lc_rowR (S := fun k => z.2.getD ((z.2.length : Int) - 1 - k).toNat false) (fun _ => rfl) hz2.2 hD2 (fun i H5 R5 hi s5 k5 => ?_) fun H5 s5 e5 => ⟨D2, _, rfl, .inr (sql_of e5), fun p H6 s6 b6 => k p H6 (s5.trans s6) (by rw [rowOf_rev] at b6; exact b6)⟩
      exact ⟨_, rfl, _, rfl, z.1, z.2, rfl, hz2.1.same s5, _, _, rfl, rfl, _, rfl, _, _, rfl, rfl, z.1, z.2, _, rfl, rfl, hz2.1.same s5, ⟨by omega, by omega⟩, k5 H5 (L2.Same.refl _)⟩
    · obtain ⟨p0, p1, p2, rfl, b0, b1, b2⟩ := get3 hl hB
      refine ⟨_, rfl, t, d, rfl, ht.same (s1.trans s'), _, _, rfl, rfl, _, rfl, D, _, 2, .ref p2, rfl, rfl, sql_of hd, rfl, _, rfl, D, _, 1, .ref p1, rfl, rfl, sql_of hd, rfl, _, rfl, D, _, 0, .ref p0, rfl, rfl, sql_of hd, rfl, sz4, fun v hv => ?_⟩
      have s4 := same_new (o := .tup [.int (1 - d.fin), .ref p2, .ref p1, .ref p0]) hv
      exact q v _ ((s1.trans s').trans s4) ⟨p2, p1, p0, sqt_of upd_same, b2.same s4, b1.same s4, b0.same s4⟩
/-! ### _law_odd_items -/
def spOdd (K : PySem.W.Frag) : Sp := fun vs H Q _ => ∃ a r, vs = [.ref a] ∧ Bt K H a r ∧ ∀ l H', L2.Same H H' → SqL K H' l [] → Q (.ref l) H'
theorem sc_L_odd_items : FnScope ["_law_row", "_law_item"] ["_law_row"] (defScope s_L_odd_items) := ⟨rfl, rfl, rfl, by decide +kernel, rfl, by decide +kernel, by decide +kernel⟩
theorem w_L_odd_items (T : Tx K mg C) (h : Has K mg "_law_odd_items" s_L_odd_items ["_law_row"]) : Ok P w K mg base 1 "_law_odd_items" ["_law_row"] (spOdd K) := by
  refine h.ok sc_L_odd_items (fun vs H Q E h => ?_) (fun f cdv A outer s H vs Q E hr h => ?_)
  · obtain ⟨a, r, rfl, _⟩ := h; rfl
  · obtain ⟨a, r, rfl, hR, q⟩ := h
    have nd := sc_L_odd_items.nd
    refine ⟨_, pss_one (ps_ret (pe_lc (own := [("_law_item", 1)]) (g := gName 1) (te := tVar 1) rfl nd (pi_tup (pv 0)) (blkOk_by (by rfl)) (fun _ _ _ _ _ => pg_name (i := 1) nd rfl (Or.inl rfl))
      (fun _ _ _ _ _ => pts_one (PW.pt (pw_and (pt_cmpR op_isnot_bl (pv 1) pe_bl (nomark _)) (pw_and1 (pt_cmpR op_isnot_bl (pv 1) pe_bl (nomark _)))))) (fun _ _ _ _ _ => pv 1))), ?_⟩
    refine ⟨_, rfl, a, rfl, ⟨_, hR⟩, fun D hD => lc_tup (xs := r.map V.bl) (fun i H' => L2.Same H H' ∧ H' D = some (.lst [])) ⟨same_new hD, upd_same⟩ (fun i H' _ p => sqt_same hR p.1) (fun i x H' hx p => ?_) fun H' p => q D H' p.1 (sql_of p.2)⟩
    obtain ⟨hi, rfl⟩ := row_at hx
    refine ⟨rfl, ?_⟩
    refine ⟨_, rfl, _, _, rfl, rfl, _, rfl, ?_⟩
    cases r.getD i false with
    | true => exact iteF (iteF p)
    | false => exact iteT ⟨_, rfl, _, _, rfl, rfl, _, rfl, iteF p⟩
end
end K14
set_option Elab.async false
set_option linter.all false
set_option maxRecDepth 100000
set_option maxHeartbeats 4000000
/-! The walks, eleventh part: the law's form. -/
namespace K14
open PySem PySem.Spec PyProof.Rows L2 LamX NdefX
theorem pe_callLam {X : Cx} {k : Nat} {ps fr : List Str} {js : List Nat} {sp : Sp} {x : Str} {t : TA} {es : List Expr} {p pos lpos : Pos} {params : Arguments} {body : Expr} {scope : Scope} {Tb : List (Addr × Str)} {c Pt : Addr} (o : Ok X.prog X.w X.K X.mg X.base k x ps sp) (hr : Room k X.A) (hfn : ∀ y, X.fn y = true)
    (L : LamT Tb X.base X.mg (X.env.qual ++ "<lambda>") c Pt) (hcode : X.env.code = .ref c) (hB : ndefB X.env.scope scope fr = true) (hjs : js.map (fun j => X.N[j]?) = fr.map some) (hg : Gl X x) (ha : PA X es t) (hdef : defaultsOf params X.env = ([], []) := by rfl)
    (hdb : (x == ("__debug__" : Str)) = false := by decide) (he : starEach (.Lambda params body scope lpos :: es) X.env = (false, eval (.Lambda params body scope lpos) X.env) :: starEach es X.env := by rfl) (hpl : (backTo pos (starEach es X.env)).any (·.1) = false := by rfl) :
    PE X (.Call (.Name x p) (.Lambda params body scope lpos :: es) [] pos) (tCallC sp (cloFrom X.env.cells scope.names []) fr js (tCons (tLamE Tb (lamF X params scope) body) t)) := by
  obtain ⟨f, fd, F, hm, hk, hb⟩ := o
  exact pe_callC F hr hfn (fun ok => Caps.made ok (ndef_free hB) (ndef_fr hB) hjs) hg hm.1 hk hb (pa_cons (pe_lam L.tb hcode L.mem L.un (ndef_free hB) hdef) ha) hdb he hpl
section
variable {P : Program} {w : World} {K : PySem.W.Frag} {mg : Str → Option Value} {base : Heap} {C : Addr} {Tb : List (Addr × Str)}
abbrev lq (x : Str) : Str := x ++ ".<locals>." ++ "<lambda>"
def spForm2 (Tb : List (Addr × Str)) (K : PySem.W.Frag) : Sp := fun vs H Q _ => ∃ t d, vs = [.ref t] ∧ Told K H t d ∧ d.ok ∧ d.below.length ≤ 10000 ∧ d.middle.length ≤ 10000 ∧ d.above.length ≤ 10000 ∧ Tabs Tb H ∧ ∀ t' e H', Rl Tb false H H' → Told K H' t' e → KF.IsForm (KF.mem d) e → Q (.ref t') H'
theorem sc_L_form : FnScope ["_law_told_here", "_law_high", "_law_low", "_law_end_here", "_law_far_here", "_law_word", "_law_lap", "_law_start", "_law_n"] ["_law_told_here"] (defScope s_L_form) := ⟨rfl, rfl, rfl, by decide +kernel, rfl, by decide +kernel, by decide +kernel⟩
theorem w_L_form {c Pt : Addr} (T : Tx K mg C) (h : HasL K mg "_law_form" s_L_form ["_law_told_here"] c) (L : LamT Tb base mg (lq "_law_form") c Pt) (oS : Ok P w K mg base 1 "_law_step_of" ["_law_row"] (spStep K)) (oE : Ok P w K mg base 1 "_law_end" ["_law_told_here"] (spFin K)) (oH : Ok P w K mg base 1 "_law_has" ["_law_told_here", "_law_n"] (spHas K))
    (oD : Ok P w K mg base 3 "_law_described" ["_law_fun", "_law_start", "_law_low_step", "_law_end_here", "_law_high_step"] (spDesc P w K mg base)) : Ok P w K mg base 4 "_law_form" ["_law_told_here"] (spForm2 Tb K) := by
  refine h.ok sc_L_form (fun vs H Q E h => ?_) (fun f A outer s H vs Q E hr h => ?_)
  · obtain ⟨t, d, rfl, _⟩ := h; rfl
  · obtain ⟨t, d, rfl, ht, ok, l1, l2, l3, hT, q⟩ := h
    have nd := sc_L_form.nd
    have hu := hu64 hr
    have hr1 : Room 1 _ := hr.mono (by decide)
    refine ⟨_, pss_cons (ps_asg (pe_tup (pa_cons (pe_co oS hr1 rfl (pa_cons (pe_ix ix_tup (pv 0) pe_int (fun _ _ => rfl)) pa_nil)) (pa_cons (pe_co oS hr1 rfl (pa_cons (pe_ix ix_tup (pv 0) pe_int (fun _ _ => rfl)) pa_nil)) (pa_cons (pe_co oE hr1 rfl (pa_cons (pv 0) pa_nil)) pa_nil))))
        (pg_tup rfl (pgs_cons (pg_name (i := 1) nd rfl (Or.inr rfl)) (pgs_cons (pg_name (i := 2) nd rfl (Or.inl rfl)) (pgs_cons (pg_name (i := 3) nd rfl (Or.inl rfl)) pgs_nil)))))
      (pss_cons (ps_set (i := 4) nd rfl (Or.inl rfl) (pe_op op_sub (pe_op op_sub (pe_ix ix_tup (pv 0) pe_int (fun _ _ => rfl)) (pv 1)) (pe_callB call_lenB (by rfl) T.len boot_len (pa_cons (pe_ix ix_tup (pv 0) pe_int (fun _ _ => rfl)) pa_nil))))
      (pss_cons (ps_if (pt_cmpR (op_eqNil hu) (pe_lc (own := [("_law_n", 8)]) (g := gName 8) (te := tVar 8) rfl nd (pi_rangeA2 rfl T.rng (pa_cons (pv 4) (pa_cons (pv 3) pa_nil))) (blkOk_by (by rfl)) (fun _ _ _ _ _ => pg_name (i := 8) nd rfl (Or.inl rfl))
            (fun _ _ _ _ _ => pts_one (pt_cmpR op_ne (pe_co oH hr1 rfl (pa_cons (pv 0) (pa_cons (pv 8) pa_nil))) (pe_co oH hr1 rfl (pa_cons (pv 0) (pa_cons (pe_op op_add (pv 8) (pv 1)) pa_nil))) (nomark _)))
            (fun _ _ _ _ _ => pv 8)) (pe_lst pa_nil) (nomark _))
          (pss_cons (ps_set (i := 5) nd rfl (Or.inl rfl) (pe_callTy call_tupRow (by rfl) T.tup boot_tuple (pa_cons (pe_lc (own := [("_law_n", 8)]) (g := gName 8) (tt := tYes) rfl nd (pi_range1 rfl T.rng (pa_cons (pv 1) pa_nil)) (blkOk_by (by rfl)) (fun _ _ _ _ _ => pg_name (i := 8) nd rfl (Or.inl rfl)) (fun _ _ _ _ _ => pts_nil)
              (fun _ _ _ _ _ => pe_co oH hr1 rfl (pa_cons (pv 0) (pa_cons (pv 8) pa_nil)))) pa_nil)))
            (pss_one (ps_ret (pe_tup (pa_cons pe_int (pa_cons (pv 5) (pa_cons (pe_tup pa_nil) (pa_cons (pv 5) pa_nil)))))))) pss_nil)
      (pss_cons (ps_for PassesOwn.never rfl (pi_range1 rfl T.rng (pa_cons (pe_op op_add (pe_op op_sub (pv 3) (pv 4)) pe_int) pa_nil)) (pg_name (i := 6) nd rfl (Or.inl rfl))
          (pss_cons (ps_if (pt_cmpR op_ne (pe_co oH hr1 rfl (pa_cons (pv 0) (pa_cons (pe_op op_sub (pv 3) pe_int) pa_nil))) (pe_co oH hr1 rfl (pa_cons (pv 0) (pa_cons (pe_op op_add (pe_op op_sub (pv 3) pe_int) (pv 1)) pa_nil))) (nomark _)) (pss_one ps_break) pss_nil)
            (pss_one (ps_set (i := 3) nd rfl (Or.inl rfl) (pe_op op_sub (pv 3) pe_int)))))
      (pss_cons (ps_set (i := 7) nd rfl (Or.inl rfl) (pe_callB (call_min2 rfl) (by rfl) T.min boot_min' (pa_cons (pe_ix ix_tup (pv 0) pe_int (fun _ _ => rfl)) (pa_cons (pv 3) pa_nil))))
      (pss_cons (ps_for PassesOwn.never rfl (pi_range1 rfl T.rng (pa_cons (pe_op op_sub (pv 3) (pv 7)) pa_nil)) (pg_name (i := 6) nd rfl (Or.inl rfl))
          (pss_cons (ps_if (pt_cmpR op_ne (pe_co oH hr1 rfl (pa_cons (pv 0) (pa_cons (pv 7) pa_nil))) (pe_co oH hr1 rfl (pa_cons (pv 0) (pa_cons (pe_op op_sub (pv 7) (pv 2)) pa_nil))) (nomark _)) (pss_one ps_break) pss_nil)
            (pss_one (ps_set (i := 7) nd rfl (Or.inl rfl) (pe_op op_add (pv 7) pe_int)))))
      (pss_one (ps_ret (pe_callLam (fr := ["_law_told_here"]) (js := [0]) oD hr (fun _ => rfl) L rfl (by rfl) rfl rfl (pa_cons (pv 7) (pa_cons (pv 2) (pa_cons (pv 3) (pa_cons (pv 1) pa_nil)))))))))))), ?_⟩
    obtain ⟨b, m, a, e0, e1, e2, e3⟩ := id ht
    have pb := KF.len_pos ok.1
    have pa := KF.len_pos ok.2
    refine ⟨_, rfl, t, _, 3, _, rfl, rfl, e0, rfl, a, d.above, rfl, e3, pa, by omega, fun qn H1 s1 q1 q2 lq => ?_⟩
    refine ⟨_, rfl, t, _, 1, _, rfl, rfl, sqt_same e0 s1, rfl, b, d.below, rfl, e1.same s1, pb, by omega, fun pn H2 s2 p1 p2 lp => ?_⟩
    have s12 := s1.trans s2
    refine ⟨_, rfl, t, d, rfl, ht.same s12, sz3, fun u hu' => ?_⟩
    have s3 := same_new (o := .tup [.int (qn : Int), .int (pn : Int), .int d.fin]) hu'
    refine ⟨u, _, rfl, sqt_of upd_same, rfl, _, _, rfl, _, _, rfl, _, _, rfl, rfl, ?_⟩
    have s13 := s12.trans s3
    generalize upd H2 u (.tup [.int (qn : Int), .int (pn : Int), .int d.fin]) = H3 at s3 s13
    have ht3 := ht.same s13
    have e03 := sqt_same e0 s13
    refine ⟨_, rfl, t, _, 0, _, rfl, rfl, e03, rfl, _, rfl, _, _, rfl, rfl, _, rfl, t, _, 1, _, rfl, rfl, e03, rfl, b, d.below, rfl, e1.same s13, _, _, rfl, rfl, ?_⟩
    have fg := d.fin_ge
    have fe : d.fin = d.start + (d.middle.length : Int) := rfl
    have bl2 : ∀ {x y : Bool}, decide (V.bl x = V.bl y) = decide (x = y) := fun {x y} => dec_bl
    refine ⟨_, rfl, _, rfl, _, _, rfl, fun D hD => ?_⟩
    refine lc_filtR (c := fun n => !decide (KF.mem d n = KF.mem d (n + (qn : Int)))) (fun _ => rfl) (fun _ => rfl) (by omega) hD (fun i H' R hi s' k => ?_) fun H4 ns s4 e4 hns => ?_
    · have z := k H' (L2.Same.refl _)
      refine ⟨_, rfl, _, rfl, t, d, _, rfl, ht3.same s', ok, _, rfl, _, rfl, _, rfl, _, _, rfl, rfl, t, d, _, rfl, ht3.same s', ok, rfl, _, rfl, ?_⟩
      rw [bl2]; exact z
    · have ht4 := ht3.same s4
      have s14 := s13.trans s4
      refine ⟨sz0, fun ln hln => ⟨D, ln, ns, rfl, rfl, sql_of (same_new hln _ _ e4), sql_of upd_same, _, rfl, ?_⟩⟩
      have s5 := same_new (o := .lst []) hln
      have ht5 := ht4.same s5
      have s15 := s14.trans s5
      generalize upd H4 ln (.lst []) = H5 at s5 ht5 s15
      refine bIf2 (fun y => ?_) (fun y => ?_)
      · -- throughout
        have all := hns.mp y
        have per : KF.Per (KF.mem d) (qn : Int) := KF.law_thru ok (by omega) (fun n n1 n2 => ?_) fun n hn => ?_
        · refine ⟨_, rfl, _, rfl, by omega, by omega, fun D2 hD2 => ?_⟩
          have en : ((qn : Nat) : Int).toNat = qn := by omega
          show ∃ W : Nat → Nat → Hp → Prop, _
          rw [en]
          refine lc_rowR (S := KF.mem d) (fun _ => rfl) (by omega) hD2 (fun i H' R hi s' k => ?_) fun H6 s6 e6 => ⟨D2, _, rfl, .inr (sql_of e6), fun w1 H7 s7 w7 => ?_⟩
          · exact ⟨_, rfl, _, rfl, t, d, _, rfl, ht5.same s', ok, k H' (L2.Same.refl _)⟩
          · refine ⟨_, rfl, sz0, fun p3 hp3 => ⟨_, rfl, sz4, fun tt htt => ?_⟩⟩
            have s8 := same_new (o := .tup []) hp3
            have s9 := same_new (o := .tup [.int 0, .ref w1, .ref p3, .ref w1]) htt
            exact q tt ⟨0, KF.rowOf (KF.mem d) 0 qn, [], KF.rowOf (KF.mem d) 0 qn⟩ _ (.of ((s15.trans (s6.trans s7)).trans (s8.trans s9))) ⟨w1, p3, w1, sqt_of upd_same, w7.same (s8.trans s9), Bt.of (s9 _ _ upd_same), w7.same (s8.trans s9)⟩ (KF.law_form_thru ok lq per)
        · have z := all (n - (d.start - (qn : Int) - (d.below.length : Int))).toNat (by omega)
          have z : (!decide (KF.mem d (d.start - (qn : Int) - (d.below.length : Int) + ((n - (d.start - (qn : Int) - (d.below.length : Int))).toNat : Int)) = KF.mem d (d.start - (qn : Int) - (d.below.length : Int) + ((n - (d.start - (qn : Int) - (d.below.length : Int))).toNat : Int) + (qn : Int)))) = false := z
          have en : d.start - (qn : Int) - (d.below.length : Int) + ((n - (d.start - (qn : Int) - (d.below.length : Int))).toNat : Int) = n := by omega
          rw [en] at z
          simpa using z
        · rw [KF.mem_high hn, KF.mem_high (by omega), lq.per (n - d.fin)]; congr 1; omega
      · -- not so
        have np : ¬ KF.Per (KF.mem d) (qn : Int) := fun per => y (hns.mpr fun i hi => by
          show (!decide (KF.mem d (d.start - (qn : Int) - (d.below.length : Int) + (i : Int)) = KF.mem d (d.start - (qn : Int) - (d.below.length : Int) + (i : Int) + (qn : Int)))) = false
          rw [decide_eq_true (per _)]; rfl)
        have upf : ∀ n, d.fin ≤ n → KF.mem d n = KF.mem d (n + (qn : Int)) := fun n hn => by
          rw [KF.mem_high hn, KF.mem_high (by omega), lq.per (n - d.fin)]; congr 1; omega
        have dnf : ∀ n, n < d.start → KF.mem d n = KF.mem d (n - (pn : Int)) := fun n hn => by
          rw [KF.mem_low hn, KF.mem_low (by omega), lp.per.neg (n - d.start)]; congr 1; omega
        refine ⟨_, rfl, _, rfl, _, _, rfl, rfl, _, _, rfl, rfl, _, rfl, by omega, by omega, ?_⟩
        refine (fun (rest : ∀ (σ : L2.St) (H' : Hp), (H' = H5 ∧ ∃ (v : Option V) (e : Int), σ = [some (.ref t), some (.int (qn : Int)), some (.int (pn : Int)), some (.int e), some (.int (d.start - (qn : Int) - (d.below.length : Int))), none, v, none, none] ∧ (∀ n, e ≤ n → KF.mem d n = KF.mem d (n + (qn : Int))) ∧ KF.mem d (e - 1) ≠ KF.mem d (e - 1 + (qn : Int)) ∧ e ≤ d.fin) → (_ : L2.St → Hp → Prop) σ H') =>
          for_range (fun i σ H' => H' = H5 ∧ ∃ v : Option V, σ = [some (.ref t), some (.int (qn : Int)), some (.int (pn : Int)), some (.int (d.fin - (i : Int))), some (.int (d.start - (qn : Int) - (d.below.length : Int))), none, v, none, none] ∧ ∀ n, d.fin - (i : Int) ≤ n → KF.mem d n = KF.mem d (n + (qn : Int)))
            ⟨rfl, none, by simp <;> rfl, fun n hn => upf n (by simpa using hn)⟩ ?_ (fun σ H' p => rest σ H' ?_)) ?_
        · rintro i σ H' hi ⟨rfl, v, rfl, up⟩
          refine ⟨_, rfl, _, rfl, _, _, rfl, rfl, t, d, _, rfl, ht5, ok, _, rfl, _, rfl, _, _, rfl, rfl, _, rfl, _, _, rfl, rfl, t, d, _, rfl, ht5, ok, rfl, _, rfl, bifN (fun z => ?_) (fun z => ?_)⟩
          · exact rest _ _ ⟨rfl, _, _, rfl, up, fun k => z (congrArg V.bl k), by omega⟩
          · refine ⟨_, rfl, _, _, rfl, rfl, rfl, some (.int ((0 : Int) + (i : Int))), ?_, fun n hn => ?_⟩
            · rw [show d.fin - ((i + 1 : Nat) : Int) = d.fin - (i : Int) - 1 by omega]; rfl
            · by_cases x : d.fin - (i : Int) ≤ n
              · exact up n x
              · have e : n = d.fin - (i : Int) - 1 := by omega
                rw [e]; exact bl_inj z
        · obtain ⟨rfl, v, rfl, up⟩ := p
          exfalso
          refine y (hns.mpr fun i hi => ?_)
          show (!decide (KF.mem d (d.start - (qn : Int) - (d.below.length : Int) + (i : Int)) = KF.mem d (d.start - (qn : Int) - (d.below.length : Int) + (i : Int) + (qn : Int)))) = false
          rw [decide_eq_true (up _ (by omega))]; rfl
        · rintro σ H' ⟨rfl, v, e, rfl, up, ne, le⟩
          refine ⟨_, rfl, t, _, 0, _, rfl, rfl, sqt_same e0 s15, rfl, _, rfl, _, _, rfl, ?_⟩
          rw [min_if]
          have hs0 : min d.start e ≤ e := by omega
          have hs1 : min d.start e ≤ d.start := by omega
          have hs2 : e - min d.start e ≤ 10000 := by omega
          generalize min d.start e = s0 at hs0 hs1 hs2
          refine ⟨_, rfl, _, rfl, _, _, rfl, rfl, _, rfl, by omega, by omega, ?_⟩
          refine (fun (rest : ∀ (σ : L2.St) (H6 : Hp), (H6 = H' ∧ ∃ (v : Option V) (s1 : Int), σ = [some (.ref t), some (.int (qn : Int)), some (.int (pn : Int)), some (.int e), some (.int (d.start - (qn : Int) - (d.below.length : Int))), none, v, some (.int s1), none] ∧ (∀ n, n < s1 → KF.mem d n = KF.mem d (n - (pn : Int))) ∧ s1 ≤ e ∧ s0 ≤ s1 ∧ (s1 = e ∨ KF.mem d s1 ≠ KF.mem d (s1 - (pn : Int)))) → (_ : L2.St → Hp → Prop) σ H6) =>
            for_range (fun i σ H6 => H6 = H' ∧ ∃ v : Option V, σ = [some (.ref t), some (.int (qn : Int)), some (.int (pn : Int)), some (.int e), some (.int (d.start - (qn : Int) - (d.below.length : Int))), none, v, some (.int (s0 + (i : Int))), none] ∧ ∀ n, n < s0 + (i : Int) → KF.mem d n = KF.mem d (n - (pn : Int)))
              ⟨rfl, v, by simp <;> rfl, fun n hn => dnf n (by simp at hn; omega)⟩ ?_ (fun σ H' p => rest σ H' ?_)) ?_
          · rintro i σ H6 hi ⟨rfl, v, rfl, dn⟩
            refine ⟨_, rfl, _, rfl, t, d, _, rfl, ht5, ok, _, rfl, _, rfl, _, rfl, _, _, rfl, rfl, t, d, _, rfl, ht5, ok, rfl, _, rfl, bifN (fun z => ?_) (fun z => ?_)⟩
            · exact rest _ _ ⟨rfl, _, _, rfl, dn, by omega, by omega, .inr fun k => z (congrArg V.bl k)⟩
            · refine ⟨_, rfl, _, _, rfl, rfl, rfl, some (.int ((0 : Int) + (i : Int))), ?_, fun n hn => ?_⟩
              · rw [show s0 + ((i + 1 : Nat) : Int) = s0 + (i : Int) + 1 by omega]; rfl
              · by_cases x : n < s0 + (i : Int)
                · exact dn n x
                · have e : n = s0 + (i : Int) := by omega
                  rw [e]; exact bl_inj z
          · obtain ⟨rfl, v, rfl, dn⟩ := p
            have en : s0 + (((e - s0).toNat : Nat) : Int) = e := by omega
            exact ⟨rfl, v, _, rfl, dn, by omega, by omega, .inl en⟩
          · rintro σ H6 ⟨rfl, v, sN, rfl, dn, se, s0s, last⟩
            have hT5 : Tabs Tb H6 := hT.ext s15
            refine ⟨hT5, fun g c1 H7 eN nn T7 g0 g1 cc => ⟨_, rfl, _, rfl, _, rfl, _, rfl, fun H8 k1 k2 CV => ?_⟩⟩
            have at8 : ∀ a o, H7 a = some o → H8 a = some o := fun a o z => by
              rw [k1 a (fun hc => by rw [k2 a hc] at z; cases z)]; exact z
            have tt : Told K (hid _ H8) t d := extN_told (at_hid eN k1 k2) ht5
            refine desc_fin (S := KF.mem d) eN nn T7 g1 k1 k2 CV ?_ (by omega) (by omega) (by omega) (fun t' H9 r' z => q t' _ H9 (.trans (.of s15) r') z (KF.law_form_else ok lp lq np up ne se dn last))
            refine lam_calls (k := 1) (N := ["_law_n", "_law_told_here"]) (fr := ["_law_told_here"]) (x := "_law_n") (nscope_by (by rfl)) (fun _ _ _ _ => rfl) (at8 _ _ g1) (at8 _ _ cc) CV (fun A' outer' s' Hx n hr' sm => ⟨_, pe_co oH hr' rfl (pa_cons (pv 1) (pa_cons (pv 0) pa_nil)), ?_⟩)
            exact ⟨_, rfl, _, rfl, t, d, n, rfl, tt.same sm, ok, rfl, L2.Same.refl _⟩
end
end K14
set_option Elab.async false
set_option linter.all false
set_option maxRecDepth 100000
set_option maxHeartbeats 4000000
/-! The walks, twelfth part: joined, brought near, signed, one form, stretched. -/
namespace K14
open PySem PySem.Spec PyProof.Rows L2 LamX NdefX
section
variable {P : Program} {w : World} {K : PySem.W.Frag} {mg : Str → Option Value} {base : Heap} {C : Addr} {Tb : List (Addr × Str)}
/-! ### _law_joined -/
def gW : Nat → KF.Tab
  | 0 => gAnd
  | 1 => gOr
  | 2 => gXor
  | _ => gSub
def tblI : Nat → List Int
  | 0 => [0, 0, 0, 1]
  | 1 => [0, 1, 1, 1]
  | 2 => [0, 1, 1, 0]
  | _ => [0, 0, 1, 0]
theorem tbl_at {k : Nat} (hk : k < 4) (x y : Bool) : ∃ v : Int, atI ((tblI k).map V.int) (2 * (if x = true then (1 : Int) else 0) + (if y = true then 1 else 0)) = some (.int v) ∧ decide (V.int v = V.int 1) = gW k x y := by
  match k, hk with
  | 0, _ => cases x <;> cases y <;> exact ⟨_, rfl, by decide⟩
  | 1, _ => cases x <;> cases y <;> exact ⟨_, rfl, by decide⟩
  | 2, _ => cases x <;> cases y <;> exact ⟨_, rfl, by decide⟩
  | 3, _ => cases x <;> cases y <;> exact ⟨_, rfl, by decide⟩
structure JFits (d e : KF.Desc) : Prop where
  lo : d.below.length * e.below.length ≤ 10000
  hi : d.above.length * e.above.length ≤ 10000
  mi : max d.fin e.fin - min d.start e.start ≤ 10000
def spJoin (Tb : List (Addr × Str)) (K : PySem.W.Frag) : Sp := fun vs H Q _ => ∃ (v : V) (t1 t2 : Addr) (k : Nat) (d e : KF.Desc), vs = [v, .ref t1, .ref t2, .int (k : Int)] ∧ k < 4 ∧ Told K H t1 d ∧ Told K H t2 e ∧ d.ok ∧ e.ok ∧ JFits d e ∧ Tabs Tb H ∧
  ∀ t' H', Rl Tb false H H' → Told K H' t' (KF.joinD (gW k) d e) → Q (.ref t') H'
theorem sc_L_joined : FnScope ["_law_pen_here", "_law_one", "_law_other", "_law_way", "_law_table", "_law_low", "_law_high", "_law_start", "_law_end_here"] ["_law_pen_here", "_law_one", "_law_other", "_law_way"] (defScope s_L_joined) := ⟨rfl, rfl, rfl, by decide +kernel, rfl, by decide +kernel, by decide +kernel⟩
theorem w_L_joined {c Pt : Addr} (T : Tx K mg C) (h : HasL K mg "_law_joined" s_L_joined ["_law_pen_here", "_law_one", "_law_other", "_law_way"] c) (L : LamT Tb base mg (lq "_law_joined") c Pt) (oE : Ok P w K mg base 1 "_law_end" ["_law_told_here"] (spFin K)) (oH : Ok P w K mg base 1 "_law_has" ["_law_told_here", "_law_n"] (spHas K))
    (oD : Ok P w K mg base 3 "_law_described" ["_law_fun", "_law_start", "_law_low_step", "_law_end_here", "_law_high_step"] (spDesc P w K mg base)) : Ok P w K mg base 4 "_law_joined" ["_law_pen_here", "_law_one", "_law_other", "_law_way"] (spJoin Tb K) := by
  refine h.ok sc_L_joined (fun vs H Q E h => ?_) (fun f A outer s H vs Q E hr h => ?_)
  · obtain ⟨v, t1, t2, k, d, e, rfl, _⟩ := h; rfl
  · obtain ⟨v, t1, t2, k, d, e, rfl, hk, h1, h2, ok, ok', fit, hT, q⟩ := h
    have nd := sc_L_joined.nd
    have hr1 : Room 1 _ := hr.mono (by decide)
    refine ⟨_, pss_cons (ps_set (i := 4) nd rfl (Or.inr rfl) (pe_ix ix_list (pe_lst (pa_cons (pe_lst (pa_cons pe_int (pa_cons pe_int (pa_cons pe_int (pa_cons pe_int pa_nil))))) (pa_cons (pe_lst (pa_cons pe_int (pa_cons pe_int (pa_cons pe_int (pa_cons pe_int pa_nil)))))
          (pa_cons (pe_lst (pa_cons pe_int (pa_cons pe_int (pa_cons pe_int (pa_cons pe_int pa_nil))))) (pa_cons (pe_lst (pa_cons pe_int (pa_cons pe_int (pa_cons pe_int (pa_cons pe_int pa_nil))))) pa_nil))))) (pv 3) (fun _ _ => rfl)))
      (pss_cons (ps_par (i := 5) (j := 6) rfl nd rfl rfl (by decide) rfl rfl (pa_cons (pe_op op_mul (pe_callB call_lenB (by rfl) T.len boot_len (pa_cons (pe_ix ix_tup (pv 1) pe_int (fun _ _ => rfl)) pa_nil)) (pe_callB call_lenB (by rfl) T.len boot_len (pa_cons (pe_ix ix_tup (pv 2) pe_int (fun _ _ => rfl)) pa_nil)))
          (pa_cons (pe_op op_mul (pe_callB call_lenB (by rfl) T.len boot_len (pa_cons (pe_ix ix_tup (pv 1) pe_int (fun _ _ => rfl)) pa_nil)) (pe_callB call_lenB (by rfl) T.len boot_len (pa_cons (pe_ix ix_tup (pv 2) pe_int (fun _ _ => rfl)) pa_nil))) pa_nil)) (by rfl))
      (pss_cons (ps_par (i := 7) (j := 8) rfl nd rfl rfl (by decide) rfl rfl (pa_cons (pe_callB (call_min2 rfl) (by rfl) T.min boot_min' (pa_cons (pe_ix ix_tup (pv 1) pe_int (fun _ _ => rfl)) (pa_cons (pe_ix ix_tup (pv 2) pe_int (fun _ _ => rfl)) pa_nil)))
          (pa_cons (pe_callB (call_max2 rfl) (by rfl) T.max boot_max' (pa_cons (pe_co oE hr1 rfl (pa_cons (pv 1) pa_nil)) (pa_cons (pe_co oE hr1 rfl (pa_cons (pv 2) pa_nil)) pa_nil))) pa_nil)) (by rfl))
      (pss_one (ps_ret (pe_callLam (fr := ["_law_table", "_law_one", "_law_other"]) (js := [4, 1, 2]) oD hr (fun _ => rfl) L rfl (by rfl) rfl rfl (pa_cons (pv 7) (pa_cons (pv 5) (pa_cons (pv 8) (pa_cons (pv 6) pa_nil))))))))), ?_⟩
    obtain ⟨b1, m1, a1, x0, x1, x2, x3⟩ := id h1
    obtain ⟨b2, m2, a2, y0, y1, y2, y3⟩ := id h2
    have pb1 := KF.len_pos ok.1
    have pa1 := KF.len_pos ok.2
    have pb2 := KF.len_pos ok'.1
    have pa2 := KF.len_pos ok'.2
    refine ⟨sz4, fun l0 n0 => ⟨sz4, fun l1 n1 => ⟨sz4, fun l2 n2 => ⟨sz4, fun l3 n3 => ⟨sz4, fun lt nt => ?_⟩⟩⟩⟩⟩
    have s0 := same_new (o := .lst [V.int 0, .int 0, .int 0, .int 1]) n0
    have s1 := same_new (o := .lst [V.int 0, .int 1, .int 1, .int 1]) n1
    have s2 := same_new (o := .lst [V.int 0, .int 1, .int 1, .int 0]) n2
    have s3 := same_new (o := .lst [V.int 0, .int 0, .int 1, .int 0]) n3
    have s4 := same_new (o := .lst [V.ref l0, .ref l1, .ref l2, .ref l3]) nt
    have sA := (((s0.trans s1).trans s2).trans s3).trans s4
    have z0 := s4 _ _ (s3 _ _ (s2 _ _ (s1 _ _ (upd_same (H := H) (a := l0)))))
    have z1 := s4 _ _ (s3 _ _ (s2 _ _ (upd_same (H := upd H l0 (.lst [V.int 0, .int 0, .int 0, .int 1])) (a := l1) (o := .lst [V.int 0, .int 1, .int 1, .int 1]))))
    have z2 := s4 _ _ (s3 _ _ (upd_same (H := upd (upd H l0 (.lst [V.int 0, .int 0, .int 0, .int 1])) l1 (.lst [V.int 0, .int 1, .int 1, .int 1])) (a := l2) (o := .lst [V.int 0, .int 1, .int 1, .int 0])))
    have z3 := s4 _ _ (upd_same (H := upd (upd (upd H l0 (.lst [V.int 0, .int 0, .int 0, .int 1])) l1 (.lst [V.int 0, .int 1, .int 1, .int 1])) l2 (.lst [V.int 0, .int 1, .int 1, .int 0])) (a := l3) (o := .lst [V.int 0, .int 0, .int 1, .int 0]))
    have zt : ∀ {G : Hp}, (upd G lt (.lst [V.ref l0, .ref l1, .ref l2, .ref l3])) lt = some (.lst [V.ref l0, .ref l1, .ref l2, .ref l3]) := fun {G} => upd_same
    generalize hG : upd (upd (upd (upd (upd H l0 (.lst [V.int 0, .int 0, .int 0, .int 1])) l1 (.lst [V.int 0, .int 1, .int 1, .int 1])) l2 (.lst [V.int 0, .int 1, .int 1, .int 0])) l3 (.lst [V.int 0, .int 0, .int 1, .int 0])) lt (.lst [V.ref l0, .ref l1, .ref l2, .ref l3]) = G at *
    have zt' : G lt = some (.lst [V.ref l0, .ref l1, .ref l2, .ref l3]) := by rw [← hG]; exact upd_same
    obtain ⟨lk, ek, hlk⟩ : ∃ lk, atI [V.ref l0, .ref l1, .ref l2, .ref l3] (k : Int) = some (.ref lk) ∧ G lk = some (.lst ((tblI k).map V.int)) := by
      match k, hk with
      | 0, _ => exact ⟨l0, rfl, z0⟩
      | 1, _ => exact ⟨l1, rfl, z1⟩
      | 2, _ => exact ⟨l2, rfl, z2⟩
      | 3, _ => exact ⟨l3, rfl, z3⟩
    refine ⟨_, rfl, lt, _, (k : Int), .ref lk, rfl, rfl, sql_of zt', ek, ?_⟩
    have x0 := sqt_same x0 sA
    have y0 := sqt_same y0 sA
    refine ⟨_, rfl, t1, _, 1, _, rfl, rfl, x0, rfl, b1, d.below, rfl, x1.same sA, _, rfl, t2, _, 1, _, rfl, rfl, y0, rfl, b2, e.below, rfl, y1.same sA, _, _, rfl, rfl, .inl ⟨by omega, ?_⟩, ?_⟩
    · have := Nat.le_trans (Nat.le_mul_of_pos_right d.below.length pb2) fit.lo; omega
    refine ⟨_, rfl, t1, _, 3, _, rfl, rfl, x0, rfl, a1, d.above, rfl, x3.same sA, _, rfl, t2, _, 3, _, rfl, rfl, y0, rfl, a2, e.above, rfl, y3.same sA, _, _, rfl, rfl, .inl ⟨by omega, ?_⟩, _, _, rfl, ?_⟩
    · have := Nat.le_trans (Nat.le_mul_of_pos_right d.above.length pa2) fit.hi; omega
    refine ⟨_, rfl, t1, _, 0, _, rfl, rfl, x0, rfl, _, rfl, t2, _, 0, _, rfl, rfl, y0, rfl, _, _, rfl, ?_⟩
    rw [min_if]
    refine ⟨_, rfl, t1, d, rfl, h1.same sA, _, rfl, t2, e, rfl, h2.same sA, _, _, rfl, ?_⟩
    rw [max_if]
    refine ⟨_, _, rfl, ?_⟩
    have hTG : Tabs Tb G := hT.ext sA
    refine ⟨hTG, fun g c1 H7 eN nn T7 g0 g1 cc => ⟨_, rfl, _, rfl, _, rfl, _, rfl, fun H8 k1 k2 CV => ?_⟩⟩
    have at8 : ∀ a o, H7 a = some o → H8 a = some o := fun a o z => by
      rw [k1 a (fun hc => by rw [k2 a hc] at z; cases z)]; exact z
    have ah := at_hid eN k1 k2
    have tt1 : Told K (hid _ H8) t1 d := extN_told ah (h1.same sA)
    have tt2 : Told K (hid _ H8) t2 e := extN_told ah (h2.same sA)
    have tl := ah _ _ hlk (fun _ z => by cases z)
    refine desc_fin (S := KF.both (gW k) (KF.mem d) (KF.mem e)) (start := min d.start e.start) (fin := max d.fin e.fin) (low := d.below.length * e.below.length) (high := d.above.length * e.above.length) eN nn T7 g1 k1 k2 CV ?_ fit.lo fit.hi (by have := fit.mi; omega) (fun t' H9 r' z => q t' H9 (.trans (.of sA) r') z)
    refine lam_calls (k := 1) (N := ["_law_n", "_law_table", "_law_one", "_law_other"]) (fr := ["_law_table", "_law_one", "_law_other"]) (x := "_law_n") (nscope_by (by rfl)) (fun _ _ _ _ => rfl) (at8 _ _ g1) (at8 _ _ cc) CV (fun A' outer' s' Hx n hr' sm =>
      ⟨_, pe_cmpR op_eq (pe_ix ix_list (pv 1) (pe_op op_add (pe_op op_mul pe_int (pe_callTy call_int1 (by rfl) T.int boot_int (pa_cons (pe_co oH hr' rfl (pa_cons (pv 2) (pa_cons (pv 0) pa_nil))) pa_nil))) (pe_callTy call_int1 (by rfl) T.int boot_int (pa_cons (pe_co oH hr' rfl (pa_cons (pv 3) (pa_cons (pv 0) pa_nil))) pa_nil))) (fun _ _ => rfl)) pe_int (nomark _), ?_⟩)
    obtain ⟨v, e1, e2⟩ := tbl_at hk (KF.mem d n) (KF.mem e n)
    refine ⟨_, rfl, _, rfl, _, rfl, t1, d, n, rfl, tt1.same sm, ok, .inr ⟨_, rfl, _, _, rfl, rfl, .inl ⟨by decide, by decide⟩, _, rfl, _, rfl, t2, e, n, rfl, tt2.same sm, ok', .inr ⟨_, rfl, _, _, rfl, rfl, lk, _, _, _, rfl, rfl, sql_of (sm _ _ tl), e1, rfl, ?_, L2.Same.refl _⟩⟩⟩
    exact congrArg V.bl e2
end
end K14
set_option Elab.async false
set_option linter.all false
set_option maxRecDepth 100000
set_option maxHeartbeats 4000000
/-! The walks, thirteenth part: brought near, signed, one form, stretched. -/
namespace K14
open PySem PySem.Spec PyProof.Rows L2 LamX NdefX
theorem per_flat {d : KF.Desc} (hm : d.middle = []) (hb : d.below = d.above) : KF.Per (KF.mem d) (d.below.length : Int) := by
  have e : ∀ n, KF.mem d n = KF.cyc d.below (n - d.start) := fun n => by
    by_cases z : n < d.start
    · rw [KF.mem_low z]
    · have ef : d.fin = d.start := by unfold KF.Desc.fin; rw [hm]; simp
      rw [KF.mem_high (by omega), ef, ← hb]
  intro n
  rw [e, e, KF.cyc_per d.below (n - d.start)]; congr 1; omega
section
variable {P : Program} {w : World} {K : PySem.W.Frag} {mg : Str → Option Value} {base : Heap} {C : Addr} {Tb : List (Addr × Str)}
/-! ### _law_brought_near -/
def spNear (Tb : List (Addr × Str)) (K : PySem.W.Frag) : Sp := fun vs H Q _ => ∃ (t : Addr) (i : Int) (d : KF.Desc), vs = [.ref t, .int i] ∧ Told K H t d ∧ d.ok ∧ d.below.length ≤ 10000 ∧ d.above.length ≤ 10000 ∧ Tabs Tb H ∧
  ∀ t' e H', Rl Tb false H H' → Told K H' t' e → e.ok → (∀ n, KF.mem e n = KF.mem d n) → (e = d ∧ ¬ (d.middle = [] ∧ d.below = d.above) ∨ e.start = i ∧ e.fin = i) → e.below.length = d.below.length → e.above.length = d.above.length → Q (.ref t') H'
theorem sc_L_brought_near : FnScope ["_law_word", "_law_start"] ["_law_word", "_law_start"] (defScope s_L_brought_near) := ⟨rfl, rfl, rfl, by decide +kernel, rfl, by decide +kernel, by decide +kernel⟩
theorem w_L_brought_near {c Pt : Addr} (T : Tx K mg C) (h : HasL K mg "_law_brought_near" s_L_brought_near ["_law_word", "_law_start"] c) (L : LamT Tb base mg (lq "_law_brought_near") c Pt) (oH : Ok P w K mg base 1 "_law_has" ["_law_told_here", "_law_n"] (spHas K))
    (oD : Ok P w K mg base 3 "_law_described" ["_law_fun", "_law_start", "_law_low_step", "_law_end_here", "_law_high_step"] (spDesc P w K mg base)) : Ok P w K mg base 4 "_law_brought_near" ["_law_word", "_law_start"] (spNear Tb K) := by
  refine h.ok sc_L_brought_near (fun vs H Q E h => ?_) (fun f A outer s H vs Q E hr h => ?_)
  · obtain ⟨t, i, d, rfl, _⟩ := h; rfl
  · obtain ⟨t, i, d, rfl, ht, ok, l1, l2, hT, q⟩ := h
    have nd := sc_L_brought_near.nd
    have hu := hu64 hr
    have hr1 : Room 1 _ := hr.mono (by decide)
    refine ⟨_, pss_cons (ps_if (PW.pt (pw_or (pt_cmpR (op_neB hu) (pe_ix ix_tup (pv 0) pe_int (fun _ _ => rfl)) (pe_tup pa_nil) (nomark _)) (pw_or1 (pt_cmpR (op_neB hu) (pe_ix ix_tup (pv 0) pe_int (fun _ _ => rfl)) (pe_ix ix_tup (pv 0) pe_int (fun _ _ => rfl)) (nomark _))))) (pss_one (ps_ret (pv 0))) pss_nil)
      (pss_one (ps_ret (pe_callLam (fr := ["_law_word"]) (js := [0]) oD hr (fun _ => rfl) L rfl (by rfl) rfl rfl (pa_cons (pv 1) (pa_cons (pe_callB call_lenB (by rfl) T.len boot_len (pa_cons (pe_ix ix_tup (pv 0) pe_int (fun _ _ => rfl)) pa_nil)) (pa_cons (pv 1) (pa_cons (pe_callB call_lenB (by rfl) T.len boot_len (pa_cons (pe_ix ix_tup (pv 0) pe_int (fun _ _ => rfl)) pa_nil)) pa_nil))))))), ?_⟩
    obtain ⟨b, m, a, x0, x1, x2, x3⟩ := id ht
    refine ⟨_, rfl, t, _, 2, _, rfl, rfl, x0, rfl, sz0, fun p hp => ?_⟩
    have s1 : L2.Same H (upd H p (.tup [])) := same_new hp
    have e0 : Bt K (upd H p (.tup [])) p [] := Bt.of upd_same
    generalize upd H p (.tup []) = H1 at s1 e0
    refine ⟨m, p, d.middle, [], rfl, rfl, x2.same s1, e0, _, rfl, bifN (fun z => ?_) (fun z => ?_)⟩
    · exact iteT ⟨_, rfl, q t d H1 (.of s1) (ht.same s1) ok (fun _ => rfl) (.inl ⟨rfl, fun k => z k.1⟩) rfl rfl⟩
    · refine ⟨_, rfl, t, _, 1, _, rfl, rfl, sqt_same x0 s1, rfl, _, rfl, t, _, 3, _, rfl, rfl, sqt_same x0 s1, rfl, b, a, d.below, d.above, rfl, rfl, x1.same s1, x3.same s1, _, rfl, bifN (fun y => ?_) (fun y => ?_)⟩
      · exact ⟨_, rfl, q t d H1 (.of s1) (ht.same s1) ok (fun _ => rfl) (.inl ⟨rfl, fun k => y k.2⟩) rfl rfl⟩
      · have per := per_flat z y
        have per' : KF.Per (KF.mem d) (d.above.length : Int) := by rw [← y]; exact per
        refine ⟨hT.ext s1, fun g c1 H7 eN nn T7 g0 g1 cc => ?_⟩
        have ht7 := extN_told eN (ht.same s1)
        have x07 : SqT K H7 t [.int d.start, .ref b, .ref m, .ref a] := by
          rcases sqt_same x0 s1 with (z | ⟨o, z⟩) | z
          · exact .inl (.inl (eN _ _ z fun _ z => by cases z))
          · exact .inl (.inr ⟨o, eN _ _ z fun _ z => by cases z⟩)
          · exact .inr z
        have sq7 : ∀ {a : Addr} {r : List Bool}, Bt K H1 a r → Bt K H7 a r := fun {a r} h => by
          rcases h with (h | ⟨o, h⟩) | h
          · exact .inl (.inl (eN _ _ h fun _ z => by cases z))
          · exact .inl (.inr ⟨o, eN _ _ h fun _ z => by cases z⟩)
          · exact .inr h
        refine ⟨_, rfl, _, rfl, t, _, 1, _, rfl, rfl, x07, rfl, b, d.below, rfl, sq7 (x1.same s1), _, rfl, _, rfl, t, _, 3, _, rfl, rfl, x07, rfl, a, d.above, rfl, sq7 (x3.same s1), fun H8 k1 k2 CV => ?_⟩
        have at8 : ∀ a o, H7 a = some o → H8 a = some o := fun a o z => by
          rw [k1 a (fun hc => by rw [k2 a hc] at z; cases z)]; exact z
        have tt : Told K (hid _ H8) t d := extN_told (at_hid eN k1 k2) (ht.same s1)
        have pb := KF.len_pos ok.1
        have pa := KF.len_pos ok.2
        refine desc_fin (S := KF.mem d) eN nn T7 g1 k1 k2 CV ?_ l1 l2 (by omega) (fun t' H9 r' z => q t' _ H9 (.trans (.of s1) r') z (KF.descr_ok pb pa) (fun n => KF.descr_mem (Int.le_refl _) pb pa (fun n _ => per.neg n) (fun n _ => per' n) n) (.inr ⟨rfl, KF.descr_fin (Int.le_refl _)⟩) (KF.rowOf_len ..) (KF.rowOf_len ..))
        refine lam_calls (k := 1) (N := ["_law_n", "_law_word"]) (fr := ["_law_word"]) (x := "_law_n") (nscope_by (by rfl)) (fun _ _ _ _ => rfl) (at8 _ _ g1) (at8 _ _ cc) CV (fun A' outer' s' Hx n hr' sm => ⟨_, pe_co oH hr' rfl (pa_cons (pv 1) (pa_cons (pv 0) pa_nil)), ?_⟩)
        exact ⟨_, rfl, _, rfl, t, d, n, rfl, tt.same sm, ok, rfl, L2.Same.refl _⟩
/-! ### _law_signed -/
def spSigned (K : PySem.W.Frag) (C : Addr) : Sp := fun vs H Q _ => ∃ (x y : Addr) (d e : KF.Desc) (k : Nat), vs = [.ref x, .ref y, .int (k : Int)] ∧ k < 4 ∧ RAt K C H x d ∧ RAt K C H y e ∧ Fits d e ∧ ∀ z f H', L2.Same H H' → RAt K C H' z f → KF.IsForm (KF.both (gW k) (KF.mem d) (KF.mem e)) f → Q (.ref z) H'
theorem sc_L_signed : FnScope ["_law_one", "_law_other", "_law_way"] ["_law_one", "_law_other", "_law_way"] (defScope s_L_signed) := ⟨rfl, rfl, rfl, by decide +kernel, rfl, by decide +kernel, by decide +kernel⟩
theorem w_L_signed (T : Tx K mg C) (h : Has K mg "_law_signed" s_L_signed ["_law_one", "_law_other", "_law_way"]) (oA : OkM P w K mg base 7 C "__and__" ["self", "other"] (spSign K C gAnd)) (oO : OkM P w K mg base 7 C "__or__" ["self", "other"] (spSign K C gOr))
    (oX : OkM P w K mg base 7 C "__xor__" ["self", "other"] (spSign K C gXor)) (oS : OkM P w K mg base 7 C "__sub__" ["self", "other"] (spSign K C gSub)) : Ok P w K mg base 8 "_law_signed" ["_law_one", "_law_other", "_law_way"] (spSigned K C) := by
  refine h.ok sc_L_signed (fun vs H Q E h => ?_) (fun f cdv A outer s H vs Q E hr h => ?_)
  · obtain ⟨x, y, d, e, k, rfl, _⟩ := h; rfl
  · obtain ⟨x, y, d, e, k, rfl, hk, hx, hy, ft, q⟩ := h
    refine ⟨_, pss_cons (ps_if (pt_cmpR op_eq (pv 2) pe_int (nomark _)) (pss_one (ps_ret (pe_op (op_mo (op := .BitAnd) oA hr T.self) (pv 0) (pv 1)))) pss_nil)
      (pss_cons (ps_if (pt_cmpR op_eq (pv 2) pe_int (nomark _)) (pss_one (ps_ret (pe_op (op_mo (op := .BitOr) oO hr T.self) (pv 0) (pv 1)))) pss_nil)
      (pss_cons (ps_if (pt_cmpR op_eq (pv 2) pe_int (nomark _)) (pss_one (ps_ret (pe_op (op_mo (op := .BitXor) oX hr T.self) (pv 0) (pv 1)))) pss_nil)
      (pss_one (ps_ret (pe_op (op_mo (op := .Sub) oS hr T.self) (pv 0) (pv 1)))))), ?_⟩
    obtain ⟨dx, b, m, a, h1, h4⟩ := hx.ex
    obtain ⟨dy, b', m', a', k1, k4⟩ := hy.ex
    have go : ∀ g, gW k = g → spSign K C g [.ref x, .ref y] H Q L2.E0 := fun g eg => ⟨x, y, d, e, rfl, hx, hy, ft, fun z f H' s' hz hf => q z f H' s' hz (by rw [eg]; exact hf)⟩
    refine ⟨_, rfl, rfl, _, rfl, bIf2 (fun z => ?_) (fun z0 => ?_)⟩
    · have z1 : (k : Int) = 0 := by injection z
      exact ⟨_, rfl, _, rfl, x, y, dx, dy, _, _, rfl, rfl, h1, k1, go gAnd (by rw [show k = 0 by omega]; rfl)⟩
    refine ⟨_, rfl, rfl, _, rfl, bIf2 (fun z => ?_) (fun z1 => ?_)⟩
    · have z1 : (k : Int) = 1 := by injection z
      exact ⟨_, rfl, _, rfl, x, y, dx, dy, _, _, rfl, rfl, h1, k1, go gOr (by rw [show k = 1 by omega]; rfl)⟩
    refine ⟨_, rfl, rfl, _, rfl, bIf2 (fun z => ?_) (fun z2 => ?_)⟩
    · have z1 : (k : Int) = 2 := by injection z
      exact ⟨_, rfl, _, rfl, x, y, dx, dy, _, _, rfl, rfl, h1, k1, go gXor (by rw [show k = 2 by omega]; rfl)⟩
    · have y0 : k ≠ 0 := fun k0 => z0 (by rw [k0]; rfl)
      have y1 : k ≠ 1 := fun k0 => z1 (by rw [k0]; rfl)
      have y2 : k ≠ 2 := fun k0 => z2 (by rw [k0]; rfl)
      exact ⟨_, rfl, _, rfl, x, y, dx, dy, _, _, rfl, rfl, h1, k1, go gSub (by rw [show k = 3 by omega]; rfl)⟩
/-! ### _law_is_one_form -/
def spOne (Tb : List (Addr × Str)) (K : PySem.W.Frag) (C : Addr) : Sp := fun vs H Q _ => ∃ x t f d, vs = [.ref x, .ref t] ∧ RAt K C H x f ∧ Told K H t d ∧ KF.IsForm (KF.mem d) f ∧ d.ok ∧ d.below.length ≤ 10000 ∧ d.middle.length ≤ 10000 ∧ d.above.length ≤ 10000 ∧ Tabs Tb H ∧ ∀ H', Rl Tb false H H' → Q (.bl true) H'
theorem sc_L_is_one_form : FnScope ["_law_one", "_law_told_here", "_law_row"] ["_law_one", "_law_told_here"] (defScope s_L_is_one_form) := ⟨rfl, rfl, rfl, by decide +kernel, rfl, by decide +kernel, by decide +kernel⟩
theorem w_L_is_one_form (T : Tx K mg C) (h : Has K mg "_law_is_one_form" s_L_is_one_form ["_law_one", "_law_told_here"]) (oI : Ok P w K mg base 1 "_law_is_int" ["_law_value"] spInt) (oO : Ok P w K mg base 1 "_law_odd_items" ["_law_row"] (spOdd K)) (oT : Ok P w K mg base 1 "_law_told" ["_law_one"] (spTold K C))
    (oF : Ok P w K mg base 4 "_law_form" ["_law_told_here"] (spForm2 Tb K)) : Ok P w K mg base 5 "_law_is_one_form" ["_law_one", "_law_told_here"] (spOne Tb K C) := by
  refine h.ok sc_L_is_one_form (fun vs H Q E h => ?_) (fun f cdv A outer s H vs Q E hr h => ?_)
  · obtain ⟨x, t, f, d, rfl, _⟩ := h; rfl
  · obtain ⟨x, t, g, d, rfl, hx, ht, hf, ok, l1, l2, l3, hT, q⟩ := h
    have nd := sc_L_is_one_form.nd
    have hu := hu64 hr
    have hr1 : Room 1 _ := hr.mono (by decide)
    refine ⟨_, pss_cons (ps_if (pt_not (pt_val (pe_co oI hr1 rfl (pa_cons (pe_fld (pv 0) rfl) pa_nil)))) (pss_one (ps_ret pe_bl)) pss_nil)
      (pss_cons (ps_for PassesOwn.never rfl (pi_list (pe_lst (pa_cons (pe_fld (pv 0) rfl) (pa_cons (pe_fld (pv 0) rfl) (pa_cons (pe_fld (pv 0) rfl) pa_nil))))) (pg_name (i := 2) nd rfl (Or.inl rfl))
        (pss_one (ps_if (PW.pt (pw_or (pt_not (pt_val (pe_callB call_isi (by rfl) T.isi boot_isi (pa_cons (pv 2) (pa_cons (pe_ty rfl T.tup boot_tuple) pa_nil))))) (pw_or1 (pt_cmpR (op_neNil hu) (pe_co oO hr1 rfl (pa_cons (pv 2) pa_nil)) (pe_lst pa_nil) (nomark _))))) (pss_one (ps_ret pe_bl)) pss_nil)))
      (pss_one (ps_ret (pe_cmpR (op_eqF hu) (pe_co oT hr1 rfl (pa_cons (pv 0) pa_nil)) (pe_co oF hr rfl (pa_cons (pv 1) pa_nil)) (nomark _))))), ?_⟩
    obtain ⟨dx, b, m, a, h1, h4⟩ := hx.ex
    refine ⟨_, rfl, x, C, dx, _, _, rfl, h1, T.cl, T.nS, fs4_S, _, rfl, _, rfl, iteF ?_⟩
    refine ⟨_, rfl, x, C, dx, _, _, rfl, h1, T.cl, T.nB, fs4_B, _, rfl, x, C, dx, _, _, rfl, h1, T.cl, T.nM, fs4_M, _, rfl, x, C, dx, _, _, rfl, h1, T.cl, T.nA, fs4_A, sz3, fun l hl => ?_⟩
    have s1 : L2.Same H (upd H l (.lst [.ref b, .ref m, .ref a])) := same_new hl
    refine ⟨l, rfl, ⟨_, sql_of upd_same⟩, for_list (K := K) (a := l) (xs := [.ref b, .ref m, .ref a]) (fun i σ H' => L2.Same (upd H l (.lst [.ref b, .ref m, .ref a])) H' ∧ ∃ v : Option V, σ = [some (.ref x), some (.ref t), v]) ⟨L2.Same.refl _, none, rfl⟩ (fun i σ H' _ p => sql_of (p.1 _ _ upd_same)) ?_ ?_⟩
    · rintro i y σ H' hi ⟨s2, v, rfl⟩
      have h5 := h4.same (s1.trans s2)
      obtain ⟨r0, rr, rfl, hr0⟩ : ∃ (r0 : Addr) (rr : List Bool), y = .ref r0 ∧ Bt K H' r0 rr := by
        match i, hi with
        | 0, hi => exact ⟨b, _, (Option.some.inj hi).symm, h5.lo⟩
        | 1, hi => exact ⟨m, _, (Option.some.inj hi).symm, h5.mi⟩
        | 2, hi => exact ⟨a, _, (Option.some.inj hi).symm, h5.hi⟩
      refine ⟨_, rfl, _, _, _, _, _, rfl, .ty _, tyT hr0, kit_tt, _, rfl, iteF ?_⟩
      refine ⟨_, rfl, r0, rr, rfl, hr0, fun lo H3 s3 e3 => ⟨sz0, fun p hp => ⟨lo, p, [], rfl, rfl, ?_, sql_of upd_same, _, rfl, iteF ?_⟩⟩⟩
      · exact (same_new (o := .lst []) hp).seq e3
      · exact ⟨(s2.trans s3).trans (same_new hp), _, rfl⟩
    · rintro σ H' ⟨s2, v, rfl⟩
      have s12 := s1.trans s2
      refine ⟨_, rfl, x, g, rfl, hx.same s12, fun u H3 s3 e3 => ?_⟩
      refine ⟨_, rfl, t, d, rfl, ht.same (s12.trans s3), ok, l1, l2, l3, hT.ext (s12.trans s3), fun u2 e H4 r4 e4 f4 => ?_⟩
      have eq : g = e := hf.uniq f4
      refine ⟨u, u2, g, e, rfl, rfl, r4.told e3, e4, ?_⟩
      rw [decide_eq_true eq]
      exact q H4 (.trans (.of (s12.trans s3)) r4)
/-! ### _law_stretched -/
def spStretch (Tb : List (Addr × Str)) (K : PySem.W.Frag) : Sp := fun vs H Q _ => ∃ (p t : Addr) (most : Int) (d : KF.Desc) (n : Nat), vs = [.ref p, .ref t, .int most] ∧ 0 < most ∧ most ≤ 100 ∧ Told K H t d ∧ d.ok ∧ d.below.length ≤ 1000 ∧ d.middle.length ≤ 1000 ∧ d.above.length ≤ 1000 ∧ Tabs Tb H ∧ PenAt K H p n ∧ n < 100000000 ∧
  ∀ t' e H', Rl Tb true H H' → PenAt K H' p (n + 4) → Told K H' t' e → e.ok → (∀ n, KF.mem e n = KF.mem d n) → d.start - most ≤ e.start → e.start ≤ d.start → d.fin ≤ e.fin → e.fin ≤ d.fin + most → e.below.length ≤ 3 * d.below.length → e.above.length ≤ 3 * d.above.length → Q (.ref t') H'
theorem sc_L_stretched : FnScope ["_law_pen_here", "_law_told_here", "_law_most", "_law_start", "_law_end_here", "_law_low", "_law_high"] ["_law_pen_here", "_law_told_here", "_law_most"] (defScope s_L_stretched) := ⟨rfl, rfl, rfl, by decide +kernel, rfl, by decide +kernel, by decide +kernel⟩
theorem w_L_stretched {c Pt : Addr} (T : Tx K mg C) (h : HasL K mg "_law_stretched" s_L_stretched ["_law_pen_here", "_law_told_here", "_law_most"] c) (L : LamT Tb base mg (lq "_law_stretched") c Pt) (oP : Ok P w K mg base 1 "_law_draw" ["_law_pen_here", "_law_many"] (spDraw Tb K)) (oE : Ok P w K mg base 1 "_law_end" ["_law_told_here"] (spFin K))
    (oH : Ok P w K mg base 1 "_law_has" ["_law_told_here", "_law_n"] (spHas K)) (oD : Ok P w K mg base 3 "_law_described" ["_law_fun", "_law_start", "_law_low_step", "_law_end_here", "_law_high_step"] (spDesc P w K mg base)) : Ok P w K mg base 4 "_law_stretched" ["_law_pen_here", "_law_told_here", "_law_most"] (spStretch Tb K) := by
  refine h.ok sc_L_stretched (fun vs H Q E h => ?_) (fun f A outer s H vs Q E hr h => ?_)
  · obtain ⟨p, t, most, d, n, rfl, _⟩ := h; rfl
  · obtain ⟨p, t, most, d, n, rfl, m0, m1, ht, ok, l1, l2, l3, hT, hp, hn, q⟩ := h
    have nd := sc_L_stretched.nd
    have hr1 : Room 1 _ := hr.mono (by decide)
    refine ⟨_, pss_cons (ps_par (i := 3) (j := 4) rfl nd rfl rfl (by decide) rfl rfl (pa_cons (pe_op op_sub (pe_ix ix_tup (pv 1) pe_int (fun _ _ => rfl)) (pe_co oP hr1 rfl (pa_cons (pv 0) (pa_cons (pv 2) pa_nil)))) (pa_cons (pe_op op_add (pe_co oE hr1 rfl (pa_cons (pv 1) pa_nil)) (pe_co oP hr1 rfl (pa_cons (pv 0) (pa_cons (pv 2) pa_nil)))) pa_nil)) (by rfl))
      (pss_cons (ps_par (i := 5) (j := 6) rfl nd rfl rfl (by decide) rfl rfl (pa_cons (pe_op op_mul (pe_callB call_lenB (by rfl) T.len boot_len (pa_cons (pe_ix ix_tup (pv 1) pe_int (fun _ _ => rfl)) pa_nil)) (pe_op op_add pe_int (pe_co oP hr1 rfl (pa_cons (pv 0) (pa_cons pe_int pa_nil)))))
          (pa_cons (pe_op op_mul (pe_callB call_lenB (by rfl) T.len boot_len (pa_cons (pe_ix ix_tup (pv 1) pe_int (fun _ _ => rfl)) pa_nil)) (pe_op op_add pe_int (pe_co oP hr1 rfl (pa_cons (pv 0) (pa_cons pe_int pa_nil))))) pa_nil)) (by rfl))
      (pss_one (ps_ret (pe_callLam (fr := ["_law_told_here"]) (js := [1]) oD hr (fun _ => rfl) L rfl (by rfl) rfl rfl (pa_cons (pv 3) (pa_cons (pv 5) (pa_cons (pv 4) (pa_cons (pv 6) pa_nil)))))))), ?_⟩
    obtain ⟨b, m, a, x0, x1, x2, x3⟩ := id ht
    have pb := KF.len_pos ok.1
    have pa := KF.len_pos ok.2
    refine ⟨_, rfl, t, _, 0, _, rfl, rfl, x0, rfl, _, rfl, _, rfl, p, most, n, rfl, m0, by omega, hp, by omega, fun d1 H1 r1 p1 d10 d11 => ⟨_, _, rfl, rfl, ?_⟩⟩
    refine ⟨_, rfl, t, d, rfl, r1.told ht, _, rfl, _, rfl, p, most, n + 1, rfl, m0, by omega, p1, by omega, fun d2 H2 r2 p2 d20 d21 => ⟨_, _, rfl, rfl, _, _, rfl, ?_⟩⟩
    have r12 := r1.trans r2
    refine ⟨_, rfl, t, _, 1, _, rfl, rfl, r12.sqt x0, rfl, b, d.below, rfl, r12.bt x1, _, rfl, p, 3, n + 2, rfl, by decide, by decide, p2, by omega, fun d3 H3 r3 p3 d30 d31 => ⟨_, _, rfl, rfl, _, _, rfl, rfl, .inl ⟨by omega, by omega⟩, ?_⟩⟩
    have r13 := r12.trans r3
    refine ⟨_, rfl, t, _, 3, _, rfl, rfl, r13.sqt x0, rfl, a, d.above, rfl, r13.bt x3, _, rfl, p, 3, n + 3, rfl, by decide, by decide, p3, by omega, fun d4 H4 r4 p4 d40 d41 => ⟨_, _, rfl, rfl, _, _, rfl, rfl, .inl ⟨by omega, by omega⟩, _, _, rfl, ?_⟩⟩
    have r14 := r13.trans r4
    have ht4 := r14.told ht
    obtain ⟨i, rfl⟩ : ∃ i : Nat, d3 = (i : Int) := ⟨d3.toNat, by omega⟩
    obtain ⟨j, rfl⟩ : ∃ j : Nat, d4 = (j : Int) := ⟨d4.toNat, by omega⟩
    refine ⟨r14.tb hT, fun g c1 H7 eN nn T7 g0 g1 cc => ⟨_, rfl, _, rfl, _, rfl, _, rfl, fun H8 k1 k2 CV => ?_⟩⟩
    have at8 : ∀ a o, H7 a = some o → H8 a = some o := fun a o z => by
      rw [k1 a (fun hc => by rw [k2 a hc] at z; cases z)]; exact z
    have tt : Told K (hid _ H8) t d := extN_told (at_hid eN k1 k2) ht4
    have e1 : (d.below.length : Int) * (1 + (i : Int)) = ((d.below.length * (1 + i) : Nat) : Int) := by simp
    have e2 : (d.above.length : Int) * (1 + (j : Int)) = ((d.above.length * (1 + j) : Nat) : Int) := by simp
    have fe : d.fin = d.start + (d.middle.length : Int) := rfl
    have b1 : d.below.length * (1 + i) ≤ 3 * d.below.length := by rw [Nat.mul_comm]; exact Nat.mul_le_mul_right _ (by omega)
    have b2 : d.above.length * (1 + j) ≤ 3 * d.above.length := by rw [Nat.mul_comm]; exact Nat.mul_le_mul_right _ (by omega)
    have ef := KF.descr_fin (S := KF.mem d) (low := d.below.length * (1 + i)) (high := d.above.length * (1 + j)) (show d.start - d1 ≤ d.fin + d2 by omega)
    show spDesc P w K mg base [.ref g, .int (d.start - d1), .int ((d.below.length : Int) * (1 + (i : Int))), .int (d.fin + d2), .int ((d.above.length : Int) * (1 + (j : Int)))] H8 _ _
    rw [e1, e2]
    refine desc_fin (S := KF.mem d) eN nn T7 g1 k1 k2 CV ?_ (by omega) (by omega) (by omega) (fun t' H9 r' z => q t' _ H9 (r14.trans r'.up) (p4.rl r') z (KF.descr_ok (KF.mul_pos' pb (by omega)) (KF.mul_pos' pa (by omega))) (fun n => KF.stretch_mem ok (by omega) (by omega) (by omega) (by omega) n) (by show d.start - most ≤ d.start - d1; omega) (by show d.start - d1 ≤ d.start; omega) (by rw [ef]; omega) (by rw [ef]; omega)
      (by show (KF.rowOf _ _ _).length ≤ _; rw [KF.rowOf_len]; exact b1) (by show (KF.rowOf _ _ _).length ≤ _; rw [KF.rowOf_len]; exact b2))
    refine lam_calls (k := 1) (N := ["_law_n", "_law_told_here"]) (fr := ["_law_told_here"]) (x := "_law_n") (nscope_by (by rfl)) (fun _ _ _ _ => rfl) (at8 _ _ g1) (at8 _ _ cc) CV (fun A' outer' s' Hx n hr' sm => ⟨_, pe_co oH hr' rfl (pa_cons (pv 1) (pa_cons (pv 0) pa_nil)), ?_⟩)
    exact ⟨_, rfl, _, rfl, t, d, n, rfl, tt.same sm, ok, rfl, L2.Same.refl _⟩
end
end K14
set_option Elab.async false
set_option linter.all false
set_option maxRecDepth 100000
set_option maxHeartbeats 4000000
/-! The walks, fourteenth part: some set. -/
namespace K14
open PySem PySem.Spec PyProof.Rows L2 LamX NdefX
section
variable {P : Program} {w : World} {K : PySem.W.Frag} {mg : Str → Option Value} {base : Heap} {C : Addr} {Tb : List (Addr × Str)}
structure SomeD (d : KF.Desc) (i : Int) (most : Nat) : Prop where
  ok : d.ok
  lo : d.below.length ≤ most
  hi : d.above.length ≤ most
  s0 : i - 20 ≤ d.start
  s1 : d.start ≤ i
  f1 : d.fin ≤ i + 40
theorem SomeD.mk1 {i : Int} {most : Nat} {w m h : List Bool} (h1 : 1 ≤ w.length) (h2 : w.length ≤ most) (h3 : 1 ≤ h.length) (h4 : h.length ≤ most) (h5 : m.length ≤ 40) : SomeD ⟨i, w, m, h⟩ i most :=
  ⟨⟨KF.ne_nil_of h1, KF.ne_nil_of h3⟩, h2, h4, by show i - 20 ≤ i; omega, by show i ≤ i; omega, by show i + (m.length : Int) ≤ i + 40; omega⟩
def spSome (Tb : List (Addr × Str)) (K : PySem.W.Frag) : Sp := fun vs H Q _ => ∃ (p : Addr) (i : Int) (most n : Nat), vs = [.ref p, .int i, .int (most : Int)] ∧ 1 ≤ most ∧ most ≤ 8 ∧ Tabs Tb H ∧ PenAt K H p n ∧ n < 10000000 ∧
  ∀ t d H', Rl Tb true H H' → PenAt K H' p (n + 60) → Told K H' t d → SomeD d i most → Q (.ref t) H'
theorem sc_L_some_set : FnScope ["_law_pen_here", "_law_start", "_law_most", "_law_way", "_law_low", "_law_high", "_law_word", "_law_whole", "_law_first", "_law_last", "_law_row", "_law_at", "_law_sides"] ["_law_pen_here", "_law_start", "_law_most"] (defScope s_L_some_set) := ⟨rfl, rfl, rfl, by decide +kernel, rfl, by decide +kernel, by decide +kernel⟩
/-- a pair of rows -/
def Side (K : PySem.W.Frag) (H : Hp) (most : Nat) (v : V) : Prop := ∃ (t x y : Addr) (rx ry : List Bool), v = .ref t ∧ SqT K H t [.ref x, .ref y] ∧ Bt K H x rx ∧ Bt K H y ry ∧ 1 ≤ rx.length ∧ rx.length ≤ most ∧ 1 ≤ ry.length ∧ ry.length ≤ most
theorem Side.same {H H' : Hp} {most : Nat} {v : V} (h : Side K H most v) (s : L2.Same H H') : Side K H' most v := by
  obtain ⟨t, x, y, rx, ry, e, h1, h2, h3, h4⟩ := h
  exact ⟨t, x, y, rx, ry, e, sqt_same h1 s, h2.same s, h3.same s, h4⟩
theorem Side.rl {H H' : Hp} {most : Nat} {v : V} (h : Side K H most v) (s : Rl Tb true H H') : Side K H' most v := by
  obtain ⟨t, x, y, rx, ry, e, h1, h2, h3, h4⟩ := h
  exact ⟨t, x, y, rx, ry, e, s.sqt h1, s.bt h2, s.bt h3, h4⟩
theorem sz1 : 1 ≤ sizeLine := by decide
theorem rep3 (r : List Bool) : (List.replicate 3 (r.map V.bl)).flatten = ((List.replicate 3 r).flatten).map V.bl := by simp [List.replicate]
theorem w_L_some_set {c Pt : Addr} (T : Tx K mg C) (h : HasL K mg "_law_some_set" s_L_some_set ["_law_pen_here", "_law_start", "_law_most"] c) (L : LamT Tb base mg (lq "_law_some_set") c Pt) (oP : Ok P w K mg base 1 "_law_draw" ["_law_pen_here", "_law_many"] (spDraw Tb K)) (oK : Ok P w K mg base 2 "_law_pick" ["_law_pen_here", "_law_some"] (spPick Tb K))
    (oB : Ok P w K mg base 2 "_law_bits" ["_law_pen_here", "_law_many"] (spBits Tb K)) (oH : Ok P w K mg base 1 "_law_has" ["_law_told_here", "_law_n"] (spHas K)) (oD : Ok P w K mg base 3 "_law_described" ["_law_fun", "_law_start", "_law_low_step", "_law_end_here", "_law_high_step"] (spDesc P w K mg base)) :
    Ok P w K mg base 4 "_law_some_set" ["_law_pen_here", "_law_start", "_law_most"] (spSome Tb K) := by
  refine h.ok sc_L_some_set (fun vs H Q E h => ?_) (fun f A outer s H vs Q E hr h => ?_)
  · obtain ⟨p, i, most, n, rfl, _⟩ := h; rfl
  · obtain ⟨p, i, most, n, rfl, m0, m1, hT, hp, hn, q⟩ := h
    have nd := sc_L_some_set.nd
    have hr1 : Room 1 _ := hr.mono (by decide)
    have hr2 : Room 2 _ := hr.mono (by decide)
    refine ⟨_, pss_cons (ps_set (i := 3) nd rfl (Or.inl rfl) (pe_co oP hr1 rfl (pa_cons (pv 0) (pa_cons pe_int pa_nil))))
      (pss_cons (ps_par (i := 4) (j := 5) rfl nd rfl rfl (by decide) rfl rfl (pa_cons (pe_op op_add pe_int (pe_co oP hr1 rfl (pa_cons (pv 0) (pa_cons (pv 2) pa_nil)))) (pa_cons (pe_op op_add pe_int (pe_co oP hr1 rfl (pa_cons (pv 0) (pa_cons (pv 2) pa_nil)))) pa_nil)) (by rfl))
      (pss_cons (ps_set (i := 6) nd rfl (Or.inl rfl) (pe_co oB hr2 rfl (pa_cons (pv 0) (pa_cons (pv 4) pa_nil))))
      (pss_cons (ps_if (pt_cmpR op_eq (pv 3) pe_int (nomark _)) (pss_one (ps_ret (pe_tup (pa_cons (pv 1) (pa_cons (pv 6) (pa_cons (pe_co oB hr2 rfl (pa_cons (pv 0) (pa_cons (pe_co oP hr1 rfl (pa_cons (pv 0) (pa_cons pe_int pa_nil))) pa_nil))) (pa_cons (pe_co oB hr2 rfl (pa_cons (pv 0) (pa_cons (pv 5) pa_nil))) pa_nil))))))) pss_nil)
      (pss_cons (ps_if (pt_cmpR op_eq (pv 3) pe_int (nomark _))
          (pss_cons (ps_set (i := 7) nd rfl (Or.inr rfl) (pe_tup (pa_cons (pv 1) (pa_cons (pv 6) (pa_cons (pe_tup pa_nil) (pa_cons (pv 6) pa_nil))))))
          (pss_cons (ps_par (i := 8) (j := 9) rfl nd rfl rfl (by decide) rfl rfl (pa_cons (pe_op op_sub (pv 1) (pe_co oP hr1 rfl (pa_cons (pv 0) (pa_cons (pe_op op_mul pe_int (pv 2)) pa_nil)))) (pa_cons (pe_op op_add (pv 1) (pe_co oP hr1 rfl (pa_cons (pv 0) (pa_cons (pe_op op_mul pe_int (pv 2)) pa_nil)))) pa_nil)) (by rfl))
          (pss_one (ps_ret (pe_callLam (fr := ["_law_whole"]) (js := [7]) oD hr (fun _ => rfl) L rfl (by rfl) rfl rfl (pa_cons (pv 8) (pa_cons (pv 4) (pa_cons (pv 9) (pa_cons (pv 4) pa_nil))))))))) pss_nil)
      (pss_cons (ps_if (pt_cmpR op_eq (pv 3) pe_int (nomark _))
          (pss_cons (ps_set (i := 10) nd rfl (Or.inl rfl) (pe_callTy call_list_of (by rfl) T.lst boot_list (pa_cons (pe_op op_repA (pv 6) pe_int) pa_nil)))
          (pss_cons (ps_set (i := 11) nd rfl (Or.inl rfl) (pe_co oP hr1 rfl (pa_cons (pv 0) (pa_cons (pe_callB call_len_seq (by rfl) T.len boot_len (pa_cons (pv 10) pa_nil)) pa_nil))))
          (pss_cons (ps_asg (pe_not (pe_ix ix_list (pv 10) (pv 11) (fun _ _ => rfl))) (pg_sub (pv 10) (pv 11) set_list))
          (pss_one (ps_ret (pe_tup (pa_cons (pv 1) (pa_cons (pv 6) (pa_cons (pe_callTy call_tupRow (by rfl) T.tup boot_tuple (pa_cons (pv 10) pa_nil)) (pa_cons (pv 6) pa_nil)))))))))) pss_nil)
      (pss_cons (ps_if (pt_cmpR op_eq (pv 3) pe_int (nomark _))
          (pss_cons (ps_set (i := 12) nd rfl (Or.inl rfl) (pe_co oK hr2 rfl (pa_cons (pv 0) (pa_cons (pe_lst (pa_cons (pe_tup (pa_cons (pe_tup (pa_cons pe_bl pa_nil)) (pa_cons (pe_tup (pa_cons pe_bl pa_nil)) pa_nil))) (pa_cons (pe_tup (pa_cons (pv 6) (pa_cons (pe_tup (pa_cons pe_bl pa_nil)) pa_nil)))
              (pa_cons (pe_tup (pa_cons (pe_tup (pa_cons pe_bl pa_nil)) (pa_cons (pv 6) pa_nil))) (pa_cons (pe_tup (pa_cons (pe_tup (pa_cons pe_bl pa_nil)) (pa_cons (pe_tup (pa_cons pe_bl pa_nil)) pa_nil))) pa_nil))))) pa_nil))))
          (pss_one (ps_ret (pe_tup (pa_cons (pv 1) (pa_cons (pe_ix ix_tup (pv 12) pe_int (fun _ _ => rfl)) (pa_cons (pe_co oB hr2 rfl (pa_cons (pv 0) (pa_cons (pe_co oP hr1 rfl (pa_cons (pv 0) (pa_cons pe_int pa_nil))) pa_nil))) (pa_cons (pe_ix ix_tup (pv 12) pe_int (fun _ _ => rfl)) pa_nil)))))))) pss_nil)
      (pss_cons (ps_if (pt_cmpR op_eq (pv 3) pe_int (nomark _))
          (pss_cons (ps_set (i := 11) nd rfl (Or.inl rfl) (pe_co oP hr1 rfl (pa_cons (pv 0) (pa_cons (pv 4) pa_nil))))
          (pss_one (ps_ret (pe_tup (pa_cons (pv 1) (pa_cons (pv 6) (pa_cons (pe_co oB hr2 rfl (pa_cons (pv 0) (pa_cons (pe_co oP hr1 rfl (pa_cons (pv 0) (pa_cons pe_int pa_nil))) pa_nil))) (pa_cons (pe_op op_catB (pe_slice sl_row (pv 6) (po_some (pv 11)) po_none) (pe_slice sl_row (pv 6) po_none (po_some (pv 11)))) pa_nil)))))))) pss_nil)
      (pss_one (ps_ret (pe_tup (pa_cons (pv 1) (pa_cons (pv 6) (pa_cons (pe_co oB hr2 rfl (pa_cons (pv 0) (pa_cons (pe_op op_add pe_int (pe_co oP hr1 rfl (pa_cons (pv 0) (pa_cons pe_int pa_nil)))) pa_nil))) (pa_cons (pe_co oB hr2 rfl (pa_cons (pv 0) (pa_cons (pv 5) pa_nil))) pa_nil)))))))))))))), ?_⟩
    refine ⟨_, rfl, p, 6, n, rfl, by decide, by decide, hp, by omega, fun wy H1 r1 p1 w0 w1 => ?_⟩
    refine ⟨_, rfl, _, rfl, p, _, n + 1, rfl, by omega, by omega, p1, by omega, fun d2 H2 r2 p2 d20 d21 => ⟨_, _, rfl, rfl, ?_⟩⟩
    refine ⟨_, rfl, _, rfl, p, _, n + 1 + 1, rfl, by omega, by omega, p2, by omega, fun d3 H3 r3 p3 d30 d31 => ⟨_, _, rfl, rfl, _, _, rfl, ?_⟩⟩
    obtain ⟨lo, rfl⟩ : ∃ lo : Nat, d2 = (lo : Int) := ⟨d2.toNat, by omega⟩
    obtain ⟨hi, rfl⟩ : ∃ hi : Nat, d3 = (hi : Int) := ⟨d3.toNat, by omega⟩
    have r13 := (r1.trans r2).trans r3
    refine ⟨_, rfl, _, rfl, p, 1 + lo, n + 1 + 1 + 1, rfl, by omega, p3, by omega, fun wd W H4 wl bw r4 p4 => ?_⟩
    have r14 := r13.trans r4
    have p4 : PenAt K H4 p (n + 15) := p4.mono (by omega)
    have Wl : 1 ≤ W.length := by omega
    have Wm : W.length ≤ most := by omega
    have fin : ∀ (H' : Hp) (b m a t : Addr) (R M B : List Bool), Rl Tb true H H' → PenAt K H' p (n + 60) → Bt K H' b R → Bt K H' m M → Bt K H' a B → 1 ≤ R.length → R.length ≤ most → 1 ≤ B.length → B.length ≤ most → M.length ≤ 40 → H' t = none →
        Q (.ref t) (upd H' t (.tup [.int i, .ref b, .ref m, .ref a])) := fun H' b m a t R M B r' p' e1 e2 e3 g1 g2 g3 g4 g5 ht => by
      have s := same_new (o := .tup [.int i, .ref b, .ref m, .ref a]) ht
      exact q t ⟨i, R, M, B⟩ _ (r'.trans (.of s)) (p'.same s) ⟨b, m, a, sqt_of upd_same, e1.same s, e2.same s, e3.same s⟩ (SomeD.mk1 g1 g2 g3 g4 g5)
    refine ⟨_, rfl, rfl, _, rfl, bIf2 (fun z => ?_) (fun z0 => ?_)⟩
    · refine ⟨_, rfl, _, rfl, _, rfl, _, rfl, p, 12, _, rfl, by decide, by decide, p4, by omega, fun d5 H5 r5 p5 d50 d51 => ?_⟩
      obtain ⟨k5, rfl⟩ : ∃ k : Nat, d5 = (k : Int) := ⟨d5.toNat, by omega⟩
      refine ⟨p, k5, _, rfl, by omega, p5, by omega, fun b6 R6 H6 l6 e6 r6 p6 => ?_⟩
      refine ⟨_, rfl, _, rfl, p, 1 + hi, _, rfl, by omega, p6, by omega, fun b7 R7 H7 l7 e7 r7 p7 => ⟨sz4, fun t ht => ?_⟩⟩
      exact fin H7 wd b6 b7 t W R6 R7 (((r14.trans r5).trans r6).trans r7) (p7.mono (by omega)) (((r5.trans r6).trans r7).bt bw) (r7.bt e6) e7 Wl Wm (by omega) (by omega) (by omega) ht
    refine ⟨_, rfl, rfl, _, rfl, bIf2 (fun z => ?_) (fun z1 => ?_)⟩
    · refine ⟨_, rfl, _, rfl, sz0, fun p0 hp0 => ⟨_, rfl, sz4, fun tw htw => ?_⟩⟩
      have s5 : L2.Same H4 (upd H4 p0 (.tup [])) := same_new hp0
      have e5 : Bt K (upd H4 p0 (.tup [])) p0 [] := Bt.of upd_same
      generalize upd H4 p0 (.tup []) = H5 at s5 e5 htw
      have s6 : L2.Same H5 (upd H5 tw (.tup [.int i, .ref wd, .ref p0, .ref wd])) := same_new htw
      have tw6 : Told K (upd H5 tw (.tup [.int i, .ref wd, .ref p0, .ref wd])) tw ⟨i, W, [], W⟩ := ⟨wd, p0, wd, sqt_of upd_same, bw.same (s5.trans s6), e5.same s6, bw.same (s5.trans s6)⟩
      generalize upd H5 tw (.tup [.int i, .ref wd, .ref p0, .ref wd]) = H6 at s6 tw6
      have s56 := s5.trans s6
      have p6 := p4.same s56
      refine ⟨_, rfl, _, rfl, _, rfl, _, _, rfl, rfl, .inl ⟨by decide, by decide⟩, p, _, _, rfl, by omega, by omega, p6, by omega, fun d7 H7 r7 p7 d70 d71 => ⟨_, _, rfl, rfl, ?_⟩⟩
      refine ⟨_, rfl, _, rfl, _, rfl, _, _, rfl, rfl, .inl ⟨by decide, by decide⟩, p, _, _, rfl, by omega, by omega, p7, by omega, fun d8 H8 r8 p8 d80 d81 => ⟨_, _, rfl, rfl, _, _, rfl, ?_⟩⟩
      have r48 : Rl Tb true H H8 := ((r14.trans (.of s56)).trans r7).trans r8
      have tw8 := (r7.trans r8).told tw6
      have wok : (⟨i, W, [], W⟩ : KF.Desc).ok := ⟨KF.ne_nil_of Wl, KF.ne_nil_of Wl⟩
      refine ⟨r48.tb hT, fun g c1 H9 eN nn T9 g0 g1 cc => ⟨_, rfl, _, rfl, _, rfl, _, rfl, fun Hc k1 k2 CV => ?_⟩⟩
      have at8 : ∀ a o, H9 a = some o → Hc a = some o := fun a o z => by
        rw [k1 a (fun hc => by rw [k2 a hc] at z; cases z)]; exact z
      have tt : Told K (hid _ Hc) tw ⟨i, W, [], W⟩ := extN_told (at_hid eN k1 k2) tw8
      have ef := KF.descr_fin (S := KF.mem ⟨i, W, [], W⟩) (low := 1 + lo) (high := 1 + lo) (show i - d7 ≤ i + d8 by omega)
      refine desc_fin (S := KF.mem ⟨i, W, [], W⟩) (start := i - d7) (fin := i + d8) (low := 1 + lo) (high := 1 + lo) eN nn T9 g1 k1 k2 CV ?_ (by omega) (by omega) (by omega) (fun t' Hd r' z => q t' _ Hd (r48.trans r'.up) ((p8.rl r').mono (by omega)) z
        ⟨KF.descr_ok (by omega) (by omega), by show (KF.rowOf _ _ _).length ≤ _; rw [KF.rowOf_len]; omega, by show (KF.rowOf _ _ _).length ≤ _; rw [KF.rowOf_len]; omega, by show i - 20 ≤ i - d7; omega, by show i - d7 ≤ i; omega, by rw [ef]; omega⟩)
      refine lam_calls (k := 1) (N := ["_law_n", "_law_whole"]) (fr := ["_law_whole"]) (x := "_law_n") (nscope_by (by rfl)) (fun _ _ _ _ => rfl) (at8 _ _ g1) (at8 _ _ cc) CV (fun A' outer' s' Hx n hr' sm => ⟨_, pe_co oH hr' rfl (pa_cons (pv 1) (pa_cons (pv 0) pa_nil)), ?_⟩)
      exact ⟨_, rfl, _, rfl, tw, _, n, rfl, tt.same sm, wok, rfl, L2.Same.refl _⟩
    refine ⟨_, rfl, rfl, _, rfl, bIf2 (fun z => ?_) (fun z2 => ?_)⟩
    · refine ⟨_, rfl, wd, 3, _, rfl, rfl, bw, (fun k => by rw [List.map_eq_nil_iff] at k; rw [k] at Wl; simp at Wl), by decide, by decide, by rw [List.length_map]; omega, fun k => absurd k (by decide), fun _ r3 hr3 => ?_⟩
      have s5 : L2.Same H4 (upd H4 r3 (.tup (List.replicate (3 : Int).toNat (W.map V.bl)).flatten)) := same_new hr3
      have e5 : Bt K (upd H4 r3 (.tup (List.replicate (3 : Int).toNat (W.map V.bl)).flatten)) r3 (List.replicate 3 W).flatten := Bt.of (by rw [upd_same]; exact congrArg (fun l => some (HO.tup l)) (rep3 W))
      generalize upd H4 r3 (.tup (List.replicate (3 : Int).toNat (W.map V.bl)).flatten) = H5 at s5 e5
      have rl3 : (List.replicate 3 W).flatten.length = 3 * W.length := by simp [List.replicate]; omega
      generalize (List.replicate 3 W).flatten = W3 at e5 rl3
      refine ⟨r3, _, rfl, .inr e5, fun l hl => ?_⟩
      have s6 : L2.Same H5 (upd H5 l (.lst (W3.map V.bl))) := same_new hl
      have e6 : (upd H5 l (.lst (W3.map V.bl))) l = some (.lst (W3.map V.bl)) := upd_same
      generalize upd H5 l (.lst (W3.map V.bl)) = H6 at s6 e6
      have s56 := s5.trans s6
      have p6 := p4.same s56
      refine ⟨_, rfl, _, rfl, l, _, rfl, .inl (sql_of e6), p, _, _, rfl, by rw [List.length_map]; omega, by rw [List.length_map]; omega, p6, by omega, fun d7 H7 r7 p7 d70 d71 => ?_⟩
      rw [List.length_map] at d71
      have e7 : H7 l = some (.lst (W3.map V.bl)) := r7.ext _ _ e6 (fun _ z => by cases z) (fun _ _ z => by cases z)
      have r67 : Rl Tb true H H7 := (r14.trans (.of s56)).trans r7
      have l0 : H l = none := (r14.trans (.of s5)).no l hl
      refine ⟨_, rfl, _, rfl, l, _, _, _, rfl, rfl, sql_of e7, atI_row d70 d71, _, rfl, ?_⟩
      have eix : ixN (W3.map V.bl).length d7 = some d7.toNat := by
        unfold ixN
        rw [List.length_map, if_pos d70, if_pos d71]
      refine ⟨_, rfl, _, rfl, l, _, _, _, rfl, rfl, e7, eix, ?_⟩
      have p8 := hp.later r67 l0 p7 (o := .lst ((W3.map V.bl).set d7.toNat (.bl (!W3.getD d7.toNat false)))) (by intro _ z; rw [e7] at z; cases z)
      have r8 := r67.upd_new (o := .lst ((W3.map V.bl).set d7.toNat (.bl (!W3.getD d7.toNat false)))) l0 ⟨_, e7, fun _ z => by cases z⟩ ⟨_, e7, fun _ z => by unfold CodeO at z; cases z⟩
      have b8 : Bt K (upd H7 l (.lst ((W3.map V.bl).set d7.toNat (.bl (!W3.getD d7.toNat false))))) wd W := by
        have b7 : Bt K H7 wd W := r7.bt (bw.same s56)
        rcases b7 with (z | ⟨o, z⟩) | z
        · exact .inl (.inl (by rw [upd_ne (ne_of z e7 (by intro k; cases k))]; exact z))
        · exact .inl (.inr ⟨o, by rw [upd_ne (ne_of z e7 (by intro k; cases k))]; exact z⟩)
        · exact .inr z
      have e8 : (upd H7 l (.lst ((W3.map V.bl).set d7.toNat (.bl (!W3.getD d7.toNat false))))) l = some (.lst ((W3.set d7.toNat (!W3.getD d7.toNat false)).map V.bl)) := by rw [upd_same, List.map_set]
      generalize upd H7 l (.lst ((W3.map V.bl).set d7.toNat (.bl (!W3.getD d7.toNat false)))) = H8 at p8 r8 b8 e8
      refine ⟨_, rfl, _, rfl, _, rfl, l, _, rfl, .inr (sql_of e8), fun b9 H9 s9 e9 => ⟨_, rfl, sz4, fun t ht => ?_⟩⟩
      exact fin H9 wd b9 wd t W _ W (r8.trans (.of s9)) ((p8.same s9).mono (by omega)) (b8.same s9) e9 (b8.same s9) Wl Wm Wl Wm (by rw [List.length_set]; omega) ht
    refine ⟨_, rfl, rfl, _, rfl, bIf2 (fun z => ?_) (fun z3 => ?_)⟩
    · have nt : ∀ {G : Hp} {a : Addr} {xs : List V}, G a = none → ∃ G2, upd G a (.tup xs) = G2 ∧ L2.Same G G2 ∧ SqT K G2 a xs := fun {G a xs} hz => ⟨_, rfl, same_new hz, sqt_of upd_same⟩
      refine ⟨_, rfl, ⟨sz1, fun a1 g1 => ?_⟩⟩
      obtain ⟨G1, q1, s1, e1⟩ := nt (xs := [.bl false]) g1
      rw [q1]
      refine ⟨sz1, fun a2 g2 => ?_⟩
      obtain ⟨G2, q2, s2, e2⟩ := nt (xs := [.bl false]) g2
      rw [q2]
      refine ⟨sz2, fun t1 g3 => ?_⟩
      obtain ⟨G3, q3, s3, e3⟩ := nt (xs := [.ref a1, .ref a2]) g3
      rw [q3]
      have F1 : Side K G3 most (.ref t1) := ⟨t1, a1, a2, [false], [false], rfl, e3, sqt_same e1 (s2.trans s3), sqt_same e2 s3, Nat.le_refl _, m0, Nat.le_refl _, m0⟩
      have s13 := (s1.trans s2).trans s3
      refine ⟨_, rfl, sz1, fun a3 g4 => ?_⟩
      obtain ⟨G4, q4, s4, e4⟩ := nt (xs := [.bl false]) g4
      rw [q4]
      refine ⟨sz2, fun t2 g5 => ?_⟩
      obtain ⟨G5, q5, s5, e5⟩ := nt (xs := [.ref wd, .ref a3]) g5
      rw [q5]
      have s35 := s4.trans s5
      have F2 : Side K G5 most (.ref t2) := ⟨t2, wd, a3, W, [false], rfl, e5, bw.same (s13.trans s35), sqt_same e4 s5, Wl, Wm, Nat.le_refl _, m0⟩
      refine ⟨sz1, fun a4 g6 => ?_⟩
      obtain ⟨G6, q6, s6, e6⟩ := nt (xs := [.bl false]) g6
      rw [q6]
      refine ⟨_, rfl, sz2, fun t3 g7 => ?_⟩
      obtain ⟨G7, q7, s7, e7⟩ := nt (xs := [.ref a4, .ref wd]) g7
      rw [q7]
      have s57 := s6.trans s7
      have s17 := (s13.trans s35).trans s57
      have F3 : Side K G7 most (.ref t3) := ⟨t3, a4, wd, [false], W, rfl, e7, sqt_same e6 s7, bw.same s17, Nat.le_refl _, m0, Wl, Wm⟩
      refine ⟨sz1, fun a5 g8 => ?_⟩
      obtain ⟨G8, q8, s8, e8⟩ := nt (xs := [.bl true]) g8
      rw [q8]
      refine ⟨sz1, fun a6 g9 => ?_⟩
      obtain ⟨G9, q9, s9, e9⟩ := nt (xs := [.bl false]) g9
      rw [q9]
      refine ⟨sz2, fun t4 ga => ?_⟩
      obtain ⟨Ga, qa, sa, ea⟩ := nt (xs := [.ref a5, .ref a6]) ga
      rw [qa]
      have s7a := (s8.trans s9).trans sa
      have F4 : Side K Ga most (.ref t4) := ⟨t4, a5, a6, [true], [false], rfl, ea, sqt_same e8 (s9.trans sa), sqt_same e9 sa, Nat.le_refl _, m0, Nat.le_refl _, m0⟩
      refine ⟨sz4, fun l hl => ?_⟩
      have sl := same_new (o := .lst [V.ref t1, .ref t2, .ref t3, .ref t4]) hl
      have s1l := (s17.trans s7a).trans sl
      refine ⟨p, l, _, _, rfl, sql_of upd_same, by simp, (by show 4 < 1000000; decide), p4.same s1l, by omega, fun ix v Hb hi rb pb => ?_⟩
      have FS : Side K Hb most v := by
        match ix, hi with
        | 0, hi => rw [← Option.some.inj hi]; exact (F1.same (((s35.trans s57).trans s7a).trans sl)).rl rb
        | 1, hi => rw [← Option.some.inj hi]; exact (F2.same ((s57.trans s7a).trans sl)).rl rb
        | 2, hi => rw [← Option.some.inj hi]; exact (F3.same (s7a.trans sl)).rl rb
        | 3, hi => rw [← Option.some.inj hi]; exact (F4.same sl).rl rb
      obtain ⟨ts, x, y, rx, ry, rfl, f0, f1, f2, x1, x2, y1, y2⟩ := FS
      refine ⟨_, rfl, _, rfl, ts, _, 0, _, rfl, rfl, f0, rfl, ?_⟩
      refine ⟨_, rfl, _, rfl, p, 9, _, rfl, by decide, by decide, pb, by omega, fun d5 H5 r5 p5 d50 d51 => ?_⟩
      obtain ⟨k5, rfl⟩ : ∃ k : Nat, d5 = (k : Int) := ⟨d5.toNat, by omega⟩
      refine ⟨p, k5, _, rfl, by omega, p5, by omega, fun b6 R6 H6 l6 e6 r6 p6 => ?_⟩
      have r56 := r5.trans r6
      refine ⟨_, rfl, ts, _, 1, _, rfl, rfl, r56.sqt f0, rfl, sz4, fun t ht => ?_⟩
      exact fin H6 x b6 y t rx R6 ry (((r14.trans (.of s1l)).trans rb).trans r56) (p6.mono (by omega)) (r56.bt f1) e6 (r56.bt f2) x1 x2 y1 y2 (by omega) ht
    refine ⟨_, rfl, rfl, _, rfl, bIf2 (fun z => ?_) (fun z4 => ?_)⟩
    · refine ⟨_, rfl, _, rfl, p, _, _, rfl, by omega, by omega, p4, by omega, fun d5 H5 r5 p5 d50 d51 => ?_⟩
      refine ⟨_, rfl, _, rfl, _, rfl, _, rfl, p, 4, _, rfl, by decide, by decide, p5, by omega, fun d6 H6 r6 p6 d60 d61 => ?_⟩
      obtain ⟨k6, rfl⟩ : ∃ k : Nat, d6 = (k : Int) := ⟨d6.toNat, by omega⟩
      refine ⟨p, k6, _, rfl, by omega, p6, by omega, fun b7 R7 H7 l7 e7 r7 p7 => ?_⟩
      have r57 := (r5.trans r6).trans r7
      refine ⟨_, rfl, _, rfl, _, rfl, _, _, rfl, r57.bt bw, fun b8 H8 s8 e8 => ⟨_, rfl, _, rfl, _, rfl, _, _, rfl, (r57.bt bw).same s8, fun b9 H9 s9 e9 => ?_⟩⟩
      rw [cutB_from _ d50] at e8
      rw [cutB_to _ d50] at e9
      have ll : (W.drop d5.toNat ++ W.take d5.toNat).length = W.length := by rw [List.length_append, List.length_drop, List.length_take]; omega
      refine ⟨_, _, _, _, rfl, rfl, e8.same s9, e9, by rw [← List.length_append, ll]; omega, fun bA HA sA eA => ⟨sz4, fun t ht => ?_⟩⟩
      have s8A := (s8.trans s9).trans sA
      exact fin HA wd b7 bA t W R7 _ ((r14.trans r57).trans (.of s8A)) ((p7.same s8A).mono (by omega)) ((r57.bt bw).same s8A) (e7.same s8A) eA Wl Wm (by rw [ll]; exact Wl) (by rw [ll]; exact Wm) (by omega) ht
    · refine ⟨_, rfl, _, rfl, _, rfl, _, rfl, p, 5, _, rfl, by decide, by decide, p4, by omega, fun d5 H5 r5 p5 d50 d51 => ⟨_, _, rfl, rfl, ?_⟩⟩
      obtain ⟨k5, rfl⟩ : ∃ k : Nat, d5 = (k : Int) := ⟨d5.toNat, by omega⟩
      refine ⟨p, 1 + k5, _, rfl, by omega, p5, by omega, fun b6 R6 H6 l6 e6 r6 p6 => ?_⟩
      refine ⟨_, rfl, _, rfl, p, 1 + hi, _, rfl, by omega, p6, by omega, fun b7 R7 H7 l7 e7 r7 p7 => ⟨sz4, fun t ht => ?_⟩⟩
      exact fin H7 wd b6 b7 t W R6 R7 (((r14.trans r5).trans r6).trans r7) (p7.mono (by omega)) (((r5.trans r6).trans r7).bt bw) (r7.bt e6) e7 Wl Wm (by omega) (by omega) (by omega) ht
end
end K14
set_option Elab.async false
set_option linter.all false
set_option maxRecDepth 100000
set_option maxHeartbeats 4000000
/-! The walks, fifteenth part: made set, is like. -/
namespace K14
open PySem PySem.Spec PyProof.Rows L2 LamX NdefX
section
variable {P : Program} {w : World} {K : PySem.W.Frag} {mg : Str → Option Value} {base : Heap} {C : Addr} {Tb : List (Addr × Str)}
/-! ### _law_made_set -/
def spMade (Tb : List (Addr × Str)) (K : PySem.W.Frag) (C : Addr) : Sp := fun vs H Q _ => ∃ (p t : Addr) (d : KF.Desc) (n : Nat), vs = [.ref p, .ref t] ∧ Told K H t d ∧ d.ok ∧ d.below.length ≤ 1000 ∧ d.middle.length ≤ 1000 ∧ d.above.length ≤ 1000 ∧ Tabs Tb H ∧ PenAt K H p n ∧ n < 10000000 ∧
  ∀ x f H', Rl Tb true H H' → PenAt K H' p (n + 10) → RAt K C H' x f → KF.IsForm (KF.mem d) f → Q (.ref x) H'
theorem sc_L_made_set : FnScope ["_law_pen_here", "_law_told_here"] ["_law_pen_here", "_law_told_here"] (defScope s_L_made_set) := ⟨rfl, rfl, rfl, by decide +kernel, rfl, by decide +kernel, by decide +kernel⟩
theorem w_L_made_set (T : Tx K mg C) (h : Has K mg "_law_made_set" s_L_made_set ["_law_pen_here", "_law_told_here"]) (oP : Ok P w K mg base 1 "_law_draw" ["_law_pen_here", "_law_many"] (spDraw Tb K)) (oS : Ok P w K mg base 4 "_law_stretched" ["_law_pen_here", "_law_told_here", "_law_most"] (spStretch Tb K))
    (oL : Ok P w K mg base 3 "_law_listed" ["_law_pen_here", "_law_row"] (spListed Tb K)) (oI : OkM P w K mg base 4 C "__init__" ["self", "start", "below", "middle", "above"] (spInit K C)) : Ok P w K mg base 6 "_law_made_set" ["_law_pen_here", "_law_told_here"] (spMade Tb K C) := by
  refine h.ok sc_L_made_set (fun vs H Q E h => ?_) (fun f cdv A outer s H vs Q E hr h => ?_)
  · obtain ⟨p, t, d, n, rfl, _⟩ := h; rfl
  · obtain ⟨p, t, d, n, rfl, ht, ok, l1, l2, l3, hT, hp, hn, q⟩ := h
    have nd := sc_L_made_set.nd
    have hr1 : Room 1 _ := hr.mono (by decide)
    have hr3 : Room 3 _ := hr.mono (by decide)
    have hr4 : Room 4 _ := hr.mono (by decide)
    refine ⟨_, pss_cons (ps_set (i := 1) nd rfl (Or.inl rfl) (pe_ifExp (pt_cmpR op_eq (pe_co oP hr1 rfl (pa_cons (pv 0) (pa_cons pe_int pa_nil))) pe_int (nomark _)) (pe_co oS hr4 rfl (pa_cons (pv 0) (pa_cons (pv 1) (pa_cons pe_int pa_nil)))) (pv 1)))
      (pss_one (ps_ret (pe_new T oI hr rfl (pa_cons (pe_ix ix_tup (pv 1) pe_int (fun _ _ => rfl)) (pa_cons (pe_co oL hr3 rfl (pa_cons (pv 0) (pa_cons (pe_ix ix_tup (pv 1) pe_int (fun _ _ => rfl)) pa_nil))) (pa_cons (pe_co oL hr3 rfl (pa_cons (pv 0) (pa_cons (pe_ix ix_tup (pv 1) pe_int (fun _ _ => rfl)) pa_nil))) (pa_cons (pe_co oL hr3 rfl (pa_cons (pv 0) (pa_cons (pe_ix ix_tup (pv 1) pe_int (fun _ _ => rfl)) pa_nil))) pa_nil))))))), ?_⟩
    have rest : ∀ (H2 : Hp) (t2 : Addr) (e : KF.Desc), Rl Tb true H H2 → PenAt K H2 p (n + 5) → Told K H2 t2 e → e.ok → (∀ k, KF.mem e k = KF.mem d k) → e.below.length ≤ 3000 → e.middle.length ≤ 3000 → e.above.length ≤ 3000 →
        tRet (tNew K C (tCons (tOp (rIxT K) (tVar 1) (tC (.int 0))) (tCons (tCall (spListed Tb K) [] E0 (tCons (tVar 0) (tCons (tOp (rIxT K) (tVar 1) (tC (.int 1))) tNil))) (tCons (tCall (spListed Tb K) [] E0 (tCons (tVar 0) (tCons (tOp (rIxT K) (tVar 1) (tC (.int 2))) tNil))) (tCons (tCall (spListed Tb K) [] E0 (tCons (tVar 0) (tCons (tOp (rIxT K) (tVar 1) (tC (.int 3))) tNil))) tNil)))))
          { nx := fun _ H' => Q .non H', rt := Q } [some (.ref p), some (.ref t2)] H2 := fun H2 t2 e r2 p2 ht2 ok2 me k1 k2 k3 => by
      obtain ⟨b, m, a, x0, x1, x2, x3⟩ := ht2
      refine ⟨_, rfl, t2, _, 0, _, rfl, rfl, x0, rfl, ?_⟩
      refine ⟨_, rfl, _, rfl, t2, _, 1, _, rfl, rfl, x0, rfl, p, b, _, _, rfl, x1, p2, by omega, fun b3 H3 e3 r3 p3 => ?_⟩
      refine ⟨_, rfl, _, rfl, t2, _, 2, _, rfl, rfl, r3.sqt x0, rfl, p, m, _, _, rfl, r3.bt x2, p3, by omega, fun b4 H4 e4 r4 p4 => ?_⟩
      have r34 := r3.trans r4
      refine ⟨_, rfl, _, rfl, t2, _, 3, _, rfl, rfl, r34.sqt x0, rfl, p, a, _, _, rfl, r34.bt x3, p4, by omega, fun b5 H5 e5 r5 p5 => ?_⟩
      refine ⟨b3, b4, b5, e, rfl, (r4.trans r5).row e3, r5.row e4, e5, ok2, by omega, by omega, by omega, fun x f H6 s6 hx hf => ?_⟩
      exact q x f H6 ((r2.trans (r34.trans r5)).trans (.of s6)) ((p5.same s6).mono (by omega)) hx (hf.congr me)
    refine ⟨_, rfl, p, 2, n, rfl, by decide, by decide, hp, by omega, fun d1 H1 r1 p1 d10 d11 => ⟨rfl, _, rfl, bIf2 (fun z => ?_) (fun z => ?_)⟩⟩
    · refine ⟨_, rfl, _, rfl, p, t, 5, d, n + 1, rfl, by decide, by decide, r1.told ht, ok, l1, l2, l3, r1.tb hT, p1, by omega, fun t2 e H2 r2 p2 ht2 ok2 me s0 s1 f0 f1 g1 g2 => ?_⟩
      have fe : e.fin = e.start + (e.middle.length : Int) := rfl
      have fd : d.fin = d.start + (d.middle.length : Int) := rfl
      exact rest H2 t2 e (r1.trans r2) p2 ht2 ok2 me (by omega) (by omega) (by omega)
    · exact ⟨_, rfl, rest H1 t d r1 (p1.mono (by omega)) (r1.told ht) ok (fun _ => rfl) (by omega) (by omega) (by omega)⟩
/-! ### _law_is_like -/
def spLike (Tb : List (Addr × Str)) (K : PySem.W.Frag) (C : Addr) : Sp := fun vs H Q _ => ∃ (x t p : Addr) (f d : KF.Desc) (n : Nat), vs = [.ref x, .ref t, .ref p] ∧ RAt K C H x f ∧ Told K H t d ∧ KF.IsForm (KF.mem d) f ∧ d.ok ∧ d.below.length ≤ 10000 ∧ d.middle.length ≤ 10000 ∧ d.above.length ≤ 10000 ∧ Tabs Tb H ∧ PenAt K H p n ∧ n < 10000000 ∧
  ∀ H', Rl Tb true H H' → PenAt K H' p (n + 48) → Q (.bl true) H'
theorem sc_L_is_like : FnScope ["_law_one", "_law_told_here", "_law_pen_here", "_law_k", "_law_n"] ["_law_one", "_law_told_here", "_law_pen_here"] (defScope s_L_is_like) := ⟨rfl, rfl, rfl, by decide +kernel, rfl, by decide +kernel, by decide +kernel⟩
theorem w_L_is_like (T : Tx K mg C) (h : Has K mg "_law_is_like" s_L_is_like ["_law_one", "_law_told_here", "_law_pen_here"]) (o1 : Ok P w K mg base 5 "_law_is_one_form" ["_law_one", "_law_told_here"] (spOne Tb K C)) (oF : Ok P w K mg base 3 "_law_far" ["_law_pen_here"] (spFar Tb K))
    (oC : OkM P w K mg base 3 C "__contains__" ["self", "n"] (spCont K C)) (oH : Ok P w K mg base 1 "_law_has" ["_law_told_here", "_law_n"] (spHas K)) : Ok P w K mg base 6 "_law_is_like" ["_law_one", "_law_told_here", "_law_pen_here"] (spLike Tb K C) := by
  refine h.ok sc_L_is_like (fun vs H Q E h => ?_) (fun f cdv A outer s H vs Q E hr h => ?_)
  · obtain ⟨x, t, p, f, d, n, rfl, _⟩ := h; rfl
  · obtain ⟨x, t, p, g, d, n, rfl, hx, ht, hf, ok, l1, l2, l3, hT, hp, hn, q⟩ := h
    have nd := sc_L_is_like.nd
    have hu := hu64 hr
    have hr1 : Room 1 _ := hr.mono (by decide)
    have hr3 : Room 3 _ := hr.mono (by decide)
    refine ⟨_, pss_cons (ps_if (PW.pt (pw_or (pt_not (pt_val (pe_callB call_isi (by rfl) T.isi boot_isi (pa_cons (pv 0) (pa_cons (pe_glob (v := .ref C) rfl T.gC rfl) pa_nil))))) (pw_or1 (pt_not (pt_val (pe_co o1 hr rfl (pa_cons (pv 0) (pa_cons (pv 1) pa_nil)))))))) (pss_one (ps_ret pe_bl)) pss_nil)
      (pss_one (ps_ret (pe_cmpR (op_eqNil hu) (pe_lc (own := [("_law_n", 4)]) (g := gName 4) (te := tVar 4) rfl nd
          (pi_list (pe_lc (own := [("_law_k", 3)]) (g := gName 3) (tt := tYes) rfl nd (pi_range1 rfl T.rng (pa_cons pe_int pa_nil)) (blkOk_by (by rfl)) (fun _ _ _ _ _ => pg_name (i := 3) nd rfl (Or.inl rfl)) (fun _ _ _ _ _ => pts_nil) (fun _ _ _ _ _ => pe_co oF hr3 rfl (pa_cons (pv 2) pa_nil))))
          (blkOk_by (by rfl)) (fun _ _ _ _ _ => pg_name (i := 4) nd rfl (Or.inl rfl))
          (fun _ _ _ _ _ => pts_one (pt_cmpR op_ne (pe_cmpR (op_moIn oC hr3) (pv 4) (pv 0) rfl) (pe_co oH hr1 rfl (pa_cons (pv 1) (pa_cons (pv 4) pa_nil))) (nomark _))) (fun _ _ _ _ _ => pv 4)) (pe_lst pa_nil) (nomark _)))), ?_⟩
    obtain ⟨dx, b, m, a, h1, h4⟩ := hx.ex
    refine ⟨_, rfl, _, _, _, _, _, rfl, .own C, tyR T h1, T.kRR, _, rfl, iteF ?_⟩
    refine ⟨_, rfl, _, rfl, x, t, g, d, rfl, hx, ht, hf, ok, l1, l2, l3, hT, fun H1 r1 => ⟨_, rfl, iteF ?_⟩⟩
    have p1 := hp.rl r1
    have hx1 := r1.rat hx
    have ht1 := r1.told ht
    refine ⟨4, rfl, by decide, by decide, fun D hD => ?_⟩
    show ∃ W : Nat → Nat → Hp → Prop, _
    refine lc_range (lo := 0) (n := 4) (fun i H' => Rl Tb true H1 H' ∧ PenAt K H' p (n + 12 * i) ∧ ∃ ns : List Int, ns.length = i ∧ H' D = some (.lst (ns.map V.int))) ⟨.of (same_new hD), p1.same (same_new hD), [], rfl, upd_same⟩ (fun i H' hi z => ?_) fun H' z => ?_
    · obtain ⟨r', p', ns, rl, e⟩ := z
      refine ⟨rfl, ⟨_, rfl, p, _, rfl, p', by omega, fun k H5 r5 p5 => ?_⟩⟩
      have e5 := r5.ext _ _ e (fun _ z => by cases z) (fun _ _ z => by cases z)
      exact ⟨_, e5, by rw [List.length_map]; exact small_row (by omega), (r'.trans r5).upd_new hD ⟨_, e5, fun _ z => by cases z⟩ ⟨_, e5, fun _ z => by unfold CodeO at z; cases z⟩, p1.later (r'.trans r5) hD p5 (by intro _ z; rw [e5] at z; cases z), ns ++ [k], by simp [rl], by rw [upd_same, List.map_append]; rfl⟩
    · obtain ⟨r', p', ns, rl, e⟩ := z
      refine ⟨D, rfl, ⟨_, sql_of e⟩, fun D2 hD2 => lc_list (xs := ns.map V.int) (fun i H2 => L2.Same H' H2 ∧ H2 D2 = some (.lst [])) ⟨same_new hD2, upd_same⟩ (fun i H2 _ z => z.1.seq (sql_of e)) (fun i y H2 hy z => ?_) fun H2 z => ?_⟩
      · obtain ⟨s2, e2⟩ := z
        rw [List.getElem?_map] at hy
        cases en : ns[i]? with
        | none => rw [en] at hy; cases hy
        | some k =>
          rw [en] at hy
          obtain rfl : V.int k = y := Option.some.inj hy
          have r12 := r'.trans (Rl.of s2)
          have hx2 := r12.rat hx1
          obtain ⟨dx2, b2, m2, a2, h12, h42⟩ := hx2.ex
          refine ⟨rfl, ⟨_, rfl, _, rfl, x, dx2, _, rfl, h12, x, g, k, rfl, hx2, _, rfl, ?_⟩⟩
          refine ⟨_, rfl, _, rfl, t, d, k, rfl, r12.told ht1, ok, rfl, _, rfl, iteG ?_ ⟨s2, e2⟩⟩
          rw [hf.mem k]
          simp
      · obtain ⟨s2, e2⟩ := z
        refine ⟨sz0, fun pl hpl => ⟨D2, pl, [], rfl, rfl, sql_of (same_new hpl _ _ e2), sql_of upd_same, ?_⟩⟩
        have s3 := same_new (o := .lst []) hpl
        exact q _ ((r1.up.trans r').trans (.of (s2.trans s3))) ((p'.same (s2.trans s3)).mono (by omega))
end
end K14
set_option Elab.async false
set_option linter.all false
set_option maxRecDepth 100000
set_option maxHeartbeats 4000000
/-! The walks, sixteenth part: all signs. -/
namespace K14
open PySem PySem.Spec PyProof.Rows L2 LamX NdefX
/-- two told sets near one another -/
structure Pair (d e : KF.Desc) : Prop where
  ok1 : d.ok
  ok2 : e.ok
  lo : d.below.length * e.below.length ≤ 1000
  hi : d.above.length * e.above.length ≤ 1000
  m1 : d.middle.length ≤ 500
  m2 : e.middle.length ≤ 500
  mi : max d.fin e.fin - min d.start e.start ≤ 1000
theorem Pair.lens {d e : KF.Desc} (h : Pair d e) : d.below.length ≤ 1000 ∧ e.below.length ≤ 1000 ∧ d.above.length ≤ 1000 ∧ e.above.length ≤ 1000 := by
  have p1 := KF.len_pos h.ok1.1
  have p2 := KF.len_pos h.ok1.2
  have p3 := KF.len_pos h.ok2.1
  have p4 := KF.len_pos h.ok2.2
  exact ⟨Nat.le_trans (Nat.le_mul_of_pos_right _ p3) h.lo, Nat.le_trans (Nat.le_mul_of_pos_left _ p1) h.lo, Nat.le_trans (Nat.le_mul_of_pos_right _ p4) h.hi, Nat.le_trans (Nat.le_mul_of_pos_left _ p2) h.hi⟩
theorem Pair.jfits {d e : KF.Desc} (h : Pair d e) : JFits d e := ⟨by have := h.lo; omega, by have := h.hi; omega, by have := h.mi; omega⟩
theorem Pair.join {d e : KF.Desc} (h : Pair d e) (g : KF.Tab) : (KF.joinD g d e).below.length ≤ 1000 ∧ (KF.joinD g d e).middle.length ≤ 1000 ∧ (KF.joinD g d e).above.length ≤ 1000 := by
  have := h.mi
  refine ⟨?_, ?_, ?_⟩
  · show (KF.rowOf _ _ _).length ≤ _
    rw [KF.rowOf_len]; exact h.lo
  · show (KF.rowOf _ _ _).length ≤ _
    rw [KF.rowOf_len]; omega
  · show (KF.rowOf _ _ _).length ≤ _
    rw [KF.rowOf_len]; exact h.hi
theorem fits_of {d e f g : KF.Desc} (h : Pair d e) (hf : KF.IsForm (KF.mem d) f) (hg : KF.IsForm (KF.mem e) g) : Fits f g := by
  obtain ⟨a1, a2, a3, a4⟩ := hf.sizes h.ok1 (fun _ => rfl)
  obtain ⟨b1, b2, b3, b4⟩ := hg.sizes h.ok2 (fun _ => rfl)
  obtain ⟨c1, c2, c3, c4⟩ := h.lens
  have hm := h.mi
  have h1 := h.m1
  have h2 := h.m2
  have lo := Nat.le_trans (Nat.mul_le_mul a1 b1) h.lo
  have hi := Nat.le_trans (Nat.mul_le_mul a2 b2) h.hi
  refine ⟨by omega, by omega, ?_⟩
  have e1 : f.fin = f.start + (f.middle.length : Int) := rfl
  have e2 : g.fin = g.start + (g.middle.length : Int) := rfl
  unfold KF.jb
  split
  · show g.fin - g.start ≤ _
    omega
  · rename_i nf
    split
    · show f.fin - f.start ≤ _
      omega
    · rename_i ng
      obtain ⟨x1, x2⟩ := a4.resolve_left nf
      obtain ⟨y1, y2⟩ := b4.resolve_left ng
      show max f.fin g.fin - min f.start g.start ≤ _
      omega
section
variable {P : Program} {w : World} {K : PySem.W.Frag} {mg : Str → Option Value} {base : Heap} {C : Addr} {Tb : List (Addr × Str)}
def spAll (Tb : List (Addr × Str)) (K : PySem.W.Frag) (C : Addr) : Sp := fun vs H Q _ => ∃ (p t1 t2 : Addr) (k : Nat) (d e : KF.Desc) (n : Nat), vs = [.ref p, .ref t1, .ref t2, .int (k : Int)] ∧ k < 4 ∧ Told K H t1 d ∧ Told K H t2 e ∧ Pair d e ∧ Tabs Tb H ∧ PenAt K H p n ∧ n < 1000000 ∧
  ∀ H', Rl Tb true H H' → PenAt K H' p (n + 200) → Q (.bl true) H'
theorem sc_L_all_signs : FnScope ["_law_pen_here", "_law_told_here", "_law_due", "_law_way", "_law_one", "_law_other"] ["_law_pen_here", "_law_told_here", "_law_due", "_law_way"] (defScope s_L_all_signs) := ⟨rfl, rfl, rfl, by decide +kernel, rfl, by decide +kernel, by decide +kernel⟩
theorem w_L_all_signs (T : Tx K mg C) (h : Has K mg "_law_all_signs" s_L_all_signs ["_law_pen_here", "_law_told_here", "_law_due", "_law_way"]) (oM : Ok P w K mg base 6 "_law_made_set" ["_law_pen_here", "_law_told_here"] (spMade Tb K C)) (oS : Ok P w K mg base 8 "_law_signed" ["_law_one", "_law_other", "_law_way"] (spSigned K C))
    (oJ : Ok P w K mg base 4 "_law_joined" ["_law_pen_here", "_law_one", "_law_other", "_law_way"] (spJoin Tb K)) (oL : Ok P w K mg base 6 "_law_is_like" ["_law_one", "_law_told_here", "_law_pen_here"] (spLike Tb K C)) (oInv : OkM P w K mg base 6 C "__invert__" ["self"] (spUn K C KF.flip)) (oNeg : OkM P w K mg base 6 C "__neg__" ["self"] (spUn K C KF.mirror))
    (oFl : Ok P w K mg base 1 "_law_flipped" ["_law_told_here"] (spPlain K KF.flip)) (oMi : Ok P w K mg base 2 "_law_mirror" ["_law_told_here"] (spPlain K KF.mirror)) (oIs : Ok P w K mg base 1 "_law_is" ["_law_value", "_law_due"] spIs) (oW : OkM P w K mg base 7 C "within" ["self", "other"] (spNone K C gSub)) (oA : OkM P w K mg base 7 C "apart" ["self", "other"] (spNone K C gAnd))
    (oE : Ok P w K mg base 1 "_law_is_empty" ["_law_told_here"] (spEmpty K)) (oEq : OkM P w K mg base 1 C "__eq__" ["self", "other"] (spEqR K C)) (oF : Ok P w K mg base 4 "_law_form" ["_law_told_here"] (spForm2 Tb K)) (oO : Ok P w K mg base 5 "_law_is_one_form" ["_law_one", "_law_told_here"] (spOne Tb K C)) :
    Ok P w K mg base 9 "_law_all_signs" ["_law_pen_here", "_law_told_here", "_law_due", "_law_way"] (spAll Tb K C) := by
  refine h.ok sc_L_all_signs (fun vs H Q E h => ?_) (fun f cdv A outer s H vs Q E hr h => ?_)
  · obtain ⟨p, t1, t2, k, d, e, n, rfl, _⟩ := h; rfl
  · obtain ⟨p, t1, t2, k, d, e, n, rfl, hk, ht1, ht2, pr, hT, hp, hn, q⟩ := h
    have nd := sc_L_all_signs.nd
    have hu := hu64 hr
    have hr1 : Room 1 _ := hr.mono (by decide)
    have hr2 : Room 2 _ := hr.mono (by decide)
    have hr4 : Room 4 _ := hr.mono (by decide)
    have hr5 : Room 5 _ := hr.mono (by decide)
    have hr6 : Room 6 _ := hr.mono (by decide)
    have hr7 : Room 7 _ := hr.mono (by decide)
    refine ⟨_, pss_cons (ps_par (i := 4) (j := 5) rfl nd rfl rfl (by decide) rfl rfl (pa_cons (pe_co oM hr6 rfl (pa_cons (pv 0) (pa_cons (pv 1) pa_nil))) (pa_cons (pe_co oM hr6 rfl (pa_cons (pv 0) (pa_cons (pv 2) pa_nil))) pa_nil)) (by rfl))
      (pss_cons (ps_if (pt_not (pt_val (pe_co oL hr6 rfl (pa_cons (pe_co oS hr rfl (pa_cons (pv 4) (pa_cons (pv 5) (pa_cons (pv 3) pa_nil)))) (pa_cons (pe_co oJ hr4 rfl (pa_cons (pv 0) (pa_cons (pv 1) (pa_cons (pv 2) (pa_cons (pv 3) pa_nil))))) (pa_cons (pv 0) pa_nil)))))) (pss_one (ps_ret pe_bl)) pss_nil)
      (pss_cons (ps_if (PW.pt (pw_or (pt_not (pt_val (pe_co oL hr6 rfl (pa_cons (pe_un (un_moInv oInv hr6) (pv 4)) (pa_cons (pe_co oFl hr1 rfl (pa_cons (pv 1) pa_nil)) (pa_cons (pv 0) pa_nil))))))
          (pw_or1 (pt_not (pt_val (pe_co oL hr6 rfl (pa_cons (pe_un (un_moNeg oNeg hr6) (pv 5)) (pa_cons (pe_co oMi hr2 rfl (pa_cons (pv 2) pa_nil)) (pa_cons (pv 0) pa_nil))))))))) (pss_one (ps_ret pe_bl)) pss_nil)
      (pss_cons (ps_if (pt_not (pt_val (pe_co oIs hr1 rfl (pa_cons (pe_mo T.cl oW hr7 (pv 4) (pa_cons (pv 5) pa_nil)) (pa_cons (pe_co oE hr1 rfl (pa_cons (pe_co oJ hr4 rfl (pa_cons (pv 0) (pa_cons (pv 1) (pa_cons (pv 2) (pa_cons pe_int pa_nil))))) pa_nil)) pa_nil))))) (pss_one (ps_ret pe_bl)) pss_nil)
      (pss_cons (ps_if (pt_not (pt_val (pe_co oIs hr1 rfl (pa_cons (pe_mo T.cl oA hr7 (pv 4) (pa_cons (pv 5) pa_nil)) (pa_cons (pe_co oE hr1 rfl (pa_cons (pe_co oJ hr4 rfl (pa_cons (pv 0) (pa_cons (pv 1) (pa_cons (pv 2) (pa_cons pe_int pa_nil))))) pa_nil)) pa_nil))))) (pss_one (ps_ret pe_bl)) pss_nil)
      (pss_cons (ps_if (pt_not (pt_val (pe_co oIs hr1 rfl (pa_cons (pe_cmpR (op_moEq oEq hr1) (pv 4) (pv 5) (nomark _)) (pa_cons (pe_cmpR (op_eqF hu) (pe_co oF hr4 rfl (pa_cons (pv 1) pa_nil)) (pe_co oF hr4 rfl (pa_cons (pv 2) pa_nil)) (nomark _)) pa_nil))))) (pss_one (ps_ret pe_bl)) pss_nil)
      (pss_one (ps_ret (pe_and (pe_co oO hr5 rfl (pa_cons (pv 4) (pa_cons (pv 1) pa_nil))) (pe_one (pe_co oO hr5 rfl (pa_cons (pv 5) (pa_cons (pv 2) pa_nil)))))))))))), ?_⟩
    obtain ⟨c1, c2, c3, c4⟩ := pr.lens
    have m1 := pr.m1
    have m2 := pr.m2
    -- the two sets
    refine ⟨_, rfl, _, rfl, p, t1, d, n, rfl, ht1, pr.ok1, c1, by omega, c3, hT, hp, by omega, fun x g H1 r1 p1 hx hg => ?_⟩
    refine ⟨_, rfl, _, rfl, p, t2, e, n + 10, rfl, r1.told ht2, pr.ok2, c2, by omega, c4, r1.tb hT, p1, by omega, fun y j H2 r2 p2 hy hj => ⟨_, _, rfl, ?_⟩⟩
    have r12 := r1.trans r2
    have hx := r2.rat hx
    have fit := fits_of pr hg hj
    obtain ⟨a1, a2, a3, _⟩ := hg.sizes pr.ok1 (fun _ => rfl)
    obtain ⟨b1, b2, b3, _⟩ := hj.sizes pr.ok2 (fun _ => rfl)
    -- the sign
    refine ⟨_, rfl, _, rfl, _, rfl, x, y, g, j, k, rfl, hk, hx, hy, fit, fun z f H3 s3 hz hf => ?_⟩
    have r3 : Rl Tb true H H3 := r12.trans (.of s3)
    refine ⟨_, rfl, _, rfl, _, rfl, _, rfl, _, t1, t2, k, d, e, rfl, hk, r3.told ht1, r3.told ht2, pr.ok1, pr.ok2, pr.jfits, r3.tb hT, fun tj H4 r4 hj4 => ?_⟩
    have r04 : Rl Tb true H H4 := r3.trans r4.up
    have jok : (KF.joinD (gW k) d e).ok := KF.joinD_ok pr.ok1 pr.ok2
    obtain ⟨q1, q2, q3⟩ := pr.join (gW k)
    have hf4 : KF.IsForm (KF.mem (KF.joinD (gW k) d e)) f := hf.congr fun v => by
      rw [KF.joinD_mem pr.ok1 pr.ok2]
      show gW k (KF.mem g v) (KF.mem j v) = _
      rw [hg.mem v, hj.mem v]
    refine ⟨_, rfl, z, tj, p, f, _, _, rfl, r4.rat hz, hj4, hf4, jok, by omega, by omega, by omega, r04.tb hT, (p2.same s3).rl r4, by omega, fun H5 r5 p5 => ⟨_, rfl, iteF ?_⟩⟩
    have r05 := r04.trans r5
    -- ~, -
    have x5 : RAt K C H5 x g := r5.rat (r4.rat (hx.same s3))
    have y5 : RAt K C H5 y j := r5.rat (r4.rat (hy.same s3))
    obtain ⟨dx5, bx5, mx5, ax5, hx5, _⟩ := x5.ex
    refine ⟨_, rfl, x, dx5, _, rfl, hx5, x, g, rfl, x5, by omega, by omega, by omega, fun z6 f6 H6 s6 hz6 hf6 => ?_⟩
    have r06 := r05.trans (.of s6)
    refine ⟨_, rfl, t1, d, rfl, r06.told ht1, by omega, by omega, by omega, fun t7 H7 s7 ht7 => ?_⟩
    have r07 := r06.trans (.of s7)
    have hf7 : KF.IsForm (KF.mem (KF.flip d)) f6 := hf6.congr fun v => by rw [KF.flip_mem hg.ok, KF.flip_mem pr.ok1, hg.mem v]
    refine ⟨_, rfl, z6, t7, p, f6, _, _, rfl, hz6.same s7, ht7, hf7, KF.flip_ok pr.ok1, by show (d.below.map (!·)).length ≤ _; rw [List.length_map]; omega, by show (d.middle.map (!·)).length ≤ _; rw [List.length_map]; omega, by show (d.above.map (!·)).length ≤ _; rw [List.length_map]; omega, r07.tb hT, (p5.same s6).same s7, by omega, fun H8 r8 p8 => ⟨_, rfl, iteF ?_⟩⟩
    have r08 := r07.trans r8
    have y8 : RAt K C H8 y j := r8.rat ((y5.same s6).same s7)
    obtain ⟨dy8, by8, my8, ay8, hy8, _⟩ := y8.ex
    refine ⟨_, rfl, y, dy8, _, rfl, hy8, y, j, rfl, y8, by omega, by omega, by omega, fun z9 f9 H9 s9 hz9 hf9 => ?_⟩
    have r09 := r08.trans (.of s9)
    refine ⟨_, rfl, t2, e, rfl, r09.told ht2, by omega, by omega, by omega, fun ta Ha sa hta => ?_⟩
    have r0a := r09.trans (.of sa)
    have hfa : KF.IsForm (KF.mem (KF.mirror e)) f9 := hf9.congr fun v => by rw [KF.mirror_mem hj.ok, KF.mirror_mem pr.ok2, hj.mem]
    refine ⟨_, rfl, z9, ta, p, f9, _, _, rfl, hz9.same sa, hta, hfa, KF.mirror_ok pr.ok2, by show e.above.reverse.length ≤ _; rw [List.length_reverse]; omega, by show e.middle.reverse.length ≤ _; rw [List.length_reverse]; omega, by show e.below.reverse.length ≤ _; rw [List.length_reverse]; omega, r0a.tb hT, (p8.same s9).same sa, by omega, fun Hb rb pb => ⟨_, rfl, iteF ?_⟩⟩
    have r0b := r0a.trans rb
    have xb : RAt K C Hb x g := rb.rat (((r8.rat ((x5.same s6).same s7)).same s9).same sa)
    have yb : RAt K C Hb y j := rb.rat ((y8.same s9).same sa)
    have emp : ∀ (gg : KF.Tab) (f1 : KF.Desc), KF.IsForm (KF.both gg (KF.mem g) (KF.mem j)) f1 → decide ((!KF.anyT f1) = (!KF.anyT (KF.joinD gg d e))) = true := fun gg f1 hf1 => by
      rw [KF.anyT_congr hf1.ok (KF.joinD_ok (g := gg) pr.ok1 pr.ok2) fun v => by rw [KF.joinD_mem pr.ok1 pr.ok2, hf1.mem v]; show gg (KF.mem g v) (KF.mem j v) = _; rw [hg.mem v, hj.mem v]]
      simp
    -- within
    obtain ⟨dxb, bxb, mxb, axb, hxb, _⟩ := xb.ex
    refine ⟨_, rfl, x, dxb, _, rfl, hxb, fs4_no (by decide +kernel), _, rfl, x, y, g, j, rfl, xb, yb, fit, fun f1 Hc sc hf1 => ?_⟩
    have r0c := r0b.trans (.of sc)
    refine ⟨_, rfl, _, rfl, _, rfl, _, t1, t2, 3, d, e, rfl, by decide, r0c.told ht1, r0c.told ht2, pr.ok1, pr.ok2, pr.jfits, r0c.tb hT, fun td Hd rd hd => ⟨td, _, rfl, hd, _, _, rfl, _, rfl, iteG (by rw [emp (gW 3) f1 hf1]; rfl) ?_⟩⟩
    have r0d := r0c.trans rd.up
    have xd : RAt K C Hd x g := rd.rat (xb.same sc)
    have yd : RAt K C Hd y j := rd.rat (yb.same sc)
    have pd := (pb.same sc).rl rd
    -- apart
    obtain ⟨dxd, bxd, mxd, axd, hxd, _⟩ := xd.ex
    refine ⟨_, rfl, x, dxd, _, rfl, hxd, fs4_no (by decide +kernel), _, rfl, x, y, g, j, rfl, xd, yd, fit, fun f2 He se hf2 => ?_⟩
    have r0e := r0d.trans (.of se)
    refine ⟨_, rfl, _, rfl, _, rfl, _, t1, t2, 0, d, e, rfl, by decide, r0e.told ht1, r0e.told ht2, pr.ok1, pr.ok2, pr.jfits, r0e.tb hT, fun tf Hf rf hf' => ⟨tf, _, rfl, hf', _, _, rfl, _, rfl, iteG (by rw [emp (gW 0) f2 hf2]; rfl) ?_⟩⟩
    have r0f := r0e.trans rf.up
    have xf : RAt K C Hf x g := rf.rat (xd.same se)
    have yf : RAt K C Hf y j := rf.rat (yd.same se)
    have pf := (pd.same se).rl rf
    -- ==
    obtain ⟨dxf, bxf, mxf, axf, hxf, _⟩ := xf.ex
    obtain ⟨dyf, byf, myf, ayf, hyf, _⟩ := yf.ex
    refine ⟨_, rfl, _, rfl, x, y, dxf, dyf, _, _, rfl, rfl, hxf, hyf, x, y, g, j, rfl, xf, yf, fun Hg sg => ?_⟩
    have r0g := r0f.trans (.of sg)
    refine ⟨_, rfl, t1, d, rfl, r0g.told ht1, pr.ok1, by omega, by omega, by omega, r0g.tb hT, fun u1 fd Hh rh hu1 if1 => ?_⟩
    have r0h := r0g.trans rh.up
    refine ⟨_, rfl, t2, e, rfl, r0h.told ht2, pr.ok2, by omega, by omega, by omega, r0h.tb hT, fun u2 fe Hi ri hu2 if2 => ?_⟩
    have r0i := r0h.trans ri.up
    have q1' : fd = g := if1.uniq hg
    have q2' : fe = j := if2.uniq hj
    subst q1' q2'
    refine ⟨u1, u2, _, _, rfl, rfl, ri.told hu1, hu2, _, _, rfl, _, rfl, iteG (by simp) ?_⟩
    have xi : RAt K C Hi x fd := ri.rat (rh.rat (xf.same sg))
    have yi : RAt K C Hi y fe := ri.rat (rh.rat (yf.same sg))
    have pi := ((pf.same sg).rl rh).rl ri
    refine ⟨_, rfl, _, rfl, x, t1, fd, d, rfl, xi, r0i.told ht1, hg, pr.ok1, by omega, by omega, by omega, r0i.tb hT, fun Hj rj => ⟨_, rfl, iteT ?_⟩⟩
    have r0j := r0i.trans rj.up
    refine ⟨_, rfl, _, rfl, y, t2, fe, e, rfl, rj.rat yi, r0j.told ht2, hj, pr.ok2, by omega, by omega, by omega, r0j.tb hT, fun Hk rk => ?_⟩
    exact q Hk (r0j.trans rk.up) (((pi.rl rj).rl rk).mono (by omega))
end
end K14
set_option Elab.async false
set_option linter.all false
set_option maxRecDepth 100000
set_option maxHeartbeats 4000000
/-! The walks, seventeenth part: the law. -/
namespace K14
open PySem PySem.Spec PyProof.Rows L2 LamX NdefX
structure NearD (d : KF.Desc) (i : Int) : Prop where
  ok : d.ok
  lo : d.below.length ≤ 8
  hi : d.above.length ≤ 8
  s0 : i - 35 ≤ d.start
  f1 : d.fin ≤ i + 55
  mm : d.middle.length ≤ 60
theorem SomeD.near {d : KF.Desc} {i x : Int} {most : Nat} (h : SomeD d (i + x - 15) most) (hm : most ≤ 8) (h0 : 0 ≤ x) (h1 : x ≤ 30) : NearD d i := by
  have e : d.fin = d.start + (d.middle.length : Int) := rfl
  have a := h.s0
  have b := h.s1
  have c := h.f1
  exact ⟨h.ok, Nat.le_trans h.lo hm, Nat.le_trans h.hi hm, by omega, by omega, by omega⟩
theorem SomeD.near0 {d : KF.Desc} {i : Int} {most : Nat} (h : SomeD d i most) (hm : most ≤ 8) : NearD d i := by
  have e : d.fin = d.start + (d.middle.length : Int) := rfl
  have a := h.s0
  have b := h.s1
  have c := h.f1
  exact ⟨h.ok, Nat.le_trans h.lo hm, Nat.le_trans h.hi hm, by omega, by omega, by omega⟩
theorem NearD.pair {d e : KF.Desc} {i : Int} (h : NearD d i) (k : NearD e i) : Pair d e := by
  have a1 := h.mm
  have a2 := k.mm
  have b1 := h.s0
  have b2 := k.s0
  have c1 := h.f1
  have c2 := k.f1
  exact ⟨h.ok, k.ok, Nat.le_trans (Nat.mul_le_mul h.lo k.lo) (by decide), Nat.le_trans (Nat.mul_le_mul h.hi k.hi) (by decide), by omega, by omega, by omega⟩
/-- what is brought near, with one of the two -/
theorem near_pair {d e f b x : KF.Desc} {i : Int} {g : KF.Tab} (h : NearD d i) (k : NearD e i) (hx : NearD x i) (hf : KF.IsForm (KF.mem (KF.joinD g d e)) f) (bok : b.ok) (hb : b = f ∧ ¬ (f.middle = [] ∧ f.below = f.above) ∨ b.start = i ∧ b.fin = i) (hl : b.below.length + b.above.length < 24) : Pair b x := by
  have a1 := h.s0
  have a2 := k.s0
  have a3 := hx.s0
  have c1 := h.f1
  have c2 := k.f1
  have c3 := hx.f1
  have dg := d.fin_ge
  have eg := e.fin_ge
  have xm := hx.mm
  have bf : b.fin = b.start + (b.middle.length : Int) := rfl
  have bnd : i - 200 ≤ b.start ∧ b.fin ≤ i + 60 := by
    rcases hb with ⟨rfl, nt⟩ | ⟨h1, h2⟩
    · obtain ⟨s1, s2, s3, s4⟩ := hf.sizes (KF.joinD_ok h.ok k.ok) (fun _ => rfl)
      have nth : ¬ KF.Thr b := fun z => nt ⟨z.2.1, z.2.2⟩
      obtain ⟨q1, q2⟩ := s4.resolve_left nth
      have jl : (KF.joinD g d e).below.length = d.below.length * e.below.length := KF.rowOf_len ..
      have jh : (KF.joinD g d e).above.length = d.above.length * e.above.length := KF.rowOf_len ..
      have m1 := Nat.mul_le_mul h.lo k.lo
      have m2 := Nat.mul_le_mul h.hi k.hi
      have js : (KF.joinD g d e).start = min d.start e.start := rfl
      have jf : (KF.joinD g d e).fin = max d.fin e.fin := KF.descr_fin (by omega)
      rw [js, jl, jh] at q1
      rw [jf] at q2
      omega
    · omega
  have hlo := hx.lo
  have hhi := hx.hi
  refine ⟨bok, hx.ok, Nat.le_trans (Nat.mul_le_mul (show b.below.length ≤ 24 by omega) hlo) (by decide), Nat.le_trans (Nat.mul_le_mul (show b.above.length ≤ 24 by omega) hhi) (by decide), by omega, by omega, by omega⟩
section
variable {P : Program} {w : World} {K : PySem.W.Frag} {mg : Str → Option Value} {base : Heap} {C : Addr} {Tb : List (Addr × Str)}
def spLaw (Tb : List (Addr × Str)) (K : PySem.W.Frag) : Sp := fun vs H Q _ => ∃ (a : Addr) (ns : List Int), vs = [.ref a] ∧ SqL K H a (ns.map V.int) ∧ Tabs Tb H ∧ ∀ H', Q (.bl true) H'
theorem sc_law : FnScope ["_law_script", "_law_pen_here", "_law_lap", "_law_most", "_law_start", "_law_told_here", "_law_due", "_law_way", "_law_both"] ["_law_script"] (defScope s_law) := ⟨rfl, rfl, rfl, by decide +kernel, rfl, by decide +kernel, by decide +kernel⟩
theorem w_law (T : Tx K mg C) (h : Has K mg "law" s_law ["_law_script"]) (oPen : Ok P w K mg base 1 "_law_pen" ["_law_script"] (spPen K)) (oP : Ok P w K mg base 1 "_law_draw" ["_law_pen_here", "_law_many"] (spDraw Tb K)) (oK : Ok P w K mg base 2 "_law_pick" ["_law_pen_here", "_law_some"] (spPick Tb K)) (oFar : Ok P w K mg base 3 "_law_far" ["_law_pen_here"] (spFar Tb K))
    (oS : Ok P w K mg base 4 "_law_some_set" ["_law_pen_here", "_law_start", "_law_most"] (spSome Tb K)) (oA : Ok P w K mg base 9 "_law_all_signs" ["_law_pen_here", "_law_told_here", "_law_due", "_law_way"] (spAll Tb K C)) (oN : Ok P w K mg base 4 "_law_brought_near" ["_law_word", "_law_start"] (spNear Tb K))
    (oF : Ok P w K mg base 4 "_law_form" ["_law_told_here"] (spForm2 Tb K)) (oJ : Ok P w K mg base 4 "_law_joined" ["_law_pen_here", "_law_one", "_law_other", "_law_way"] (spJoin Tb K)) : Ok P w K mg base 10 "law" ["_law_script"] (spLaw Tb K) := by
  refine h.ok sc_law (fun vs H Q E h => ?_) (fun f cdv A outer s H vs Q E hr h => ?_)
  · obtain ⟨a, ns, rfl, _⟩ := h; rfl
  · obtain ⟨a, ns, rfl, hS, hT, q⟩ := h
    have nd := sc_law.nd
    have hr1 : Room 1 _ := hr.mono (by decide)
    have hr2 : Room 2 _ := hr.mono (by decide)
    have hr3 : Room 3 _ := hr.mono (by decide)
    have hr4 : Room 4 _ := hr.mono (by decide)
    refine ⟨_, pss_cons (ps_set (i := 1) nd rfl (Or.inl rfl) (pe_co oPen hr1 rfl (pa_cons (pv 0) pa_nil)))
      (pss_cons (ps_for PassesOwn.never rfl (pi_range1 rfl T.rng (pa_cons pe_int pa_nil)) (pg_name (i := 2) nd rfl (Or.inl rfl))
        (pss_cons (ps_set (i := 3) nd rfl (Or.inl rfl) (pe_co oK hr2 rfl (pa_cons (pv 1) (pa_cons (pe_lst (pa_cons pe_int (pa_cons pe_int (pa_cons pe_int (pa_cons pe_int (pa_cons pe_int pa_nil)))))) pa_nil))))
        (pss_cons (ps_set (i := 4) nd rfl (Or.inl rfl) (pe_co oK hr2 rfl (pa_cons (pv 1) (pa_cons (pe_lst (pa_cons pe_int (pa_cons (pe_op op_sub (pe_co oP hr1 rfl (pa_cons (pv 1) (pa_cons pe_int pa_nil))) pe_int) (pa_cons (pe_co oFar hr3 rfl (pa_cons (pv 1) pa_nil)) pa_nil)))) pa_nil))))
        (pss_cons (ps_set (i := 5) nd rfl (Or.inl rfl) (pe_co oS hr4 rfl (pa_cons (pv 1) (pa_cons (pv 4) (pa_cons (pv 3) pa_nil)))))
        (pss_cons (ps_set (i := 6) nd rfl (Or.inl rfl) (pe_co oS hr4 rfl (pa_cons (pv 1) (pa_cons (pe_op op_sub (pe_op op_add (pv 4) (pe_co oP hr1 rfl (pa_cons (pv 1) (pa_cons pe_int pa_nil)))) pe_int)
            (pa_cons (pe_co oK hr2 rfl (pa_cons (pv 1) (pa_cons (pe_lst (pa_cons pe_int (pa_cons pe_int (pa_cons pe_int (pa_cons pe_int pa_nil))))) pa_nil))) pa_nil)))))
        (pss_cons (ps_set (i := 6) nd rfl (Or.inl rfl) (pe_co oK hr2 rfl (pa_cons (pv 1) (pa_cons (pe_lst (pa_cons (pv 6) (pa_cons (pv 6) (pa_cons (pv 6) (pa_cons (pv 5) pa_nil))))) pa_nil))))
        (pss_cons (ps_set (i := 7) nd rfl (Or.inl rfl) (pe_co oP hr1 rfl (pa_cons (pv 1) (pa_cons pe_int pa_nil))))
        (pss_cons (ps_if (pt_not (pt_val (pe_co oA hr rfl (pa_cons (pv 1) (pa_cons (pv 5) (pa_cons (pv 6) (pa_cons (pv 7) pa_nil))))))) (pss_one (ps_ret pe_bl)) pss_nil)
        (pss_cons (ps_set (i := 8) nd rfl (Or.inl rfl) (pe_co oN hr4 rfl (pa_cons (pe_co oF hr4 rfl (pa_cons (pe_co oJ hr4 rfl (pa_cons (pv 1) (pa_cons (pv 5) (pa_cons (pv 6) (pa_cons (pv 7) pa_nil))))) pa_nil)) (pa_cons (pv 4) pa_nil))))
        (pss_one (ps_if (PW.pt (pw_and (pt_cmpR op_eq (pe_co oP hr1 rfl (pa_cons (pv 1) (pa_cons pe_int pa_nil))) pe_int (nomark _)) (pw_and1 (pt_cmpR op_lt (pe_op op_add (pe_callB call_lenB (by rfl) T.len boot_len (pa_cons (pe_ix ix_tup (pv 8) pe_int (fun _ _ => rfl)) pa_nil)) (pe_callB call_lenB (by rfl) T.len boot_len (pa_cons (pe_ix ix_tup (pv 8) pe_int (fun _ _ => rfl)) pa_nil))) pe_int (nomark _)))))
          (pss_one (ps_if (pt_not (pt_val (pe_co oA hr rfl (pa_cons (pv 1) (pa_cons (pv 8) (pa_cons (pe_co oK hr2 rfl (pa_cons (pv 1) (pa_cons (pe_lst (pa_cons (pv 5) (pa_cons (pv 6) pa_nil))) pa_nil))) (pa_cons (pe_co oP hr1 rfl (pa_cons (pv 1) (pa_cons pe_int pa_nil))) pa_nil))))))) (pss_one (ps_ret pe_bl)) pss_nil)) pss_nil)))))))))))
      (pss_one (ps_ret pe_bl))), ?_⟩
    refine ⟨_, rfl, a, ns, rfl, hS, fun p H1 s1 p1 => ?_⟩
    have hT1 := hT.ext s1
    refine ⟨2, rfl, by decide, by decide, ?_⟩
    show ∃ W : Nat → Nat → L2.St → Hp → Prop, _
    refine for_range (lo := 0) (n := 2) (fun i σ H' => Rl Tb true H1 H' ∧ PenAt K H' p (1000 * i) ∧ ∃ v2 v3 v4 v5 v6 v7 v8 : Option V, σ = [some (.ref a), some (.ref p), v2, v3, v4, v5, v6, v7, v8]) ⟨Rl.refl _, p1, none, none, none, none, none, none, none, rfl⟩ ?_ ?_
    · rintro i σ H2 hi ⟨r2, p2, v2, v3, v4, v5, v6, v7, v8, rfl⟩
      -- most
      refine ⟨_, rfl, (by show 5 ≤ sizeLine; decide), fun l hl => ?_⟩
      have s3 := same_new (o := .lst [V.int 1, .int 2, .int 3, .int 5, .int 8]) hl
      refine ⟨p, l, _, _, rfl, sql_of upd_same, by simp, (by show 5 < 1000000; decide), p2.same s3, by omega, fun ix v H4 hv r4 p4 => ?_⟩
      obtain ⟨most, rfl, m0, m1⟩ : ∃ m : Nat, v = .int (m : Int) ∧ 1 ≤ m ∧ m ≤ 8 := by
        match ix, hv with
        | 0, hv => exact ⟨1, (Option.some.inj hv).symm, by decide, by decide⟩
        | 1, hv => exact ⟨2, (Option.some.inj hv).symm, by decide, by decide⟩
        | 2, hv => exact ⟨3, (Option.some.inj hv).symm, by decide, by decide⟩
        | 3, hv => exact ⟨5, (Option.some.inj hv).symm, by decide, by decide⟩
        | 4, hv => exact ⟨8, (Option.some.inj hv).symm, by decide, by decide⟩
      have r14 := r2.trans ((Rl.of s3).trans r4)
      -- start
      refine ⟨_, rfl, _, rfl, p, 41, _, rfl, by decide, by decide, p4, by omega, fun d5 H5 r5 p5 d50 d51 => ⟨_, _, rfl, rfl, _, rfl, p, _, rfl, p5, by omega, fun fa H6 r6 p6 => ⟨sz3, fun l2 hl2 => ?_⟩⟩⟩
      have s7 := same_new (o := .lst [V.int 0, .int (d5 - 20), .int fa]) hl2
      refine ⟨p, l2, _, _, rfl, sql_of upd_same, by simp, (by show 3 < 1000000; decide), p6.same s7, by omega, fun ix2 vv H8 hvv r8 p8 => ?_⟩
      obtain ⟨st, rfl⟩ : ∃ st : Int, vv = .int st := by
        match ix2, hvv with
        | 0, hv => exact ⟨_, (Option.some.inj hv).symm⟩
        | 1, hv => exact ⟨_, (Option.some.inj hv).symm⟩
        | 2, hv => exact ⟨_, (Option.some.inj hv).symm⟩
      have r18 := r14.trans ((r5.trans r6).trans ((Rl.of s7).trans r8))
      -- told
      refine ⟨_, rfl, _, rfl, _, rfl, p, st, most, _, rfl, m0, m1, r18.tb hT1, p8, by omega, fun tt d H9 r9 p9 htd sd => ?_⟩
      have r19 := r18.trans r9
      have nd1 := sd.near0 m1
      -- due
      refine ⟨_, rfl, _, rfl, _, rfl, p, 31, _, rfl, by decide, by decide, p9, by omega, fun x Ha ra pa xa0 xa1 => ⟨_, _, rfl, rfl, _, _, rfl, rfl, ?_⟩⟩
      refine ⟨_, rfl, sz4, fun l3 hl3 => ?_⟩
      have sb := same_new (o := .lst [V.int 1, .int 2, .int 3, .int 7]) hl3
      refine ⟨p, l3, _, _, rfl, sql_of upd_same, by simp, (by show 4 < 1000000; decide), pa.same sb, by omega, fun ix3 v3 Hc hv3 rc pc => ?_⟩
      obtain ⟨most2, rfl, k0, k1⟩ : ∃ m : Nat, v3 = .int (m : Int) ∧ 1 ≤ m ∧ m ≤ 8 := by
        match ix3, hv3 with
        | 0, hv => exact ⟨1, (Option.some.inj hv).symm, by decide, by decide⟩
        | 1, hv => exact ⟨2, (Option.some.inj hv).symm, by decide, by decide⟩
        | 2, hv => exact ⟨3, (Option.some.inj hv).symm, by decide, by decide⟩
        | 3, hv => exact ⟨7, (Option.some.inj hv).symm, by decide, by decide⟩
      have r9c := ra.trans ((Rl.of sb).trans rc)
      have r1c := r19.trans r9c
      refine ⟨p, st + x - 15, most2, _, rfl, k0, k1, r1c.tb hT1, pc, by omega, fun td e Hd rd pd hte se => ?_⟩
      have r1d := r1c.trans rd
      have nd2 := se.near k1 xa0 (by omega)
      have htd' := (r9c.trans rd).told htd
      -- due, picked
      refine ⟨_, rfl, _, rfl, _, rfl, _, rfl, _, rfl, sz4, fun l4 hl4 => ?_⟩
      have sE := same_new (o := .lst [V.ref td, .ref td, .ref td, .ref tt]) hl4
      refine ⟨p, l4, _, _, rfl, sql_of upd_same, by simp, (by show 4 < 1000000; decide), pd.same sE, by omega, fun ix4 v4 He hv4 re pe => ?_⟩
      have rde : Rl Tb true Hd He := (Rl.of sE).trans re
      obtain ⟨tf, ef, rfl, htf, nd3⟩ : ∃ (tf : Addr) (ef : KF.Desc), v4 = .ref tf ∧ Told K He tf ef ∧ NearD ef st := by
        match ix4, hv4 with
        | 0, hv => exact ⟨td, e, (Option.some.inj hv).symm, rde.told hte, nd2⟩
        | 1, hv => exact ⟨td, e, (Option.some.inj hv).symm, rde.told hte, nd2⟩
        | 2, hv => exact ⟨td, e, (Option.some.inj hv).symm, rde.told hte, nd2⟩
        | 3, hv => exact ⟨tt, d, (Option.some.inj hv).symm, rde.told htd', nd1⟩
      have r1e := r1d.trans rde
      have htde := rde.told htd'
      -- way
      refine ⟨_, rfl, p, 4, _, rfl, by decide, by decide, pe, by omega, fun wy Hf rf pf wy0 wy1 => ?_⟩
      obtain ⟨k, rfl⟩ : ∃ k : Nat, wy = (k : Int) := ⟨wy.toNat, by omega⟩
      have hk : k < 4 := by omega
      have r1f := r1e.trans rf
      have pr := nd1.pair nd3
      -- all signs
      refine ⟨_, rfl, _, rfl, _, rfl, _, rfl, p, tt, tf, k, d, ef, _, rfl, hk, rf.told htde, rf.told htf, pr, r1f.tb hT1, pf, by omega, fun Hg rg pg => ⟨_, rfl, iteF ?_⟩⟩
      have r1g := r1f.trans rg
      have rfg := rf.trans rg
      -- both
      obtain ⟨j1, j2, j3⟩ := pr.join (gW k)
      refine ⟨_, rfl, _, rfl, _, rfl, _, rfl, _, tt, tf, k, d, ef, rfl, hk, rfg.told htde, rfg.told htf, pr.ok1, pr.ok2, pr.jfits, r1g.tb hT1, fun tj Hh rh hj => ?_⟩
      refine ⟨tj, _, rfl, hj, KF.joinD_ok pr.ok1 pr.ok2, by omega, by omega, by omega, rh.tb (r1g.tb hT1), fun tk fj Hi ri hfj iff => ?_⟩
      obtain ⟨z1, z2, z3, z4⟩ := iff.sizes (KF.joinD_ok pr.ok1 pr.ok2) (fun _ => rfl)
      refine ⟨_, rfl, tk, st, fj, rfl, hfj, iff.ok, by omega, by omega, ri.tb (rh.tb (r1g.tb hT1)), fun tb b Hj rj hb bok bm bc bl1 bl2 => ?_⟩
      have rgj : Rl Tb true Hg Hj := (rh.up.trans ri.up).trans rj.up
      have r1j := r1g.trans rgj
      have pj := ((pg.rl rh).rl ri).rl rj
      -- the draw
      refine ⟨_, rfl, p, 2, _, rfl, by decide, by decide, pj, by omega, fun dk Hk rk pk dk0 dk1 => ⟨rfl, _, rfl, bIf2 (fun y => ?_) (fun y => ?_)⟩⟩
      · obtain ⟨bb, bmm, ba, x0, x1, x2, x3⟩ := id (rk.told hb)
        refine ⟨_, rfl, tb, _, 1, _, rfl, rfl, x0, rfl, bb, b.below, rfl, x1, _, rfl, tb, _, 3, _, rfl, rfl, x0, rfl, ba, b.above, rfl, x3, _, _, rfl, rfl, _, _, rfl, rfl, _, rfl, bIf2 (fun z => ?_) (fun z => ?_)⟩
        · have r1k := r1j.trans rk
          have rek := (rfg.trans rgj).trans rk
          refine ⟨_, rfl, _, rfl, _, rfl, _, rfl, _, rfl, sz2, fun l5 hl5 => ?_⟩
          have sl := same_new (o := .lst [V.ref tt, .ref tf]) hl5
          refine ⟨p, l5, _, _, rfl, sql_of upd_same, by simp, (by show 2 < 1000000; decide), pk.same sl, by omega, fun ix5 v5 Hl hv5 rl pl => ?_⟩
          have rkl : Rl Tb true Hk Hl := (Rl.of sl).trans rl
          obtain ⟨tm, em, rfl, htm, nd4⟩ : ∃ (tm : Addr) (em : KF.Desc), v5 = .ref tm ∧ Told K Hl tm em ∧ NearD em st := by
            match ix5, hv5 with
            | 0, hv => exact ⟨tt, d, (Option.some.inj hv).symm, rkl.told (rek.told htde), nd1⟩
            | 1, hv => exact ⟨tf, ef, (Option.some.inj hv).symm, rkl.told (rek.told htf), nd3⟩
          refine ⟨_, rfl, p, 4, _, rfl, by decide, by decide, pl, by omega, fun wm Hm rm pm wm0 wm1 => ?_⟩
          obtain ⟨k2, rfl⟩ : ∃ k : Nat, wm = (k : Int) := ⟨wm.toNat, by omega⟩
          have pr2 : Pair b em := near_pair nd1 nd3 nd4 iff bok bc (by omega)
          have rkm := rkl.trans rm
          refine ⟨p, tb, tm, k2, b, em, _, rfl, by omega, rkm.told (rk.told hb), rm.told htm, pr2, (r1k.trans rkm).tb hT1, pm, by omega, fun Hn rn pn => ⟨_, rfl, iteF ?_⟩⟩
          exact ⟨(r1k.trans rkm).trans rn, pn.mono (by omega), _, _, _, _, _, _, _, rfl⟩
        · exact ⟨r1j.trans rk, pk.mono (by omega), _, _, _, _, _, _, _, rfl⟩
      · exact iteF ⟨r1j.trans rk, pk.mono (by omega), _, _, _, _, _, _, _, rfl⟩
    · rintro σ H2 ⟨r2, p2, v2, v3, v4, v5, v6, v7, v8, rfl⟩
      exact q H2
end
end K14
set_option Elab.async false
set_option linter.all false
set_option maxRecDepth 100000
set_option maxHeartbeats 0
/-! The end: the head's facts handed to the walks. -/
namespace K14
open PySem PySem.Spec PyProof.Rows L2 LamX
def Tbl (K : PySem.W.Frag) : List (Addr × Str) := tf.map fun p => ((He.cT K p).2, lq p.1)
theorem inj_nodup {α β : Type} {g : α → β} : ∀ {l : List α}, (l.map g).Nodup → ∀ a ∈ l, ∀ b ∈ l, g a = g b → a = b
  | [], _, a, ha, _, _, _ => by cases ha
  | x :: l, h, a, ha, b, hb, e => by
    rw [List.map_cons, List.nodup_cons] at h
    rcases List.mem_cons.mp ha with rfl | ha'
    · rcases List.mem_cons.mp hb with rfl | hb'
      · rfl
      · exact absurd (List.mem_map.mpr ⟨b, hb', e.symm⟩) h.1
    · rcases List.mem_cons.mp hb with rfl | hb'
      · exact absurd (List.mem_map.mpr ⟨a, ha', e⟩) h.1
      · exact inj_nodup h.2 a ha' b hb' e
theorem hasL_of {K : PySem.W.Frag} {mg : Str → Option Value} {x : Str} {st : Stmt} {ps : List Str} {fd : FuncData} (F : FunD K x x (defArgs st) (defBody st) (defScope st) [] [] (He.fAd K (x, none)) fd) (hm : mg x = some (.ref (He.fAd K (x, none)))) (hb : Binds K fd ps []) : HasL K mg x st ps (He.cT K (x, none)).1 := by
  refine ⟨_, fd, F, hm, hb, ?_⟩
  obtain ⟨oc, od, dV, kV, doc, pm, an, cdv, ct, osl, rfl, lk, hcd, _⟩ := F.ex
  obtain ⟨c, rfl⟩ := He.codeIn_ref hcd
  have e := He.codeOf_eq (p := (x, none)) lk rfl
  show Value.ref c = .ref (He.codeOf K (x, none))
  rw [e]
theorem lamT_of {K : PySem.W.Frag} {base : Heap} {mg : Str → Option Value} {x : Str} (nd : (tf.map fun p => (He.cT K p).2).Nodup) (hT : ∀ p ∈ tf.map (He.cT K), TabB base mg p.1 p.2) (hx : (x, none) ∈ tf) : LamT (Tbl K) base mg (lq x) (He.cT K (x, none)).1 (He.cT K (x, none)).2 := by
  refine ⟨hT _ (List.mem_map.mpr ⟨_, hx, rfl⟩), List.mem_map.mpr ⟨_, hx, rfl⟩, fun p hp e => ?_⟩
  obtain ⟨q, hq, rfl⟩ := List.mem_map.mp hp
  have z := inj_nodup nd q hq _ hx e
  rw [z]
theorem facts {P : Program} {w : World} {K : PySem.W.Frag} {h : Heap} {mg : Str → Option Value} {f : Addr} (X : K.In h) (G : h.Ns mainGlobals mg) (hfa : mg ("law" : Str) = some (.ref f)) (c : He.SaysX fa fn [] tf ex w h K) :
    ∃ fd : FuncData, (∀ (s : Shared) (v : Value), BindsTo s fd ⟨[v], []⟩ [("_law_script", v)]) ∧ ∀ base : Heap, K.In base → base.Ns mainGlobals mg → (∀ p ∈ tf.map (He.cT K), TabB base mg p.1 p.2) → FnOk P w K mg base L2.CX0 10 f fd ["_law_script"] (spLaw (Tbl K) K) := by
  have D := c.t.d
  have E := c.more
  unfold ex at E
  simp only [Bool.and_eq_true, decide_eq_true_eq] at E
  obtain ⟨x1, x2, x3, x4, x5, x6, x7, x8, x9, x10, nd⟩ := E
  have T : Tx K mg (He.ga K "Rounds") := by
    refine ⟨He.cls_ok (D.fact 58 (f := .cls "Rounds") rfl), He.noat_ok (D.fact 59 (f := .noat "Rounds" "start") rfl), He.noat_ok (D.fact 60 (f := .noat "Rounds" "below") rfl), He.noat_ok (D.fact 61 (f := .noat "Rounds" "middle") rfl), He.noat_ok (D.fact 62 (f := .noat "Rounds" "above") rfl), He.glo_ok X G (D.fact 44 (f := .glo "Rounds") rfl),
      He.free_ok X G (D.fact 45 (f := .free "isinstance") rfl),
      He.free_ok X G (D.fact 46 (f := .free "int") rfl),
      He.free_ok X G (D.fact 47 (f := .free "bool") rfl),
      He.free_ok X G (D.fact 48 (f := .free "tuple") rfl),
      He.free_ok X G (D.fact 49 (f := .free "list") rfl),
      He.free_ok X G (D.fact 50 (f := .free "len") rfl),
      He.free_ok X G (D.fact 51 (f := .free "range") rfl),
      He.free_ok X G (D.fact 52 (f := .free "all") rfl),
      He.free_ok X G (D.fact 53 (f := .free "enumerate") rfl),
      He.free_ok X G (D.fact 54 (f := .free "abs") rfl),
      He.free_ok X G (D.fact 55 (f := .free "max") rfl),
      He.free_ok X G (D.fact 56 (f := .free "min") rfl),
      He.int_ok X G (D.fact 57 (f := .int "LIMIT" 20000) rfl),
      ⟨_, He.glo_ok X G (D.fact 77 (f := .glo "IN_BOTH") rfl), fun H => He.tupB_ok x7 H⟩,
      ⟨_, He.glo_ok X G (D.fact 78 (f := .glo "IN_ONE_OR_BOTH") rfl), fun H => He.tupB_ok x8 H⟩,
      ⟨_, He.glo_ok X G (D.fact 79 (f := .glo "IN_JUST_ONE") rfl), fun H => He.tupB_ok x9 H⟩,
      ⟨_, He.glo_ok X G (D.fact 80 (f := .glo "IN_FIRST_ALONE") rfl), fun H => He.tupB_ok x10 H⟩,
      x1, x6, x2, x3, x4, x5, ⟨_, He.mkr_ok (D.fact 76 (f := .mkr "Rounds") rfl)⟩⟩
  have h_is_int : Has K mg "is_int" s_is_int ["value"] := by
    obtain ⟨fd, F⟩ := D.def_ 0 (d := d_is_int) rfl
    exact ⟨_, fd, F, He.glo_ok X G (D.fact 0 (f := .glo "is_int") rfl), F.bindsN fun _ _ _ _ _ _ us hl => match us, hl with | [_], _ => rfl⟩
  have h_is_row : Has K mg "is_row" s_is_row ["value"] := by
    obtain ⟨fd, F⟩ := D.def_ 1 (d := d_is_row) rfl
    exact ⟨_, fd, F, He.glo_ok X G (D.fact 1 (f := .glo "is_row") rfl), F.bindsN fun _ _ _ _ _ _ us hl => match us, hl with | [_], _ => rfl⟩
  have h_check_int : Has K mg "check_int" s_check_int ["what", "value"] := by
    obtain ⟨fd, F⟩ := D.def_ 2 (d := d_check_int) rfl
    exact ⟨_, fd, F, He.glo_ok X G (D.fact 2 (f := .glo "check_int") rfl), F.bindsN fun _ _ _ _ _ _ us hl => match us, hl with | [_, _], _ => rfl⟩
  have h_greatest_divisor : Has K mg "greatest_divisor" s_greatest_divisor ["one", "other"] := by
    obtain ⟨fd, F⟩ := D.def_ 3 (d := d_greatest_divisor) rfl
    exact ⟨_, fd, F, He.glo_ok X G (D.fact 3 (f := .glo "greatest_divisor") rfl), F.bindsN fun _ _ _ _ _ _ us hl => match us, hl with | [_, _], _ => rfl⟩
  have h_common_multiple : Has K mg "common_multiple" s_common_multiple ["one", "other"] := by
    obtain ⟨fd, F⟩ := D.def_ 4 (d := d_common_multiple) rfl
    exact ⟨_, fd, F, He.glo_ok X G (D.fact 4 (f := .glo "common_multiple") rfl), F.bindsN fun _ _ _ _ _ _ us hl => match us, hl with | [_, _], _ => rfl⟩
  have h_least_step : Has K mg "least_step" s_least_step ["row"] := by
    obtain ⟨fd, F⟩ := D.def_ 5 (d := d_least_step) rfl
    exact ⟨_, fd, F, He.glo_ok X G (D.fact 5 (f := .glo "least_step") rfl), F.bindsN fun _ _ _ _ _ _ us hl => match us, hl with | [_], _ => rfl⟩
  have h_rolled : Has K mg "rolled" s_rolled ["row", "by"] := by
    obtain ⟨fd, F⟩ := D.def_ 6 (d := d_rolled) rfl
    exact ⟨_, fd, F, He.glo_ok X G (D.fact 6 (f := .glo "rolled") rfl), F.bindsN fun _ _ _ _ _ _ us hl => match us, hl with | [_, _], _ => rfl⟩
  have h_piece : Has K mg "piece" s_piece ["below", "middle", "at"] := by
    obtain ⟨fd, F⟩ := D.def_ 7 (d := d_piece) rfl
    exact ⟨_, fd, F, He.glo_ok X G (D.fact 7 (f := .glo "piece") rfl), F.bindsN fun _ _ _ _ _ _ us hl => match us, hl with | [_, _, _], _ => rfl⟩
  have h_is_member : Has K mg "is_member" s_is_member ["start", "below", "middle", "above", "n"] := by
    obtain ⟨fd, F⟩ := D.def_ 8 (d := d_is_member) rfl
    exact ⟨_, fd, F, He.glo_ok X G (D.fact 8 (f := .glo "is_member") rfl), F.bindsN fun _ _ _ _ _ _ us hl => match us, hl with | [_, _, _, _, _], _ => rfl⟩
  have h_one_form : Has K mg "one_form" s_one_form ["start", "below", "middle", "above"] := by
    obtain ⟨fd, F⟩ := D.def_ 9 (d := d_one_form) rfl
    exact ⟨_, fd, F, He.glo_ok X G (D.fact 9 (f := .glo "one_form") rfl), F.bindsN fun _ _ _ _ _ _ us hl => match us, hl with | [_, _, _, _], _ => rfl⟩
  have h_least_middle : Has K mg "least_middle" s_least_middle ["start", "below", "middle", "above"] := by
    obtain ⟨fd, F⟩ := D.def_ 10 (d := d_least_middle) rfl
    exact ⟨_, fd, F, He.glo_ok X G (D.fact 10 (f := .glo "least_middle") rfl), F.bindsN fun _ _ _ _ _ _ us hl => match us, hl with | [_, _, _, _], _ => rfl⟩
  have h_is_truths : Has K mg "is_truths" s_is_truths ["value"] := by
    obtain ⟨fd, F⟩ := D.def_ 11 (d := d_is_truths) rfl
    exact ⟨_, fd, F, He.glo_ok X G (D.fact 11 (f := .glo "is_truths") rfl), F.bindsN fun _ _ _ _ _ _ us hl => match us, hl with | [_], _ => rfl⟩
  have h_end_of : Has K mg "end_of" s_end_of ["one"] := by
    obtain ⟨fd, F⟩ := D.def_ 25 (d := d_end_of) rfl
    exact ⟨_, fd, F, He.glo_ok X G (D.fact 12 (f := .glo "end_of") rfl), F.bindsN fun _ _ _ _ _ _ us hl => match us, hl with | [_], _ => rfl⟩
  have h_mixed_row : Has K mg "mixed_row" s_mixed_row ["one", "other", "first", "many", "table"] := by
    obtain ⟨fd, F⟩ := D.def_ 26 (d := d_mixed_row) rfl
    exact ⟨_, fd, F, He.glo_ok X G (D.fact 13 (f := .glo "mixed_row") rfl), F.bindsN fun _ _ _ _ _ _ us hl => match us, hl with | [_, _, _, _, _], _ => rfl⟩
  have h_joint_bounds : Has K mg "joint_bounds" s_joint_bounds ["one", "other"] := by
    obtain ⟨fd, F⟩ := D.def_ 27 (d := d_joint_bounds) rfl
    exact ⟨_, fd, F, He.glo_ok X G (D.fact 14 (f := .glo "joint_bounds") rfl), F.bindsN fun _ _ _ _ _ _ us hl => match us, hl with | [_, _], _ => rfl⟩
  have h_combined : Has K mg "combined" s_combined ["one", "other", "table"] := by
    obtain ⟨fd, F⟩ := D.def_ 28 (d := d_combined) rfl
    exact ⟨_, fd, F, He.glo_ok X G (D.fact 15 (f := .glo "combined") rfl), F.bindsN fun _ _ _ _ _ _ us hl => match us, hl with | [_, _, _], _ => rfl⟩
  have h_L_pen : Has K mg "_law_pen" s_L_pen ["_law_script"] := by
    obtain ⟨fd, F⟩ := D.def_ 29 (d := d_L_pen) rfl
    exact ⟨_, fd, F, He.glo_ok X G (D.fact 16 (f := .glo "_law_pen") rfl), F.bindsN fun _ _ _ _ _ _ us hl => match us, hl with | [_], _ => rfl⟩
  have h_L_draw : Has K mg "_law_draw" s_L_draw ["_law_pen_here", "_law_many"] := by
    obtain ⟨fd, F⟩ := D.def_ 30 (d := d_L_draw) rfl
    exact ⟨_, fd, F, He.glo_ok X G (D.fact 17 (f := .glo "_law_draw") rfl), F.bindsN fun _ _ _ _ _ _ us hl => match us, hl with | [_, _], _ => rfl⟩
  have h_L_pick : Has K mg "_law_pick" s_L_pick ["_law_pen_here", "_law_some"] := by
    obtain ⟨fd, F⟩ := D.def_ 31 (d := d_L_pick) rfl
    exact ⟨_, fd, F, He.glo_ok X G (D.fact 18 (f := .glo "_law_pick") rfl), F.bindsN fun _ _ _ _ _ _ us hl => match us, hl with | [_, _], _ => rfl⟩
  have h_L_far : Has K mg "_law_far" s_L_far ["_law_pen_here"] := by
    obtain ⟨fd, F⟩ := D.def_ 32 (d := d_L_far) rfl
    exact ⟨_, fd, F, He.glo_ok X G (D.fact 19 (f := .glo "_law_far") rfl), F.bindsN fun _ _ _ _ _ _ us hl => match us, hl with | [_], _ => rfl⟩
  have h_L_is_int : Has K mg "_law_is_int" s_L_is_int ["_law_value"] := by
    obtain ⟨fd, F⟩ := D.def_ 33 (d := d_L_is_int) rfl
    exact ⟨_, fd, F, He.glo_ok X G (D.fact 20 (f := .glo "_law_is_int") rfl), F.bindsN fun _ _ _ _ _ _ us hl => match us, hl with | [_], _ => rfl⟩
  have h_L_is : Has K mg "_law_is" s_L_is ["_law_value", "_law_due"] := by
    obtain ⟨fd, F⟩ := D.def_ 34 (d := d_L_is) rfl
    exact ⟨_, fd, F, He.glo_ok X G (D.fact 21 (f := .glo "_law_is") rfl), F.bindsN fun _ _ _ _ _ _ us hl => match us, hl with | [_, _], _ => rfl⟩
  have h_L_listed : Has K mg "_law_listed" s_L_listed ["_law_pen_here", "_law_row"] := by
    obtain ⟨fd, F⟩ := D.def_ 35 (d := d_L_listed) rfl
    exact ⟨_, fd, F, He.glo_ok X G (D.fact 22 (f := .glo "_law_listed") rfl), F.bindsN fun _ _ _ _ _ _ us hl => match us, hl with | [_, _], _ => rfl⟩
  have h_L_has : Has K mg "_law_has" s_L_has ["_law_told_here", "_law_n"] := by
    obtain ⟨fd, F⟩ := D.def_ 36 (d := d_L_has) rfl
    exact ⟨_, fd, F, He.glo_ok X G (D.fact 23 (f := .glo "_law_has") rfl), F.bindsN fun _ _ _ _ _ _ us hl => match us, hl with | [_, _], _ => rfl⟩
  have h_L_end : Has K mg "_law_end" s_L_end ["_law_told_here"] := by
    obtain ⟨fd, F⟩ := D.def_ 37 (d := d_L_end) rfl
    exact ⟨_, fd, F, He.glo_ok X G (D.fact 24 (f := .glo "_law_end") rfl), F.bindsN fun _ _ _ _ _ _ us hl => match us, hl with | [_], _ => rfl⟩
  have h_L_described : Has K mg "_law_described" s_L_described ["_law_fun", "_law_start", "_law_low_step", "_law_end_here", "_law_high_step"] := by
    obtain ⟨fd, F⟩ := D.def_ 38 (d := d_L_described) rfl
    exact ⟨_, fd, F, He.glo_ok X G (D.fact 25 (f := .glo "_law_described") rfl), F.bindsN fun _ _ _ _ _ _ us hl => match us, hl with | [_, _, _, _, _], _ => rfl⟩
  have h_L_step_of : Has K mg "_law_step_of" s_L_step_of ["_law_row"] := by
    obtain ⟨fd, F⟩ := D.def_ 39 (d := d_L_step_of) rfl
    exact ⟨_, fd, F, He.glo_ok X G (D.fact 26 (f := .glo "_law_step_of") rfl), F.bindsN fun _ _ _ _ _ _ us hl => match us, hl with | [_], _ => rfl⟩
  have h_L_told : Has K mg "_law_told" s_L_told ["_law_one"] := by
    obtain ⟨fd, F⟩ := D.def_ 41 (d := d_L_told) rfl
    exact ⟨_, fd, F, He.glo_ok X G (D.fact 28 (f := .glo "_law_told") rfl), F.bindsN fun _ _ _ _ _ _ us hl => match us, hl with | [_], _ => rfl⟩
  have h_L_is_one_form : Has K mg "_law_is_one_form" s_L_is_one_form ["_law_one", "_law_told_here"] := by
    obtain ⟨fd, F⟩ := D.def_ 42 (d := d_L_is_one_form) rfl
    exact ⟨_, fd, F, He.glo_ok X G (D.fact 29 (f := .glo "_law_is_one_form") rfl), F.bindsN fun _ _ _ _ _ _ us hl => match us, hl with | [_, _], _ => rfl⟩
  have h_L_odd_items : Has K mg "_law_odd_items" s_L_odd_items ["_law_row"] := by
    obtain ⟨fd, F⟩ := D.def_ 43 (d := d_L_odd_items) rfl
    exact ⟨_, fd, F, He.glo_ok X G (D.fact 30 (f := .glo "_law_odd_items") rfl), F.bindsN fun _ _ _ _ _ _ us hl => match us, hl with | [_], _ => rfl⟩
  have h_L_bits : Has K mg "_law_bits" s_L_bits ["_law_pen_here", "_law_many"] := by
    obtain ⟨fd, F⟩ := D.def_ 44 (d := d_L_bits) rfl
    exact ⟨_, fd, F, He.glo_ok X G (D.fact 31 (f := .glo "_law_bits") rfl), F.bindsN fun _ _ _ _ _ _ us hl => match us, hl with | [_, _], _ => rfl⟩
  have h_L_made_set : Has K mg "_law_made_set" s_L_made_set ["_law_pen_here", "_law_told_here"] := by
    obtain ⟨fd, F⟩ := D.def_ 47 (d := d_L_made_set) rfl
    exact ⟨_, fd, F, He.glo_ok X G (D.fact 34 (f := .glo "_law_made_set") rfl), F.bindsN fun _ _ _ _ _ _ us hl => match us, hl with | [_, _], _ => rfl⟩
  have h_L_mirror : Has K mg "_law_mirror" s_L_mirror ["_law_told_here"] := by
    obtain ⟨fd, F⟩ := D.def_ 48 (d := d_L_mirror) rfl
    exact ⟨_, fd, F, He.glo_ok X G (D.fact 35 (f := .glo "_law_mirror") rfl), F.bindsN fun _ _ _ _ _ _ us hl => match us, hl with | [_], _ => rfl⟩
  have h_L_signed : Has K mg "_law_signed" s_L_signed ["_law_one", "_law_other", "_law_way"] := by
    obtain ⟨fd, F⟩ := D.def_ 50 (d := d_L_signed) rfl
    exact ⟨_, fd, F, He.glo_ok X G (D.fact 37 (f := .glo "_law_signed") rfl), F.bindsN fun _ _ _ _ _ _ us hl => match us, hl with | [_, _, _], _ => rfl⟩
  have h_L_flipped : Has K mg "_law_flipped" s_L_flipped ["_law_told_here"] := by
    obtain ⟨fd, F⟩ := D.def_ 51 (d := d_L_flipped) rfl
    exact ⟨_, fd, F, He.glo_ok X G (D.fact 38 (f := .glo "_law_flipped") rfl), F.bindsN fun _ _ _ _ _ _ us hl => match us, hl with | [_], _ => rfl⟩
  have h_L_is_empty : Has K mg "_law_is_empty" s_L_is_empty ["_law_told_here"] := by
    obtain ⟨fd, F⟩ := D.def_ 52 (d := d_L_is_empty) rfl
    exact ⟨_, fd, F, He.glo_ok X G (D.fact 39 (f := .glo "_law_is_empty") rfl), F.bindsN fun _ _ _ _ _ _ us hl => match us, hl with | [_], _ => rfl⟩
  have h_L_is_like : Has K mg "_law_is_like" s_L_is_like ["_law_one", "_law_told_here", "_law_pen_here"] := by
    obtain ⟨fd, F⟩ := D.def_ 53 (d := d_L_is_like) rfl
    exact ⟨_, fd, F, He.glo_ok X G (D.fact 40 (f := .glo "_law_is_like") rfl), F.bindsN fun _ _ _ _ _ _ us hl => match us, hl with | [_, _, _], _ => rfl⟩
  have h_L_all_signs : Has K mg "_law_all_signs" s_L_all_signs ["_law_pen_here", "_law_told_here", "_law_due", "_law_way"] := by
    obtain ⟨fd, F⟩ := D.def_ 54 (d := d_L_all_signs) rfl
    exact ⟨_, fd, F, He.glo_ok X G (D.fact 41 (f := .glo "_law_all_signs") rfl), F.bindsN fun _ _ _ _ _ _ us hl => match us, hl with | [_, _, _, _], _ => rfl⟩
  have h_L_form : HasL K mg "_law_form" s_L_form ["_law_told_here"] (He.cT K ("_law_form", none)).1 := by
    obtain ⟨fd, F⟩ := D.def_ 40 (d := d_L_form) rfl
    exact hasL_of F (He.glo_ok X G (D.fact 27 (f := .glo "_law_form") rfl)) (F.bindsN fun _ _ _ _ _ _ us hl => match us, hl with | [_], _ => rfl)
  have h_L_stretched : HasL K mg "_law_stretched" s_L_stretched ["_law_pen_here", "_law_told_here", "_law_most"] (He.cT K ("_law_stretched", none)).1 := by
    obtain ⟨fd, F⟩ := D.def_ 45 (d := d_L_stretched) rfl
    exact hasL_of F (He.glo_ok X G (D.fact 32 (f := .glo "_law_stretched") rfl)) (F.bindsN fun _ _ _ _ _ _ us hl => match us, hl with | [_, _, _], _ => rfl)
  have h_L_some_set : HasL K mg "_law_some_set" s_L_some_set ["_law_pen_here", "_law_start", "_law_most"] (He.cT K ("_law_some_set", none)).1 := by
    obtain ⟨fd, F⟩ := D.def_ 46 (d := d_L_some_set) rfl
    exact hasL_of F (He.glo_ok X G (D.fact 33 (f := .glo "_law_some_set") rfl)) (F.bindsN fun _ _ _ _ _ _ us hl => match us, hl with | [_, _, _], _ => rfl)
  have h_L_joined : HasL K mg "_law_joined" s_L_joined ["_law_pen_here", "_law_one", "_law_other", "_law_way"] (He.cT K ("_law_joined", none)).1 := by
    obtain ⟨fd, F⟩ := D.def_ 49 (d := d_L_joined) rfl
    exact hasL_of F (He.glo_ok X G (D.fact 36 (f := .glo "_law_joined") rfl)) (F.bindsN fun _ _ _ _ _ _ us hl => match us, hl with | [_, _, _, _], _ => rfl)
  have h_L_brought_near : HasL K mg "_law_brought_near" s_L_brought_near ["_law_word", "_law_start"] (He.cT K ("_law_brought_near", none)).1 := by
    obtain ⟨fd, F⟩ := D.def_ 55 (d := d_L_brought_near) rfl
    exact hasL_of F (He.glo_ok X G (D.fact 42 (f := .glo "_law_brought_near") rfl)) (F.bindsN fun _ _ _ _ _ _ us hl => match us, hl with | [_, _], _ => rfl)
  have hm_init : HasM K (He.ga K "Rounds") "__init__" "Rounds.__init__" m_init ["self", "start", "below", "middle", "above"] := by
    obtain ⟨fd, F⟩ := D.def_ 12 (d := dm_init) rfl
    exact ⟨_, fd, F, He.meth_ok (D.fact 63 (f := .meth "Rounds" "__init__") rfl), F.bindsN fun _ _ _ _ _ _ us hl => match us, hl with | [_, _, _, _, _], _ => rfl⟩
  have hm_is_throughout : HasM K (He.ga K "Rounds") "is_throughout" "Rounds.is_throughout" m_is_throughout ["self"] := by
    obtain ⟨fd, F⟩ := D.def_ 13 (d := dm_is_throughout) rfl
    exact ⟨_, fd, F, He.meth_ok (D.fact 64 (f := .meth "Rounds" "is_throughout") rfl), F.bindsN fun _ _ _ _ _ _ us hl => match us, hl with | [_], _ => rfl⟩
  have hm_eq : HasM K (He.ga K "Rounds") "__eq__" "Rounds.__eq__" m_eq ["self", "other"] := by
    obtain ⟨fd, F⟩ := D.def_ 14 (d := dm_eq) rfl
    exact ⟨_, fd, F, He.meth_ok (D.fact 65 (f := .meth "Rounds" "__eq__") rfl), F.bindsN fun _ _ _ _ _ _ us hl => match us, hl with | [_, _], _ => rfl⟩
  have hm_contains : HasM K (He.ga K "Rounds") "__contains__" "Rounds.__contains__" m_contains ["self", "n"] := by
    obtain ⟨fd, F⟩ := D.def_ 15 (d := dm_contains) rfl
    exact ⟨_, fd, F, He.meth_ok (D.fact 66 (f := .meth "Rounds" "__contains__") rfl), F.bindsN fun _ _ _ _ _ _ us hl => match us, hl with | [_, _], _ => rfl⟩
  have hm_bool : HasM K (He.ga K "Rounds") "__bool__" "Rounds.__bool__" m_bool ["self"] := by
    obtain ⟨fd, F⟩ := D.def_ 16 (d := dm_bool) rfl
    exact ⟨_, fd, F, He.meth_ok (D.fact 67 (f := .meth "Rounds" "__bool__") rfl), F.bindsN fun _ _ _ _ _ _ us hl => match us, hl with | [_], _ => rfl⟩
  have hm_and : HasM K (He.ga K "Rounds") "__and__" "Rounds.__and__" m_and ["self", "other"] := by
    obtain ⟨fd, F⟩ := D.def_ 17 (d := dm_and) rfl
    exact ⟨_, fd, F, He.meth_ok (D.fact 68 (f := .meth "Rounds" "__and__") rfl), F.bindsN fun _ _ _ _ _ _ us hl => match us, hl with | [_, _], _ => rfl⟩
  have hm_or : HasM K (He.ga K "Rounds") "__or__" "Rounds.__or__" m_or ["self", "other"] := by
    obtain ⟨fd, F⟩ := D.def_ 18 (d := dm_or) rfl
    exact ⟨_, fd, F, He.meth_ok (D.fact 69 (f := .meth "Rounds" "__or__") rfl), F.bindsN fun _ _ _ _ _ _ us hl => match us, hl with | [_, _], _ => rfl⟩
  have hm_xor : HasM K (He.ga K "Rounds") "__xor__" "Rounds.__xor__" m_xor ["self", "other"] := by
    obtain ⟨fd, F⟩ := D.def_ 19 (d := dm_xor) rfl
    exact ⟨_, fd, F, He.meth_ok (D.fact 70 (f := .meth "Rounds" "__xor__") rfl), F.bindsN fun _ _ _ _ _ _ us hl => match us, hl with | [_, _], _ => rfl⟩
  have hm_sub : HasM K (He.ga K "Rounds") "__sub__" "Rounds.__sub__" m_sub ["self", "other"] := by
    obtain ⟨fd, F⟩ := D.def_ 20 (d := dm_sub) rfl
    exact ⟨_, fd, F, He.meth_ok (D.fact 71 (f := .meth "Rounds" "__sub__") rfl), F.bindsN fun _ _ _ _ _ _ us hl => match us, hl with | [_, _], _ => rfl⟩
  have hm_invert : HasM K (He.ga K "Rounds") "__invert__" "Rounds.__invert__" m_invert ["self"] := by
    obtain ⟨fd, F⟩ := D.def_ 21 (d := dm_invert) rfl
    exact ⟨_, fd, F, He.meth_ok (D.fact 72 (f := .meth "Rounds" "__invert__") rfl), F.bindsN fun _ _ _ _ _ _ us hl => match us, hl with | [_], _ => rfl⟩
  have hm_neg : HasM K (He.ga K "Rounds") "__neg__" "Rounds.__neg__" m_neg ["self"] := by
    obtain ⟨fd, F⟩ := D.def_ 22 (d := dm_neg) rfl
    exact ⟨_, fd, F, He.meth_ok (D.fact 73 (f := .meth "Rounds" "__neg__") rfl), F.bindsN fun _ _ _ _ _ _ us hl => match us, hl with | [_], _ => rfl⟩
  have hm_within : HasM K (He.ga K "Rounds") "within" "Rounds.within" m_within ["self", "other"] := by
    obtain ⟨fd, F⟩ := D.def_ 23 (d := dm_within) rfl
    exact ⟨_, fd, F, He.meth_ok (D.fact 74 (f := .meth "Rounds" "within") rfl), F.bindsN fun _ _ _ _ _ _ us hl => match us, hl with | [_, _], _ => rfl⟩
  have hm_apart : HasM K (He.ga K "Rounds") "apart" "Rounds.apart" m_apart ["self", "other"] := by
    obtain ⟨fd, F⟩ := D.def_ 24 (d := dm_apart) rfl
    exact ⟨_, fd, F, He.meth_ok (D.fact 75 (f := .meth "Rounds" "apart") rfl), F.bindsN fun _ _ _ _ _ _ us hl => match us, hl with | [_, _], _ => rfl⟩
  obtain ⟨fd, F⟩ := D.def_ 56 (d := d_law) rfl
  have e := hfa.symm.trans (He.glo_ok X G (D.fact 43 (f := .glo "law") rfl))
  have e2 : f = He.ga K "law" := by injection e with e; injection e
  subst e2
  have bL : Binds K fd ["_law_script"] [] := F.bindsN fun _ _ _ _ _ _ us hl => match us, hl with | [_], _ => rfl
  have bA := FunD.bindsA (ps := ["_law_script"]) F fun _ _ _ _ _ _ us hl => match us, hl with | [_], _ => rfl
  refine ⟨fd, fun s v => bA s [v] rfl, fun base KB GB hT => ?_⟩
  have o_is_int := w_is_int (P := P) (w := w) (base := base) T h_is_int
  have o_is_row := w_is_row (P := P) (w := w) (base := base) T h_is_row
  have o_check_int := w_check_int (P := P) (w := w) (base := base) T h_check_int o_is_int
  have o_greatest_divisor := w_greatest_divisor (P := P) (w := w) (base := base) T h_greatest_divisor
  have o_common_multiple := w_common_multiple (P := P) (w := w) (base := base) T h_common_multiple o_greatest_divisor
  have o_least_step := w_least_step (P := P) (w := w) (base := base) T h_least_step
  have o_rolled := w_rolled (P := P) (w := w) (base := base) T h_rolled
  have o_piece := w_piece (P := P) (w := w) (base := base) T h_piece
  have o_is_member := w_is_member (P := P) (w := w) (base := base) T h_is_member o_piece
  have o_least_middle := w_least_middle (P := P) (w := w) (base := base) T h_least_middle o_piece o_rolled
  have o_one_form := w_one_form (P := P) (w := w) (base := base) T h_one_form o_least_step o_rolled o_least_middle
  have o_is_truths := w_is_truths (P := P) (w := w) (base := base) T h_is_truths o_is_row
  have o_init := w_init (P := P) (w := w) (base := base) T hm_init o_check_int o_is_truths o_one_form
  have o_end_of := w_end_of (P := P) (w := w) (base := base) T h_end_of
  have o_is_throughout := w_is_throughout (P := P) (w := w) (base := base) T hm_is_throughout
  have o_eq := w_eq (P := P) (w := w) (base := base) T hm_eq
  have o_contains := w_contains (P := P) (w := w) (base := base) T hm_contains o_is_member
  have o_bool := w_bool (P := P) (w := w) (base := base) T hm_bool
  have o_mixed_row := w_mixed_row (P := P) (w := w) (base := base) T h_mixed_row o_contains
  have o_joint_bounds := w_joint_bounds (P := P) (w := w) (base := base) T h_joint_bounds o_is_throughout o_end_of
  have o_combined := w_combined (P := P) (w := w) (base := base) T h_combined o_common_multiple o_joint_bounds o_mixed_row o_init
  have o_and := w_and (P := P) (w := w) (base := base) T hm_and o_combined
  have o_or := w_or (P := P) (w := w) (base := base) T hm_or o_combined
  have o_xor := w_xor (P := P) (w := w) (base := base) T hm_xor o_combined
  have o_sub := w_sub (P := P) (w := w) (base := base) T hm_sub o_combined
  have o_within := w_within (P := P) (w := w) (base := base) T hm_within o_combined o_bool
  have o_apart := w_apart (P := P) (w := w) (base := base) T hm_apart o_combined o_bool
  have o_neg := w_neg (P := P) (w := w) (base := base) T hm_neg o_end_of o_init
  have o_invert := w_invert (P := P) (w := w) (base := base) T hm_invert o_init
  have o_L_is_int := w_L_is_int (P := P) (w := w) (base := base) T h_L_is_int
  have o_L_is := w_L_is (P := P) (w := w) (base := base) T h_L_is
  have o_L_has := w_L_has (P := P) (w := w) (base := base) T h_L_has
  have o_L_end := w_L_end (P := P) (w := w) (base := base) T h_L_end
  have o_L_told := w_L_told (P := P) (w := w) (base := base) T h_L_told
  have o_L_is_empty := w_L_is_empty (P := P) (w := w) (base := base) T h_L_is_empty
  have o_L_described := w_L_described (P := P) (w := w) (base := base) T h_L_described
  have o_L_step_of := w_L_step_of (P := P) (w := w) (base := base) T h_L_step_of
  have o_L_pen := w_L_pen (P := P) (w := w) (base := base) T h_L_pen
  have o_L_draw := w_L_draw (P := P) (w := w) (base := base) (Tb := Tbl K) T h_L_draw
  have o_L_pick := w_L_pick (P := P) (w := w) (base := base) T h_L_pick o_L_draw
  have o_L_far := w_L_far (P := P) (w := w) (base := base) T h_L_far o_L_draw o_L_pick
  have o_L_listed := w_L_listed (P := P) (w := w) (base := base) T h_L_listed o_L_pick
  have o_L_bits := w_L_bits (P := P) (w := w) (base := base) T h_L_bits o_L_draw
  have o_L_flipped := w_L_flipped (P := P) (w := w) (base := base) T h_L_flipped
  have o_L_mirror := w_L_mirror (P := P) (w := w) (base := base) T h_L_mirror o_L_end
  have o_L_odd_items := w_L_odd_items (P := P) (w := w) (base := base) T h_L_odd_items
  have o_L_form := w_L_form (P := P) (w := w) (base := base) T h_L_form (lamT_of nd hT (x := "_law_form") (by decide +kernel)) o_L_step_of o_L_end o_L_has o_L_described
  have o_L_joined := w_L_joined (P := P) (w := w) (base := base) T h_L_joined (lamT_of nd hT (x := "_law_joined") (by decide +kernel)) o_L_end o_L_has o_L_described
  have o_L_brought_near := w_L_brought_near (P := P) (w := w) (base := base) T h_L_brought_near (lamT_of nd hT (x := "_law_brought_near") (by decide +kernel)) o_L_has o_L_described
  have o_L_signed := w_L_signed (P := P) (w := w) (base := base) T h_L_signed o_and o_or o_xor o_sub
  have o_L_is_one_form := w_L_is_one_form (P := P) (w := w) (base := base) T h_L_is_one_form o_L_is_int o_L_odd_items o_L_told o_L_form
  have o_L_stretched := w_L_stretched (P := P) (w := w) (base := base) T h_L_stretched (lamT_of nd hT (x := "_law_stretched") (by decide +kernel)) o_L_draw o_L_end o_L_has o_L_described
  have o_L_some_set := w_L_some_set (P := P) (w := w) (base := base) T h_L_some_set (lamT_of nd hT (x := "_law_some_set") (by decide +kernel)) o_L_draw o_L_pick o_L_bits o_L_has o_L_described
  have o_L_made_set := w_L_made_set (P := P) (w := w) (base := base) T h_L_made_set o_L_draw o_L_stretched o_L_listed o_init
  have o_L_is_like := w_L_is_like (P := P) (w := w) (base := base) T h_L_is_like o_L_is_one_form o_L_far o_contains o_L_has
  have o_L_all_signs := w_L_all_signs (P := P) (w := w) (base := base) T h_L_all_signs o_L_made_set o_L_signed o_L_joined o_L_is_like o_invert o_neg o_L_flipped o_L_mirror o_L_is o_within o_apart o_L_is_empty o_eq o_L_form o_L_is_one_form
  have h_law : Has K mg "law" s_law ["_law_script"] := ⟨_, fd, F, hfa, bL⟩
  obtain ⟨f2, fd2, F2, ⟨m2, oc, od, osl, lk2⟩, _, _⟩ := w_law (P := P) (w := w) (base := base) T h_law o_L_pen o_L_draw o_L_pick o_L_far o_L_some_set o_L_all_signs o_L_brought_near o_L_form o_L_joined
  have ef : f2 = He.ga K "law" := by
    rw [hfa] at m2
    injection m2 with m2; injection m2 with m2; exact m2.symm
  subst ef
  obtain ⟨oc', od', dV, kV, doc, pm, an, cdv, ct, osl', ed, lk, _⟩ := F.ex
  have lk : K.lookup (He.ga K "law") = some ⟨oc', od', .func fd, osl'⟩ := lk
  rw [lk] at lk2
  injection lk2 with lk2
  injection lk2 with _ _ lk2 _
  injection lk2 with lk2
  rw [lk2]
  exact F2
end K14
open PySem PySem.W PySem.Calls PyProof.Rows
theorem PySem.Challenge.cw_anylead_k14_whole_signs_of_sets_holds : PySem.Challenge.rw_anylead_k14_whole_signs_of_sets.Holds := by
  w_on; o_law
  refine HandSHeadRun.head_any (r := OpenLaw.row PySem.Challenge.rw_anylead_k14_whole_signs_of_sets) (q := view (OpenLaw.row PySem.Challenge.rw_anylead_k14_whole_signs_of_sets).prog [64]) (H := K14.hk) (ob := K14.ob) (M := 20000) (loose := K14.ls) (d := HandSHeadRun.topDef (OpenLaw.row PySem.Challenge.rw_anylead_k14_whole_signs_of_sets).prog 64) (kwd := []) K14.ob_eq
    (by kernel_rfl) (fun s => by kernel_rfl) K14.run (by kernel_rfl) (by kernel_rfl) (by kernel_rfl) (by rfl) (by first | assumption | decide +kernel) (by decide +kernel) ⟨rfl, rfl, rfl, rfl, rfl, by decide +kernel⟩ ?hw ?hc
  case hw => w_witness2
  case hc =>
    refine LamX.walk_ofTsE (l := PySem.Challenge.rw_anylead_k14_whole_signs_of_sets) (n := 63) (k := 10) (x := "_law_script") (CX := fun _ => L2.CX0) rfl (by decide) (by kernel_rfl) ⟨rfl, by decide, by decide⟩ ?F (fun _ _ _ _ _ z => z)
    intro w mg fa h Y G hmg0
    obtain ⟨K, KX, c⟩ := Y
    have hmg : mg ("law" : PySem.Str) = some (.ref fa) := by
      have e : (HandSHeadRun.topDef (OpenLaw.row PySem.Challenge.rw_anylead_k14_whole_signs_of_sets).prog 64).name = ("law" : PySem.Str) := by kernel_rfl
      rw [← e]
      exact hmg0
    obtain ⟨fd, hb, hF⟩ := K14.facts (P := (PySem.Challenge.rw_anylead_k14_whole_signs_of_sets).prog) (w := w) KX G hmg c
    refine ⟨K, KX, fd, K14.tf.map (He.cT K), K14.spLaw (K14.Tbl K) K, fun p hp => ?_, fun p hp => ?_, fun p hp => ?_, hb, fun H a ns _ _ hH hS => ⟨a, ns, rfl, hS, fun p hp => ?_, fun _ => rfl⟩, hF⟩
    · obtain ⟨q, hq, rfl⟩ := List.mem_map.mp hp
      exact c.empty q hq
    · obtain ⟨q, hq, rfl⟩ := List.mem_map.mp hp
      exact c.out q hq
    · obtain ⟨q, hq, rfl⟩ := List.mem_map.mp hp
      exact PySem.W.codeHd_of_K KX (c.hd q hq)
    · obtain ⟨q, hq, rfl⟩ := List.mem_map.mp hp
      exact LamX.TabS.nil (hH _ (List.mem_map.mpr ⟨q, hq, rfl⟩))
