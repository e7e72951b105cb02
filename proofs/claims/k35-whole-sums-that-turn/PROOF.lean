import PyProof.Rows.All
import Wide.All
import OpenK.AllK
import Wide.FinOn
import KE.KRevSl
import KE.GoesEnum
import HandS.ForMost
import HandS.Strs
import HandS.SetBool
import HandS.Zip
import HandS.Star
import HandS.TupAny
import HandS.Defaults
import HandS.Walk
import HandS.IsInst
import HandS.Wide
import HandS.Evl
import HandS.Flow
import KE.KStateDown
import HandS.Ends
import HandS.WordsExc
import HandS.Head0
import HandS.Head1
import HandS.Head2
import HandS.HeadEnd
import HandS.HeadHook1
import HandS.HeadHook2
import PySem.Challenge.RW_restworld_k35_whole_sums_that_turn
set_option Elab.async false
set_option linter.all false
set_option maxRecDepth 100000
set_option maxHeartbeats 4000000
/-! Whole sums that turn: the plain law first, then rules beyond the hand layer, the promises, the walks, the end. -/
/-! Whole sums that turn: the plain law (no program in sight). -/
namespace Rw35

/-- the value of a sum -/
def ev : List Int → Int → Int
  | [], _ => 0
  | t :: c, x => ev c x * x + t
/-- the slope's value -/
def dv : List Int → Int → Int
  | [], _ => 0
  | _ :: c, x => ev c x + x * dv c x
def slF (k : Int) : List Int → List Int
  | [] => []
  | t :: c => k * t :: slF (k + 1) c
def slope (c : List Int) : List Int := if 1 < c.length then (slF 0 c).tail else [0]

theorem ev_slF : ∀ (c : List Int) (k x : Int), ev (slF k c) x = k * ev c x + x * dv c x
  | [], k, x => by simp [slF, ev, dv]
  | t :: c, k, x => by
    show ev (slF (k + 1) c) x * x + k * t = k * (ev c x * x + t) + x * (ev c x + x * dv c x)
    rw [ev_slF c (k + 1) x]
    grind
theorem ev_slope (c : List Int) (x : Int) : ev (slope c) x = dv c x := by
  unfold slope
  match c with
  | [] => simp [ev, dv]
  | [t] => simp [ev, dv]
  | t :: u :: c =>
    rw [if_pos (by simp)]
    show ev (slF (0 + 1) (u :: c)) x = ev (u :: c) x + x * dv (u :: c) x
    rw [ev_slF]
    grind

theorem taylor : ∀ (c : List Int) (x h : Int), ∃ g, ev c (x + h) = ev c x + h * dv c x + h * h * g
  | [], x, h => ⟨0, by simp [ev, dv]⟩
  | t :: c, x, h => by
    obtain ⟨g, e⟩ := taylor c x h
    refine ⟨dv c x + g * (x + h), ?_⟩
    show ev c (x + h) * (x + h) + t = ev c x * x + t + h * (ev c x + x * dv c x) + h * h * (dv c x + g * (x + h))
    rw [e]
    grind

theorem ev_cong (c : List Int) {n x y : Int} (h : n ∣ x - y) : n ∣ ev c x - ev c y := by
  obtain ⟨g, e⟩ := taylor c y (x - y)
  have e1 : y + (x - y) = x := by omega
  rw [e1] at e
  have e2 : ev c x - ev c y = (x - y) * (dv c y + (x - y) * g) := by rw [e]; grind
  rw [e2]
  exact Int.dvd_trans h (Int.dvd_mul_right _ _)
theorem dv_cong : ∀ (c : List Int) {n x y : Int}, n ∣ x - y → n ∣ dv c x - dv c y := fun c n x y h => by
  rw [← ev_slope, ← ev_slope]
  exact ev_cong _ h

/-- a sum turns the rests by n -/
def Tn (c : List Int) (n : Int) : Prop := ∀ x y, n ∣ ev c x - ev c y → n ∣ x - y
def Sj (c : List Int) (n : Int) : Prop := ∀ r, ∃ x, n ∣ ev c x - r

/-! ### lists of different things -/
theorem nodup_le {l : List Nat} : ∀ {m : List Nat}, l.Nodup → (∀ x ∈ l, x ∈ m) → l.length ≤ m.length := by
  induction l with
  | nil => intro m _ _; exact Nat.zero_le _
  | cons a l ih =>
    intro m h s
    have ha : a ∈ m := s a List.mem_cons_self
    have h1 := (List.nodup_cons.mp h)
    have := ih (m := m.erase a) h1.2 (fun x hx => by
      have hne : x ≠ a := fun e => h1.1 (e ▸ hx)
      exact (List.mem_erase_of_ne hne).mpr (s x (List.mem_cons_of_mem _ hx)))
    rw [List.length_erase_of_mem ha] at this
    have hp : 0 < m.length := List.length_pos_of_mem ha
    simp only [List.length_cons]
    omega
theorem map_nodup {n : Nat} {f : Nat → Nat} (inj : ∀ i, i < n → ∀ j, j < n → f i = f j → i = j) : ((List.range n).map f).Nodup := by
  induction n with
  | zero => simp
  | succ n ih =>
    rw [List.range_succ, List.map_append, List.nodup_append]
    refine ⟨ih fun i hi j hj => inj i (by omega) j (by omega), by simp, ?_⟩
    intro a ha b hb e
    obtain ⟨i, hi, ei⟩ := List.mem_map.mp ha
    have hb' : b = f n := by simpa using hb
    have hi' := List.mem_range.mp hi
    have := inj i (by omega) n (by omega) (by rw [ei, e, hb'])
    omega
theorem inj_surj {n : Nat} {f : Nat → Nat} (hf : ∀ i, i < n → f i < n) (inj : ∀ i, i < n → ∀ j, j < n → f i = f j → i = j) (r : Nat) (hr : r < n) : ∃ i, i < n ∧ f i = r := by
  apply Classical.byContradiction
  intro hno
  have nd : (r :: (List.range n).map f).Nodup := List.nodup_cons.mpr ⟨fun h => by
    obtain ⟨i, hi, e⟩ := List.mem_map.mp h
    exact hno ⟨i, List.mem_range.mp hi, e⟩, map_nodup inj⟩
  have := nodup_le (m := List.range n) nd (fun x hx => by
    rcases List.mem_cons.mp hx with e | hx
    · rw [e]; exact List.mem_range.mpr hr
    · obtain ⟨i, hi, e⟩ := List.mem_map.mp hx
      rw [← e]; exact List.mem_range.mpr (hf i (List.mem_range.mp hi)))
  rw [List.length_cons, List.length_map, List.length_range] at this
  omega
theorem surj_inj {n : Nat} {f : Nat → Nat} (sj : ∀ r, r < n → ∃ i, i < n ∧ f i = r) (i : Nat) (hi : i < n) (j : Nat) (hj : j < n) (e : f i = f j) : i = j := by
  apply Classical.byContradiction
  intro hne
  have nd : (List.range n).Nodup := List.nodup_range
  have := nodup_le (m := ((List.range n).erase j).map f) nd (fun r hr => by
    obtain ⟨k, hk, ek⟩ := sj r (List.mem_range.mp hr)
    by_cases hkj : k = j
    · exact List.mem_map.mpr ⟨i, (List.mem_erase_of_ne hne).mpr (List.mem_range.mpr hi), by rw [e, ← hkj, ek]⟩
    · exact List.mem_map.mpr ⟨k, (List.mem_erase_of_ne hkj).mpr (List.mem_range.mpr hk), ek⟩)
  rw [List.length_map, List.length_erase_of_mem (List.mem_range.mpr hj), List.length_range] at this
  omega

theorem dvd_of_emod_eq {n a b : Int} (h : a % n = b % n) : n ∣ a - b := Int.dvd_of_emod_eq_zero (Int.emod_eq_emod_iff_emod_sub_eq_zero.mp h)
theorem emod_eq_of_dvd {n a b : Int} (h : n ∣ a - b) : a % n = b % n := Int.emod_eq_emod_iff_emod_sub_eq_zero.mpr (Int.emod_eq_zero_of_dvd h)
theorem dvd_emod_sub (n x : Int) : n ∣ x % n - x := ⟨-(x / n), by have := Int.emod_def x n; rw [this]; grind⟩

section
variable {c : List Int} {n : Int}
def fN (c : List Int) (n : Int) (i : Nat) : Nat := (ev c (i : Int) % n).toNat
theorem fN_lt (hn : 0 < n) (i : Nat) : fN c n i < n.toNat := by
  have h1 := Int.emod_nonneg (ev c (i : Int)) (show n ≠ 0 by omega)
  have h2 := Int.emod_lt_of_pos (ev c (i : Int)) hn
  unfold fN; omega
theorem fN_eq (hn : 0 < n) {i j : Nat} (e : fN c n i = fN c n j) : n ∣ ev c i - ev c j := by
  have h1 := Int.emod_nonneg (ev c (i : Int)) (show n ≠ 0 by omega)
  have h2 := Int.emod_nonneg (ev c (j : Int)) (show n ≠ 0 by omega)
  refine dvd_of_emod_eq ?_
  unfold fN at e; omega
theorem small_dvd {i j : Nat} (hn : 0 < n) (hi : i < n.toNat) (hj : j < n.toNat) (h : n ∣ (i : Int) - j) : i = j := by
  have := emod_eq_of_dvd h
  rw [Int.emod_eq_of_lt (by omega) (by omega), Int.emod_eq_of_lt (by omega) (by omega)] at this
  omega
theorem Tn.sj (hn : 0 < n) (h : Tn c n) : Sj c n := fun r => by
  have hr0 := Int.emod_nonneg r (show n ≠ 0 by omega)
  have hr1 := Int.emod_lt_of_pos r hn
  obtain ⟨i, hi, e⟩ := inj_surj (n := n.toNat) (f := fN c n) (fun i _ => fN_lt hn i) (fun i hi j hj e => small_dvd hn hi hj (h _ _ (fN_eq hn e))) (r % n).toNat (by omega)
  refine ⟨i, dvd_of_emod_eq ?_⟩
  have h1 := Int.emod_nonneg (ev c (i : Int)) (show n ≠ 0 by omega)
  unfold fN at e; omega
theorem Sj.tn (hn : 0 < n) (h : Sj c n) : Tn c n := fun x y hd => by
  have hx0 := Int.emod_nonneg x (show n ≠ 0 by omega)
  have hx1 := Int.emod_lt_of_pos x hn
  have hy0 := Int.emod_nonneg y (show n ≠ 0 by omega)
  have hy1 := Int.emod_lt_of_pos y hn
  have key := surj_inj (n := n.toNat) (f := fN c n) (fun r hr => by
    obtain ⟨z, hz⟩ := h (r : Int)
    have hz0 := Int.emod_nonneg z (show n ≠ 0 by omega)
    have hz1 := Int.emod_lt_of_pos z hn
    refine ⟨(z % n).toNat, by omega, ?_⟩
    have e0 : (((z % n).toNat : Nat) : Int) = z % n := by omega
    have e1 := emod_eq_of_dvd (ev_cong c (dvd_emod_sub n z))
    have e2 := emod_eq_of_dvd hz
    have e3 : (r : Int) % n = r := Int.emod_eq_of_lt (by omega) (by omega)
    unfold fN
    rw [e0, e1, e2, e3]
    omega) (x % n).toNat (by omega) (y % n).toNat (by omega) (by
    unfold fN
    have e0 : (((x % n).toNat : Nat) : Int) = x % n := by omega
    have e1 : (((y % n).toNat : Nat) : Int) = y % n := by omega
    rw [e0, e1, emod_eq_of_dvd (ev_cong c (dvd_emod_sub n x)), emod_eq_of_dvd (ev_cong c (dvd_emod_sub n y)), emod_eq_of_dvd hd])
  exact dvd_of_emod_eq (by omega)
theorem Tn.of_dvd {a : Int} (hn : 0 < n) (ha : 0 < a) (hd : a ∣ n) (h : Tn c n) : Tn c a :=
  Sj.tn ha fun r => let ⟨x, hx⟩ := h.sj hn r; ⟨x, Int.dvd_trans hd hx⟩
/-- as the program asks: no rest twice -/
theorem tn_nodup (hn : 0 < n) : ((List.range n.toNat).map fun i : Nat => ev c (i : Int) % n).Nodup ↔ Tn c n := by
  have e : ((List.range n.toNat).map (fN c n)) = ((List.range n.toNat).map fun i : Nat => ev c (i : Int) % n).map Int.toNat := by
    rw [List.map_map]; rfl
  constructor
  · intro h x y hd
    have hx0 := Int.emod_nonneg x (show n ≠ 0 by omega)
    have hx1 := Int.emod_lt_of_pos x hn
    have hy0 := Int.emod_nonneg y (show n ≠ 0 by omega)
    have hy1 := Int.emod_lt_of_pos y hn
    have hp := List.pairwise_iff_getElem.mp h
    simp only [List.getElem_map, List.getElem_range, List.length_map, List.length_range] at hp
    have ex : (((x % n).toNat : Nat) : Int) = x % n := by omega
    have ey : (((y % n).toNat : Nat) : Int) = y % n := by omega
    have eq : ev c (x % n) % n = ev c (y % n) % n := by
      rw [emod_eq_of_dvd (ev_cong c (dvd_emod_sub n x)), emod_eq_of_dvd (ev_cong c (dvd_emod_sub n y)), emod_eq_of_dvd hd]
    apply Classical.byContradiction
    intro hno
    have hne : x % n ≠ y % n := fun z => hno (dvd_of_emod_eq z)
    rcases Nat.lt_trichotomy (x % n).toNat (y % n).toNat with l | l | l
    · exact hp _ _ (by omega) (by omega) l (by rw [ex, ey]; exact eq)
    · omega
    · exact hp _ _ (by omega) (by omega) l (by rw [ex, ey]; exact eq.symm)
  · intro h
    refine List.pairwise_iff_getElem.mpr fun i j hi hj hij => ?_
    simp only [List.getElem_map, List.getElem_range, List.length_map, List.length_range] at hi hj ⊢
    intro q
    have := small_dvd hn hi hj (h _ _ (dvd_of_emod_eq q))
    omega
end

/-! ### primes -/
def Pr (p : Int) : Prop := 2 ≤ p ∧ ∀ d, 2 ≤ d → d ∣ p → d = p
theorem dvd_of_gcd_one {p a b : Int} (hd : p ∣ a * b) (h : Int.gcd p a = 1) : p ∣ b := by
  have h1 : p.natAbs ∣ a.natAbs * b.natAbs := by
    rw [← Int.natAbs_mul]
    exact Int.natAbs_dvd_natAbs.mpr hd
  exact Int.natAbs_dvd_natAbs.mp (Nat.Coprime.dvd_of_dvd_mul_left (show Nat.Coprime p.natAbs a.natAbs from h) h1)
theorem Pr.euclid {p a b : Int} (h : Pr p) (hd : p ∣ a * b) : p ∣ a ∨ p ∣ b := by
  have hg : ((Int.gcd p a : Nat) : Int) ∣ p := Int.gcd_dvd_left ..
  have hg2 : ((Int.gcd p a : Nat) : Int) ∣ a := Int.gcd_dvd_right ..
  have h0 : Int.gcd p a ≠ 0 := fun z => by
    have := Int.gcd_eq_zero_iff.mp z
    have := h.1
    omega
  by_cases h1 : Int.gcd p a = 1
  · exact .inr (dvd_of_gcd_one hd h1)
  · have := h.2 _ (by omega) hg
    rw [this] at hg2
    exact .inl hg2
theorem Pr.pos {p : Int} (h : Pr p) : 0 < p := by have := h.1; omega
theorem pow_pos' {p : Int} (h : 0 < p) (k : Nat) : 0 < p ^ k := Int.pow_pos h
theorem Pr.pow {p q : Int} (h : Pr q) : ∀ (k : Nat), q ∣ p ^ k → q ∣ p
  | 0, hd => by
    have := h.1
    have e : p ^ 0 = 1 := Int.pow_zero _
    rw [e] at hd
    have := Int.le_of_dvd (by omega) hd
    omega
  | k + 1, hd => by
    rw [Int.pow_succ] at hd
    rcases h.euclid hd with z | z
    · exact h.pow k z
    · exact z
theorem Pr.eq {p q : Int} (hp : Pr p) (hq : Pr q) (hd : q ∣ p) : q = p := hp.2 q hq.1 hd

/-- the lift: Hensel -/
theorem tn_lift {c : List Int} {p : Int} (hp : Pr p) (h1 : Tn c p) (hs : ∀ x, ¬ p ∣ dv c x) : ∀ k : Nat, Tn c (p ^ (k + 1))
  | 0 => by rw [show p ^ (0 + 1) = p from by rw [Int.pow_succ, Int.pow_zero, Int.one_mul]]; exact h1
  | k + 1 => fun x y hd => by
    have e : p ^ (k + 1 + 1) = p ^ (k + 1) * p := Int.pow_succ _ _
    have hq : 0 < p ^ (k + 1) := pow_pos' hp.pos _
    obtain ⟨h, eh⟩ := tn_lift hp h1 hs k x y (Int.dvd_trans ⟨p, e⟩ hd)
    obtain ⟨g, eg⟩ := taylor c y (x - y)
    have e1 : y + (x - y) = x := by omega
    rw [e1, eh] at eg
    have e2 : ev c x - ev c y = p ^ (k + 1) * (h * dv c y + p ^ (k + 1) * h * h * g) := by rw [eg]; grind
    rw [e2, e] at hd
    have h3 : p ∣ h * dv c y + p ^ (k + 1) * h * h * g := Int.dvd_of_mul_dvd_mul_left (by omega) hd
    have h4 : p ∣ p ^ (k + 1) * h * h * g := by
      rw [Int.pow_succ, Int.mul_comm (p ^ k) p]
      simp only [Int.mul_assoc]
      exact Int.dvd_mul_right _ _
    have h5 : p ∣ h * dv c y := by
      have := Int.dvd_sub h3 h4
      have e5 : h * dv c y + p ^ (k + 1) * h * h * g - p ^ (k + 1) * h * h * g = h * dv c y := by omega
      rwa [e5] at this
    rcases hp.euclid h5 with z | z
    · rw [eh, e]
      exact Int.mul_dvd_mul_left _ z
    · exact absurd z (hs y)
theorem tn_slope {c : List Int} {p : Int} (hp : Pr p) (h : Tn c (p ^ 2)) (x : Int) : ¬ p ∣ dv c x := fun hd => by
  have e2 : p ^ 2 = p * p := by rw [show (2 : Nat) = 1 + 1 from rfl, Int.pow_succ, Int.pow_succ, Int.pow_zero, Int.one_mul]
  have hp2 := hp.1
  obtain ⟨g, eg⟩ := taylor c x p
  obtain ⟨k, ek⟩ := hd
  have h1 : p ^ 2 ∣ ev c (x + p) - ev c x := ⟨k + g, by rw [eg, ek, e2]; grind⟩
  have h2 := h _ _ h1
  have e3 : x + p - x = p := by omega
  rw [e3, e2] at h2
  have := Int.le_of_dvd (by omega) h2
  have h4 : 2 * p ≤ p * p := Int.mul_le_mul_of_nonneg_right hp2 (by omega)
  omega
/-- by a power of a prime -/
def By (c : List Int) (p : Int) (e : Nat) : Prop := Tn c p ∧ (e = 1 ∨ ∀ x, ¬ p ∣ dv c x)
theorem tn_by {c : List Int} {p : Int} (hp : Pr p) {e : Nat} (he : 1 ≤ e) : Tn c (p ^ e) ↔ By c p e := by
  obtain ⟨k, rfl⟩ : ∃ k, e = k + 1 := ⟨e - 1, by omega⟩
  have hpp := hp.pos
  constructor
  · intro h
    refine ⟨h.of_dvd (pow_pos' hpp _) hpp ⟨p ^ k, by rw [Int.pow_succ, Int.mul_comm]⟩, ?_⟩
    cases k with
    | zero => exact .inl rfl
    | succ k =>
      refine .inr (tn_slope hp (h.of_dvd (pow_pos' hpp _) (pow_pos' hpp 2) ⟨p ^ k, ?_⟩))
      rw [show k + 1 + 1 = 2 + k from by omega, Int.pow_add]
  · rintro ⟨h1, h2⟩
    rcases h2 with h2 | h2
    · rw [show k + 1 = 0 + 1 from h2, show p ^ (0 + 1) = p from by rw [Int.pow_succ, Int.pow_zero, Int.one_mul]]
      exact h1
    · exact tn_lift hp h1 h2 k

/-! ### the powers of primes that make a base -/
def prod : List (Int × Nat) → Int
  | [] => 1
  | (p, e) :: l => p ^ e * prod l
/-- primes, each from 1 on often, ascending -/
def Fine (l : List (Int × Nat)) : Prop := (∀ q ∈ l, Pr q.1 ∧ 1 ≤ q.2) ∧ (l.map (·.1)).Pairwise (· < ·)
theorem prod_pos {l : List (Int × Nat)} (h : ∀ q ∈ l, Pr q.1 ∧ 1 ≤ q.2) : 0 < prod l := by
  induction l with
  | nil => show (0 : Int) < 1; omega
  | cons q l ih =>
    obtain ⟨p, e⟩ := q
    exact Int.mul_pos (pow_pos' (h _ List.mem_cons_self).1.pos e) (ih fun q hq => h q (List.mem_cons_of_mem _ hq))
theorem pr_prod {r : Int} (hr : Pr r) {l : List (Int × Nat)} (h : ∀ q ∈ l, Pr q.1 ∧ 1 ≤ q.2) (hd : r ∣ prod l) : ∃ q ∈ l, r = q.1 := by
  induction l with
  | nil =>
    have := Int.le_of_dvd (by show (0 : Int) < 1; omega) hd
    have h1 : prod [] = 1 := rfl
    have := hr.1
    omega
  | cons q l ih =>
    obtain ⟨p, e⟩ := q
    rcases hr.euclid (show r ∣ p ^ e * prod l from hd) with z | z
    · exact ⟨_, List.mem_cons_self, (h _ List.mem_cons_self).1.eq hr (hr.pow e z)⟩
    · obtain ⟨q, hq, e⟩ := ih (fun q hq => h q (List.mem_cons_of_mem _ hq)) z
      exact ⟨q, List.mem_cons_of_mem _ hq, e⟩
theorem pow_dvd_of_mul {p m w : Int} (hp : Pr p) (hm : ¬ p ∣ m) : ∀ (e : Nat) (w : Int), p ^ e ∣ m * w → p ^ e ∣ w
  | 0, w, _ => by rw [Int.pow_zero]; exact Int.one_dvd w
  | e + 1, w, h => by
    have e0 : p ^ (e + 1) = p * p ^ e := by rw [Int.pow_succ, Int.mul_comm]
    rw [e0] at h ⊢
    rcases hp.euclid (Int.dvd_trans (Int.dvd_mul_right _ _) h) with z | z
    · exact absurd z hm
    · obtain ⟨v, rfl⟩ := z
      have h2 : p ^ e ∣ m * v := by
        have e3 : m * (p * v) = p * (m * v) := by grind
        rw [e3] at h
        exact Int.dvd_of_mul_dvd_mul_left (by have := hp.pos; omega) h
      exact Int.mul_dvd_mul_left _ (pow_dvd_of_mul (w := w) hp hm e v h2)
theorem cop {p m z : Int} (hp : Pr p) (hm : ¬ p ∣ m) (e : Nat) (h1 : p ^ e ∣ z) (h2 : m ∣ z) : p ^ e * m ∣ z := by
  obtain ⟨w, rfl⟩ := h2
  obtain ⟨v, rfl⟩ := pow_dvd_of_mul (w := w) hp hm e w h1
  exact ⟨v, by grind⟩
theorem tn_prod {c : List Int} {l : List (Int × Nat)} (h : Fine l) : Tn c (prod l) ↔ ∀ q ∈ l, Tn c (q.1 ^ q.2) := by
  induction l with
  | nil => exact ⟨fun _ q hq => absurd hq List.not_mem_nil, fun _ x y _ => Int.one_dvd _⟩
  | cons q l ih =>
    obtain ⟨p, e⟩ := q
    obtain ⟨ha, hw⟩ := h
    have hl : ∀ q ∈ l, Pr q.1 ∧ 1 ≤ q.2 := fun q hq => ha q (List.mem_cons_of_mem _ hq)
    rw [List.map_cons, List.pairwise_cons] at hw
    have ih := ih ⟨hl, hw.2⟩
    have hp : Pr p := (ha _ List.mem_cons_self).1
    have hm : ¬ p ∣ prod l := fun z => by
      obtain ⟨q, hq, e⟩ := pr_prod hp hl z
      have := hw.1 q.1 (List.mem_map.mpr ⟨q, hq, rfl⟩)
      omega
    have p1 := pow_pos' hp.pos e
    have p2 := prod_pos hl
    show Tn c (p ^ e * prod l) ↔ _
    constructor
    · intro t q hq
      have pp := Int.mul_pos p1 p2
      rcases List.mem_cons.mp hq with rfl | hq
      · exact t.of_dvd pp p1 (Int.dvd_mul_right _ _)
      · exact ih.mp (t.of_dvd pp p2 (Int.dvd_mul_left _ _)) q hq
    · intro t x y hd
      refine cop hp hm e (t _ List.mem_cons_self x y (Int.dvd_trans (Int.dvd_mul_right _ _) hd)) ?_
      exact ih.mpr (fun q hq => t q (List.mem_cons_of_mem _ hq)) x y (Int.dvd_trans (Int.dvd_mul_left _ _) hd)
theorem dvd_prod {l : List (Int × Nat)} {q : Int × Nat} (hq : q ∈ l) : q.1 ^ q.2 ∣ prod l := by
  induction l with
  | nil => exact absurd hq List.not_mem_nil
  | cons r l ih =>
    obtain ⟨p, e⟩ := r
    rcases List.mem_cons.mp hq with rfl | hq
    · exact Int.dvd_mul_right _ _
    · exact Int.dvd_trans (ih hq) (Int.dvd_mul_left _ _)
theorem prime_dvd_prod {l : List (Int × Nat)} (h : Fine l) {q : Int × Nat} (hq : q ∈ l) : q.1 ∣ prod l := by
  obtain ⟨k, e⟩ : ∃ k, q.2 = k + 1 := ⟨q.2 - 1, by have := (h.1 q hq).2; omega⟩
  exact Int.dvd_trans ⟨q.1 ^ k, by rw [e, Int.pow_succ, Int.mul_comm]⟩ (dvd_prod hq)

/-- a line -/
theorem ev_line (a s x : Int) : ev [a, s] x = s * x + a := by show (0 * x + s) * x + a = s * x + a; rw [Int.zero_mul, Int.zero_add]
theorem tn_line {a s n : Int} (hn : 0 < n) : Tn [a, s] n ↔ Int.gcd s n = 1 := by
  constructor
  · intro h
    have hg : ((Int.gcd s n : Nat) : Int) ∣ s := Int.gcd_dvd_left ..
    obtain ⟨m, em⟩ : ((Int.gcd s n : Nat) : Int) ∣ n := Int.gcd_dvd_right ..
    obtain ⟨k, ek⟩ := hg
    have g0 : Int.gcd s n ≠ 0 := fun z => by
      have := (Int.gcd_eq_zero_iff.mp z).2
      omega
    have hm : 0 < m := by
      apply Classical.byContradiction
      intro hno
      have : ((Int.gcd s n : Nat) : Int) * m ≤ 0 := Int.mul_nonpos_of_nonneg_of_nonpos (by omega) (by omega)
      omega
    have h1 := h m 0 (by
      rw [ev_line, ev_line]
      have e : s * m + a - (s * 0 + a) = k * (((Int.gcd s n : Nat) : Int) * m) := by
        have : s * m = k * (((Int.gcd s n : Nat) : Int) * m) := by
          conv => lhs; rw [ek]
          grind
        omega
      rw [e, ← em]
      exact Int.dvd_mul_left _ _)
    rw [Int.sub_zero] at h1
    have h2 := Int.le_of_dvd hm h1
    have h3 : ((Int.gcd s n : Nat) : Int) * m ≤ 1 * m := by omega
    have h4 := Int.le_of_mul_le_mul_right h3 hm
    omega
  · intro h x y hd
    rw [ev_line, ev_line] at hd
    have e : s * x + a - (s * y + a) = s * (x - y) := by grind
    rw [e] at hd
    exact dvd_of_gcd_one hd (by rw [Int.gcd_comm]; exact h)
theorem tn_seven {a n : Int} (hn : 0 < n) : Tn [a] n ↔ Int.gcd 0 n = 1 := by
  have e : ∀ x, ev [a] x = ev [a, 0] x := fun x => by rw [ev_line]; show 0 * x + a = 0 * x + a; rfl
  rw [← tn_line (a := a) hn]
  unfold Tn
  simp only [e]
theorem gcd_step {a b : Int} (h : 0 < b) : Int.gcd b (a % b) = Int.gcd a b := by
  have e : a % b = a + b * (-(a / b)) := by
    have := Int.emod_def a b
    rw [this, Int.mul_neg]
    omega
  rw [e, Int.gcd_comm a b]
  simp
/-- led into one another -/
theorem tn_led {c d l : List Int} {n : Int} (e : ∀ x, ev l x = ev c (ev d x)) (h1 : Tn c n) (h2 : Tn d n) : Tn l n := fun x y hd => by
  rw [e, e] at hd
  exact h2 _ _ (h1 _ _ hd)
/-- by p ** k, k from 2 on, as by p * p -/
theorem tn_pow {c : List Int} {p : Int} (hp : Pr p) {k j : Nat} (hk : 2 ≤ k) (hj : 2 ≤ j) : Tn c (p ^ k) ↔ Tn c (p ^ j) := by
  rw [tn_by hp (by omega), tn_by hp (by omega)]
  unfold By
  constructor
  · rintro ⟨a, b⟩; exact ⟨a, .inr (b.resolve_left (by omega))⟩
  · rintro ⟨a, b⟩; exact ⟨a, .inr (b.resolve_left (by omega))⟩
end Rw35
/-! Whole sums that turn: what the loops keep (no program in sight). -/
namespace Rw35

/-! ### a base taken apart -/
theorem prod_app (l : List (Int × Nat)) (p : Int) (e : Nat) : prod (l ++ [(p, e)]) = prod l * p ^ e := by
  induction l with
  | nil => show p ^ e * 1 = 1 * p ^ e; omega
  | cons q l ih =>
    obtain ⟨r, f⟩ := q
    show r ^ f * prod (l ++ [(p, e)]) = r ^ f * prod l * p ^ e
    rw [ih, Int.mul_assoc]
theorem fine_app {l : List (Int × Nat)} {p : Int} {e : Nat} (h : Fine l) (hp : Pr p) (he : 1 ≤ e) (hl : ∀ q ∈ l, q.1 < p) : Fine (l ++ [(p, e)]) := by
  refine ⟨fun q hq => ?_, ?_⟩
  · rcases List.mem_append.mp hq with z | z
    · exact h.1 q z
    · rw [List.mem_singleton.mp z]; exact ⟨hp, he⟩
  · rw [List.map_append, List.pairwise_append]
    refine ⟨h.2, by simp, fun a ha b hb => ?_⟩
    obtain ⟨q, hq, e⟩ := List.mem_map.mp ha
    have hb' : b = p := by simpa using hb
    rw [← e, hb']
    exact hl q hq
/-- the outer loop: n the base, l what is found, m what is left, s the step -/
structure Ap (n : Int) (l : List (Int × Nat)) (m s : Int) : Prop where
  m1 : 1 ≤ m
  s2 : 2 ≤ s
  pr : prod l * m = n
  fi : Fine l
  lt : ∀ q ∈ l, q.1 < s
  no : ∀ d, 2 ≤ d → d < s → ¬ d ∣ m
  od : s = 2 ∨ s % 2 = 1
  sn : s ≤ n + 2
theorem Ap.start {n : Int} (h : 1 ≤ n) : Ap n [] n 2 :=
  ⟨h, by omega, by show 1 * n = n; omega, ⟨fun q hq => absurd hq List.not_mem_nil, List.Pairwise.nil⟩, fun q hq => absurd hq List.not_mem_nil, fun d h1 h2 => by omega, .inl rfl, by omega⟩
theorem Ap.mn {n m s : Int} {l : List (Int × Nat)} (h : Ap n l m s) : m ≤ n := by
  have h1 := prod_pos h.fi.1
  have h2 := h.m1
  have h3 : 1 * m ≤ prod l * m := Int.mul_le_mul_of_nonneg_right (by omega) (by omega)
  have := h.pr
  omega
/-- the inner loop: m0 what was left ahead of it -/
def In (m0 s m : Int) (e : Nat) : Prop := 1 ≤ m ∧ m0 = s ^ e * m
theorem In.start {m0 s : Int} (h : 1 ≤ m0) : In m0 s m0 0 := ⟨h, by rw [Int.pow_zero, Int.one_mul]⟩
theorem In.turn {m0 s m : Int} {e : Nat} (h : In m0 s m e) (hs : 2 ≤ s) (hd : m % s = 0) : In m0 s (m / s) (e + 1) ∧ m / s < m := by
  obtain ⟨h1, h2⟩ := h
  have e1 : m = s * (m / s) := by
    have := Int.emod_def m s
    omega
  have h3 : 1 ≤ m / s := by
    apply Classical.byContradiction
    intro hno
    have : s * (m / s) ≤ 0 := Int.mul_nonpos_of_nonneg_of_nonpos (by omega) (by omega)
    omega
  have h4 : 2 * (m / s) ≤ s * (m / s) := Int.mul_le_mul_of_nonneg_right hs (by omega)
  refine ⟨⟨h3, ?_⟩, by omega⟩
  rw [h2, Int.pow_succ, Int.mul_assoc, ← e1]
theorem In.le {m0 s m : Int} {e : Nat} (h : In m0 s m e) (hs : 2 ≤ s) : m ≤ m0 := by
  obtain ⟨h1, h2⟩ := h
  have hp : 0 < s ^ e := pow_pos' (by omega) e
  have h3 : 1 * m ≤ s ^ e * m := Int.mul_le_mul_of_nonneg_right (by omega) (by omega)
  omega
/-- the next step -/
def nxt (s : Int) : Int := if s = 2 then s + 1 else s + 2
def put (l : List (Int × Nat)) (s : Int) (e : Nat) : List (Int × Nat) := if 0 < e then l ++ [(s, e)] else l
theorem Ap.turn {n m0 s m : Int} {l : List (Int × Nat)} {e : Nat} (h : Ap n l m0 s) (hi : In m0 s m e) (hd : m % s ≠ 0) (hsm : s * s ≤ m0) : Ap n (put l s e) m (nxt s) ∧ m - nxt s < m0 - s ∧ 0 < m0 - s := by
  have hle := hi.le h.s2
  obtain ⟨h1, h2⟩ := hi
  have hs2 := h.s2
  have hss : 2 * s ≤ s * s := Int.mul_le_mul_of_nonneg_right hs2 (by omega)
  have hmn := h.mn
  have dm : m ∣ m0 := ⟨s ^ e, by rw [h2, Int.mul_comm]⟩
  have nos : ¬ s ∣ m := fun z => hd (Int.emod_eq_zero_of_dvd z)
  have nx1 : s < nxt s := by unfold nxt; split <;> omega
  have prs : 0 < e → Pr s := fun he => ⟨hs2, fun d h3 h4 => by
    have h5 : d ∣ m0 := Int.dvd_trans h4 ⟨s ^ (e - 1) * m, by
      rw [h2]
      have e1 : e = (e - 1) + 1 := by omega
      conv => lhs; rw [e1, Int.pow_succ]
      grind⟩
    have h6 := Int.le_of_dvd (by omega) h4
    have h7 : ¬ d < s := fun z => h.no d h3 z h5
    omega⟩
  have h8 : s ≤ n - 1 := by omega
  refine ⟨⟨h1, by omega, ?_, ?_, ?_, ?_, ?_, ?_⟩, by omega, by omega⟩
  · unfold put
    split
    · rw [prod_app, Int.mul_assoc, ← h2]; exact h.pr
    · have e0 : e = 0 := by omega
      rw [e0, Int.pow_zero, Int.one_mul] at h2
      rw [← h2]; exact h.pr
  · unfold put
    split
    · exact fine_app h.fi (prs (by assumption)) (by omega) h.lt
    · exact h.fi
  · intro q hq
    unfold put at hq
    split at hq
    · rcases List.mem_append.mp hq with z | z
      · have := h.lt q z; omega
      · rw [List.mem_singleton.mp z]; exact nx1
    · have := h.lt q hq; omega
  · intro d h3 h4 h5
    by_cases hds : d < s
    · exact h.no d h3 hds (Int.dvd_trans h5 dm)
    · by_cases hde : d = s
      · exact nos (hde ▸ h5)
      · unfold nxt at h4
        split at h4
        · omega
        · rename_i hn2
          have ho := h.od.resolve_left hn2
          have hd1 : d = s + 1 := by omega
          refine h.no 2 (by omega) (by omega) (Int.dvd_trans ?_ (Int.dvd_trans h5 dm))
          exact Int.dvd_of_emod_eq_zero (by omega)
  · unfold nxt
    split
    · right; omega
    · have ho := h.od.resolve_left (by assumption)
      right; omega
  · unfold nxt; split <;> omega
theorem Ap.done {n m s : Int} {l : List (Int × Nat)} (h : Ap n l m s) (hsm : m < s * s) : Fine (if 1 < m then l ++ [(m, 1)] else l) ∧ prod (if 1 < m then l ++ [(m, 1)] else l) = n := by
  have h1 := h.m1
  have hs2 := h.s2
  split
  · rename_i hm
    have hms : s ≤ m := by
      apply Classical.byContradiction
      intro hno
      exact h.no m (by omega) (by omega) (Int.dvd_refl m)
    have prm : Pr m := ⟨by omega, fun d h3 h4 => by
      have h6 := Int.le_of_dvd (by omega) h4
      obtain ⟨k, ek⟩ := h4
      have h7 : ¬ d < s := fun z => h.no d h3 z ⟨k, ek⟩
      apply Classical.byContradiction
      intro hne
      have hk1 : 1 ≤ k := by
        apply Classical.byContradiction
        intro hno
        have : d * k ≤ 0 := Int.mul_nonpos_of_nonneg_of_nonpos (by omega) (by omega)
        omega
      have hk2 : k ≠ 1 := fun z => by rw [z, Int.mul_one] at ek; omega
      have h8 : ¬ k < s := fun z => h.no k (by omega) z ⟨d, by rw [ek, Int.mul_comm]⟩
      have h9 : s * s ≤ d * s := Int.mul_le_mul_of_nonneg_right (by omega) (by omega)
      have h10 : d * s ≤ d * k := Int.mul_le_mul_of_nonneg_left (by omega) (by omega)
      omega⟩
    refine ⟨fine_app h.fi prm (by omega) fun q hq => by have := h.lt q hq; omega, ?_⟩
    rw [prod_app, show m ^ 1 = m from by rw [Int.pow_succ, Int.pow_zero, Int.one_mul]]
    exact h.pr
  · have e : m = 1 := by omega
    have := h.pr
    rw [e, Int.mul_one] at this
    exact ⟨h.fi, this⟩
theorem two_pow_le {l : List (Int × Nat)} (h : Fine l) : (2 : Int) ^ l.length ≤ prod l := by
  have hl := h.1
  clear h
  induction l with
  | nil => show (2 : Int) ^ 0 ≤ 1; rw [Int.pow_zero]; omega
  | cons q l ih =>
    obtain ⟨p, e⟩ := q
    have ih := ih fun q hq => hl q (List.mem_cons_of_mem _ hq)
    have hp := (hl _ List.mem_cons_self).1
    have he := (hl _ List.mem_cons_self).2
    have hp2 := hp.1
    have hpp : 2 ≤ p ^ e := by
      obtain ⟨k, rfl⟩ : ∃ k, e = k + 1 := ⟨e - 1, by simp only at he; omega⟩
      have h1 : 0 < p ^ k := pow_pos' hp.pos k
      rw [Int.pow_succ]
      have h2 : 1 * p ≤ p ^ k * p := Int.mul_le_mul_of_nonneg_right (by omega) (by simp only at hp2; omega)
      simp only at hp2
      omega
    show (2 : Int) ^ (l.length + 1) ≤ p ^ e * prod l
    rw [Int.pow_succ]
    have h0 : 0 < (2 : Int) ^ l.length := pow_pos' (by omega) _
    have h3 : 2 * prod l ≤ p ^ e * prod l := Int.mul_le_mul_of_nonneg_right hpp (by omega)
    omega
theorem len_lt {l : List (Int × Nat)} (h : Fine l) {n m : Int} (hm : 1 ≤ m) (e : prod l * m = n) (hn : n ≤ 10 ^ 12) : l.length < 40 := by
  apply Classical.byContradiction
  intro hno
  have h1 := two_pow_le h
  have h0 := prod_pos h.1
  have h2 : prod l * 1 ≤ prod l * m := Int.mul_le_mul_of_nonneg_left hm (by omega)
  have h3 : (2 : Int) ^ l.length = 2 ^ 40 * 2 ^ (l.length - 40) := by rw [← Int.pow_add]; congr 1; omega
  have h4 : 0 < (2 : Int) ^ (l.length - 40) := pow_pos' (by omega) _
  have h5 : (2 : Int) ^ 40 * 1 ≤ 2 ^ 40 * 2 ^ (l.length - 40) := Int.mul_le_mul_of_nonneg_left (by omega) (by decide)
  have h6 : (2 : Int) ^ 40 > 10 ^ 12 := by decide
  omega

/-! ### values, from the right -/
theorem ev_drop {c : List Int} {i : Nat} {t : Int} (h : c[i]? = some t) (x : Int) : ev (c.drop i) x = ev (c.drop (i + 1)) x * x + t := by
  obtain ⟨hi, e⟩ := List.getElem?_eq_some_iff.mp h
  rw [List.drop_eq_getElem_cons hi, e]
  rfl
theorem rev_at {α : Type} {c : List α} {i : Nat} {t : α} (h : c.reverse[i]? = some t) : i < c.length ∧ c[c.length - 1 - i]? = some t := by
  obtain ⟨hi, e⟩ := List.getElem?_eq_some_iff.mp h
  rw [List.length_reverse] at hi
  refine ⟨hi, ?_⟩
  rw [List.getElem_reverse] at e
  rw [← e]
  exact List.getElem?_eq_getElem _
/-- what a loop over the reversed coefficients has made after i turns -/
def evR (c : List Int) (i : Nat) (x : Int) : Int := ev (c.drop (c.length - i)) x
theorem evR_zero (c : List Int) (x : Int) : evR c 0 x = 0 := by unfold evR; rw [Nat.sub_zero, List.drop_length]; rfl
theorem evR_turn {c : List Int} {i : Nat} {t : Int} (h : c.reverse[i]? = some t) (x : Int) : evR c (i + 1) x = evR c i x * x + t := by
  obtain ⟨hi, e⟩ := rev_at h
  unfold evR
  have e1 : c.length - (i + 1) = c.length - 1 - i := by omega
  have e2 : c.length - i = c.length - 1 - i + 1 := by omega
  rw [e1, e2]
  exact ev_drop e x
theorem evR_all (c : List Int) (x : Int) : evR c c.length x = ev c x := by unfold evR; rw [Nat.sub_self, List.drop_zero]
theorem emod_turn (a x t b : Int) : (a % b * x + t) % b = (a * x + t) % b := by
  rw [Int.add_emod, Int.mul_emod, Int.emod_emod, ← Int.mul_emod, ← Int.add_emod]

/-! ### sizes -/
def n1 : List Int → Int
  | [] => 0
  | t :: c => (t.natAbs : Int) + n1 c
theorem n1_nonneg : ∀ c : List Int, 0 ≤ n1 c
  | [] => Int.le_refl 0
  | t :: c => by have := n1_nonneg c; show 0 ≤ (t.natAbs : Int) + n1 c; omega
theorem n1_mem {c : List Int} {t : Int} (h : t ∈ c) : (t.natAbs : Int) ≤ n1 c := by
  induction c with
  | nil => exact absurd h List.not_mem_nil
  | cons u c ih =>
    have h0 := n1_nonneg c
    show (t.natAbs : Int) ≤ (u.natAbs : Int) + n1 c
    rcases List.mem_cons.mp h with rfl | h
    · omega
    · have := ih h; omega
theorem n1_le {c : List Int} {B : Int} (h : ∀ t ∈ c, -B ≤ t ∧ t ≤ B) : n1 c ≤ c.length * B := by
  induction c with
  | nil => show (0 : Int) ≤ 0 * B; omega
  | cons u c ih =>
    have ih := ih fun t ht => h t (List.mem_cons_of_mem _ ht)
    have hu := h u List.mem_cons_self
    show (u.natAbs : Int) + n1 c ≤ ((c.length + 1 : Nat) : Int) * B
    have e : ((c.length + 1 : Nat) : Int) * B = c.length * B + B := by rw [Int.natCast_add]; grind
    rw [e]
    omega
theorem ev_set {l : List Int} {k : Nat} {v w x : Int} : l[k]? = some w → ev (l.set k v) x = ev l x + (v - w) * x ^ k := by
  induction l generalizing k with
  | nil => intro h; simp at h
  | cons t l ih =>
    intro h
    cases k with
    | zero =>
      have e : t = w := by simpa using h
      show ev l x * x + v = ev l x * x + t + (v - w) * x ^ 0
      rw [Int.pow_zero, e]; grind
    | succ k =>
      have h' : l[k]? = some w := by simpa using h
      show ev (l.set k v) x * x + t = ev l x * x + t + (v - w) * x ^ (k + 1)
      rw [ih h', Int.pow_succ]; grind
theorem n1_set {l : List Int} {k : Nat} {v w : Int} : l[k]? = some w → n1 (l.set k v) ≤ n1 l + ((v - w).natAbs : Int) := by
  induction l generalizing k with
  | nil => intro h; simp at h
  | cons t l ih =>
    intro h
    cases k with
    | zero =>
      have e : t = w := by simpa using h
      show (v.natAbs : Int) + n1 l ≤ (t.natAbs : Int) + n1 l + ((v - w).natAbs : Int)
      omega
    | succ k =>
      have h' : l[k]? = some w := by simpa using h
      show (t.natAbs : Int) + n1 (l.set k v) ≤ (t.natAbs : Int) + n1 l + ((v - w).natAbs : Int)
      have := ih h'
      omega
theorem ev_take {l : List Int} {i : Nat} {t x : Int} : l[i]? = some t → ev (l.take (i + 1)) x = ev (l.take i) x + t * x ^ i := by
  induction l generalizing i with
  | nil => intro h; simp at h
  | cons u l ih =>
    intro h
    cases i with
    | zero =>
      have e : u = t := by simpa using h
      show ev (l.take 0) x * x + u = 0 + t * x ^ 0
      rw [List.take_zero, Int.pow_zero, e]
      show 0 * x + t = 0 + t * 1
      omega
    | succ i =>
      have h' : l[i]? = some t := by simpa using h
      show ev (l.take (i + 1)) x * x + u = ev (l.take i) x * x + u + t * x ^ (i + 1)
      rw [ih h', Int.pow_succ]; grind
theorem n1_take {l : List Int} {i : Nat} {t : Int} : l[i]? = some t → n1 (l.take (i + 1)) = n1 (l.take i) + (t.natAbs : Int) := by
  induction l generalizing i with
  | nil => intro h; simp at h
  | cons u l ih =>
    intro h
    cases i with
    | zero =>
      have e : u = t := by simpa using h
      show (u.natAbs : Int) + n1 (l.take 0) = 0 + (t.natAbs : Int)
      rw [List.take_zero, e]
      show (t.natAbs : Int) + 0 = 0 + (t.natAbs : Int)
      omega
    | succ i =>
      have h' : l[i]? = some t := by simpa using h
      show (u.natAbs : Int) + n1 (l.take (i + 1)) = (u.natAbs : Int) + n1 (l.take i) + (t.natAbs : Int)
      rw [ih h']; omega

/-! ### the product's loops -/
/-- within row i (its coefficient t), j places done -/
structure Mu (a b : List Int) (i : Nat) (t : Int) (j : Nat) (f : List Int) : Prop where
  len : f.length = a.length + b.length - 1
  val : ∀ x, ev f x = ev (a.take i) x * ev b x + t * x ^ i * ev (b.take j) x
  siz : n1 f ≤ n1 (a.take i) * n1 b + (t.natAbs : Int) * n1 (b.take j)
/-- ahead of row i -/
structure Mr (a b : List Int) (i : Nat) (f : List Int) : Prop where
  len : f.length = a.length + b.length - 1
  val : ∀ x, ev f x = ev (a.take i) x * ev b x
  siz : n1 f ≤ n1 (a.take i) * n1 b
theorem ev_zeros (n : Nat) (x : Int) : ev (List.replicate n 0) x = 0 := by
  induction n with
  | zero => rfl
  | succ n ih => show ev (List.replicate n 0) x * x + 0 = 0; rw [ih]; omega
theorem n1_zeros (n : Nat) : n1 (List.replicate n 0) = 0 := by
  induction n with
  | zero => rfl
  | succ n ih => show ((0 : Int).natAbs : Int) + n1 (List.replicate n 0) = 0; rw [ih]; rfl
theorem Mr.start (a b : List Int) : Mr a b 0 (List.replicate (a.length + b.length - 1) 0) :=
  ⟨List.length_replicate, fun x => by rw [ev_zeros, List.take_zero]; show 0 = 0 * ev b x; omega, by rw [n1_zeros, List.take_zero]; show 0 ≤ 0 * n1 b; omega⟩
theorem Mr.row {a b f : List Int} {i : Nat} (h : Mr a b i f) (t : Int) : Mu a b i t 0 f :=
  ⟨h.len, fun x => by rw [h.val, List.take_zero]; show _ = _ + _ * 0; omega, by have := h.siz; rw [List.take_zero]; show _ ≤ _ + _ * 0; omega⟩
theorem Mu.turn {a b f : List Int} {i j : Nat} {t u w : Int} (h : Mu a b i t j f) (hb : b[j]? = some u) (hw : f[i + j]? = some w) : Mu a b i t (j + 1) (f.set (i + j) (w + t * u)) := by
  refine ⟨by rw [List.length_set]; exact h.len, fun x => ?_, ?_⟩
  · rw [ev_set hw, h.val, ev_take hb, Int.pow_add]; grind
  · have h1 := n1_set (v := w + t * u) hw
    have h2 := h.siz
    rw [n1_take hb]
    have e : (w + t * u - w) = t * u := by omega
    rw [e, Int.natAbs_mul, Int.natCast_mul] at h1
    have e2 : (t.natAbs : Int) * (n1 (b.take j) + (u.natAbs : Int)) = (t.natAbs : Int) * n1 (b.take j) + (t.natAbs : Int) * (u.natAbs : Int) := Int.mul_add ..
    rw [e2]
    omega
theorem Mu.done {a b f : List Int} {i : Nat} {t : Int} (h : Mu a b i t b.length f) (ha : a[i]? = some t) : Mr a b (i + 1) f := by
  refine ⟨h.len, fun x => ?_, ?_⟩
  · rw [h.val, ev_take ha, List.take_length]; grind
  · have := h.siz
    rw [n1_take ha]
    rw [List.take_length] at this
    have e2 : (n1 (a.take i) + (t.natAbs : Int)) * n1 b = n1 (a.take i) * n1 b + (t.natAbs : Int) * n1 b := Int.add_mul ..
    rw [e2]; exact this
theorem Mr.done {a b f : List Int} (h : Mr a b a.length f) : (∀ x, ev f x = ev a x * ev b x) ∧ n1 f ≤ n1 a * n1 b := by
  have h1 := h.val
  have h2 := h.siz
  rw [List.take_length] at h1 h2
  exact ⟨h1, h2⟩

/-! ### cut at the end -/
/-- t is l without needless 0s at its end -/
structure Cut (l t : List Int) : Prop where
  pos : 1 ≤ t.length
  len : t.length ≤ l.length
  val : ∀ x, ev t x = ev l x
  siz : n1 t ≤ n1 l
  mem : ∀ u ∈ t, u ∈ l
  fin : t.length = 1 ∨ t[t.length - 1]? ≠ some 0
/-- the loop: m places left -/
structure Cu (l : List Int) (m : Nat) : Prop where
  pos : 1 ≤ m
  len : m ≤ l.length
  val : ∀ x, ev (l.take m) x = ev l x
  siz : n1 (l.take m) ≤ n1 l
theorem Cu.start {l : List Int} (h : 1 ≤ l.length) : Cu l l.length := ⟨h, Nat.le_refl _, fun x => by rw [List.take_length], by rw [List.take_length]; exact Int.le_refl _⟩
theorem Cu.turn {l : List Int} {m : Nat} (h : Cu l m) (h1 : 1 < m) (h0 : l[m - 1]? = some 0) : Cu l (m - 1) := by
  have e : m - 1 + 1 = m := by omega
  have a := h.val
  have b := h.siz
  rw [← e] at b
  rw [n1_take h0] at b
  refine ⟨by omega, by have := h.len; omega, fun x => ?_, by omega⟩
  have := a x
  rw [← e, ev_take h0] at this
  rw [← this]; omega
theorem Cu.done {l : List Int} {m : Nat} (h : Cu l m) (hd : m = 1 ∨ l[m - 1]? ≠ some 0) : Cut l (l.take m) := by
  have hl := h.len
  have hm : (l.take m).length = m := by rw [List.length_take]; omega
  refine ⟨by rw [hm]; exact h.pos, by rw [hm]; exact hl, h.val, h.siz, fun u hu => List.mem_of_mem_take hu, ?_⟩
  rw [hm]
  rcases hd with z | z
  · exact .inl z
  · right
    rw [List.getElem?_take, if_pos (by have := h.pos; omega)]
    exact z

/-- a sum as the program takes one: at most D coefficients, up to B -/
structure Su (D : Nat) (B : Int) (c : List Int) : Prop where
  pos : 1 ≤ c.length
  len : c.length ≤ D
  siz : ∀ t ∈ c, -B ≤ t ∧ t ≤ B
  fin : c.length = 1 ∨ c[c.length - 1]? ≠ some 0
theorem Su.mono {D D' : Nat} {B B' : Int} {c : List Int} (h : Su D B c) (h1 : D ≤ D') (h2 : B ≤ B') : Su D' B' c :=
  ⟨h.pos, Nat.le_trans h.len h1, fun t ht => by have := h.siz t ht; omega, h.fin⟩

/-! ### one sum led into another -/
def bN : Nat → Int
  | 0 => 0
  | k + 1 => 18 * bN k + 12
/-- after i turns over the reversed coefficients of c -/
structure Le (c d : List Int) (i : Nat) (f : List Int) : Prop where
  pos : 1 ≤ f.length
  len : f.length ≤ 1 + i * (d.length - 1)
  val : ∀ x, ev f x = evR c i (ev d x)
  siz : n1 f ≤ bN i
theorem Le.start (c d : List Int) : Le c d 0 [0] := ⟨Nat.le_refl 1, by simp, fun x => by rw [evR_zero]; show 0 * x + 0 = 0; omega, by show ((0 : Int).natAbs : Int) + 0 ≤ 0; simp⟩
theorem n1_d {d : List Int} (h : Su 3 6 d) : n1 d ≤ 18 := by
  have h1 := n1_le h.siz
  have h2 := h.len
  have h3 : (d.length : Int) * 6 ≤ 3 * 6 := Int.mul_le_mul_of_nonneg_right (by omega) (by omega)
  omega
theorem Le.turn {c d f g t : List Int} {i : Nat} {u a : Int} (h : Le c d i f) (hc : Su 5 12 c) (hd : Su 3 6 d) (hu : c.reverse[i]? = some u) (hm : Mr f d f.length g) (ht : Cut g t) (ha : t[0]? = some a) : Le c d (i + 1) ((a + u) :: t.drop 1) := by
  have hp := ht.pos
  obtain ⟨m1, m2⟩ := hm.done
  have et : t = a :: t.drop 1 := by
    cases t with
    | nil => simp at hp
    | cons b r =>
      have e : b = a := by simpa using ha
      rw [e]; rfl
  have hv : ∀ x, ev ((a + u) :: t.drop 1) x = ev t x + u := fun x => by
    conv => rhs; rw [et]
    show ev (t.drop 1) x * x + (a + u) = ev (t.drop 1) x * x + a + u
    omega
  have hub := hc.siz u (by
    have := List.mem_of_getElem? hu
    simpa using this)
  refine ⟨by simp, ?_, fun x => ?_, ?_⟩
  · have e1 : ((a + u) :: t.drop 1).length = t.length := by
      conv => rhs; rw [et]
      rfl
    rw [e1]
    have h1 := ht.len
    have h2 := hm.len
    have h3 := h.len
    have h4 := hd.pos
    have e2 : (i + 1) * (d.length - 1) = i * (d.length - 1) + (d.length - 1) := Nat.succ_mul ..
    omega
  · rw [hv, ht.val, m1, h.val, evR_turn hu]
  · have h1 : n1 ((a + u) :: t.drop 1) ≤ n1 t + (u.natAbs : Int) := by
      conv => rhs; rw [et]
      show ((a + u).natAbs : Int) + n1 (t.drop 1) ≤ (a.natAbs : Int) + n1 (t.drop 1) + (u.natAbs : Int)
      omega
    have h2 := ht.siz
    have h3 := n1_d hd
    have h4 := h.siz
    have h5 := n1_nonneg f
    have h6 := n1_nonneg d
    have h7 : n1 f * n1 d ≤ n1 f * 18 := Int.mul_le_mul_of_nonneg_left h3 h5
    show _ ≤ 18 * bN i + 12
    omega
theorem bN_le {i : Nat} (h : i ≤ 5) : 0 ≤ bN i ∧ bN i ≤ 2000000 := by
  match i, h with
  | 0, _ => decide
  | 1, _ => decide
  | 2, _ => decide
  | 3, _ => decide
  | 4, _ => decide
  | 5, _ => decide
theorem Le.small {c d f : List Int} {i : Nat} (h : Le c d i f) (hi : i ≤ 5) {t : Int} (ht : t ∈ f) : -2000000 ≤ t ∧ t ≤ 2000000 := by
  have h1 := n1_mem ht
  have h2 := h.siz
  have h3 := (bN_le hi).2
  omega
theorem Le.short {c d f : List Int} {i : Nat} (h : Le c d i f) (hd : Su 3 6 d) (hi : i ≤ 5) : f.length ≤ 11 := by
  have h1 := h.len
  have h2 := hd.len
  have h3 : i * (d.length - 1) ≤ 5 * 2 := Nat.mul_le_mul hi (by omega)
  omega
theorem Le.done {c d f t : List Int} (h : Le c d c.length f) (hc : Su 5 12 c) (hd : Su 3 6 d) (ht : Cut f t) : Su 11 2000000 t ∧ ∀ x, ev t x = ev c (ev d x) := by
  refine ⟨⟨ht.pos, Nat.le_trans ht.len (h.short hd hc.len), fun u hu => h.small hc.len (ht.mem u hu), ht.fin⟩, fun x => ?_⟩
  rw [ht.val, h.val, evR_all]

/-! ### greatest common divisors -/
def Gc (a b x y : Int) : Prop := 0 ≤ x ∧ 0 ≤ y ∧ Int.gcd x y = Int.gcd a b
theorem Gc.start (a b : Int) : Gc a b (if a < 0 then -a else a) (if b < 0 then -b else b) := by
  refine ⟨by split <;> omega, by split <;> omega, ?_⟩
  have e1 : (if a < 0 then -a else a) = (a.natAbs : Int) := by split <;> omega
  have e2 : (if b < 0 then -b else b) = (b.natAbs : Int) := by split <;> omega
  rw [e1, e2]
  simp [Int.gcd]
theorem Gc.turn {a b x y : Int} (h : Gc a b x y) (hy : 0 < y) : Gc a b y (x % y) ∧ (x % y).toNat < y.toNat := by
  have h1 := Int.emod_nonneg x (show y ≠ 0 by omega)
  have h2 := Int.emod_lt_of_pos x hy
  exact ⟨⟨h.2.1, h1, by rw [gcd_step hy]; exact h.2.2⟩, by omega⟩
theorem Gc.done {a b x y : Int} (h : Gc a b x y) (hy : ¬ 0 < y) : x = (Int.gcd a b : Nat) := by
  obtain ⟨h1, h2, h3⟩ := h
  have e : y = 0 := by omega
  rw [← h3, e, Int.gcd_zero_right]
  omega
end Rw35
/-! Rules that this law wants beyond the hand layer. -/
namespace Rw35
open PySem PySem.Spec PyProof.Rows L2

/-! ### t[::-1], t a tuple -/
section
variable {P : Program} {w : World} {A : Around} {E : Value → Shared → Prop} {s : Shared}
/-- a slice object that goes back from the end: where it begins, its step, how many -/
theorem back_parts {sl : Addr} {st : Value} {n : Nat} {Q : Int × Int × Nat → Shared → Prop} (hsl : s.heap.IsSliceOf sl .none .none st) (hst : IsPart st (some (-1)))
    (k : Q ((n : Int) - 1, -1, n) s) : wpAny (model P w) A (Builtin.Slice.sliceApplied (.ref sl) (pure (n : Int))) Q E s := by
  have places : Builtin.Slice.slicePlaces ((n : Int) - 1) (-1) (-1) = n := by
    cases n with
    | zero => rfl
    | succ n =>
      have hdown : ¬ (-1 : Int) > 0 := by omega
      simp only [Builtin.Slice.slicePlaces, hdown, if_false]
      simp
      omega
  have ⟨ob, hob, _, hdata⟩ := hsl
  unfold Builtin.Slice.sliceApplied Builtin.Slice.sliceFields
  refine wpAny_bind (wpAny_bind (wpAny_field hob hdata (x := Value.none) rfl (wpAny_bind (wpAny_field hob hdata (x := Value.none) rfl
    (wpAny_bind (wpAny_field hob hdata (x := st) rfl (wpAny_pure (wpAny_bind (HT.slicePart_ hst ?_)))))))))
  show wpAny (model P w) A (if ((-1 : Int) == 0) = true then _ else _) Q E s
  rw [if_neg (by decide)]
  refine wpAny_bind (slicePart_none (wpAny_bind (slicePart_none (wpAny_bind (wpAny_pure ?_)))))
  show wpAny (model P w) A (pure ((n : Int) - 1, (-1 : Int), Builtin.Slice.slicePlaces ((n : Int) - 1) (-1) (-1))) Q E s
  rw [places]
  exact wpAny_pure k
theorem fm_congr {α β : Type} {f g : α → Option β} : ∀ {l : List α}, (∀ k ∈ l, f k = g k) → l.filterMap f = l.filterMap g
  | [], _ => rfl
  | a :: l, h => by
    rw [List.filterMap_cons, List.filterMap_cons, h a List.mem_cons_self, fm_congr fun k hk => h k (List.mem_cons_of_mem _ hk)]
theorem back_picks (xs : Array Value) : ((List.range xs.size).filterMap fun (m : Nat) => xs[(((xs.size : Int) - 1) + (m : Int) * (-1)).toNat]?).toArray = xs.toList.reverse.toArray := by
  have toPlace : ∀ k ∈ List.range xs.size, xs[(((xs.size : Int) - 1) + (k : Int) * (-1)).toNat]? = ((xs[·]?) ∘ fun k => xs.size - 1 - k) k := fun k hk => by
    have hlt := List.mem_range.mp hk
    show xs[_]? = xs[xs.size - 1 - k]?
    congr 1
    omega
  rw [fm_congr toPlace, ← List.filterMap_map, PySem.W.krv_range, List.filterMap_reverse, PySem.W.krv_all]
theorem back_item {t sl : Addr} {its : Array Value} {st : Value} {Q : Value → Shared → Prop} (ht : IsTup s.heap t its) (hsl : s.heap.IsSliceOf sl .none .none st) (hst : IsPart st (some (-1)))
    (few : its.size ≤ sizeLine) (k : Q (.ref s.heap.objs.size) { s with heap := s.heap.push { cls := .type "tuple", data := .seq its.toList.reverse.toArray } }) :
    wpAny (model P w) A (getItem (.ref t) (.ref sl)) Q E s := by
  have fits : sizeOk (.seq its.toList.reverse.toArray) := by
    show its.toList.reverse.toArray.size ≤ sizeLine
    simpa using few
  have isSlice : s.TypeIs (.ref sl) "slice" := let ⟨ob, h1, h2, _⟩ := hsl; ⟨ob, h1, h2⟩
  have other : ¬ ((((its.size : Int) - 1) == 0 && (-1 : Int) == 1 && its.size == its.size) = true) := fun q => by
    have := (Bool.and_eq_true_iff.mp (Bool.and_eq_true_iff.mp q).1).2
    exact absurd this (by decide)
  unfold getItem
  refine wpAny_holding (wpAny_bind (wpAny_sequenceKey ht.typeIs (by decide) (wpAny_bind (wpAny_callSpecial?_slot (name := Str.ofString "__getitem__") ht.typeIs slot_tuple_getitem
    (wpAny_call_entry slot_tuple_getitem ht.typeIs entry_tuple_getitem ?_ (args_tuple_getitem _ _))))))
  show wpAny (model P w) _ (Builtin.Tuple.tupleItemsOf (.ref t) >>= _) _ _ s
  refine wpAny_bind (tupleItemsOf_ ht (wpAny_bind (wpAny_typeOf isSlice ?_)))
  rw [if_pos (by decide)]
  refine wpAny_bind (back_parts hsl hst ?_)
  show wpAny (model P w) _ (if (((its.size : Int) - 1) == 0 && (-1 : Int) == 1 && its.size == its.size) = true then _ else _) _ _ s
  rw [if_neg other, back_picks]
  exact wpAny_bind (m := Builtin.Tuple.tupleExact _) (wpAny_newObj_type (wpAny_pure ⟨_, rfl, wpAny_pure k⟩) fits)
end
def tRevT (K : PySem.W.Frag) (te : TE) : TE := fun σ H Q => te σ H fun x H1 => ∃ a xs, x = .ref a ∧ SqT K H1 a xs ∧ ∀ p, H1 p = none → Q (.ref p) (upd H1 p (.tup xs.reverse))
theorem pe_revT {X : Cx} {e : Expr} {te : TE} {k : Nat} {p1 p2 p3 pos : Pos} (he : PE X e te) : PE X (.Subscript e (.Slice none none (some (.UnaryOp .USub (.Constant (.int 1) k p1) p2)) p3) pos) (tRevT X.K te) := by
  constructor
  intro pins s σ H Q I h
  have minus : PO X (some (.UnaryOp .USub (.Constant (.int 1) k p1) p2)) (tPart (tUn (rU fun i => .int (-i)) (tC (.int 1)))) := po_some (pe_un un_neg pe_int)
  refine Subscript_ (thn (he.run pins s σ H _ I h) ?_)
  rintro v sa ⟨x, Ha, Ia, rx, a, xs, rfl, hxs, q⟩
  cases rx
  -- the parts: none, none, -1
  refine wpAny_Slice (thn (po_none.run pins sa σ Ha (fun o H' => o = none ∧ H' = Ha) Ia ⟨rfl, rfl⟩) ?_)
  rintro vl sb ⟨_, _, Ib, pl, rfl, rfl⟩
  refine thn (po_none.run pins sb σ _ (fun o H' => o = none ∧ H' = _) Ib ⟨rfl, rfl⟩) ?_
  rintro vu sc ⟨_, _, Ic, pu, rfl, rfl⟩
  refine thn (minus.run pins sc σ _ (fun o H' => o = some (-1) ∧ H' = _) Ic ⟨1, rfl, -1, rfl, rfl, rfl⟩) ?_
  rintro st sd ⟨_, _, Id, ps, rfl, rfl⟩
  cases pl
  cases pu
  -- the slice object, the item
  have Ie := Id.kept (t' := sd.toks) fun b ob hb => Heap.get?_push_of_some { cls := .type "slice", data := .fields #[.none, .none, st] } hb
  obtain ⟨its, vals, ht, few⟩ := Ie.tuple hxs
  have same := vals.length
  refine tail_any (s := { sd with heap := sd.heap.push { cls := .type "slice", data := .fields #[.none, .none, st] } }) (ops := [.ref a, .ref sd.heap.objs.size]) ht.typeIs slot_tuple_getitem.lookup ?_ (by with_unfolding_all rfl)
  refine back_item ht (Heap.IsSliceOf.new _ .none .none st) ps (by rw [List.size_toArray]; omega) ?_
  exact ⟨.ref _, _, Ie.laid (t' := sd.toks) (o := .tup xs.reverse) (fun b ob hb => Heap.get?_push_of_some _ hb) (Nat.le_refl _) ⟨by rw [List.length_reverse]; exact few, its.reverse, vals.reverse, IsTup.new _ _⟩, rfl, q _ (Ie.hok.fresh (Nat.le_refl _))⟩

/-! ### enumerate(t), t a tuple -/
/-- enumerate(v): two new objects, v's iterator and the pairs' -/
theorem enum_made {v : Value} {o : Obj} {G : Heap → Prop} (B : Begins v o G) :
    Meets (Builtin.«enumerate.__new__» ⟨[.type "enumerate", v], []⟩) (fun _ R s => G s.heap ∧
      R (.ok (.ret (.ref (s.heap.push o).objs.size))) { s with heap := (s.heap.push o).push { cls := .type "enumerate", data := .fields #[.none, .bool false, .ref s.heap.objs.size, rawInt 0, .none, .none] } }) := by
  refine .of_wp fun P w A R s h => ?_
  obtain ⟨hp, gs, dr, tk, os⟩ := s
  obtain ⟨hg, hR⟩ := h
  have isSub := sub_enumerate
  have begins {A' : Around} {E : Value → Shared → Prop} {Q : Value → Shared → Prop} (k : Q (.ref hp.objs.size) ⟨hp.push o, gs, dr, tk, os⟩) : wpAny (model P w) A' (pyIter v) Q E ⟨hp, gs, dr, tk, os⟩ := B.iter P w A' E _ Q hg k
  wp_walk using begins
  refine wpAny_stack_any fun _ => wpAny_pure ?_
  split
  next c _ _ _ _ _ =>
    cases (c == Value.type "enumerate") <;> (wp_walk using begins; exact ⟨_, rfl, hR⟩)
  next => wp_walk using begins; exact ⟨_, rfl, hR⟩
theorem enum_call {P : Program} {w : World} {A : Around} {E : Value → Shared → Prop} {s : Shared} {v : Value} {o : Obj} {G : Heap → Prop} {Q : Value → Shared → Prop} (B : Begins v o G) (hg : G s.heap)
    (k : ∀ h', IsEnum h' (s.heap.objs.size + 1) s.heap.objs.size 0 .none → h'.get? s.heap.objs.size = some o → (∀ b o, s.heap.get? b = some o → h'.get? b = some o) → Q (.ref (s.heap.objs.size + 1)) { s with heap := h' }) :
    wpAny (model P w) A (call (.type "enumerate") [v]) Q E s := by
  refine callType_new F.called_enumerate (by decide) (F.typeCall_enumerate_1 v) (F.newCall_enumerate_1 v) (fun ob => F.args_object_init_2 ob v) F.entry_enumerate_new (enum_made B) ⟨hg, ?_⟩
  have size1 := Heap.size_push s.heap o
  have made := Heap.get?_push_size (s.heap.push o) (o := { cls := .type "enumerate", data := .fields #[.none, .bool false, .ref s.heap.objs.size, rawInt 0, .none, .none] }) rfl
  show _ ∧ _
  rw [size1] at made ⊢
  exact ⟨⟨_, made, rfl⟩, k _ made (Heap.get?_push_of_some _ (Heap.get?_push_size _ B.free)) fun b o' hb => Heap.get?_push_of_some _ (Heap.get?_push_of_some _ hb)⟩
/-- the tuple at a, each item in a new pair -/
def IteT (K : PySem.W.Frag) (a : Addr) : It :=
  ⟨fun i H => ∃ (xs : List V) (x : V), SqT K H a xs ∧ xs[i]? = some x, fun i H v H' => ∃ T x, v = .ref T ∧ H T = none ∧ H' = upd H T (.tup [.int (i : Nat), x]) ∧ ∀ xs, SqT K H a xs → xs[i]? = some x, fun i H => ∃ xs : List V, SqT K H a xs ∧ xs.length ≤ i⟩
/-- its two records at turn i -/
def EnT (a e it : Addr) (i : Nat) (h : Heap) : Prop := (∃ old, IsEnum h e it ((i : Nat) : Int) old) ∧ h.IsTupleIter it a i ∧ e ≠ it
theorem EnT.lt {a e it : Addr} {i : Nat} {h : Heap} (k : EnT a e it i h) : ∀ b ∈ [e, it], b < h.objs.size := fun b hb => by
  obtain ⟨⟨_, h1⟩, ⟨_, h2, _⟩, _⟩ := k
  rcases List.mem_cons.mp hb with rfl | hb
  · exact Heap.lt_size h1
  · rw [List.mem_singleton.mp hb]
    exact Heap.lt_size h2
/-- an object is of one class -/
theorem two_cls {h : Heap} {a b : Addr} {o u : Obj} {m n : String} (ho : h.get? a = some o) (hu : h.get? b = some u) (co : o.cls = .type m) (cu : u.cls = .type n) (d : m ≠ n) : a ≠ b := fun z => by
  subst z
  rw [ho] at hu
  cases hu
  rw [co] at cu
  exact d (Value.type.inj cu)
theorem turn_enumT {P : Program} {w : World} {K : PySem.W.Frag} {elts : List Expr} {kk : Nat} {tpos : Pos} (a e it : Addr) : Turn P w K (.Tuple elts kk tpos) (IteT K a) [e, it] e (EnT a e it) where
  mem := List.mem_cons_self
  obj := fun i h k b hb => by
    obtain ⟨⟨old, h1⟩, ⟨o, h2, _, hdat⟩, _⟩ := k
    rcases List.mem_cons.mp hb with rfl | hb
    · exact ⟨_, h1, fun v z => nomatch z⟩
    · rw [List.mem_singleton.mp hb]
      refine ⟨o, h2, fun v z => ?_⟩
      rw [hdat] at z
      cases z
  keep := fun i h h' k ext => ⟨k.1.imp fun _ h1 => ext e List.mem_cons_self _ h1, k.2.1.at fun o h2 => ext it (by simp) o h2, k.2.2⟩
  item := by
    intro X eP ew eK calm i pins s σ H E I free k go
    subst eP ew eK
    have lt := k.lt
    obtain ⟨⟨old, hen⟩, hti, apart⟩ := k
    obtain ⟨xs, x, hxs, hx⟩ := go
    obtain ⟨its, vals, htup, few⟩ := I.tuple hxs
    obtain ⟨u, hu, rxu⟩ := vals.get hx
    have hu' : its.toArray[i]? = some u := by simpa using hu
    have ea : e ≠ a := let ⟨_, g1, g2, _⟩ := htup; two_cls hen g1 rfl g2 (by decide)
    have ai : a ≠ it := let ⟨_, g1, g2, _⟩ := htup; let ⟨_, g3, g4, _⟩ := hti; two_cls g1 g3 g2 g4 (by decide)
    refine wpAny_pyNext_enum_itemD (Draws.tuple (A := X.A.in1) (by simpa using I.ok.hd calm) it a ai its.toArray) hen ⟨hti, htup⟩ (Array.getElem?_eq_some_iff.mp hu').1 apart (by simp [apart, ea]) ?_
    intro v h1 tk drawn out next pair size rest
    have ev : v = u := Option.some.inj (drawn.symm.trans hu')
    subst ev
    refine ⟨_, rfl, wpAny_letOwnedTupleGo_enum (s := { s with heap := h1, toks := tk + 1 }) out fun h2 back same => ?_⟩
    have fresh := I.hok.fresh (Nat.le_refl s.heap.objs.size)
    have pair2 := (same.2 _ (Nat.ne_of_gt (lt e List.mem_cons_self))).trans pair
    have old2 : ∀ b o, b ∉ [e, it] → s.heap.get? b = some o → h2.get? b = some o := fun b o hb hg => by
      have n1 : b ≠ e := fun z => hb (by simp [z])
      exact (same.2 b n1).trans (rest b o n1 (fun z => hb (by simp [z])) hg)
    have I2 := I.turnedNew (t' := tk + 1) (ob := .tup [.int (i : Nat), x]) old2 free (Nat.le_refl _) ⟨by show 2 ≤ sizeLine; decide, [.int i tk, v], .cons ⟨_, rfl⟩ (.cons rxu .nil), _, pair2, rfl, _, rfl⟩
    have step : ((i + 1 : Nat) : Int) = (i : Int) + 1 := Int.natCast_add i 1
    refine ⟨.ref s.heap.objs.size, _, I2, rfl, ⟨_, x, rfl, fresh, rfl, fun ys hys => (I.tuple_inj hys hxs).symm ▸ hx⟩, ⟨⟨v, step ▸ back⟩, next.1.at fun o g => (same.2 it apart.symm).trans g, apart⟩, fun b hb => ?_⟩
    rw [upd_ne (Nat.ne_of_lt (lt b hb))]
    exact (free b hb).1
  done := by
    intro X eP ew eK calm i pins s σ H E I free k stop
    subst eP ew eK
    obtain ⟨⟨old, hen⟩, hti, _⟩ := k
    obtain ⟨xs, hxs, long⟩ := stop
    obtain ⟨its, vals, htup, _⟩ := I.tuple hxs
    obtain ⟨g0, g1, _, g3, g4, g5⟩ := free it (by simp)
    have beyond : its.toArray[i]? = none := by simpa [← vals.length] using long
    have isEn : s.TypeIs (.ref e) "enumerate" := ⟨_, hen, rfl⟩
    unfold pyNext
    refine wpAny_bind (wpAny_attempt (wpAny_callSpecial?_slot (name := Str.ofString "__next__") isEn F.slot_enumerate_next (wpAny_call_entry F.slot_enumerate_next isEn F.entry_enumerate_next ?_ (F.args_enumerate_next_1 _))))
    show wpAny (model X.prog X.w) X.A.in1 (field (.ref e) 2 >>= _) _ _ s
    refine wpAny_bind (wpAny_field hen rfl (x := Value.ref it) rfl (wpAny_bind (wpAny_nextOf_tuple_end (I.ok.hd calm) hti htup beyond ?_)))
    intro h1 ex rest stopped
    obtain ⟨ob, hob, isStop⟩ := stopped
    exact wpAny_bind (wpAny_isInstance (T := "StopIteration") (b := true) ⟨ob, hob, isStop⟩ isSubtype_stop (wpAny_pure ⟨rfl, I.turned (t' := s.toks) (fun b o hb g => rest b o hb g) g0 g1 g3 g4 g5⟩))
  self := fun _ _ _ _ _ k h => let ⟨_, hen⟩ := k.1; wpAny_pyIter_enum hen h
def iEnumT (K : PySem.W.Frag) (ta : TA) : TI := fun σ H R => ta σ H fun vs H1 => ∃ a xs, vs = [.ref a] ∧ SqT K H1 a xs ∧ R (IteT K a) H1
theorem pi_enumT {X : Cx} {e : Expr} {ta : TA} {p pos tpos : Pos} {elts : List Expr} {kk : Nat} (hg : Gl X "enumerate") (hm : X.mg "enumerate" = none) (ha : PA X [e] ta) (hs : starEach [e] X.env = [(false, eval e X.env)] := by rfl) :
    PI X (.Tuple elts kk tpos) (.Call (.Name "enumerate" p) [e] [] pos) (iEnumT X.K ta) := by
  constructor
  intro pins s σ H R I h
  refine Call_ (ld_blt I hg hm boot_enumerate (PyProof.Rows.callWith_type1 (thn (ha.run pos pins s σ H _ I h) ?_) hs rfl))
  rintro us sa ⟨vs, Ha, Ia, rel, a, xs, rfl, hxs, q⟩
  obtain ⟨u, rfl, rfl⟩ := vals1 rel
  obtain ⟨its, _, htup, _⟩ := Ia.tuple hxs
  refine enum_call (begins_tuple a its.toArray) htup fun h1 hen hit rest => wpAny_pyIter_enum hen ?_
  refine ⟨sa.heap.objs.size + 1, [sa.heap.objs.size + 1, sa.heap.objs.size], _, _, Ha, rfl, Ia.kept (t' := sa.toks) rest, turn_enumT a _ sa.heap.objs.size, ⟨⟨.none, hen⟩, ⟨_, hit, rfl, rfl⟩, Nat.succ_ne_self _⟩, fun b hb => ?_, q⟩
  have above : sa.heap.objs.size ≤ b := by
    rcases List.mem_cons.mp hb with rfl | hb
    · exact Nat.le_succ _
    · exact Nat.le_of_eq (List.mem_singleton.mp hb).symm
  exact Ia.fpOk above (Ia.hok.fresh above)
theorem walk_enumT {K : PySem.W.Frag} {a : Addr} {xs : List V} : Walk (IteT K a) xs.length (fun H => SqT K H a xs) (fun i H v H' => ∃ T x, v = .ref T ∧ H T = none ∧ H' = upd H T (.tup [.int (i : Nat), x]) ∧ xs[i]? = some x) where
  goes := fun i _ hi h => ⟨xs, xs[i], h, List.getElem?_eq_getElem hi⟩
  stops := fun _ h => ⟨xs, h, Nat.le_refl _⟩
  yields := fun _ _ _ _ _ h ⟨T, x, h1, h2, h3, h4⟩ => ⟨T, x, h1, h2, h3, h4 xs h⟩
/-- a for over it, the tuple as it is -/
def for_enumT {K : PySem.W.Frag} {a : Addr} {xs : List V} {g : TG} {tb : TS} {D : Ends} {σ : L2.St} {H : Hp} (Pv : Nat → L2.St → Hp → Prop) (h0 : Pv 0 σ H) (hq : ∀ i σ H, Pv i σ H → SqT K H a xs)
    (hs : ∀ i x σ H T, xs[i]? = some x → Pv i σ H → H T = none → g (.ref T) σ (upd H T (.tup [.int (i : Nat), x])) fun σ2 H2 => tb { D with nx := Pv (i + 1), ct := Pv (i + 1), bk := D.nx } σ2 H2) (hd : ∀ σ H, Pv xs.length σ H → D.nx σ H) :=
  for_it (g := g) (tb := tb) (D := D) (walk_enumT (K := K) (a := a) (xs := xs)) Pv h0 (fun i σ H _ p => hq i σ H p) (fun i x σ H H' _ p ⟨T, z, e1, e2, e3, e4⟩ => by rw [e1, e3]; exact hs i z σ H T e4 p e2) hd
/-- a comprehension over it -/
def lc_enumT {K : PySem.W.Frag} {a : Addr} {xs : List V} {g : TG} {tt : TT} {te : TE} {vs : List Nat} {σ : L2.St} {H1 : Hp} {D : Addr} {Qd : Hp → Prop} (Pv : Nat → Hp → Prop) (h0 : Pv 0 (upd H1 D (.lst []))) (hq : ∀ i H, Pv i H → SqT K H a xs)
    (hs : ∀ i x H T, xs[i]? = some x → Pv i H → H T = none → g (.ref T) (wipe σ vs) (upd H T (.tup [.int (i : Nat), x])) fun σ2 H2 => wipe σ2 vs = wipe σ vs ∧ tt σ2 H2 fun b H3 =>
      if b = true then te σ2 H3 fun y H4 => ∃ acc, H4 D = some (.lst acc) ∧ acc.length < sizeLine ∧ Pv (i + 1) (upd H4 D (.lst (acc ++ [y]))) else Pv (i + 1) H3) (hd : ∀ H, Pv xs.length H → Qd H) :=
  lc_it (g := g) (tt := tt) (te := te) (vs := vs) (σ := σ) (Qd := Qd) (walk_enumT (K := K) (a := a) (xs := xs)) Pv h0 (fun i H _ p => hq i H p) (fun i x H H' _ p ⟨T, z, e1, e2, e3, e4⟩ => by rw [e1, e3]; exact hs i z H T e4 p e2) hd

/-! ### sets of ints: len, set(xs) -/
theorem set_len {X : Cx} {pins : List (Addr × Obj)} {σ : L2.St} {H : Hp} {s : Shared} {a : Addr} {S : Int → Bool} {n : Nat} {Q : VK} (I : Inv X pins σ H s) (hS : s.heap.SetOf (intKind X.prog X.w) a S n) (q : Q (.int (n : Nat)) H) :
    wpAny (model X.prog X.w) X.A (call (.builtin "len") [.ref a]) (EP X pins σ Q) X.xe s := by
  obtain ⟨o, es, ep, t, ho, exact', hdat, _, _, few, fit, count⟩ := hS
  have small : es.size < 16777216 * 16777216 := Nat.lt_of_lt_of_le few (by decide)
  refine call_len_set ho exact' hdat fit (by omega) ⟨.int n, H, I.tok _, ⟨s.toks + 1, ?_⟩, q⟩
  rw [count]
theorem call_lenS {X : Cx} : CallR X (.builtin "len") (fun xs H Q => ∃ (a : Addr) (S : Int → Bool) (n : Nat), xs = [.ref a] ∧ H a = some (SetO X.w a S n) ∧ Q (.int (n : Nat)) H) := fun _ _ _ _ _ _ _ I rel ⟨a, S, n, e, ha, q⟩ => by
  subst e
  obtain ⟨_, rfl, rfl⟩ := vals1 rel
  exact set_len I ((setO_get I ha).setOf (P := X.prog)) q
theorem call_lenSet {X : Cx} : CallR X (.builtin "len") (fun xs H Q => ∃ (a : Addr) (S : Int → Bool) (n : Nat), xs = [.ref a] ∧ H a = some (.set S n) ∧ Q (.int (n : Nat)) H) := fun _ _ _ _ _ _ _ I rel ⟨a, S, n, e, ha, q⟩ => by
  subst e
  obtain ⟨_, rfl, rfl⟩ := vals1 rel
  exact set_len I (I.hok a _ ha) q
theorem call_setL {X : Cx} (hc : X.calm = true) : CallR X (.type "set") (fun xs H Q => ∃ (l : Addr) (ns : List Int), xs = [.ref l] ∧ SqL X.K H l (ns.map V.int) ∧ ns.length ≤ 4000 ∧
    ∀ a, H a = none → Q (.ref a) (upd H a (.set (fun k => (PyProof.Rows.firstMet (fun i => ns.getD i 0) ns.length).any (· == k)) (PyProof.Rows.firstMet (fun i => ns.getD i 0) ns.length).length))) := fun pins s σ H xs us Q I rel ⟨l, ns, e, hq, few, q⟩ => by
  subst e
  obtain ⟨_, rfl, rfl⟩ := vals1 rel
  obtain ⟨its, vals, hl, _⟩ := I.list hq
  have size : its.toArray.size = ns.length := by
    have := vals.length
    simp at this
    simp [this]
  refine call_set_list (I.ok.hd hc) hl.isList (by simpa using RZ.intsAre_vals vals) (by rw [size]; unfold scanBound; omega) fun h1 tk made rest => ?_
  rw [size] at made
  exact ⟨.ref _, _, I.laid (t' := tk) (fun b o hb => rest b o (Heap.lt_size hb) hb) (Nat.le_refl _) (show ObjOk X.prog X.w _ h1 s.heap.objs.size (.set _ _) from made), rfl, q _ (I.hok.fresh (Nat.le_refl _))⟩

/-! ### {elt for target in iter}, elt an int -/
/-- set.add to the tracked set -/
theorem set_put {X : Cx} {pins : List (Addr × Obj)} {σ : L2.St} {H : Hp} {s : Shared} {E : Value → Shared → Prop} {D : Addr} {S : Int → Bool} {n : Nat} {k : Int} {tk : Tok} {Q : Value → Shared → Prop} (I : Inv X pins σ H s) (hD : H D = some (SetO X.w D S n)) (room : n + 1 < scanBound)
    (go : ∀ s', Inv X pins σ (upd H D (SetO X.w D (fun j => S j || decide (j = k)) (if S k = true then n else n + 1))) s' → Q .none s') : wpAny (model X.prog X.w) X.A (call (.builtin "set.add") [.ref D, .int k tk]) Q E s :=
  setR_add (setO_get I hD) room fun h1 same put => go _ (I.write (e := D) (t' := s.toks + 1) (by rw [hD]; trivial) (.inl rfl) (fun b u hb hu => (same.2 b hb).trans hu) (let ⟨o, _, _, _, ho, _⟩ := put; ⟨o, ho⟩) (setO_new put))
section
variable {X : Cx}
/-- D the new set -/
def tSi (w : World) (wi : TI) (g : TG) (te : TE) (vs : List Nat) : TE := fun σ H Q => wi σ H fun J H1 => ∀ D, H1 D = none → ∃ W : Nat → Nat → Hp → Prop, (∃ m, W 0 m (upd H1 D (SetO w D (fun _ => false) 0))) ∧ ∀ i m H, W i m H →
  (J.stop i H ∧ Q (.ref D) H) ∨ (J.go i H ∧ ∃ Nx : Hp → Prop, (∀ H', Nx H' → ∃ m', m' < m ∧ W (i + 1) m' H') ∧ ∀ x H', J.yld i H x H' → g x (wipe σ vs) H' fun σ2 H2 => wipe σ2 vs = wipe σ vs ∧
    te σ2 H2 fun y H4 => ∃ (c : Int) (S : Int → Bool) (n : Nat), y = .int c ∧ H4 D = some (SetO w D S n) ∧ n + 1 < scanBound ∧ Nx (upd H4 D (SetO w D (fun j => S j || decide (j = c)) (if S c = true then n else n + 1))))
/-- a record of the walk, seen from the block -/
theorem blk_rec {s : Shared} {H : Hp} {sc : Scope} {ce : Env} {fp : List Addr} {σ : L2.St} {H' : Hp} {s' : Shared} (I : Inv (X.blk s H sc ce fp) [] σ H' s') {b : Addr} (hb : b ∈ fp) (n : H' b = none) : FpOk (X.blk s H sc ce fp) [] H' b := by
  have out := I.ok.exf b hb
  refine ⟨n, out.1, I.ok.exfs b hb, .inl hb, fun y c => out.2 y c, fun p hp => ?_⟩
  have none : p ∈ ([] : List (Addr × Obj)) ++ [] := hp
  simp at none
theorem pe_si {elt tg iter : Expr} {scope : Scope} {own : List (PySem.Str × Nat)} {pos : Pos} {wi : TI} {g : TG} {te : TE} (hc : X.calm = true) (hN : X.N.Nodup) (hi : PI X tg iter wi) (ok : BlkOk X.N X.env.scope scope own)
    (hg : ∀ (s : Shared) (H : Hp) (C : Addr) (cl : List (PySem.Str × Addr)) (fp : List Addr), PG (X.blk s H scope (compEnvC scope cl C X.env) fp) tg g)
    (hel : ∀ (s : Shared) (H : Hp) (C : Addr) (cl : List (PySem.Str × Addr)) (fp : List Addr), PE (X.blk s H scope (compEnvC scope cl C X.env) fp) elt te) (hs : ∀ x, foldedSetIterable iter X.env x = pure x := by intro _; rfl) :
    PE X (.SetComp elt [⟨tg, iter, [], 0⟩] scope pos) (tSi X.w wi g te (own.map (·.2))) := by
  constructor
  intro pins s σ H Q I h
  rw [PpSet.eval_SetComp]
  -- the source, its iterator
  have caught : ∀ y ∈ scope.names, y.2 = .free → ∃ c, X.env.cells.lookup y.1 = some c := fun y hy e => (ok.free y hy e).elim (fun z => I.ok.has _ (.inl z)) fun z => I.ok.has _ (.inr z)
  refine wpAny_comprehension_free (use := none) rfl hs (closure_ok caught) ok.kind (fun y hy e => (ok.uniq y hy).trans (congrArg some e)) (thn (hi.run pins s σ H _ I h) fun src sa ha => thn ha ?_)
  rintro itv sb ⟨it, fp, rec, J, Hb, rfl, Ib, turns, recb, fpb, reading⟩
  -- the new set
  refine PpSet.newSet_ok (newEnv_comp ?_)
  obtain ⟨D, eD⟩ : ∃ D, D = sb.heap.objs.size := ⟨_, rfl⟩
  have freshD : Hb D = none := Ib.hok.fresh (Nat.le_of_eq eD.symm)
  obtain ⟨W, ⟨m0, w0⟩, loop⟩ := reading D freshD
  rw [← eD]
  obtain ⟨sc, esc⟩ : ∃ sc : Shared, sc = { sb with heap := sb.heap.push { cls := .type "set", dict := none, data := .set #[] 0 (.fresh 0 0 (!X.w.params.followText "set-order")) } } := ⟨_, rfl⟩
  have hsc := congrArg Shared.heap esc
  rw [← esc]
  have kept : ∀ b o, sb.heap.get? b = some o → sc.heap.get? b = some o := fun b o hb => by
    rw [hsc]
    exact Heap.get?_push_of_some _ hb
  have Ic : Inv X pins σ (upd Hb D (SetO X.w D (fun _ => false) 0)) sc := by
    rw [esc]
    have new := setR_fresh (h := sb.heap) X.w
    rw [← eD] at new
    exact Ib.laid (t' := sb.toks) (fun b o hb => Heap.get?_push_of_some _ hb) (Nat.le_of_eq eD.symm) (setO_new new)
  have below : ∀ b ∈ fp, b < sb.heap.objs.size := fun b hb => let ⟨_, hob, _⟩ := turns.obj _ _ recb b hb; Heap.lt_size hob
  have fpc : ∀ b ∈ fp, FpOk X pins (upd Hb D (SetO X.w D (fun _ => false) 0)) b ∧ b < sc.heap.objs.size := fun b hb => by
    have lt := below b hb
    refine ⟨⟨?_, (fpb b hb).2⟩, ?_⟩
    · rw [upd_ne (by rw [eD]; exact Nat.ne_of_lt lt)]
      exact (fpb b hb).1
    · rw [hsc, Heap.size_push]
      exact Nat.lt_succ_of_lt lt
  have recc : rec 0 sc.heap := turns.keep _ _ _ recb fun b _ o hb => kept b o hb
  -- the block's frame
  obtain ⟨Hc, eHc⟩ : ∃ Hc, Hc = upd Hb D (SetO X.w D (fun _ => false) 0) := ⟨_, rfl⟩
  rw [← eHc] at Ic fpc w0
  have Id := block_start Ic ok hN fpc
  obtain ⟨ce, ece⟩ : ∃ ce, ce = compEnvC scope (cellsFrom (sc.heap.objs.size + 1) scope.names (cloFrom X.env.cells scope.names [])) sc.heap.objs.size X.env := ⟨_, rfl⟩
  have at_ : ce.locals = sc.heap.objs.size := by rw [ece]; rfl
  have pg : PG (X.blk sc Hc scope ce fp) tg g := ece ▸ hg sc Hc _ _ fp
  have pe : PE (X.blk sc Hc scope ce fp) elt te := ece ▸ hel sc Hc _ _ fp
  rw [← ece] at Id
  show codeAny _ _ (.compStart (.SetComp elt [⟨tg, iter, [], 0⟩] scope pos) 0 (.ref it) (.ref D) (compEnvC scope (cellsFrom (sc.heap.objs.size + 1) scope.names (cloFrom X.env.cells scope.names [])) sc.heap.objs.size X.env)) (compPost (model X.prog X.w) X.A X.xe none _ (.ref D) sc.heap.objs.size) { sc with heap := pushCells (sc.heap.push { cls := .type "dict", data := .dict #[] }) scope.names }
  rw [← ece]
  obtain ⟨sd, esd⟩ : ∃ sd : Shared, sd = { sc with heap := pushCells (sc.heap.push { cls := .type "dict", data := .dict #[] }) scope.names } := ⟨_, rfl⟩
  have hsd := congrArg Shared.heap esd
  rw [← esd] at Id ⊢
  have recd : rec 0 sd.heap := turns.keep _ _ _ recc fun b _ o hb => by
    rw [hsd]
    exact pushCells_keeps _ _ _ _ (Heap.get?_push_of_some _ hb)
  refine PpSet.codeAny_compStart_set ?_ (turns.self X.A 0 _ _ _ recd ?_)
  all_goals
    refine PpSet.compLoopS_any (fun n s' => ∃ i H', Inv (X.blk sc Hc scope ce fp) [] (wipe σ (own.map (·.2))) H' s' ∧ rec i s'.heap ∧ (∀ b ∈ fp, H' b = none) ∧ W i n H') ?_ m0 ⟨0, Hc, Id, recd, fun b hb => (fpc b hb).1.1, w0⟩
    rintro n s1 ⟨i, H1, I1, rec1, free1, w1⟩
    have fp1 : ∀ b ∈ fp, FpOk (X.blk sc Hc scope ce fp) [] H1 b := fun b hb => blk_rec I1 hb (free1 b hb)
    rcases loop i n H1 w1 with ⟨stop, q⟩ | ⟨go, Nx, falls, turn⟩
    · -- the end: back in the def's frame
      refine thnF (turns.done (X.blk sc Hc scope ce fp) rfl rfl rfl hc i [] s1 _ H1 _ I1 fp1 rec1 stop) ?_
      rintro r s2 ⟨rfl, I2⟩
      have I3 : Inv X pins σ H1 s2 := Ic.call' (ch := fp) I2.os I2.base I2.hok I2.bare fun b hb => let ⟨_, a1, _, a3, a4, a5⟩ := (fpc b hb).1; ⟨a3, a1, a4, a5⟩
      have gone : H1 sc.heap.objs.size = none := at_ ▸ I2.free
      obtain ⟨m, frame, _⟩ := I2.loc
      have frame : s2.heap.Ns ce.locals m := frame
      rw [at_] at frame
      obtain ⟨b0, b1, _, b3, b4, b5⟩ := Ic.fpOk (Nat.le_refl _) gone
      exact ⟨m, frame, fun h3 same => ⟨.ref D, H1, I3.turned (t' := s2.toks) (fun b o hb g => (same.2 b hb).trans g) b0 b1 b3 b4 b5, rfl, q⟩⟩
    · -- a turn
      refine thnF (turns.item (X.blk sc Hc scope ce fp) rfl rfl rfl hc i [] s1 _ H1 _ I1 fp1 rec1 go) ?_
      rintro r s2 ⟨u, rfl, owned⟩
      refine thnF owned ?_
      rintro _ s3 ⟨x, H3, I3, rx, gives, rec3, free3⟩
      have I3' := I3.pinned (fun b hb => blk_rec I3 hb (free3 b hb)) (turns.obj _ _ rec3)
      refine thnF (pg.run _ s3 _ H3 x u _ I3' rx (turn x H3 gives)) ?_
      rintro _ s4 ⟨σ4, H4, I4, wiped, q4⟩
      refine wpAny_pure ?_
      simp only [if_true]
      refine thnF (pe.run _ s4 σ4 H4 _ I4 q4) ?_
      rintro z s5 ⟨y, H5, I5, rz, c, S, k, rfl, hD, room, nx⟩
      obtain ⟨tk, rfl⟩ := (show ∃ t, z = Value.int c t from rz)
      refine set_put (X := X.blk sc Hc scope ce fp) I5 hD room fun s6 I6 => ?_
      obtain ⟨m, lt, w6⟩ := falls _ nx
      have still : ∀ b ∈ fp, ∀ o, s3.heap.get? b = some o → s6.heap.get? b = some o ∧ _ := fun b hb o ho => (I6.pin (b, o) (List.mem_append_right _ (List.mem_append_right _ (mem_pinsAt hb ho)))).imp id And.left
      refine ⟨m, lt, i + 1, _, (I6.unpinned (pins := [])).weak ?_ (fun j v e => ?_), turns.keep _ _ _ rec3 fun b hb o ho => (still b hb o ho).1, fun b hb => ?_, w6⟩
      · rw [← wiped, wipe_length]
      · exact (wipe_some (wiped ▸ e)).1
      · obtain ⟨o, ho, _⟩ := turns.obj _ _ rec3 b hb
        exact (still b hb o ho).2
end
/-- over range(n) -/
theorem si_range {w : World} {lo : Int} {n : Nat} {g : TG} {te : TE} {vs : List Nat} {σ : L2.St} {H1 : Hp} {D : Addr} {Qd : Hp → Prop} (Pv : Nat → Hp → Prop) (h0 : Pv 0 (upd H1 D (SetO w D (fun _ => false) 0)))
    (hs : ∀ i H, i < n → Pv i H → g (.int (lo + i)) (wipe σ vs) H fun σ2 H2 => wipe σ2 vs = wipe σ vs ∧
      te σ2 H2 fun y H4 => ∃ (c : Int) (S : Int → Bool) (n : Nat), y = .int c ∧ H4 D = some (SetO w D S n) ∧ n + 1 < scanBound ∧ Pv (i + 1) (upd H4 D (SetO w D (fun j => S j || decide (j = c)) (if S c = true then n else n + 1)))) (hd : ∀ H, Pv n H → Qd H) :
    ∃ W : Nat → Nat → Hp → Prop, (∃ m, W 0 m (upd H1 D (SetO w D (fun _ => false) 0))) ∧ ∀ i m H, W i m H →
      ((Itr lo n).stop i H ∧ Qd H) ∨ ((Itr lo n).go i H ∧ ∃ Nx : Hp → Prop, (∀ H', Nx H' → ∃ m', m' < m ∧ W (i + 1) m' H') ∧ ∀ x H', (Itr lo n).yld i H x H' → g x (wipe σ vs) H' fun σ2 H2 => wipe σ2 vs = wipe σ vs ∧
        te σ2 H2 fun y H4 => ∃ (c : Int) (S : Int → Bool) (n : Nat), y = .int c ∧ H4 D = some (SetO w D S n) ∧ n + 1 < scanBound ∧ Nx (upd H4 D (SetO w D (fun j => S j || decide (j = c)) (if S c = true then n else n + 1)))) := by
  refine ⟨fun i m H => i + m = n ∧ Pv i H, ⟨n, Nat.zero_add n, h0⟩, fun i m H ⟨e, p⟩ => ?_⟩
  cases m with
  | zero =>
    have ei : i = n := e
    subst ei
    exact .inl ⟨Nat.le_refl _, hd H p⟩
  | succ m =>
    have lt : i < n := by omega
    refine .inr ⟨lt, Pv (i + 1), fun H' p' => ⟨m, Nat.lt_succ_self m, by omega, p'⟩, fun x H' y => ?_⟩
    rw [y.1, y.2]
    exact hs i H lt p

/-! ### f(k = v, ..), keywords alone -/
def tCallK0 (m : Nat) (sp : Sp) (gV : List V → List V → List V) (E : XK) (tk : TA) : TE := fun σ H Q => tk σ H fun zs H2 => zs.length = m ∧ sp (gV [] zs) H2 Q E
theorem pe_callK0 {X : Cx} {CX : CXT} {k : Nat} {f : Addr} {fd : FuncData} {ps ks : List Str} {sp : Sp} {E : XK} {x : Str} {p pos : Pos} {kws : List Keyword} {tk : TA} {g : List Value → List Value → List Value} {gV : List V → List V → List V}
    (G : FnOk X.prog X.w X.K X.mg X.base CX k f fd ps sp) (room : Room k X.A) (hg : Gl X x) (hm : X.mg x = some (.ref f)) (hk : PySem.W.keepIn X.K (.ref f) = true) (hb : KBn X.K fd ps 0 ks g gV) (hx : Passes CX X E) (hkw : PK X kws tk)
    (named : (backToKw pos (keywordEach kws X.env)).all (·.1.isSome) = true := by rfl) (names : (backToKw pos (keywordEach kws X.env)).filterMap (·.1) = ks := by rfl)
    (plainName : (x == ("__debug__" : Str)) = false := by decide)
    (noStar : ((backTo pos (starEach [] X.env)).any (·.1) || (backToKw pos (keywordEach kws X.env)).any (·.1.isNone)) = false := by rfl) : PE X (.Call (.Name x p) [] kws pos) (tCallK0 ks.length sp gV E tk) := by
  constructor
  intro pins s σ H Q I h
  refine wpAny_Call_Name_kw (ld_glob I hg hm (PySem.W.callWith_KW0 (h₀ := X.base) I.ok.mod.kin hk named (thn (hkw.run pos pins s σ H _ I h) ?_) noStar) plainName)
  rintro ws sa ⟨zs, Ha, Ia, rel, count, q⟩
  refine ⟨Ia.kIn, ?_⟩
  rw [names]
  exact run_fnN (us := []) (vs := []) G room hb hx Ia .nil rel rfl count q
end Rw35
/-! The text by its defs, and what each def promises. -/
namespace Rw35
open PySem PySem.Spec PyProof.Rows L2

/-! ### the text -/
def topS (i : Nat) : Stmt := PySem.Challenge.pw_restworld_k35_whole_sums_that_turn.main.body.getD i (.Pass ⟨0, 0, 0, 0⟩)
abbrev s_is_integer : Stmt := topS 11
abbrev N_is_integer : List Str := ["value"]
abbrev p_is_integer : List Str := ["value"]
theorem sc_is_integer : FnScope N_is_integer p_is_integer (defScope s_is_integer) := ⟨rfl, rfl, rfl, by decide +kernel, rfl, by decide +kernel, by decide +kernel⟩
abbrev s_is_between : Stmt := topS 12
abbrev N_is_between : List Str := ["value", "least", "most"]
abbrev p_is_between : List Str := ["value", "least", "most"]
theorem sc_is_between : FnScope N_is_between p_is_between (defScope s_is_between) := ⟨rfl, rfl, rfl, by decide +kernel, rfl, by decide +kernel, by decide +kernel⟩
abbrev s_check_between : Stmt := topS 13
abbrev N_check_between : List Str := ["value", "least", "most"]
abbrev p_check_between : List Str := ["value", "least", "most"]
theorem sc_check_between : FnScope N_check_between p_check_between (defScope s_check_between) := ⟨rfl, rfl, rfl, by decide +kernel, rfl, by decide +kernel, by decide +kernel⟩
abbrev s_check_base : Stmt := topS 14
abbrev N_check_base : List Str := ["value"]
abbrev p_check_base : List Str := ["value"]
theorem sc_check_base : FnScope N_check_base p_check_base (defScope s_check_base) := ⟨rfl, rfl, rfl, by decide +kernel, rfl, by decide +kernel, by decide +kernel⟩
abbrev s_is_sum : Stmt := topS 15
abbrev N_is_sum : List Str := ["value", "number"]
abbrev p_is_sum : List Str := ["value"]
theorem sc_is_sum : FnScope N_is_sum p_is_sum (defScope s_is_sum) := ⟨rfl, rfl, rfl, by decide +kernel, rfl, by decide +kernel, by decide +kernel⟩
abbrev s_check_sum : Stmt := topS 16
abbrev N_check_sum : List Str := ["value"]
abbrev p_check_sum : List Str := ["value"]
theorem sc_check_sum : FnScope N_check_sum p_check_sum (defScope s_check_sum) := ⟨rfl, rfl, rfl, by decide +kernel, rfl, by decide +kernel, by decide +kernel⟩
abbrev s_apart_of : Stmt := topS 17
abbrev N_apart_of : List Str := ["number", "found", "step", "often"]
abbrev p_apart_of : List Str := ["number"]
theorem sc_apart_of : FnScope N_apart_of p_apart_of (defScope s_apart_of) := ⟨rfl, rfl, rfl, by decide +kernel, rfl, by decide +kernel, by decide +kernel⟩
abbrev s_apart : Stmt := topS 19
abbrev N_apart : List Str := ["base"]
abbrev p_apart : List Str := ["base"]
theorem sc_apart : FnScope N_apart p_apart (defScope s_apart) := ⟨rfl, rfl, rfl, by decide +kernel, rfl, by decide +kernel, by decide +kernel⟩
abbrev s_value_rest : Stmt := topS 21
abbrev N_value_rest : List Str := ["terms", "number", "base", "found", "term"]
abbrev p_value_rest : List Str := ["terms", "number", "base"]
theorem sc_value_rest : FnScope N_value_rest p_value_rest (defScope s_value_rest) := ⟨rfl, rfl, rfl, by decide +kernel, rfl, by decide +kernel, by decide +kernel⟩
abbrev s_trimmed : Stmt := topS 22
abbrev N_trimmed : List Str := ["terms", "many"]
abbrev p_trimmed : List Str := ["terms"]
theorem sc_trimmed : FnScope N_trimmed p_trimmed (defScope s_trimmed) := ⟨rfl, rfl, rfl, by decide +kernel, rfl, by decide +kernel, by decide +kernel⟩
abbrev s_slope_of : Stmt := topS 23
abbrev N_slope_of : List Str := ["terms", "found", "place", "term"]
abbrev p_slope_of : List Str := ["terms"]
theorem sc_slope_of : FnScope N_slope_of p_slope_of (defScope s_slope_of) := ⟨rfl, rfl, rfl, by decide +kernel, rfl, by decide +kernel, by decide +kernel⟩
abbrev s_multiplied_of : Stmt := topS 24
abbrev N_multiplied_of : List Str := ["one", "other", "found", "at", "left", "beyond", "right"]
abbrev p_multiplied_of : List Str := ["one", "other"]
theorem sc_multiplied_of : FnScope N_multiplied_of p_multiplied_of (defScope s_multiplied_of) := ⟨rfl, rfl, rfl, by decide +kernel, rfl, by decide +kernel, by decide +kernel⟩
abbrev s_led_of : Stmt := topS 25
abbrev N_led_of : List Str := ["one", "other", "found", "term"]
abbrev p_led_of : List Str := ["one", "other"]
theorem sc_led_of : FnScope N_led_of p_led_of (defScope s_led_of) := ⟨rfl, rfl, rfl, by decide +kernel, rfl, by decide +kernel, by decide +kernel⟩
abbrev s_check_made : Stmt := topS 26
abbrev N_check_made : List Str := ["terms", "term"]
abbrev p_check_made : List Str := ["terms"]
theorem sc_check_made : FnScope N_check_made p_check_made (defScope s_check_made) := ⟨rfl, rfl, rfl, by decide +kernel, rfl, by decide +kernel, by decide +kernel⟩
abbrev s_check_sums : Stmt := topS 27
abbrev N_check_sums : List Str := ["one", "other"]
abbrev p_check_sums : List Str := ["one", "other"]
theorem sc_check_sums : FnScope N_check_sums p_check_sums (defScope s_check_sums) := ⟨rfl, rfl, rfl, by decide +kernel, rfl, by decide +kernel, by decide +kernel⟩
abbrev s_led : Stmt := topS 28
abbrev N_led : List Str := ["one", "other"]
abbrev p_led : List Str := ["one", "other"]
theorem sc_led : FnScope N_led p_led (defScope s_led) := ⟨rfl, rfl, rfl, by decide +kernel, rfl, by decide +kernel, by decide +kernel⟩
abbrev s_check_small_primes : Stmt := topS 30
abbrev N_check_small_primes : List Str := ["base", "found", "great", "prime", "often"]
abbrev p_check_small_primes : List Str := ["base"]
theorem sc_check_small_primes : FnScope N_check_small_primes p_check_small_primes (defScope s_check_small_primes) := ⟨rfl, rfl, rfl, by decide +kernel, rfl, by decide +kernel, by decide +kernel⟩
abbrev s_turns_by : Stmt := topS 31
abbrev N_turns_by : List Str := ["terms", "prime", "often", "own", "rest"]
abbrev p_turns_by : List Str := ["terms", "prime", "often"]
theorem sc_turns_by : FnScope N_turns_by p_turns_by (defScope s_turns_by) := ⟨rfl, rfl, rfl, by decide +kernel, rfl, by decide +kernel, by decide +kernel⟩
abbrev s_does_turn : Stmt := topS 32
abbrev N_does_turn : List Str := ["terms", "parts", "prime", "often"]
abbrev p_does_turn : List Str := ["terms", "parts"]
theorem sc_does_turn : FnScope N_does_turn p_does_turn (defScope s_does_turn) := ⟨rfl, rfl, rfl, by decide +kernel, rfl, by decide +kernel, by decide +kernel⟩
abbrev s_turns : Stmt := topS 33
abbrev N_turns : List Str := ["terms", "base"]
abbrev p_turns : List Str := ["terms", "base"]
theorem sc_turns : FnScope N_turns p_turns (defScope s_turns) := ⟨rfl, rfl, rfl, by decide +kernel, rfl, by decide +kernel, by decide +kernel⟩
abbrev s_law_cask : Stmt := topS 35
abbrev N_law_cask : List Str := ["_law_script", "_law_k", "_law_own", "_law_stirred", "_law_entry"]
abbrev p_law_cask : List Str := ["_law_script", "_law_k"]
theorem sc_law_cask : FnScope N_law_cask p_law_cask (defScope s_law_cask) := ⟨rfl, rfl, rfl, by decide +kernel, rfl, by decide +kernel, by decide +kernel⟩
abbrev s_law_tap : Stmt := topS 36
abbrev N_law_tap : List Str := ["_law_cask_here", "_law_many", "_law_figure"]
abbrev p_law_tap : List Str := ["_law_cask_here", "_law_many"]
theorem sc_law_tap : FnScope N_law_tap p_law_tap (defScope s_law_tap) := ⟨rfl, rfl, rfl, by decide +kernel, rfl, by decide +kernel, by decide +kernel⟩
abbrev s_law_of : Stmt := topS 37
abbrev N_law_of : List Str := ["_law_cask_here", "_law_bowl"]
abbrev p_law_of : List Str := ["_law_cask_here", "_law_bowl"]
theorem sc_law_of : FnScope N_law_of p_law_of (defScope s_law_of) := ⟨rfl, rfl, rfl, by decide +kernel, rfl, by decide +kernel, by decide +kernel⟩
abbrev s_law_row : Stmt := topS 38
abbrev N_law_row : List Str := ["_law_cask_here", "_law_most", "_law_size", "_law_found", "_law_k"]
abbrev p_law_row : List Str := ["_law_cask_here", "_law_most", "_law_size"]
theorem sc_law_row : FnScope N_law_row p_law_row (defScope s_law_row) := ⟨rfl, rfl, rfl, by decide +kernel, rfl, by decide +kernel, by decide +kernel⟩
abbrev s_law_at : Stmt := topS 39
abbrev N_law_at : List Str := ["_law_row_here", "_law_number", "_law_found", "_law_part"]
abbrev p_law_at : List Str := ["_law_row_here", "_law_number"]
theorem sc_law_at : FnScope N_law_at p_law_at (defScope s_law_at) := ⟨rfl, rfl, rfl, by decide +kernel, rfl, by decide +kernel, by decide +kernel⟩
abbrev s_law_table : Stmt := topS 40
abbrev N_law_table : List Str := ["_law_row_here", "_law_base", "_law_number"]
abbrev p_law_table : List Str := ["_law_row_here", "_law_base"]
theorem sc_law_table : FnScope N_law_table p_law_table (defScope s_law_table) := ⟨rfl, rfl, rfl, by decide +kernel, rfl, by decide +kernel, by decide +kernel⟩
abbrev s_law_gcd : Stmt := topS 41
abbrev N_law_gcd : List Str := ["_law_one", "_law_last"]
abbrev p_law_gcd : List Str := ["_law_one", "_law_last"]
theorem sc_law_gcd : FnScope N_law_gcd p_law_gcd (defScope s_law_gcd) := ⟨rfl, rfl, rfl, by decide +kernel, rfl, by decide +kernel, by decide +kernel⟩
abbrev s_law_power : Stmt := topS 42
abbrev N_law_power : List Str := ["_law_number", "_law_often", "_law_found", "_law_k"]
abbrev p_law_power : List Str := ["_law_number", "_law_often"]
theorem sc_law_power : FnScope N_law_power p_law_power (defScope s_law_power) := ⟨rfl, rfl, rfl, by decide +kernel, rfl, by decide +kernel, by decide +kernel⟩
abbrev s_law_is_turn : Stmt := topS 43
abbrev N_law_is_turn : List Str := ["_law_row_here", "_law_base"]
abbrev p_law_is_turn : List Str := ["_law_row_here", "_law_base"]
theorem sc_law_is_turn : FnScope N_law_is_turn p_law_is_turn (defScope s_law_is_turn) := ⟨rfl, rfl, rfl, by decide +kernel, rfl, by decide +kernel, by decide +kernel⟩
abbrev s_law_pieces_right : Stmt := topS 44
abbrev N_law_pieces_right : List Str := ["_law_row_here", "_law_base", "_law_told", "_law_prime", "_law_often"]
abbrev p_law_pieces_right : List Str := ["_law_row_here", "_law_base"]
theorem sc_law_pieces_right : FnScope N_law_pieces_right p_law_pieces_right (defScope s_law_pieces_right) := ⟨rfl, rfl, rfl, by decide +kernel, rfl, by decide +kernel, by decide +kernel⟩
abbrev s_law_right : Stmt := topS 45
abbrev N_law_right : List Str := ["_law_cask_here", "_law_row_here", "_law_other", "_law_turn", "_law_base", "_law_prime", "_law_whole", "_law_told", "_law_step", "_law_line"]
abbrev p_law_right : List Str := ["_law_cask_here"]
theorem sc_law_right : FnScope N_law_right p_law_right (defScope s_law_right) := ⟨rfl, rfl, rfl, by decide +kernel, rfl, by decide +kernel, by decide +kernel⟩
abbrev s_law : Stmt := topS 46
abbrev N_law : List Str := ["_law_script", "_law_k"]
abbrev p_law : List Str := ["_law_script"]
theorem sc_law : FnScope N_law p_law (defScope s_law) := ⟨rfl, rfl, rfl, by decide +kernel, rfl, by decide +kernel, by decide +kernel⟩

/-- a def as it stands behind the top -/
structure Df (K : PySem.W.Frag) (mg : Str → Option Value) (x : Str) (st : Stmt) (ps : List Str) where
  f : Addr
  fd : FuncData
  F : FunD K x x (defArgs st) (defBody st) (defScope st) [] [] f fd
  g : mg x = some (.ref f)
  b : Binds K fd ps []
structure Txt (K : PySem.W.Frag) (mg : Str → Option Value) where
  d_is_integer : Df K mg "is_integer" s_is_integer p_is_integer
  d_is_between : Df K mg "is_between" s_is_between p_is_between
  d_check_between : Df K mg "check_between" s_check_between p_check_between
  d_check_base : Df K mg "check_base" s_check_base p_check_base
  d_is_sum : Df K mg "is_sum" s_is_sum p_is_sum
  d_check_sum : Df K mg "check_sum" s_check_sum p_check_sum
  d_apart_of : Df K mg "apart_of" s_apart_of p_apart_of
  d_apart : Df K mg "apart" s_apart p_apart
  d_value_rest : Df K mg "value_rest" s_value_rest p_value_rest
  d_trimmed : Df K mg "trimmed" s_trimmed p_trimmed
  d_slope_of : Df K mg "slope_of" s_slope_of p_slope_of
  d_multiplied_of : Df K mg "multiplied_of" s_multiplied_of p_multiplied_of
  d_led_of : Df K mg "led_of" s_led_of p_led_of
  d_check_made : Df K mg "check_made" s_check_made p_check_made
  d_check_sums : Df K mg "check_sums" s_check_sums p_check_sums
  d_led : Df K mg "led" s_led p_led
  d_check_small_primes : Df K mg "check_small_primes" s_check_small_primes p_check_small_primes
  d_turns_by : Df K mg "turns_by" s_turns_by p_turns_by
  d_does_turn : Df K mg "does_turn" s_does_turn p_does_turn
  d_turns : Df K mg "turns" s_turns p_turns
  d_law_cask : Df K mg "_law_cask" s_law_cask p_law_cask
  d_law_tap : Df K mg "_law_tap" s_law_tap p_law_tap
  d_law_of : Df K mg "_law_of" s_law_of p_law_of
  d_law_row : Df K mg "_law_row" s_law_row p_law_row
  d_law_at : Df K mg "_law_at" s_law_at p_law_at
  d_law_table : Df K mg "_law_table" s_law_table p_law_table
  d_law_gcd : Df K mg "_law_gcd" s_law_gcd p_law_gcd
  d_law_power : Df K mg "_law_power" s_law_power p_law_power
  d_law_is_turn : Df K mg "_law_is_turn" s_law_is_turn p_law_is_turn
  d_law_pieces_right : Df K mg "_law_pieces_right" s_law_pieces_right p_law_pieces_right
  d_law_right : Df K mg "_law_right" s_law_right p_law_right
  d_law : Df K mg "law" s_law p_law
  m_len : mg "len" = none
  m_all : mg "all" = none
  m_abs : mg "abs" = none
  m_max : mg "max" = none
  m_min : mg "min" = none
  m_isinstance : mg "isinstance" = none
  m_divmod : mg "divmod" = none
  m_int : mg "int" = none
  m_bool : mg "bool" = none
  m_tuple : mg "tuple" = none
  m_list : mg "list" = none
  m_set : mg "set" = none
  m_range : mg "range" = none
  m_enumerate : mg "enumerate" = none
  c_MOST_BASE : ∃ t, mg "MOST_BASE" = some (.int 1000000000000 t)
  c_MOST_DEGREE : ∃ t, mg "MOST_DEGREE" = some (.int 12 t)
  c_MOST_PRIME : ∃ t, mg "MOST_PRIME" = some (.int 1000 t)
  c_MOST_COEFFICIENT : ∃ t, mg "MOST_COEFFICIENT" = some (.int 1000000000000 t)

section
variable {X : Cx}
theorem pe_gint {x : Str} {i : Int} {pos : Pos} (h : ∃ t, X.mg x = some (.int i t)) (hg : Gl X x := by rfl) (hd : (x == ("__debug__" : Str)) = false := by decide) : PE X (.Name x pos) (tC (.int i)) := by
  obtain ⟨t, e⟩ := h
  exact pe_glob hg e ⟨t, rfl⟩ hd
theorem pe_d {x : Str} {st : Stmt} {ps : List Str} {k : Nat} {sp : Sp} {p pos : Pos} {e : Expr} {es : List Expr} {t : TA} (D : Df X.K X.mg x st ps) (G : FnOk X.prog X.w X.K X.mg X.base CX0 k D.f D.fd ps sp) (hr : Room k X.A) (hg : Gl X x)
    (ha : PA X (e :: es) t) (hd : (x == ("__debug__" : Str)) = false := by decide) (he : starEach (e :: es) X.env = (false, eval e X.env) :: starEach es X.env := by rfl) (hpl : (backTo pos (starEach es X.env)).any (·.1) = false := by rfl) :
    PE X (.Call (.Name x p) (e :: es) [] pos) (tCall sp [] E0 t) := pe_call G hr hg D.g D.F.kp D.b .nil pass0 ha hd he hpl
theorem pe_dk {x : Str} {st : Stmt} {ps ks : List Str} {k : Nat} {sp : Sp} {p pos : Pos} {kws : List Keyword} {tk : TA} {g : List Value → List Value → List Value} {gV : List V → List V → List V}
    (D : Df X.K X.mg x st ps) (G : FnOk X.prog X.w X.K X.mg X.base CX0 k D.f D.fd ps sp) (hr : Room k X.A) (hg : Gl X x) (hb : KBn X.K D.fd ps 0 ks g gV)
    (hkw : PK X kws tk) (hall : (backToKw pos (keywordEach kws X.env)).all (·.1.isSome) = true := by rfl) (hks : (backToKw pos (keywordEach kws X.env)).filterMap (·.1) = ks := by rfl)
    (hdb : (x == ("__debug__" : Str)) = false := by decide)
    (hpl : ((backTo pos (starEach [] X.env)).any (·.1) || (backToKw pos (keywordEach kws X.env)).any (·.1.isNone)) = false := by rfl) :
    PE X (.Call (.Name x p) [] kws pos) (tCallK0 ks.length sp gV E0 tk) := pe_callK0 G hr hg D.g D.F.kp hb pass0 hkw hall hks hdb hpl
end

abbrev iVs (c : List Int) : List V := c.map V.int
theorem bl_t {p : Prop} [Decidable p] (h : p) : V.bl (decide p) = V.bl true := by rw [decide_eq_true h]
theorem bl_f {p : Prop} [Decidable p] (h : ¬ p) : V.bl (decide p) = V.bl false := by rw [decide_eq_false h]
theorem bl_tn {p : Prop} [Decidable p] (h : ¬ p) : V.bl (!decide p) = V.bl true := by rw [decide_eq_false h]; rfl
theorem bl_fn {p : Prop} [Decidable p] (h : p) : V.bl (!decide p) = V.bl false := by rw [decide_eq_true h]; rfl
theorem q_t {p : Prop} [Decidable p] {Q : VK} {H : Hp} (h : p) (q : Q (.bl true) H) : Q (.bl (decide p)) H := by rw [bl_t h]; exact q
theorem q_f {p : Prop} [Decidable p] {Q : VK} {H : Hp} (h : ¬ p) (q : Q (.bl false) H) : Q (.bl (decide p)) H := by rw [bl_f h]; exact q
/-- a type asked of a tuple -/
theorem ty_tup {K : PySem.W.Frag} {H : Hp} {a : Addr} {xs : List V} (h : SqT K H a xs) : TyX K H (.ref a) (.type "tuple") := by
  rcases h with (h | ⟨o, h⟩) | ⟨o, its, n, h1, h2, _⟩
  · exact .base (.tup h)
  · exact .fTuple h
  · exact .kTuple h1 h2
theorem at_last {α : Type} {l : List α} {v : α} (h : l[l.length - 1]? = some v) : atI l (-1) = some v := by
  have hne : l ≠ [] := fun z => by rw [z] at h; simp at h
  have e : l = l.dropLast ++ [v] := by
    rw [← List.dropLast_concat_getLast hne]
    have : l.getLast hne = v := by
      rw [← List.getLast?_eq_getElem?, List.getLast?_eq_getLast hne] at h
      exact Option.some.inj h
    rw [this]
    simp
  rw [e]
  exact atI_last _ _
theorem iv_at {c : List Int} {i : Nat} {x : V} (h : (iVs c)[i]? = some x) : ∃ t, c[i]? = some t ∧ x = .int t := by
  rw [List.getElem?_map] at h
  cases e : c[i]? with
  | none => rw [e] at h; cases h
  | some t => rw [e] at h; exact ⟨t, rfl, (Option.some.inj h).symm⟩
theorem iv_get {c : List Int} {i : Nat} {t : Int} (h : c[i]? = some t) : (iVs c)[i]? = some (.int t) := by rw [List.getElem?_map, h]; rfl
theorem iv_len (c : List Int) : (iVs c).length = c.length := List.length_map ..

theorem tand_by {t u : TT} {σ : L2.St} {H : Hp} {Q : Bool → Hp → Prop} {b1 b2 : Bool} (h1 : ∀ Q : Bool → Hp → Prop, Q b1 H → t σ H Q) (h2 : b1 = true → ∀ Q : Bool → Hp → Prop, Q b2 H → u σ H Q) (q : Q (b1 && b2) H) : tAnd t u σ H Q := h1 _ (by
  cases b1 with
  | true => exact h2 rfl _ q
  | false => exact q)
theorem rix_of {K : PySem.W.Frag} {H : Hp} {Q : VK} {a : Addr} {xs : List V} {i : Int} {v : V} (h : SqL K H a xs ∨ SqT K H a xs) (e : atI xs i = some v) (q : Q v H) : rIx K (.ref a) (.int i) H Q := by
  rcases h with h | h
  · exact .inl ⟨a, xs, i, v, rfl, rfl, h, e, q⟩
  · exact .inr (.inl ⟨a, xs, i, v, rfl, rfl, h, e, q⟩)
theorem cut_to (xs : List V) (k : Nat) : cutV xs none (some (k : Int)) = xs.take k := by
  unfold cutV
  rw [HT.sIx_none, HT.sIx_nat, List.drop_zero, Nat.sub_zero]
  by_cases h : k ≤ xs.length
  · rw [Nat.min_eq_left h]
  · rw [Nat.min_eq_right (by omega), List.take_length, List.take_of_length_le (by omega)]
theorem cut_from1 (xs : List V) : cutV xs (some 1) none = xs.drop 1 := by
  unfold cutV
  rw [show HT.sIx xs.length 0 (some 1) = min 1 xs.length from HT.sIx_nat xs.length 0 1, HT.sIx_none]
  cases xs with
  | nil => rfl
  | cons x r =>
    rw [Nat.min_eq_left (by simp)]
    exact List.take_of_length_le (by simp)
theorem ixN_at {n j : Nat} {i : Int} (e : i = (j : Int)) (h : j < n) : ixN n i = some j := by
  rw [e]
  exact Evl.ixN_nat h
theorem slF_get : ∀ (c : List Int) (k : Int) (i : Nat) (t : Int), c[i]? = some t → (slF k c)[i]? = some ((k + (i : Nat)) * t)
  | [], _, _, _, h => by simp at h
  | u :: c, k, 0, t, h => by
    have e : u = t := by simpa using h
    rw [e]
    show some (k * t) = some ((k + ((0 : Nat) : Int)) * t)
    simp
  | u :: c, k, i + 1, t, h => by
    have h' : c[i]? = some t := by simpa using h
    have := slF_get c (k + 1) i t h'
    show (slF (k + 1) c)[i]? = _
    rw [this]
    congr 2
    omega
theorem slF_len : ∀ (c : List Int) (k : Int), (slF k c).length = c.length
  | [], _ => rfl
  | _ :: c, k => congrArg Nat.succ (slF_len c (k + 1))
theorem iv_take {l : List Int} {i : Nat} {t : Int} (h : l[i]? = some t) : iVs (l.take i) ++ [.int t] = iVs (l.take (i + 1)) := by
  rw [List.take_add_one, h]
  show List.map V.int (l.take i) ++ [V.int t] = List.map V.int (l.take i ++ [t])
  rw [List.map_append]
  rfl
theorem rep_zeros (n : Nat) : (List.replicate n [V.int 0]).flatten = iVs (List.replicate n 0) := by
  induction n with
  | zero => rfl
  | succ n ih => rw [List.replicate_succ, List.flatten_cons, ih]; rfl

/-! ### heaps -/
/-- all but what stands at c -/
def ExB (c : Addr) (H H' : Hp) : Prop := ∀ a o, a ≠ c → H a = some o → H' a = some o
theorem ExB.refl (c : Addr) (H : Hp) : ExB c H H := fun _ _ _ h => h
theorem ExB.trans {c : Addr} {H H1 H2 : Hp} (a : ExB c H H1) (b : ExB c H1 H2) : ExB c H H2 := fun x o n h => b x o n (a x o n h)
theorem ExB.of {c : Addr} {H H' : Hp} (e : Evl.Ex H H') : ExB c H H' := fun a o _ h => e a o h
theorem ExB.upd {c : Addr} {H H' : Hp} {o : HO} (e : ExB c H H') : ExB c H (upd H' c o) := fun a u n h => by
  rw [upd_ne n]
  exact e a u n h
theorem ExB.new {c p : Addr} {H H' : Hp} {o : HO} (e : ExB c H H') (n : H' p = none) : ExB c H (L2.upd H' p o) := fun a u hn h => by
  rw [upd_ne (ne_of_none (e a u hn h) n)]
  exact e a u hn h
/-- where numbers are drawn from: a list of three, the last one not below 0 -/
def Cask (H : Hp) (c : Addr) : Prop := ∃ x y d : Int, H c = some (.lst [.int x, .int y, .int d]) ∧ 0 ≤ d
theorem Cask.ex {H H' : Hp} {c : Addr} (h : Cask H c) (e : Evl.Ex H H') : Cask H' c := by
  obtain ⟨x, y, d, h1, h2⟩ := h
  exact ⟨x, y, d, e c _ h1, h2⟩
theorem sqt_exb {K : PySem.W.Frag} {H H' : Hp} {c a : Addr} {xs : List V} (h : SqT K H a xs) (k : Cask H c) (e : ExB c H H') : SqT K H' a xs := by
  obtain ⟨x, y, d, hc, _⟩ := k
  rcases h with h | h
  · rcases h with h | ⟨o, h⟩
    · exact .inl (.inl (e a _ (ne_of h hc (by intro z; cases z)) h))
    · exact .inl (.inr ⟨o, e a _ (ne_of h hc (by intro z; cases z)) h⟩)
  · exact .inr h
/-- the pairs of a base taken apart, as a list of tuples' addresses -/
def Prs (K : PySem.W.Frag) (H : Hp) (as : List Addr) (l : List (Int × Nat)) : Prop := as.length = l.length ∧ ∀ (i : Nat) (a : Addr) (q : Int × Nat), as[i]? = some a → l[i]? = some q → SqT K H a [.int q.1, .int (q.2 : Nat)]
theorem Prs.ex {K : PySem.W.Frag} {H H' : Hp} {as : List Addr} {l : List (Int × Nat)} (h : Prs K H as l) (e : Evl.Ex H H') : Prs K H' as l := ⟨h.1, fun i a q h1 h2 => Evl.ex_t e (h.2 i a q h1 h2)⟩
def Parts (K : PySem.W.Frag) (H : Hp) (p : Addr) (l : List (Int × Nat)) : Prop := ∃ as : List Addr, SqT K H p (as.map V.ref) ∧ Prs K H as l
theorem Parts.ex {K : PySem.W.Frag} {H H' : Hp} {p : Addr} {l : List (Int × Nat)} (h : Parts K H p l) (e : Evl.Ex H H') : Parts K H' p l := by
  obtain ⟨as, h1, h2⟩ := h
  exact ⟨as, Evl.ex_t e h1, h2.ex e⟩

/-! ### the promises -/
/-- every prime of n is at most 1000 -/
def Small (n : Int) : Prop := ∀ l, Fine l → prod l = n → ∀ q ∈ l, q.1 ≤ 1000
def sp_is_integer (_ : PySem.W.Frag) : Sp := fun vs H Q _ => ∃ i : Int, vs = [.int i] ∧ Q (.bl true) H
def sp_is_between (_ : PySem.W.Frag) : Sp := fun vs H Q _ => ∃ i l m : Int, vs = [.int i, .int l, .int m] ∧ l ≤ i ∧ i ≤ m ∧ Q (.bl true) H
def sp_check_between (_ : PySem.W.Frag) : Sp := fun vs H Q _ => ∃ i l m : Int, vs = [.int i, .int l, .int m] ∧ l ≤ i ∧ i ≤ m ∧ Q .non H
def sp_check_base (_ : PySem.W.Frag) : Sp := fun vs H Q _ => ∃ i : Int, vs = [.int i] ∧ 1 ≤ i ∧ i ≤ 1000000000000 ∧ Q .non H
def sp_is_sum (K : PySem.W.Frag) : Sp := fun vs H Q _ => ∃ (a : Addr) (c : List Int), vs = [.ref a] ∧ SqT K H a (iVs c) ∧ Su 13 1000000000000 c ∧ ∀ H', Evl.Ex H H' → Q (.bl true) H'
def sp_check_sum (K : PySem.W.Frag) : Sp := fun vs H Q _ => ∃ (a : Addr) (c : List Int), vs = [.ref a] ∧ SqT K H a (iVs c) ∧ Su 13 1000000000000 c ∧ ∀ H', Evl.Ex H H' → Q .non H'
def sp_apart_of (K : PySem.W.Frag) : Sp := fun vs H Q _ => ∃ n : Int, vs = [.int n] ∧ 1 ≤ n ∧ n ≤ 1000000000000 ∧ ∀ l H' p, Fine l → prod l = n → Evl.Ex H H' → Parts K H' p l → Q (.ref p) H'
def sp_apart (K : PySem.W.Frag) : Sp := sp_apart_of K
def sp_value_rest (K : PySem.W.Frag) : Sp := fun vs H Q _ => ∃ (a : Addr) (c : List Int) (x b : Int), vs = [.ref a, .int x, .int b] ∧ SqT K H a (iVs c) ∧ 0 < b ∧ -1000000 ≤ x ∧ x ≤ 1000000 ∧ ∀ H', Evl.Ex H H' → Q (.int (ev c x % b)) H'
def sp_trimmed (K : PySem.W.Frag) : Sp := fun vs H Q _ => ∃ (a : Addr) (l : List Int), vs = [.ref a] ∧ (SqL K H a (iVs l) ∨ SqT K H a (iVs l)) ∧ 1 ≤ l.length ∧ l.length ≤ 1000 ∧ ∀ t H' p, Cut l t → Evl.Ex H H' → SqT K H' p (iVs t) → Q (.ref p) H'
def sp_slope_of (K : PySem.W.Frag) : Sp := fun vs H Q _ => ∃ (a : Addr) (c : List Int), vs = [.ref a] ∧ SqT K H a (iVs c) ∧ c.length ≤ 1000 ∧ ∀ H' p, Evl.Ex H H' → SqT K H' p (iVs (slope c)) → Q (.ref p) H'
def sp_multiplied_of (K : PySem.W.Frag) : Sp := fun vs H Q _ => ∃ (a b : Addr) (c d : List Int), vs = [.ref a, .ref b] ∧ SqT K H a (iVs c) ∧ SqT K H b (iVs d) ∧ 1 ≤ c.length ∧ c.length ≤ 100 ∧ 1 ≤ d.length ∧ d.length ≤ 100 ∧ (∀ t ∈ c, -10000000 ≤ t ∧ t ≤ 10000000) ∧
  ∀ f t H' p, Mr c d c.length f → Cut f t → Evl.Ex H H' → SqT K H' p (iVs t) → Q (.ref p) H'
def sp_led_of (K : PySem.W.Frag) : Sp := fun vs H Q _ => ∃ (a b : Addr) (c d : List Int), vs = [.ref a, .ref b] ∧ SqT K H a (iVs c) ∧ SqT K H b (iVs d) ∧ Su 5 12 c ∧ Su 3 6 d ∧
  ∀ t H' p, Su 11 2000000 t → (∀ x, ev t x = ev c (ev d x)) → Evl.Ex H H' → SqT K H' p (iVs t) → Q (.ref p) H'
def sp_check_made (K : PySem.W.Frag) : Sp := fun vs H Q _ => ∃ (a : Addr) (c : List Int), vs = [.ref a] ∧ SqT K H a (iVs c) ∧ Su 11 2000000 c ∧ Q (.ref a) H
def sp_check_sums (K : PySem.W.Frag) : Sp := fun vs H Q _ => ∃ (a b : Addr) (c d : List Int), vs = [.ref a, .ref b] ∧ SqT K H a (iVs c) ∧ SqT K H b (iVs d) ∧ Su 13 1000000000000 c ∧ Su 13 1000000000000 d ∧ ∀ H', Evl.Ex H H' → Q .non H'
def sp_led (K : PySem.W.Frag) : Sp := sp_led_of K
def sp_check_small_primes (K : PySem.W.Frag) : Sp := fun vs H Q _ => ∃ n : Int, vs = [.int n] ∧ 1 ≤ n ∧ n ≤ 1000000000000 ∧ Small n ∧ ∀ l H' p, Fine l → prod l = n → Evl.Ex H H' → Parts K H' p l → Q (.ref p) H'
def sp_turns_by (K : PySem.W.Frag) : Sp := fun vs H Q _ => ∃ (a : Addr) (c : List Int) (p : Int) (e : Nat), vs = [.ref a, .int p, .int (e : Nat)] ∧ SqT K H a (iVs c) ∧ c.length ≤ 100 ∧ 2 ≤ p ∧ p ≤ 1000 ∧ ∀ (b : Bool) H', (b = true ↔ By c p e) → Evl.Ex H H' → Q (.bl b) H'
def sp_does_turn (K : PySem.W.Frag) : Sp := fun vs H Q _ => ∃ (a t : Addr) (c : List Int) (l : List (Int × Nat)), vs = [.ref a, .ref t] ∧ SqT K H a (iVs c) ∧ c.length ≤ 100 ∧ Parts K H t l ∧ l.length ≤ 100 ∧ (∀ q ∈ l, 2 ≤ q.1 ∧ q.1 ≤ 1000) ∧
  ∀ (b : Bool) H', (b = true ↔ ∀ q ∈ l, By c q.1 q.2) → Evl.Ex H H' → Q (.bl b) H'
def sp_turns (K : PySem.W.Frag) : Sp := fun vs H Q _ => ∃ (a : Addr) (c : List Int) (n : Int), vs = [.ref a, .int n] ∧ SqT K H a (iVs c) ∧ Su 13 1000000000000 c ∧ 1 ≤ n ∧ n ≤ 1000000000000 ∧ Small n ∧ ∀ (b : Bool) H', (b = true ↔ Tn c n) → Evl.Ex H H' → Q (.bl b) H'
def sp_law_cask (K : PySem.W.Frag) : Sp := fun vs H Q _ => ∃ (a : Addr) (ns : List Int) (k : Int), vs = [.ref a, .int k] ∧ SqL K H a (iVs ns) ∧ ns.length ≤ 1000 ∧ 0 ≤ k ∧ k ≤ 1000 ∧ ∀ H' p, Evl.Ex H H' → H p = none → Cask H' p → Q (.ref p) H'
def sp_law_tap (_ : PySem.W.Frag) : Sp := fun vs H Q _ => ∃ (c : Addr) (m : Int), vs = [.ref c, .int m] ∧ 0 < m ∧ m ≤ 1000000 ∧ Cask H c ∧ ∀ r H', 0 ≤ r → r < m → ExB c H H' → Cask H' c → Q (.int r) H'
def sp_law_of (_ : PySem.W.Frag) : Sp := fun vs H Q _ => ∃ (c b : Addr) (ns : List Int), vs = [.ref c, .ref b] ∧ Cask H c ∧ c ≠ b ∧ H b = some (.lst (iVs ns)) ∧ 1 ≤ ns.length ∧ ns.length ≤ 100 ∧ ∀ z H', z ∈ ns → ExB c H H' → Cask H' c → Q (.int z) H'
def sp_law_row (_ : PySem.W.Frag) : Sp := fun vs H Q _ => ∃ (c : Addr) (D : Nat) (B : Int), vs = [.ref c, .int (D : Nat), .int B] ∧ D ≤ 100 ∧ 1 ≤ B ∧ B ≤ 1000 ∧ Cask H c ∧ ∀ t H' p, Su (D + 1) B t → ExB c H H' → Cask H' c → H' p = some (.tup (iVs t)) → Q (.ref p) H'
def sp_law_at (K : PySem.W.Frag) : Sp := fun vs H Q _ => ∃ (a : Addr) (c : List Int) (x : Int), vs = [.ref a, .int x] ∧ SqT K H a (iVs c) ∧ -1000000 ≤ x ∧ x ≤ 1000000 ∧ ∀ H', Evl.Ex H H' → Q (.int (ev c x)) H'
def sp_law_table (K : PySem.W.Frag) : Sp := fun vs H Q _ => ∃ (a : Addr) (c : List Int) (n : Int), vs = [.ref a, .int n] ∧ SqT K H a (iVs c) ∧ 0 < n ∧ n ≤ 1000 ∧ ∀ H' p, Evl.Ex H H' → SqT K H' p (iVs ((List.range n.toNat).map fun i : Nat => ev c (i : Int) % n)) → Q (.ref p) H'
def sp_law_gcd (_ : PySem.W.Frag) : Sp := fun vs H Q _ => ∃ a b : Int, vs = [.int a, .int b] ∧ Q (.int (Int.gcd a b : Nat)) H
def sp_law_power (_ : PySem.W.Frag) : Sp := fun vs H Q _ => ∃ (x : Int) (e : Nat), vs = [.int x, .int (e : Nat)] ∧ -1000000 ≤ x ∧ x ≤ 1000000 ∧ e ≤ 1000000 ∧ Q (.int (x ^ e)) H
def sp_law_is_turn (K : PySem.W.Frag) : Sp := fun vs H Q _ => ∃ (a : Addr) (c : List Int) (n : Int), vs = [.ref a, .int n] ∧ SqT K H a (iVs c) ∧ 0 < n ∧ n ≤ 1000 ∧ ∀ (b : Bool) H', (b = true ↔ Tn c n) → Evl.Ex H H' → Q (.bl b) H'
def sp_law_pieces_right (K : PySem.W.Frag) : Sp := fun vs H Q _ => ∃ (a : Addr) (c : List Int) (n : Int), vs = [.ref a, .int n] ∧ SqT K H a (iVs c) ∧ Su 13 1000000000000 c ∧ 1 ≤ n ∧ n ≤ 1000 ∧ ∀ H', Evl.Ex H H' → Q (.bl true) H'
def sp_law_right (_ : PySem.W.Frag) : Sp := fun vs H Q _ => ∃ c : Addr, vs = [.ref c] ∧ Cask H c ∧ ∀ H', ExB c H H' → Q (.bl true) H'
def sp_law (K : PySem.W.Frag) : Sp := fun vs H Q _ => ∃ (a : Addr) (ns : List Int), vs = [.ref a] ∧ SqL K H a (iVs ns) ∧ ns.length ≤ 63 ∧ ∀ H', Q (.bl true) H'
end Rw35
/-! The walks: checks. -/
namespace Rw35
open PySem PySem.Spec PyProof.Rows L2
section
variable {P : Program} {w : World} {K : PySem.W.Frag} {mg : Str → Option Value} {base : Heap}
theorem ok_is_integer (T : Txt K mg)  : FnOk P w K mg base CX0 1 T.d_is_integer.f T.d_is_integer.fd p_is_integer (sp_is_integer K) := by
  have sc := sc_is_integer
  refine T.d_is_integer.F.ok sc (fun vs H Q E h => ?_) (fun cdv A outer s H vs Q E hr h => ?_)
  · first
    | (obtain ⟨_, rfl, _⟩ := h; rfl)
    | (obtain ⟨_, _, rfl, _⟩ := h; rfl)
    | (obtain ⟨_, _, _, rfl, _⟩ := h; rfl)
    | (obtain ⟨_, _, _, _, rfl, _⟩ := h; rfl)
  · refine ⟨_, PSs.nox (pss_one
      (ps_ret (pe_and (pe_callB call_isi (by rfl) T.m_isinstance (by decide +kernel) (pa_cons (pv 0) (pa_cons (pe_bltn (v := .ty "int") (by rfl) T.m_int (by decide +kernel) rfl) pa_nil))) (pe_one (pe_not (pe_callB call_isi (by rfl) T.m_isinstance (by decide +kernel) (pa_cons (pv 0) (pa_cons (pe_bltn (v := .ty "bool") (by rfl) T.m_bool (by decide +kernel) rfl) pa_nil)))))))), ?_⟩
    obtain ⟨i, rfl, q⟩ := h
    refine ⟨_, rfl, _, .ty "int", .type "int", .type "int", true, rfl, .ty "int", .base (.int i), kit_ty (by decide +kernel), true, rfl, iteT ?_⟩
    refine ⟨_, rfl, _, .ty "bool", .type "int", .type "bool", false, rfl, .ty "bool", .base (.int i), kit_ty (by decide +kernel), false, rfl, ?_⟩
    exact q
theorem ok_is_between (T : Txt K mg) (G_is_integer : FnOk P w K mg base CX0 1 T.d_is_integer.f T.d_is_integer.fd p_is_integer (sp_is_integer K)) : FnOk P w K mg base CX0 2 T.d_is_between.f T.d_is_between.fd p_is_between (sp_is_between K) := by
  have sc := sc_is_between
  refine T.d_is_between.F.ok sc (fun vs H Q E h => ?_) (fun cdv A outer s H vs Q E hr h => ?_)
  · first
    | (obtain ⟨_, rfl, _⟩ := h; rfl)
    | (obtain ⟨_, _, rfl, _⟩ := h; rfl)
    | (obtain ⟨_, _, _, rfl, _⟩ := h; rfl)
    | (obtain ⟨_, _, _, _, rfl, _⟩ := h; rfl)
  · refine ⟨_, PSs.nox (pss_one
      (ps_ret (pe_and (pe_d T.d_is_integer G_is_integer (hr.mono (by decide)) (by rfl) (pa_cons (pv 0) pa_nil)) (pe_one (pe_chain op_le op_le (pv 1) (pv 0) (pv 2)))))), ?_⟩
    obtain ⟨i, l, m, rfl, h1, h2, q⟩ := h
    refine ⟨_, rfl, i, rfl, true, rfl, iteT ?_⟩
    refine ⟨_, rfl, _, rfl, _, _, rfl, rfl, true, bl_t h1, iteT ?_⟩
    exact ⟨_, rfl, _, _, rfl, rfl, q_t (Q := Q) h2 q⟩
theorem ok_check_between (T : Txt K mg) (G_is_between : FnOk P w K mg base CX0 2 T.d_is_between.f T.d_is_between.fd p_is_between (sp_is_between K)) : FnOk P w K mg base CX0 3 T.d_check_between.f T.d_check_between.fd p_check_between (sp_check_between K) := by
  have sc := sc_check_between
  refine T.d_check_between.F.ok sc (fun vs H Q E h => ?_) (fun cdv A outer s H vs Q E hr h => ?_)
  · first
    | (obtain ⟨_, rfl, _⟩ := h; rfl)
    | (obtain ⟨_, _, rfl, _⟩ := h; rfl)
    | (obtain ⟨_, _, _, rfl, _⟩ := h; rfl)
    | (obtain ⟨_, _, _, _, rfl, _⟩ := h; rfl)
  · refine ⟨_, PSs.nox (pss_one
      (ps_if (pt_not (pt_val (pe_d T.d_is_between G_is_between (hr.mono (by decide)) (by rfl) (pa_cons (pv 0) (pa_cons (pv 1) (pa_cons (pv 2) pa_nil))))))
        (pss_one
          ps_never)
        pss_nil)), ?_⟩
    obtain ⟨i, l, m, rfl, h1, h2, q⟩ := h
    refine ⟨_, rfl, _, rfl, _, rfl, i, l, m, rfl, h1, h2, true, rfl, iteF ?_⟩
    exact q
theorem ok_check_base (T : Txt K mg) (G_check_between : FnOk P w K mg base CX0 3 T.d_check_between.f T.d_check_between.fd p_check_between (sp_check_between K)) : FnOk P w K mg base CX0 4 T.d_check_base.f T.d_check_base.fd p_check_base (sp_check_base K) := by
  have sc := sc_check_base
  refine T.d_check_base.F.ok sc (fun vs H Q E h => ?_) (fun cdv A outer s H vs Q E hr h => ?_)
  · first
    | (obtain ⟨_, rfl, _⟩ := h; rfl)
    | (obtain ⟨_, _, rfl, _⟩ := h; rfl)
    | (obtain ⟨_, _, _, rfl, _⟩ := h; rfl)
    | (obtain ⟨_, _, _, _, rfl, _⟩ := h; rfl)
  · refine ⟨_, PSs.nox (pss_one
      (ps_expr (pe_d T.d_check_between G_check_between (hr.mono (by decide)) (by rfl) (pa_cons (pv 0) (pa_cons pe_int (pa_cons (pe_gint T.c_MOST_BASE) pa_nil)))))), ?_⟩
    obtain ⟨i, rfl, h1, h2, q⟩ := h
    exact ⟨_, rfl, i, 1, 1000000000000, rfl, h1, h2, q⟩
theorem ok_is_sum (T : Txt K mg) (G_is_between : FnOk P w K mg base CX0 2 T.d_is_between.f T.d_is_between.fd p_is_between (sp_is_between K)) : FnOk P w K mg base CX0 3 T.d_is_sum.f T.d_is_sum.fd p_is_sum (sp_is_sum K) := by
  have sc := sc_is_sum
  refine T.d_is_sum.F.ok sc (fun vs H Q E h => ?_) (fun cdv A outer s H vs Q E hr h => ?_)
  · first
    | (obtain ⟨_, rfl, _⟩ := h; rfl)
    | (obtain ⟨_, _, rfl, _⟩ := h; rfl)
    | (obtain ⟨_, _, _, rfl, _⟩ := h; rfl)
    | (obtain ⟨_, _, _, _, rfl, _⟩ := h; rfl)
  · refine ⟨_, PSs.nox (pss_cons
      (ps_if (PW.pt (pw_or (pt_not (pt_val (pe_callB call_isi (by rfl) T.m_isinstance (by decide +kernel) (pa_cons (pv 0) (pa_cons (pe_bltn (v := .ty "tuple") (by rfl) T.m_tuple (by decide +kernel) rfl) pa_nil))))) (pw_or1 (pt_not (pt_chain op_le op_le pe_int (pe_callB call_len_seq (by rfl) T.m_len (by decide +kernel) (pa_cons (pv 0) pa_nil)) (pe_op op_add (pe_gint T.c_MOST_DEGREE) pe_int))))))
        (pss_one
          (ps_ret pe_bl))
        pss_nil)
    (pss_cons
      (ps_if (pt_not (pt_val (pe_callB (cr_all rfl) (by rfl) T.m_all (by decide +kernel) (pa_cons (pe_lc (own := [("number", 1)]) (g := gName 1) rfl sc.nd (pi_tup (pv 0)) (blkOk_by (own := [("number", 1)]) (N := N_is_sum) (sc := defScope s_is_sum) (by decide +kernel)) (fun _ _ _ _ _ => (pg_name (i := 1) sc.nd rfl (.inl rfl))) (fun _ _ _ _ _ => pts_nil) (fun _ _ _ _ _ => (pe_d T.d_is_between G_is_between (hr.mono (by decide)) (by rfl) (pa_cons (pv 1) (pa_cons (pe_un un_neg (pe_gint T.c_MOST_COEFFICIENT)) (pa_cons (pe_gint T.c_MOST_COEFFICIENT) pa_nil)))))) pa_nil))))
        (pss_one
          (ps_ret pe_bl))
        pss_nil)
    (pss_one
      (ps_ret (pe_or (pe_cmpR op_eq (pe_callB call_len_seq (by rfl) T.m_len (by decide +kernel) (pa_cons (pv 0) pa_nil)) pe_int (nomark _)) (pe_one (pe_cmpR op_ne (pe_ix ix_seq (pv 0) (pe_un un_neg pe_int) (fun _ _ => rfl)) pe_int (nomark _)))))))), ?_⟩
    obtain ⟨a, c, rfl, hS, hu, q⟩ := h
    have hl1 := hu.pos
    have hl2 := hu.len
    -- isinstance(value, tuple), 1 <= len(value) <= MOST_DEGREE + 1
    refine ⟨_, rfl, _, .ty "tuple", .type "tuple", .type "tuple", true, rfl, .ty "tuple", ty_tup hS, kit_ty (by decide +kernel), true, rfl, iteF ?_⟩
    refine ⟨.ref a, rfl, a, iVs c, rfl, .inr hS, _, _, rfl, rfl, true, bl_t (by rw [iv_len]; omega), iteT ?_⟩
    refine ⟨_, _, rfl, rfl, _, _, rfl, rfl, true, bl_t (by rw [iv_len]; omega), iteF ?_⟩
    -- all([is_between(..) for number in value])
    refine ⟨.ref a, rfl, a, rfl, ⟨_, hS⟩, fun D nD => ?_⟩
    refine lc_tup (xs := iVs c) (fun i H1 => Evl.Ex H H1 ∧ H1 D = some (.lst ((List.replicate i true).map V.bl))) ⟨Evl.Ex.new nD, upd_same⟩ (fun i H1 _ p => Evl.ex_t p.1 hS) (fun i x H1 hx p => ?_) (fun H1 p => ?_)
    · obtain ⟨t, ht, rfl⟩ := iv_at hx
      have hi := (List.getElem?_eq_some_iff.mp ht).1
      have hb := hu.siz t (List.mem_of_getElem? ht)
      refine ⟨rfl, ?_⟩
      refine ⟨_, rfl, _, rfl, t, -1000000000000, 1000000000000, rfl, hb.1, hb.2, ?_⟩
      refine ⟨_, p.2, ?_, Evl.Ex.mut p.1 nD, ?_⟩
      · rw [List.length_map, List.length_replicate]
        exact small1000 (by omega)
      · rw [upd_same, List.replicate_succ', List.map_append]
        rfl
    · refine ⟨D, _, rfl, .inl (.inl p.2), true, congrArg V.bl (List.all_eq_true.mpr fun b hb => List.eq_of_mem_replicate hb), iteF ?_⟩
      -- return len(value) == 1 or value[-1] != 0
      have hS1 := Evl.ex_t p.1 hS
      refine ⟨.ref a, rfl, a, iVs c, rfl, .inr hS1, rfl, _, rfl, ite2 (fun e => ?_) (fun e => ?_)⟩
      · exact q H1 p.1
      · have h1 : c.length ≠ 1 := fun z => e (by rw [iv_len, z]; exact decide_eq_true rfl)
        obtain ⟨t, ht⟩ : ∃ t, c[c.length - 1]? = some t := ⟨_, List.getElem?_eq_getElem (by omega)⟩
        have h0 := hu.fin.resolve_left h1
        have ht0 : t ≠ 0 := fun z => h0 (by rw [ht, z])
        refine ⟨.ref a, rfl, 1, rfl, .inr (.inl ⟨a, iVs c, -1, .int t, rfl, rfl, hS1, at_last (by rw [iv_len]; exact iv_get ht), ?_⟩)⟩
        refine ⟨rfl, ?_⟩
        show Q (.bl (!decide (V.int t = V.int 0))) H1
        rw [bl_tn (fun z => ht0 (V.int.inj z))]
        exact q H1 p.1
theorem ok_check_sum (T : Txt K mg) (G_is_sum : FnOk P w K mg base CX0 3 T.d_is_sum.f T.d_is_sum.fd p_is_sum (sp_is_sum K)) : FnOk P w K mg base CX0 4 T.d_check_sum.f T.d_check_sum.fd p_check_sum (sp_check_sum K) := by
  have sc := sc_check_sum
  refine T.d_check_sum.F.ok sc (fun vs H Q E h => ?_) (fun cdv A outer s H vs Q E hr h => ?_)
  · first
    | (obtain ⟨_, rfl, _⟩ := h; rfl)
    | (obtain ⟨_, _, rfl, _⟩ := h; rfl)
    | (obtain ⟨_, _, _, rfl, _⟩ := h; rfl)
    | (obtain ⟨_, _, _, _, rfl, _⟩ := h; rfl)
  · refine ⟨_, PSs.nox (pss_one
      (ps_if (pt_not (pt_val (pe_d T.d_is_sum G_is_sum (hr.mono (by decide)) (by rfl) (pa_cons (pv 0) pa_nil))))
        (pss_one
          ps_never)
        pss_nil)), ?_⟩
    obtain ⟨a, c, rfl, hS, hu, q⟩ := h
    exact ⟨.ref a, rfl, a, c, rfl, hS, hu, fun H1 e => ⟨true, rfl, iteF (q H1 e)⟩⟩
theorem ok_check_sums (T : Txt K mg) (G_check_sum : FnOk P w K mg base CX0 4 T.d_check_sum.f T.d_check_sum.fd p_check_sum (sp_check_sum K)) : FnOk P w K mg base CX0 5 T.d_check_sums.f T.d_check_sums.fd p_check_sums (sp_check_sums K) := by
  have sc := sc_check_sums
  refine T.d_check_sums.F.ok sc (fun vs H Q E h => ?_) (fun cdv A outer s H vs Q E hr h => ?_)
  · first
    | (obtain ⟨_, rfl, _⟩ := h; rfl)
    | (obtain ⟨_, _, rfl, _⟩ := h; rfl)
    | (obtain ⟨_, _, _, rfl, _⟩ := h; rfl)
    | (obtain ⟨_, _, _, _, rfl, _⟩ := h; rfl)
  · refine ⟨_, PSs.nox (pss_cons
      (ps_expr (pe_d T.d_check_sum G_check_sum (hr.mono (by decide)) (by rfl) (pa_cons (pv 0) pa_nil)))
    (pss_one
      (ps_expr (pe_d T.d_check_sum G_check_sum (hr.mono (by decide)) (by rfl) (pa_cons (pv 1) pa_nil))))), ?_⟩
    obtain ⟨a, b, c, d, rfl, hS, hT, hu, hv, q⟩ := h
    refine ⟨.ref a, rfl, a, c, rfl, hS, hu, fun H1 e => ⟨.ref b, rfl, b, d, rfl, Evl.ex_t e hT, hv, fun H2 e2 => q H2 (e.trans e2)⟩⟩
theorem ok_check_made (T : Txt K mg)  : FnOk P w K mg base CX0 1 T.d_check_made.f T.d_check_made.fd p_check_made (sp_check_made K) := by
  have sc := sc_check_made
  refine T.d_check_made.F.ok sc (fun vs H Q E h => ?_) (fun cdv A outer s H vs Q E hr h => ?_)
  · first
    | (obtain ⟨_, rfl, _⟩ := h; rfl)
    | (obtain ⟨_, _, rfl, _⟩ := h; rfl)
    | (obtain ⟨_, _, _, rfl, _⟩ := h; rfl)
    | (obtain ⟨_, _, _, _, rfl, _⟩ := h; rfl)
  · refine ⟨_, PSs.nox (pss_cons
      (ps_for PassesOwn.never rfl (pi_tup (pv 0)) (pg_name (i := 1) sc.nd rfl (.inl rfl))
        (pss_one
          (ps_if (pt_cmpR op_gt (pe_callB call_abs (by rfl) T.m_abs (by decide +kernel) (pa_cons (pv 1) pa_nil)) (pe_gint T.c_MOST_COEFFICIENT) (nomark _))
            (pss_one
              ps_never)
            pss_nil)))
    (pss_cons
      (ps_if (pt_cmpR op_gt (pe_op op_sub (pe_callB call_len_seq (by rfl) T.m_len (by decide +kernel) (pa_cons (pv 0) pa_nil)) pe_int) (pe_gint T.c_MOST_DEGREE) (nomark _))
        (pss_one
          ps_never)
        pss_nil)
    (pss_one
      (ps_ret (pv 0))))), ?_⟩
    obtain ⟨a, c, rfl, hS, hu, q⟩ := h
    have hl := hu.len
    refine ⟨.ref a, rfl, a, rfl, ⟨_, hS⟩, for_tup (xs := iVs c) (fun i σ H1 => (∃ y, σ = [some (.ref a), y]) ∧ H1 = H) ⟨⟨_, rfl⟩, rfl⟩ (fun i σ H1 _ p => by rw [p.2]; exact hS) (fun i x σ H1 hx p => ?_) (fun σ H1 p => ?_)⟩
    · obtain ⟨⟨y, rfl⟩, rfl⟩ := p
      obtain ⟨t, ht, rfl⟩ := iv_at hx
      have hb := hu.siz t (List.mem_of_getElem? ht)
      refine ⟨_, rfl, t, rfl, _, _, rfl, rfl, false, bl_f (by split <;> omega), iteF ?_⟩
      exact ⟨⟨_, rfl⟩, rfl⟩
    · obtain ⟨⟨y, rfl⟩, rfl⟩ := p
      refine ⟨.ref a, rfl, a, iVs c, rfl, .inr hS, _, _, rfl, rfl, _, _, rfl, rfl, false, bl_f (by rw [iv_len]; omega), iteF ?_⟩
      exact ⟨_, rfl, q⟩
end
end Rw35
/-! The walks: sums. -/
namespace Rw35
open PySem PySem.Spec PyProof.Rows L2
section
variable {P : Program} {w : World} {K : PySem.W.Frag} {mg : Str → Option Value} {base : Heap}
theorem ok_value_rest (T : Txt K mg)  : FnOk P w K mg base CX0 1 T.d_value_rest.f T.d_value_rest.fd p_value_rest (sp_value_rest K) := by
  have sc := sc_value_rest
  refine T.d_value_rest.F.ok sc (fun vs H Q E h => ?_) (fun cdv A outer s H vs Q E hr h => ?_)
  · first
    | (obtain ⟨_, rfl, _⟩ := h; rfl)
    | (obtain ⟨_, _, rfl, _⟩ := h; rfl)
    | (obtain ⟨_, _, _, rfl, _⟩ := h; rfl)
    | (obtain ⟨_, _, _, _, rfl, _⟩ := h; rfl)
  · refine ⟨_, PSs.nox (pss_cons
      (ps_set (i := 3) sc.nd rfl (.inl rfl) pe_int)
    (pss_cons
      (ps_for PassesOwn.never rfl (pi_tup (pe_revT (pv 0))) (pg_name (i := 4) sc.nd rfl (.inl rfl))
        (pss_one
          (ps_set (i := 3) sc.nd rfl (.inl rfl) (pe_op op_mod (pe_op op_add (pe_op op_mul (pv 3) (pv 1)) (pv 4)) (pv 2)))))
    (pss_one
      (ps_ret (pv 3))))), ?_⟩
    obtain ⟨a, c, x, b, rfl, hS, hb, hx1, hx2, q⟩ := h
    refine ⟨.ref a, rfl, a, iVs c, rfl, hS, fun p np => ?_⟩
    rw [show (iVs c).reverse = iVs c.reverse from List.map_reverse.symm]
    have ex : Evl.Ex H (upd H p (.tup (iVs c.reverse))) := Evl.Ex.new np
    refine ⟨p, rfl, ⟨_, .inl (.inl upd_same)⟩, for_tup (xs := iVs c.reverse) (fun i σ H1 => (∃ y, σ = [some (.ref a), some (.int x), some (.int b), some (.int (evR c i x % b)), y]) ∧ H1 = upd H p (.tup (iVs c.reverse))) ⟨⟨none, ?_⟩, rfl⟩ (fun i σ H1 _ p1 => by rw [p1.2]; exact .inl (.inl upd_same)) (fun i v σ H1 hv p1 => ?_) (fun σ H1 p1 => ?_)⟩
    · rw [evR_zero, Int.zero_emod]
      rfl
    · obtain ⟨⟨y, rfl⟩, rfl⟩ := p1
      obtain ⟨t, ht, rfl⟩ := iv_at hv
      refine ⟨_, rfl, _, rfl, _, _, rfl, rfl, .inr ⟨by omega, by omega⟩, _, rfl, _, _, rfl, rfl, _, rfl, _, _, rfl, rfl, hb, ⟨some (.int t), ?_⟩, rfl⟩
      rw [evR_turn ht, ← emod_turn]
      rfl
    · obtain ⟨⟨y, rfl⟩, rfl⟩ := p1
      refine ⟨_, rfl, ?_⟩
      rw [iv_len, List.length_reverse, evR_all]
      exact q _ ex
theorem ok_law_at (T : Txt K mg)  : FnOk P w K mg base CX0 1 T.d_law_at.f T.d_law_at.fd p_law_at (sp_law_at K) := by
  have sc := sc_law_at
  refine T.d_law_at.F.ok sc (fun vs H Q E h => ?_) (fun cdv A outer s H vs Q E hr h => ?_)
  · first
    | (obtain ⟨_, rfl, _⟩ := h; rfl)
    | (obtain ⟨_, _, rfl, _⟩ := h; rfl)
    | (obtain ⟨_, _, _, rfl, _⟩ := h; rfl)
    | (obtain ⟨_, _, _, _, rfl, _⟩ := h; rfl)
  · refine ⟨_, PSs.nox (pss_cons
      (ps_set (i := 2) sc.nd rfl (.inl rfl) pe_int)
    (pss_cons
      (ps_for PassesOwn.never rfl (pi_tup (pe_revT (pv 0))) (pg_name (i := 3) sc.nd rfl (.inl rfl))
        (pss_one
          (ps_set (i := 2) sc.nd rfl (.inl rfl) (pe_op op_add (pe_op op_mul (pv 2) (pv 1)) (pv 3)))))
    (pss_one
      (ps_ret (pv 2))))), ?_⟩
    obtain ⟨a, c, x, rfl, hS, hx1, hx2, q⟩ := h
    refine ⟨.ref a, rfl, a, iVs c, rfl, hS, fun p np => ?_⟩
    rw [show (iVs c).reverse = iVs c.reverse from List.map_reverse.symm]
    have ex : Evl.Ex H (upd H p (.tup (iVs c.reverse))) := Evl.Ex.new np
    refine ⟨p, rfl, ⟨_, .inl (.inl upd_same)⟩, for_tup (xs := iVs c.reverse) (fun i σ H1 => (∃ y, σ = [some (.ref a), some (.int x), some (.int (evR c i x)), y]) ∧ H1 = upd H p (.tup (iVs c.reverse))) ⟨⟨none, ?_⟩, rfl⟩ (fun i σ H1 _ p1 => by rw [p1.2]; exact .inl (.inl upd_same)) (fun i v σ H1 hv p1 => ?_) (fun σ H1 p1 => ?_)⟩
    · rw [evR_zero]
      rfl
    · obtain ⟨⟨y, rfl⟩, rfl⟩ := p1
      obtain ⟨t, ht, rfl⟩ := iv_at hv
      refine ⟨_, rfl, _, rfl, _, _, rfl, rfl, .inr ⟨by omega, by omega⟩, _, rfl, _, _, rfl, rfl, ⟨some (.int t), ?_⟩, rfl⟩
      rw [evR_turn ht]
      rfl
    · obtain ⟨⟨y, rfl⟩, rfl⟩ := p1
      refine ⟨_, rfl, ?_⟩
      rw [iv_len, List.length_reverse, evR_all]
      exact q _ ex
theorem ok_trimmed (T : Txt K mg)  : FnOk P w K mg base CX0 1 T.d_trimmed.f T.d_trimmed.fd p_trimmed (sp_trimmed K) := by
  have sc := sc_trimmed
  refine T.d_trimmed.F.ok sc (fun vs H Q E h => ?_) (fun cdv A outer s H vs Q E hr h => ?_)
  · first
    | (obtain ⟨_, rfl, _⟩ := h; rfl)
    | (obtain ⟨_, _, rfl, _⟩ := h; rfl)
    | (obtain ⟨_, _, _, rfl, _⟩ := h; rfl)
    | (obtain ⟨_, _, _, _, rfl, _⟩ := h; rfl)
  · refine ⟨_, PSs.nox (pss_cons
      (ps_set (i := 1) sc.nd rfl (.inl rfl) (pe_callB call_len_seq (by rfl) T.m_len (by decide +kernel) (pa_cons (pv 0) pa_nil)))
    (pss_cons
      (ps_while PassesOwn.never (PW.pt (pw_and (pt_cmpR op_gt (pv 1) pe_int (nomark _)) (pw_and1 (pt_cmpR op_eq (pe_ix ix_seq (pv 0) (pe_op op_sub (pv 1) pe_int) (fun _ _ => rfl)) pe_int (nomark _)))))
        (pss_one
          (ps_set (i := 1) sc.nd rfl (.inl rfl) (pe_op op_sub (pv 1) pe_int))))
    (pss_one
      (ps_ret (pe_callTy call_tuple_of (by rfl) T.m_tuple (by decide +kernel) (pa_cons (pe_slice (SlR.or sl_list sl_tupA) (pv 0) po_none (po_some (pv 1))) pa_nil)))))), ?_⟩
    obtain ⟨a, l, rfl, hS, h1, h2, q⟩ := h
    refine ⟨.ref a, rfl, a, iVs l, rfl, hS, fun m σ H1 => ∃ k : Nat, m = k ∧ σ = [some (.ref a), some (.int (k : Int))] ∧ Cu l k ∧ H1 = H, ⟨l.length, l.length, rfl, by rw [← iv_len l]; rfl, Cu.start h1, rfl⟩, fun m σ H1 hW => ?_⟩
    obtain ⟨k, rfl, rfl, hc, rfl⟩ := hW
    have hk1 := hc.pos
    have hk2 := hc.len
    obtain ⟨t, ht⟩ : ∃ t, l[m - 1]? = some t := ⟨_, List.getElem?_eq_getElem (by omega)⟩
    refine tand_by (b1 := decide ((1 : Int) < (m : Int))) (b2 := decide (V.int t = V.int 0)) (fun Q q => ⟨_, rfl, _, _, rfl, rfl, _, rfl, q⟩)
      (fun _ Q q => ⟨.ref a, rfl, _, rfl, _, _, rfl, rfl, rix_of hS (at_of (j := m - 1) (by omega) (iv_get ht)) ⟨rfl, _, rfl, q⟩⟩) (ite2 (fun e => ?_) (fun e => ?_))
    · rw [Bool.and_eq_true, decide_eq_true_eq, decide_eq_true_eq] at e
      have e0 : t = 0 := V.int.inj e.2
      refine ⟨fun σ' H' => σ' = [some (.ref a), some (.int ((m - 1 : Nat) : Int))] ∧ H' = H1, fun σ' H' hN => ⟨m - 1, by omega, m - 1, rfl, hN.1, hc.turn (by omega) (by rw [ht, e0]), hN.2⟩, ?_⟩
      refine ⟨_, rfl, _, _, rfl, rfl, ?_, rfl⟩
      have e1 : ((m - 1 : Nat) : Int) = (m : Int) - 1 := by omega
      rw [e1]
      rfl
    · have hd : m = 1 ∨ l[m - 1]? ≠ some 0 := by
        by_cases z : m = 1
        · exact .inl z
        · right
          intro z2
          rw [ht] at z2
          have := Option.some.inj z2
          exact e (by rw [Bool.and_eq_true, decide_eq_true_eq, decide_eq_true_eq]; exact ⟨by omega, by rw [this]⟩)
      have cu := hc.done hd
      have eC : cutV (iVs l) none (some (m : Int)) = iVs (l.take m) := by rw [cut_to]; exact List.map_take.symm
      refine ⟨.ref a, rfl, _, rfl, _, rfl, ?_⟩
      rcases hS with hS | hS
      · refine .inl ⟨a, iVs l, rfl, hS, fun p np => ⟨p, _, rfl, .inl ⟨.inl (.inl upd_same), fun r nr => ?_⟩⟩⟩
        rw [eC]
        refine q (l.take m) _ r cu ?_ (.inl (.inl upd_same))
        rw [eC] at nr
        exact (Evl.Ex.new np).trans (Evl.Ex.new nr)
      · refine .inr ⟨a, iVs l, rfl, hS, fun hw => ⟨a, _, rfl, .inr ⟨hS, ?_⟩⟩, fun hw p np => ⟨p, _, rfl, .inr ⟨.inl (.inl upd_same), ?_⟩⟩⟩
        · have e1 := hw.2
          rw [HT.sIx_nat, iv_len] at e1
          have e2 : l.take m = l := List.take_of_length_le (by omega)
          rw [e2] at cu
          exact q l _ a cu (Evl.Ex.refl _) hS
        · rw [eC]
          exact q (l.take m) _ p cu (Evl.Ex.new np) (.inl (.inl upd_same))
theorem ok_slope_of (T : Txt K mg)  : FnOk P w K mg base CX0 1 T.d_slope_of.f T.d_slope_of.fd p_slope_of (sp_slope_of K) := by
  have sc := sc_slope_of
  refine T.d_slope_of.F.ok sc (fun vs H Q E h => ?_) (fun cdv A outer s H vs Q E hr h => ?_)
  · first
    | (obtain ⟨_, rfl, _⟩ := h; rfl)
    | (obtain ⟨_, _, rfl, _⟩ := h; rfl)
    | (obtain ⟨_, _, _, rfl, _⟩ := h; rfl)
    | (obtain ⟨_, _, _, _, rfl, _⟩ := h; rfl)
  · refine ⟨_, PSs.nox (pss_cons
      (ps_setLc (i := 1) (own := [("place", 2), ("term", 3)]) (g := gTup K 2 (gCons (gName 2) (gCons (gName 3) gNil))) rfl sc.nd rfl rfl (sw_true rfl rfl rfl (by decide +kernel)) (pi_enumT (by rfl) T.m_enumerate (pa_cons (pv 0) pa_nil)) (blkOk_by (own := [("place", 2), ("term", 3)]) (N := N_slope_of) (sc := defScope s_slope_of) (by decide +kernel)) (fun _ _ _ _ _ => (pg_tup rfl (pgs_cons (pg_name (i := 2) sc.nd rfl (.inl rfl) (.inr rfl)) (pgs_cons (pg_name (i := 3) sc.nd rfl (.inl rfl) (.inr rfl)) pgs_nil)))) (fun _ _ _ _ _ => pts_nil) (fun _ _ _ _ _ => (pe_op op_mul (pv 2) (pv 3))))
    (pss_one
      (ps_ret (pe_ifExp (pt_cmpR op_gt (pe_callB call_len_seq (by rfl) T.m_len (by decide +kernel) (pa_cons (pv 1) pa_nil)) pe_int (nomark _)) (pe_callTy call_tuple_of (by rfl) T.m_tuple (by decide +kernel) (pa_cons (pe_slice sl_list (pv 1) (po_some pe_int) po_none) pa_nil)) (pe_tup (pa_cons pe_int pa_nil)))))), ?_⟩
    obtain ⟨a, c, rfl, hS, hl, q⟩ := h
    refine ⟨.ref a, rfl, a, iVs c, rfl, hS, fun D nD => ?_⟩
    refine lc_enumT (xs := iVs c) (fun i H1 => Evl.Ex H H1 ∧ H1 D = some (.lst (iVs ((slF 0 c).take i)))) ⟨Evl.Ex.new nD, upd_same⟩ (fun i H1 p => Evl.ex_t p.1 hS) (fun i x H1 T hx p nT => ?_) (fun H1 p => ?_)
    · obtain ⟨t, ht, rfl⟩ := iv_at hx
      have hi := (List.getElem?_eq_some_iff.mp ht).1
      have hT : D ≠ T := ne_of_none p.2 nT
      refine ⟨T, [.int (i : Nat), .int t], rfl, .inl (.inl upd_same), rfl, .int (i : Nat), [.int t], rfl, .int t, [], rfl, rfl, rfl, ?_⟩
      refine ⟨_, rfl, _, rfl, _, _, rfl, rfl, .inl ⟨by omega, by omega⟩, _, by rw [upd_ne hT]; exact p.2, ?_, ?_, ?_⟩
      · rw [iv_len, List.length_take, slF_len]
        exact small1000 (by omega)
      · exact Evl.Ex.mut (p.1.trans (Evl.Ex.new nT)) nD
      · rw [upd_same]
        have := iv_take (slF_get c 0 i t ht)
        rw [Int.zero_add] at this
        rw [← this]
    · have e0 : iVs ((slF 0 c).take (iVs c).length) = iVs (slF 0 c) := by rw [iv_len, List.take_of_length_le (by rw [slF_len]; exact Nat.le_refl _)]
      have pD : H1 D = some (.lst (iVs (slF 0 c))) := by rw [← e0]; exact p.2
      refine ⟨.ref D, rfl, D, iVs (slF 0 c), rfl, .inl (.inl (.inl pD)), _, _, rfl, rfl, _, rfl, ite2 (fun e => ?_) (fun e => ?_)⟩
      · have e1 : 1 < c.length := by
          have := of_decide_eq_true e
          rw [iv_len, slF_len] at this
          omega
        refine ⟨.ref D, rfl, 1, rfl, D, iVs (slF 0 c), rfl, .inl (.inl pD), fun p2 np => ⟨p2, _, rfl, .inl ⟨.inl (.inl upd_same), fun r nr => ?_⟩⟩⟩
        refine q _ r (p.1.trans ((Evl.Ex.new np).trans (Evl.Ex.new nr))) (.inl (.inl ?_))
        rw [upd_same, cut_from1]
        unfold slope
        rw [if_pos e1, List.drop_one]
        generalize slF 0 c = z
        cases z <;> rfl
      · have e1 : ¬ 1 < c.length := fun z => e (decide_eq_true (by rw [iv_len, slF_len]; omega))
        refine ⟨by decide, fun r nr => q _ r (p.1.trans (Evl.Ex.new nr)) (.inl (.inl ?_))⟩
        unfold slope
        rw [if_neg e1, upd_same]
        rfl
theorem ok_law_gcd (T : Txt K mg)  : FnOk P w K mg base CX0 1 T.d_law_gcd.f T.d_law_gcd.fd p_law_gcd (sp_law_gcd K) := by
  have sc := sc_law_gcd
  refine T.d_law_gcd.F.ok sc (fun vs H Q E h => ?_) (fun cdv A outer s H vs Q E hr h => ?_)
  · first
    | (obtain ⟨_, rfl, _⟩ := h; rfl)
    | (obtain ⟨_, _, rfl, _⟩ := h; rfl)
    | (obtain ⟨_, _, _, rfl, _⟩ := h; rfl)
    | (obtain ⟨_, _, _, _, rfl, _⟩ := h; rfl)
  · refine ⟨_, PSs.nox (pss_cons
      (ps_par (i := 0) (j := 1) (by rfl) sc.nd rfl rfl (by decide) rfl rfl (pa_cons (pe_callB call_abs (by rfl) T.m_abs (by decide +kernel) (pa_cons (pv 0) pa_nil)) (pa_cons (pe_callB call_abs (by rfl) T.m_abs (by decide +kernel) (pa_cons (pv 1) pa_nil)) pa_nil)) (by rfl))
    (pss_cons
      (ps_while PassesOwn.never (pt_cmpR op_gt (pv 1) pe_int (nomark _))
        (pss_one
          (ps_par (i := 0) (j := 1) (by rfl) sc.nd rfl rfl (by decide) rfl rfl (pa_cons (pv 1) (pa_cons (pe_op op_mod (pe_callTy call_int1 (by rfl) T.m_int (by decide +kernel) (pa_cons (pv 0) pa_nil)) (pv 1)) pa_nil)) (by rfl))))
    (pss_one
      (ps_ret (pv 0))))), ?_⟩
    obtain ⟨a, b, rfl, q⟩ := h
    refine ⟨_, rfl, _, rfl, _, rfl, _, rfl, _, _, rfl, ?_⟩
    refine ⟨fun m σ H1 => ∃ x y : Int, m = y.toNat ∧ σ = [some (.int x), some (.int y)] ∧ Gc a b x y ∧ H1 = H, ⟨_, _, _, rfl, rfl, Gc.start a b, rfl⟩, fun m σ H1 hW => ?_⟩
    obtain ⟨x, y, rfl, rfl, hg, rfl⟩ := hW
    refine ⟨_, rfl, _, _, rfl, rfl, _, rfl, ite2 (fun e => ?_) (fun e => ?_)⟩
    · have hy : 0 < y := of_decide_eq_true e
      have ht := hg.turn hy
      refine ⟨fun σ' H' => σ' = [some (.int y), some (.int (x % y))] ∧ H' = H1, fun σ' H' hN => ⟨_, ht.2, _, _, rfl, hN.1, ht.1, hN.2⟩, ?_⟩
      exact ⟨_, rfl, _, rfl, .inl ⟨_, rfl, _, rfl, _, _, rfl, rfl, hy, _, _, rfl, rfl, rfl⟩⟩
    · have hy : ¬ 0 < y := fun z => e (decide_eq_true z)
      refine ⟨_, rfl, ?_⟩
      rw [hg.done hy]
      exact q
theorem ok_law_power (T : Txt K mg)  : FnOk P w K mg base CX0 1 T.d_law_power.f T.d_law_power.fd p_law_power (sp_law_power K) := by
  have sc := sc_law_power
  refine T.d_law_power.F.ok sc (fun vs H Q E h => ?_) (fun cdv A outer s H vs Q E hr h => ?_)
  · first
    | (obtain ⟨_, rfl, _⟩ := h; rfl)
    | (obtain ⟨_, _, rfl, _⟩ := h; rfl)
    | (obtain ⟨_, _, _, rfl, _⟩ := h; rfl)
    | (obtain ⟨_, _, _, _, rfl, _⟩ := h; rfl)
  · refine ⟨_, PSs.nox (pss_cons
      (ps_set (i := 2) sc.nd rfl (.inl rfl) pe_int)
    (pss_cons
      (ps_for PassesOwn.never rfl (pi_range1 (by rfl) T.m_range (pa_cons (pv 1) pa_nil)) (pg_name (i := 3) sc.nd rfl (.inl rfl))
        (pss_one
          (ps_set (i := 2) sc.nd rfl (.inl rfl) (pe_op op_mul (pv 2) (pv 0)))))
    (pss_one
      (ps_ret (pv 2))))), ?_⟩
    obtain ⟨x, e, rfl, h1, h2, h3, q⟩ := h
    refine ⟨_, rfl, _, rfl, by omega, by omega, for_range (lo := 0) (n := e) (fun i σ H1 => (∃ y, σ = [some (.int x), some (.int (e : Nat)), some (.int (x ^ i)), y]) ∧ H1 = H) ⟨⟨none, by rw [Int.pow_zero]; rfl⟩, rfl⟩ (fun i σ H1 hi p => ?_) (fun σ H1 p => ?_)⟩
    · obtain ⟨⟨y, rfl⟩, rfl⟩ := p
      refine ⟨_, rfl, _, rfl, _, _, rfl, rfl, .inr ⟨by omega, by omega⟩, ⟨some (.int (0 + (i : Nat))), ?_⟩, rfl⟩
      rw [Int.pow_succ]
      rfl
    · obtain ⟨⟨y, rfl⟩, rfl⟩ := p
      exact ⟨_, rfl, q⟩
end
end Rw35
/-! The walks: products of sums, sums led into one another. -/
namespace Rw35
open PySem PySem.Spec PyProof.Rows L2
section
variable {P : Program} {w : World} {K : PySem.W.Frag} {mg : Str → Option Value} {base : Heap}
theorem ok_multiplied_of (T : Txt K mg) (G_trimmed : FnOk P w K mg base CX0 1 T.d_trimmed.f T.d_trimmed.fd p_trimmed (sp_trimmed K)) : FnOk P w K mg base CX0 2 T.d_multiplied_of.f T.d_multiplied_of.fd p_multiplied_of (sp_multiplied_of K) := by
  have sc := sc_multiplied_of
  refine T.d_multiplied_of.F.ok sc (fun vs H Q E h => ?_) (fun cdv A outer s H vs Q E hr h => ?_)
  · first
    | (obtain ⟨_, rfl, _⟩ := h; rfl)
    | (obtain ⟨_, _, rfl, _⟩ := h; rfl)
    | (obtain ⟨_, _, _, rfl, _⟩ := h; rfl)
    | (obtain ⟨_, _, _, _, rfl, _⟩ := h; rfl)
  · refine ⟨_, PSs.nox (pss_cons
      (ps_set (i := 2) sc.nd rfl (.inl rfl) (pe_op op_rep (pe_lst (pa_cons pe_int pa_nil)) (pe_op op_sub (pe_op op_add (pe_callB call_len_seq (by rfl) T.m_len (by decide +kernel) (pa_cons (pv 0) pa_nil)) (pe_callB call_len_seq (by rfl) T.m_len (by decide +kernel) (pa_cons (pv 1) pa_nil))) pe_int)))
    (pss_cons
      (ps_for PassesOwn.never rfl (pi_enumT (by rfl) T.m_enumerate (pa_cons (pv 0) pa_nil)) (pg_tup rfl (pgs_cons (pg_name (i := 3) sc.nd rfl (.inl rfl)) (pgs_cons (pg_name (i := 4) sc.nd rfl (.inl rfl)) pgs_nil)))
        (pss_one
          (ps_for PassesOwn.never rfl (pi_enumT (by rfl) T.m_enumerate (pa_cons (pv 1) pa_nil)) (pg_tup rfl (pgs_cons (pg_name (i := 5) sc.nd rfl (.inl rfl)) (pgs_cons (pg_name (i := 6) sc.nd rfl (.inl rfl)) pgs_nil)))
            (pss_one
              (ps_asg (pe_op op_add (pe_ix ix_seq (pv 2) (pe_op op_add (pv 3) (pv 5)) (fun _ _ => rfl)) (pe_op op_mul (pv 4) (pv 6))) (pg_sub (pv 2) (pe_op op_add (pv 3) (pv 5)) set_list))))))
    (pss_one
      (ps_ret (pe_d T.d_trimmed G_trimmed (hr.mono (by decide)) (by rfl) (pa_cons (pv 2) pa_nil)))))), ?_⟩
    obtain ⟨a, b, c, d, rfl, hS, hT, c1, c2, d1, d2, hb, q⟩ := h
    have hcd : ((iVs c).length : Int) + (iVs d).length - 1 = ((c.length + d.length - 1 : Nat) : Int) := by rw [iv_len, iv_len]; omega
    -- found = [0] * (len(one) + len(other) - 1)
    refine ⟨by decide, fun l nl => ?_⟩
    have ex0 : Evl.Ex H (upd H l (.lst [.int 0])) := Evl.Ex.new nl
    refine ⟨.ref a, rfl, a, iVs c, rfl, .inr (Evl.ex_t ex0 hS), .ref b, rfl, b, iVs d, rfl, .inr (Evl.ex_t ex0 hT), _, _, rfl, rfl, _, _, rfl, rfl, ?_⟩
    refine ⟨l, _, [.int 0], rfl, rfl, upd_same, by omega, by omega, ?_, fun p np => ?_⟩
    · rw [hcd, Int.toNat_natCast]
      show 1 * _ ≤ sizeLine
      have : sizeLine = 16777216 := sizeLine_eq
      omega
    rw [hcd, Int.toNat_natCast, rep_zeros]
    have pl : H p = none := Evl.fresh_back ex0 np
    have ex1 : Evl.Ex H (upd (upd H l (.lst [.int 0])) p (.lst (iVs (List.replicate (c.length + d.length - 1) 0)))) := ex0.trans (Evl.Ex.new np)
    -- for at, left in enumerate(one)
    refine ⟨.ref a, rfl, a, iVs c, rfl, Evl.ex_t ex1 hS, for_enumT (xs := iVs c) (fun i σ H1 => (∃ y3 y4 y5 y6, σ = [some (.ref a), some (.ref b), some (.ref p), y3, y4, y5, y6]) ∧ Evl.Ex H H1 ∧ ∃ f, H1 p = some (.lst (iVs f)) ∧ Mr c d i f)
      ⟨⟨none, none, none, none, rfl⟩, ex1, _, upd_same, Mr.start c d⟩ (fun i σ H1 p1 => Evl.ex_t p1.2.1 hS) (fun i x σ H1 Tp hx p1 nT => ?_) (fun σ H1 p1 => ?_)⟩
    · obtain ⟨⟨y3, y4, y5, y6, rfl⟩, ex2, f, hf, hm⟩ := p1
      obtain ⟨t, ht, rfl⟩ := iv_at hx
      have hbt := hb t (List.mem_of_getElem? ht)
      have hi := (List.getElem?_eq_some_iff.mp ht).1
      have pT : p ≠ Tp := ne_of_none hf nT
      have ex3 : Evl.Ex H (upd H1 Tp (.tup [.int (i : Nat), .int t])) := ex2.trans (Evl.Ex.new nT)
      refine ⟨Tp, [.int (i : Nat), .int t], rfl, .inl (.inl upd_same), rfl, .int (i : Nat), [.int t], rfl, .int t, [], rfl, rfl, ?_⟩
      -- for beyond, right in enumerate(other)
      refine ⟨.ref b, rfl, b, iVs d, rfl, Evl.ex_t ex3 hT, for_enumT (xs := iVs d) (fun j σ H2 => (∃ y5 y6, σ = [some (.ref a), some (.ref b), some (.ref p), some (.int (i : Nat)), some (.int t), y5, y6]) ∧ Evl.Ex H H2 ∧ ∃ f, H2 p = some (.lst (iVs f)) ∧ Mu c d i t j f)
        ⟨⟨y5, y6, rfl⟩, ex3, f, by rw [upd_ne pT]; exact hf, hm.row t⟩ (fun j σ H2 p1 => Evl.ex_t p1.2.1 hT) (fun j x σ H2 Tq hx p1 nT2 => ?_) (fun σ H2 p1 => ?_)⟩
      · obtain ⟨⟨y5, y6, rfl⟩, ex4, g, hg, hmu⟩ := p1
        obtain ⟨u, hu, rfl⟩ := iv_at hx
        have hj := (List.getElem?_eq_some_iff.mp hu).1
        have pT2 : p ≠ Tq := ne_of_none hg nT2
        have ex5 : Evl.Ex H (upd H2 Tq (.tup [.int (j : Nat), .int u])) := ex4.trans (Evl.Ex.new nT2)
        have hg2 : (upd H2 Tq (.tup [.int (j : Nat), .int u])) p = some (.lst (iVs g)) := by rw [upd_ne pT2]; exact hg
        have hlen := hmu.len
        obtain ⟨z, hz⟩ : ∃ z, g[i + j]? = some z := ⟨_, List.getElem?_eq_getElem (by omega)⟩
        refine ⟨Tq, [.int (j : Nat), .int u], rfl, .inl (.inl upd_same), rfl, .int (j : Nat), [.int u], rfl, .int u, [], rfl, rfl, ?_⟩
        refine ⟨_, rfl, _, rfl, _, rfl, _, _, rfl, rfl, rix_of (.inl (.inl (.inl hg2))) (at_of (j := i + j) (by omega) (iv_get hz)) ?_⟩
        refine ⟨_, rfl, _, rfl, _, _, rfl, rfl, .inl ⟨by omega, by omega⟩, _, _, rfl, rfl, ?_⟩
        refine ⟨_, rfl, _, rfl, _, rfl, _, _, rfl, rfl, p, iVs g, _, i + j, rfl, rfl, hg2, ixN_at (by omega) (by rw [iv_len]; omega), ?_⟩
        refine ⟨⟨_, _, rfl⟩, ex5.mut pl, g.set (i + j) (z + t * u), ?_, hmu.turn hu hz⟩
        rw [upd_same, ← List.map_set]
      · obtain ⟨⟨y5, y6, rfl⟩, ex4, g, hg, hmu⟩ := p1
        rw [iv_len] at hmu
        exact ⟨⟨_, _, _, _, rfl⟩, ex4, g, hg, hmu.done ht⟩
    · obtain ⟨⟨y3, y4, y5, y6, rfl⟩, ex2, f, hf, hm⟩ := p1
      rw [iv_len] at hm
      have hfl := hm.len
      exact ⟨_, rfl, p, f, rfl, .inl (.inl (.inl hf)), by omega, by omega, fun t H2 r hc e hr => q f t H2 r hm hc (ex2.trans e) hr⟩
theorem ok_led_of (T : Txt K mg) (G_multiplied_of : FnOk P w K mg base CX0 2 T.d_multiplied_of.f T.d_multiplied_of.fd p_multiplied_of (sp_multiplied_of K)) (G_trimmed : FnOk P w K mg base CX0 1 T.d_trimmed.f T.d_trimmed.fd p_trimmed (sp_trimmed K)) : FnOk P w K mg base CX0 3 T.d_led_of.f T.d_led_of.fd p_led_of (sp_led_of K) := by
  have sc := sc_led_of
  refine T.d_led_of.F.ok sc (fun vs H Q E h => ?_) (fun cdv A outer s H vs Q E hr h => ?_)
  · first
    | (obtain ⟨_, rfl, _⟩ := h; rfl)
    | (obtain ⟨_, _, rfl, _⟩ := h; rfl)
    | (obtain ⟨_, _, _, rfl, _⟩ := h; rfl)
    | (obtain ⟨_, _, _, _, rfl, _⟩ := h; rfl)
  · refine ⟨_, PSs.nox (pss_cons
      (ps_set (i := 2) sc.nd rfl (.inl rfl) (pe_tup (pa_cons pe_int pa_nil)))
    (pss_cons
      (ps_for PassesOwn.never rfl (pi_tup (pe_revT (pv 0))) (pg_name (i := 3) sc.nd rfl (.inl rfl))
        (pss_cons
          (ps_set (i := 2) sc.nd rfl (.inl rfl) (pe_d T.d_multiplied_of G_multiplied_of (hr.mono (by decide)) (by rfl) (pa_cons (pv 2) (pa_cons (pv 1) pa_nil))))
        (pss_one
          (ps_set (i := 2) sc.nd rfl (.inl rfl) (pe_tup (pa_cons (pe_op op_add (pe_ix ix_seq (pv 2) pe_int (fun _ _ => rfl)) (pv 3)) (StX.pa_star (pe_slice sl_tupA (pv 2) (po_some pe_int) po_none) pa_nil)))))))
    (pss_one
      (ps_ret (pe_d T.d_trimmed G_trimmed (hr.mono (by decide)) (by rfl) (pa_cons (pv 2) pa_nil)))))), ?_⟩
    obtain ⟨a, b, c, d, rfl, hS, hT, hc, hd, q⟩ := h
    have hc1 := hc.pos
    have hc2 := hc.len
    have hd1 := hd.pos
    have hd2 := hd.len
    refine ⟨by decide, fun p0 n0 => ?_⟩
    have ex0 : Evl.Ex H (upd H p0 (.tup [.int 0])) := Evl.Ex.new n0
    refine ⟨.ref a, rfl, a, iVs c, rfl, Evl.ex_t ex0 hS, fun r nr => ?_⟩
    rw [show (iVs c).reverse = iVs c.reverse from List.map_reverse.symm]
    have ex1 := ex0.trans (Evl.Ex.new (o := .tup (iVs c.reverse)) nr)
    have hr0 : (upd (upd H p0 (.tup [.int 0])) r (.tup (iVs c.reverse))) r = some (.tup (iVs c.reverse)) := upd_same
    have rp : r ≠ p0 := fun z => by
      rw [z, upd_same] at nr
      cases nr
    refine ⟨r, rfl, ⟨_, .inl (.inl upd_same)⟩, for_tup (xs := iVs c.reverse) (fun i σ H1 => (∃ pf y f, σ = [some (.ref a), some (.ref b), some (.ref pf), y] ∧ SqT K H1 pf (iVs f) ∧ Le c d i f) ∧ Evl.Ex H H1 ∧ H1 r = some (.tup (iVs c.reverse)))
      ⟨⟨p0, none, [0], rfl, .inl (.inl (by rw [upd_ne rp.symm, upd_same]; rfl)), Le.start c d⟩, ex1, upd_same⟩ (fun i σ H1 hi p1 => .inl (.inl p1.2.2)) (fun i x σ H1 hx p1 => ?_) (fun σ H1 p1 => ?_)⟩
    · obtain ⟨⟨pf, y, f, rfl, hf, hl⟩, ex2, hr⟩ := p1
      obtain ⟨u, hu, rfl⟩ := iv_at hx
      have hi : i < c.length := (rev_at hu).1
      have hs := hl.short hd (show i ≤ 5 by omega)
      have hfp := hl.pos
      -- found = multiplied_of(found, other)
      refine ⟨.ref pf, rfl, .ref b, rfl, pf, b, f, d, rfl, hf, Evl.ex_t ex2 hT, hfp, by omega, hd1, by omega, fun t ht => ?_, fun g t H2 p2 hm hcut e2 h2 => ?_⟩
      · have := hl.small (by omega) ht
        omega
      -- found = (found[0] + term, *found[1:])
      have tp := hcut.pos
      obtain ⟨z, hz⟩ : ∃ z, t[0]? = some z := ⟨_, List.getElem?_eq_getElem (by omega)⟩
      have hle := hl.turn hc hd hu hm hcut hz
      have hls := hle.short hd (show i + 1 ≤ 5 by omega)
      have hsz : ((.int (z + u) : V) :: (iVs (t.drop 1) ++ [])).length ≤ sizeLine := by
        rw [List.append_nil, List.length_cons, iv_len]
        rw [List.length_cons] at hls
        exact Nat.le_of_lt (small1000 (by omega))
      have eT : ((.int (z + u) : V) :: (iVs (t.drop 1) ++ [])) = iVs ((z + u) :: t.drop 1) := by rw [List.append_nil]; rfl
      refine ⟨_, rfl, rix_of (.inr h2) (at_of (j := 0) rfl (iv_get hz)) ⟨_, rfl, _, _, rfl, rfl, ?_⟩⟩
      refine ⟨_, rfl, 1, rfl, p2, iVs t, rfl, h2, fun hw => ?_, fun hw p3 n3 => ?_⟩
      · exfalso
        have h0 := hw.1
        rw [show HT.sIx (iVs t).length 0 (some 1) = min 1 (iVs t).length from HT.sIx_nat (iVs t).length 0 1, iv_len] at h0
        omega
      · refine ⟨p3, iVs (t.drop 1), rfl, .inl (.inl (.inl ?_)), ?_⟩
        · rw [upd_same, cut_from1]
          exact congrArg (fun z => some (HO.tup z)) List.map_drop.symm
        · refine ⟨hsz, fun p4 n4 => ?_⟩
          refine ⟨⟨p4, _, _, rfl, .inl (.inl ?_), hle⟩, (ex2.trans e2).trans ((Evl.Ex.new n3).trans (Evl.Ex.new n4)), ?_⟩
          · rw [upd_same, eT]
          · exact ((Evl.Ex.new n3).trans (Evl.Ex.new n4)) r _ (e2 r _ hr)
    · obtain ⟨⟨pf, y, f, rfl, hf, hl⟩, ex2, hr⟩ := p1
      rw [iv_len, List.length_reverse] at hl
      have hs := hl.short hd hc2
      exact ⟨_, rfl, pf, f, rfl, .inr hf, hl.pos, by omega, fun t H2 p2 hcut e2 h2 => q t H2 p2 (hl.done hc hd hcut).1 (hl.done hc hd hcut).2 (ex2.trans e2) h2⟩
theorem ok_led (T : Txt K mg) (G_check_made : FnOk P w K mg base CX0 1 T.d_check_made.f T.d_check_made.fd p_check_made (sp_check_made K)) (G_check_sums : FnOk P w K mg base CX0 5 T.d_check_sums.f T.d_check_sums.fd p_check_sums (sp_check_sums K)) (G_led_of : FnOk P w K mg base CX0 3 T.d_led_of.f T.d_led_of.fd p_led_of (sp_led_of K)) : FnOk P w K mg base CX0 6 T.d_led.f T.d_led.fd p_led (sp_led K) := by
  have sc := sc_led
  refine T.d_led.F.ok sc (fun vs H Q E h => ?_) (fun cdv A outer s H vs Q E hr h => ?_)
  · first
    | (obtain ⟨_, rfl, _⟩ := h; rfl)
    | (obtain ⟨_, _, rfl, _⟩ := h; rfl)
    | (obtain ⟨_, _, _, rfl, _⟩ := h; rfl)
    | (obtain ⟨_, _, _, _, rfl, _⟩ := h; rfl)
  · refine ⟨_, PSs.nox (pss_cons
      (ps_expr (pe_d T.d_check_sums G_check_sums (hr.mono (by decide)) (by rfl) (pa_cons (pv 0) (pa_cons (pv 1) pa_nil))))
    (pss_one
      (ps_ret (pe_d T.d_check_made G_check_made (hr.mono (by decide)) (by rfl) (pa_cons (pe_d T.d_led_of G_led_of (hr.mono (by decide)) (by rfl) (pa_cons (pv 0) (pa_cons (pv 1) pa_nil))) pa_nil))))), ?_⟩
    obtain ⟨a, b, c, d, rfl, hS, hT, hc, hd, q⟩ := h
    refine ⟨.ref a, rfl, .ref b, rfl, a, b, c, d, rfl, hS, hT, hc.mono (by omega) (by omega), hd.mono (by omega) (by omega), fun H1 e1 => ?_⟩
    exact ⟨.ref a, rfl, .ref b, rfl, a, b, c, d, rfl, Evl.ex_t e1 hS, Evl.ex_t e1 hT, hc, hd, fun t H2 p ht hv e2 h2 => ⟨p, t, rfl, h2, ht, q t H2 p ht hv (e1.trans e2) h2⟩⟩
theorem ok_law_table (T : Txt K mg) (G_law_at : FnOk P w K mg base CX0 1 T.d_law_at.f T.d_law_at.fd p_law_at (sp_law_at K)) : FnOk P w K mg base CX0 2 T.d_law_table.f T.d_law_table.fd p_law_table (sp_law_table K) := by
  have sc := sc_law_table
  refine T.d_law_table.F.ok sc (fun vs H Q E h => ?_) (fun cdv A outer s H vs Q E hr h => ?_)
  · first
    | (obtain ⟨_, rfl, _⟩ := h; rfl)
    | (obtain ⟨_, _, rfl, _⟩ := h; rfl)
    | (obtain ⟨_, _, _, rfl, _⟩ := h; rfl)
    | (obtain ⟨_, _, _, _, rfl, _⟩ := h; rfl)
  · refine ⟨_, PSs.nox (pss_one
      (ps_ret (pe_callTy call_tuple_of (by rfl) T.m_tuple (by decide +kernel) (pa_cons (pe_lc (own := [("_law_number", 2)]) (g := gName 2) rfl sc.nd (pi_range1 (by rfl) T.m_range (pa_cons (pv 1) pa_nil)) (blkOk_by (own := [("_law_number", 2)]) (N := N_law_table) (sc := defScope s_law_table) (by decide +kernel)) (fun _ _ _ _ _ => (pg_name (i := 2) sc.nd rfl (.inl rfl) (.inr rfl))) (fun _ _ _ _ _ => pts_nil) (fun _ _ _ _ _ => (pe_op op_mod (pe_callTy call_int1 (by rfl) T.m_int (by decide +kernel) (pa_cons (pe_d T.d_law_at G_law_at (hr.mono (by decide)) (by rfl) (pa_cons (pv 0) (pa_cons (pv 2) pa_nil))) pa_nil)) (pv 1)))) pa_nil)))), ?_⟩
    obtain ⟨a, c, n, rfl, hS, h1, h2, q⟩ := h
    refine ⟨_, rfl, n, rfl, by omega, by omega, fun D nD => ?_⟩
    refine lc_range (lo := 0) (n := n.toNat) (fun i H1 => Evl.Ex H H1 ∧ H1 D = some (.lst (iVs ((List.range i).map fun k : Nat => ev c (k : Int) % n)))) ⟨Evl.Ex.new nD, upd_same⟩ (fun i H1 hi p => ?_) (fun H1 p => ?_)
    · refine ⟨rfl, ?_⟩
      refine ⟨_, rfl, _, rfl, a, c, _, rfl, Evl.ex_t p.1 hS, by omega, by omega, fun H2 e2 => ?_⟩
      refine .inl ⟨_, rfl, _, rfl, _, _, rfl, rfl, h1, _, e2 D _ p.2, ?_, (p.1.trans e2).mut nD, ?_⟩
      · rw [iv_len, List.length_map, List.length_range]
        exact small1000 (by omega)
      · rw [upd_same, List.range_succ, List.map_append, Int.zero_add]
        show _ = some (HO.lst (List.map V.int _))
        rw [List.map_append]
        rfl
    · refine ⟨D, _, rfl, .inl ⟨.inl (.inl p.2), fun r nr => q _ r (p.1.trans (Evl.Ex.new nr)) (.inl (.inl upd_same))⟩⟩
end
end Rw35
/-! The walks: a base taken apart. -/
namespace Rw35
open PySem PySem.Spec PyProof.Rows L2
section
variable {P : Program} {w : World} {K : PySem.W.Frag} {mg : Str → Option Value} {base : Heap}
theorem Prs.app {H : Hp} {as : List Addr} {l : List (Int × Nat)} {t : Addr} {p : Int} {e : Nat} (h : Prs K H as l) (ht : SqT K H t [.int p, .int (e : Nat)]) : Prs K H (as ++ [t]) (l ++ [(p, e)]) := by
  refine ⟨by simp [h.1], fun i a q h1 h2 => ?_⟩
  by_cases hi : i < l.length
  · rw [List.getElem?_append_left (by rw [h.1]; exact hi)] at h1
    rw [List.getElem?_append_left hi] at h2
    exact h.2 i a q h1 h2
  · have hi2 : i = l.length := by
      have := (List.getElem?_eq_some_iff.mp h2).1
      simp at this
      omega
    rw [hi2] at h2
    rw [hi2, ← h.1] at h1
    simp at h1 h2
    rw [← h1, ← h2]
    exact ht
theorem step_read {D : Ends} {s : Int} {σ : L2.St} {H : Hp} (h2 : σ[2]? = some (some (.int s))) (q : D.nx (σ.set 2 (some (.int (nxt s)))) H) :
    tAsg (tIf (tTest (tOp rEq (tVar 2) (tC (.int 2)))) (tOp (rI0 fun i j => .int (i + j)) (tVar 2) (tC (.int 1))) (tOp (rI0 fun i j => .int (i + j)) (tVar 2) (tC (.int 2)))) (gName 2) D σ H := by
  refine ⟨_, h2, rfl, _, rfl, ite2 (fun e => ?_) (fun e => ?_)⟩
  · have e1 : s = 2 := V.int.inj (of_decide_eq_true e)
    refine ⟨_, h2, _, _, rfl, rfl, ?_⟩
    have e2 : nxt s = s + 1 := if_pos e1
    rw [e2] at q
    exact q
  · have e1 : s ≠ 2 := fun z => e (decide_eq_true (by rw [z]))
    refine ⟨_, h2, _, _, rfl, rfl, ?_⟩
    have e2 : nxt s = s + 2 := if_neg e1
    rw [e2] at q
    exact q
/-- the outer loop of apart_of -/
def WA (K : PySem.W.Frag) (H : Hp) (n : Int) (l : Addr) (m : Nat) (σ : L2.St) (H1 : Hp) : Prop :=
  ∃ (L : List (Int × Nat)) (as : List Addr) (mm s : Int) (y : Option V), m = (mm - s).toNat ∧ σ = [some (.int mm), some (.ref l), some (.int s), y] ∧ Ap n L mm s ∧ Evl.Ex H H1 ∧ H1 l = some (.lst (as.map V.ref)) ∧ Prs K H1 as L
theorem ok_apart_of (T : Txt K mg)  : FnOk P w K mg base CX0 1 T.d_apart_of.f T.d_apart_of.fd p_apart_of (sp_apart_of K) := by
  have sc := sc_apart_of
  refine T.d_apart_of.F.ok sc (fun vs H Q E h => ?_) (fun cdv A outer s H vs Q E hr h => ?_)
  · first
    | (obtain ⟨_, rfl, _⟩ := h; rfl)
    | (obtain ⟨_, _, rfl, _⟩ := h; rfl)
    | (obtain ⟨_, _, _, rfl, _⟩ := h; rfl)
    | (obtain ⟨_, _, _, _, rfl, _⟩ := h; rfl)
  · refine ⟨_, PSs.nox (pss_cons
      (ps_par (i := 1) (j := 2) (by rfl) sc.nd rfl rfl (by decide) rfl rfl (pa_cons (pe_lst pa_nil) (pa_cons pe_int pa_nil)) (by rfl))
    (pss_cons
      (ps_while PassesOwn.never (pt_cmpR op_le (pe_op op_mul (pv 2) (pv 2)) (pv 0) (nomark _))
        (pss_cons
          (ps_set (i := 3) sc.nd rfl (.inl rfl) pe_int)
        (pss_cons
          (ps_while PassesOwn.never (pt_cmpR op_eq (pe_op op_mod (pv 0) (pv 2)) pe_int (nomark _))
            (pss_one
              (ps_par (i := 0) (j := 3) (by rfl) sc.nd rfl rfl (by decide) rfl rfl (pa_cons (pe_op op_fdivW (pv 0) (pv 2)) (pa_cons (pe_op op_add (pv 3) pe_int) pa_nil)) (by rfl))))
        (pss_cons
          (ps_if (pt_cmpR op_gt (pv 3) pe_int (nomark _))
            (pss_one
              (ps_expr (pe_bm PySem.F.plainAttrs_list PySem.F.slot_list_append PySem.F.type_list_append mt_append (pv 1) (pa_cons (pe_tup (pa_cons (pv 2) (pa_cons (pv 3) pa_nil))) pa_nil))))
            pss_nil)
        (pss_one
          (ps_set (i := 2) sc.nd rfl (.inl rfl) (pe_ifExp (pt_cmpR op_eq (pv 2) pe_int (nomark _)) (pe_op op_add (pv 2) pe_int) (pe_op op_add (pv 2) pe_int))))))))
    (pss_one
      (ps_ret (pe_ifExp (pt_cmpR op_gt (pv 0) pe_int (nomark _)) (pe_tup (StX.pa_star (pv 1) (pa_cons (pe_tup (pa_cons (pv 0) (pa_cons pe_int pa_nil))) pa_nil))) (pe_callTy call_tuple_of (by rfl) T.m_tuple (by decide +kernel) (pa_cons (pv 1) pa_nil))))))), ?_⟩
    obtain ⟨n, rfl, h1, h2, q⟩ := h
    refine ⟨by decide, fun l nl => ⟨_, _, rfl, ?_⟩⟩
    refine ⟨WA K H n l, ⟨_, [], [], n, 2, none, rfl, rfl, Ap.start h1, Evl.Ex.new nl, upd_same, ⟨rfl, fun i a q h => by simp at h⟩⟩, fun m σ H1 hW => ?_⟩
    obtain ⟨L, as, mm, s, y, rfl, rfl, ha, ex1, hl, hp⟩ := hW
    have hs2 := ha.s2
    have hsn := ha.sn
    have hmn := ha.mn
    have hm1 := ha.m1
    have hL := len_lt ha.fi ha.m1 ha.pr (by omega)
    have haL : as.length < 40 := by rw [hp.1]; exact hL
    refine ⟨_, rfl, _, rfl, _, _, rfl, rfl, .inl ⟨by omega, by omega⟩, _, rfl, _, _, rfl, rfl, _, rfl, ite2 (fun e => ?_) (fun e => ?_)⟩
    · have hss : s * s ≤ mm := of_decide_eq_true e
      refine ⟨fun σ' H' => ∃ m', m' < (mm - s).toNat ∧ WA K H n l m' σ' H', fun _ _ h => h, ?_⟩
      -- often = 0, the inner loop
      refine ⟨fun m2 σ H2 => ∃ (e : Nat) (k : Int), m2 = k.toNat ∧ σ = [some (.int k), some (.ref l), some (.int s), some (.int (e : Nat))] ∧ In mm s k e ∧ H2 = H1, ⟨_, 0, mm, rfl, rfl, In.start hm1, rfl⟩, fun m2 σ H2 hW2 => ?_⟩
      obtain ⟨e, k, rfl, rfl, hi, rfl⟩ := hW2
      have hk1 := hi.1
      refine ⟨_, rfl, _, rfl, _, _, rfl, rfl, (by omega), rfl, _, rfl, ite2 (fun e2 => ?_) (fun e2 => ?_)⟩
      · have hd : k % s = 0 := V.int.inj (of_decide_eq_true e2)
        have ht := hi.turn hs2 hd
        have hk2 := ht.1.1
        refine ⟨fun σ' H' => σ' = [some (.int (k / s)), some (.ref l), some (.int s), some (.int ((e + 1 : Nat) : Int))] ∧ H' = H2, fun σ' H' hN => ⟨_, by omega, e + 1, k / s, rfl, hN.1, ht.1, hN.2⟩, ?_⟩
        exact ⟨_, rfl, _, rfl, _, _, rfl, rfl, wide_div (b := 64) (by omega) (by omega) (by decide) (by decide), _, rfl, _, _, rfl, rfl, _, _, rfl, rfl, rfl⟩
      · have hd : k % s ≠ 0 := fun z => e2 (decide_eq_true (congrArg V.int z))
        have ht := ha.turn hi hd hss
        -- if often > 0: found.append((step, often))
        refine ⟨_, rfl, _, _, rfl, rfl, _, rfl, ite2 (fun e3 => ?_) (fun e3 => ?_)⟩
        · have he : 0 < e := by
            have := of_decide_eq_true e3
            omega
          refine ⟨.ref l, rfl, .inl ⟨rfl, _, .inl (.inl hl)⟩, _, rfl, _, rfl, (by show 2 ≤ sizeLine; decide), fun t nt => ?_⟩
          have lt : l ≠ t := ne_of_none hl nt
          refine ⟨l, as.map V.ref, .ref t, rfl, rfl, by rw [upd_ne lt]; exact hl, by rw [List.length_map]; exact small1000 (by omega), ?_⟩
          refine step_read rfl ⟨_, by omega, put L s e, as ++ [t], k, nxt s, _, rfl, rfl, ht.1, (ex1.trans (Evl.Ex.new nt)).mut nl, ?_, ?_⟩
          · rw [upd_same, List.map_append]
            rfl
          · have e4 : put L s e = L ++ [(s, e)] := if_pos he
            rw [e4]
            have ht1 : (upd H2 t (.tup [.int s, .int (e : Nat)])) t = some (.tup [.int s, .int (e : Nat)]) := upd_same
            have hp1 := (hp.ex (Evl.Ex.new (o := .tup [.int s, .int (e : Nat)]) nt)).app (.inl (.inl ht1))
            refine ⟨hp1.1, fun i a q g1 g2 => ?_⟩
            rcases hp1.2 i a q g1 g2 with (g | ⟨o, g⟩) | g
            · exact .inl (.inl (by rw [upd_ne (ne_of g (show (upd H2 t (.tup [.int s, .int (e : Nat)])) l = _ by rw [upd_ne lt]; exact hl) (by intro z; cases z))]; exact g))
            · exact .inl (.inr ⟨o, by rw [upd_ne (ne_of g (show (upd H2 t (.tup [.int s, .int (e : Nat)])) l = _ by rw [upd_ne lt]; exact hl) (by intro z; cases z))]; exact g⟩)
            · exact .inr g
        · have he : e = 0 := by
            by_cases z : e = 0
            · exact z
            · exact absurd (decide_eq_true (show (0 : Int) < ((e : Nat) : Int) by omega)) e3
          have e4 : put L s e = L := if_neg (by omega)
          exact step_read rfl ⟨_, by omega, put L s e, as, k, nxt s, _, rfl, rfl, ht.1, ex1, hl, by rw [e4]; exact hp⟩
    · have hss : mm < s * s := by
        by_cases z : s * s ≤ mm
        · exact absurd (decide_eq_true z) e
        · omega
      obtain ⟨hf, hpr⟩ := ha.done hss
      refine ⟨_, rfl, _, _, rfl, rfl, _, rfl, ite2 (fun e3 => ?_) (fun e3 => ?_)⟩
      · have hm : 1 < mm := of_decide_eq_true e3
        rw [if_pos hm] at hf hpr
        refine ⟨.ref l, rfl, l, as.map V.ref, rfl, .inr (.inl (.inl hl)), _, rfl, (by show 2 ≤ sizeLine; decide), fun t nt => ?_⟩
        refine ⟨?_, fun r nr => ?_⟩
        · rw [List.length_append, List.length_map]
          exact Nat.le_of_lt (small1000 (by show as.length + 1 ≤ 1000; omega))
        · have ex3 := (Evl.Ex.new (o := .tup [.int mm, .int 1]) nt).trans (Evl.Ex.new (o := .tup (as.map V.ref ++ [.ref t])) nr)
          refine q _ _ r hf hpr (ex1.trans ex3) ⟨as ++ [t], .inl (.inl ?_), (hp.ex ex3).app (.inl (.inl ?_))⟩
          · show upd _ r _ r = _
            rw [upd_same, List.map_append]
            rfl
          · show upd _ r _ t = _
            rw [upd_ne (fun z => by rw [← z, upd_same] at nr; cases nr)]
            exact upd_same
      · have hm : ¬ 1 < mm := fun z => e3 (decide_eq_true z)
        rw [if_neg hm] at hf hpr
        exact ⟨_, rfl, l, as.map V.ref, rfl, .inl ⟨.inl (.inl hl), fun r nr => q _ _ r hf hpr (ex1.trans (Evl.Ex.new nr)) ⟨as, .inl (.inl upd_same), hp.ex (Evl.Ex.new nr)⟩⟩⟩
theorem ok_apart (T : Txt K mg) (G_apart_of : FnOk P w K mg base CX0 1 T.d_apart_of.f T.d_apart_of.fd p_apart_of (sp_apart_of K)) (G_check_base : FnOk P w K mg base CX0 4 T.d_check_base.f T.d_check_base.fd p_check_base (sp_check_base K)) : FnOk P w K mg base CX0 5 T.d_apart.f T.d_apart.fd p_apart (sp_apart K) := by
  have sc := sc_apart
  refine T.d_apart.F.ok sc (fun vs H Q E h => ?_) (fun cdv A outer s H vs Q E hr h => ?_)
  · first
    | (obtain ⟨_, rfl, _⟩ := h; rfl)
    | (obtain ⟨_, _, rfl, _⟩ := h; rfl)
    | (obtain ⟨_, _, _, rfl, _⟩ := h; rfl)
    | (obtain ⟨_, _, _, _, rfl, _⟩ := h; rfl)
  · refine ⟨_, PSs.nox (pss_cons
      (ps_expr (pe_d T.d_check_base G_check_base (hr.mono (by decide)) (by rfl) (pa_cons (pv 0) pa_nil)))
    (pss_one
      (ps_ret (pe_d T.d_apart_of G_apart_of (hr.mono (by decide)) (by rfl) (pa_cons (pv 0) pa_nil))))), ?_⟩
    obtain ⟨n, rfl, h1, h2, q⟩ := h
    exact ⟨_, rfl, n, rfl, h1, h2, _, rfl, n, rfl, h1, h2, q⟩
theorem ok_check_small_primes (T : Txt K mg) (G_apart_of : FnOk P w K mg base CX0 1 T.d_apart_of.f T.d_apart_of.fd p_apart_of (sp_apart_of K)) : FnOk P w K mg base CX0 2 T.d_check_small_primes.f T.d_check_small_primes.fd p_check_small_primes (sp_check_small_primes K) := by
  have sc := sc_check_small_primes
  refine T.d_check_small_primes.F.ok sc (fun vs H Q E h => ?_) (fun cdv A outer s H vs Q E hr h => ?_)
  · first
    | (obtain ⟨_, rfl, _⟩ := h; rfl)
    | (obtain ⟨_, _, rfl, _⟩ := h; rfl)
    | (obtain ⟨_, _, _, rfl, _⟩ := h; rfl)
    | (obtain ⟨_, _, _, _, rfl, _⟩ := h; rfl)
  · refine ⟨_, PSs.nox (pss_cons
      (ps_set (i := 1) sc.nd rfl (.inl rfl) (pe_d T.d_apart_of G_apart_of (hr.mono (by decide)) (by rfl) (pa_cons (pv 0) pa_nil)))
    (pss_cons
      (ps_setLc (i := 2) (own := [("prime", 3), ("often", 4)]) (g := gTup K 2 (gCons (gName 3) (gCons (gName 4) gNil))) rfl sc.nd rfl rfl (sw_true rfl rfl rfl (by decide +kernel)) (pi_tup (pv 1)) (blkOk_by (own := [("prime", 3), ("often", 4)]) (N := N_check_small_primes) (sc := defScope s_check_small_primes) (by decide +kernel)) (fun _ _ _ _ _ => (pg_tup rfl (pgs_cons (pg_name (i := 3) sc.nd rfl (.inl rfl) (.inr rfl)) (pgs_cons (pg_name (i := 4) sc.nd rfl (.inl rfl) (.inr rfl)) pgs_nil)))) (fun _ _ _ _ _ => (pts_one (pt_cmpR op_gt (pv 3) (pe_gint T.c_MOST_PRIME) (nomark _)))) (fun _ _ _ _ _ => (pv 3)))
    (pss_cons
      (ps_if (pt_cmpR (op_neD hr.units) (pv 2) (pe_lst pa_nil) (nomark _))
        (pss_one
          ps_never)
        pss_nil)
    (pss_one
      (ps_ret (pv 1)))))), ?_⟩
    obtain ⟨n, rfl, h1, h2, hsm, q⟩ := h
    refine ⟨_, rfl, n, rfl, h1, h2, fun l H1 p hf hpr ex1 hP => ?_⟩
    obtain ⟨as, hs, hp⟩ := id hP
    refine ⟨.ref p, rfl, p, rfl, ⟨_, hs⟩, fun D nD => ?_⟩
    refine lc_tup (xs := as.map V.ref) (fun i H2 => Evl.Ex H1 H2 ∧ H2 D = some (.lst [])) ⟨Evl.Ex.new nD, upd_same⟩ (fun i H2 _ p2 => Evl.ex_t p2.1 hs) (fun i x H2 hx p2 => ?_) (fun H2 p2 => ?_)
    · rw [List.getElem?_map] at hx
      obtain ⟨a, ha, rfl⟩ := Option.map_eq_some_iff.mp hx
      have hi := (List.getElem?_eq_some_iff.mp ha).1
      obtain ⟨z, hz⟩ : ∃ z, l[i]? = some z := ⟨_, List.getElem?_eq_getElem (by rw [← hp.1]; exact hi)⟩
      have hT := Evl.ex_t p2.1 (hp.2 i a z ha hz)
      have hq := hsm l hf hpr z (List.mem_of_getElem? hz)
      refine ⟨a, [.int z.1, .int (z.2 : Nat)], rfl, hT, rfl, .int z.1, [.int (z.2 : Nat)], rfl, .int (z.2 : Nat), [], rfl, rfl, rfl, ?_⟩
      exact ⟨_, rfl, _, _, rfl, rfl, false, bl_f (by omega), p2⟩
    · refine ⟨.ref D, rfl, by decide, fun r nr => ?_⟩
      have nDr : D ≠ r := ne_of_none p2.2 nr
      refine ⟨.list [], .list [], .lst (.inl (.inl (show upd H2 r (.lst []) D = some (.lst []) by rw [upd_ne nDr]; exact p2.2))) .nil, .lst (.inl (.inl upd_same)) .nil, by decide, by decide, false, rfl, iteF ?_⟩
      exact ⟨_, rfl, q l _ p hf hpr (ex1.trans (p2.1.trans (Evl.Ex.new nr))) (hP.ex (p2.1.trans (Evl.Ex.new nr)))⟩
end
end Rw35
/-! The walks: whether a sum turns the rests. -/
namespace Rw35
open PySem PySem.Spec PyProof.Rows L2
/-! ### how many different ones -/
/-- among the first i of val there are k different ones, told by S -/
structure Cn (val : Nat → Int) (i : Nat) (S : Int → Bool) (k : Nat) : Prop where
  le : k ≤ i
  nd : k = i ↔ ((List.range i).map val).Nodup
  mem : ∀ z, S z = true ↔ z ∈ (List.range i).map val
theorem Cn.start (val : Nat → Int) : Cn val 0 (fun _ => false) 0 := ⟨Nat.le_refl _, by simp, by simp⟩
theorem Cn.turn {val : Nat → Int} {i k : Nat} {S : Int → Bool} (h : Cn val i S k) : Cn val (i + 1) (fun j => S j || decide (j = val i)) (if S (val i) = true then k else k + 1) := by
  have h1 := h.le
  refine ⟨by split <;> omega, ?_, fun z => ?_⟩
  · rw [List.range_succ, List.map_append, List.nodup_append]
    by_cases hs : S (val i) = true
    · rw [if_pos hs]
      have hm := (h.mem _).mp hs
      constructor
      · intro e; omega
      · rintro ⟨_, _, hd⟩
        exact absurd rfl (hd _ hm (val i) (by simp))
    · rw [if_neg hs]
      have hm : val i ∉ (List.range i).map val := fun z => hs ((h.mem _).mpr z)
      constructor
      · intro e
        refine ⟨h.nd.mp (by omega), by simp, fun a ha b hb e2 => ?_⟩
        have hb' : b = val i := by simpa using hb
        rw [e2, hb'] at ha
        exact hm ha
      · rintro ⟨hn, _, _⟩
        have := h.nd.mpr hn
        omega
  · rw [Bool.or_eq_true, decide_eq_true_eq, h.mem, List.range_succ, List.map_append, List.mem_append]
    simp
theorem firstMet_cn (val : Nat → Int) : ∀ i, Cn val i (fun k => (firstMet val i).any (· == k)) (firstMet val i).length
  | 0 => Cn.start val
  | i + 1 => by
    have h := firstMet_cn val i
    have t := h.turn
    have e : firstMet val (i + 1) = if (firstMet val i).any (· == val i) then firstMet val i else firstMet val i ++ [val i] := firstMet_succ val i
    have el : (firstMet val (i + 1)).length = if (firstMet val i).any (· == val i) = true then (firstMet val i).length else (firstMet val i).length + 1 := by
      rw [e]
      split <;> simp
    refine ⟨by rw [el]; exact t.le, by rw [el]; exact t.nd, fun z => ?_⟩
    rw [firstMet_any, List.any_eq_true]
    exact ⟨fun ⟨x, hx, hb⟩ => by rw [← eq_of_beq hb]; exact hx, fun hz => ⟨z, hz, beq_self_eq_true z⟩⟩
theorem dv_all {c : List Int} {p : Int} (hp : 0 < p) : (∀ i : Nat, i < p.toNat → 0 < dv c (i : Int) % p) ↔ ∀ x, ¬ p ∣ dv c x := by
  constructor
  · intro h x hd
    have h1 := Int.emod_nonneg x (show p ≠ 0 by omega)
    have h2 := Int.emod_lt_of_pos x hp
    have h3 := h (x % p).toNat (by omega)
    have e : (((x % p).toNat : Nat) : Int) = x % p := by omega
    rw [e, emod_eq_of_dvd (dv_cong c (dvd_emod_sub p x)), Int.emod_eq_zero_of_dvd hd] at h3
    omega
  · intro h i hi
    have h1 := Int.emod_nonneg (dv c (i : Int)) (show p ≠ 0 by omega)
    have h2 : dv c (i : Int) % p ≠ 0 := fun z => h i (Int.dvd_of_emod_eq_zero z)
    omega
theorem inV_false : ∀ bs : List Bool, (!inV (.bl false) (bs.map V.bl)) = bs.all id
  | [] => rfl
  | b :: bs => by
    have := inV_false bs
    show (!(eqV (.bl b) (.bl false) || inV (.bl false) (bs.map V.bl))) = (b && bs.all id)
    rw [← this]
    cases b <;> simp [eqV]
section
variable {P : Program} {w : World} {K : PySem.W.Frag} {mg : Str → Option Value} {base : Heap}
theorem ok_turns_by (T : Txt K mg) (G_slope_of : FnOk P w K mg base CX0 1 T.d_slope_of.f T.d_slope_of.fd p_slope_of (sp_slope_of K)) (G_value_rest : FnOk P w K mg base CX0 1 T.d_value_rest.f T.d_value_rest.fd p_value_rest (sp_value_rest K)) : FnOk P w K mg base CX0 2 T.d_turns_by.f T.d_turns_by.fd p_turns_by (sp_turns_by K) := by
  have sc := sc_turns_by
  refine T.d_turns_by.F.ok sc (fun vs H Q E h => ?_) (fun cdv A outer s H vs Q E hr h => ?_)
  · first
    | (obtain ⟨_, rfl, _⟩ := h; rfl)
    | (obtain ⟨_, _, rfl, _⟩ := h; rfl)
    | (obtain ⟨_, _, _, rfl, _⟩ := h; rfl)
    | (obtain ⟨_, _, _, _, rfl, _⟩ := h; rfl)
  · refine ⟨_, PSs.nox (pss_cons
      (ps_if (pt_cmpR op_lt (pe_callB call_lenS (by rfl) T.m_len (by decide +kernel) (pa_cons (pe_si (own := [("rest", 4)]) (g := gName 4) rfl sc.nd (pi_range1 (by rfl) T.m_range (pa_cons (pv 1) pa_nil)) (blkOk_by (own := [("rest", 4)]) (N := N_turns_by) (sc := defScope s_turns_by) (by decide +kernel)) (fun _ _ _ _ _ => (pg_name (i := 4) sc.nd rfl (.inl rfl) (.inr rfl))) (fun _ _ _ _ _ => (pe_d T.d_value_rest G_value_rest (hr.mono (by decide)) (by rfl) (pa_cons (pv 0) (pa_cons (pv 4) (pa_cons (pv 1) pa_nil)))))) pa_nil)) (pv 1) (nomark _))
        (pss_one
          (ps_ret pe_bl))
        pss_nil)
    (pss_cons
      (ps_set (i := 3) sc.nd rfl (.inr rfl) (pe_d T.d_slope_of G_slope_of (hr.mono (by decide)) (by rfl) (pa_cons (pv 0) pa_nil)))
    (pss_one
      (ps_ret (pe_or (pe_cmpR op_eq (pv 2) pe_int (nomark _)) (pe_one (pe_callB (cr_all rfl) (by rfl) T.m_all (by decide +kernel) (pa_cons (pe_lc (own := [("rest", 4)]) (g := gName 4) rfl sc.nd (pi_range1 (by rfl) T.m_range (pa_cons (pv 1) pa_nil)) (blkOk_by (own := [("rest", 4)]) (N := N_turns_by) (sc := defScope s_turns_by) (by decide +kernel)) (fun _ _ _ _ _ => (pg_name (i := 4) sc.nd rfl (.inl rfl) (.inr rfl))) (fun _ _ _ _ _ => pts_nil) (fun _ _ _ _ _ => (pe_cmpR op_gt (pe_d T.d_value_rest G_value_rest (hr.mono (by decide)) (by rfl) (pa_cons (pv 3) (pa_cons (pv 4) (pa_cons (pv 1) pa_nil)))) pe_int (nomark _)))) pa_nil)))))))), ?_⟩
    obtain ⟨a, c, p, e, rfl, hS, hl, p1, p2, q⟩ := h
    have hn := tn_nodup (c := c) (n := p) (by omega)
    -- len({value_rest(terms, rest, prime) for rest in range(prime)}) < prime
    refine ⟨_, rfl, p, rfl, by omega, by omega, fun D nD => ?_⟩
    refine si_range (lo := 0) (n := p.toNat) (fun i H1 => Evl.Ex H H1 ∧ ∃ S k, H1 D = some (SetO w D S k) ∧ Cn (fun i : Nat => ev c (i : Int) % p) i S k) ⟨Evl.Ex.new nD, _, _, upd_same, Cn.start _⟩ (fun i H1 hi p3 => ?_) (fun H1 p3 => ?_)
    · obtain ⟨ex1, S, k, hD, hc⟩ := p3
      have hk := hc.le
      refine ⟨rfl, ?_⟩
      refine ⟨_, rfl, _, rfl, _, rfl, a, c, _, p, rfl, Evl.ex_t ex1 hS, by omega, by omega, by omega, fun H2 e2 => ?_⟩
      refine ⟨_, S, k, rfl, e2 D _ hD, by unfold scanBound; omega, (ex1.trans e2).mut nD, _, _, upd_same, ?_⟩
      rw [Int.zero_add]
      exact hc.turn
    · obtain ⟨ex1, S, k, hD, hc⟩ := p3
      have hk := hc.le
      have hcn := hc.nd
      refine ⟨D, S, k, rfl, hD, _, rfl, _, _, rfl, rfl, _, rfl, ite2 (fun e1 => ?_) (fun e1 => ?_)⟩
      · have hlt : k < p.toNat := by
          have := of_decide_eq_true e1
          omega
        refine q false H1 ⟨fun z => (by cases z), fun z => ?_⟩ ex1
        have := hcn.mpr (hn.mpr z.1)
        omega
      · have hT : Tn c p := hn.mp (hcn.mp (by
          by_cases z : k = p.toNat
          · exact z
          · exact absurd (decide_eq_true (show ((k : Nat) : Int) < p by omega)) e1))
        refine ⟨.ref a, rfl, a, c, rfl, Evl.ex_t ex1 hS, by omega, fun H2 r e2 hr => ?_⟩
        -- often == 1 or all([value_rest(own, rest, prime) > 0 for rest in range(prime)])
        refine ⟨_, rfl, rfl, _, rfl, ite2 (fun e3 => ?_) (fun e3 => ?_)⟩
        · have he : e = 1 := by
            have := V.int.inj (of_decide_eq_true e3)
            omega
          exact q true H2 ⟨fun _ => ⟨hT, .inl he⟩, fun _ => rfl⟩ (ex1.trans e2)
        · have he : e ≠ 1 := fun z => e3 (decide_eq_true (by rw [z]; rfl))
          refine ⟨_, rfl, p, rfl, by omega, by omega, fun D2 nD2 => ?_⟩
          refine lc_range (lo := 0) (n := p.toNat) (fun i H3 => Evl.Ex H2 H3 ∧ H3 D2 = some (.lst (((List.range i).map fun k : Nat => decide (0 < dv c (k : Int) % p)).map V.bl))) ⟨Evl.Ex.new nD2, upd_same⟩ (fun i H3 hi p4 => ?_) (fun H3 p4 => ?_)
          · refine ⟨rfl, ?_⟩
            refine ⟨_, rfl, _, rfl, _, rfl, r, slope c, _, p, rfl, Evl.ex_t p4.1 hr, by omega, by omega, by omega, fun H4 e4 => ?_⟩
            refine ⟨_, _, rfl, rfl, _, e4 D2 _ p4.2, ?_, (p4.1.trans e4).mut nD2, ?_⟩
            · rw [List.length_map, List.length_map, List.length_range]
              exact small1000 (by omega)
            · rw [upd_same, List.range_succ, List.map_append, List.map_append, Int.zero_add, ev_slope]
              rfl
          · refine ⟨D2, _, rfl, .inl (.inl p4.2), ?_⟩
            refine q _ H3 ⟨fun z => ⟨hT, .inr ((dv_all (by omega)).mp fun i hi => ?_)⟩, fun z => ?_⟩ (ex1.trans (e2.trans p4.1))
            · have := List.all_eq_true.mp z _ (List.mem_map.mpr ⟨i, List.mem_range.mpr hi, rfl⟩)
              exact of_decide_eq_true this
            · refine List.all_eq_true.mpr fun b hb => ?_
              obtain ⟨i, hi, rfl⟩ := List.mem_map.mp hb
              exact decide_eq_true ((dv_all (by omega)).mpr (z.2.resolve_left he) i (List.mem_range.mp hi))
theorem ok_does_turn (T : Txt K mg) (G_turns_by : FnOk P w K mg base CX0 2 T.d_turns_by.f T.d_turns_by.fd p_turns_by (sp_turns_by K)) : FnOk P w K mg base CX0 3 T.d_does_turn.f T.d_does_turn.fd p_does_turn (sp_does_turn K) := by
  have sc := sc_does_turn
  refine T.d_does_turn.F.ok sc (fun vs H Q E h => ?_) (fun cdv A outer s H vs Q E hr h => ?_)
  · first
    | (obtain ⟨_, rfl, _⟩ := h; rfl)
    | (obtain ⟨_, _, rfl, _⟩ := h; rfl)
    | (obtain ⟨_, _, _, rfl, _⟩ := h; rfl)
    | (obtain ⟨_, _, _, _, rfl, _⟩ := h; rfl)
  · refine ⟨_, PSs.nox (pss_one
      (ps_ret (pe_callB (cr_all rfl) (by rfl) T.m_all (by decide +kernel) (pa_cons (pe_lc (own := [("prime", 2), ("often", 3)]) (g := gTup K 2 (gCons (gName 2) (gCons (gName 3) gNil))) rfl sc.nd (pi_tup (pv 1)) (blkOk_by (own := [("prime", 2), ("often", 3)]) (N := N_does_turn) (sc := defScope s_does_turn) (by decide +kernel)) (fun _ _ _ _ _ => (pg_tup rfl (pgs_cons (pg_name (i := 2) sc.nd rfl (.inl rfl) (.inr rfl)) (pgs_cons (pg_name (i := 3) sc.nd rfl (.inl rfl) (.inr rfl)) pgs_nil)))) (fun _ _ _ _ _ => pts_nil) (fun _ _ _ _ _ => (pe_d T.d_turns_by G_turns_by (hr.mono (by decide)) (by rfl) (pa_cons (pv 0) (pa_cons (pv 2) (pa_cons (pv 3) pa_nil)))))) pa_nil)))), ?_⟩
    obtain ⟨a, t, c, l, rfl, hS, hl, hP, hll, hq, q⟩ := h
    obtain ⟨as, hs, hp⟩ := hP
    refine ⟨.ref t, rfl, t, rfl, ⟨_, hs⟩, fun D nD => ?_⟩
    refine lc_tup (xs := as.map V.ref) (fun i H1 => Evl.Ex H H1 ∧ ∃ bs : List Bool, H1 D = some (.lst (bs.map V.bl)) ∧ bs.length = i ∧ ∀ (j : Nat) (b : Bool) (z : Int × Nat), bs[j]? = some b → l[j]? = some z → (b = true ↔ By c z.1 z.2)) ⟨Evl.Ex.new nD, [], upd_same, rfl, fun j b z h => by simp at h⟩ (fun i H1 _ p2 => Evl.ex_t p2.1 hs) (fun i x H1 hx p2 => ?_) (fun H1 p2 => ?_)
    · obtain ⟨ex1, bs, hD, hb, hby⟩ := p2
      rw [List.getElem?_map] at hx
      obtain ⟨s1, ha, rfl⟩ := Option.map_eq_some_iff.mp hx
      have hi := (List.getElem?_eq_some_iff.mp ha).1
      have hpl := hp.1
      obtain ⟨z, hz⟩ : ∃ z, l[i]? = some z := ⟨_, List.getElem?_eq_getElem (by rw [← hpl]; exact hi)⟩
      have hT := Evl.ex_t ex1 (hp.2 i s1 z ha hz)
      have hz2 := hq z (List.mem_of_getElem? hz)
      refine ⟨s1, [.int z.1, .int (z.2 : Nat)], rfl, hT, rfl, .int z.1, [.int (z.2 : Nat)], rfl, .int (z.2 : Nat), [], rfl, rfl, rfl, ?_⟩
      refine ⟨_, rfl, _, rfl, _, rfl, a, c, z.1, z.2, rfl, Evl.ex_t ex1 hS, hl, hz2.1, hz2.2, fun b H2 hbb e2 => ?_⟩
      refine ⟨_, e2 D _ hD, ?_, (ex1.trans e2).mut nD, bs ++ [b], ?_, by simp [hb], fun j b' z' g1 g2 => ?_⟩
      · rw [List.length_map]
        exact small1000 (by omega)
      · rw [upd_same, List.map_append]
        rfl
      · by_cases hj : j < i
        · rw [List.getElem?_append_left (by omega)] at g1
          exact hby j b' z' g1 g2
        · have hj2 : j = i := by
            have := (List.getElem?_eq_some_iff.mp g1).1
            simp at this
            omega
          rw [hj2] at g1 g2
          rw [← hb] at g1
          simp at g1
          rw [hz] at g2
          have e3 := Option.some.inj g2
          rw [← g1, ← e3]
          exact hbb
    · obtain ⟨ex1, bs, hD, hb, hby⟩ := p2
      rw [List.length_map] at hb
      have hpl := hp.1
      refine ⟨D, bs, rfl, .inl (.inl hD), q _ H1 ⟨fun g z hz => ?_, fun g => List.all_eq_true.mpr fun b hb2 => ?_⟩ ex1⟩
      · obtain ⟨j, hj, ej⟩ := List.mem_iff_getElem.mp hz
        have hjb : bs[j]? = some bs[j] := List.getElem?_eq_getElem (by omega)
        refine (hby j bs[j] z hjb (by rw [← ej]; exact List.getElem?_eq_getElem hj)).mp ?_
        exact List.all_eq_true.mp g _ (List.getElem_mem _)
      · obtain ⟨j, hj, ej⟩ := List.mem_iff_getElem.mp hb2
        obtain ⟨z, hz⟩ : ∃ z, l[j]? = some z := ⟨_, List.getElem?_eq_getElem (by omega)⟩
        exact (hby j b z (by rw [← ej]; exact List.getElem?_eq_getElem hj) hz).mpr (g z (List.mem_of_getElem? hz))
theorem tn_of_parts {c : List Int} {n : Int} {l : List (Int × Nat)} (hf : Fine l) (hp : prod l = n) : (∀ q ∈ l, By c q.1 q.2) ↔ Tn c n := by
  rw [← hp, tn_prod hf]
  exact ⟨fun h q hq => (tn_by (hf.1 q hq).1 (hf.1 q hq).2).mpr (h q hq), fun h q hq => (tn_by (hf.1 q hq).1 (hf.1 q hq).2).mp (h q hq)⟩
theorem ok_turns (T : Txt K mg) (G_check_base : FnOk P w K mg base CX0 4 T.d_check_base.f T.d_check_base.fd p_check_base (sp_check_base K)) (G_check_small_primes : FnOk P w K mg base CX0 2 T.d_check_small_primes.f T.d_check_small_primes.fd p_check_small_primes (sp_check_small_primes K)) (G_check_sum : FnOk P w K mg base CX0 4 T.d_check_sum.f T.d_check_sum.fd p_check_sum (sp_check_sum K)) (G_does_turn : FnOk P w K mg base CX0 3 T.d_does_turn.f T.d_does_turn.fd p_does_turn (sp_does_turn K)) : FnOk P w K mg base CX0 5 T.d_turns.f T.d_turns.fd p_turns (sp_turns K) := by
  have sc := sc_turns
  refine T.d_turns.F.ok sc (fun vs H Q E h => ?_) (fun cdv A outer s H vs Q E hr h => ?_)
  · first
    | (obtain ⟨_, rfl, _⟩ := h; rfl)
    | (obtain ⟨_, _, rfl, _⟩ := h; rfl)
    | (obtain ⟨_, _, _, rfl, _⟩ := h; rfl)
    | (obtain ⟨_, _, _, _, rfl, _⟩ := h; rfl)
  · refine ⟨_, PSs.nox (pss_cons
      (ps_expr (pe_d T.d_check_sum G_check_sum (hr.mono (by decide)) (by rfl) (pa_cons (pv 0) pa_nil)))
    (pss_cons
      (ps_expr (pe_d T.d_check_base G_check_base (hr.mono (by decide)) (by rfl) (pa_cons (pv 1) pa_nil)))
    (pss_one
      (ps_ret (pe_d T.d_does_turn G_does_turn (hr.mono (by decide)) (by rfl) (pa_cons (pv 0) (pa_cons (pe_d T.d_check_small_primes G_check_small_primes (hr.mono (by decide)) (by rfl) (pa_cons (pv 1) pa_nil)) pa_nil))))))), ?_⟩
    obtain ⟨a, c, n, rfl, hS, hc, h1, h2, hsm, q⟩ := h
    refine ⟨.ref a, rfl, a, c, rfl, hS, hc, fun H1 e1 => ⟨_, rfl, n, rfl, h1, h2, ?_⟩⟩
    refine ⟨.ref a, rfl, _, rfl, n, rfl, h1, h2, hsm, fun l H2 p hf hp e2 hP => ?_⟩
    have hl := len_lt hf (n := n) (m := 1) (by omega) (by rw [Int.mul_one]; exact hp) h2
    have hc2 := hc.len
    refine ⟨a, p, c, l, rfl, Evl.ex_t (e1.trans e2) hS, by omega, hP, by omega, fun z hz => ⟨(hf.1 z hz).1.1, hsm l hf hp z hz⟩, fun b H3 hb e3 => ?_⟩
    exact q b H3 (hb.trans (tn_of_parts hf hp)) (e1.trans (e2.trans e3))
theorem ok_law_is_turn (T : Txt K mg) (G_law_table : FnOk P w K mg base CX0 2 T.d_law_table.f T.d_law_table.fd p_law_table (sp_law_table K)) : FnOk P w K mg base CX0 3 T.d_law_is_turn.f T.d_law_is_turn.fd p_law_is_turn (sp_law_is_turn K) := by
  have sc := sc_law_is_turn
  refine T.d_law_is_turn.F.ok sc (fun vs H Q E h => ?_) (fun cdv A outer s H vs Q E hr h => ?_)
  · first
    | (obtain ⟨_, rfl, _⟩ := h; rfl)
    | (obtain ⟨_, _, rfl, _⟩ := h; rfl)
    | (obtain ⟨_, _, _, rfl, _⟩ := h; rfl)
    | (obtain ⟨_, _, _, _, rfl, _⟩ := h; rfl)
  · refine ⟨_, PSs.nox (pss_one
      (ps_ret (pe_cmpR op_eq (pe_callB call_lenSet (by rfl) T.m_len (by decide +kernel) (pa_cons (pe_callTy (call_setL rfl) (by rfl) T.m_set (by decide +kernel) (pa_cons (pe_callTy call_list_of (by rfl) T.m_list (by decide +kernel) (pa_cons (pe_d T.d_law_table G_law_table (hr.mono (by decide)) (by rfl) (pa_cons (pv 0) (pa_cons (pv 1) pa_nil))) pa_nil)) pa_nil)) pa_nil)) (pv 1) (nomark _)))), ?_⟩
    obtain ⟨a, c, n, rfl, hS, h1, h2, q⟩ := h
    refine ⟨.ref a, rfl, _, rfl, a, c, n, rfl, hS, h1, h2, fun H1 p e1 hp => ?_⟩
    refine ⟨p, _, rfl, .inr hp, fun r nr => ⟨r, _, rfl, .inl (.inl upd_same), by rw [List.length_map, List.length_range]; omega, fun s ns => ⟨s, _, _, rfl, upd_same, _, rfl, rfl, ?_⟩⟩⟩
    have hcn := firstMet_cn (fun i => ((List.range n.toNat).map fun i : Nat => ev c (i : Int) % n).getD i 0) n.toNat
    have hl : ((List.range n.toNat).map fun i : Nat => ev c (i : Int) % n).length = n.toNat := by rw [List.length_map, List.length_range]
    rw [hl]
    have e0 : (List.range n.toNat).map (fun i => ((List.range n.toNat).map fun i : Nat => ev c (i : Int) % n).getD i 0) = (List.range n.toNat).map fun i : Nat => ev c (i : Int) % n := by
      refine List.map_congr_left fun i hi => ?_
      have hi2 := List.mem_range.mp hi
      rw [List.getD_eq_getElem?_getD, List.getElem?_map, List.getElem?_range hi2]
      rfl
    have hnd := hcn.nd
    rw [e0, tn_nodup h1] at hnd
    refine q _ _ ?_ (e1.trans ((Evl.Ex.new nr).trans (Evl.Ex.new ns)))
    rw [decide_eq_true_eq, ← hnd]
    constructor
    · intro g
      have := V.int.inj g
      omega
    · intro g
      rw [g]
      congr 1
      omega
theorem two_pow_le_pow {p : Int} (h : 2 ≤ p) : ∀ e : Nat, (2 : Int) ^ e ≤ p ^ e
  | 0 => by rw [Int.pow_zero, Int.pow_zero]; omega
  | e + 1 => by
    rw [Int.pow_succ, Int.pow_succ]
    have h1 := two_pow_le_pow h e
    have h2 : 0 < (2 : Int) ^ e := pow_pos' (by omega) e
    have h3 : (2 : Int) ^ e * 2 ≤ 2 ^ e * p := Int.mul_le_mul_of_nonneg_left h (by omega)
    have h4 : (2 : Int) ^ e * p ≤ p ^ e * p := Int.mul_le_mul_of_nonneg_right h1 (by omega)
    omega
theorem small_of {n : Int} (h1 : 1 ≤ n) (h2 : n ≤ 1000) : Small n := fun l hf hp q hq => by
  have := Int.le_of_dvd (by omega) (hp ▸ prime_dvd_prod hf hq)
  omega
theorem ok_law_pieces_right (T : Txt K mg) (G_law_power : FnOk P w K mg base CX0 1 T.d_law_power.f T.d_law_power.fd p_law_power (sp_law_power K)) (G_apart : FnOk P w K mg base CX0 5 T.d_apart.f T.d_apart.fd p_apart (sp_apart K)) (G_turns : FnOk P w K mg base CX0 5 T.d_turns.f T.d_turns.fd p_turns (sp_turns K)) : FnOk P w K mg base CX0 6 T.d_law_pieces_right.f T.d_law_pieces_right.fd p_law_pieces_right (sp_law_pieces_right K) := by
  have sc := sc_law_pieces_right
  refine T.d_law_pieces_right.F.ok sc (fun vs H Q E h => ?_) (fun cdv A outer s H vs Q E hr h => ?_)
  · first
    | (obtain ⟨_, rfl, _⟩ := h; rfl)
    | (obtain ⟨_, _, rfl, _⟩ := h; rfl)
    | (obtain ⟨_, _, _, rfl, _⟩ := h; rfl)
    | (obtain ⟨_, _, _, _, rfl, _⟩ := h; rfl)
  · refine ⟨_, PSs.nox (pss_cons
      (ps_setLc (i := 2) (own := [("_law_prime", 3), ("_law_often", 4)]) (g := gTup K 2 (gCons (gName 3) (gCons (gName 4) gNil))) rfl sc.nd rfl rfl (sw_true rfl rfl rfl (by decide +kernel)) (pi_tup (pe_d T.d_apart G_apart (hr.mono (by decide)) (by rfl) (pa_cons (pv 1) pa_nil))) (blkOk_by (own := [("_law_prime", 3), ("_law_often", 4)]) (N := N_law_pieces_right) (sc := defScope s_law_pieces_right) (by decide +kernel)) (fun _ _ _ _ _ => (pg_tup rfl (pgs_cons (pg_name (i := 3) sc.nd rfl (.inl rfl) (.inr rfl)) (pgs_cons (pg_name (i := 4) sc.nd rfl (.inl rfl) (.inr rfl)) pgs_nil)))) (fun _ _ _ _ _ => pts_nil) (fun _ _ _ _ _ => (pe_d T.d_turns G_turns (hr.mono (by decide)) (by rfl) (pa_cons (pv 0) (pa_cons (pe_d T.d_law_power G_law_power (hr.mono (by decide)) (by rfl) (pa_cons (pv 3) (pa_cons (pv 4) pa_nil))) pa_nil)))))
    (pss_one
      (ps_ret (pe_cmpR op_eq (pe_d T.d_turns G_turns (hr.mono (by decide)) (by rfl) (pa_cons (pv 0) (pa_cons (pv 1) pa_nil))) (pe_cmpR op_notIn_seq pe_bl (pv 2) rfl) (nomark _))))), ?_⟩
    obtain ⟨a, c, n, rfl, hS, hc, h1, h2, q⟩ := h
    refine ⟨_, rfl, n, rfl, h1, by omega, fun l H1 p hf hp e1 hP => ?_⟩
    obtain ⟨as, hs, hprs⟩ := hP
    have hpl := hprs.1
    have hl := len_lt hf (n := n) (m := 1) (by omega) (by rw [Int.mul_one]; exact hp) (by omega)
    refine ⟨p, rfl, ⟨_, hs⟩, fun D nD => ?_⟩
    refine lc_tup (xs := as.map V.ref) (fun i H2 => Evl.Ex H1 H2 ∧ ∃ bs : List Bool, H2 D = some (.lst (bs.map V.bl)) ∧ bs.length = i ∧ ∀ (j : Nat) (b : Bool) (z : Int × Nat), bs[j]? = some b → l[j]? = some z → (b = true ↔ Tn c (z.1 ^ z.2))) ⟨Evl.Ex.new nD, [], upd_same, rfl, fun j b z h => by simp at h⟩ (fun i H2 _ p2 => Evl.ex_t p2.1 hs) (fun i x H2 hx p2 => ?_) (fun H2 p2 => ?_)
    · obtain ⟨ex1, bs, hD, hb, hby⟩ := p2
      rw [List.getElem?_map] at hx
      obtain ⟨s1, ha, rfl⟩ := Option.map_eq_some_iff.mp hx
      have hi := (List.getElem?_eq_some_iff.mp ha).1
      obtain ⟨z, hz⟩ : ∃ z, l[i]? = some z := ⟨_, List.getElem?_eq_getElem (by rw [← hpl]; exact hi)⟩
      have hzm := List.mem_of_getElem? hz
      have hT := Evl.ex_t ex1 (hprs.2 i s1 z ha hz)
      have hz1 := hf.1 z hzm
      have hz2 := Int.le_of_dvd (by omega) (hp ▸ dvd_prod hzm)
      have hz3 := Int.le_of_dvd (by omega) (hp ▸ prime_dvd_prod hf hzm)
      have hz4 := pow_pos' hz1.1.pos z.2
      have hz5 := hz1.1.1
      have hz6 : z.2 ≤ 1000 := by
        have e2 := two_pow_le_pow hz5 z.2
        have e3 : z.2 < 2 ^ z.2 := Nat.lt_two_pow_self
        have e4 : ((2 ^ z.2 : Nat) : Int) = (2 : Int) ^ z.2 := by simp
        omega
      refine ⟨s1, [.int z.1, .int (z.2 : Nat)], rfl, hT, rfl, .int z.1, [.int (z.2 : Nat)], rfl, .int (z.2 : Nat), [], rfl, rfl, rfl, ?_⟩
      refine ⟨_, rfl, _, rfl, _, rfl, z.1, z.2, rfl, by omega, by omega, by omega, a, c, z.1 ^ z.2, rfl, Evl.ex_t (e1.trans ex1) hS, hc, by omega, by omega, small_of (by omega) (by omega), fun b H3 hbb e2 => ?_⟩
      refine ⟨_, e2 D _ hD, ?_, (ex1.trans e2).mut nD, bs ++ [b], ?_, by simp [hb], fun j b' z' g1 g2 => ?_⟩
      · rw [List.length_map]
        exact small1000 (by omega)
      · rw [upd_same, List.map_append]
        rfl
      · by_cases hj : j < i
        · rw [List.getElem?_append_left (by omega)] at g1
          exact hby j b' z' g1 g2
        · have hj2 : j = i := by
            have := (List.getElem?_eq_some_iff.mp g1).1
            simp at this
            omega
          rw [hj2] at g1 g2
          rw [← hb] at g1
          simp at g1
          rw [hz] at g2
          have e3 := Option.some.inj g2
          rw [← g1, ← e3]
          exact hbb
    · obtain ⟨ex1, bs, hD, hb, hby⟩ := p2
      rw [List.length_map] at hb
      -- return turns(row, base) == (False not in told)
      refine ⟨.ref a, rfl, _, rfl, a, c, n, rfl, Evl.ex_t (e1.trans ex1) hS, hc, h1, by omega, small_of h1 h2, fun b H3 hbb e2 => ?_⟩
      refine ⟨_, rfl, D, bs.map V.bl, rfl, .inl (.inl (.inl (e2 D _ hD))), rfl, ?_, ?_⟩
      · rw [List.all_map]
        first | done | exact List.all_eq_true.mpr fun _ _ => rfl
      · refine ⟨rfl, ?_⟩
        have eb : b = (!inV (.bl false) (bs.map V.bl)) := by
          rw [inV_false, Bool.eq_iff_iff, hbb, ← hp, tn_prod hf]
          constructor
          · intro g
            refine List.all_eq_true.mpr fun b' hb2 => ?_
            obtain ⟨j, hj, ej⟩ := List.mem_iff_getElem.mp hb2
            obtain ⟨z, hz⟩ : ∃ z, l[j]? = some z := ⟨_, List.getElem?_eq_getElem (by omega)⟩
            exact (hby j b' z (by rw [← ej]; exact List.getElem?_eq_getElem hj) hz).mpr (g z (List.mem_of_getElem? hz))
          · intro g z hz
            obtain ⟨j, hj, ej⟩ := List.mem_iff_getElem.mp hz
            have hjb : bs[j]? = some bs[j] := List.getElem?_eq_getElem (by omega)
            refine (hby j bs[j] z hjb (by rw [← ej]; exact List.getElem?_eq_getElem hj)).mp ?_
            exact List.all_eq_true.mp g _ (List.getElem_mem _)
        refine q_t (Q := Q) ?_ (q H3 (e1.trans (ex1.trans e2)))
        rw [eb]
        rfl
end
end Rw35
/-! The walks: what the law draws. -/
namespace Rw35
open PySem PySem.Spec PyProof.Rows L2
section
variable {P : Program} {w : World} {K : PySem.W.Frag} {mg : Str → Option Value} {base : Heap}
theorem bigm : (0 : Int) < 1999999267 := by decide
theorem Cask.ne {H : Hp} {c p : Addr} (h : Cask H c) (n : H p = none) : c ≠ p := by
  obtain ⟨x, y, d, e, _⟩ := h
  exact ne_of_none e n
theorem ok_law_tap (T : Txt K mg)  : FnOk P w K mg base CX0 1 T.d_law_tap.f T.d_law_tap.fd p_law_tap (sp_law_tap K) := by
  have sc := sc_law_tap
  refine T.d_law_tap.F.ok sc (fun vs H Q E h => ?_) (fun cdv A outer s H vs Q E hr h => ?_)
  · first
    | (obtain ⟨_, rfl, _⟩ := h; rfl)
    | (obtain ⟨_, _, rfl, _⟩ := h; rfl)
    | (obtain ⟨_, _, _, rfl, _⟩ := h; rfl)
    | (obtain ⟨_, _, _, _, rfl, _⟩ := h; rfl)
  · refine ⟨_, PSs.nox (pss_cons
      (ps_asg (pe_op op_add (pe_ix ix_seq (pv 0) pe_int (fun _ _ => rfl)) pe_int) (pg_sub (pv 0) pe_int set_list))
    (pss_cons
      (ps_if (pt_cmpR op_gt (pe_ix ix_seq (pv 0) pe_int (fun _ _ => rfl)) pe_int (nomark _))
        (pss_cons
          (ps_asg (pe_callB call_divmod (by rfl) T.m_divmod (by decide +kernel) (pa_cons (pe_callTy call_int1 (by rfl) T.m_int (by decide +kernel) (pa_cons (pe_ix ix_seq (pv 0) pe_int (fun _ _ => rfl)) pa_nil)) (pa_cons (pv 1) pa_nil))) (pg_tup rfl (pgs_cons (pg_sub (pv 0) pe_int set_list) (pgs_cons (pg_name (i := 2) sc.nd rfl (.inl rfl)) pgs_nil))))
        (pss_one
          (ps_ret (pv 2))))
        pss_nil)
    (pss_cons
      (ps_asg (pe_op op_mod (pe_callTy call_int1 (by rfl) T.m_int (by decide +kernel) (pa_cons (pe_op op_add (pe_op op_add (pe_op op_mul (pe_ix ix_seq (pv 0) pe_int (fun _ _ => rfl)) pe_int) (pe_op op_mul (pe_ix ix_seq (pv 0) pe_int (fun _ _ => rfl)) pe_int)) (pe_op op_mul (pe_op op_fdivW (pe_ix ix_seq (pv 0) pe_int (fun _ _ => rfl)) pe_int) pe_int)) pa_nil)) pe_int) (pg_sub (pv 0) pe_int set_list))
    (pss_one
      (ps_ret (pe_op op_mod (pe_callTy call_int1 (by rfl) T.m_int (by decide +kernel) (pa_cons (pe_op op_fdivW (pe_ix ix_seq (pv 0) pe_int (fun _ _ => rfl)) pe_int) pa_nil)) (pv 1))))))), ?_⟩
    obtain ⟨c, m, rfl, h1, h2, ⟨x, y, d, hc, hd⟩, q⟩ := h
    refine ⟨.ref c, rfl, rix_of (.inl (.inl (.inl hc))) (at_of (j := 1) rfl rfl) ⟨_, _, rfl, rfl, .ref c, rfl, c, _, 1, 1, rfl, rfl, hc, rfl, ?_⟩⟩
    have e1 : ExB c H (upd H c (.lst [.int x, .int (y + 11), .int d])) := (ExB.refl c H).upd
    refine ⟨.ref c, rfl, rix_of (.inl (.inl (.inl upd_same))) (at_of (j := 2) rfl rfl) ⟨_, _, rfl, rfl, _, rfl, ite2 (fun e => ?_) (fun e => ?_)⟩⟩
    · refine ⟨.ref c, rfl, rix_of (.inl (.inl (.inl upd_same))) (at_of (j := 2) rfl rfl) (.inl ⟨_, rfl, _, rfl, d, m, rfl, ⟨h1, by omega⟩, fun t nt => ?_⟩)⟩
      have ct : c ≠ t := fun z => by
        rw [← z, upd_same] at nt
        cases nt
      refine ⟨t, [.int (d / m), .int (d % m)], rfl, .inl (.inl upd_same), rfl, .int (d / m), [.int (d % m)], rfl, .ref c, rfl, c, [.int x, .int (y + 11), .int d], 2, 2, rfl, rfl, by rw [upd_ne ct]; exact upd_same, rfl, .int (d % m), [], rfl, rfl, _, rfl, ?_⟩
      refine q (d % m) _ (Int.emod_nonneg _ (by omega)) (Int.emod_lt_of_pos _ h1) ((e1.new nt).upd) ⟨x, y + 11, d / m, upd_same, Int.ediv_nonneg hd (by omega)⟩
    · refine ⟨.ref c, rfl, rix_of (.inl (.inl (.inl upd_same))) (at_of (j := 0) rfl rfl) ⟨_, _, rfl, rfl, .inr ⟨by decide, by decide⟩, ?_⟩⟩
      refine ⟨.ref c, rfl, rix_of (.inl (.inl (.inl upd_same))) (at_of (j := 1) rfl rfl) ⟨_, _, rfl, rfl, .inr ⟨by decide, by decide⟩, _, _, rfl, rfl, ?_⟩⟩
      refine ⟨.ref c, rfl, rix_of (.inl (.inl (.inl upd_same))) (at_of (j := 0) rfl rfl) ⟨_, _, rfl, rfl, wide_div (b := 64) (by decide) (by decide) (by decide) (by decide), _, _, rfl, rfl, .inr ⟨by decide, by decide⟩, _, _, rfl, rfl, .inl ⟨_, rfl, _, _, rfl, rfl, bigm, ?_⟩⟩⟩
      refine ⟨.ref c, rfl, c, [.int x, .int (y + 11), .int d], 0, 0, rfl, rfl, upd_same, rfl, ?_⟩
      refine ⟨.ref c, rfl, rix_of (.inl (.inl (.inl upd_same))) (at_of (j := 0) rfl rfl) ⟨_, _, rfl, rfl, wide_div (b := 64) (by decide) (by decide) (by decide) (by decide), .inl ⟨_, rfl, _, rfl, _, _, rfl, rfl, h1, ?_⟩⟩⟩
      exact q _ _ (Int.emod_nonneg _ (by omega)) (Int.emod_lt_of_pos _ h1) e1.upd ⟨_, y + 11, d, upd_same, hd⟩
theorem ok_law_of (T : Txt K mg) (G_law_tap : FnOk P w K mg base CX0 1 T.d_law_tap.f T.d_law_tap.fd p_law_tap (sp_law_tap K)) : FnOk P w K mg base CX0 2 T.d_law_of.f T.d_law_of.fd p_law_of (sp_law_of K) := by
  have sc := sc_law_of
  refine T.d_law_of.F.ok sc (fun vs H Q E h => ?_) (fun cdv A outer s H vs Q E hr h => ?_)
  · first
    | (obtain ⟨_, rfl, _⟩ := h; rfl)
    | (obtain ⟨_, _, rfl, _⟩ := h; rfl)
    | (obtain ⟨_, _, _, rfl, _⟩ := h; rfl)
    | (obtain ⟨_, _, _, _, rfl, _⟩ := h; rfl)
  · refine ⟨_, PSs.nox (pss_one
      (ps_ret (pe_ix ix_seq (pv 1) (pe_d T.d_law_tap G_law_tap (hr.mono (by decide)) (by rfl) (pa_cons (pv 0) (pa_cons (pe_callB call_len_seq (by rfl) T.m_len (by decide +kernel) (pa_cons (pv 1) pa_nil)) pa_nil))) (fun _ _ => rfl)))), ?_⟩
    obtain ⟨c, b, ns, rfl, hc, hcb, hb, h1, h2, q⟩ := h
    refine ⟨.ref b, rfl, .ref c, rfl, .ref b, rfl, b, iVs ns, rfl, .inl (.inl (.inl hb)), c, _, rfl, by rw [iv_len]; omega, by rw [iv_len]; omega, hc, fun r H1 r0 r1 e1 k1 => ?_⟩
    rw [iv_len] at r1
    obtain ⟨z, hz⟩ : ∃ z, ns[r.toNat]? = some z := ⟨_, List.getElem?_eq_getElem (by omega)⟩
    exact rix_of (.inl (.inl (.inl (e1 b _ hcb.symm hb)))) (at_of (j := r.toNat) (by omega) (iv_get hz)) (q z H1 (List.mem_of_getElem? hz) e1 k1)
theorem ok_law_row (T : Txt K mg) (G_law_tap : FnOk P w K mg base CX0 1 T.d_law_tap.f T.d_law_tap.fd p_law_tap (sp_law_tap K)) : FnOk P w K mg base CX0 2 T.d_law_row.f T.d_law_row.fd p_law_row (sp_law_row K) := by
  have sc := sc_law_row
  refine T.d_law_row.F.ok sc (fun vs H Q E h => ?_) (fun cdv A outer s H vs Q E hr h => ?_)
  · first
    | (obtain ⟨_, rfl, _⟩ := h; rfl)
    | (obtain ⟨_, _, rfl, _⟩ := h; rfl)
    | (obtain ⟨_, _, _, rfl, _⟩ := h; rfl)
    | (obtain ⟨_, _, _, _, rfl, _⟩ := h; rfl)
  · refine ⟨_, PSs.nox (pss_cons
      (ps_setLc (i := 3) (own := [("_law_k", 4)]) (g := gName 4) rfl sc.nd rfl rfl (sw_true rfl rfl rfl (by decide +kernel)) (pi_range1 (by rfl) T.m_range (pa_cons (pe_op op_add pe_int (pe_d T.d_law_tap G_law_tap (hr.mono (by decide)) (by rfl) (pa_cons (pv 0) (pa_cons (pe_op op_add (pv 1) pe_int) pa_nil)))) pa_nil)) (blkOk_by (own := [("_law_k", 4)]) (N := N_law_row) (sc := defScope s_law_row) (by decide +kernel)) (fun _ _ _ _ _ => (pg_name (i := 4) sc.nd rfl (.inl rfl) (.inr rfl))) (fun _ _ _ _ _ => pts_nil) (fun _ _ _ _ _ => (pe_op op_sub (pe_d T.d_law_tap G_law_tap (hr.mono (by decide)) (by rfl) (pa_cons (pv 0) (pa_cons (pe_op op_add (pe_op op_mul pe_int (pv 2)) pe_int) pa_nil))) (pv 2))))
    (pss_cons
      (ps_while PassesOwn.never (PW.pt (pw_and (pt_cmpR op_gt (pe_callB call_len_seq (by rfl) T.m_len (by decide +kernel) (pa_cons (pv 3) pa_nil)) pe_int (nomark _)) (pw_and1 (pt_cmpR op_eq (pe_ix ix_seq (pv 3) (pe_un un_neg pe_int) (fun _ _ => rfl)) pe_int (nomark _)))))
        (pss_one
          (ps_expr (pe_bm0 PySem.F.plainAttrs_list PySem.F.slot_list_pop PySem.F.type_list_pop mt_pop (pv 3)))))
    (pss_one
      (ps_ret (pe_callTy call_tuple_of (by rfl) T.m_tuple (by decide +kernel) (pa_cons (pv 3) pa_nil)))))), ?_⟩
    obtain ⟨c, D, B, rfl, hD, b1, b2, hc, q⟩ := h
    refine ⟨.ref c, rfl, _, rfl, _, _, rfl, rfl, c, _, rfl, by omega, by omega, hc, fun r H1 r0 r1 e1 k1 => ⟨_, _, rfl, rfl, _, rfl, by omega, by omega, fun Dl nD => ?_⟩⟩
    have cD : c ≠ Dl := k1.ne nD
    have nDl : H Dl = none := by
      cases g : H Dl with
      | none => rfl
      | some o =>
        rw [e1 Dl o cD.symm g] at nD
        cases nD
    refine lc_range (lo := 0) (n := (1 + r).toNat) (fun i H2 => ExB c H H2 ∧ Cask H2 c ∧ ∃ l, H2 Dl = some (.lst (iVs l)) ∧ l.length = i ∧ ∀ t ∈ l, -B ≤ t ∧ t ≤ B) ⟨e1.new nD, k1.ex (Evl.Ex.new nD), [], upd_same, rfl, fun t h => absurd h List.not_mem_nil⟩ (fun i H2 hi p => ?_) (fun H2 p => ?_)
    · obtain ⟨e2, k2, l, hl, hn, hb⟩ := p
      refine ⟨rfl, ?_⟩
      refine ⟨.ref c, rfl, _, rfl, _, _, rfl, rfl, .inl ⟨by decide, by decide⟩, _, _, rfl, rfl, c, _, rfl, by omega, by omega, k2, fun z H3 z0 z1 e3 k3 => ?_⟩
      have hl3 := e3 Dl _ cD.symm hl
      refine ⟨_, rfl, _, _, rfl, rfl, _, hl3, ?_, ?_, ?_, l ++ [z - B], ?_, by simp [hn], fun t ht => ?_⟩
      · rw [iv_len]
        exact small1000 (by omega)
      · intro a o hne ho
        rw [upd_ne (ne_of_none ho nDl)]
        exact e3 a o hne (e2 a o hne ho)
      · obtain ⟨x, y, d, hx, hd⟩ := k3
        exact ⟨x, y, d, by rw [upd_ne cD]; exact hx, hd⟩
      · rw [upd_same]
        show _ = some (HO.lst (List.map V.int _))
        rw [List.map_append]
        rfl
      · rcases List.mem_append.mp ht with g | g
        · exact hb t g
        · rw [List.mem_singleton.mp g]
          omega
    · obtain ⟨e2, k2, l, hl, hn, hb⟩ := p
      refine ⟨fun m σ H3 => ∃ l y, m = l.length ∧ σ = [some (.ref c), some (.int (D : Nat)), some (.int B), some (.ref Dl), y] ∧ ExB c H H3 ∧ Cask H3 c ∧ H3 Dl = some (.lst (iVs l)) ∧ 1 ≤ l.length ∧ l.length ≤ D + 1 ∧ ∀ t ∈ l, -B ≤ t ∧ t ≤ B, ⟨_, l, none, rfl, rfl, e2, k2, hl, by omega, by omega, hb⟩, fun m σ H3 hW => ?_⟩
      obtain ⟨l, y, rfl, rfl, e3, k3, hl, n1, n2, hb⟩ := hW
      obtain ⟨t, ht⟩ : ∃ t, l[l.length - 1]? = some t := ⟨_, List.getElem?_eq_getElem (by omega)⟩
      have htV : (iVs l)[(iVs l).length - 1]? = some (.int t) := by rw [iv_len]; exact iv_get ht
      refine tand_by (b1 := decide ((1 : Int) < ((iVs l).length : Int))) (b2 := decide (V.int t = V.int 0)) (fun Q q => ⟨_, rfl, Dl, iVs l, rfl, .inl (.inl (.inl hl)), _, _, rfl, rfl, _, rfl, q⟩)
        (fun _ Q q => ⟨.ref Dl, rfl, 1, rfl, rix_of (.inl (.inl (.inl hl))) (at_last htV) ⟨rfl, _, rfl, q⟩⟩) (ite2 (fun e => ?_) (fun e => ?_))
      · rw [Bool.and_eq_true, decide_eq_true_eq, decide_eq_true_eq, iv_len] at e
        refine ⟨fun σ' H' => σ' = [some (.ref c), some (.int (D : Nat)), some (.int B), some (.ref Dl), y] ∧ H' = upd H3 Dl (.lst (iVs l).dropLast), fun σ' H' hN => ⟨l.dropLast.length, by rw [List.length_dropLast]; omega, l.dropLast, y, rfl, hN.1, ?_, ?_, ?_, by rw [List.length_dropLast]; omega, by rw [List.length_dropLast]; omega, fun u hu => hb u ((List.dropLast_sublist l).subset hu)⟩, ?_⟩
        · rw [hN.2]
          intro a o hne ho
          rw [upd_ne (ne_of_none ho nDl)]
          exact e3 a o hne ho
        · rw [hN.2]
          obtain ⟨x, z, d, hx, hd⟩ := k3
          exact ⟨x, z, d, by rw [upd_ne cD]; exact hx, hd⟩
        · rw [hN.2, upd_same]
          exact congrArg (fun z => some (HO.lst z)) List.map_dropLast.symm
        · exact ⟨.ref Dl, rfl, .inl ⟨rfl, _, .inl (.inl hl)⟩, Dl, iVs l, .int t, rfl, rfl, hl, htV, rfl, rfl⟩
      · refine ⟨_, rfl, Dl, iVs l, rfl, .inl ⟨.inl (.inl hl), fun r nr => ?_⟩⟩
        refine q l _ r ⟨n1, n2, hb, ?_⟩ (e3.new nr) (k3.ex (Evl.Ex.new nr)) upd_same
        by_cases z : l.length = 1
        · exact .inl z
        · right
          intro z2
          rw [ht] at z2
          have := Option.some.inj z2
          exact e (by rw [Bool.and_eq_true, decide_eq_true_eq, decide_eq_true_eq, iv_len]; exact ⟨by omega, by rw [this]⟩)
theorem ok_law_cask (T : Txt K mg)  : FnOk P w K mg base CX0 1 T.d_law_cask.f T.d_law_cask.fd p_law_cask (sp_law_cask K) := by
  have sc := sc_law_cask
  refine T.d_law_cask.F.ok sc (fun vs H Q E h => ?_) (fun cdv A outer s H vs Q E hr h => ?_)
  · first
    | (obtain ⟨_, rfl, _⟩ := h; rfl)
    | (obtain ⟨_, _, rfl, _⟩ := h; rfl)
    | (obtain ⟨_, _, _, rfl, _⟩ := h; rfl)
    | (obtain ⟨_, _, _, _, rfl, _⟩ := h; rfl)
  · refine ⟨_, PSs.nox (Evl.pss_cut
      (ps_set (i := 2) sc.nd rfl (.inl rfl) (pe_ifExp (pt_cmpR op_lt (pv 1) (pe_callB call_len_seq (by rfl) T.m_len (by decide +kernel) (pa_cons (pv 0) pa_nil)) (nomark _)) (pe_callTy call_int1 (by rfl) T.m_int (by decide +kernel) (pa_cons (pe_ix ix_seq (pv 0) (pv 1) (fun _ _ => rfl)) pa_nil)) (pe_op op_add (pe_op op_mul pe_int (pv 1)) pe_int)))
    (pss_cons
      (ps_set (i := 3) sc.nd rfl (.inl rfl) (pe_op op_add pe_int (pe_op op_mul pe_int (pv 1))))
    (pss_cons
      (ps_for PassesOwn.never rfl (pi_list (pe_slice sl_list (pv 0) po_none (po_some pe_int))) (pg_name (i := 4) sc.nd rfl (.inl rfl))
        (pss_one
          (ps_set (i := 3) sc.nd rfl (.inl rfl) (pe_op op_mod (pe_callTy call_int1 (by rfl) T.m_int (by decide +kernel) (pa_cons (pe_op op_add (pe_op op_mul (pv 3) pe_int) (pe_op op_mod (pe_callTy call_int1 (by rfl) T.m_int (by decide +kernel) (pa_cons (pv 4) pa_nil)) pe_int)) pa_nil)) pe_int))))
    (pss_one
      (ps_ret (pe_lst (pa_cons (pe_op op_mod (pe_callTy call_int1 (by rfl) T.m_int (by decide +kernel) (pa_cons (pe_op op_add (pe_op op_mul (pv 3) pe_int) (pe_op op_mod (pv 2) pe_int)) pa_nil)) pe_int) (pa_cons pe_int (pa_cons (pe_ifExp (PW.pt (pw_or (pt_cmpR op_lt (pv 2) pe_int (nomark _)) (pw_or1 (pt_cmpR op_ge (pv 2) (pe_op op_pow pe_int pe_int) (nomark _))))) (pe_callB call_abs (by rfl) T.m_abs (by decide +kernel) (pa_cons (pv 2) pa_nil)) pe_int) pa_nil))))))))), ?_⟩
    obtain ⟨a, ns, k, rfl, hS, hn, k0, k1, q⟩ := h
    refine ⟨fun σ' H' => ∃ o : Int, σ' = [some (.ref a), some (.int k), some (.int o), none, none] ∧ H' = H, ?_, fun σ' H' hM => ?_⟩
    · refine ⟨_, rfl, .ref a, rfl, a, iVs ns, rfl, .inl hS, _, _, rfl, rfl, _, rfl, ite2 (fun e => ?_) (fun e => ?_)⟩
      · have hk : k < ns.length := by
          have := of_decide_eq_true e
          rw [iv_len] at this
          exact this
        obtain ⟨z, hz⟩ : ∃ z, ns[k.toNat]? = some z := ⟨_, List.getElem?_eq_getElem (by omega)⟩
        exact ⟨.ref a, rfl, _, rfl, rix_of (.inl hS) (at_of (j := k.toNat) (by omega) (iv_get hz)) (.inl ⟨_, rfl, z, rfl, rfl⟩)⟩
      · exact ⟨_, rfl, _, _, rfl, rfl, .inl ⟨by decide, by decide⟩, _, _, rfl, rfl, _, rfl, rfl⟩
    obtain ⟨o, rfl, rfl⟩ := hM
    refine ⟨_, rfl, _, _, rfl, rfl, .inl ⟨by decide, by decide⟩, _, _, rfl, rfl, ?_⟩
    refine ⟨.ref a, rfl, 10, rfl, a, iVs ns, rfl, hS, fun p np => ?_⟩
    have eC : cutV (iVs ns) none (some 10) = iVs (ns.take 10) := by
      rw [show (10 : Int) = ((10 : Nat) : Int) from rfl, cut_to]
      exact List.map_take.symm
    rw [eC]
    have ex1 : Evl.Ex H' (upd H' p (.lst (iVs (ns.take 10)))) := Evl.Ex.new np
    refine ⟨p, rfl, ⟨_, .inl (.inl upd_same)⟩, for_list (xs := iVs (ns.take 10)) (fun i σ H1 => (∃ (st : Int) (y : Option V), σ = [some (.ref a), some (.int k), some (.int o), some (.int st), y]) ∧ H1 = upd H' p (.lst (iVs (ns.take 10)))) ⟨⟨_, none, rfl⟩, rfl⟩ (fun i σ H1 _ p1 => by rw [p1.2]; exact .inl (.inl upd_same)) (fun i x σ H1 hx p1 => ?_) (fun σ H1 p1 => ?_)⟩
    · obtain ⟨⟨st, y, rfl⟩, rfl⟩ := p1
      obtain ⟨u, hu, rfl⟩ := iv_at hx
      exact ⟨_, rfl, _, _, rfl, rfl, .inr ⟨by decide, by decide⟩, _, rfl, .inl ⟨_, rfl, _, _, rfl, rfl, bigm, _, _, rfl, rfl, .inl ⟨_, rfl, _, _, rfl, rfl, bigm, ⟨_, _, rfl⟩, rfl⟩⟩⟩
    · obtain ⟨⟨st, y, rfl⟩, rfl⟩ := p1
      have fin : ∀ (z d : Int), 0 ≤ d → ([.int z, .int 17, .int d] : List V).length ≤ sizeLine ∧ ∀ r, (upd H' p (.lst (iVs (ns.take 10)))) r = none → Q (.ref r) (upd (upd H' p (.lst (iVs (ns.take 10)))) r (.lst [.int z, .int 17, .int d])) := fun z d hd =>
        ⟨by show 3 ≤ sizeLine; decide, fun r nr => q _ r (ex1.trans (Evl.Ex.new nr)) (Evl.fresh_back ex1 nr) ⟨z, 17, d, upd_same, hd⟩⟩
      refine ⟨_, rfl, _, _, rfl, rfl, .inr ⟨by decide, by decide⟩, _, rfl, _, _, rfl, rfl, bigm, _, _, rfl, rfl, .inl ⟨_, rfl, _, _, rfl, rfl, bigm, ?_⟩⟩
      refine ⟨_, rfl, _, _, rfl, rfl, _, rfl, ite2 (fun e => ?_) (fun e => ?_)⟩
      · exact ⟨_, rfl, _, rfl, fin _ _ (by split <;> omega)⟩
      · refine ⟨_, rfl, _, _, rfl, rfl, ⟨by decide, by decide, by decide⟩, _, _, rfl, rfl, _, rfl, ite2 (fun e2 => ?_) (fun e2 => ?_)⟩
        · exact ⟨_, rfl, _, rfl, fin _ _ (by split <;> omega)⟩
        · exact fin _ _ (by omega)
end
end Rw35
/-! The walks: the law. -/
namespace Rw35
open PySem PySem.Spec PyProof.Rows L2
theorem kb_turns {K : PySem.W.Frag} {mg : Str → Option Value} (D : Df K mg "turns" s_turns p_turns) : KBn K D.fd p_turns 0 ["base", "terms"] (fun _ ws => ws.reverse) (fun _ zs => zs.reverse) := by
  obtain ⟨oc, od, dV, kV, doc, pm, an, cdv, ct, osl, e, lk, hcd, hD, hK⟩ := D.F.ex
  rcases hD with ⟨_, rfl⟩ | ⟨z, _⟩
  · rw [e]
    refine ⟨fun s us ws _ l1 l2 => ?_, fun _ r => r.reverse⟩
    match us, l1, ws, l2 with
    | [], _, [x, y], _ => exact .of_eq rfl
  · exact absurd rfl z
/-! ### what stands through the law's turn -/
def RI (K : PySem.W.Frag) (c p1 p2 : Addr) (t1 t2 : List Int) (H H' : Hp) : Prop := ExB c H H' ∧ Cask H' c ∧ SqT K H' p1 (iVs t1) ∧ SqT K H' p2 (iVs t2)
theorem RI.ex {K : PySem.W.Frag} {c p1 p2 : Addr} {t1 t2 : List Int} {H H1 H2 : Hp} (r : RI K c p1 p2 t1 t2 H H1) (e : Evl.Ex H1 H2) : RI K c p1 p2 t1 t2 H H2 := ⟨r.1.trans (ExB.of e), r.2.1.ex e, Evl.ex_t e r.2.2.1, Evl.ex_t e r.2.2.2⟩
theorem RI.exb {K : PySem.W.Frag} {c p1 p2 : Addr} {t1 t2 : List Int} {H H1 H2 : Hp} (r : RI K c p1 p2 t1 t2 H H1) (e : ExB c H1 H2) (k : Cask H2 c) : RI K c p1 p2 t1 t2 H H2 := ⟨r.1.trans e, k, sqt_exb r.2.2.1 r.2.1 e, sqt_exb r.2.2.2 r.2.1 e⟩
theorem small_pow {p : Int} (hp : Pr p) (h : p ≤ 1000) (k : Nat) : Small (p ^ k) := fun l hf hl q hq => by
  have h1 := prime_dvd_prod hf hq
  rw [hl] at h1
  have h2 := hp.eq (hf.1 q hq).1 ((hf.1 q hq).1.pow k h1)
  omega
theorem pr_of {z : Int} (h : z = 2 ∨ z = 3 ∨ z = 5 ∨ z = 7) : Pr z ∧ (1 ≤ z * z ∧ z * z ≤ 49) ∧ (1 ≤ z * z * z ∧ z * z * z ≤ 343) ∧ 1 ≤ z * z * (z * z) * (z * z) ∧ z * z * (z * z) * (z * z) ≤ 117649 := by
  refine ⟨?_, ?_⟩
  · have hz2 : 2 ≤ z ∧ z ≤ 7 := by omega
    refine ⟨hz2.1, fun d h1 h2 => ?_⟩
    have h3 := Int.le_of_dvd (by omega) h2
    have h4 := Int.emod_eq_zero_of_dvd h2
    have hd : d = 2 ∨ d = 3 ∨ d = 4 ∨ d = 5 ∨ d = 6 ∨ d = 7 := by omega
    rcases hd with rfl | rfl | rfl | rfl | rfl | rfl <;> omega
  · rcases h with rfl | rfl | rfl | rfl <;> decide
theorem pw2 (z : Int) : z * z = z ^ 2 := by rw [Int.pow_succ, Int.pow_succ, Int.pow_zero, Int.one_mul]
theorem pw3 (z : Int) : z * z * z = z ^ 3 := by rw [pw2, ← Int.pow_succ]
theorem pw6 (z : Int) : z * z * (z * z) * (z * z) = z ^ 6 := by rw [pw2 z, ← Int.pow_add, ← Int.pow_add]
theorem small_of' {n : Int} (h1 : 1 ≤ n) (h2 : n ≤ 1000) : Small n := fun l hf hp q hq => by
  have := Int.le_of_dvd (by omega) (hp ▸ prime_dvd_prod hf hq)
  omega
theorem shp3 : ∀ x y z : Bool, SeqAt.shaped (.list [.bool x, .bool y, .bool z]) = true := by decide
theorem eqv3 : ∀ x : Bool, PyData.eqv (.list [.bool x, .bool x, .bool x]) (.list [.bool x, .bool x, .bool x]) = true := by decide
section
variable {P : Program} {w : World} {K : PySem.W.Frag} {mg : Str → Option Value} {base : Heap}
theorem ok_law_right (T : Txt K mg) (G_law_gcd : FnOk P w K mg base CX0 1 T.d_law_gcd.f T.d_law_gcd.fd p_law_gcd (sp_law_gcd K)) (G_law_is_turn : FnOk P w K mg base CX0 3 T.d_law_is_turn.f T.d_law_is_turn.fd p_law_is_turn (sp_law_is_turn K)) (G_law_of : FnOk P w K mg base CX0 2 T.d_law_of.f T.d_law_of.fd p_law_of (sp_law_of K)) (G_law_pieces_right : FnOk P w K mg base CX0 6 T.d_law_pieces_right.f T.d_law_pieces_right.fd p_law_pieces_right (sp_law_pieces_right K)) (G_law_row : FnOk P w K mg base CX0 2 T.d_law_row.f T.d_law_row.fd p_law_row (sp_law_row K)) (G_law_tap : FnOk P w K mg base CX0 1 T.d_law_tap.f T.d_law_tap.fd p_law_tap (sp_law_tap K)) (G_led : FnOk P w K mg base CX0 6 T.d_led.f T.d_led.fd p_led (sp_led K)) (G_turns : FnOk P w K mg base CX0 5 T.d_turns.f T.d_turns.fd p_turns (sp_turns K)) : FnOk P w K mg base CX0 7 T.d_law_right.f T.d_law_right.fd p_law_right (sp_law_right K) := by
  have sc := sc_law_right
  refine T.d_law_right.F.ok sc (fun vs H Q E h => ?_) (fun cdv A outer s H vs Q E hr h => ?_)
  · first
    | (obtain ⟨_, rfl, _⟩ := h; rfl)
    | (obtain ⟨_, _, rfl, _⟩ := h; rfl)
    | (obtain ⟨_, _, _, rfl, _⟩ := h; rfl)
    | (obtain ⟨_, _, _, _, rfl, _⟩ := h; rfl)
  · refine ⟨_, PSs.nox (pss_cons
      (ps_par (i := 1) (j := 2) (by rfl) sc.nd rfl rfl (by decide) rfl rfl (pa_cons (pe_d T.d_law_row G_law_row (hr.mono (by decide)) (by rfl) (pa_cons (pv 0) (pa_cons pe_int (pa_cons pe_int pa_nil)))) (pa_cons (pe_d T.d_law_row G_law_row (hr.mono (by decide)) (by rfl) (pa_cons (pv 0) (pa_cons pe_int (pa_cons pe_int pa_nil)))) pa_nil)) (by rfl))
    (pss_cons
      (ps_for PassesOwn.never rfl (pi_range1 (by rfl) T.m_range (pa_cons pe_int pa_nil)) (pg_name (i := 3) sc.nd rfl (.inl rfl))
        (pss_cons
          (ps_set (i := 4) sc.nd rfl (.inl rfl) (pe_op op_add pe_int (pe_d T.d_law_tap G_law_tap (hr.mono (by decide)) (by rfl) (pa_cons (pv 0) (pa_cons pe_int pa_nil)))))
        (pss_cons
          (ps_if (PW.pt (pw_or (pt_cmpR op_ne (pe_d T.d_turns G_turns (hr.mono (by decide)) (by rfl) (pa_cons (pv 1) (pa_cons (pv 4) pa_nil))) (pe_d T.d_law_is_turn G_law_is_turn (hr.mono (by decide)) (by rfl) (pa_cons (pv 1) (pa_cons (pv 4) pa_nil))) (nomark _)) (pw_or1 (pt_cmpR op_ne (pe_dk T.d_turns G_turns (hr.mono (by decide)) (by rfl) (kb_turns T.d_turns) (pk_cons (pv 4) (pk_cons (pv 1) pk_nil))) (pe_d T.d_law_is_turn G_law_is_turn (hr.mono (by decide)) (by rfl) (pa_cons (pv 1) (pa_cons (pv 4) pa_nil))) (nomark _)))))
            (pss_one
              (ps_ret pe_bl))
            pss_nil)
        (pss_cons
          (ps_if (pt_not (pt_val (pe_d T.d_law_pieces_right G_law_pieces_right (hr.mono (by decide)) (by rfl) (pa_cons (pv 1) (pa_cons (pv 4) pa_nil)))))
            (pss_one
              (ps_ret pe_bl))
            pss_nil)
        (pss_one
          (ps_if (PW.pt (pw_and (pt_val (pe_d T.d_turns G_turns (hr.mono (by decide)) (by rfl) (pa_cons (pv 1) (pa_cons (pv 4) pa_nil)))) (pw_and (pt_val (pe_d T.d_turns G_turns (hr.mono (by decide)) (by rfl) (pa_cons (pv 2) (pa_cons (pv 4) pa_nil)))) (pw_and1 (pt_not (pt_val (pe_d T.d_turns G_turns (hr.mono (by decide)) (by rfl) (pa_cons (pe_d T.d_led G_led (hr.mono (by decide)) (by rfl) (pa_cons (pv 1) (pa_cons (pv 2) pa_nil))) (pa_cons (pv 4) pa_nil)))))))))
            (pss_one
              (ps_ret pe_bl))
            pss_nil))))))
    (pss_cons
      (ps_set (i := 5) sc.nd rfl (.inl rfl) (pe_d T.d_law_of G_law_of (hr.mono (by decide)) (by rfl) (pa_cons (pv 0) (pa_cons (pe_lst (pa_cons pe_int (pa_cons pe_int (pa_cons pe_int (pa_cons pe_int pa_nil))))) pa_nil))))
    (pss_cons
      (ps_set (i := 6) sc.nd rfl (.inl rfl) (pe_op op_mul (pv 5) (pv 5)))
    (pss_cons
      (ps_set (i := 7) sc.nd rfl (.inl rfl) (pe_lst (pa_cons (pe_d T.d_turns G_turns (hr.mono (by decide)) (by rfl) (pa_cons (pv 1) (pa_cons (pv 6) pa_nil))) (pa_cons (pe_d T.d_turns G_turns (hr.mono (by decide)) (by rfl) (pa_cons (pv 1) (pa_cons (pe_op op_mul (pv 6) (pv 5)) pa_nil))) (pa_cons (pe_d T.d_turns G_turns (hr.mono (by decide)) (by rfl) (pa_cons (pv 1) (pa_cons (pe_op op_mul (pe_op op_mul (pv 6) (pv 6)) (pv 6)) pa_nil))) pa_nil)))))
    (Evl.pss_cut
      (ps_if (PW.pt (pw_or (pt_cmpR (op_neD hr.units) (pv 7) (pe_op op_rep (pe_lst (pa_cons (pe_d T.d_law_is_turn G_law_is_turn (hr.mono (by decide)) (by rfl) (pa_cons (pv 1) (pa_cons (pv 6) pa_nil))) pa_nil)) pe_int) (nomark _)) (pw_or1 (PW.pt (pw_and (pt_val (pe_ix ix_seq (pv 7) pe_int (fun _ _ => rfl))) (pw_and1 (pt_not (pt_val (pe_d T.d_turns G_turns (hr.mono (by decide)) (by rfl) (pa_cons (pv 1) (pa_cons (pv 5) pa_nil)))))))))))
        (pss_one
          (ps_ret pe_bl))
        pss_nil)
    (pss_cons
      (ps_par (i := 8) (j := 4) (by rfl) sc.nd rfl rfl (by decide) rfl rfl (pa_cons (pe_op op_sub (pe_d T.d_law_tap G_law_tap (hr.mono (by decide)) (by rfl) (pa_cons (pv 0) (pa_cons pe_int pa_nil))) pe_int) (pa_cons (pe_op op_add pe_int (pe_d T.d_law_tap G_law_tap (hr.mono (by decide)) (by rfl) (pa_cons (pv 0) (pa_cons pe_int pa_nil)))) pa_nil)) (by rfl))
    (pss_cons
      (ps_set (i := 9) sc.nd rfl (.inl rfl) (pe_ifExp (pt_cmpR op_ne (pv 8) pe_int (nomark _)) (pe_tup (pa_cons (pe_d T.d_law_tap G_law_tap (hr.mono (by decide)) (by rfl) (pa_cons (pv 0) (pa_cons pe_int pa_nil))) (pa_cons (pv 8) pa_nil))) (pe_tup (pa_cons pe_int pa_nil))))
    (pss_one
      (ps_ret (pe_cmpR op_eq (pe_d T.d_turns G_turns (hr.mono (by decide)) (by rfl) (pa_cons (pv 9) (pa_cons (pv 4) pa_nil))) (pe_cmpR op_eq (pe_d T.d_law_gcd G_law_gcd (hr.mono (by decide)) (by rfl) (pa_cons (pv 8) (pa_cons (pv 4) pa_nil))) pe_int (nomark _)) (nomark _)))))))))))), ?_⟩
    obtain ⟨c, rfl, hc, q⟩ := h
    refine ⟨.ref c, rfl, c, 4, 12, rfl, by decide, by decide, by decide, hc, fun t1 H1 p1 s1 e1 k1 g1 => ⟨.ref c, rfl, c, 2, 6, rfl, by decide, by decide, by decide, k1, fun t2 H2 p2 s2 e2 k2 g2 => ⟨_, _, rfl, ?_⟩⟩⟩
    have r2 : RI K c p1 p2 t1 t2 H H2 := ⟨e1.trans e2, k2, sqt_exb (.inl (.inl g1)) k1 e2, .inl (.inl g2)⟩
    have S1 : Su 13 1000000000000 t1 := s1.mono (by omega) (by omega)
    have S2 : Su 13 1000000000000 t2 := s2.mono (by omega) (by omega)
    refine ⟨4, rfl, by decide, by decide, for_range (lo := 0) (n := 4) (fun i σ H3 => (∃ y3 y4, σ = [some (.ref c), some (.ref p1), some (.ref p2), y3, y4, none, none, none, none, none]) ∧ RI K c p1 p2 t1 t2 H H3) ⟨⟨none, none, rfl⟩, r2⟩ (fun i σ H3 hi p => ?_) (fun σ H3 p => ?_)⟩
    · obtain ⟨⟨y3, y4, rfl⟩, r3⟩ := p
      refine ⟨.ref c, rfl, c, 40, rfl, by decide, by decide, r3.2.1, fun z H4 z0 z1 e4 k4 => ⟨_, _, rfl, rfl, ?_⟩⟩
      have r4 := r3.exb e4 k4
      have n1 : 1 ≤ 1 + z := by omega
      have n2 : 1 + z ≤ 1000 := by omega
      have n3 : 1 + z ≤ 1000000000000 := by omega
      have n4 : 0 < 1 + z := by omega
      have hsm := small_of' n1 n2
      -- if turns(row, base) != is_turn(row, base) or turns(base=base, terms=row) != is_turn(row, base)
      refine ⟨.ref p1, rfl, _, rfl, p1, t1, 1 + z, rfl, r4.2.2.1, S1, n1, n3, hsm, fun b1 H5 hb1 e5 => ?_⟩
      have r5 := r4.ex e5
      refine ⟨.ref p1, rfl, _, rfl, p1, t1, 1 + z, rfl, r5.2.2.1, n4, n2, fun b2 H6 hb2 e6 => ?_⟩
      have r6 := r5.ex e6
      refine ⟨rfl, false, bl_fn (congrArg V.bl (Bool.eq_iff_iff.mpr (hb1.trans hb2.symm))), iteF ?_⟩
      refine ⟨_, rfl, .ref p1, rfl, rfl, p1, t1, 1 + z, rfl, r6.2.2.1, S1, n1, n3, hsm, fun b3 H7 hb3 e7 => ?_⟩
      have r7 := r6.ex e7
      refine ⟨.ref p1, rfl, _, rfl, p1, t1, 1 + z, rfl, r7.2.2.1, n4, n2, fun b4 H8 hb4 e8 => ?_⟩
      have r8 := r7.ex e8
      refine ⟨rfl, false, bl_fn (congrArg V.bl (Bool.eq_iff_iff.mpr (hb3.trans hb4.symm))), iteF ?_⟩
      -- if not pieces_right(row, base)
      refine ⟨.ref p1, rfl, _, rfl, p1, t1, 1 + z, rfl, r8.2.2.1, S1, n1, n2, fun H9 e9 => ⟨true, rfl, iteF ?_⟩⟩
      have r9 := r8.ex e9
      -- if turns(row, base) and turns(other, base) and not turns(led(row, other), base)
      refine ⟨.ref p1, rfl, _, rfl, p1, t1, 1 + z, rfl, r9.2.2.1, S1, n1, n3, hsm, fun b5 H10 hb5 e10 => ⟨b5, rfl, ?_⟩⟩
      have r10 := r9.ex e10
      refine ite2 (fun f1 => ?_) (fun f1 => ?_)
      · refine ⟨.ref p2, rfl, _, rfl, p2, t2, 1 + z, rfl, r10.2.2.2, S2, n1, n3, hsm, fun b6 H11 hb6 e11 => ⟨b6, rfl, ?_⟩⟩
        have r11 := r10.ex e11
        refine ite2 (fun f2 => ?_) (fun f2 => ?_)
        · refine ⟨.ref p1, rfl, .ref p2, rfl, p1, p2, t1, t2, rfl, r11.2.2.1, r11.2.2.2, s1, s2, fun t3 H12 p3 s3 v3 e12 g3 => ?_⟩
          have r12 := r11.ex e12
          refine ⟨_, rfl, p3, t3, 1 + z, rfl, g3, s3.mono (by omega) (by omega), n1, n3, hsm, fun b7 H13 hb7 e13 => ⟨b7, rfl, ?_⟩⟩
          have f3 : b7 = true := hb7.mpr (tn_led v3 (hb5.mp f1) (hb6.mp f2))
          subst f3
          exact iteF ⟨⟨_, _, rfl⟩, r12.ex e13⟩
        · exact iteF ⟨⟨_, _, rfl⟩, r11⟩
      · exact iteF ⟨⟨_, _, rfl⟩, r10⟩
    · obtain ⟨⟨y3, y4, rfl⟩, r3⟩ := p
      -- prime = of(cask, [2, 3, 5, 7]), whole, told
      refine ⟨.ref c, rfl, by show 4 ≤ sizeLine; decide, fun b nb => ?_⟩
      have r4 := r3.ex (Evl.Ex.new (o := .lst [.int 2, .int 3, .int 5, .int 7]) nb)
      refine ⟨c, b, [2, 3, 5, 7], rfl, r4.2.1, ?_, upd_same, by decide, by decide, fun z H4 hz e4 k4 => ?_⟩
      · obtain ⟨x, y, d, e, _⟩ := r3.2.1
        exact ne_of_none e nb
      have r5 := r4.exb e4 k4
      have hz' : z = 2 ∨ z = 3 ∨ z = 5 ∨ z = 7 := by simpa using hz
      obtain ⟨pz, ⟨z1, z2⟩, ⟨z3, z4⟩, z5, z6⟩ := pr_of hz'
      have zz1 : 2 ≤ z := by omega
      have zz2 : z ≤ 7 := by omega
      have t2e : Tn t1 (z * z) ↔ Tn t1 (z ^ 2) := by rw [pw2]
      have t3e : Tn t1 (z * z * z) ↔ Tn t1 (z ^ 2) := by rw [pw3]; exact tn_pow pz (by decide) (by decide)
      have t6e : Tn t1 (z * z * (z * z) * (z * z)) ↔ Tn t1 (z ^ 2) := by rw [pw6]; exact tn_pow pz (by decide) (by decide)
      have t1e : Tn t1 (z ^ 2) → Tn t1 z := fun g => ((tn_by pz (by decide)).mp g).1
      have m2 : Small (z * z) := by rw [pw2]; exact small_pow pz (by omega) 2
      have m3 : Small (z * z * z) := by rw [pw3]; exact small_pow pz (by omega) 3
      have m6 : Small (z * z * (z * z) * (z * z)) := by rw [pw6]; exact small_pow pz (by omega) 6
      refine ⟨_, rfl, _, rfl, _, _, rfl, rfl, .inl ⟨by omega, by omega⟩, ?_⟩
      refine ⟨.ref p1, rfl, _, rfl, p1, t1, z * z, rfl, r5.2.2.1, S1, z1, by omega, m2, fun b1 H5 hb1 e5 => ?_⟩
      have r6 := r5.ex e5
      refine ⟨.ref p1, rfl, _, rfl, _, rfl, _, _, rfl, rfl, .inl ⟨by omega, by omega⟩, p1, t1, z * z * z, rfl, r6.2.2.1, S1, z3, by omega, m3, fun b2 H6 hb2 e6 => ?_⟩
      have r7 := r6.ex e6
      refine ⟨.ref p1, rfl, _, rfl, _, rfl, _, _, rfl, rfl, .inl ⟨by omega, by omega⟩, _, rfl, _, _, rfl, rfl, .inr ⟨by omega, by omega⟩, p1, t1, z * z * (z * z) * (z * z), rfl, r7.2.2.1, S1, z5, by omega, m6, fun b3 H7 hb3 e7 => ?_⟩
      have r8 := r7.ex e7
      have q1 : b1 = true ↔ Tn t1 (z ^ 2) := hb1.trans t2e
      have q2 : b2 = b1 := Bool.eq_iff_iff.mpr ((hb2.trans t3e).trans q1.symm)
      have q3 : b3 = b1 := Bool.eq_iff_iff.mpr ((hb3.trans t6e).trans q1.symm)
      subst q2
      subst q3
      refine ⟨by show 3 ≤ sizeLine; decide, fun Dt nt => ?_⟩
      have r9 := r8.ex (Evl.Ex.new (o := .lst [.bl b3, .bl b3, .bl b3]) nt)
      -- if told != [is_turn(row, whole)] * 3 or told[0] and not turns(row, prime)
      refine ⟨fun σ' H' => σ' = [some (.ref c), some (.ref p1), some (.ref p2), y3, y4, some (.int z), some (.int (z * z)), some (.ref Dt), none, none] ∧ RI K c p1 p2 t1 t2 H H', ?_, fun σ' H' hM => ?_⟩
      · refine ⟨.ref Dt, rfl, .ref p1, rfl, _, rfl, p1, t1, z * z, rfl, r9.2.2.1, by omega, by omega, fun b4 H9 hb4 e9 => ?_⟩
        have r10 := r9.ex e9
        have q4 : b4 = b3 := Bool.eq_iff_iff.mpr ((hb4.trans t2e).trans q1.symm)
        subst q4
        have hD : H9 Dt = some (.lst [.bl b4, .bl b4, .bl b4]) := e9 Dt _ upd_same
        refine ⟨by show 1 ≤ sizeLine; decide, fun l nl => ⟨l, 3, [.bl b4], rfl, rfl, upd_same, by decide, by decide, by show 3 ≤ sizeLine; decide, fun r nr => ?_⟩⟩
        have ex2 := (Evl.Ex.new (o := .lst [.bl b4]) nl).trans (Evl.Ex.new (o := .lst (List.replicate (3 : Int).toNat [V.bl b4]).flatten) nr)
        have r11 := r10.ex ex2
        have hD2 := ex2 Dt _ hD
        refine ⟨.list [.bool b4, .bool b4, .bool b4], .list [.bool b4, .bool b4, .bool b4], .lst (.inl (.inl hD2)) (.cons (.bl b4) (.cons (.bl b4) (.cons (.bl b4) .nil))), .lst (.inl (.inl upd_same)) (.cons (.bl b4) (.cons (.bl b4) (.cons (.bl b4) .nil))), shp3 _ _ _, shp3 _ _ _, false, by rw [eqv3]; rfl, iteF ?_⟩
        refine ⟨.ref Dt, rfl, rix_of (.inl (.inl (.inl hD2))) (at_of (j := 0) rfl rfl) ⟨b4, rfl, ite2 (fun f1 => ?_) (fun f1 => ?_)⟩⟩
        · refine ⟨.ref p1, rfl, _, rfl, p1, t1, z, rfl, r11.2.2.1, S1, by omega, by omega, small_of' (by omega) (by omega), fun b5 H10 hb5 e10 => ⟨b5, rfl, ?_⟩⟩
          have f2 : b5 = true := hb5.mpr (t1e (q1.mp f1))
          subst f2
          exact iteF ⟨rfl, r11.ex e10⟩
        · exact iteF ⟨rfl, r11⟩
      obtain ⟨rfl, r10⟩ := hM
      -- the line
      refine ⟨.ref c, rfl, c, 90, rfl, by decide, by decide, r10.2.1, fun s Ha a0 a1 ea ka => ⟨_, _, rfl, rfl, ?_⟩⟩
      have r11 := r10.exb ea ka
      refine ⟨.ref c, rfl, c, 999, rfl, by decide, by decide, r11.2.1, fun n Hb c0 c1 eb kb => ⟨_, _, rfl, rfl, _, _, rfl, ?_⟩⟩
      have r12 := r11.exb eb kb
      have n1 : 1 ≤ 1 + n := by omega
      have n2 : 1 + n ≤ 1000 := by omega
      have n3 : 1 + n ≤ 1000000000000 := by omega
      have n4 : 0 < 1 + n := by omega
      have hsm := small_of' n1 n2
      have s0 : -45 ≤ s - 45 := by omega
      have s1' : s - 45 ≤ 45 := by omega
      refine ⟨_, rfl, rfl, _, rfl, ite2 (fun f => ?_) (fun f => ?_)⟩
      · have hs : s - 45 ≠ 0 := fun g => by
          have f' : (!decide (V.int (s - 45) = V.int 0)) = true := f
          rw [g] at f'
          exact absurd f' (by decide)
        refine ⟨.ref c, rfl, c, 50, rfl, by decide, by decide, r12.2.1, fun r Hc d0 d1 ec kc => ⟨_, rfl, by show 2 ≤ sizeLine; decide, fun pl nl => ?_⟩⟩
        have r13 := (r12.exb ec kc).ex (Evl.Ex.new (o := .tup [.int r, .int (s - 45)]) nl)
        have hSu : Su 13 1000000000000 [r, s - 45] := ⟨by show 1 ≤ 2; decide, by show 2 ≤ 13; decide, fun t ht => by
          rcases List.mem_cons.mp ht with g | g
          · rw [g]; omega
          · rw [List.mem_singleton.mp g]; omega, .inr fun g => hs (Option.some.inj g)⟩
        refine ⟨_, rfl, _, rfl, pl, [r, s - 45], 1 + n, rfl, .inl (.inl upd_same), hSu, n1, n3, hsm, fun b5 Hd hb5 ed => ⟨_, rfl, _, rfl, s - 45, 1 + n, rfl, rfl, rfl, ?_⟩⟩
        refine q_t (Q := Q) (congrArg V.bl (Bool.eq_iff_iff.mpr ?_)) (q Hd (r13.ex ed).1)
        rw [hb5, tn_line n4, decide_eq_true_eq]
        exact ⟨fun g => by rw [g]; rfl, fun g => by have := V.int.inj g; omega⟩
      · have hs : s - 45 = 0 := by
          by_cases g : s - 45 = 0
          · exact g
          · exact absurd (show (!decide (V.int (s - 45) = V.int 0)) = true by rw [decide_eq_false (fun z => g (V.int.inj z))]; rfl) f
        refine ⟨by show 1 ≤ sizeLine; decide, fun pl nl => ?_⟩
        have r13 := r12.ex (Evl.Ex.new (o := .tup [.int 7]) nl)
        have hSu : Su 13 1000000000000 [7] := ⟨by decide, by show 1 ≤ 13; decide, fun t ht => by
          rw [List.mem_singleton.mp ht]; omega, .inl rfl⟩
        refine ⟨_, rfl, _, rfl, pl, [7], 1 + n, rfl, .inl (.inl upd_same), hSu, n1, n3, hsm, fun b5 Hd hb5 ed => ⟨_, rfl, _, rfl, s - 45, 1 + n, rfl, rfl, rfl, ?_⟩⟩
        refine q_t (Q := Q) (congrArg V.bl (Bool.eq_iff_iff.mpr ?_)) (q Hd (r13.ex ed).1)
        rw [hb5, tn_seven n4, decide_eq_true_eq, hs]
        exact ⟨fun g => by rw [g]; rfl, fun g => by have := V.int.inj g; omega⟩
theorem ok_law (T : Txt K mg) (G_law_cask : FnOk P w K mg base CX0 1 T.d_law_cask.f T.d_law_cask.fd p_law_cask (sp_law_cask K)) (G_law_right : FnOk P w K mg base CX0 7 T.d_law_right.f T.d_law_right.fd p_law_right (sp_law_right K)) : FnOk P w K mg base CX0 8 T.d_law.f T.d_law.fd p_law (sp_law K) := by
  have sc := sc_law
  refine T.d_law.F.ok sc (fun vs H Q E h => ?_) (fun cdv A outer s H vs Q E hr h => ?_)
  · first
    | (obtain ⟨_, rfl, _⟩ := h; rfl)
    | (obtain ⟨_, _, rfl, _⟩ := h; rfl)
    | (obtain ⟨_, _, _, rfl, _⟩ := h; rfl)
    | (obtain ⟨_, _, _, _, rfl, _⟩ := h; rfl)
  · refine ⟨_, PSs.nox (pss_one
      (ps_ret (pe_callB (cr_all rfl) (by rfl) T.m_all (by decide +kernel) (pa_cons (pe_lc (own := [("_law_k", 1)]) (g := gName 1) rfl sc.nd (pi_range1 (by rfl) T.m_range (pa_cons (pe_callB (call_max2 rfl) (by rfl) T.m_max (by decide +kernel) (pa_cons pe_int (pa_cons (pe_callB (call_min2 rfl) (by rfl) T.m_min (by decide +kernel) (pa_cons (pe_callB call_len_seq (by rfl) T.m_len (by decide +kernel) (pa_cons (pv 0) pa_nil)) (pa_cons pe_int pa_nil))) pa_nil))) pa_nil)) (blkOk_by (own := [("_law_k", 1)]) (N := N_law) (sc := defScope s_law) (by decide +kernel)) (fun _ _ _ _ _ => (pg_name (i := 1) sc.nd rfl (.inl rfl) (.inr rfl))) (fun _ _ _ _ _ => pts_nil) (fun _ _ _ _ _ => (pe_d T.d_law_right G_law_right (hr.mono (by decide)) (by rfl) (pa_cons (pe_d T.d_law_cask G_law_cask (hr.mono (by decide)) (by rfl) (pa_cons (pv 0) (pa_cons (pv 1) pa_nil))) pa_nil)))) pa_nil)))), ?_⟩
    obtain ⟨a, ns, rfl, hS, hn, q⟩ := h
    have hl : (iVs ns).length = ns.length := iv_len ns
    refine ⟨.ref a, rfl, a, iVs ns, rfl, .inl hS, _, _, rfl, _, _, rfl, _, rfl, by split <;> split <;> omega, by split <;> split <;> omega, fun D nD => ?_⟩
    refine lc_range (lo := 0) (fun i H1 => Evl.Ex H H1 ∧ H1 D = some (.lst ((List.replicate i true).map V.bl))) ⟨Evl.Ex.new nD, upd_same⟩ (fun i H1 hi p => ?_) (fun H1 p => ?_)
    · have hi2 : i ≤ 63 := by
        split at hi <;> split at hi <;> omega
      refine ⟨rfl, ?_⟩
      refine ⟨.ref a, rfl, _, rfl, a, ns, _, rfl, Evl.ex_l p.1 hS, by omega, by omega, by omega, fun H2 c e2 nc kc => ⟨c, rfl, kc, fun H3 e3 => ?_⟩⟩
      have e4 : Evl.Ex H1 H3 := fun x o hx => e3 x o (ne_of_none hx nc) (e2 x o hx)
      refine ⟨_, e4 D _ p.2, ?_, (p.1.trans e4).mut nD, ?_⟩
      · rw [List.length_map, List.length_replicate]
        exact small1000 (by omega)
      · rw [upd_same, List.replicate_succ', List.map_append]
        rfl
    · refine ⟨D, _, rfl, .inl (.inl p.2), ?_⟩
      have e : ∀ n : Nat, (List.replicate n true).all id = true := fun n => List.all_eq_true.mpr fun b hb => List.eq_of_mem_replicate hb
      show Q (.bl ((List.replicate _ true).all id)) H1
      rw [e]
      exact q H1
end
end Rw35
/-! The head's facts, and the end. -/
set_option maxHeartbeats 0
namespace Rw35
open PySem PySem.Spec PyProof.Rows L2
def e_is_integer : He.DefD := ⟨("is_integer", none), "is_integer", "is_integer", defArgs s_is_integer, defBody s_is_integer, defScope s_is_integer, [], []⟩
def e_is_between : He.DefD := ⟨("is_between", none), "is_between", "is_between", defArgs s_is_between, defBody s_is_between, defScope s_is_between, [], []⟩
def e_check_between : He.DefD := ⟨("check_between", none), "check_between", "check_between", defArgs s_check_between, defBody s_check_between, defScope s_check_between, [], []⟩
def e_check_base : He.DefD := ⟨("check_base", none), "check_base", "check_base", defArgs s_check_base, defBody s_check_base, defScope s_check_base, [], []⟩
def e_is_sum : He.DefD := ⟨("is_sum", none), "is_sum", "is_sum", defArgs s_is_sum, defBody s_is_sum, defScope s_is_sum, [], []⟩
def e_check_sum : He.DefD := ⟨("check_sum", none), "check_sum", "check_sum", defArgs s_check_sum, defBody s_check_sum, defScope s_check_sum, [], []⟩
def e_apart_of : He.DefD := ⟨("apart_of", none), "apart_of", "apart_of", defArgs s_apart_of, defBody s_apart_of, defScope s_apart_of, [], []⟩
def e_apart : He.DefD := ⟨("apart", none), "apart", "apart", defArgs s_apart, defBody s_apart, defScope s_apart, [], []⟩
def e_value_rest : He.DefD := ⟨("value_rest", none), "value_rest", "value_rest", defArgs s_value_rest, defBody s_value_rest, defScope s_value_rest, [], []⟩
def e_trimmed : He.DefD := ⟨("trimmed", none), "trimmed", "trimmed", defArgs s_trimmed, defBody s_trimmed, defScope s_trimmed, [], []⟩
def e_slope_of : He.DefD := ⟨("slope_of", none), "slope_of", "slope_of", defArgs s_slope_of, defBody s_slope_of, defScope s_slope_of, [], []⟩
def e_multiplied_of : He.DefD := ⟨("multiplied_of", none), "multiplied_of", "multiplied_of", defArgs s_multiplied_of, defBody s_multiplied_of, defScope s_multiplied_of, [], []⟩
def e_led_of : He.DefD := ⟨("led_of", none), "led_of", "led_of", defArgs s_led_of, defBody s_led_of, defScope s_led_of, [], []⟩
def e_check_made : He.DefD := ⟨("check_made", none), "check_made", "check_made", defArgs s_check_made, defBody s_check_made, defScope s_check_made, [], []⟩
def e_check_sums : He.DefD := ⟨("check_sums", none), "check_sums", "check_sums", defArgs s_check_sums, defBody s_check_sums, defScope s_check_sums, [], []⟩
def e_led : He.DefD := ⟨("led", none), "led", "led", defArgs s_led, defBody s_led, defScope s_led, [], []⟩
def e_check_small_primes : He.DefD := ⟨("check_small_primes", none), "check_small_primes", "check_small_primes", defArgs s_check_small_primes, defBody s_check_small_primes, defScope s_check_small_primes, [], []⟩
def e_turns_by : He.DefD := ⟨("turns_by", none), "turns_by", "turns_by", defArgs s_turns_by, defBody s_turns_by, defScope s_turns_by, [], []⟩
def e_does_turn : He.DefD := ⟨("does_turn", none), "does_turn", "does_turn", defArgs s_does_turn, defBody s_does_turn, defScope s_does_turn, [], []⟩
def e_turns : He.DefD := ⟨("turns", none), "turns", "turns", defArgs s_turns, defBody s_turns, defScope s_turns, [], []⟩
def e_law_cask : He.DefD := ⟨("_law_cask", none), "_law_cask", "_law_cask", defArgs s_law_cask, defBody s_law_cask, defScope s_law_cask, [], []⟩
def e_law_tap : He.DefD := ⟨("_law_tap", none), "_law_tap", "_law_tap", defArgs s_law_tap, defBody s_law_tap, defScope s_law_tap, [], []⟩
def e_law_of : He.DefD := ⟨("_law_of", none), "_law_of", "_law_of", defArgs s_law_of, defBody s_law_of, defScope s_law_of, [], []⟩
def e_law_row : He.DefD := ⟨("_law_row", none), "_law_row", "_law_row", defArgs s_law_row, defBody s_law_row, defScope s_law_row, [], []⟩
def e_law_at : He.DefD := ⟨("_law_at", none), "_law_at", "_law_at", defArgs s_law_at, defBody s_law_at, defScope s_law_at, [], []⟩
def e_law_table : He.DefD := ⟨("_law_table", none), "_law_table", "_law_table", defArgs s_law_table, defBody s_law_table, defScope s_law_table, [], []⟩
def e_law_gcd : He.DefD := ⟨("_law_gcd", none), "_law_gcd", "_law_gcd", defArgs s_law_gcd, defBody s_law_gcd, defScope s_law_gcd, [], []⟩
def e_law_power : He.DefD := ⟨("_law_power", none), "_law_power", "_law_power", defArgs s_law_power, defBody s_law_power, defScope s_law_power, [], []⟩
def e_law_is_turn : He.DefD := ⟨("_law_is_turn", none), "_law_is_turn", "_law_is_turn", defArgs s_law_is_turn, defBody s_law_is_turn, defScope s_law_is_turn, [], []⟩
def e_law_pieces_right : He.DefD := ⟨("_law_pieces_right", none), "_law_pieces_right", "_law_pieces_right", defArgs s_law_pieces_right, defBody s_law_pieces_right, defScope s_law_pieces_right, [], []⟩
def e_law_right : He.DefD := ⟨("_law_right", none), "_law_right", "_law_right", defArgs s_law_right, defBody s_law_right, defScope s_law_right, [], []⟩
def e_law : He.DefD := ⟨("law", none), "law", "law", defArgs s_law, defBody s_law, defScope s_law, [], []⟩
def fnL : List He.DefD := [e_is_integer, e_is_between, e_check_between, e_check_base, e_is_sum, e_check_sum, e_apart_of, e_apart, e_value_rest, e_trimmed, e_slope_of, e_multiplied_of, e_led_of, e_check_made, e_check_sums, e_led, e_check_small_primes, e_turns_by, e_does_turn, e_turns, e_law_cask, e_law_tap, e_law_of, e_law_row, e_law_at, e_law_table, e_law_gcd, e_law_power, e_law_is_turn, e_law_pieces_right, e_law_right, e_law]
def faA : List He.Fa := [.glo "is_integer", .glo "is_between", .glo "check_between", .glo "check_base", .glo "is_sum", .glo "check_sum", .glo "apart_of", .glo "apart", .glo "value_rest", .glo "trimmed", .glo "slope_of", .glo "multiplied_of", .glo "led_of", .glo "check_made", .glo "check_sums", .glo "led", .glo "check_small_primes", .glo "turns_by", .glo "does_turn", .glo "turns", .glo "_law_cask", .glo "_law_tap", .glo "_law_of", .glo "_law_row", .glo "_law_at"]
def faB : List He.Fa := [.glo "_law_table", .glo "_law_gcd", .glo "_law_power", .glo "_law_is_turn", .glo "_law_pieces_right", .glo "_law_right", .glo "law", .free "len", .free "all", .free "abs", .free "max", .free "min", .free "isinstance", .free "divmod", .free "int", .free "bool", .free "tuple", .free "list", .free "set", .free "range", .free "enumerate", .int "MOST_BASE" 1000000000000, .int "MOST_DEGREE" 12, .int "MOST_PRIME" 1000, .int "MOST_COEFFICIENT" 1000000000000]
def faL : List He.Fa := faA ++ faB
def looseL : List Str := (["NotRight", "InvalidNumber", "InvalidSum", "NotPossible", "TooGreat", "MOST_BASE", "MOST_DEGREE", "MOST_PRIME", "MOST_COEFFICIENT", "is_integer", "is_between", "check_between", "check_base", "is_sum", "check_sum", "apart_of", "apart", "value_rest", "trimmed", "slope_of"] : List Str) ++ (["multiplied_of", "led_of", "check_made", "check_sums", "led", "check_small_primes", "turns_by", "does_turn", "turns", "_law_cask", "_law_tap", "_law_of", "_law_row", "_law_at", "_law_table", "_law_gcd", "_law_power", "_law_is_turn", "_law_pieces_right", "_law_right"] : List Str)
abbrev RR : PySem.W.OpenRow := PySem.W.OpenLaw.row PySem.Challenge.rw_restworld_k35_whole_sums_that_turn
abbrev hk : PySem.W.Hook := He.hookD 4 faL fnL
def ob (s : PySem.W.SharedT) : He.AlD := He.obsDG 4 faL fnL (HandSHeadRun.getT s)
theorem ob_eq (s : PySem.W.SharedT) : ob s = hk.obs s.abs := He.obsDG_eq (HandSHeadRun.getT_eq s)
theorem run (w : World) : HandSHeadRun.RunEq RR (PySem.W.view RR.prog [46]) hk ob 4000 looseL w := by
  intro os
  kernel_rfl
theorem txt_of {K : PySem.W.Frag} {h : Heap} {mg : Str → Option Value} (X : K.In h) (G : h.Ns mainGlobals mg) (c : He.SaysD faL fnL K) :
    ∃ T : Txt K mg, ∀ (s : Shared) (v : Value), BindsTo s T.d_law.fd ⟨[v], []⟩ [("_law_script", v)] := by
  obtain ⟨fd0, F0⟩ := c.def_ 0 (d := e_is_integer) rfl
  obtain ⟨fd1, F1⟩ := c.def_ 1 (d := e_is_between) rfl
  obtain ⟨fd2, F2⟩ := c.def_ 2 (d := e_check_between) rfl
  obtain ⟨fd3, F3⟩ := c.def_ 3 (d := e_check_base) rfl
  obtain ⟨fd4, F4⟩ := c.def_ 4 (d := e_is_sum) rfl
  obtain ⟨fd5, F5⟩ := c.def_ 5 (d := e_check_sum) rfl
  obtain ⟨fd6, F6⟩ := c.def_ 6 (d := e_apart_of) rfl
  obtain ⟨fd7, F7⟩ := c.def_ 7 (d := e_apart) rfl
  obtain ⟨fd8, F8⟩ := c.def_ 8 (d := e_value_rest) rfl
  obtain ⟨fd9, F9⟩ := c.def_ 9 (d := e_trimmed) rfl
  obtain ⟨fd10, F10⟩ := c.def_ 10 (d := e_slope_of) rfl
  obtain ⟨fd11, F11⟩ := c.def_ 11 (d := e_multiplied_of) rfl
  obtain ⟨fd12, F12⟩ := c.def_ 12 (d := e_led_of) rfl
  obtain ⟨fd13, F13⟩ := c.def_ 13 (d := e_check_made) rfl
  obtain ⟨fd14, F14⟩ := c.def_ 14 (d := e_check_sums) rfl
  obtain ⟨fd15, F15⟩ := c.def_ 15 (d := e_led) rfl
  obtain ⟨fd16, F16⟩ := c.def_ 16 (d := e_check_small_primes) rfl
  obtain ⟨fd17, F17⟩ := c.def_ 17 (d := e_turns_by) rfl
  obtain ⟨fd18, F18⟩ := c.def_ 18 (d := e_does_turn) rfl
  obtain ⟨fd19, F19⟩ := c.def_ 19 (d := e_turns) rfl
  obtain ⟨fd20, F20⟩ := c.def_ 20 (d := e_law_cask) rfl
  obtain ⟨fd21, F21⟩ := c.def_ 21 (d := e_law_tap) rfl
  obtain ⟨fd22, F22⟩ := c.def_ 22 (d := e_law_of) rfl
  obtain ⟨fd23, F23⟩ := c.def_ 23 (d := e_law_row) rfl
  obtain ⟨fd24, F24⟩ := c.def_ 24 (d := e_law_at) rfl
  obtain ⟨fd25, F25⟩ := c.def_ 25 (d := e_law_table) rfl
  obtain ⟨fd26, F26⟩ := c.def_ 26 (d := e_law_gcd) rfl
  obtain ⟨fd27, F27⟩ := c.def_ 27 (d := e_law_power) rfl
  obtain ⟨fd28, F28⟩ := c.def_ 28 (d := e_law_is_turn) rfl
  obtain ⟨fd29, F29⟩ := c.def_ 29 (d := e_law_pieces_right) rfl
  obtain ⟨fd30, F30⟩ := c.def_ 30 (d := e_law_right) rfl
  obtain ⟨fd31, F31⟩ := c.def_ 31 (d := e_law) rfl
  refine ⟨{
    d_is_integer := ⟨_, fd0, F0, He.glo_ok X G (c.fact 0 (f := .glo "is_integer") rfl), FunD.bindsN F0 fun _ _ _ _ _ _ us hl => match us, hl with | [_], _ => rfl⟩,
    d_is_between := ⟨_, fd1, F1, He.glo_ok X G (c.fact 1 (f := .glo "is_between") rfl), FunD.bindsN F1 fun _ _ _ _ _ _ us hl => match us, hl with | [_, _, _], _ => rfl⟩,
    d_check_between := ⟨_, fd2, F2, He.glo_ok X G (c.fact 2 (f := .glo "check_between") rfl), FunD.bindsN F2 fun _ _ _ _ _ _ us hl => match us, hl with | [_, _, _], _ => rfl⟩,
    d_check_base := ⟨_, fd3, F3, He.glo_ok X G (c.fact 3 (f := .glo "check_base") rfl), FunD.bindsN F3 fun _ _ _ _ _ _ us hl => match us, hl with | [_], _ => rfl⟩,
    d_is_sum := ⟨_, fd4, F4, He.glo_ok X G (c.fact 4 (f := .glo "is_sum") rfl), FunD.bindsN F4 fun _ _ _ _ _ _ us hl => match us, hl with | [_], _ => rfl⟩,
    d_check_sum := ⟨_, fd5, F5, He.glo_ok X G (c.fact 5 (f := .glo "check_sum") rfl), FunD.bindsN F5 fun _ _ _ _ _ _ us hl => match us, hl with | [_], _ => rfl⟩,
    d_apart_of := ⟨_, fd6, F6, He.glo_ok X G (c.fact 6 (f := .glo "apart_of") rfl), FunD.bindsN F6 fun _ _ _ _ _ _ us hl => match us, hl with | [_], _ => rfl⟩,
    d_apart := ⟨_, fd7, F7, He.glo_ok X G (c.fact 7 (f := .glo "apart") rfl), FunD.bindsN F7 fun _ _ _ _ _ _ us hl => match us, hl with | [_], _ => rfl⟩,
    d_value_rest := ⟨_, fd8, F8, He.glo_ok X G (c.fact 8 (f := .glo "value_rest") rfl), FunD.bindsN F8 fun _ _ _ _ _ _ us hl => match us, hl with | [_, _, _], _ => rfl⟩,
    d_trimmed := ⟨_, fd9, F9, He.glo_ok X G (c.fact 9 (f := .glo "trimmed") rfl), FunD.bindsN F9 fun _ _ _ _ _ _ us hl => match us, hl with | [_], _ => rfl⟩,
    d_slope_of := ⟨_, fd10, F10, He.glo_ok X G (c.fact 10 (f := .glo "slope_of") rfl), FunD.bindsN F10 fun _ _ _ _ _ _ us hl => match us, hl with | [_], _ => rfl⟩,
    d_multiplied_of := ⟨_, fd11, F11, He.glo_ok X G (c.fact 11 (f := .glo "multiplied_of") rfl), FunD.bindsN F11 fun _ _ _ _ _ _ us hl => match us, hl with | [_, _], _ => rfl⟩,
    d_led_of := ⟨_, fd12, F12, He.glo_ok X G (c.fact 12 (f := .glo "led_of") rfl), FunD.bindsN F12 fun _ _ _ _ _ _ us hl => match us, hl with | [_, _], _ => rfl⟩,
    d_check_made := ⟨_, fd13, F13, He.glo_ok X G (c.fact 13 (f := .glo "check_made") rfl), FunD.bindsN F13 fun _ _ _ _ _ _ us hl => match us, hl with | [_], _ => rfl⟩,
    d_check_sums := ⟨_, fd14, F14, He.glo_ok X G (c.fact 14 (f := .glo "check_sums") rfl), FunD.bindsN F14 fun _ _ _ _ _ _ us hl => match us, hl with | [_, _], _ => rfl⟩,
    d_led := ⟨_, fd15, F15, He.glo_ok X G (c.fact 15 (f := .glo "led") rfl), FunD.bindsN F15 fun _ _ _ _ _ _ us hl => match us, hl with | [_, _], _ => rfl⟩,
    d_check_small_primes := ⟨_, fd16, F16, He.glo_ok X G (c.fact 16 (f := .glo "check_small_primes") rfl), FunD.bindsN F16 fun _ _ _ _ _ _ us hl => match us, hl with | [_], _ => rfl⟩,
    d_turns_by := ⟨_, fd17, F17, He.glo_ok X G (c.fact 17 (f := .glo "turns_by") rfl), FunD.bindsN F17 fun _ _ _ _ _ _ us hl => match us, hl with | [_, _, _], _ => rfl⟩,
    d_does_turn := ⟨_, fd18, F18, He.glo_ok X G (c.fact 18 (f := .glo "does_turn") rfl), FunD.bindsN F18 fun _ _ _ _ _ _ us hl => match us, hl with | [_, _], _ => rfl⟩,
    d_turns := ⟨_, fd19, F19, He.glo_ok X G (c.fact 19 (f := .glo "turns") rfl), FunD.bindsN F19 fun _ _ _ _ _ _ us hl => match us, hl with | [_, _], _ => rfl⟩,
    d_law_cask := ⟨_, fd20, F20, He.glo_ok X G (c.fact 20 (f := .glo "_law_cask") rfl), FunD.bindsN F20 fun _ _ _ _ _ _ us hl => match us, hl with | [_, _], _ => rfl⟩,
    d_law_tap := ⟨_, fd21, F21, He.glo_ok X G (c.fact 21 (f := .glo "_law_tap") rfl), FunD.bindsN F21 fun _ _ _ _ _ _ us hl => match us, hl with | [_, _], _ => rfl⟩,
    d_law_of := ⟨_, fd22, F22, He.glo_ok X G (c.fact 22 (f := .glo "_law_of") rfl), FunD.bindsN F22 fun _ _ _ _ _ _ us hl => match us, hl with | [_, _], _ => rfl⟩,
    d_law_row := ⟨_, fd23, F23, He.glo_ok X G (c.fact 23 (f := .glo "_law_row") rfl), FunD.bindsN F23 fun _ _ _ _ _ _ us hl => match us, hl with | [_, _, _], _ => rfl⟩,
    d_law_at := ⟨_, fd24, F24, He.glo_ok X G (c.fact 24 (f := .glo "_law_at") rfl), FunD.bindsN F24 fun _ _ _ _ _ _ us hl => match us, hl with | [_, _], _ => rfl⟩,
    d_law_table := ⟨_, fd25, F25, He.glo_ok X G (c.fact 25 (f := .glo "_law_table") rfl), FunD.bindsN F25 fun _ _ _ _ _ _ us hl => match us, hl with | [_, _], _ => rfl⟩,
    d_law_gcd := ⟨_, fd26, F26, He.glo_ok X G (c.fact 26 (f := .glo "_law_gcd") rfl), FunD.bindsN F26 fun _ _ _ _ _ _ us hl => match us, hl with | [_, _], _ => rfl⟩,
    d_law_power := ⟨_, fd27, F27, He.glo_ok X G (c.fact 27 (f := .glo "_law_power") rfl), FunD.bindsN F27 fun _ _ _ _ _ _ us hl => match us, hl with | [_, _], _ => rfl⟩,
    d_law_is_turn := ⟨_, fd28, F28, He.glo_ok X G (c.fact 28 (f := .glo "_law_is_turn") rfl), FunD.bindsN F28 fun _ _ _ _ _ _ us hl => match us, hl with | [_, _], _ => rfl⟩,
    d_law_pieces_right := ⟨_, fd29, F29, He.glo_ok X G (c.fact 29 (f := .glo "_law_pieces_right") rfl), FunD.bindsN F29 fun _ _ _ _ _ _ us hl => match us, hl with | [_, _], _ => rfl⟩,
    d_law_right := ⟨_, fd30, F30, He.glo_ok X G (c.fact 30 (f := .glo "_law_right") rfl), FunD.bindsN F30 fun _ _ _ _ _ _ us hl => match us, hl with | [_], _ => rfl⟩,
    d_law := ⟨_, fd31, F31, He.glo_ok X G (c.fact 31 (f := .glo "law") rfl), FunD.bindsN F31 fun _ _ _ _ _ _ us hl => match us, hl with | [_], _ => rfl⟩,
    m_len := He.free_ok X G (c.fact 32 (f := .free "len") rfl),
    m_all := He.free_ok X G (c.fact 33 (f := .free "all") rfl),
    m_abs := He.free_ok X G (c.fact 34 (f := .free "abs") rfl),
    m_max := He.free_ok X G (c.fact 35 (f := .free "max") rfl),
    m_min := He.free_ok X G (c.fact 36 (f := .free "min") rfl),
    m_isinstance := He.free_ok X G (c.fact 37 (f := .free "isinstance") rfl),
    m_divmod := He.free_ok X G (c.fact 38 (f := .free "divmod") rfl),
    m_int := He.free_ok X G (c.fact 39 (f := .free "int") rfl),
    m_bool := He.free_ok X G (c.fact 40 (f := .free "bool") rfl),
    m_tuple := He.free_ok X G (c.fact 41 (f := .free "tuple") rfl),
    m_list := He.free_ok X G (c.fact 42 (f := .free "list") rfl),
    m_set := He.free_ok X G (c.fact 43 (f := .free "set") rfl),
    m_range := He.free_ok X G (c.fact 44 (f := .free "range") rfl),
    m_enumerate := He.free_ok X G (c.fact 45 (f := .free "enumerate") rfl),
    c_MOST_BASE := He.int_ok X G (c.fact 46 (f := .int "MOST_BASE" 1000000000000) rfl),
    c_MOST_DEGREE := He.int_ok X G (c.fact 47 (f := .int "MOST_DEGREE" 12) rfl),
    c_MOST_PRIME := He.int_ok X G (c.fact 48 (f := .int "MOST_PRIME" 1000) rfl),
    c_MOST_COEFFICIENT := He.int_ok X G (c.fact 49 (f := .int "MOST_COEFFICIENT" 1000000000000) rfl) }, fun s v => ?_⟩
  exact FunD.bindsA (ps := p_law) F31 (fun _ _ _ _ _ _ us hl => match us, hl with | [_], _ => rfl) s [v] rfl
theorem all_of {P : Program} {w : World} {K : PySem.W.Frag} {mg : Str → Option Value} {base : Heap} (T : Txt K mg) : FnOk P w K mg base CX0 8 T.d_law.f T.d_law.fd p_law (sp_law K) := by
  have G_is_integer := ok_is_integer (P := P) (w := w) (base := base) T
  have G_is_between := ok_is_between (P := P) (w := w) (base := base) T G_is_integer
  have G_check_between := ok_check_between (P := P) (w := w) (base := base) T G_is_between
  have G_check_base := ok_check_base (P := P) (w := w) (base := base) T G_check_between
  have G_is_sum := ok_is_sum (P := P) (w := w) (base := base) T G_is_between
  have G_check_sum := ok_check_sum (P := P) (w := w) (base := base) T G_is_sum
  have G_apart_of := ok_apart_of (P := P) (w := w) (base := base) T
  have G_apart := ok_apart (P := P) (w := w) (base := base) T G_apart_of G_check_base
  have G_value_rest := ok_value_rest (P := P) (w := w) (base := base) T
  have G_trimmed := ok_trimmed (P := P) (w := w) (base := base) T
  have G_slope_of := ok_slope_of (P := P) (w := w) (base := base) T
  have G_multiplied_of := ok_multiplied_of (P := P) (w := w) (base := base) T G_trimmed
  have G_led_of := ok_led_of (P := P) (w := w) (base := base) T G_multiplied_of G_trimmed
  have G_check_made := ok_check_made (P := P) (w := w) (base := base) T
  have G_check_sums := ok_check_sums (P := P) (w := w) (base := base) T G_check_sum
  have G_led := ok_led (P := P) (w := w) (base := base) T G_check_made G_check_sums G_led_of
  have G_check_small_primes := ok_check_small_primes (P := P) (w := w) (base := base) T G_apart_of
  have G_turns_by := ok_turns_by (P := P) (w := w) (base := base) T G_slope_of G_value_rest
  have G_does_turn := ok_does_turn (P := P) (w := w) (base := base) T G_turns_by
  have G_turns := ok_turns (P := P) (w := w) (base := base) T G_check_base G_check_small_primes G_check_sum G_does_turn
  have G_law_cask := ok_law_cask (P := P) (w := w) (base := base) T
  have G_law_tap := ok_law_tap (P := P) (w := w) (base := base) T
  have G_law_of := ok_law_of (P := P) (w := w) (base := base) T G_law_tap
  have G_law_row := ok_law_row (P := P) (w := w) (base := base) T G_law_tap
  have G_law_at := ok_law_at (P := P) (w := w) (base := base) T
  have G_law_table := ok_law_table (P := P) (w := w) (base := base) T G_law_at
  have G_law_gcd := ok_law_gcd (P := P) (w := w) (base := base) T
  have G_law_power := ok_law_power (P := P) (w := w) (base := base) T
  have G_law_is_turn := ok_law_is_turn (P := P) (w := w) (base := base) T G_law_table
  have G_law_pieces_right := ok_law_pieces_right (P := P) (w := w) (base := base) T G_law_power G_apart G_turns
  have G_law_right := ok_law_right (P := P) (w := w) (base := base) T G_law_gcd G_law_is_turn G_law_of G_law_pieces_right G_law_row G_law_tap G_led G_turns
  exact ok_law T G_law_cask G_law_right
end Rw35
open PySem PySem.W PySem.Calls PyProof.Rows
theorem PySem.Challenge.cw_restworld_k35_whole_sums_that_turn_holds : PySem.Challenge.rw_restworld_k35_whole_sums_that_turn.Holds := by
  w_on; o_law
  refine HandSHeadRun.head_any (r := Rw35.RR) (q := view Rw35.RR.prog [46]) (H := Rw35.hk) (ob := Rw35.ob) (M := 4000) (loose := Rw35.looseL) (d := HandSHeadRun.topDef Rw35.RR.prog 46) (kwd := []) Rw35.ob_eq
    (by kernel_rfl) (fun s => by kernel_rfl) Rw35.run (by kernel_rfl) (by kernel_rfl) (by kernel_rfl) (by rfl) (by first | assumption | decide +kernel) (by decide +kernel) ⟨rfl, rfl, rfl, rfl, rfl, by decide +kernel⟩ ?hw ?hc
  case hw => w_witness2
  case hc =>
    refine L2.walk_ofE (l := PySem.Challenge.rw_restworld_k35_whole_sums_that_turn) (n := 63) (k := 8) (x := "_law_script") (CX := L2.CX0) rfl (by decide) (by kernel_rfl) ⟨rfl, by decide, by decide⟩ ?F (fun _ _ _ _ z => z)
    intro w mg fa h Y G hmg0
    obtain ⟨K, KX, c⟩ := Y
    have hmg : mg ("law" : PySem.Str) = some (.ref fa) := by
      have e : (HandSHeadRun.topDef Rw35.RR.prog 46).name = ("law" : PySem.Str) := by kernel_rfl
      rw [← e]
      exact hmg0
    obtain ⟨T, hb⟩ := Rw35.txt_of KX G c
    have e := hmg.symm.trans T.d_law.g
    cases e
    exact ⟨K, T.d_law.fd, Rw35.sp_law K, KX, hb, fun H a ns hl _ hS => ⟨a, ns, rfl, hS, hl, fun _ => rfl⟩, fun base _ _ => Rw35.all_of T⟩
