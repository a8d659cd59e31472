import PyProof.Rows.All
import Wide.All
import OpenK.AllK
import Wide.FinOn
import HandS.ForMost
import HandS.Property
import HandS.IsInst
import HandS.Star
import HandS.Style
import HandS.TupAny
import HandS.EndBits
import HandS.FStr
import HandS.OwnEq
import PySem.Challenge.RW_linecents_k18_whole_rows_alike
set_option Elab.async false
set_option maxRecDepth 100000
set_option maxHeartbeats 8000000
namespace L2.K18
/-! The plain law: rows told by forms, their least form, when two tell the same. No program in sight. -/

/-- what a row is made of: the early integers, those of a period, the rise -/
structure Fm where
  e : List Int
  c : List Int
  r : Int
  deriving DecidableEq

/-- what it tells -/
def tell (f : Fm) (n : Nat) : Int :=
  if n < f.e.length then f.e.getD n 0
  else f.c.getD ((n - f.e.length) % f.c.length) 0 + (((n - f.e.length) / f.c.length : Nat) : Int) * f.r

/-- from n0 on g goes on by s with the period p -/
def Per (g : Nat → Int) (p : Nat) (s : Int) (n0 : Nat) : Prop := ∀ n, n0 ≤ n → g (n + p) = g n + s

theorem Per.later {g : Nat → Int} {p : Nat} {s : Int} {a b : Nat} (h : Per g p s a) (hab : a ≤ b) : Per g p s b :=
  fun n hn => h n (Nat.le_trans hab hn)

theorem Per.times {g : Nat → Int} {p : Nat} {s : Int} {a : Nat} (h : Per g p s a) (k : Nat) : Per g (k * p) (k * s) a := by
  induction k with
  | zero =>
    intro n _
    simp
  | succ k ih =>
    intro n hn
    have h1 := ih n hn
    have h2 := h (n + k * p) (by omega)
    have e1 : n + (k + 1) * p = n + k * p + p := by rw [Nat.succ_mul]; omega
    rw [e1, h2, h1]
    have e2 : (((k + 1 : Nat) : Int)) * s = (k : Int) * s + s := by
      rw [Int.natCast_add, Int.add_mul]
      simp
    rw [e2]
    omega

/-- two that go on alike and agree over a period agree -/
theorem per_agree {g h : Nat → Int} {p : Nat} {s : Int} {a : Nat} (hp : 0 < p) (hg : Per g p s a) (hh : Per h p s a) (e : ∀ n, a ≤ n → n < a + p → g n = h n) :
    ∀ n, a ≤ n → g n = h n := by
  intro n
  induction n using Nat.strongRecOn with
  | ind n ih =>
    intro hn
    by_cases hlt : n < a + p
    · exact e n hn hlt
    · have h1 := ih (n - p) (by omega) (by omega)
      have h2 := hg (n - p) (by omega)
      have h3 := hh (n - p) (by omega)
      have e1 : n - p + p = n := by omega
      rw [e1] at h2 h3
      rw [h2, h3, h1]

theorem tell_per (f : Fm) (hc : f.c ≠ []) : Per (tell f) f.c.length f.r f.e.length := by
  intro n hn
  have hl : 0 < f.c.length := List.length_pos_iff.mpr hc
  have h1 : ¬ n < f.e.length := by omega
  have h2 : ¬ n + f.c.length < f.e.length := by omega
  unfold tell
  rw [if_neg h1, if_neg h2]
  have e1 : n + f.c.length - f.e.length = (n - f.e.length) + f.c.length := by omega
  rw [e1, Nat.add_mod_right, Nat.add_div_right _ hl]
  have e2 : ((((n - f.e.length) / f.c.length).succ : Nat) : Int) * f.r = (((n - f.e.length) / f.c.length : Nat) : Int) * f.r + f.r := by
    rw [Nat.succ_eq_add_one, Int.natCast_add, Int.add_mul]
    simp
  rw [e2]
  omega

/-! ### Euclid: two periods give their greatest common one -/
theorem per_mod {g : Nat → Int} {p q : Nat} {s t : Int} {a : Nat} (hp : Per g p s a) (hq : Per g q t a) : ∃ u, Per g (q % p) u a := by
  refine ⟨t - ((q / p : Nat) : Int) * s, fun n hn => ?_⟩
  have h1 := hq n hn
  have h2 := (hp.times (q / p)) (n + q % p) (by omega)
  have e : n + q % p + q / p * p = n + q := by
    have := Nat.mod_add_div q p
    rw [Nat.mul_comm] at this
    omega
  rw [e, h1] at h2
  omega

theorem per_gcd {g : Nat → Int} {a : Nat} : ∀ (p q : Nat), (∃ s, Per g p s a) → (∃ t, Per g q t a) → ∃ u, Per g (Nat.gcd p q) u a := by
  intro p q
  induction p, q using Nat.gcd.induction with
  | H0 n =>
    intro _ h
    rw [Nat.gcd_zero_left]
    exact h
  | H1 m n hm ih =>
    intro ⟨s, hs⟩ ⟨t, ht⟩
    rw [Nat.gcd_rec]
    exact ih (per_mod hs ht) ⟨s, hs⟩

/-! ### does a row go on by a part of its period -/
/-- the period twice, the second time with the rise -/
def longer (c : List Int) (r : Int) : List Int := c ++ c.map (· + r)

def goesOn (c : List Int) (r : Int) (s : Nat) : Bool :=
  if r * (s : Int) % (c.length : Int) = 0 then
    (List.range c.length).all fun i => decide ((longer c r).getD (i + s) 0 = (longer c r).getD i 0 + r * (s : Int) / (c.length : Int))
  else false

theorem longer_getD {c : List Int} {r : Int} {i : Nat} (hi : i < 2 * c.length) :
    (longer c r).getD i 0 = c.getD (i % c.length) 0 + ((i / c.length : Nat) : Int) * r := by
  unfold longer
  by_cases h : i < c.length
  · rw [Nat.mod_eq_of_lt h, Nat.div_eq_of_lt h, List.getD_eq_getElem?_getD, List.getElem?_append_left h, List.getD_eq_getElem?_getD]
    simp
  · have h2 : i - c.length < c.length := by omega
    have e1 : i % c.length = i - c.length := by
      rw [Nat.mod_eq_sub_mod (by omega), Nat.mod_eq_of_lt h2]
    have e2 : i / c.length = 1 := by
      rw [Nat.div_eq_sub_div (by omega) (by omega), Nat.div_eq_of_lt h2]
    rw [e1, e2, List.getD_eq_getElem?_getD, List.getElem?_append_right (by omega), List.getD_eq_getElem?_getD, List.getElem?_map, List.getElem?_eq_getElem h2]
    simp

theorem tell_longer (f : Fm) {i : Nat} (hi : i < 2 * f.c.length) : tell f (f.e.length + i) = (longer f.c f.r).getD i 0 := by
  rw [longer_getD hi]
  unfold tell
  rw [if_neg (by omega), Nat.add_sub_cancel_left]

/-- what goesOn says -/
theorem goesOn_per (f : Fm) (hc : f.c ≠ []) {s : Nat} (hs : s ≤ f.c.length) (h : goesOn f.c f.r s = true) :
    Per (tell f) s (f.r * (s : Int) / (f.c.length : Int)) f.e.length ∧ f.r * (s : Int) % (f.c.length : Int) = 0 := by
  have hl : 0 < f.c.length := List.length_pos_iff.mpr hc
  unfold goesOn at h
  split at h
  · rename_i hm
    refine ⟨?_, hm⟩
    have hall : ∀ i, i < f.c.length → (longer f.c f.r).getD (i + s) 0 = (longer f.c f.r).getD i 0 + f.r * (s : Int) / (f.c.length : Int) := fun i hi =>
      of_decide_eq_true (List.all_eq_true.mp h i (List.mem_range.mpr hi))
    have base : ∀ n, f.e.length ≤ n → n < f.e.length + f.c.length → tell f (n + s) = tell f n + f.r * (s : Int) / (f.c.length : Int) := by
      intro n h1 h2
      have q := hall (n - f.e.length) (by omega)
      rw [← tell_longer f (by omega), ← tell_longer f (by omega)] at q
      have e1 : f.e.length + (n - f.e.length + s) = n + s := by omega
      have e2 : f.e.length + (n - f.e.length) = n := by omega
      rw [e1, e2] at q
      exact q
    have P := tell_per f hc
    intro n hn
    refine per_agree (g := fun n => tell f (n + s)) (h := fun n => tell f n + f.r * (s : Int) / (f.c.length : Int)) (p := f.c.length) (s := f.r) (a := f.e.length) hl ?_ ?_ base n hn
    · intro m hm'
      show tell f (m + f.c.length + s) = tell f (m + s) + f.r
      have := P (m + s) (by omega)
      rw [← this]
      congr 1
      omega
    · intro m hm'
      show tell f (m + f.c.length) + _ = tell f m + _ + f.r
      rw [P m hm']
      omega
  · cases h

/-- a period of the whole that divides the one written is found -/
theorem per_goesOn (f : Fm) (hc : f.c ≠ []) {s : Nat} {t : Int} {a : Nat} (hd : s ∣ f.c.length) (h : Per (tell f) s t a) : goesOn f.c f.r s = true := by
  have hl : 0 < f.c.length := List.length_pos_iff.mpr hc
  have hsl : s ≤ f.c.length := Nat.le_of_dvd hl hd
  obtain ⟨k, hk⟩ := hd
  have P := tell_per f hc
  -- from the start on
  have h0 : Per (tell f) s t f.e.length := by
    intro n hn
    have q1 := (P.times a) n hn
    have q2 := (P.times a) (n + s) (by omega)
    have q3 := h (n + a * f.c.length) (by
      have : a * 1 ≤ a * f.c.length := Nat.mul_le_mul_left a hl
      omega)
    have e : n + s + a * f.c.length = n + a * f.c.length + s := by omega
    rw [e, q3, q1] at q2
    omega
  have ht : (k : Int) * t = f.r := by
    have q1 := (h0.times k) f.e.length (Nat.le_refl _)
    have q2 := P f.e.length (Nat.le_refl _)
    have e : k * s = f.c.length := by rw [hk, Nat.mul_comm]
    rw [e, q2] at q1
    omega
  have e1 : f.r * (s : Int) = t * (f.c.length : Int) := by
    rw [← ht, hk, Int.natCast_mul, Int.mul_comm (k : Int) t, Int.mul_assoc, Int.mul_comm (k : Int) (s : Int)]
  have hl' : (f.c.length : Int) ≠ 0 := by omega
  unfold goesOn
  rw [e1, Int.mul_emod_left, if_pos rfl, Int.mul_ediv_cancel _ hl']
  refine List.all_eq_true.mpr fun i hi => decide_eq_true ?_
  have hi' := List.mem_range.mp hi
  rw [← tell_longer f (by omega), ← tell_longer f (by omega)]
  have := h0 (f.e.length + i) (by omega)
  rw [← this]
  congr 1
  omega

/-! ### the least form -/
/-- the parts of the period by which it goes on -/
def okPart (c : List Int) (r : Int) (s : Nat) : Bool := decide (c.length % s = 0) && goesOn c r s
def parts (c : List Int) (r : Int) (n : Nat) : List Nat := ((List.range n).map (· + 1)).filter (okPart c r)
def size (c : List Int) (r : Int) : Nat := (parts c r c.length).headD 0

theorem head_least : ∀ {l : List Nat} {p : Nat → Bool}, l.Pairwise (· < ·) → ∀ x ∈ l, p x = true → ∃ y, (l.filter p).headD 0 = y ∧ (l.filter p).head? = some y ∧ y ∈ l ∧ p y = true ∧ y ≤ x
  | [], _, _, x, hx, _ => by cases hx
  | a :: l, p, hl, x, hx, hp => by
    by_cases ha : p a = true
    · refine ⟨a, by simp [ha], by simp [ha], List.mem_cons_self, ha, ?_⟩
      rcases List.mem_cons.mp hx with e | e
      · omega
      · exact Nat.le_of_lt ((List.pairwise_cons.mp hl).1 x e)
    · have hx' : x ∈ l := by
        rcases List.mem_cons.mp hx with e | e
        · rw [e] at hp; exact absurd hp ha
        · exact e
      obtain ⟨y, h1, h2, h3, h4, h5⟩ := head_least (List.pairwise_cons.mp hl).2 x hx' hp
      refine ⟨y, by simpa [ha] using h1, by simpa [ha] using h2, List.mem_cons_of_mem _ h3, h4, h5⟩

theorem range1_sorted (n : Nat) : ((List.range n).map (· + 1)).Pairwise (· < ·) := by
  rw [List.pairwise_map]
  exact (List.pairwise_lt_range).imp (fun h => by omega)

theorem mem_range1 {n x : Nat} : x ∈ (List.range n).map (· + 1) ↔ 1 ≤ x ∧ x ≤ n := by
  rw [List.mem_map]
  constructor
  · rintro ⟨a, ha, rfl⟩
    have := List.mem_range.mp ha
    omega
  · intro ⟨h1, h2⟩
    exact ⟨x - 1, List.mem_range.mpr (by omega), by omega⟩

/-- the size is the least part by which it goes on -/
theorem size_least (f : Fm) (hc : f.c ≠ []) {x : Nat} (h1 : 1 ≤ x) (h2 : x ≤ f.c.length) (h3 : okPart f.c f.r x = true) :
    1 ≤ size f.c f.r ∧ size f.c f.r ≤ x ∧ okPart f.c f.r (size f.c f.r) = true ∧ (parts f.c f.r f.c.length).head? = some (size f.c f.r) := by
  obtain ⟨y, q1, q2, q3, q4, q5⟩ := head_least (range1_sorted f.c.length) x (mem_range1.mpr ⟨h1, h2⟩) h3
  have e : size f.c f.r = y := q1
  rw [e]
  exact ⟨(mem_range1.mp q3).1, q5, q4, q2⟩

theorem whole_ok (f : Fm) (hc : f.c ≠ []) : okPart f.c f.r f.c.length = true := by
  unfold okPart
  rw [per_goesOn f hc (Nat.dvd_refl _) (tell_per f hc), Nat.mod_self]
  rfl

theorem size_spec (f : Fm) (hc : f.c ≠ []) : 1 ≤ size f.c f.r ∧ size f.c f.r ≤ f.c.length ∧ okPart f.c f.r (size f.c f.r) = true ∧ (parts f.c f.r f.c.length).head? = some (size f.c f.r) :=
  size_least f hc (List.length_pos_iff.mpr hc) (Nat.le_refl _) (whole_ok f hc)

/-- no period is less than the size -/
theorem size_min (f : Fm) (hc : f.c ≠ []) {p : Nat} {s : Int} {a : Nat} (hp : 0 < p) (h : Per (tell f) p s a) : size f.c f.r ≤ p := by
  have hl : 0 < f.c.length := List.length_pos_iff.mpr hc
  have P := (tell_per f hc).later (Nat.le_add_left f.e.length a)
  obtain ⟨u, hu⟩ := per_gcd p f.c.length ⟨s, h.later (Nat.le_add_right a f.e.length)⟩ ⟨f.r, P⟩
  have hd := Nat.gcd_dvd_right p f.c.length
  have hg := per_goesOn f hc hd hu
  have hg0 : 0 < Nat.gcd p f.c.length := Nat.gcd_pos_of_pos_left _ hp
  have hok : okPart f.c f.r (Nat.gcd p f.c.length) = true := by
    unfold okPart
    rw [hg, Nat.mod_eq_zero_of_dvd hd]
    rfl
  have := (size_least f hc hg0 (Nat.le_of_dvd hl hd) hok).2.1
  exact Nat.le_trans this (Nat.gcd_le_left _ hp)

/-- the early integers that the period tells, too, are taken into it -/
def roll (e : List Int) (s : Int) : Nat → List Int → Nat × List Int
  | 0, c => (0, c)
  | l + 1, c => if e.getD l 0 = c.getD (c.length - 1) 0 - s then roll e s l (e.getD l 0 :: c.dropLast) else (l + 1, c)

def stepOf (c : List Int) (r : Int) : Int := r * (size c r : Int) / (c.length : Int)

/-- the least form -/
def norm (f : Fm) : Fm :=
  let q := roll f.e (stepOf f.c f.r) f.e.length (f.c.take (size f.c f.r))
  ⟨f.e.take q.1, q.2, stepOf f.c f.r⟩

theorem take_succ_getD {e : List Int} {l : Nat} (h : l < e.length) : e.take (l + 1) = e.take l ++ [e.getD l 0] := by
  rw [List.take_add_one, List.getD_eq_getElem?_getD, List.getElem?_eq_getElem h]
  rfl

/-- one turn of the roll tells the same -/
theorem roll_step {e c : List Int} {s : Int} {l : Nat} (hl : l < e.length) (hc : c ≠ []) (h : e.getD l 0 = c.getD (c.length - 1) 0 - s) :
    ∀ n, tell ⟨e.take l, e.getD l 0 :: c.dropLast, s⟩ n = tell ⟨e.take (l + 1), c, s⟩ n := by
  have hp : 0 < c.length := List.length_pos_iff.mpr hc
  have len1 : (e.take l).length = l := by rw [List.length_take]; omega
  have len2 : (e.take (l + 1)).length = l + 1 := by rw [List.length_take]; omega
  have lenc : (e.getD l 0 :: c.dropLast).length = c.length := by rw [List.length_cons, List.length_dropLast]; omega
  intro n
  by_cases h1 : n < l
  · unfold tell
    simp only [len1, len2]
    rw [if_pos h1, if_pos (by omega)]
    simp only [List.getD_eq_getElem?_getD]
    rw [List.getElem?_take_of_lt h1, List.getElem?_take_of_lt (by omega)]
  · have Pa := tell_per ⟨e.take l, e.getD l 0 :: c.dropLast, s⟩ (by simp)
    have Pb := tell_per ⟨e.take (l + 1), c, s⟩ hc
    simp only [len1, len2, lenc] at Pa Pb
    -- both go on from l on
    have at0 : ∀ i, i < c.length → tell ⟨e.take l, e.getD l 0 :: c.dropLast, s⟩ (l + i) = (e.getD l 0 :: c.dropLast).getD i 0 := by
      intro i hi
      have := tell_longer ⟨e.take l, e.getD l 0 :: c.dropLast, s⟩ (i := i) (by simp only [lenc]; omega)
      simp only [len1] at this
      rw [this, longer_getD (by rw [lenc]; omega), lenc, Nat.mod_eq_of_lt hi, Nat.div_eq_of_lt hi]
      simp
    have atb : ∀ i, i < c.length → tell ⟨e.take (l + 1), c, s⟩ (l + 1 + i) = c.getD i 0 := by
      intro i hi
      have := tell_longer ⟨e.take (l + 1), c, s⟩ (i := i) (by show i < 2 * c.length; omega)
      simp only [len2] at this
      rw [this, longer_getD (by omega), Nat.mod_eq_of_lt hi, Nat.div_eq_of_lt hi]
      simp
    have atbl : tell ⟨e.take (l + 1), c, s⟩ l = e.getD l 0 := by
      unfold tell
      simp only [len2]
      rw [if_pos (by omega)]
      simp only [List.getD_eq_getElem?_getD]
      rw [List.getElem?_take_of_lt (by omega)]
    have Pb' : Per (tell ⟨e.take (l + 1), c, s⟩) c.length s l := by
      intro m hm
      by_cases e1 : m = l
      · rw [e1, atbl, h]
        have q := atb (c.length - 1) (by omega)
        have e2 : l + 1 + (c.length - 1) = l + c.length := by omega
        rw [e2] at q
        rw [q]
        omega
      · exact Pb m (by omega)
    refine per_agree hp Pa Pb' ?_ n (by omega)
    intro m h2 h3
    have e1 : m = l + (m - l) := by omega
    by_cases e2 : m = l
    · rw [e2, atbl]
      have := at0 0 hp
      rw [Nat.add_zero] at this
      rw [this]
      rfl
    · have q1 := at0 (m - l) (by omega)
      have q2 := atb (m - l - 1) (by omega)
      rw [← e1] at q1
      have e3 : l + 1 + (m - l - 1) = m := by omega
      rw [e3] at q2
      rw [q1, q2]
      obtain ⟨j, hj⟩ : ∃ j, m - l = j + 1 := ⟨m - l - 1, by omega⟩
      rw [hj, List.getD_cons_succ, Nat.add_sub_cancel]
      simp only [List.getD_eq_getElem?_getD]
      rw [List.getElem?_dropLast, if_pos (by omega)]

theorem roll_spec {e : List Int} {s : Int} : ∀ (l : Nat) (c : List Int), l ≤ e.length → c ≠ [] →
    (roll e s l c).1 ≤ l ∧ (roll e s l c).2.length = c.length ∧
    (∀ n, tell ⟨e.take (roll e s l c).1, (roll e s l c).2, s⟩ n = tell ⟨e.take l, c, s⟩ n) ∧
    ((roll e s l c).1 = 0 ∨ e.getD ((roll e s l c).1 - 1) 0 ≠ (roll e s l c).2.getD (c.length - 1) 0 - s)
  | 0, c, _, _ => ⟨Nat.le_refl _, rfl, fun _ => rfl, .inl rfl⟩
  | l + 1, c, hl, hc => by
    have hp : 0 < c.length := List.length_pos_iff.mpr hc
    unfold roll
    by_cases h : e.getD l 0 = c.getD (c.length - 1) 0 - s
    · rw [if_pos h]
      have lenc : (e.getD l 0 :: c.dropLast).length = c.length := by rw [List.length_cons, List.length_dropLast]; omega
      obtain ⟨a1, a2, a3, a4⟩ := roll_spec (e := e) (s := s) l (e.getD l 0 :: c.dropLast) (by omega) (by simp)
      rw [lenc] at a2 a4
      exact ⟨by omega, a2, fun n => (a3 n).trans (roll_step (by omega) hc h n), a4⟩
    · rw [if_neg h]
      exact ⟨Nat.le_refl _, rfl, fun _ => rfl, .inr h⟩

theorem take_size (f : Fm) (hc : f.c ≠ []) : f.c.take (size f.c f.r) ≠ [] ∧ (f.c.take (size f.c f.r)).length = size f.c f.r := by
  obtain ⟨h1, h2, _⟩ := size_spec f hc
  have hl : (f.c.take (size f.c f.r)).length = size f.c f.r := by rw [List.length_take]; omega
  refine ⟨fun e => ?_, hl⟩
  rw [e] at hl
  simp at hl
  omega

/-- the period's least part tells the same -/
theorem tell_part (f : Fm) (hc : f.c ≠ []) : ∀ n, tell ⟨f.e, f.c.take (size f.c f.r), stepOf f.c f.r⟩ n = tell f n := by
  obtain ⟨h1, h2, h3, _⟩ := size_spec f hc
  obtain ⟨n1, n2⟩ := take_size f hc
  have hg : goesOn f.c f.r (size f.c f.r) = true := by
    unfold okPart at h3
    exact (Bool.and_eq_true_iff.mp h3).2
  have P := (goesOn_per f hc h2 hg).1
  have Pa := tell_per ⟨f.e, f.c.take (size f.c f.r), stepOf f.c f.r⟩ n1
  simp only [n2] at Pa
  intro n
  by_cases hn : n < f.e.length
  · unfold tell
    rw [if_pos hn, if_pos hn]
  · refine per_agree (by omega) Pa P (fun m q1 q2 => ?_) n (by omega)
    have e1 : m = f.e.length + (m - f.e.length) := by omega
    have w1 := tell_longer ⟨f.e, f.c.take (size f.c f.r), stepOf f.c f.r⟩ (i := m - f.e.length) (by simp only [n2]; omega)
    have w2 := tell_longer f (i := m - f.e.length) (by omega)
    rw [← e1] at w2
    have w1' : tell ⟨f.e, f.c.take (size f.c f.r), stepOf f.c f.r⟩ m = (longer (f.c.take (size f.c f.r)) (stepOf f.c f.r)).getD (m - f.e.length) 0 := by
      have e0 : tell ⟨f.e, f.c.take (size f.c f.r), stepOf f.c f.r⟩ m = tell ⟨f.e, f.c.take (size f.c f.r), stepOf f.c f.r⟩ (f.e.length + (m - f.e.length)) := by rw [← e1]
      rw [e0]
      exact w1
    rw [w1', w2, longer_getD (by rw [n2]; omega), longer_getD (c := f.c) (by omega)]
    rw [n2, Nat.mod_eq_of_lt (by omega : m - f.e.length < size f.c f.r), Nat.mod_eq_of_lt (by omega : m - f.e.length < f.c.length), Nat.div_eq_of_lt (by omega : m - f.e.length < size f.c f.r),
      Nat.div_eq_of_lt (by omega : m - f.e.length < f.c.length)]
    simp only [List.getD_eq_getElem?_getD]
    rw [List.getElem?_take_of_lt (by omega)]
    simp

/-- a least form -/
structure Least (f : Fm) : Prop where
  ne : f.c ≠ []
  per : ∀ p s a, 0 < p → Per (tell f) p s a → f.c.length ≤ p
  early : f.e = [] ∨ tell f (f.e.length - 1 + f.c.length) ≠ tell f (f.e.length - 1) + f.r

theorem norm_tell (f : Fm) (hc : f.c ≠ []) : ∀ n, tell (norm f) n = tell f n := by
  obtain ⟨n1, n2⟩ := take_size f hc
  obtain ⟨a1, a2, a3, a4⟩ := roll_spec (e := f.e) (s := stepOf f.c f.r) f.e.length (f.c.take (size f.c f.r)) (Nat.le_refl _) n1
  intro n
  have := a3 n
  rw [List.take_length] at this
  exact this.trans (tell_part f hc n)

theorem norm_len (f : Fm) (hc : f.c ≠ []) : (norm f).c.length = size f.c f.r ∧ (norm f).c ≠ [] := by
  obtain ⟨n1, n2⟩ := take_size f hc
  obtain ⟨h1, _⟩ := size_spec f hc
  obtain ⟨a1, a2, a3, a4⟩ := roll_spec (e := f.e) (s := stepOf f.c f.r) f.e.length (f.c.take (size f.c f.r)) (Nat.le_refl _) n1
  have e : (norm f).c.length = size f.c f.r := a2.trans n2
  refine ⟨e, fun z => ?_⟩
  rw [z] at e
  simp at e
  omega

theorem norm_least (f : Fm) (hc : f.c ≠ []) : Least (norm f) := by
  obtain ⟨n1, n2⟩ := take_size f hc
  obtain ⟨h1, h2, _⟩ := size_spec f hc
  obtain ⟨a1, a2, a3, a4⟩ := roll_spec (e := f.e) (s := stepOf f.c f.r) f.e.length (f.c.take (size f.c f.r)) (Nat.le_refl _) n1
  obtain ⟨l1, l2⟩ := norm_len f hc
  refine ⟨l2, fun p s a hp h => ?_, ?_⟩
  · rw [l1]
    refine size_min f hc hp (s := s) (a := a) fun n hn => ?_
    have := h n hn
    rw [norm_tell f hc, norm_tell f hc] at this
    exact this
  · have el : (norm f).e.length = (roll f.e (stepOf f.c f.r) f.e.length (f.c.take (size f.c f.r))).1 := by
      show (f.e.take _).length = _
      rw [List.length_take]
      omega
    rcases a4 with z | z
    · refine .inl (List.length_eq_zero_iff.mp ?_)
      rw [el, z]
    · by_cases z0 : (norm f).e.length = 0
      · exact .inl (List.length_eq_zero_iff.mp z0)
      · refine .inr fun q => z ?_
        rw [← el]
        have e1 : (norm f).e.length - 1 + (norm f).c.length = (norm f).e.length + ((norm f).c.length - 1) := by omega
        rw [e1, tell_longer _ (by omega), longer_getD (by omega), Nat.mod_eq_of_lt (by omega), Nat.div_eq_of_lt (by omega)] at q
        have e2 : tell (norm f) ((norm f).e.length - 1) = f.e.getD ((norm f).e.length - 1) 0 := by
          unfold tell
          rw [if_pos (by omega)]
          show (f.e.take _).getD _ 0 = _
          simp only [List.getD_eq_getElem?_getD]
          rw [List.getElem?_take_of_lt (by omega)]
        rw [e2] at q
        have e3 : (norm f).r = stepOf f.c f.r := rfl
        have e4 : (roll f.e (stepOf f.c f.r) f.e.length (f.c.take (size f.c f.r))).2 = (norm f).c := rfl
        rw [e3] at q
        rw [e4, n2, ← l1]
        rw [show ((0 : Nat) : Int) * stepOf f.c f.r = 0 by simp] at q
        omega

/-- two least forms that tell the same are one -/
theorem least_unique {f g : Fm} (hf : Least f) (hg : Least g) (h : ∀ n, tell f n = tell g n) : f = g := by
  have hpf : 0 < f.c.length := List.length_pos_iff.mpr hf.ne
  have hpg : 0 < g.c.length := List.length_pos_iff.mpr hg.ne
  have hfun : tell f = tell g := funext h
  have Pf := tell_per f hf.ne
  have Pg := tell_per g hg.ne
  have hc : f.c.length = g.c.length := by
    have q1 := hf.per g.c.length g.r g.e.length hpg (by rw [hfun]; exact Pg)
    have q2 := hg.per f.c.length f.r f.e.length hpf (by rw [← hfun]; exact Pf)
    omega
  have hr : f.r = g.r := by
    have q1 := Pf (f.e.length + g.e.length) (by omega)
    have q2 := Pg (f.e.length + g.e.length) (by omega)
    rw [hfun, hc] at q1
    omega
  have he : f.e.length = g.e.length := by
    rcases Nat.lt_trichotomy f.e.length g.e.length with z | z | z
    · rcases hg.early with q | q
      · rw [q] at z
        simp at z
      · refine absurd ?_ q
        have := Pf (g.e.length - 1) (by omega)
        rw [hfun, hc, hr] at this
        exact this
    · exact z
    · rcases hf.early with q | q
      · rw [q] at z
        simp at z
      · refine absurd ?_ q
        have := Pg (f.e.length - 1) (by omega)
        rw [← hfun, ← hc, ← hr] at this
        exact this
  have e1 : f.e = g.e := by
    refine List.ext_getElem he fun i h1 h2 => ?_
    have q := h i
    unfold tell at q
    rw [if_pos h1, if_pos h2] at q
    simpa [List.getD_eq_getElem?_getD, h1, h2] using q
  have e2 : f.c = g.c := by
    refine List.ext_getElem hc fun i h1 h2 => ?_
    have q := h (f.e.length + i)
    have w1 := tell_longer f (i := i) (by omega)
    have w2 := tell_longer g (i := i) (by omega)
    rw [← he] at w2
    rw [w1, w2, longer_getD (by omega), longer_getD (by omega), Nat.mod_eq_of_lt h1, Nat.mod_eq_of_lt h2, Nat.div_eq_of_lt h1, Nat.div_eq_of_lt h2] at q
    simpa [List.getD_eq_getElem?_getD, h1, h2] using q
  obtain ⟨a, b, c⟩ := f
  obtain ⟨a', b', c'⟩ := g
  simp only at e1 e2 hr
  rw [e1, e2, hr]

/-- what the law asks of two forms: so many integers are compared -/
def told (f g : Fm) : Bool := (List.range (max f.e.length g.e.length + f.c.length * g.c.length + 1)).all fun n => decide (tell f n = tell g n)

theorem told_iff (f g : Fm) (hf : f.c ≠ []) (hg : g.c ≠ []) : told f g = true ↔ ∀ n, tell f n = tell g n := by
  constructor
  · intro h
    have hall : ∀ n, n ≤ max f.e.length g.e.length + f.c.length * g.c.length → tell f n = tell g n := fun n hn =>
      of_decide_eq_true (List.all_eq_true.mp h n (List.mem_range.mpr (by omega)))
    have hpf : 0 < f.c.length := List.length_pos_iff.mpr hf
    have hpg : 0 < g.c.length := List.length_pos_iff.mpr hg
    have hpp : 0 < f.c.length * g.c.length := Nat.mul_pos hpf hpg
    have Pf := ((tell_per f hf).times g.c.length).later (Nat.le_max_left f.e.length g.e.length)
    have Pg := ((tell_per g hg).times f.c.length).later (Nat.le_max_right f.e.length g.e.length)
    rw [Nat.mul_comm] at Pf
    have er : (g.c.length : Int) * f.r = (f.c.length : Int) * g.r := by
      have q1 := Pf _ (Nat.le_refl _)
      have q2 := Pg _ (Nat.le_refl _)
      rw [hall _ (Nat.le_refl _), q2, hall _ (by omega)] at q1
      omega
    rw [er] at Pf
    intro n
    by_cases hn : n < max f.e.length g.e.length
    · exact hall n (by omega)
    · exact per_agree hpp Pf Pg (fun m _ h2 => hall m (by omega)) n (by omega)
  · intro h
    exact List.all_eq_true.mpr fun n _ => decide_eq_true (h n)

/-- THE LAW of equality: the least forms are one just if the same is told -/
theorem told_eq (f g : Fm) (hf : f.c ≠ []) (hg : g.c ≠ []) : told f g = decide (norm f = norm g) := by
  by_cases h : told f g = true
  · have h1 := (told_iff f g hf hg).mp h
    have e : norm f = norm g := least_unique (norm_least f hf) (norm_least g hg) fun n => by rw [norm_tell f hf, norm_tell g hg, h1]
    rw [h, e]
    simp
  · have e : ¬ norm f = norm g := fun q => h ((told_iff f g hf hg).mpr fun n => by rw [← norm_tell f hf, ← norm_tell g hg, q])
    rw [decide_eq_false e]
    simpa using h

/-! ### the pace -/
def paceTop (f : Fm) : Int := (norm f).r / ((Nat.gcd (norm f).r.natAbs (norm f).c.length : Nat) : Int)
def paceBot (f : Fm) : Int := ((norm f).c.length : Int) / ((Nat.gcd (norm f).r.natAbs (norm f).c.length : Nat) : Int)

theorem step_eq (f : Fm) (hc : f.c ≠ []) : (norm f).r * (f.c.length : Int) = f.r * ((norm f).c.length : Int) := by
  obtain ⟨h1, h2, h3, _⟩ := size_spec f hc
  have hg : goesOn f.c f.r (size f.c f.r) = true := by
    unfold okPart at h3
    exact (Bool.and_eq_true_iff.mp h3).2
  have hm := (goesOn_per f hc h2 hg).2
  rw [(norm_len f hc).1]
  show f.r * (size f.c f.r : Int) / (f.c.length : Int) * (f.c.length : Int) = _
  exact Int.ediv_mul_cancel (Int.dvd_of_emod_eq_zero hm)

theorem pace_spec (f : Fm) (hc : f.c ≠ []) : 1 ≤ paceBot f ∧ paceBot f ≤ (f.c.length : Int) ∧ paceTop f * (f.c.length : Int) = paceBot f * f.r ∧
    ∀ k : Int, 2 ≤ k → paceTop f % k ≠ 0 ∨ paceBot f % k ≠ 0 := by
  obtain ⟨l1, l2⟩ := norm_len f hc
  obtain ⟨s1, s2, _⟩ := size_spec f hc
  have hl : 0 < (norm f).c.length := List.length_pos_iff.mpr l2
  have hg0 : 0 < Nat.gcd (norm f).r.natAbs (norm f).c.length := Nat.gcd_pos_of_pos_right _ hl
  have d1 : ((Nat.gcd (norm f).r.natAbs (norm f).c.length : Nat) : Int) ∣ (norm f).r := Int.dvd_natAbs.mp (Int.natCast_dvd_natCast.mpr (Nat.gcd_dvd_left _ _))
  have d2 : ((Nat.gcd (norm f).r.natAbs (norm f).c.length : Nat) : Int) ∣ ((norm f).c.length : Int) := Int.natCast_dvd_natCast.mpr (Nat.gcd_dvd_right _ _)
  have e1 : paceTop f * ((Nat.gcd (norm f).r.natAbs (norm f).c.length : Nat) : Int) = (norm f).r := Int.ediv_mul_cancel d1
  have e2 : paceBot f * ((Nat.gcd (norm f).r.natAbs (norm f).c.length : Nat) : Int) = ((norm f).c.length : Int) := Int.ediv_mul_cancel d2
  have hG : (0 : Int) < ((Nat.gcd (norm f).r.natAbs (norm f).c.length : Nat) : Int) := by omega
  have b1 : 1 ≤ paceBot f := by
    have : 0 < paceBot f := by
      rcases Int.lt_or_le 0 (paceBot f) with z | z
      · exact z
      · have := Int.mul_le_mul_of_nonneg_right z (Int.le_of_lt hG)
        omega
    omega
  refine ⟨b1, ?_, ?_, fun k hk => ?_⟩
  · have q : paceBot f * 1 ≤ paceBot f * ((Nat.gcd (norm f).r.natAbs (norm f).c.length : Nat) : Int) := Int.mul_le_mul_of_nonneg_left (by omega) (by omega)
    rw [e2] at q
    omega
  · have q := step_eq f hc
    rw [← e1, ← e2] at q
    have q2 : (paceTop f * (f.c.length : Int)) * ((Nat.gcd (norm f).r.natAbs (norm f).c.length : Nat) : Int) = (paceBot f * f.r) * ((Nat.gcd (norm f).r.natAbs (norm f).c.length : Nat) : Int) := by
      rw [Int.mul_right_comm, q]
      rw [← Int.mul_assoc, Int.mul_comm f.r (paceBot f)]
    exact Int.eq_of_mul_eq_mul_right (by omega) q2
  · by_cases h1 : paceTop f % k = 0
    · by_cases h2 : paceBot f % k = 0
      · exfalso
        have k1 : k ∣ paceTop f := Int.dvd_of_emod_eq_zero h1
        have k2 : k ∣ paceBot f := Int.dvd_of_emod_eq_zero h2
        have m1 : (k * ((Nat.gcd (norm f).r.natAbs (norm f).c.length : Nat) : Int)) ∣ (norm f).r := by
          have z := Int.mul_dvd_mul_right ((Nat.gcd (norm f).r.natAbs (norm f).c.length : Nat) : Int) k1
          rw [e1] at z
          exact z
        have m2 : (k * ((Nat.gcd (norm f).r.natAbs (norm f).c.length : Nat) : Int)) ∣ ((norm f).c.length : Int) := by
          have z := Int.mul_dvd_mul_right ((Nat.gcd (norm f).r.natAbs (norm f).c.length : Nat) : Int) k2
          rw [e2] at z
          exact z
        have n1 := Int.natAbs_dvd_natAbs.mpr m1
        have n2 := Int.natAbs_dvd_natAbs.mpr m2
        rw [Int.natAbs_mul, Int.natAbs_natCast] at n1 n2
        rw [Int.natAbs_natCast] at n2
        have n3 := Nat.dvd_gcd n1 n2
        have n4 := Nat.le_of_dvd hg0 n3
        have n5 : 2 * Nat.gcd (norm f).r.natAbs (norm f).c.length ≤ k.natAbs * Nat.gcd (norm f).r.natAbs (norm f).c.length := Nat.mul_le_mul_right _ (by omega)
        omega
      · exact .inr h2
    · exact .inl h1
end L2.K18

namespace L2.K18
open PySem PySem.Spec
open PyProof.Rows

/-! ### a target o.f -/
def gFld (K : PySem.W.Frag) (ta : TE) (f : Str) : TG := fun v σ H Q => ta σ H fun x H1 =>
  ∃ a C dx fs, x = .ref a ∧ H1 a = some (.ins C dx fs) ∧ Cls K C ∧ NoAttr K C f ∧ fs.length < 1000 ∧ Q σ (upd H1 a (.ins C dx (putF f v fs)))
section
variable {X : Cx}
theorem pg_fld {o : Expr} {f : Str} {pos : Pos} {ta : TE} (ha : PE X o ta) : PG X (.Attribute o f pos) (gFld X.K ta f) := by
  refine ⟨fun pins s σ H v u Q I rv h => ?_⟩
  rw [PySem.arm_assign_Attribute]
  refine wpAny_bind (wpAny_holding (thn (ha.run pins s σ H _ I h) fun ov s1 ⟨x, H1, I1, rx, a, C, dx, fs, ex, ea, c, n, l, q⟩ => ?_))
  subst ex
  obtain rfl : ov = Value.ref a := rx
  refine wpAny_bind (wpAny_standAt (wpAny_bind (wpAny_holding ?_)))
  exact setattr_ok I1 ea c n l rv fun s2 I2 => wpAny_release ⟨σ, _, I2, q⟩
end

/-! ### own == of anything, != that leans on it, and == from the other side -/
section
variable {prog : Program} {w : World} {A : Around} {E : Value → Shared → Prop} {s : Shared} {K : PySem.W.Frag} {x C f : Addr} {ox : Obj} {od : Option Obj} {u : Value}

theorem gives_ne_object {Q : Fin → Shared → Prop} (hu : A.units < cLine) (X : K.In s.heap) (J : PySem.W.InstAt s.heap x ox C od) (hs : PySem.W.findIn K (.ref C) "__eq__" = some (some (.ref f))) (hf : PySem.W.isFn K (.ref f) = true)
    (h : wpAny (model prog w) A (call (.ref f) [.ref x, u]) (fun v s' => ∃ b, v = .bool b ∧ Q (.done (.ret (.bool (!b)))) s') E s) :
    wpAny (model prog w) A (Builtin.«object.__ne__» ⟨[.ref x, u], []⟩) Q E s := by
  unfold Builtin.«object.__ne__»
  refine wpAny_bind (m := slotArgs "__ne__" 1 _) (wpAny_pure ?_)
  refine wpAny_bind (wpAny_cRoomFor hu ?_)
  refine wpAny_bind (m := callSpecialIfBound? (.ref x) (Str.ofString "__eq__") [u]) (PySem.W.ifBound_K X J hs hf (wpAny_mono h (fun v s' z => ?_) fun _ _ e => e))
  obtain ⟨b, rfl, q⟩ := z
  refine wpAny_bind (m := truthy (.bool b)) (wpAny_truthy_bool ?_)
  exact wpAny_pure q

theorem ifBound_ne {args : List Value} {Q : Option Value → Shared → Prop} (X : K.In s.heap) (J : PySem.W.InstAt s.heap x ox C od) (hs : PySem.W.findIn K (.ref C) "__ne__" = some (some (.builtin "object.__ne__")))
    (h : wpAny (model prog w) A (call (.builtin "object.__ne__") (.ref x :: args)) (fun v => Q (some v)) E s) : wpAny (model prog w) A (callSpecialIfBound? (.ref x) "__ne__" args) Q E s := by
  have fin : wpAny (model prog w) A (call (.builtin "object.__ne__") ([.ref x] ++ args) >>= fun v => pure (some v)) Q E s :=
    wpAny_bind (wpAny_mono h (fun v s' z => wpAny_pure z) fun _ _ z => z)
  unfold callSpecialIfBound? bindSpecialIfBound?
  simp only [specialOf]
  refine wpAny_holding (wpAny_bind (wpAny_bind (wpAny_bind (J.type.here ((PySem.W.looks_findIn X hs).here ?_)))))
  refine wpAny_bind (wpAny_askSetting (wpAny_ite ?_))
  split
  · exact wpAny_bind (wpAny_of_eq (F.cmp_object.ne.bind _) (wpAny_pure (by exact fin)))
  · exact wpAny_tryCatch (wpAny_bind (wpAny_of_eq (F.cmp_object.ne.bind _) (wpAny_pure (by exact fin))))

/-- x != u by the own == of x -/
theorem rc_ne_own {tb : Value} {Q : Value → Shared → Prop} (hu : A.units + 1 < cLine) (X : K.In s.heap) (J : PySem.W.InstAt s.heap x ox C od) (hb : PySem.W.Looks (model prog w) s.heap (typeOf u) tb) (hn : PySem.W.notFirst K C tb = true)
    (hN : PySem.W.findIn K (.ref C) "__ne__" = some (some (.builtin "object.__ne__"))) (hm : PySem.W.mroIn K C (.type "object") = some true)
    (hs : PySem.W.findIn K (.ref C) "__eq__" = some (some (.ref f))) (hf : PySem.W.isFn K (.ref f) = true)
    (h : wpAny (model prog w) A.in1 (call (.ref f) [.ref x, u]) (fun v s' => ∃ b, v = .bool b ∧ Q (.bool (!b)) s') E s) :
    wpAny (model prog w) A (richCompare .NotEq (.ref x) u) Q E s := by
  have one : wpAny (model prog w) A (tryCompare (.ref x) "__ne__" u) (fun r s' => ∃ v, r = some v ∧ Q v s') E s := by
    unfold tryCompare
    refine wpAny_bind (ifBound_ne X J hN ?_)
    refine wpAny_call (codeAny_call_builtin F.cmp_object.ne.plain F.cmpEntry_ne (PySem.W.check_slot F.cmpKind_ne F.cmpSplit_ne (J.type.andThen (PySem.W.looks_mroIn X hm)) (F.cmpArgs_ne _ _) ?_))
    refine gives_ne_object (A := A.in1) (by show A.units + 1 < cLine; exact hu) X J hs hf (wpAny_mono h (fun v s' z => ?_) fun _ _ z => z)
    obtain ⟨b, rfl, q⟩ := z
    exact ⟨b, rfl, wpAny_pure ⟨_, rfl, q⟩⟩
  unfold richCompare
  simp only [oneThing_ref]
  rw [cmpInfo_NotEq]
  refine wpAny_holding (wpAny_bind (wpAny_cRoomFor (by omega) ?_))
  refine wpAny_bind (J.type.here (wpAny_bind (hb.here ?_)))
  split
  · rename_i q
    have e : PySem.W.subIn K tb (.ref C) = some false := by
      rcases Bool.or_eq_true_iff.mp hn with e | e
      · rw [beq_iff_eq.mp e] at q
        simp at q
      · exact beq_iff_eq.mp e
    refine wpAny_bind ((PySem.W.looks_subIn X e).here ?_)
    simp only [Bool.false_eq_true, if_false]
    refine wpAny_bind (wpAny_mono one (fun r s' z => ?_) fun _ _ z => z)
    obtain ⟨v, rfl, hq⟩ := z
    exact wpAny_pure hq
  · refine wpAny_bind (wpAny_pure ?_)
    simp only [Bool.false_eq_true, if_false]
    refine wpAny_bind (wpAny_mono one (fun r s' z => ?_) fun _ _ z => z)
    obtain ⟨v, rfl, hq⟩ := z
    exact wpAny_pure hq

/-- u == x, u of a built-in type whose own == declines: x is asked -/
theorem rc_eq_back {T id : String} {Q : Value → Shared → Prop} (hu : A.units < cLine) (X : K.In s.heap) (J : PySem.W.InstAt s.heap x ox C od) (hT : s.TypeIs u T) (slot : Slot T "__eq__" id)
    (hc : ∀ Q' : Value → Shared → Prop, Q' .notImplemented s → wpAny (model prog w) A (call (.builtin id) [u, .ref x]) Q' E s) (hm : PySem.W.mroIn K C (.type T) = some false)
    (hs : PySem.W.findIn K (.ref C) "__eq__" = some (some (.ref f))) (hf : PySem.W.isFn K (.ref f) = true)
    (h : wpAny (model prog w) A (call (.ref f) [.ref x, u]) (fun v s' => ∃ b, v = .bool b ∧ Q (.bool b) s') E s) :
    wpAny (model prog w) A (richCompare .Eq u (.ref x)) Q E s := by
  have two : wpAny (model prog w) A (tryCompare (.ref x) "__eq__" u) (fun r s' => ∃ v, r = some v ∧ Q v s') E s := by
    unfold tryCompare
    refine wpAny_bind (PySem.W.ifBound_K X J hs hf (wpAny_mono h (fun v s' z => ?_) fun _ _ z => z))
    obtain ⟨b, rfl, q⟩ := z
    exact wpAny_pure ⟨_, rfl, q⟩
  unfold richCompare
  simp only [hT.oneThing_none]
  rw [cmpInfo_Eq]
  refine wpAny_holding (wpAny_bind (wpAny_cRoomFor hu ?_))
  refine wpAny_bind (wpAny_typeOf hT (wpAny_bind (J.type.here ?_)))
  have hne : (Value.type T != Value.ref C) = true := by simp
  simp only [hne, if_true]
  refine wpAny_bind ((PySem.W.looks_mroIn X hm).here ?_)
  simp only [Bool.false_eq_true, if_false, Bool.not_false, if_true]
  refine wpAny_bind (m := tryCompare u _ (.ref x)) (wpAny_tryCompare_declines hT slot (hc _ ⟨rfl, ?_⟩))
  refine wpAny_bind (m := tryCompare (.ref x) _ u) (wpAny_mono two (fun r s' z => ?_) fun _ _ z => z)
  obtain ⟨v, rfl, hq⟩ := z
  exact wpAny_pure hq
end
end L2.K18

namespace L2.K18
open PySem PySem.Spec
open PyProof.Rows

section
variable {X : Cx} {CX : CXT} {k : Nat} {f C : Addr} {fd : FuncData} {ps : List Str} {sp : Sp} {E : XK}

/-- a callee that runs one C call deeper -/
theorem run_in1 {pins : List (Addr × Obj)} {σ : St} {H : Hp} {s : Shared} {Q : VK} {us : List Value} {vs : List V} (G : FnOk X.prog X.w X.K X.mg X.base CX k f fd ps sp) (hr : Room (k + 1) X.A) (hb : Binds X.K fd ps [])
    (hx : Passes CX X E) (I : Inv X pins σ H s) (r : Vals vs us) (h : sp vs H Q E) : wpAny (model X.prog X.w) X.A.in1 (call (.ref f) us) (EP X pins σ Q) X.xe s := by
  have hl : (us ++ []).length = ps.length := by rw [List.append_nil, ← r.length]; exact G.len _ _ _ _ h
  have hB := hb s us I.kIn hl
  rw [List.append_nil] at hB
  refine wpAny_call (codeAny_mono (G.run X.A.in1 X.stack s H ⟨us, []⟩ us vs Q E hr.in1 I.env0.in1 hB r h) fun r s' hq => ?_)
  rcases r with e | fl
  · exact hx pins σ H s e s' I hq
  · cases fl with
    | ret u => exact I.after hq
    | _ => exact False.elim hq
theorem run_at {pins : List (Addr × Obj)} {σ : St} {H : Hp} {s : Shared} {Q : VK} {us : List Value} {vs : List V} (G : FnOk X.prog X.w X.K X.mg X.base CX k f fd ps sp) (hr : Room k X.A) (hb : Binds X.K fd ps [])
    (hx : Passes CX X E) (I : Inv X pins σ H s) (r : Vals vs us) (h : sp vs H Q E) : wpAny (model X.prog X.w) X.A (call (.ref f) us) (EP X pins σ Q) X.xe s :=
  run_fn (dvs := []) (ds := []) G hr hb .nil hx I r (by rw [List.append_nil]; exact h)

/-- the class at C has its own ==, by the def at f -/
structure OwnEq (K : PySem.W.Frag) (C f : Addr) : Prop where
  eq : PySem.W.findIn K (.ref C) "__eq__" = some (some (.ref f))
  fn : PySem.W.isFn K (.ref f) = true
  ne : PySem.W.findIn K (.ref C) "__ne__" = some (some (.builtin "object.__ne__"))
  ob : PySem.W.mroIn K C (.type "object") = some true
  none_ : PySem.W.mroIn K C (.type "NoneType") = some false
  int_ : PySem.W.mroIn K C (.type "int") = some false
  str_ : PySem.W.mroIn K C (.type "str") = some false
  tup_ : PySem.W.mroIn K C (.type "tuple") = some false
  lst_ : PySem.W.mroIn K C (.type "list") = some false

/-- x == y, x of the class at C; y of a type that is not below it -/
def rEqO (K : PySem.W.Frag) (C : Addr) (sp : Sp) (E : XK) : R2 := fun x y H Q => ∃ a dx fs t, x = .ref a ∧ H a = some (.ins C dx fs) ∧ TyX K H y t ∧ PySem.W.notFirst K C t = true ∧
  sp [x, y] H (fun v H' => ∃ b, v = .bl b ∧ Q (.bl b) H') E
def rNeO (K : PySem.W.Frag) (C : Addr) (sp : Sp) (E : XK) : R2 := fun x y H Q => ∃ a dx fs t, x = .ref a ∧ H a = some (.ins C dx fs) ∧ TyX K H y t ∧ PySem.W.notFirst K C t = true ∧
  sp [x, y] H (fun v H' => ∃ b, v = .bl b ∧ Q (.bl (!b)) H') E
theorem op_eqO (G : FnOk X.prog X.w X.K X.mg X.base CX k f fd ps sp) (O : OwnEq X.K C f) (hr : Room k X.A) (hb : Binds X.K fd ps []) (hx : Passes CX X E) : OpR X (compareOp .Eq) (rEqO X.K C sp E) := by
  intro pins s σ H x y v u Q I rx ry h
  obtain ⟨a, dx, fs, t, rfl, ea, ty, hn, q⟩ := h
  have ev : v = Value.ref a := rx
  subst ev
  obtain ⟨mA, J, _⟩ := ins_get I.hok ea
  obtain ⟨od, J, _⟩ := J.look
  obtain ⟨P, Z, p, _⟩ := kit_of I ry ty
  obtain ⟨m, hF⟩ := I.fr
  refine PySem.W.cmp_K (op := .Eq) hr.units0 hF I.ok.mod.kin J (Z.ty _ _ I.kIn p) hn O.eq O.fn ?_
  refine wpAny_mono (run_at G hr hb hx I (vs := [.ref a, y]) (us := [.ref a, u]) (.cons rfl (.cons ry .nil)) q) (fun w s' z => ?_) fun _ _ z => z
  obtain ⟨v', H', I', rv, b, eb, q'⟩ := z
  subst eb
  have ew : w = Value.bool b := rv
  subst ew
  exact ⟨.bl b, H', I', rfl, q'⟩
theorem op_neO (G : FnOk X.prog X.w X.K X.mg X.base CX k f fd ps sp) (O : OwnEq X.K C f) (hr : Room (k + 1) X.A) (hb : Binds X.K fd ps []) (hx : Passes CX X E) : OpR X (compareOp .NotEq) (rNeO X.K C sp E) := by
  intro pins s σ H x y v u Q I rx ry h
  obtain ⟨a, dx, fs, t, rfl, ea, ty, hn, q⟩ := h
  have ev : v = Value.ref a := rx
  subst ev
  obtain ⟨mA, J, _⟩ := ins_get I.hok ea
  obtain ⟨od, J, _⟩ := J.look
  obtain ⟨P, Z, p, _⟩ := kit_of I ry ty
  have hu := hr.un
  refine rc_ne_own (by omega) I.kIn J (Z.ty _ _ I.kIn p) hn O.ne O.ob O.eq O.fn ?_
  refine wpAny_mono (run_in1 G hr hb hx I (vs := [.ref a, y]) (us := [.ref a, u]) (.cons rfl (.cons ry .nil)) q) (fun w s' z => ?_) fun _ _ z => z
  obtain ⟨v', H', I', rv, b, eb, q'⟩ := z
  subst eb
  exact ⟨b, rv, .bl (!b), H', I', rfl, q'⟩
end

/-! ### the built-in ones decline -/
theorem int_declines (i : Int) (t : Tok) (x C dx : Addr) : Meets (Builtin.«int.__eq__» ⟨[.int i t, .ref x], []⟩) (fun _ R s => s.heap.get? x = some (PySem.W.instObj C dx) ∧ R (.ok (.ret .notImplemented)) s) :=
  .of_wp fun prog w A R s h => by obtain ⟨hp, g, d, tk, os⟩ := s; obtain ⟨hl, h⟩ := h; wp_walk using wpAny_loadPart' hl, wpAny_load hl; exact ⟨_, rfl, h⟩
theorem str_declines (y : Str) (t : Tok) (x C dx : Addr) : Meets (Builtin.«str.__eq__» ⟨[.str y t, .ref x], []⟩) (fun _ R s => s.heap.get? x = some (PySem.W.instObj C dx) ∧ R (.ok (.ret .notImplemented)) s) :=
  .of_wp fun prog w A R s h => by obtain ⟨hp, g, d, tk, os⟩ := s; obtain ⟨hl, h⟩ := h; wp_walk using wpAny_loadPart' hl, wpAny_load hl; exact ⟨_, rfl, h⟩
end L2.K18

namespace L2.K18
open PySem PySem.Spec PyProof.Rows
section
variable {prog : Program} {w : World} {A : Around} {E : Value → Shared → Prop} {s : Shared} {K : PySem.W.Frag} {x C l : Addr} {ox : Obj} {od : Option Obj} {items : Array Value}
theorem lst_declines {Q : Value → Shared → Prop} (X : K.In s.heap) (J : PySem.W.InstAt s.heap x ox C od) (hl : s.heap.IsList l items) (hm : PySem.W.mroIn K C (.type "list") = some false) (h : Q .notImplemented s) :
    wpAny (model prog w) A (call (.builtin "list.__eq__") [.ref l, .ref x]) Q E s := by
  refine wpAny_call_entry F.slot_list_eq hl.typeIs F.entry_list_eq ?_ (F.args_list_eq_2 _ _)
  show wpAny _ _ (slotArgs "__eq__" 1 _ >>= _) _ _ s
  refine wpAny_bind (m := slotArgs "__eq__" 1 _) (wpAny_pure ?_)
  refine wpAny_bind (m := isInstance (.ref x) (.type "list")) ?_
  unfold isInstance
  refine wpAny_bind (J.type.here ((PySem.W.looks_mroIn X hm).here ?_))
  exact wpAny_bind (wpAny_pure (wpAny_pure ⟨_, rfl, h⟩))
theorem tup_declines {Q : Value → Shared → Prop} (X : K.In s.heap) (J : PySem.W.InstAt s.heap x ox C od) (hl : s.heap.IsTuple l items) (hm : PySem.W.mroIn K C (.type "tuple") = some false) (h : Q .notImplemented s) :
    wpAny (model prog w) A (call (.builtin "tuple.__eq__") [.ref l, .ref x]) Q E s := by
  refine wpAny_call_entry F.slot_tuple_eq hl.typeIs F.entry_tuple_eq ?_ (F.args_tuple_eq_2 _ _)
  show wpAny _ _ (slotArgs "__eq__" 1 _ >>= _) _ _ s
  refine wpAny_bind (m := slotArgs "__eq__" 1 _) (wpAny_pure ?_)
  refine wpAny_bind (m := isInstance (.ref x) (.type "tuple")) ?_
  unfold isInstance
  refine wpAny_bind (J.type.here ((PySem.W.looks_mroIn X hm).here ?_))
  exact wpAny_bind (wpAny_pure (wpAny_pure ⟨_, rfl, h⟩))
end
section
variable {X : Cx} {CX : CXT} {k : Nat} {f C : Addr} {fd : FuncData} {ps : List Str} {sp : Sp} {E : XK}
/-- what stands on the left of == and knows nothing of our class -/
def Foreign (K : PySem.W.Frag) (H : Hp) (x : V) : Prop := x = .non ∨ (∃ i, x = .int i) ∨ (∃ y, x = .str y) ∨ (∃ p xs, x = .ref p ∧ SqL K H p xs) ∨ ∃ p xs, x = .ref p ∧ SqT K H p xs
def rEqB (K : PySem.W.Frag) (C : Addr) (sp : Sp) (E : XK) : R2 := fun x y H Q => ∃ a dx fs, y = .ref a ∧ H a = some (.ins C dx fs) ∧ Foreign K H x ∧ sp [y, x] H (fun v H' => ∃ b, v = .bl b ∧ Q (.bl b) H') E
theorem op_eqB (G : FnOk X.prog X.w X.K X.mg X.base CX k f fd ps sp) (O : OwnEq X.K C f) (hr : Room k X.A) (hb : Binds X.K fd ps []) (hx : Passes CX X E) : OpR X (compareOp .Eq) (rEqB X.K C sp E) := by
  intro pins s σ H x y v u Q I rx ry h
  obtain ⟨a, dx, fs, rfl, ea, fo, q⟩ := h
  have eu : u = Value.ref a := ry
  subst eu
  obtain ⟨mA, M, _⟩ := ins_get I.hok ea
  obtain ⟨od, J, _⟩ := M.look
  have hu := hr.units0
  have ho : s.heap.get? a = some (PySem.W.instObj C dx) := J.at_
  have run : wpAny (model X.prog X.w) X.A (call (.ref f) [.ref a, v]) (fun r s' => ∃ b, r = .bool b ∧ EP X pins σ Q (.bool b) s') X.xe s := by
    refine wpAny_mono (run_at G hr hb hx I (vs := [.ref a, x]) (us := [.ref a, v]) (.cons rfl (.cons rx .nil)) q) (fun w s' z => ?_) fun _ _ z => z
    obtain ⟨v', H', I', rv, b, eb, q'⟩ := z
    subst eb
    exact ⟨b, rv, .bl b, H', I', rfl, q'⟩
  show wpAny (model X.prog X.w) X.A (richCompare .Eq v (.ref a)) (EP X pins σ Q) X.xe s
  rcases fo with e | ⟨i, e⟩ | ⟨y, e⟩ | ⟨p, xs, e, hs⟩ | ⟨p, xs, e, hs⟩
  · subst e
    have ev : v = Value.none := rx
    subst ev
    exact rc_eq_back (T := "NoneType") hu I.kIn J rfl F.slot_NoneType_eq (fun Q' q' => call_gives F.slot_NoneType_eq rfl F.entry_NoneType_eq (F.args_NoneType_eq_2 _ _) (SeqAt.NoneType___eq___none_ref_0 a) q') O.none_ O.eq O.fn run
  · subst e
    obtain ⟨t, rfl⟩ := rx
    exact rc_eq_back hu I.kIn J (typeIs_int s i t) F.slot_int_eq (fun Q' q' => call_meets F.slot_int_eq (typeIs_int s i t) F.entry_int_eq (F.args_int_eq_2 _ _) (int_declines i t a C dx) ⟨ho, q'⟩) O.int_ O.eq O.fn run
  · subst e
    obtain ⟨t, rfl⟩ := rx
    exact rc_eq_back hu I.kIn J (typeIs_str s y t) F.slot_str_eq (fun Q' q' => call_meets F.slot_str_eq (typeIs_str s y t) F.entry_str_eq (F.args_str_eq_2 _ _) (str_declines y t a C dx) ⟨ho, q'⟩) O.str_ O.eq O.fn run
  · subst e
    have ev : v = Value.ref p := rx
    subst ev
    obtain ⟨its, rv, hl, _⟩ := I.list hs
    exact rc_eq_back hu I.kIn J hl.isList.typeIs F.slot_list_eq (fun Q' q' => lst_declines I.kIn J hl.isList O.lst_ q') O.lst_ O.eq O.fn run
  · subst e
    have ev : v = Value.ref p := rx
    subst ev
    obtain ⟨its, rv, hl, _⟩ := I.tuple hs
    exact rc_eq_back hu I.kIn J hl.typeIs F.slot_tuple_eq (fun Q' q' => tup_declines I.kIn J hl O.tup_ q') O.tup_ O.eq O.fn run

/-! ### repr: of data, of an instance with a __repr__ of its own -/
def rReprD (K : PySem.W.Frag) : List V → Hp → VK → Prop := fun xs H Q => ∃ p d, xs = [.ref p] ∧ Dp K H (.ref p) d ∧ d.showable = true ∧ d.hasDict = false ∧ d.depth ≤ 60 ∧ d.shown.length ≤ sizeLine ∧ Q (.str d.shown) H
theorem call_reprD (hg : X.A.guards = some []) (hr : Room k X.A) : CallR X (.builtin "repr") (rReprD X.K) := by
  intro pins s σ H xs us Q I r h
  obtain ⟨p, d, rfl, hd, h1, h2, h3, h4, q⟩ := h
  obtain ⟨u, rfl, ru⟩ := vals1 r
  have eu : u = Value.ref p := ru
  subst eu
  obtain ⟨as, R⟩ := Dp.reads I d _ _ hd ru
  have hu := hr.un
  exact repr_of_reads' R h1 (PyData.noDict_hsm h2) hg (by omega) (fun _ _ e => e) (fun h' t tk hk => ⟨.str d.shown, H, I.kept (t' := tk) hk, ⟨t, rfl⟩, q⟩) h4

structure OwnRepr (K : PySem.W.Frag) (C f : Addr) : Prop where
  at_ : PySem.W.findIn K (.ref C) "__repr__" = some (some (.ref f))
  fn : PySem.W.isFn K (.ref f) = true
def rReprO (C : Addr) (sp : Sp) (E : XK) : List V → Hp → VK → Prop := fun xs H Q => ∃ a dx fs, xs = [.ref a] ∧ H a = some (.ins C dx fs) ∧ sp [.ref a] H (fun v H' => ∃ y, v = .str y ∧ Q (.str y) H') E
theorem call_reprO (G : FnOk X.prog X.w X.K X.mg X.base CX k f fd ps sp) (O : OwnRepr X.K C f) (hr : Room (k + 1) X.A) (hb : Binds X.K fd ps []) (hx : Passes CX X E) : CallR X (.builtin "repr") (rReprO C sp E) := by
  intro pins s σ H xs us Q I r h
  obtain ⟨a, dx, fs, rfl, ea, q⟩ := h
  obtain ⟨u, rfl, ru⟩ := vals1 r
  have eu : u = Value.ref a := ru
  subst eu
  obtain ⟨mA, M, _⟩ := ins_get I.hok ea
  obtain ⟨od, J, _⟩ := M.look
  have hu := hr.un
  refine Calls.call_function_entry F.kind_repr F.plain_repr F.entry_repr (F.args_repr1 _) ?_
  unfold Builtin.«repr»
  refine wpAny_bind (m := oneArg "repr" _) (wpAny_pure ?_)
  refine wpAny_bind (wpAny_cRoomFor (by show X.A.units + 1 < cLine; omega) ?_)
  refine wpAny_bind (m := specialOf (.ref a) (Str.ofString "__repr__")) ?_
  unfold specialOf
  refine wpAny_bind (J.type.here ((PySem.W.looks_findIn I.kIn O.at_).here ?_))
  show wpAny _ _ (if (some (Value.ref f)).isNone = true then _ else _) _ _ _
  rw [if_neg (by simp)]
  refine wpAny_bind (m := callSpecialIfBound? (.ref a) (Str.ofString "__repr__") _) (PySem.W.ifBound_K I.kIn J O.at_ O.fn (wpAny_mono (run_in1 G hr hb hx I (vs := [.ref a]) (us := [.ref a]) (.cons rfl .nil) q) (fun w s' z => ?_) fun _ _ z => z))
  obtain ⟨v', H', I', rv, y, ey, q'⟩ := z
  subst ey
  obtain ⟨tk, rfl⟩ := rv
  refine wpAny_bind (wpAny_isInstance (typeIs_str _ _ _) isSubtype_str_str ?_)
  first
    | exact wpAny_pure ⟨_, rfl, .str y, H', I', ⟨tk, rfl⟩, q'⟩
    | (rw [if_pos rfl]; exact wpAny_pure ⟨_, rfl, .str y, H', I', ⟨tk, rfl⟩, q'⟩)
    | (simp only [if_true]; exact wpAny_pure ⟨_, rfl, .str y, H', I', ⟨tk, rfl⟩, q'⟩)
end
end L2.K18

/-! Defs that are known to run under no repr (HandS's FnOk does not say so): FnG; the law's end over such a def. -/
namespace L2.K18
open PySem PySem.Spec PyProof.Rows

/-- a def's promise where no repr is under way -/
structure FnG (P : Program) (w : World) (K : PySem.W.Frag) (mg : Str → Option Value) (base : Heap) (CX : CXT) (k : Nat) (f : Addr) (fd : FuncData) (ps : List Str) (sp : Sp) : Prop where
  size : ∀ vs H Q E, sp vs H Q E → vs.length = ps.length
  go : ∀ (A : Around) (outer : List Env) (s : Shared) (H : Hp) (args : Args) (us : List Value) (vs : List V) (Q : VK) (E : XK), Room k A → A.guards = some [] → Env0 P w K mg base A outer s H → BindsTo s fd args (ps.zip us) →
    Vals vs us → sp vs H Q E → codeAny (model P w) A (.call (.ref f) args) (CR CX outer P w H s Q E) s

theorem Fun.okG {P : Program} {w : World} {K : PySem.W.Frag} {mg : Str → Option Value} {base : Heap} {x qual : Str} {st : Stmt} {f : Addr} {fd : FuncData} {N ps : List Str} {k : Nat} {sp : Sp} (F : Fun K x qual st f fd) (S : FnScope N ps (defScope st))
    (len : ∀ vs H Q E, sp vs H Q E → vs.length = ps.length)
    (body : ∀ (cdv : Value) (A : Around) (outer : List Env) (s : Shared) (H : Hp) (vs : List V) (Q : VK) (E : XK), Room k (A.deeper (envOfC qual (defScope st) s.heap.objs.size f cdv)) →
      (A.deeper (envOfC qual (defScope st) s.heap.objs.size f cdv)).guards = some [] → sp vs H Q E →
      ∃ t, PSs (cxOf CX0 P w K mg base N qual (defScope st) f cdv A outer s H E).nox (defBody st) t ∧ t { nx := fun _ H' => Q .non H', rt := Q } (start N vs) H) :
    FnG P w K mg base CX0 (k + 1) f fd ps sp := by
  obtain ⟨oc, od, kV, doc, pm, an, cdv, ct, osl, rfl, lk, hcd⟩ := F.ex
  refine ⟨len, fun A outer s H args us vs Q E room hg env hB rv hsp => ?_⟩
  have KX : K.In s.heap := env.mod.kin.keeps fun b o e => (env.bs b o e).1
  have nl : s.heap.NoLimit := env.mod.nolimit.keeps fun b o e => (env.bs b o e).1
  refine codeAny_call_function room.depth (KX _ _ lk) rfl S.co S.gen rfl (PySem.W.codeRec_of KX hcd) (hB _ _ _ _ ?_)
  refine wpAny_newFunctionEnv_cells S.kind (fun ⟨n, v⟩ hy => (S.par n (List.of_mem_zip hy).1).elim .inl fun q => .inr ⟨q, PySem.W.cellsFrom_some _ _ _ (.inl q)⟩) fun e he s1 z => ?_
  subst he
  refine ⟨nl.keeps z.toInCall.keep, codeAny_func ?_⟩
  obtain ⟨t, ht, hq⟩ := body cdv A outer s H vs Q E (room.deeper _) hg hsp
  have I := inv_start (CX := CX0) (P := P) (w := w) (mg := mg) (base := base) (E := E) (H := H) S room.hd env (len _ _ _ _ hsp) rv z
  refine wpAny_mono (ht.nox.run [] s1 (start N vs) H _ I hq) (fun fl s' hs => ?_) fun _ _ q => q
  cases fl with
  | ret u =>
    obtain ⟨v, σ', H', J, rv', q⟩ := hs
    exact ⟨v, H', J.os, J.bare, J.base, J.hok, rv', q⟩
  | next =>
    obtain ⟨σ', H', J, q⟩ := hs
    exact ⟨.non, H', J.os, J.bare, J.base, J.hok, rfl, q⟩
  | brk => exact hs.elim fun _ z => z.elim fun _ z => z.2.elim
  | cont => exact hs.elim fun _ z => z.elim fun _ z => z.2.elim

def tCg (sp : Sp) (E : XK) (t : TA) : TE := fun σ H Q => t σ H fun vs H1 => sp vs H1 Q E
section
variable {X : Cx} {CX : CXT} {k : Nat} {f : Addr} {fd : FuncData} {ps : List Str} {sp : Sp} {E : XK} {x : Str} {p pos : Pos} {e : Expr} {es : List Expr} {t : TA}
theorem pe_callG (G : FnG X.prog X.w X.K X.mg X.base CX k f fd ps sp) (hu : X.A.guards = some []) (hr : Room k X.A) (hg : Gl X x) (hm : X.mg x = some (.ref f)) (hk : PySem.W.keepIn X.K (.ref f) = true) (hb : Binds X.K fd ps []) (hx : Passes CX X E)
    (ha : PA X (e :: es) t) (hdb : (x == ("__debug__" : Str)) = false := by decide) (he : starEach (e :: es) X.env = (false, eval e X.env) :: starEach es X.env := by rfl)
    (hpl : (backTo pos (starEach es X.env)).any (·.1) = false := by rfl) :
    PE X (.Call (.Name x p) (e :: es) [] pos) (tCg sp E t) := by
  refine ⟨fun pins s σ H Q I h => wpAny_Call_Name_kw (ld_glob I hg hm ?_ hdb)⟩
  refine PySem.W.callWith_K (h₀ := X.base) I.ok.mod.kin hk (thn (ha.run pos pins s σ H _ I h) fun us s1 ⟨vs, H1, I1, r, q⟩ => ⟨I1.kIn, ?_⟩) he hpl
  have hl : us.length = ps.length := by rw [← r.length]; exact G.size _ _ _ _ q
  have hB := hb s1 us I1.kIn (by rw [List.append_nil]; exact hl)
  rw [List.append_nil] at hB
  refine wpAny_call (codeAny_mono (G.go X.A X.stack s1 H1 ⟨us, []⟩ us vs Q E hr hu I1.env0 hB r q) fun res s' hq => ?_)
  rcases res with er | fl
  · exact hx pins σ H1 s1 er s' I1 hq
  · cases fl with
    | ret u => exact I1.after hq
    | _ => exact False.elim hq
end

/-- the law's call, where no repr is under way -/
theorem law_callG {P : Program} {w : World} {K : PySem.W.Frag} {mg mb : Str → Option Value} {k : Nat} {fa a : Addr} {fd : FuncData} {x : Str} {sp : Sp} {s₁ : Shared} {vs : List Value} {ns : List Int}
    (KX : K.In s₁.heap) (hns : s₁.heap.Ns mainGlobals mg) (hb : s₁.heap.Ns builtinsNs mb) (hbb : ∀ x : Str, x ≠ "__name__" → mb x = bootBuiltins x) (hlim : s₁.heap.NoLimit) (hg : s₁.gens = #[])
    (ha : s₁.heap.get? a = some { cls := .type "list", data := .seq vs.toArray }) (hi : IntsAre vs ns) (hl : ns.length ≤ sizeLine) (hr : Room k callerA)
    (F : ∀ base : Heap, K.In base → base.Ns mainGlobals mg → FnG P w K mg base CX0 k fa fd [x] sp) (hbind : ∀ (s : Shared) (u : Value), BindsTo s fd ⟨[u], []⟩ [(x, u)])
    (hsp : ∀ H : Hp, SqL K H a (ns.map V.int) → sp [.ref a] H (fun v _ => v = .bl true) E0) :
    codeAny (model P w) callerA (.call (.ref fa) ⟨[.ref a], []⟩) (fun r s' => r = .ok (.ret (.bool true)) ∧ OldK s₁.heap s'.heap ∧ s'.os = s₁.os ∧ AllBare s'.gens) s₁ := by
  have rv := vals_ints hi
  have core : ∀ H : Hp, (∀ b u, H b = some u → b = a ∧ ∃ o xs, u = .frz o (.lst xs)) → (∀ u, H a = some u → K.lookup a = none) → SqL K H a (ns.map V.int) → HOk P w H s₁.heap →
      codeAny (model P w) callerA (.call (.ref fa) ⟨[.ref a], []⟩) (fun r s' => r = .ok (.ret (.bool true)) ∧ OldK s₁.heap s'.heap ∧ s'.os = s₁.os ∧ AllBare s'.gens) s₁ := by
    intro H only nolook hS hok
    have dictFree : ∀ {b : Addr} {o : Obj} {es : Array DictEntry} {ep : Nat}, s₁.heap.get? b = some o → o.data = .dict es ep → H b = none := by
      intro b o es ep e d
      cases q : H b with
      | none => rfl
      | some u =>
        obtain ⟨rfl, _⟩ := only b u q
        rw [ha] at e
        cases e
        cases (show Data.seq vs.toArray _ = Data.dict es ep from d)
    have nsH : ∀ {b : Addr} {m : Str → Option Value}, s₁.heap.Ns b m → (hidT s₁.heap H).Ns b m := fun ⟨o, es, ep, e, d, r⟩ => ⟨o, es, ep, hidT_get e (dictFree e d), d, r⟩
    have kinH : K.In (hidT s₁.heap H) := by
      intro b o e
      refine hidT_get (KX b o e) ?_
      cases q : H b with
      | none => rfl
      | some u =>
        obtain ⟨rfl, _⟩ := only b u q
        rw [nolook u q] at e
        cases e
    have modH : Mod K mg (hidT s₁.heap H) := ⟨kinH, nsH hns, ⟨mb, nsH hb, hbb⟩, hlim.elim fun mc z => ⟨mc, nsH z.1, z.2⟩⟩
    have env : Env0 P w K mg (hidT s₁.heap H) callerA [] s₁ H := ⟨rfl, modH, fun _ _ e => of_hidT e, Nat.le_of_eq (hidT_size _ _), trivial, fun _ z => (List.not_mem_nil z).elim, hok, .of_eq hg⟩
    refine codeAny_mono ((F _ kinH (nsH hns)).go callerA [] s₁ H ⟨[.ref a], []⟩ [.ref a] [.ref a] _ _ hr rfl env (hbind s₁ (.ref a)) (.cons rfl .nil) (hsp H hS)) fun r s' h => ?_
    rcases r with er | fl
    · exact h.elim
    · cases fl with
      | ret u =>
        obtain ⟨v, H', os, bare, un, hok', r', q⟩ := h
        have ev : v = .bl true := q
        subst ev
        have eu : u = Value.bool true := r'
        subst eu
        refine ⟨rfl, OldK.of_keep fun b o e => ?_, os, bare⟩
        cases q : H b with
        | none => exact un.keep b o e q List.not_mem_nil List.not_mem_nil
        | some u =>
          obtain ⟨rfl, ob, xs, rfl⟩ := only b u q
          have e1 := (hok b _ q).1
          have e2 := (hok' b _ (un.frzs b ob _ q)).1
          rw [e] at e1
          cases e1
          exact e2
      | _ => exact False.elim h
  cases hk : K.lookup a with
  | some o =>
    have e := KX a o hk
    rw [ha] at e
    cases e
    refine core (fun _ => none) (fun b u z => nomatch z) (fun u z => nomatch z) ?_ fun b u z => nomatch (show (none : Option HO) = some u from z)
    exact .inr ⟨_, vs.toArray, _, hk, rfl, rfl, rfl, by rw [List.size_toArray, hi.length]; exact hl, by simpa using rv⟩
  | none =>
    refine core (fun b => if b = a then some (.frz { cls := .type "list", data := .seq vs.toArray } (.lst (ns.map V.int))) else none) (fun b u z => ?_) (fun _ _ => hk) (.inl (.inr ⟨_, if_pos rfl⟩)) fun b u z => ?_
    · by_cases hb : b = a
      · have z' := (if_pos hb).symm.trans z
        cases z'
        exact ⟨hb, _, _, rfl⟩
      · exact nomatch ((if_neg (c := b = a) hb).symm.trans z : (none : Option HO) = some u)
    · by_cases hb : b = a
      · have z' := (if_pos hb).symm.trans z
        cases z'
        subst hb
        exact ⟨ha, by rw [List.length_map]; exact hl, vs, _, rv, ha⟩
      · exact nomatch ((if_neg (c := b = a) hb).symm.trans z : (none : Option HO) = some u)

/-- the goal that the head leaves -/
theorem walk_ofG {l : PySem.W.OpenLaw} {n k : Nat} {q : Program} {loose : List Str} {XP : (Str → Option Value) → Heap → Prop} {YP : World → Heap → Prop} {d : DefRec} {K : Params → PySem.W.Frag} {sp : PySem.W.Frag → Sp} {x : Str}
    (hn : l.most = some n) (hn2 : n ≤ sizeLine) (hdf : d.params.defaults = []) (hr : Room k callerA) (hY : ∀ (w : World) (h : Heap), YP w h → (K w.params).In h)
    (F : ∀ (w : World) (mg : Str → Option Value) (fa : Addr) (h : Heap), (K w.params).In h → h.Ns mainGlobals mg → mg d.name = some (.ref fa) →
      ∃ fd : FuncData, (∀ (s : Shared) (u : Value), BindsTo s fd ⟨[u], []⟩ [(x, u)]) ∧
        ∀ base : Heap, (K w.params).In base → base.Ns mainGlobals mg → FnG l.prog w (K w.params) mg base CX0 k fa fd [x] (sp (K w.params)))
    (hsp : ∀ (K : PySem.W.Frag) (H : Hp) (a : Addr) (ns : List Int), ns.length ≤ n → (∀ z ∈ ns, Builtin.Int.intBits z ≤ 1048576) → SqL K H a (ns.map V.int) → sp K [.ref a] H (fun v _ => v = .bl true) E0) :
    PySem.W.WalkO q loose XP YP l.row.toRowW d [] (fun f vs => PySem.call f vs) := by
  refine Att.attach_callB hn hdf fun w s₀ s₁ mg mb fa o pm cd doc a vs ns G Y ho hd hcd hmg hobj hints hlen hbits hg => ?_
  obtain ⟨fd, hB, hF⟩ := F w mg fa _ (hY w _ Y) G.T.g hmg
  exact law_callG (hY w _ Y) G.T.g G.T.b G.T.builtins G.T.nolimit hg hobj hints (Nat.le_trans hlen hn2) hr hF hB fun H hS => hsp _ H a ns hlen hbits hS
end L2.K18

/-! The text by places; what stands in the heap; the promise of each def. -/
namespace L2.K18
open PySem PySem.Spec PyProof.Rows

/-! ### the text by places -/
def top (i : Nat) : Stmt := PySem.Challenge.pw_linecents_k18_whole_rows_alike.main.body.getD i (.Pass ⟨0, 0, 0, 0⟩)
abbrev tIsInt : Stmt := top 4
abbrev tCd : Stmt := top 7
abbrev tFrac : Stmt := top 8
abbrev tChk : Stmt := top 10
abbrev tGoes : Stmt := top 11
abbrev tInit : Stmt := inClass (top 12) 0
abbrev tEarly : Stmt := inClass (top 12) 1
abbrev tAgain : Stmt := inClass (top 12) 2
abbrev tRise : Stmt := inClass (top 12) 3
abbrev tPace : Stmt := inClass (top 12) 4
abbrev tEq : Stmt := inClass (top 12) 7
abbrev tRepr : Stmt := inClass (top 12) 8
abbrev tCell : Stmt := top 14
abbrev tPurse : Stmt := top 15
abbrev tTake : Stmt := top 16
abbrev tInt : Stmt := top 17
abbrev tForm : Stmt := top 18
abbrev tAt : Stmt := top 19
abbrev tUnr : Stmt := top 20
abbrev tSame : Stmt := top 21
abbrev tBent : Stmt := top 22
abbrev tPaced : Stmt := top 23
abbrev tTwo : Stmt := top 24
abbrev tRight : Stmt := top 25
abbrev tLaw : Stmt := top 26

/-! ### the heap -/
def Kept (a : Addr) (H H' : Hp) : Prop := ∀ b o, H b = some o → b ≠ a → H' b = some o
theorem Kept.refl (a : Addr) (H : Hp) : Kept a H H := fun _ _ h _ => h
theorem Kept.trans {a : Addr} {H H1 H2 : Hp} (x : Kept a H H1) (y : Kept a H1 H2) : Kept a H H2 := fun b o h n => y b o (x b o h n) n
theorem Kept.of {a : Addr} {H H' : Hp} (s : Same H H') : Kept a H H' := fun b o h _ => s b o h
theorem Kept.fresh {a : Addr} {H H' : Hp} (k : Kept a H H') {b : Addr} (hb : H' b = none) (n : b ≠ a) : H b = none := by
  cases q : H b with
  | none => rfl
  | some o =>
    rw [k b o q n] at hb
    cases hb
theorem Kept.same {a : Addr} {H0 H H' : Hp} (s : Same H0 H) (k : Kept a H H') (n : H0 a = none) : Same H0 H' := fun b o h => k b o (s b o h) (ne_of_none h n)
theorem same_upd {H H' : Hp} {p : Addr} {o : HO} (s : Same H H') (h : H p = none) : Same H (L2.upd H' p o) := fun b u e => by
  rw [upd_ne (ne_of_none e h)]
  exact s b u e
theorem same_new {H H' : Hp} {p : Addr} {o : HO} (s : Same H H') (h : H' p = none) : Same H (L2.upd H' p o) := same_upd s (s.free h)
theorem sqT_kept {K : PySem.W.Frag} {H H' : Hp} {a b : Addr} {xs : List V} (h : SqT K H b xs) (k : Kept a H H') (nt : ∀ ys, H a ≠ some (.tup ys)) (nf : ∀ o u, H a ≠ some (.frz o u)) : SqT K H' b xs := by
  rcases h with (h | ⟨o, h⟩) | h
  · exact .inl (.inl (k b _ h fun z => nt xs (z ▸ h)))
  · exact .inl (.inr ⟨o, k b _ h fun z => nf o _ (z ▸ h)⟩)
  · exact .inr h
theorem sqT_same {K : PySem.W.Frag} {H H' : Hp} {b : Addr} {xs : List V} (h : SqT K H b xs) (k : Same H H') : SqT K H' b xs := by
  rcases h with (h | ⟨o, h⟩) | h
  · exact .inl (.inl (k b _ h))
  · exact .inl (.inr ⟨o, k b _ h⟩)
  · exact .inr h

/-- the store of draws at a -/
def PurseAt (H : Hp) (a : Addr) : Prop := ∃ s b c : Int, H a = some (.lst [.int s, .int b, .int c]) ∧ 0 ≤ s ∧ s < 2147483629 ∧ 0 ≤ b
/-- behind draws: the purse stands, all else that stood stands -/
structure Sm (a : Addr) (H H' : Hp) : Prop where
  purse : PurseAt H' a
  kept : Kept a H H'
theorem Sm.refl {a : Addr} {H : Hp} (h : PurseAt H a) : Sm a H H := ⟨h, Kept.refl a H⟩
theorem Sm.trans {a : Addr} {H H1 H2 : Hp} (x : Sm a H H1) (y : Sm a H1 H2) : Sm a H H2 := ⟨y.purse, x.kept.trans y.kept⟩
theorem PurseAt.same {a : Addr} {H H' : Hp} (h : PurseAt H a) (s : Same H H') : PurseAt H' a := by
  obtain ⟨x, y, z, e, r⟩ := h
  exact ⟨x, y, z, s a _ e, r⟩
theorem PurseAt.sm {a : Addr} {H H' : Hp} (h : PurseAt H a) (s : Same H H') : Sm a H H' := ⟨h.same s, Kept.of s⟩
theorem PurseAt.nt {a : Addr} {H : Hp} (h : PurseAt H a) : (∀ ys, H a ≠ some (.tup ys)) ∧ ∀ o u, H a ≠ some (.frz o u) := by
  obtain ⟨x, y, z, e, _⟩ := h
  exact ⟨fun ys q => (by rw [e] at q; cases q), fun o u q => (by rw [e] at q; cases q)⟩
theorem sqT_sm {K : PySem.W.Frag} {H H' : Hp} {a b : Addr} {xs : List V} (h : SqT K H b xs) (p : PurseAt H a) (s : Sm a H H') : SqT K H' b xs := sqT_kept h s.kept p.nt.1 p.nt.2
/-- an object that is new to H, at p, behind draws -/
theorem Sm.new {a p : Addr} {H H' : Hp} {o : HO} (s : Sm a H H') (h : H' p = none) : Sm a H (upd H' p o) := s.trans (s.purse.sm (same_new (Same.refl _) h))

/-- a tuple of ints at a -/
abbrev IntsT (K : PySem.W.Frag) (H : Hp) (a : Addr) (xs : List Int) : Prop := SqT K H a (xs.map V.int)
/-- a form at p -/
def FormAt (K : PySem.W.Frag) (H : Hp) (p : Addr) (f : Fm) : Prop := ∃ te tc, SqT K H p [.ref te, .ref tc, .int f.r] ∧ IntsT K H te f.e ∧ IntsT K H tc f.c
theorem FormAt.sm {K : PySem.W.Frag} {H H' : Hp} {a p : Addr} {f : Fm} (h : FormAt K H p f) (w : PurseAt H a) (s : Sm a H H') : FormAt K H' p f := by
  obtain ⟨te, tc, x, y, z⟩ := h
  exact ⟨te, tc, sqT_sm x w s, sqT_sm y w s, sqT_sm z w s⟩
theorem FormAt.same {K : PySem.W.Frag} {H H' : Hp} {p : Addr} {f : Fm} (h : FormAt K H p f) (s : Same H H') : FormAt K H' p f := by
  obtain ⟨te, tc, x, y, z⟩ := h
  exact ⟨te, tc, sqT_same x s, sqT_same y s, sqT_same z s⟩
/-- sizes -/
structure Good (le lc : Nat) (B : Int) (f : Fm) : Prop where
  le : f.e.length ≤ le
  ne : f.c ≠ []
  lc : f.c.length ≤ lc
  be : ∀ z ∈ f.e, -B ≤ z ∧ z ≤ B
  bc : ∀ z ∈ f.c, -B ≤ z ∧ z ≤ B
  br : -B ≤ f.r ∧ f.r ≤ B
theorem Good.mono {le lc le' lc' : Nat} {B B' : Int} {f : Fm} (g : Good le lc B f) (h1 : le ≤ le') (h2 : lc ≤ lc') (h3 : B ≤ B') : Good le' lc' B' f :=
  ⟨Nat.le_trans g.le h1, g.ne, Nat.le_trans g.lc h2, fun z hz => by have := g.be z hz; omega, fun z hz => by have := g.bc z hz; omega, by have := g.br; omega⟩
def B0 : Int := 1000000000000000000000000000000
def B1 : Int := 100000000000000000000000000000000
def B2 : Int := 200000000000000000000000000000000
theorem B0_eq : B0 = 1000000000000000000000000000000 := rfl
theorem B1_eq : B1 = 100000000000000000000000000000000 := rfl
theorem B2_eq : B2 = 200000000000000000000000000000000 := rfl

/-- the attributes of a Row, in the order in which __init__ stores them -/
def rflds (th tc : Addr) (s : Int) : List (Str × V) := putF "step" (.int s) (putF "cycle" (.ref tc) (putF "head" (.ref th) []))
/-- a Row at x that tells h -/
def RowAt (C : Addr) (K : PySem.W.Frag) (H : Hp) (x : Addr) (h : Fm) : Prop := ∃ dx th tc, H x = some (.ins C dx (rflds th tc h.r)) ∧ IntsT K H th h.e ∧ IntsT K H tc h.c
theorem RowAt.same {C : Addr} {K : PySem.W.Frag} {H H' : Hp} {x : Addr} {h : Fm} (r : RowAt C K H x h) (s : Same H H') : RowAt C K H' x h := by
  obtain ⟨dx, th, tc, e, y, z⟩ := r
  exact ⟨dx, th, tc, s x _ e, sqT_same y s, sqT_same z s⟩
theorem nhc : ¬ (("head" : Str) = "cycle") := by decide +kernel
theorem nhs : ¬ (("head" : Str) = "step") := by decide +kernel
theorem ncs : ¬ (("cycle" : Str) = "step") := by decide +kernel
theorem rflds_head (th tc : Addr) (s : Int) : (rflds th tc s).lookup ("head" : Str) = some (.ref th) := by
  unfold rflds
  rw [lookup_putF, if_neg nhs, lookup_putF, if_neg nhc, lookup_putF, if_pos rfl]
theorem rflds_cycle (th tc : Addr) (s : Int) : (rflds th tc s).lookup ("cycle" : Str) = some (.ref tc) := by
  unfold rflds
  rw [lookup_putF, if_neg ncs, lookup_putF, if_pos rfl]
theorem rflds_step (th tc : Addr) (s : Int) : (rflds th tc s).lookup ("step" : Str) = some (.int s) := by
  unfold rflds
  rw [lookup_putF, if_pos rfl]
theorem rflds_no (th tc : Addr) (s : Int) {m : Str} (h1 : ¬ m = "step") (h2 : ¬ m = "cycle") (h3 : ¬ m = "head") : (rflds th tc s).lookup m = none := by
  unfold rflds
  rw [lookup_putF, if_neg h1, lookup_putF, if_neg h2, lookup_putF, if_neg h3]
  all_goals rfl

/-! ### the promises -/
section
variable (K : PySem.W.Frag) (C : Addr)
def spIsInt : Sp := fun vs H Q _ => ∃ i, vs = [.int i] ∧ Q (.bl true) H
def spCd : Sp := fun vs H Q _ => ∃ a b : Nat, vs = [.int (a : Int), .int (b : Int)] ∧ Q (.int ((Nat.gcd a b : Nat) : Int)) H
def spFrac : Sp := fun vs H Q _ => ∃ (t : Int) (b : Nat), vs = [.int t, .int (b : Int)] ∧ 0 < b ∧ b ≤ 1000 ∧
  ∀ p, H p = none → Q (.ref p) (upd H p (.tup [.int (t / ((Nat.gcd t.natAbs b : Nat) : Int)), .int ((b : Int) / ((Nat.gcd t.natAbs b : Nat) : Int))]))
def spChk : Sp := fun vs H Q _ => ∃ (p : Addr) (xs : List Int) (n : Nat), vs = [.ref p, .int (n : Int)] ∧ IntsT K H p xs ∧ n ≤ xs.length ∧ xs.length ≤ 1000 ∧ ∀ H', Same H H' → Q .non H'
def spGoes : Sp := fun vs H Q _ => ∃ (p : Addr) (c : List Int) (r : Int) (s : Nat), vs = [.ref p, .int r, .int (s : Int)] ∧ IntsT K H p c ∧ c.length ≤ 1000 ∧ 1 ≤ s ∧ s ≤ c.length ∧ ∀ H', Same H H' → Q (.bl (goesOn c r s)) H'
def spInit : Sp := fun vs H Q _ => ∃ (x te tc dx : Addr) (f : Fm), vs = [.ref x, .ref te, .ref tc, .int f.r] ∧ H x = some (.ins C dx []) ∧ IntsT K H te f.e ∧ IntsT K H tc f.c ∧ f.c ≠ [] ∧ f.e.length ≤ 100 ∧ f.c.length ≤ 100 ∧
  ∀ H', RowAt C K H' x (norm f) → Kept x H H' → Q .non H'
def spHead : Sp := fun vs H Q _ => ∃ (x : Addr) (h : Fm), vs = [.ref x] ∧ RowAt C K H x h ∧ ∀ t, IntsT K H t h.e → Q (.ref t) H
def spCyc : Sp := fun vs H Q _ => ∃ (x : Addr) (h : Fm), vs = [.ref x] ∧ RowAt C K H x h ∧ ∀ t, IntsT K H t h.c → Q (.ref t) H
def spStep : Sp := fun vs H Q _ => ∃ (x : Addr) (h : Fm), vs = [.ref x] ∧ RowAt C K H x h ∧ Q (.int h.r) H
def spPace : Sp := fun vs H Q _ => ∃ (x : Addr) (h : Fm), vs = [.ref x] ∧ RowAt C K H x h ∧ h.c ≠ [] ∧ h.c.length ≤ 100 ∧
  ∀ p, H p = none → Q (.ref p) (upd H p (.tup [.int (h.r / ((Nat.gcd h.r.natAbs h.c.length : Nat) : Int)), .int ((h.c.length : Int) / ((Nat.gcd h.r.natAbs h.c.length : Nat) : Int))]))
def spEqR : Sp := fun vs H Q _ => ∃ (x : Addr) (y : V) (h : Fm), vs = [.ref x, y] ∧ RowAt C K H x h ∧
  ((∃ (z : Addr) (g : Fm), y = .ref z ∧ RowAt C K H z g ∧ Q (.bl (decide (h = g))) H) ∨ (∃ t, TyX K H y t ∧ PySem.W.kitOne K t (.ref C) = some false ∧ Q (.bl false) H))
def spReprR : Sp := fun vs H Q _ => ∃ (x : Addr) (h : Fm), vs = [.ref x] ∧ RowAt C K H x h ∧ h.c.length ≤ 100 ∧ h.r.natAbs.log2 < 1000 ∧ ∀ y : Str, Q (.str y) H

def spTake : Sp := fun vs H Q _ => ∃ (a : Addr) (m : Int), vs = [.ref a, .int m] ∧ PurseAt H a ∧ 1 ≤ m ∧ m ≤ 1000 ∧ ∀ (z : Int) (H' : Hp), 0 ≤ z → z < m → Sm a H H' → Q (.int z) H'
def spInt : Sp := fun vs H Q _ => ∃ (a : Addr), vs = [.ref a] ∧ PurseAt H a ∧ ∀ (z : Int) (H' : Hp), -B0 ≤ z → z ≤ B0 → Sm a H H' → Q (.int z) H'
def spForm : Sp := fun vs H Q _ => ∃ (a : Addr), vs = [.ref a] ∧ PurseAt H a ∧ ∀ (p : Addr) (f : Fm) (H' : Hp), Sm a H H' → FormAt K H' p f → Good 5 4 B0 f → Q (.ref p) H'
def spAt : Sp := fun vs H Q _ => ∃ (p : Addr) (f : Fm) (n : Nat), vs = [.ref p, .int (n : Int)] ∧ FormAt K H p f ∧ f.c ≠ [] ∧ f.e.length ≤ 100 ∧ f.c.length ≤ 100 ∧ n ≤ 1000 ∧ Q (.int (tell f n)) H
def spUnr : Sp := fun vs H Q _ => ∃ (a p : Addr) (f : Fm), vs = [.ref a, .ref p] ∧ PurseAt H a ∧ FormAt K H p f ∧ Good 5 4 B0 f ∧ ∀ (q : Addr) (g : Fm) (H' : Hp), Sm a H H' → FormAt K H' q g → Good 8 12 B1 g → Q (.ref q) H'
def spSame : Sp := fun vs H Q _ => ∃ (p q : Addr) (f g : Fm), vs = [.ref p, .ref q] ∧ FormAt K H p f ∧ FormAt K H q g ∧ Good 8 12 B2 f ∧ Good 8 12 B2 g ∧ ∀ H', Same H H' → Q (.bl (told f g)) H'
def spBent : Sp := fun vs H Q _ => ∃ (a p : Addr) (f : Fm), vs = [.ref a, .ref p] ∧ PurseAt H a ∧ FormAt K H p f ∧ Good 8 12 B1 f ∧ ∀ (q : Addr) (g : Fm) (H' : Hp), Sm a H H' → FormAt K H' q g → Good 8 12 B2 g → Q (.ref q) H'
def spPaced : Sp := fun vs H Q _ => ∃ (t p : Addr) (f : Fm) (T B : Int), vs = [.ref t, .ref p] ∧ H t = some (.tup [.int T, .int B]) ∧ FormAt K H p f ∧ Good 8 12 B2 f ∧
  (1 ≤ B ∧ B ≤ (f.c.length : Int) ∧ T * (f.c.length : Int) = B * f.r ∧ ∀ k : Int, 2 ≤ k → T % k ≠ 0 ∨ B % k ≠ 0) ∧ ∀ H', Same H H' → Q (.bl true) H'
def spTwo : Sp := fun vs H Q _ => ∃ (a : Addr), vs = [.ref a] ∧ PurseAt H a ∧ ∀ (p t u : Addr) (f g : Fm) (H' : Hp), Sm a H H' → SqT K H' p [.ref t, .ref u] → FormAt K H' t f → FormAt K H' u g → Good 8 12 B2 f → Good 8 12 B2 g → Q (.ref p) H'
def spRight : Sp := fun vs H Q _ => ∃ (a : Addr), vs = [.ref a] ∧ PurseAt H a ∧ ∀ H', Sm a H H' → Q (.bl true) H'
def spPurse : Sp := fun vs H Q _ => ∃ (z : Int), vs = [.int z] ∧ ∀ (p : Addr) (H' : Hp), H p = none → Same H H' → PurseAt H' p → Q (.ref p) H'
def spCellK : Sp := fun vs H Q _ => ∃ (l : Addr) (ns : List Int) (k : Nat), vs = [.ref l, .int (k : Int)] ∧ SqL K H l (ns.map V.int) ∧ ns.length ≤ 63 ∧ k ≤ 1000 ∧ ∀ (z : Int) (H' : Hp), Same H H' → Q (.int z) H'
def spLaw : Sp := fun vs H Q _ => ∃ (l : Addr) (ns : List Int), vs = [.ref l] ∧ SqL K H l (ns.map V.int) ∧ ns.length ≤ 63 ∧ ∀ H', Q (.bl true) H'
end

/-- what the walk asks of the text as the top has left it -/
structure Txt (K : PySem.W.Frag) (mg : Str → Option Value) (C : Addr) : Prop where
  cl : Cls K C
  nH : NoAttr K C "head"
  nC : NoAttr K C "cycle"
  nS : NoAttr K C "step"
  mgR : mg "Row" = some (.ref C)
  len : mg "len" = none
  isinstance : mg "isinstance" = none
  int : mg "int" = none
  bool : mg "bool" = none
  tuple : mg "tuple" = none
  list : mg "list" = none
  all : mg "all" = none
  any : mg "any" = none
  abs : mg "abs" = none
  divmod : mg "divmod" = none
  range : mg "range" = none
  max : mg "max" = none
  min : mg "min" = none
  repr : mg "repr" = none
  cls_ : PySem.W.findIn K (.ref C) "__class__" = some (some (.builtin "object.__class__"))
  get_ : PySem.W.specialIn K (.builtin "object.__class__") "__get__" = some (some (.builtin "getset_descriptor.__get__"))
  tak_ : PySem.W.takesIn K (.builtin "object.__class__") = some true
  obj_ : PySem.W.mroIn K C (.type "object") = some true
  cin_ : PySem.W.isClsIn K C = true
  cty_ : PySem.W.typeIn K (.ref C) = some (.type "type")
end L2.K18

namespace L2.K18
open PySem PySem.Spec PyProof.Rows
section
variable {P : Program} {w : World} {K : PySem.W.Frag} {mg : Str → Option Value} {base : Heap} {C : Addr}

theorem scTake : FnScope ["_law_purse_here", "_law_many", "_law_digit", "_law_seed", "_law_factor"] ["_law_purse_here", "_law_many"] (defScope tTake) := ⟨rfl, rfl, rfl, by decide +kernel, rfl, by decide +kernel, by decide +kernel⟩
theorem at3_0 (x y z : V) : atI [x, y, z] 0 = some x := rfl
theorem at3_1 (x y z : V) : atI [x, y, z] 1 = some y := rfl
theorem at3_2 (x y z : V) : atI [x, y, z] 2 = some z := rfl
theorem ok_take {f : Addr} {fd : FuncData} (F : Fun K "_law_take" "_law_take" tTake f fd) (T : Txt K mg C) : FnOk P w K mg base CX0 1 f fd ["_law_purse_here", "_law_many"] spTake := by
  refine F.ok scTake (fun vs H Q E h => ?_) (fun cdv A outer s H vs Q E hr h => ?_)
  · obtain ⟨a, m, rfl, _⟩ := h
    rfl
  · obtain ⟨a, m, rfl, ⟨s0, b0, c0, ha, hs0, hs1, hb0⟩, hm1, hm2, k⟩ := h
    refine ⟨_, pss_cons (ps_asg (pe_op op_add (pe_ix ix_list (pv 0) pe_int (fun _ _ => rfl)) pe_int) (pg_sub (pv 0) pe_int set_list))
      (pss_cons (ps_if (pt_cmpR op_gt (pe_ix ix_list (pv 0) pe_int (fun _ _ => rfl)) pe_int (nomark _))
        (pss_cons (ps_asg (pe_callB call_divmod (by rfl) T.divmod (by decide +kernel) (pa_cons (pe_ix ix_list (pv 0) pe_int (fun _ _ => rfl)) (pa_cons (pv 1) pa_nil)))
          (pg_tup (by rfl) (pgs_cons (pg_sub (pv 0) pe_int set_list) (pgs_cons (pg_name (i := 2) scTake.nd rfl (.inl rfl)) pgs_nil)))) (pss_one (ps_ret (pv 2)))) pss_nil)
      (pss_cons (ps_set (i := 3) scTake.nd rfl (.inl rfl) (pe_callTy call_int1 (by rfl) T.int (by decide +kernel) (pa_cons (pe_ix ix_list (pv 0) pe_int (fun _ _ => rfl)) pa_nil)))
      (pss_cons (ps_set (i := 4) scTake.nd rfl (.inl rfl) (pe_op op_add (pe_op op_mod (pe_callTy call_int1 (by rfl) T.int (by decide +kernel) (pa_cons (pv 3) pa_nil)) pe_int) pe_int))
      (pss_cons (ps_asg (pe_op op_mod (pe_callTy call_int1 (by rfl) T.int (by decide +kernel) (pa_cons (pe_op op_add (pe_op op_add (pe_op op_mul (pv 3) (pv 4)) (pe_op op_mul pe_int (pe_ix ix_list (pv 0) pe_int (fun _ _ => rfl)))) pe_int) pa_nil)) pe_int)
          (pg_sub (pv 0) pe_int set_list))
      (pss_one (ps_ret (pe_op op_mod (pe_callTy call_int1 (by rfl) T.int (by decide +kernel) (pa_cons (pe_op op_fdiv (pe_ix ix_list (pv 0) pe_int (fun _ _ => rfl)) pe_int) pa_nil)) (pv 1)))))))), ?_⟩
    have H1 : ∀ x, (upd H a (.lst x)) a = some (.lst x) := fun x => upd_same
    -- purse[2] = purse[2] + 1
    refine ⟨_, rfl, a, _, _, _, rfl, rfl, SqL.of ha, at3_2 _ _ _, _, _, rfl, rfl, _, rfl, a, _, _, 2, rfl, rfl, ha, rfl, ?_⟩
    -- if purse[1] > 0
    refine ⟨_, rfl, a, _, _, _, rfl, rfl, SqL.of upd_same, at3_1 _ _ _, _, _, rfl, rfl, _, rfl, ?_⟩
    refine ite2 (fun h0 => ?_) (fun h0 => ?_)
    · have h0' : 0 < b0 := of_decide_eq_true h0
      refine ⟨_, rfl, a, _, _, _, rfl, rfl, SqL.of upd_same, at3_1 _ _ _, _, rfl, _, _, rfl, ⟨by omega, by omega⟩, fun p hp => ?_⟩
      have nap : a ≠ p := fun q => by rw [← q, upd_same] at hp; cases hp
      refine ⟨p, _, rfl, .inl (.inl upd_same), rfl, _, _, rfl, ⟨_, rfl, a, _, _, 1, rfl, rfl, (by rw [upd_ne nap]; exact upd_same), rfl, ?_⟩⟩
      refine ⟨_, _, rfl, rfl, ?_⟩
      refine ⟨_, rfl, k _ _ (Int.emod_nonneg _ (by omega)) (Int.emod_lt_of_pos _ (by omega)) ⟨⟨s0, b0 / m, c0 + 1, upd_same, hs0, hs1, Int.ediv_nonneg (by omega) (by omega)⟩, fun b o hb hne => ?_⟩⟩
      have nbp : b ≠ p := fun q => by
        rw [q] at hb hne
        rw [upd_ne hne, hb] at hp
        cases hp
      rw [upd_ne hne, upd_ne nbp, upd_ne hne]
      exact hb
    · -- seed = int(purse[0]); factor = int(seed) % 30323 + 40253
      refine ⟨_, rfl, a, _, _, _, rfl, rfl, SqL.of upd_same, at3_0 _ _ _, .inl ⟨_, rfl, ?_⟩⟩
      refine ⟨_, rfl, .inl ⟨_, rfl, _, _, rfl, rfl, (by show (0 : Int) < 30323; decide), _, _, rfl, rfl, ?_⟩⟩
      -- purse[0] = int(seed * factor + 60013 * purse[2] + 29) % 2147483629
      refine ⟨_, rfl, _, rfl, _, _, rfl, rfl, .inl ⟨by omega, by omega⟩, _, rfl, a, _, _, _, rfl, rfl, SqL.of upd_same, at3_2 _ _ _, _, _, rfl, rfl, .inl ⟨by decide, by decide⟩, _, _, rfl, rfl, _, _, rfl, rfl,
        .inl ⟨_, rfl, _, _, rfl, rfl, (by show (0 : Int) < 2147483629; decide), _, rfl, a, _, _, 0, rfl, rfl, upd_same, rfl, ?_⟩⟩
      -- return int(purse[0] // 256) % many
      refine ⟨_, rfl, a, _, _, _, rfl, rfl, SqL.of upd_same, at3_0 _ _ _, _, _, rfl, rfl, ⟨by decide, by decide⟩, .inl ⟨_, rfl, _, rfl, _, _, rfl, rfl, (by show (0 : Int) < m; omega), ?_⟩⟩
      refine k _ _ (Int.emod_nonneg _ (by omega)) (Int.emod_lt_of_pos _ (by omega)) ⟨⟨_, b0, c0 + 1, upd_same, Int.emod_nonneg _ (by decide), Int.emod_lt_of_pos _ (by decide), hb0⟩, fun b o hb hne => ?_⟩
      rw [upd_ne hne, upd_ne hne]
      exact hb

/-- a def that stands at a module's name -/
structure Def (P : Program) (w : World) (K : PySem.W.Frag) (mg : Str → Option Value) (base : Heap) (k : Nat) (x : Str) (ps : List Str) (sp : Sp) (f : Addr) (fd : FuncData) : Prop where
  ok : FnOk P w K mg base CX0 k f fd ps sp
  at_ : mg x = some (.ref f)
  kp : PySem.W.keepIn K (.ref f) = true
  b : Binds K fd ps []

theorem scInt : FnScope ["_law_purse_here", "_law_way"] ["_law_purse_here"] (defScope tInt) := ⟨rfl, rfl, rfl, by decide +kernel, rfl, by decide +kernel, by decide +kernel⟩
theorem ok_int {f f1 : Addr} {fd fd1 : FuncData} (F : Fun K "_law_int" "_law_int" tInt f fd) (D : Def P w K mg base 1 "_law_take" ["_law_purse_here", "_law_many"] spTake f1 fd1) :
    FnOk P w K mg base CX0 2 f fd ["_law_purse_here"] spInt := by
  refine F.ok scInt (fun vs H Q E h => ?_) (fun cdv A outer s H vs Q E hr h => ?_)
  · obtain ⟨a, rfl, _⟩ := h
    rfl
  · obtain ⟨a, rfl, hp, k⟩ := h
    have eB := B0_eq
    refine ⟨_, pss_cons (ps_set (i := 1) scInt.nd rfl (.inl rfl) (pe_call D.ok hr (by rfl) D.at_ D.kp D.b .nil pass0 (pa_cons (pv 0) (pa_cons pe_int pa_nil))))
      (pss_cons (ps_if (pt_cmpR op_gt (pv 1) pe_int (nomark _))
        (pss_one (ps_ret (pe_op op_mul (pe_ix ix_list (pe_lst (pa_cons pe_int (pa_cons (pe_un un_neg pe_int) pa_nil))) (pe_op op_sub (pv 1) pe_int) (fun _ _ => rfl))
          (pe_op op_sub (pe_op op_pow pe_int pe_int) (pe_call D.ok hr (by rfl) D.at_ D.kp D.b .nil pass0 (pa_cons (pv 0) (pa_cons pe_int pa_nil))))))) pss_nil)
      (pss_one (ps_ret (pe_op op_sub (pe_call D.ok hr (by rfl) D.at_ D.kp D.b .nil pass0 (pa_cons (pv 0) (pa_cons (pe_ix ix_list (pe_lst (pa_cons pe_int (pa_cons pe_int (pa_cons pe_int (pa_cons pe_int (pa_cons pe_int (pa_cons pe_int pa_nil))))))) (pv 1) (fun _ _ => rfl)) pa_nil)))
        (pe_ix ix_list (pe_lst (pa_cons pe_int (pa_cons pe_int (pa_cons pe_int (pa_cons pe_int (pa_cons pe_int (pa_cons pe_int pa_nil))))))) (pv 1) (fun _ _ => rfl)))))), ?_⟩
    refine ⟨_, rfl, a, 8, rfl, hp, by decide, by decide, fun z H1 h1 h2 s1 => ?_⟩
    refine ⟨_, rfl, _, _, rfl, rfl, _, rfl, ?_⟩
    refine ite2 (fun h0 => ?_) (fun h0 => ?_)
    · have h0' : 5 < z := of_decide_eq_true h0
      obtain ⟨v, hv, hv1⟩ : ∃ v : Int, atI [V.int 1, V.int (-1)] (z - 6) = some (.int v) ∧ (v = 1 ∨ v = -1) := by
        obtain e | e : z = 6 ∨ z = 7 := by omega
        · exact ⟨1, by rw [e]; rfl, .inl rfl⟩
        · exact ⟨-1, by rw [e]; rfl, .inr rfl⟩
      refine ⟨1, rfl, (by show 2 ≤ sizeLine; decide), fun l hl => ⟨_, rfl, _, _, rfl, rfl, l, _, _, _, rfl, rfl, SqL.of upd_same, hv, ?_⟩⟩
      refine ⟨_, _, rfl, rfl, ⟨by decide, by decide, by decide⟩, _, rfl, a, 999, rfl, (s1.new hl).purse, by decide, by decide, fun t H2 t1 t2 s2 => ?_⟩
      refine ⟨_, _, rfl, rfl, _, _, rfl, rfl, .inl (by omega), k _ H2 ?_ ?_ ((s1.new hl).trans s2)⟩
      · show -B0 ≤ v * ((10 : Int) ^ 30 - t)
        rcases hv1 with e | e <;> subst e <;> omega
      · show v * ((10 : Int) ^ 30 - t) ≤ B0
        rcases hv1 with e | e <;> subst e <;> omega
    · have h0' : ¬ 5 < z := fun q => h0 (decide_eq_true q)
      obtain ⟨v, u, hv, hu, hv1, hv2, hu1, hu2⟩ : ∃ v u : Int, atI [V.int 2, V.int 3, V.int 5, V.int 5, V.int 19, V.int 199] z = some (.int v) ∧ atI [V.int 0, V.int 1, V.int 2, V.int 2, V.int 9, V.int 99] z = some (.int u) ∧ 1 ≤ v ∧ v ≤ 1000 ∧ 0 ≤ u ∧ u ≤ 99 := by
        obtain e | e | e | e | e | e : z = 0 ∨ z = 1 ∨ z = 2 ∨ z = 3 ∨ z = 4 ∨ z = 5 := by omega
        all_goals (subst e; exact ⟨_, _, rfl, rfl, by decide, by decide, by decide, by decide⟩)
      refine ⟨_, rfl, (by show 6 ≤ sizeLine; decide), fun l hl => ⟨_, rfl, l, _, _, _, rfl, rfl, SqL.of upd_same, hv, a, v, rfl, (s1.new hl).purse, hv1, hv2, fun t H2 t1 t2 s2 => ?_⟩⟩
      refine ⟨(by show 6 ≤ sizeLine; decide), fun m hm => ⟨_, rfl, m, _, _, _, rfl, rfl, SqL.of upd_same, hu, _, _, rfl, rfl, ?_⟩⟩
      refine k _ _ ?_ ?_ (((s1.new hl).trans s2).new hm)
      · show -B0 ≤ t - u
        omega
      · show t - u ≤ B0
        omega
end
end L2.K18

namespace L2.K18
open PySem PySem.Spec PyProof.Rows
theorem Sm.put {a D : Addr} {H H' : Hp} {o : HO} (s : Sm a H H') (hp : PurseAt H a) (hD : H D = none) : Sm a H (upd H' D o) := by
  have nDa : a ≠ D := by
    obtain ⟨_, _, _, e, _⟩ := hp
    exact ne_of_none e hD
  refine ⟨?_, fun b u e n => ?_⟩
  · obtain ⟨x, y, z, e, r⟩ := s.purse
    exact ⟨x, y, z, by rw [upd_ne nDa]; exact e, r⟩
  · rw [upd_ne (ne_of_none e hD)]
    exact s.kept b u e n
theorem PurseAt.ne {a D : Addr} {H : Hp} (hp : PurseAt H a) (hD : H D = none) : D ≠ a := by
  obtain ⟨_, _, _, e, _⟩ := hp
  exact (ne_of_none e hD).symm
theorem map_snoc (is : List Int) (z : Int) : is.map V.int ++ [V.int z] = (is ++ [z]).map V.int := by simp
theorem small_lt {n : Nat} (h : n ≤ 1000) : n < sizeLine := small1000 h
theorem mem_snoc {B : Int} {is : List Int} {z : Int} (h : ∀ y ∈ is, -B ≤ y ∧ y ≤ B) (h1 : -B ≤ z) (h2 : z ≤ B) : ∀ y ∈ is ++ [z], -B ≤ y ∧ y ≤ B := fun y hy => by
  rcases List.mem_append.mp hy with q | q
  · exact h y q
  · rw [List.mem_singleton.mp q]
    exact ⟨h1, h2⟩
section
variable {P : Program} {w : World} {K : PySem.W.Frag} {mg : Str → Option Value} {base : Heap} {C : Addr}

theorem scForm : FnScope ["_law_purse_here", "_law_calm", "_law_first", "_law_cycle", "_law_k"] ["_law_purse_here"] (defScope tForm) := ⟨rfl, rfl, rfl, by decide +kernel, rfl, by decide +kernel, by decide +kernel⟩
theorem ok_form {f f1 f2 : Addr} {fd fd1 fd2 : FuncData} (F : Fun K "_law_form" "_law_form" tForm f fd) (T : Txt K mg C) (D : Def P w K mg base 1 "_law_take" ["_law_purse_here", "_law_many"] spTake f1 fd1)
    (DI : Def P w K mg base 2 "_law_int" ["_law_purse_here"] spInt f2 fd2) : FnOk P w K mg base CX0 3 f fd ["_law_purse_here"] (spForm K) := by
  refine F.ok scForm (fun vs H Q E h => ?_) (fun cdv A outer s H vs Q E hr h => ?_)
  · obtain ⟨a, rfl, _⟩ := h
    rfl
  · obtain ⟨a, rfl, hp, k⟩ := h
    have eB := B0_eq
    have hr1 : Room 1 _ := hr.mono (by decide)
    refine ⟨_, pss_cons (ps_set (i := 1) scForm.nd rfl (.inr rfl) (pe_call D.ok hr1 (by rfl) D.at_ D.kp D.b .nil pass0 (pa_cons (pv 0) (pa_cons pe_int pa_nil))))
      (pss_cons (ps_set (i := 2) scForm.nd rfl (.inl rfl) (pe_callTy call_tuple_of (by rfl) T.tuple (by decide +kernel) (pa_cons
        (pe_lc (own := [("_law_k", 4)]) (g := gName 4) (tt := tYes) rfl scForm.nd (pi_range1 (by rfl) T.range (pa_cons (pe_call D.ok hr1 (by rfl) D.at_ D.kp D.b .nil pass0 (pa_cons (pv 0) (pa_cons pe_int pa_nil))) pa_nil))
          (blkOk_by (N := ["_law_purse_here", "_law_calm", "_law_first", "_law_cycle", "_law_k"]) (sc := defScope tForm) (by decide +kernel)) (fun _ _ _ _ _ => pg_name (i := 4) scForm.nd rfl (Or.inl rfl)) (fun _ _ _ _ _ => pts_nil)
          (fun _ _ _ _ _ => pe_ifExp (pt_cmpR op_eq (pv 1) pe_int (nomark _)) (pe_call DI.ok hr (by rfl) DI.at_ DI.kp DI.b .nil pass0 (pa_cons (pv 0) pa_nil)) (pe_call D.ok hr1 (by rfl) D.at_ D.kp D.b .nil pass0 (pa_cons (pv 0) (pa_cons pe_int pa_nil))))) pa_nil)))
      (pss_cons (ps_set (i := 3) scForm.nd rfl (.inl rfl) (pe_callTy call_tuple_of (by rfl) T.tuple (by decide +kernel) (pa_cons
        (pe_lc (own := [("_law_k", 4)]) (g := gName 4) (tt := tYes) rfl scForm.nd (pi_range1 (by rfl) T.range (pa_cons (pe_op op_add pe_int (pe_call D.ok hr1 (by rfl) D.at_ D.kp D.b .nil pass0 (pa_cons (pv 0) (pa_cons pe_int pa_nil)))) pa_nil))
          (blkOk_by (N := ["_law_purse_here", "_law_calm", "_law_first", "_law_cycle", "_law_k"]) (sc := defScope tForm) (by decide +kernel)) (fun _ _ _ _ _ => pg_name (i := 4) scForm.nd rfl (Or.inl rfl)) (fun _ _ _ _ _ => pts_nil)
          (fun _ _ _ _ _ => pe_ifExp (pt_cmpR op_eq (pv 1) pe_int (nomark _)) (pe_call DI.ok hr (by rfl) DI.at_ DI.kp DI.b .nil pass0 (pa_cons (pv 0) pa_nil)) (pe_call D.ok hr1 (by rfl) D.at_ D.kp D.b .nil pass0 (pa_cons (pv 0) (pa_cons pe_int pa_nil))))) pa_nil)))
      (pss_one (ps_ret (pe_tup (pa_cons (pv 2) (pa_cons (pv 3) (pa_cons (pe_ifExp (pt_cmpR op_eq (pv 1) pe_int (nomark _)) (pe_call DI.ok hr (by rfl) DI.at_ DI.kp DI.b .nil pass0 (pa_cons (pv 0) pa_nil))
        (pe_op op_sub (pe_call D.ok hr1 (by rfl) D.at_ D.kp D.b .nil pass0 (pa_cons (pv 0) (pa_cons pe_int pa_nil))) pe_int)) pa_nil)))))))), ?_⟩
    refine ⟨_, rfl, a, 2, rfl, hp, by decide, by decide, fun calm H1 _ _ s1 => ?_⟩
    -- the early ones
    refine ⟨_, rfl, a, 6, rfl, s1.purse, by decide, by decide, fun n H2 n1 n2 s2 => ⟨n, rfl, by omega, by omega, fun D1 hD1 => ?_⟩⟩
    refine lc_range (lo := 0) (n := n.toNat) (fun i H' => Sm a H2 H' ∧ ∃ is : List Int, H' D1 = some (.lst (is.map V.int)) ∧ is.length = i ∧ ∀ z ∈ is, -B0 ≤ z ∧ z ≤ B0)
      ⟨(Sm.refl s2.purse).new hD1, [], upd_same, rfl, fun _ hz => (List.not_mem_nil hz).elim⟩ ?_ ?_
    · rintro i H' hi ⟨s3, is, hL, hlen, hb⟩
      refine ⟨rfl, _, rfl, rfl, _, rfl, ?_⟩
      refine ite2 (fun _ => ?_) (fun _ => ?_)
      · refine ⟨_, rfl, a, rfl, s3.purse, fun z H3 z1 z2 s4 => ?_⟩
        have hL3 : H3 D1 = some (.lst (is.map V.int)) := s4.kept _ _ hL (s2.purse.ne hD1)
        refine ⟨_, hL3, by rw [List.length_map]; exact small_lt (by omega), (s3.trans s4).put s2.purse hD1, is ++ [z], by rw [upd_same, map_snoc], by rw [List.length_append, hlen]; rfl, mem_snoc hb z1 z2⟩
      · refine ⟨_, rfl, a, 3, rfl, s3.purse, by decide, by decide, fun z H3 z1 z2 s4 => ?_⟩
        have hL3 : H3 D1 = some (.lst (is.map V.int)) := s4.kept _ _ hL (s2.purse.ne hD1)
        refine ⟨_, hL3, by rw [List.length_map]; exact small_lt (by omega), (s3.trans s4).put s2.purse hD1, is ++ [z], by rw [upd_same, map_snoc], by rw [List.length_append, hlen]; rfl, mem_snoc hb (by omega) (by omega)⟩
    · rintro H3 ⟨s3, es, hL, hlen, hb⟩
      refine ⟨D1, es.map V.int, rfl, .inl ⟨SqL.of hL, fun te hte => ?_⟩⟩
      have s4 : Sm a H (upd H3 te (.tup (es.map V.int))) := (s1.trans (s2.trans s3)).new hte
      have e4 : IntsT K (upd H3 te (.tup (es.map V.int))) te es := .inl (.inl upd_same)
      generalize upd H3 te (.tup (es.map V.int)) = H4 at s4 e4 ⊢
      -- the period's
      refine ⟨_, rfl, a, 4, rfl, s4.purse, by decide, by decide, fun m H5 m1 m2 s5 => ⟨_, _, rfl, rfl, 1 + m, rfl, by omega, by omega, fun D2 hD2 => ?_⟩⟩
      refine lc_range (lo := 0) (n := (1 + m).toNat) (fun i H' => Sm a H5 H' ∧ ∃ is : List Int, H' D2 = some (.lst (is.map V.int)) ∧ is.length = i ∧ ∀ z ∈ is, -B0 ≤ z ∧ z ≤ B0)
        ⟨(Sm.refl s5.purse).new hD2, [], upd_same, rfl, fun _ hz => (List.not_mem_nil hz).elim⟩ ?_ ?_
      · rintro i H' hi ⟨s6, is, hL', hlen', hb'⟩
        refine ⟨rfl, _, rfl, rfl, _, rfl, ?_⟩
        refine ite2 (fun _ => ?_) (fun _ => ?_)
        · refine ⟨_, rfl, a, rfl, s6.purse, fun z H7 z1 z2 s7 => ?_⟩
          have hL7 : H7 D2 = some (.lst (is.map V.int)) := s7.kept _ _ hL' (s5.purse.ne hD2)
          refine ⟨_, hL7, by rw [List.length_map]; exact small_lt (by omega), (s6.trans s7).put s5.purse hD2, is ++ [z], by rw [upd_same, map_snoc], by rw [List.length_append, hlen']; rfl, mem_snoc hb' z1 z2⟩
        · refine ⟨_, rfl, a, 2, rfl, s6.purse, by decide, by decide, fun z H7 z1 z2 s7 => ?_⟩
          have hL7 : H7 D2 = some (.lst (is.map V.int)) := s7.kept _ _ hL' (s5.purse.ne hD2)
          refine ⟨_, hL7, by rw [List.length_map]; exact small_lt (by omega), (s6.trans s7).put s5.purse hD2, is ++ [z], by rw [upd_same, map_snoc], by rw [List.length_append, hlen']; rfl, mem_snoc hb' (by omega) (by omega)⟩
      · rintro H6 ⟨s6, cs, hL', hlen', hb'⟩
        refine ⟨D2, cs.map V.int, rfl, .inl ⟨SqL.of hL', fun tc htc => ?_⟩⟩
        have s7 : Sm a H4 (upd H6 tc (.tup (cs.map V.int))) := (s5.trans s6).new htc
        have e7 : IntsT K (upd H6 tc (.tup (cs.map V.int))) tc cs := .inl (.inl upd_same)
        have e7' : IntsT K (upd H6 tc (.tup (cs.map V.int))) te es := sqT_sm e4 s4.purse s7
        have s8 := s4.trans s7
        generalize upd H6 tc (.tup (cs.map V.int)) = H7 at s8 e7 e7' ⊢
        have hne : cs ≠ [] := fun z => by rw [z] at hlen'; simp at hlen'; omega
        refine ⟨_, rfl, _, rfl, _, rfl, rfl, _, rfl, ?_⟩
        refine ite2 (fun _ => ?_) (fun _ => ?_)
        · refine ⟨_, rfl, a, rfl, s8.purse, fun z H8 z1 z2 s9 => ⟨(by show 3 ≤ sizeLine; decide), fun p hpn => ?_⟩⟩
          have s10 := s9.new (o := .tup [.ref te, .ref tc, .int z]) hpn
          exact k p ⟨es, cs, z⟩ _ (s8.trans s10) ⟨te, tc, .inl (.inl upd_same), sqT_sm e7' s8.purse s10, sqT_sm e7 s8.purse s10⟩ ⟨by show es.length ≤ 5; omega, hne, by show cs.length ≤ 4; omega, hb, hb', z1, z2⟩
        · refine ⟨_, rfl, a, 5, rfl, s8.purse, by decide, by decide, fun z H8 z1 z2 s9 => ⟨_, _, rfl, rfl, (by show 3 ≤ sizeLine; decide), fun p hpn => ?_⟩⟩
          have s10 := s9.new (o := .tup [.ref te, .ref tc, .int (z - 2)]) hpn
          exact k p ⟨es, cs, z - 2⟩ _ (s8.trans s10) ⟨te, tc, .inl (.inl upd_same), sqT_sm e7' s8.purse s10, sqT_sm e7 s8.purse s10⟩ ⟨by show es.length ≤ 5; omega, hne, by show cs.length ≤ 4; omega, hb, hb', by show -B0 ≤ z - 2; omega, by show z - 2 ≤ B0; omega⟩
end
end L2.K18

namespace L2.K18
open PySem PySem.Spec PyProof.Rows
section
variable {P : Program} {w : World} {K : PySem.W.Frag} {mg : Str → Option Value} {base : Heap} {C : Addr}

theorem scPurse : FnScope ["_law_cell_here", "_law_seed"] ["_law_cell_here"] (defScope tPurse) := ⟨rfl, rfl, rfl, by decide +kernel, rfl, by decide +kernel, by decide +kernel⟩
theorem ok_purse {f : Addr} {fd : FuncData} (F : Fun K "_law_purse" "_law_purse" tPurse f fd) (T : Txt K mg C) : FnOk P w K mg base CX0 1 f fd ["_law_cell_here"] spPurse := by
  refine F.ok scPurse (fun vs H Q E h => ?_) (fun cdv A outer s H vs Q E hr h => ?_)
  · obtain ⟨z, rfl, _⟩ := h
    rfl
  · obtain ⟨z, rfl, k⟩ := h
    refine ⟨_, pss_cons (ps_set (i := 1) scPurse.nd rfl (.inl rfl) (pe_op op_mod (pe_callTy call_int1 (by rfl) T.int (by decide +kernel) (pa_cons (pe_op op_add (pe_op op_mul (pe_op op_mod (pe_callTy call_int1 (by rfl) T.int (by decide +kernel) (pa_cons (pv 0) pa_nil)) pe_int) pe_int) pe_int) pa_nil)) pe_int))
      (pss_one (ps_ret (pe_lst (pa_cons (pv 1) (pa_cons (pe_ifExp (pt_cmpR op_ge (pe_callB call_abs (by rfl) T.abs (by decide +kernel) (pa_cons (pv 0) pa_nil)) (pe_op op_pow pe_int pe_int) (nomark _))
        (pe_callB call_abs (by rfl) T.abs (by decide +kernel) (pa_cons (pv 0) pa_nil)) pe_int) (pa_cons pe_int pa_nil)))))), ?_⟩
    refine ⟨_, rfl, .inl ⟨_, rfl, _, _, rfl, rfl, (by show (0 : Int) < 2147483629; decide), _, _, rfl, rfl, .inr ⟨by decide, by decide⟩, _, _, rfl, rfl, .inl ⟨_, rfl, _, _, rfl, rfl, (by show (0 : Int) < 2147483629; decide), ?_⟩⟩⟩
    refine ⟨_, rfl, _, rfl, _, rfl, _, _, rfl, rfl, ⟨by decide, by decide, by decide⟩, _, _, rfl, rfl, _, rfl, ?_⟩
    refine ite2 (fun h0 => ?_) (fun h0 => ?_)
    · refine ⟨_, rfl, _, rfl, (by show 3 ≤ sizeLine; decide), fun p hp => k p _ hp (same_new (Same.refl _) hp) ⟨_, _, _, upd_same, Int.emod_nonneg _ (by decide), Int.emod_lt_of_pos _ (by decide), ?_⟩⟩
      split <;> omega
    · exact ⟨(by show 3 ≤ sizeLine; decide), fun p hp => k p _ hp (same_new (Same.refl _) hp) ⟨_, _, _, upd_same, Int.emod_nonneg _ (by decide), Int.emod_lt_of_pos _ (by decide), Int.le_refl _⟩⟩

theorem scCell : FnScope ["_law_script", "_law_k", "_law_seed", "_law_part"] ["_law_script", "_law_k"] (defScope tCell) := ⟨rfl, rfl, rfl, by decide +kernel, rfl, by decide +kernel, by decide +kernel⟩
theorem ok_cell {f : Addr} {fd : FuncData} (F : Fun K "_law_cell" "_law_cell" tCell f fd) (T : Txt K mg C) : FnOk P w K mg base CX0 1 f fd ["_law_script", "_law_k"] (spCellK K) := by
  refine F.ok scCell (fun vs H Q E h => ?_) (fun cdv A outer s H vs Q E hr h => ?_)
  · obtain ⟨l, ns, n, rfl, _⟩ := h
    rfl
  · obtain ⟨l, ns, n, rfl, hS, hl, hn, k⟩ := h
    refine ⟨_, pss_cons (ps_if (pt_cmpR op_lt (pv 1) (pe_callB call_len_seq (by rfl) T.len PySem.boot_len (pa_cons (pv 0) pa_nil)) (nomark _)) (pss_one (ps_ret (pe_ix ix_list (pv 0) (pv 1) (fun _ _ => rfl)))) pss_nil)
      (pss_cons (ps_set (i := 2) scCell.nd rfl (.inl rfl) (pe_op op_add pe_int (pe_op op_mul (pe_op op_mul pe_int (pv 1)) (pv 1))))
      (pss_cons (ps_for PassesOwn.never rfl (pi_list (pe_slice sl_list (pv 0) po_none (po_some pe_int))) (pg_name (i := 3) scCell.nd rfl (.inl rfl))
        (pss_one (ps_set (i := 2) scCell.nd rfl (.inl rfl) (pe_op op_mod (pe_callTy call_int1 (by rfl) T.int (by decide +kernel) (pa_cons (pe_op op_add (pe_op op_mul (pv 2) pe_int) (pv 3)) pa_nil)) pe_int))))
      (pss_one (ps_ret (pv 2))))), ?_⟩
    refine ⟨_, rfl, _, rfl, l, _, rfl, .inl hS, _, _, rfl, rfl, _, rfl, ?_⟩
    refine ite2 (fun h0 => ?_) (fun h0 => ?_)
    · have h0' := of_decide_eq_true h0
      rw [List.length_map] at h0'
      refine ⟨_, rfl, _, rfl, l, _, _, .int (ns.getD n 0), rfl, rfl, hS, atI_nat ?_, k _ _ (Same.refl _)⟩
      rw [List.getElem?_map, List.getElem?_eq_getElem (by omega : n < ns.length), List.getD_eq_getElem?_getD, List.getElem?_eq_getElem (by omega : n < ns.length)]
      rfl
    · refine ⟨_, rfl, _, _, rfl, rfl, .inl ⟨by decide, by decide⟩, _, rfl, _, _, rfl, rfl, .inr ⟨by omega, by omega⟩, _, _, rfl, rfl, ?_⟩
      refine ⟨_, rfl, 4, rfl, l, _, rfl, hS, fun p hp => ⟨p, rfl, ⟨_, SqL.of upd_same⟩, ?_⟩⟩
      refine for_list (K := K) (a := p) (xs := cutV (ns.map V.int) none (some 4)) (fun i σ H' => Same H H' ∧ H' p = some (.lst (cutV (ns.map V.int) none (some 4))) ∧ ∃ (z : Int) (v : Option V), σ = [some (.ref l), some (.int (n : Int)), some (.int z), v])
        ⟨same_new (Same.refl _) hp, upd_same, _, none, rfl⟩ (fun i σ H' _ z => SqL.of z.2.1) ?_ ?_
      · rintro i x σ H' hx ⟨s1, hL, z, v, rfl⟩
        obtain ⟨j, rfl⟩ : ∃ j, x = V.int j := by
          have hm : x ∈ ns.map V.int := List.mem_of_mem_drop (List.mem_of_mem_take (List.mem_of_getElem? hx))
          obtain ⟨j, _, e⟩ := List.mem_map.mp hm
          exact ⟨j, e.symm⟩
        refine ⟨_, rfl, _, _, rfl, rfl, .inr ⟨by decide, by decide⟩, _, rfl, _, _, rfl, rfl, .inl ⟨_, rfl, _, _, rfl, rfl, (by show (0 : Int) < 2147483629; decide), ?_⟩⟩
        exact ⟨s1, hL, _, _, rfl⟩
      · rintro σ H' ⟨s1, hL, z, v, rfl⟩
        exact ⟨_, rfl, k _ _ s1⟩
end
end L2.K18

namespace L2.K18
open PySem PySem.Spec PyProof.Rows
theorem at_ints {xs : List Int} {i : Nat} (h : i < xs.length) : atI (xs.map V.int) (i : Int) = some (.int (xs.getD i 0)) := by
  refine atI_nat ?_
  rw [List.getElem?_map, List.getElem?_eq_getElem h, List.getD_eq_getElem?_getD, List.getElem?_eq_getElem h]
  rfl
section
variable {P : Program} {w : World} {K : PySem.W.Frag} {mg : Str → Option Value} {base : Heap} {C : Addr}

theorem scAt : FnScope ["_law_form_here", "_law_at_here", "_law_first", "_law_cycle", "_law_step"] ["_law_form_here", "_law_at_here"] (defScope tAt) := ⟨rfl, rfl, rfl, by decide +kernel, rfl, by decide +kernel, by decide +kernel⟩
theorem ok_at {f : Addr} {fd : FuncData} (F : Fun K "_law_at" "_law_at" tAt f fd) (T : Txt K mg C) : FnOk P w K mg base CX0 1 f fd ["_law_form_here", "_law_at_here"] (spAt K) := by
  refine F.ok scAt (fun vs H Q E h => ?_) (fun cdv A outer s H vs Q E hr h => ?_)
  · obtain ⟨p, g, n, rfl, _⟩ := h
    rfl
  · obtain ⟨p, g, n, rfl, ⟨te, tc, hp, he, hc⟩, hne, le, lc, ln, k⟩ := h
    have hpos : 0 < g.c.length := List.length_pos_iff.mpr hne
    refine ⟨_, pss_cons (ps_asg (pv 0) (pg_tup (by rfl) (pgs_cons (pg_name (i := 2) scAt.nd rfl (.inl rfl)) (pgs_cons (pg_name (i := 3) scAt.nd rfl (.inl rfl)) (pgs_cons (pg_name (i := 4) scAt.nd rfl (.inl rfl)) pgs_nil)))))
      (pss_cons (ps_if (pt_cmpR op_lt (pv 1) (pe_callB call_len_seq (by rfl) T.len PySem.boot_len (pa_cons (pv 2) pa_nil)) (nomark _)) (pss_one (ps_ret (pe_ix ix_tup (pv 2) (pv 1) (fun _ _ => rfl)))) pss_nil)
      (pss_one (ps_ret (pe_op op_add
        (pe_ix ix_tup (pv 3) (pe_op op_mod (pe_callTy call_int1 (by rfl) T.int (by decide +kernel) (pa_cons (pe_op op_sub (pv 1) (pe_callB call_len_seq (by rfl) T.len PySem.boot_len (pa_cons (pv 2) pa_nil))) pa_nil))
          (pe_callB call_len_seq (by rfl) T.len PySem.boot_len (pa_cons (pv 3) pa_nil))) (fun _ _ => rfl))
        (pe_op op_mul (pe_op op_fdiv (pe_op op_sub (pv 1) (pe_callB call_len_seq (by rfl) T.len PySem.boot_len (pa_cons (pv 2) pa_nil))) (pe_callB call_len_seq (by rfl) T.len PySem.boot_len (pa_cons (pv 3) pa_nil))) (pv 4)))))), ?_⟩
    refine ⟨_, rfl, p, _, rfl, hp, rfl, _, _, rfl, _, _, rfl, _, _, rfl, rfl, ?_⟩
    refine ⟨_, rfl, _, rfl, te, _, rfl, .inr he, _, _, rfl, rfl, _, rfl, ?_⟩
    have le1 : (g.e.map V.int).length = g.e.length := List.length_map _
    have lc1 : (g.c.map V.int).length = g.c.length := List.length_map _
    refine ite2 (fun h0 => ?_) (fun h0 => ?_)
    · have h0' := of_decide_eq_true h0
      have hlt : n < g.e.length := by omega
      refine ⟨_, rfl, _, rfl, te, _, _, _, rfl, rfl, he, at_ints hlt, ?_⟩
      have et : tell g n = g.e.getD n 0 := by unfold tell; rw [if_pos hlt]
      rw [← et]
      exact k
    · have hlt : ¬ n < g.e.length := fun q => h0 (decide_eq_true (by omega))
      have e1 : (n : Int) - ((g.e.map V.int).length : Int) = ((n - g.e.length : Nat) : Int) := by omega
      refine ⟨_, rfl, _, rfl, _, rfl, te, _, rfl, .inr he, _, _, rfl, rfl, .inl ⟨_, rfl, _, rfl, tc, _, rfl, .inr hc, _, _, rfl, rfl, (by show (0 : Int) < ((g.c.map V.int).length : Int); omega), ?_⟩⟩
      have e2 : ((n : Int) - ((g.e.map V.int).length : Int)) % ((g.c.map V.int).length : Int) = (((n - g.e.length) % g.c.length : Nat) : Int) := by
        rw [e1, lc1]
        rfl
      have e3 : ((n : Int) - ((g.e.map V.int).length : Int)) / ((g.c.map V.int).length : Int) = (((n - g.e.length) / g.c.length : Nat) : Int) := by
        rw [e1, lc1]
        rfl
      refine ⟨tc, _, _, _, rfl, rfl, hc, (by rw [e2]; exact at_ints (Nat.mod_lt _ hpos)), ?_⟩
      refine ⟨_, rfl, _, rfl, te, _, rfl, .inr he, _, _, rfl, rfl, _, rfl, tc, _, rfl, .inr hc, _, _, rfl, rfl, ⟨by omega, by omega⟩, _, rfl, _, _, rfl, rfl, .inl ?_, _, _, rfl, rfl, ?_⟩
      · rw [e3]
        have : (n - g.e.length) / g.c.length ≤ n := Nat.le_trans (Nat.div_le_self _ _) (Nat.sub_le _ _)
        generalize (n - g.e.length) / g.c.length = q at this ⊢
        omega
      · have et : tell g n = g.c.getD ((n - g.e.length) % g.c.length) 0 + ((n : Int) - ((g.e.map V.int).length : Int)) / ((g.c.map V.int).length : Int) * g.r := by
          unfold tell
          rw [if_neg hlt, e3]
        show Q (.int (g.c.getD ((n - g.e.length) % g.c.length) 0 + ((n : Int) - ((g.e.map V.int).length : Int)) / ((g.c.map V.int).length : Int) * g.r)) _
        rw [← et]
        exact k

/-! ### what it tells stays small -/
theorem getD_bnd {B : Int} (hB : 0 ≤ B) {xs : List Int} (h : ∀ z ∈ xs, -B ≤ z ∧ z ≤ B) (i : Nat) : -B ≤ xs.getD i 0 ∧ xs.getD i 0 ≤ B := by
  rw [List.getD_eq_getElem?_getD]
  cases e : xs[i]? with
  | none => exact ⟨by simpa using hB, by simpa using hB⟩
  | some v => exact h v (List.mem_of_getElem? e)
theorem mul_bnd {q m : Nat} {B r : Int} (hr : -B ≤ r ∧ r ≤ B) (hq : q ≤ m) : -((m : Int) * B) ≤ (q : Int) * r ∧ (q : Int) * r ≤ (m : Int) * B := by
  have hB : 0 ≤ B := by omega
  have h1 : (q : Int) * r ≤ (q : Int) * B := Int.mul_le_mul_of_nonneg_left hr.2 (by omega)
  have h2 : (q : Int) * (-B) ≤ (q : Int) * r := Int.mul_le_mul_of_nonneg_left hr.1 (by omega)
  have h3 : (q : Int) * B ≤ (m : Int) * B := Int.mul_le_mul_of_nonneg_right (by omega) hB
  rw [Int.mul_neg] at h2
  omega
theorem tell_bnd {le lc m : Nat} {B : Int} {f : Fm} (g : Good le lc B f) {n : Nat} (hn : n ≤ m) : -((m + 1 : Nat) * B) ≤ tell f n ∧ tell f n ≤ (m + 1 : Nat) * B := by
  have hB : 0 ≤ B := by have := g.br; omega
  have hm : ((m + 1 : Nat) : Int) * B = (m : Int) * B + B := by
    rw [Int.natCast_add, Int.add_mul]
    simp
  have hmB : 0 ≤ (m : Int) * B := Int.mul_nonneg (by omega) hB
  rw [hm]
  unfold tell
  split
  · have := getD_bnd hB g.be n
    omega
  · have h1 := getD_bnd hB g.bc ((n - f.e.length) % f.c.length)
    have h2 := mul_bnd (q := (n - f.e.length) / f.c.length) (m := m) g.br (Nat.le_trans (Nat.div_le_self _ _) (by omega))
    omega

theorem scUnr : FnScope ["_law_purse_here", "_law_form_here", "_law_size", "_law_many", "_law_first", "_law_cycle", "_law_k"] ["_law_purse_here", "_law_form_here"] (defScope tUnr) := ⟨rfl, rfl, rfl, by decide +kernel, rfl, by decide +kernel, by decide +kernel⟩
theorem ok_unr {f f1 f2 : Addr} {fd fd1 fd2 : FuncData} (F : Fun K "_law_unrolled" "_law_unrolled" tUnr f fd) (T : Txt K mg C) (D : Def P w K mg base 1 "_law_take" ["_law_purse_here", "_law_many"] spTake f1 fd1)
    (DA : Def P w K mg base 1 "_law_at" ["_law_form_here", "_law_at_here"] (spAt K) f2 fd2) : FnOk P w K mg base CX0 2 f fd ["_law_purse_here", "_law_form_here"] (spUnr K) := by
  refine F.ok scUnr (fun vs H Q E h => ?_) (fun cdv A outer s H vs Q E hr h => ?_)
  · obtain ⟨a, p, g, rfl, _⟩ := h
    rfl
  · obtain ⟨a, p, g, rfl, hp, hf, hg, k⟩ := h
    have eB := B0_eq
    have eB1 := B1_eq
    refine ⟨_, pss_cons (ps_asg (pe_tup (pa_cons (pe_op op_add (pe_callB call_len_seq (by rfl) T.len PySem.boot_len (pa_cons (pe_ix ix_tup (pv 1) pe_int (fun _ _ => rfl)) pa_nil)) (pe_call D.ok hr (by rfl) D.at_ D.kp D.b .nil pass0 (pa_cons (pv 0) (pa_cons pe_int pa_nil))))
          (pa_cons (pe_op op_mul (pe_callB call_len_seq (by rfl) T.len PySem.boot_len (pa_cons (pe_ix ix_tup (pv 1) pe_int (fun _ _ => rfl)) pa_nil)) (pe_op op_add pe_int (pe_call D.ok hr (by rfl) D.at_ D.kp D.b .nil pass0 (pa_cons (pv 0) (pa_cons pe_int pa_nil))))) pa_nil)))
        (pg_tup (by rfl) (pgs_cons (pg_name (i := 2) scUnr.nd rfl (.inr rfl)) (pgs_cons (pg_name (i := 3) scUnr.nd rfl (.inl rfl)) pgs_nil))))
      (pss_cons (ps_set (i := 4) scUnr.nd rfl (.inl rfl) (pe_callTy call_tuple_of (by rfl) T.tuple (by decide +kernel) (pa_cons
        (pe_lc (own := [("_law_k", 6)]) (g := gName 6) (tt := tYes) rfl scUnr.nd (pi_range1 (by rfl) T.range (pa_cons (pv 2) pa_nil))
          (blkOk_by (N := ["_law_purse_here", "_law_form_here", "_law_size", "_law_many", "_law_first", "_law_cycle", "_law_k"]) (sc := defScope tUnr) (by decide +kernel)) (fun _ _ _ _ _ => pg_name (i := 6) scUnr.nd rfl (Or.inl rfl)) (fun _ _ _ _ _ => pts_nil)
          (fun _ _ _ _ _ => pe_call DA.ok hr (by rfl) DA.at_ DA.kp DA.b .nil pass0 (pa_cons (pv 1) (pa_cons (pv 6) pa_nil)))) pa_nil)))
      (pss_cons (ps_set (i := 5) scUnr.nd rfl (.inl rfl) (pe_callTy call_tuple_of (by rfl) T.tuple (by decide +kernel) (pa_cons
        (pe_lc (own := [("_law_k", 6)]) (g := gName 6) (tt := tYes) rfl scUnr.nd (pi_range1 (by rfl) T.range (pa_cons (pv 3) pa_nil))
          (blkOk_by (N := ["_law_purse_here", "_law_form_here", "_law_size", "_law_many", "_law_first", "_law_cycle", "_law_k"]) (sc := defScope tUnr) (by decide +kernel)) (fun _ _ _ _ _ => pg_name (i := 6) scUnr.nd rfl (Or.inl rfl)) (fun _ _ _ _ _ => pts_nil)
          (fun _ _ _ _ _ => pe_call DA.ok hr (by rfl) DA.at_ DA.kp DA.b .nil pass0 (pa_cons (pv 1) (pa_cons (pe_op op_add (pv 2) (pv 6)) pa_nil)))) pa_nil)))
      (pss_one (ps_ret (pe_tup (pa_cons (pv 4) (pa_cons (pv 5) (pa_cons (pe_op op_sub (pe_call DA.ok hr (by rfl) DA.at_ DA.kp DA.b .nil pass0 (pa_cons (pv 1) (pa_cons (pe_op op_add (pv 2) (pv 3)) pa_nil))) (pe_ix ix_tup (pv 5) pe_int (fun _ _ => rfl))) pa_nil)))))))), ?_⟩
    obtain ⟨te, tc, hp1, he, hc⟩ := id hf
    have le1 : (g.e.map V.int).length = g.e.length := List.length_map _
    have lc1 : (g.c.map V.int).length = g.c.length := List.length_map _
    have hpos : 0 < g.c.length := List.length_pos_iff.mpr hg.ne
    have g1 := hg.le
    have g2 := hg.lc
    -- size and many
    refine ⟨_, rfl, p, _, _, _, rfl, rfl, hp1, at3_0 _ _ _, te, _, rfl, .inr he, _, rfl, a, 4, rfl, hp, by decide, by decide, fun t H1 t1 t2 s1 => ?_⟩
    refine ⟨_, _, rfl, rfl, _, rfl, p, _, _, _, rfl, rfl, sqT_sm hp1 hp s1, at3_1 _ _ _, tc, _, rfl, .inr (sqT_sm hc hp s1), _, rfl, a, 3, rfl, s1.purse, by decide, by decide, fun u H2 u1 u2 s2 => ?_⟩
    refine ⟨_, _, rfl, rfl, _, _, rfl, rfl, .inl (by omega), (by show 2 ≤ sizeLine; decide), fun b hb => ?_⟩
    have s3 : Sm a H (upd H2 b (.tup [.int (((g.e.map V.int).length : Int) + t), .int (((g.c.map V.int).length : Int) * (1 + u))])) := (s1.trans s2).new hb
    obtain ⟨sz, hsz⟩ : ∃ sz : Nat, (((g.e.map V.int).length : Int) + t) = (sz : Int) := ⟨g.e.length + t.toNat, by omega⟩
    obtain ⟨mn, hmn⟩ : ∃ mn : Nat, (((g.c.map V.int).length : Int) * (1 + u)) = (mn : Int) := ⟨g.c.length * (1 + u.toNat), by rw [lc1, Int.natCast_mul, Int.natCast_add, Int.toNat_of_nonneg u1]; rfl⟩
    have hmn1 : 1 ≤ mn ∧ mn ≤ 12 := by
      have q : u = 0 ∨ u = 1 ∨ u = 2 := by omega
      rcases q with q | q | q <;> subst q <;> omega
    refine ⟨b, _, rfl, .inl (.inl upd_same), rfl, _, _, rfl, _, _, rfl, rfl, ?_⟩
    dsimp only
    rw [hsz, hmn] at s3 ⊢
    have hsz1 : sz ≤ 8 := by omega
    generalize upd H2 b (.tup [.int (sz : Int), .int (mn : Int)]) = H3 at s3 ⊢
    have hf3 := hf.sm hp s3
    have hle : g.e.length ≤ 100 := by omega
    have hlc : g.c.length ≤ 100 := by omega
    have z0 : ∀ i : Nat, (0 : Int) + (i : Int) = (i : Int) := fun i => Int.zero_add _
    have bnd : ∀ n : Nat, n ≤ 20 → -(21 * B0) ≤ tell g n ∧ tell g n ≤ 21 * B0 := fun n hn => tell_bnd hg hn
    -- the early ones
    refine ⟨_, rfl, _, rfl, by omega, by omega, fun D1 hD1 => ?_⟩
    refine lc_range (lo := 0) (n := (sz : Int).toNat) (fun i H' => Sm a H3 H' ∧ ∃ is : List Int, H' D1 = some (.lst (is.map V.int)) ∧ is.length = i ∧ ∀ z ∈ is, -B1 ≤ z ∧ z ≤ B1)
      ⟨(Sm.refl s3.purse).new hD1, [], upd_same, rfl, fun _ hz => (List.not_mem_nil hz).elim⟩ ?_ ?_
    · rintro i H' hi ⟨s4, is, hL, hlen, hb'⟩
      rw [z0]
      have hb2 := bnd i (by omega)
      refine ⟨rfl, _, rfl, _, rfl, p, g, i, rfl, hf3.sm s3.purse s4, hg.ne, hle, hlc, by omega, _, hL, by rw [List.length_map]; exact small_lt (by omega), s4.put s3.purse hD1, is ++ [tell g i], by rw [upd_same, map_snoc], by rw [List.length_append, hlen]; rfl,
        mem_snoc hb' (by omega) (by omega)⟩
    · rintro H4 ⟨s4, es, hL, hlen, hb'⟩
      refine ⟨D1, es.map V.int, rfl, .inl ⟨SqL.of hL, fun t1' ht1 => ?_⟩⟩
      have s5 : Sm a H (upd H4 t1' (.tup (es.map V.int))) := (s3.trans s4).new ht1
      have e5 : IntsT K (upd H4 t1' (.tup (es.map V.int))) t1' es := .inl (.inl upd_same)
      generalize upd H4 t1' (.tup (es.map V.int)) = H5 at s5 e5 ⊢
      have hf5 := hf.sm hp s5
      -- the period's
      refine ⟨_, rfl, _, rfl, by omega, by omega, fun D2 hD2 => ?_⟩
      refine lc_range (lo := 0) (n := (mn : Int).toNat) (fun i H' => Sm a H5 H' ∧ ∃ is : List Int, H' D2 = some (.lst (is.map V.int)) ∧ is.length = i ∧ ∀ z ∈ is, -(21 * B0) ≤ z ∧ z ≤ 21 * B0)
        ⟨(Sm.refl s5.purse).new hD2, [], upd_same, rfl, fun _ hz => (List.not_mem_nil hz).elim⟩ ?_ ?_
      · rintro i H' hi ⟨s6, is, hL', hlen', hb2⟩
        rw [z0]
        have hb3 := bnd (sz + i) (by omega)
        refine ⟨rfl, _, rfl, _, rfl, _, rfl, _, _, rfl, rfl, p, g, sz + i, rfl, hf5.sm s5.purse s6, hg.ne, hle, hlc, by omega, _, hL', by rw [List.length_map]; exact small_lt (by omega), s6.put s5.purse hD2, is ++ [tell g (sz + i)], by rw [upd_same, map_snoc], by rw [List.length_append, hlen']; rfl,
          mem_snoc (B := 21 * B0) hb2 (by omega) (by omega)⟩
      · rintro H6 ⟨s6, cs, hL', hlen', hb2⟩
        refine ⟨D2, cs.map V.int, rfl, .inl ⟨SqL.of hL', fun t2' ht2 => ?_⟩⟩
        have s7 : Sm a H5 (upd H6 t2' (.tup (cs.map V.int))) := s6.new ht2
        have e7 : IntsT K (upd H6 t2' (.tup (cs.map V.int))) t2' cs := .inl (.inl upd_same)
        have e7' := sqT_sm e5 s5.purse s7
        have s8 := s5.trans s7
        generalize upd H6 t2' (.tup (cs.map V.int)) = H7 at s8 e7 e7' ⊢
        have hne : cs ≠ [] := fun z => by rw [z] at hlen'; simp at hlen'; omega
        have hcp : 0 < cs.length := List.length_pos_iff.mpr hne
        have hb3 := bnd (sz + mn) (by omega)
        have hb4 := getD_bnd (by omega) hb2 0
        refine ⟨_, rfl, _, rfl, _, rfl, _, rfl, _, rfl, _, _, rfl, rfl, p, g, sz + mn, rfl, hf.sm hp s8, hg.ne, hle, hlc, by omega, _, rfl, t2', _, _, _, rfl, rfl, e7, at_ints hcp, _, _, rfl, rfl, (by show 3 ≤ sizeLine; decide), fun q hq => ?_⟩
        have s9 := (Sm.refl s8.purse).new (o := .tup [.ref t1', .ref t2', .int (tell g (sz + mn) - cs.getD 0 0)]) hq
        exact k q ⟨es, cs, tell g (sz + mn) - cs.getD 0 0⟩ _ (s8.trans s9) ⟨t1', t2', .inl (.inl upd_same), sqT_sm e7' s8.purse s9, sqT_sm e7 s8.purse s9⟩
          ⟨by show es.length ≤ 8; omega, hne, by show cs.length ≤ 12; omega, hb', fun z hz => (by have := hb2 z hz; omega), by show -B1 ≤ tell g (sz + mn) - cs.getD 0 0; omega, by show tell g (sz + mn) - cs.getD 0 0 ≤ B1; omega⟩
end
end L2.K18

namespace L2.K18
open PySem PySem.Spec PyProof.Rows
theorem map_snocB (bs : List Bool) (b : Bool) : bs.map V.bl ++ [V.bl b] = (bs ++ [b]).map V.bl := by simp
theorem decI {i j : Int} : decide (V.int i = V.int j) = decide (i = j) := by
  by_cases h : i = j
  · rw [h]
    simp
  · rw [decide_eq_false h, decide_eq_false fun q => h (V.int.inj q)]
theorem range_snoc {α : Type} (g : Nat → α) (i : Nat) : (List.range i).map g ++ [g i] = (List.range (i + 1)).map g := by
  rw [List.range_succ, List.map_append]
  rfl
theorem all_map {α : Type} (l : List α) (g : α → Bool) : (l.map g).all id = l.all g := by
  rw [List.all_map]
  rfl
section
variable {P : Program} {w : World} {K : PySem.W.Frag} {mg : Str → Option Value} {base : Heap} {C : Addr}

theorem scSame : FnScope ["_law_one_form", "_law_two_here", "_law_many", "_law_k"] ["_law_one_form", "_law_two_here"] (defScope tSame) := ⟨rfl, rfl, rfl, by decide +kernel, rfl, by decide +kernel, by decide +kernel⟩
theorem ok_same {f f2 : Addr} {fd fd2 : FuncData} (F : Fun K "_law_same_told" "_law_same_told" tSame f fd) (T : Txt K mg C)
    (DA : Def P w K mg base 1 "_law_at" ["_law_form_here", "_law_at_here"] (spAt K) f2 fd2) : FnOk P w K mg base CX0 2 f fd ["_law_one_form", "_law_two_here"] (spSame K) := by
  refine F.ok scSame (fun vs H Q E h => ?_) (fun cdv A outer s H vs Q E hr h => ?_)
  · obtain ⟨p, q, g, g', rfl, _⟩ := h
    rfl
  · obtain ⟨p, q, g, g', rfl, hf, hf', hg, hg', k⟩ := h
    refine ⟨_, pss_cons (ps_set (i := 2) scSame.nd rfl (.inl rfl) (pe_op op_add
        (pe_callB (call_max2 rfl) (by rfl) T.max (by decide +kernel) (pa_cons (pe_callB call_len_seq (by rfl) T.len PySem.boot_len (pa_cons (pe_ix ix_tup (pv 0) pe_int (fun _ _ => rfl)) pa_nil)) (pa_cons (pe_callB call_len_seq (by rfl) T.len PySem.boot_len (pa_cons (pe_ix ix_tup (pv 1) pe_int (fun _ _ => rfl)) pa_nil)) pa_nil)))
        (pe_op op_mul (pe_callB call_len_seq (by rfl) T.len PySem.boot_len (pa_cons (pe_ix ix_tup (pv 0) pe_int (fun _ _ => rfl)) pa_nil)) (pe_callB call_len_seq (by rfl) T.len PySem.boot_len (pa_cons (pe_ix ix_tup (pv 1) pe_int (fun _ _ => rfl)) pa_nil)))))
      (pss_one (ps_ret (pe_callB (cr_all rfl) (by rfl) T.all (by decide +kernel) (pa_cons
        (pe_lc (own := [("_law_k", 3)]) (g := gName 3) (tt := tYes) rfl scSame.nd (pi_range1 (by rfl) T.range (pa_cons (pe_op op_add (pv 2) pe_int) pa_nil))
          (blkOk_by (N := ["_law_one_form", "_law_two_here", "_law_many", "_law_k"]) (sc := defScope tSame) (by decide +kernel)) (fun _ _ _ _ _ => pg_name (i := 3) scSame.nd rfl (Or.inl rfl)) (fun _ _ _ _ _ => pts_nil)
          (fun _ _ _ _ _ => pe_cmpR op_eq (pe_call DA.ok hr (by rfl) DA.at_ DA.kp DA.b .nil pass0 (pa_cons (pv 0) (pa_cons (pv 3) pa_nil))) (pe_call DA.ok hr (by rfl) DA.at_ DA.kp DA.b .nil pass0 (pa_cons (pv 1) (pa_cons (pv 3) pa_nil))) (nomark _))) pa_nil)))), ?_⟩
    obtain ⟨te, tc, hp1, he, hc⟩ := id hf
    obtain ⟨te', tc', hp1', he', hc'⟩ := id hf'
    have g1 := hg.le
    have g2 := hg.lc
    have g1' := hg'.le
    have g2' := hg'.lc
    refine ⟨_, rfl, p, _, _, _, rfl, rfl, hp1, at3_0 _ _ _, te, _, rfl, .inr he, _, rfl, q, _, _, _, rfl, rfl, hp1', at3_0 _ _ _, te', _, rfl, .inr he', _, _, rfl, ?_⟩
    refine ⟨_, rfl, p, _, _, _, rfl, rfl, hp1, at3_1 _ _ _, tc, _, rfl, .inr hc, _, rfl, q, _, _, _, rfl, rfl, hp1', at3_1 _ _ _, tc', _, rfl, .inr hc', _, _, rfl, rfl, .inl ?_, _, _, rfl, rfl, ?_⟩
    · rw [List.length_map]
      omega
    · dsimp only
      rw [List.length_map, List.length_map, List.length_map, List.length_map]
      obtain ⟨mn, hmn⟩ : ∃ mn : Nat, mn = max g.e.length g'.e.length + g.c.length * g'.c.length := ⟨_, rfl⟩
      have hm : ((if (g'.e.length : Int) > (g.e.length : Int) then (g'.e.length : Int) else (g.e.length : Int)) + (g.c.length : Int) * (g'.c.length : Int)) = (mn : Int) := by
        rw [hmn, Int.natCast_add, Int.natCast_mul]
        split <;> omega
      have hmul : g.c.length * g'.c.length ≤ 12 * 12 := Nat.mul_le_mul g2 g2'
      rw [hm]
      have z0 : ∀ i : Nat, (0 : Int) + (i : Int) = (i : Int) := fun i => Int.zero_add _
      refine ⟨_, rfl, _, _, rfl, rfl, _, rfl, by omega, by omega, fun D hD => ?_⟩
      refine lc_range (lo := 0) (n := ((mn : Int) + 1).toNat) (fun i H' => Same H H' ∧ H' D = some (.lst (((List.range i).map fun n => decide (tell g n = tell g' n)).map V.bl)))
        ⟨same_new (Same.refl _) hD, upd_same⟩ ?_ ?_
      · rintro i H' hi ⟨s1, hL⟩
        rw [z0]
        refine ⟨rfl, _, rfl, _, rfl, p, g, i, rfl, hf.same s1, hg.ne, by omega, by omega, by omega, _, rfl, _, rfl, q, g', i, rfl, hf'.same s1, hg'.ne, by omega, by omega, by omega, rfl, _, hL, ?_, same_upd s1 hD, ?_⟩
        · rw [List.length_map, List.length_map, List.length_range]
          exact small_lt (by omega)
        · rw [upd_same, decI, map_snocB, range_snoc fun n => decide (tell g n = tell g' n)]
      · rintro H' ⟨s1, hL⟩
        refine ⟨D, _, rfl, SqL.of hL, ?_⟩
        have et : ((List.range ((mn : Int) + 1).toNat).map fun n => decide (tell g n = tell g' n)).all id = told g g' := by
          rw [all_map]
          unfold told
          rw [← hmn]
          rfl
        rw [et]
        exact k H' s1

theorem scPaced : FnScope ["_law_told", "_law_form_here", "_law_part", "_law_k"] ["_law_told", "_law_form_here"] (defScope tPaced) := ⟨rfl, rfl, rfl, by decide +kernel, rfl, by decide +kernel, by decide +kernel⟩
theorem ok_paced {f : Addr} {fd : FuncData} (F : Fun K "_law_paced" "_law_paced" tPaced f fd) (T : Txt K mg C) : FnOk P w K mg base CX0 1 f fd ["_law_told", "_law_form_here"] (spPaced K) := by
  refine F.ok scPaced (fun vs H Q E h => ?_) (fun cdv A outer s H vs Q E hr h => ?_)
  · obtain ⟨t, p, g, U, B, rfl, _⟩ := h
    rfl
  · obtain ⟨t, p, g, U, B, rfl, ht, hf, hg, ⟨b1, b2, b3, b4⟩, k⟩ := h
    refine ⟨_, pss_cons (ps_if (PW.pt (pw_or (pt_not (pt_val (pe_callB call_isi (by rfl) T.isinstance (by decide +kernel) (pa_cons (pv 0) (pa_cons (pe_bltn (v := .ty "tuple") (by rfl) T.tuple (by decide +kernel) rfl) pa_nil)))))
          (pw_or1 (pt_cmpR op_ne (pe_callB call_len_seq (by rfl) T.len PySem.boot_len (pa_cons (pv 0) pa_nil)) pe_int (nomark _))))) (pss_one (ps_ret pe_bl)) pss_nil)
      (pss_cons (ps_if (pt_val (pe_callB (cr_any rfl) (by rfl) T.any (by decide +kernel) (pa_cons
          (pe_lc (own := [("_law_part", 2)]) (g := gName 2) (tt := tYes) rfl scPaced.nd (pi_tup (pv 0))
            (blkOk_by (N := ["_law_told", "_law_form_here", "_law_part", "_law_k"]) (sc := defScope tPaced) (by decide +kernel)) (fun _ _ _ _ _ => pg_name (i := 2) scPaced.nd rfl (Or.inl rfl)) (fun _ _ _ _ _ => pts_nil)
            (fun _ _ _ _ _ => pe_or (pe_not (pe_callB (id := "isinstance") (r := rIsi K) call_isi (by rfl) T.isinstance (by decide +kernel) (pa_cons (pv 2) (pa_cons (pe_bltn (v := .ty "int") (by rfl) T.int (by decide +kernel) rfl) pa_nil))))
              (pe_one (pe_callB (id := "isinstance") (r := rIsi K) call_isi (by rfl) T.isinstance (by decide +kernel) (pa_cons (pv 2) (pa_cons (pe_bltn (v := .ty "bool") (by rfl) T.bool (by decide +kernel) rfl) pa_nil)))))) pa_nil))) (pss_one (ps_ret pe_bl)) pss_nil)
      (pss_cons (ps_if (PW.pt (pw_or (pt_not (pt_chain op_le op_le pe_int (pe_ix ix_tup (pv 0) pe_int (fun _ _ => rfl)) (pe_callB call_len_seq (by rfl) T.len PySem.boot_len (pa_cons (pe_ix ix_tup (pv 1) pe_int (fun _ _ => rfl)) pa_nil))))
          (pw_or1 (pt_cmpR op_ne (pe_op op_mul (pe_ix ix_tup (pv 0) pe_int (fun _ _ => rfl)) (pe_callB call_len_seq (by rfl) T.len PySem.boot_len (pa_cons (pe_ix ix_tup (pv 1) pe_int (fun _ _ => rfl)) pa_nil)))
            (pe_op op_mul (pe_ix ix_tup (pv 0) pe_int (fun _ _ => rfl)) (pe_ix ix_tup (pv 1) pe_int (fun _ _ => rfl))) (nomark _))))) (pss_one (ps_ret pe_bl)) pss_nil)
      (pss_one (ps_ret (pe_callB (cr_all rfl) (by rfl) T.all (by decide +kernel) (pa_cons
          (pe_lc (own := [("_law_k", 3)]) (g := gName 3) (tt := tYes) rfl scPaced.nd (pi_range2 (by rfl) T.range (pa_cons pe_int (pa_cons (pe_op op_add (pe_callB call_len_seq (by rfl) T.len PySem.boot_len (pa_cons (pe_ix ix_tup (pv 1) pe_int (fun _ _ => rfl)) pa_nil)) pe_int) pa_nil)))
            (blkOk_by (N := ["_law_told", "_law_form_here", "_law_part", "_law_k"]) (sc := defScope tPaced) (by decide +kernel)) (fun _ _ _ _ _ => pg_name (i := 3) scPaced.nd rfl (Or.inl rfl)) (fun _ _ _ _ _ => pts_nil)
            (fun _ _ _ _ _ => pe_or (pe_cmpR op_ne (pe_op op_mod (pe_callTy call_int1 (by rfl) T.int (by decide +kernel) (pa_cons (pe_ix (r := rIxT K) ix_tup (pv 0) pe_int (fun _ _ => rfl)) pa_nil)) (pv 3)) pe_int (nomark _))
              (pe_one (pe_cmpR op_ne (pe_op op_mod (pe_callTy call_int1 (by rfl) T.int (by decide +kernel) (pa_cons (pe_ix (r := rIxT K) ix_tup (pv 0) pe_int (fun _ _ => rfl)) pa_nil)) (pv 3)) pe_int (nomark _))))) pa_nil)))))), ?_⟩
    obtain ⟨te, tc, hp1, he, hc⟩ := id hf
    have g2 := hg.lc
    have hT : SqT K H t [.int U, .int B] := .inl (.inl ht)
    -- a tuple of two
    refine ⟨_, rfl, _, _, _, _, true, rfl, .ty "tuple", .base (.tup ht), kit_ty (by decide +kernel), _, rfl, ?_⟩
    refine iteF ⟨_, rfl, t, _, rfl, .inr hT, rfl, _, rfl, ?_⟩
    refine iteNS rfl ?_
    -- of ints
    refine ⟨_, rfl, t, rfl, ⟨_, hT⟩, fun D hD => ?_⟩
    refine lc_tup (K := K) (a := t) (xs := [.int U, .int B]) (fun i H' => Same H H' ∧ ∃ bs : List Bool, H' D = some (.lst (bs.map V.bl)) ∧ bs.length = i ∧ ∀ b ∈ bs, b = false)
      ⟨same_new (Same.refl _) hD, [], upd_same, rfl, fun _ hz => (List.not_mem_nil hz).elim⟩ (fun i H' _ z => sqT_same hT z.1) ?_ ?_
    · rintro i x H' hx ⟨s1, bs, hL, hlen, hb⟩
      obtain ⟨y, rfl⟩ : ∃ y, x = V.int y := by
        have hm := List.mem_of_getElem? hx
        rcases List.mem_cons.mp hm with e | e
        · exact ⟨_, e⟩
        · exact ⟨_, List.mem_singleton.mp e⟩
      refine ⟨rfl, _, rfl, _, _, _, _, true, rfl, .ty "int", .base (.int y), kit_ty (by decide +kernel), _, rfl, _, rfl, ?_⟩
      refine iteF ⟨_, rfl, _, _, _, _, false, rfl, .ty "bool", .base (.int y), kit_ty (by decide +kernel), _, hL, ?_, same_upd s1 hD, bs ++ [false], ?_, ?_, ?_⟩
      · rw [List.length_map]
        have hi := (List.getElem?_eq_some_iff.mp hx).1
        exact small_lt (by rw [List.length_cons, List.length_singleton] at hi; omega)
      · rw [upd_same, map_snocB]
      · rw [List.length_append, hlen]
        rfl
      · intro b hb'
        rcases List.mem_append.mp hb' with q | q
        · exact hb b q
        · exact List.mem_singleton.mp q
    · rintro H1 ⟨s1, bs, hL, hlen, hb⟩
      have ha : bs.any id = false := by
        rw [List.any_eq_false]
        intro b hb'
        rw [hb b hb']
        decide
      refine ⟨D, bs, rfl, SqL.of hL, _, rfl, ?_⟩
      rw [ha]
      refine iteF ?_
      have hT1 := sqT_same hT s1
      have hp1' := sqT_same hp1 s1
      have hc1 := sqT_same hc s1
      have lc1 : (g.c.map V.int).length = g.c.length := List.length_map _
      -- the bottom, the quotient
      refine ⟨_, rfl, t, _, _, _, rfl, rfl, hT1, rfl, _, _, rfl, rfl, _, rfl, ?_⟩
      rw [decide_eq_true b1]
      refine iteT ⟨_, rfl, p, _, _, _, rfl, rfl, hp1', at3_1 _ _ _, tc, _, rfl, .inr hc1, _, _, rfl, rfl, _, rfl, ?_⟩
      rw [lc1, decide_eq_true b2]
      refine iteF ⟨_, rfl, t, _, _, _, rfl, rfl, hT1, rfl, _, rfl, p, _, _, _, rfl, rfl, hp1', at3_1 _ _ _, tc, _, rfl, .inr hc1, _, _, rfl, rfl, .inr (by rw [lc1]; omega), ?_⟩
      refine ⟨_, rfl, t, _, _, _, rfl, rfl, hT1, rfl, _, rfl, p, _, _, _, rfl, rfl, hp1', at3_2 _ _ _, _, _, rfl, rfl, .inl (by omega), rfl, _, rfl, ?_⟩
      refine iteNS (show V.int (U * ((g.c.map V.int).length : Int)) = V.int (B * g.r) by rw [lc1, b3]) ?_
      -- in lowest terms
      refine ⟨_, rfl, p, _, _, _, rfl, rfl, hp1', at3_1 _ _ _, tc, _, rfl, .inr hc1, _, _, rfl, rfl, 2, _, rfl, ⟨by decide, by decide, by omega, by omega⟩, fun D2 hD2 => ?_⟩
      refine lc_range (lo := 2) (n := (((g.c.map V.int).length : Int) + 1 - 2).toNat) (fun i H' => Same H1 H' ∧ ∃ bs : List Bool, H' D2 = some (.lst (bs.map V.bl)) ∧ bs.length = i ∧ ∀ b ∈ bs, b = true)
        ⟨same_new (Same.refl _) hD2, [], upd_same, rfl, fun _ hz => (List.not_mem_nil hz).elim⟩ ?_ ?_
      · rintro i H' hi ⟨s2, cs, hL2, hlen2, hb2⟩
        have hk := b4 (2 + (i : Int)) (by omega)
        have hT2 := sqT_same hT1 s2
        have hsz : (cs.map V.bl).length < sizeLine := by rw [List.length_map]; exact small_lt (by omega)
        have fin : ∃ acc, H' D2 = some (.lst acc) ∧ acc.length < sizeLine ∧ (Same H1 (upd H' D2 (.lst (acc ++ [V.bl true]))) ∧ ∃ bs : List Bool, (upd H' D2 (.lst (acc ++ [V.bl true]))) D2 = some (.lst (bs.map V.bl)) ∧ bs.length = i + 1 ∧ ∀ b ∈ bs, b = true) := by
          refine ⟨_, hL2, hsz, same_upd s2 hD2, cs ++ [true], by rw [upd_same, map_snocB], by rw [List.length_append, hlen2]; rfl, fun b hb' => ?_⟩
          rcases List.mem_append.mp hb' with q | q
          · exact hb2 b q
          · exact List.mem_singleton.mp q
        refine ⟨rfl, _, rfl, t, _, _, _, rfl, rfl, hT2, rfl, .inl ⟨_, rfl, _, rfl, _, _, rfl, rfl, (by show (0 : Int) < 2 + (i : Int); omega), rfl, _, rfl, ?_⟩⟩
        refine ite2 (fun _ => fin) (fun h0 => ?_)
        have h0' : U % (2 + (i : Int)) = 0 := by
          rcases Decidable.em (U % (2 + (i : Int)) = 0) with q | q
          · exact q
          · exact absurd (by rw [decI, decide_eq_false q]; rfl) h0
        have h1' : B % (2 + (i : Int)) ≠ 0 := hk.resolve_left fun q => q h0'
        refine ⟨_, rfl, t, _, _, _, rfl, rfl, hT2, rfl, .inl ⟨_, rfl, _, rfl, _, _, rfl, rfl, (by show (0 : Int) < 2 + (i : Int); omega), rfl, ?_⟩⟩
        rw [decI, decide_eq_false h1']
        exact fin
      · rintro H2 ⟨s2, cs, hL2, hlen2, hb2⟩
        have ha2 : cs.all id = true := List.all_eq_true.mpr fun b hb' => hb2 b hb'
        refine ⟨D2, cs, rfl, SqL.of hL2, ?_⟩
        rw [ha2]
        exact k H2 (s1.trans s2)
end
end L2.K18

namespace L2.K18
open PySem PySem.Spec PyProof.Rows
/-! ### slices and sums of tuples, whichever object comes -/
theorem slA_any {K : PySem.W.Frag} {H : Hp} {a : Addr} {xs : List V} {lo hi : Option Int} {Q : VK} (h : SqT K H a xs) (k : ∀ (q : Addr) (H' : Hp), Same H H' → SqT K H' q (cutV xs lo hi) → Q (.ref q) H') : rSlA K (.ref a) lo hi H Q := by
  refine ⟨a, xs, rfl, h, fun z => k a H (Same.refl _) ?_, fun _ p hp => k p _ (same_new (Same.refl _) hp) (.inl (.inl upd_same))⟩
  have e : cutV xs lo hi = xs := by
    unfold cutV
    rw [z.1, z.2]
    simp
  rw [e]
  exact h
theorem catA_any {K : PySem.W.Frag} {H : Hp} {a b : Addr} {xs ys : List V} {Q : VK} (h : SqT K H a xs) (h' : SqT K H b ys) (hz : xs.length + ys.length ≤ sizeLine)
    (k : ∀ (q : Addr) (H' : Hp), Same H H' → SqT K H' q (xs ++ ys) → Q (.ref q) H') : rCatA K (.ref a) (.ref b) H Q := by
  refine ⟨a, b, xs, ys, rfl, rfl, h, h', hz, fun e => k b H (Same.refl _) (by rw [e]; exact h'), fun _ e => k a H (Same.refl _) (by rw [e, List.append_nil]; exact h), fun _ _ p hp => k p _ (same_new (Same.refl _) hp) (.inl (.inl upd_same))⟩
theorem cut_to {xs : List Int} {i : Nat} (h : i ≤ xs.length) : cutV (xs.map V.int) none (some (i : Int)) = (xs.take i).map V.int := by
  unfold cutV
  rw [HT.sIx_none, HT.sIx_nat, List.length_map, Nat.min_eq_left h, List.drop_zero, Nat.sub_zero, List.map_take]
theorem cut_from {xs : List Int} {i : Nat} (h : i ≤ xs.length) : cutV (xs.map V.int) (some (i : Int)) none = (xs.drop i).map V.int := by
  unfold cutV
  rw [HT.sIx_none, HT.sIx_nat, List.length_map, Nat.min_eq_left h, List.map_drop, List.take_of_length_le]
  rw [List.length_drop, List.length_map]
  exact Nat.le_refl _
/-- one integer otherwise -/
def bend (xs : List Int) (i : Nat) (m : Int) : List Int := xs.take i ++ [xs.getD i 0 + m] ++ xs.drop (i + 1)
theorem bend_len {xs : List Int} {i : Nat} {m : Int} (h : i < xs.length) : (bend xs i m).length = xs.length := by
  unfold bend
  rw [List.length_append, List.length_append, List.length_take, List.length_drop, List.length_singleton]
  omega
theorem bend_bnd {xs : List Int} {i : Nat} {m B B' : Int} (hB : 0 ≤ B) (h : ∀ z ∈ xs, -B ≤ z ∧ z ≤ B) (h1 : B + 100000000000000000000 ≤ B') (m1 : -1 ≤ m) (m2 : m ≤ 100000000000000000000) : ∀ z ∈ bend xs i m, -B' ≤ z ∧ z ≤ B' := by
  intro z hz
  unfold bend at hz
  rcases List.mem_append.mp hz with q | q
  · rcases List.mem_append.mp q with q | q
    · have := h z (List.mem_of_mem_take q)
      omega
    · have e := List.mem_singleton.mp q
      have := getD_bnd hB h i
      omega
  · have := h z (List.mem_of_mem_drop q)
    omega
section
variable {P : Program} {w : World} {K : PySem.W.Frag} {mg : Str → Option Value} {base : Heap} {C : Addr}
/-- t[:i] + (t[i] + m,) + t[i + 1:] -/
abbrev tBend (K : PySem.W.Frag) (ja ji jm : Nat) : TE :=
  tOp (rCatA K) (tOp (rCatA K) (tSl (rSlA K) (tVar ja) tNoPart (tPart (tVar ji))) (tTup (tCons (tOp (rI0 fun i j => .int (i + j)) (tOp (rIxT K) (tVar ja) (tVar ji)) (tVar jm)) tNil)))
    (tSl (rSlA K) (tVar ja) (tPart (tOp (rI0 fun i j => .int (i + j)) (tVar ji) (tC (.int 1)))) tNoPart)
theorem bend_run {σ : St} {H : Hp} {Q : VK} {t : Addr} {xs : List Int} {i : Nat} {m : Int} {ja ji jm : Nat} (ha : σ[ja]? = some (some (.ref t))) (hi : σ[ji]? = some (some (.int (i : Int)))) (hm : σ[jm]? = some (some (.int m)))
    (h : IntsT K H t xs) (hlt : i < xs.length) (hz : xs.length ≤ 1000) (k : ∀ (q : Addr) (H' : Hp), Same H H' → IntsT K H' q (bend xs i m) → Q (.ref q) H') : tBend K ja ji jm σ H Q := by
  refine ⟨_, ha, _, hi, _, rfl, slA_any h fun p1 H1 s1 e1 => ?_⟩
  rw [cut_to (Nat.le_of_lt hlt)] at e1
  refine ⟨_, ha, _, hi, t, _, _, _, rfl, rfl, sqT_same h s1, at_ints hlt, _, hm, _, _, rfl, rfl, (by show 1 ≤ sizeLine; decide), fun p2 hp2 => ?_⟩
  have s2 : Same H1 (upd H1 p2 (.tup [.int (xs.getD i 0 + m)])) := same_new (Same.refl _) hp2
  have e2 : SqT K (upd H1 p2 (.tup [.int (xs.getD i 0 + m)])) p2 [.int (xs.getD i 0 + m)] := .inl (.inl upd_same)
  have hz' : ∀ n, n ≤ 1002 → n ≤ sizeLine := fun n hn => Nat.le_trans hn (by decide)
  refine catA_any (sqT_same e1 s2) e2 (hz' _ ?_) fun p3 H3 s3 e3 => ?_
  · rw [List.length_map, List.length_take, List.length_singleton]
    omega
  · have s4 := (s1.trans s2).trans s3
    refine ⟨_, ha, _, hi, _, _, rfl, rfl, (i : Int) + 1, rfl, ?_⟩
    dsimp only [tNoPart]
    refine slA_any (sqT_same h s4) fun p4 H4 s5 e4 => ?_
    have ei : (i : Int) + 1 = ((i + 1 : Nat) : Int) := rfl
    rw [ei, cut_from (by omega)] at e4
    refine catA_any (sqT_same e3 s5) e4 (hz' _ ?_) fun p5 H5 s6 e5 => k p5 H5 ((s4.trans s5).trans s6) ?_
    · rw [List.length_append, List.length_map, List.length_map, List.length_take, List.length_drop, List.length_singleton]
      omega
    · have eb : (xs.take i).map V.int ++ [V.int (xs.getD i 0 + m)] ++ (xs.drop (i + 1)).map V.int = (bend xs i m).map V.int := by
        unfold bend
        rw [List.map_append, List.map_append]
        rfl
      rw [eb] at e5
      exact e5

theorem scBent : FnScope ["_law_purse_here", "_law_form_here", "_law_first", "_law_cycle", "_law_step", "_law_at_here", "_law_more"] ["_law_purse_here", "_law_form_here"] (defScope tBent) := ⟨rfl, rfl, rfl, by decide +kernel, rfl, by decide +kernel, by decide +kernel⟩
theorem ok_bent {f f1 : Addr} {fd fd1 : FuncData} (F : Fun K "_law_bent_form" "_law_bent_form" tBent f fd) (T : Txt K mg C) (D : Def P w K mg base 1 "_law_take" ["_law_purse_here", "_law_many"] spTake f1 fd1) :
    FnOk P w K mg base CX0 2 f fd ["_law_purse_here", "_law_form_here"] (spBent K) := by
  refine F.ok scBent (fun vs H Q E h => ?_) (fun cdv A outer s H vs Q E hr h => ?_)
  · obtain ⟨a, p, g, rfl, _⟩ := h
    rfl
  · obtain ⟨a, p, g, rfl, hp, hf, hg, k⟩ := h
    have eB1 := B1_eq
    have eB2 := B2_eq
    refine ⟨_, pss_cons (ps_asg (pv 1) (pg_tup (by rfl) (pgs_cons (pg_name (i := 2) scBent.nd rfl (.inl rfl)) (pgs_cons (pg_name (i := 3) scBent.nd rfl (.inl rfl)) (pgs_cons (pg_name (i := 4) scBent.nd rfl (.inl rfl)) pgs_nil)))))
      (pss_cons (ps_set (i := 5) scBent.nd rfl (.inl rfl) (pe_call D.ok hr (by rfl) D.at_ D.kp D.b .nil pass0 (pa_cons (pv 0) (pa_cons (pe_op op_add (pe_op op_add (pe_callB call_len_seq (by rfl) T.len PySem.boot_len (pa_cons (pv 2) pa_nil)) (pe_callB call_len_seq (by rfl) T.len PySem.boot_len (pa_cons (pv 3) pa_nil))) pe_int) pa_nil))))
      (pss_cons (ps_set (i := 6) scBent.nd rfl (.inl rfl) (pe_ix ix_list (pe_lst (pa_cons pe_int (pa_cons (pe_un un_neg pe_int) (pa_cons pe_int (pa_cons (pe_op op_pow pe_int pe_int) pa_nil))))) (pe_call D.ok hr (by rfl) D.at_ D.kp D.b .nil pass0 (pa_cons (pv 0) (pa_cons pe_int pa_nil))) (fun _ _ => rfl)))
      (pss_cons (ps_if (pt_cmpR op_lt (pv 5) (pe_callB call_len_seq (by rfl) T.len PySem.boot_len (pa_cons (pv 2) pa_nil)) (nomark _))
        (pss_one (ps_ret (pe_tup (pa_cons (pe_op op_catA (pe_op op_catA (pe_slice sl_tupA (pv 2) po_none (po_some (pv 5))) (pe_tup (pa_cons (pe_op op_add (pe_ix ix_tup (pv 2) (pv 5) (fun _ _ => rfl)) (pv 6)) pa_nil))) (pe_slice sl_tupA (pv 2) (po_some (pe_op op_add (pv 5) pe_int)) po_none)) (pa_cons (pv 3) (pa_cons (pv 4) pa_nil)))))) pss_nil)
      (pss_cons (ps_set (i := 5) scBent.nd rfl (.inl rfl) (pe_op op_sub (pv 5) (pe_callB call_len_seq (by rfl) T.len PySem.boot_len (pa_cons (pv 2) pa_nil))))
      (pss_cons (ps_if (pt_cmpR op_lt (pv 5) (pe_callB call_len_seq (by rfl) T.len PySem.boot_len (pa_cons (pv 3) pa_nil)) (nomark _))
        (pss_one (ps_ret (pe_tup (pa_cons (pv 2) (pa_cons (pe_op op_catA (pe_op op_catA (pe_slice sl_tupA (pv 3) po_none (po_some (pv 5))) (pe_tup (pa_cons (pe_op op_add (pe_ix ix_tup (pv 3) (pv 5) (fun _ _ => rfl)) (pv 6)) pa_nil))) (pe_slice sl_tupA (pv 3) (po_some (pe_op op_add (pv 5) pe_int)) po_none)) (pa_cons (pv 4) pa_nil)))))) pss_nil)
      (pss_one (ps_ret (pe_tup (pa_cons (pv 2) (pa_cons (pv 3) (pa_cons (pe_op op_add (pv 4) (pv 6)) pa_nil))))))))))), ?_⟩
    obtain ⟨te, tc, hp1, he, hc⟩ := id hf
    have le1 : (g.e.map V.int).length = g.e.length := List.length_map _
    have lc1 : (g.c.map V.int).length = g.c.length := List.length_map _
    have hpos : 0 < g.c.length := List.length_pos_iff.mpr hg.ne
    have g1 := hg.le
    have g2 := hg.lc
    have g3 := hg.br
    refine ⟨_, rfl, p, _, rfl, hp1, rfl, _, _, rfl, _, _, rfl, _, _, rfl, rfl, ?_⟩
    refine ⟨_, rfl, _, rfl, te, _, rfl, .inr he, _, rfl, tc, _, rfl, .inr hc, _, _, rfl, rfl, _, _, rfl, rfl, a, _, rfl, hp, by omega, by omega, fun at_ H1 t1 t2 s1 => ?_⟩
    refine ⟨1, rfl, _, _, rfl, rfl, ⟨by decide, by decide, by decide⟩, (by show 4 ≤ sizeLine; decide), fun l hl => ?_⟩
    have s2 := s1.new (o := .lst [.int 1, .int (-1), .int 2, .int (10 ^ 20)]) hl
    refine ⟨_, rfl, a, 4, rfl, s2.purse, by decide, by decide, fun z H2 z1 z2 s3 => ?_⟩
    have nla : l ≠ a := by
      obtain ⟨_, _, _, e, _⟩ := s1.purse
      exact (ne_of_none e hl).symm
    have hL2 : H2 l = some (.lst [.int 1, .int (-1), .int 2, .int (10 ^ 20)]) := s3.kept _ _ upd_same nla
    have s4 := s2.trans s3
    obtain ⟨m, hm, m1, m2⟩ : ∃ m : Int, atI [V.int 1, V.int (-1), V.int 2, V.int (10 ^ 20)] z = some (.int m) ∧ -1 ≤ m ∧ m ≤ 100000000000000000000 := by
      obtain e | e | e | e : z = 0 ∨ z = 1 ∨ z = 2 ∨ z = 3 := by omega
      all_goals (subst e; exact ⟨_, rfl, by decide, by decide⟩)
    refine ⟨l, _, _, _, rfl, rfl, SqL.of hL2, hm, ?_⟩
    have he4 := sqT_sm he hp s4
    have hc4 := sqT_sm hc hp s4
    obtain ⟨i, rfl⟩ : ∃ i : Nat, at_ = (i : Int) := ⟨at_.toNat, by omega⟩
    -- among the early ones
    refine ⟨_, rfl, _, rfl, te, _, rfl, .inr he4, _, _, rfl, rfl, _, rfl, ?_⟩
    refine ite2 (fun h0 => ?_) (fun h0 => ?_)
    · have h0' := of_decide_eq_true h0
      have hlt : i < g.e.length := by omega
      refine bend_run (K := K) (xs := g.e) (i := i) (m := m) rfl rfl rfl he4 hlt (by omega) fun q H3 s5 e5 => ?_
      have s6 := s4.trans (s4.purse.sm s5)
      refine ⟨_, rfl, _, rfl, (by show 3 ≤ sizeLine; decide), fun r hr' => ?_⟩
      have s7 := (Sm.refl s6.purse).new (o := .tup [.ref q, .ref tc, .int g.r]) hr'
      refine k r ⟨bend g.e i m, g.c, g.r⟩ _ (s6.trans s7) ⟨q, tc, .inl (.inl upd_same), sqT_sm e5 s6.purse s7, sqT_sm (sqT_same hc4 s5) s6.purse s7⟩
        ⟨?_, hg.ne, hg.lc, bend_bnd (by omega) hg.be (by omega) m1 m2, fun z hz => (by have := hg.bc z hz; omega), by show -B2 ≤ g.r; omega, by show g.r ≤ B2; omega⟩
      show (bend g.e i m).length ≤ 8
      rw [bend_len hlt]
      omega
    · have hlt : ¬ i < g.e.length := fun q => h0 (decide_eq_true (by omega))
      refine ⟨_, rfl, _, rfl, te, _, rfl, .inr he4, _, _, rfl, rfl, ?_⟩
      dsimp only
      obtain ⟨j, hj⟩ : ∃ j : Nat, (i : Int) - ((g.e.map V.int).length : Int) = (j : Int) := ⟨i - g.e.length, by omega⟩
      rw [hj]
      refine ⟨_, rfl, _, rfl, tc, _, rfl, .inr hc4, _, _, rfl, rfl, _, rfl, ?_⟩
      refine ite2 (fun h1 => ?_) (fun h1 => ?_)
      · have h1' := of_decide_eq_true h1
        have hlt' : j < g.c.length := by omega
        refine ⟨_, rfl, bend_run (K := K) (xs := g.c) (i := j) (m := m) rfl rfl rfl hc4 hlt' (by omega) fun q H3 s5 e5 => ?_⟩
        have s6 := s4.trans (s4.purse.sm s5)
        refine ⟨_, rfl, (by show 3 ≤ sizeLine; decide), fun r hr' => ?_⟩
        have s7 := (Sm.refl s6.purse).new (o := .tup [.ref te, .ref q, .int g.r]) hr'
        have lb : (bend g.c j m).length = g.c.length := bend_len hlt'
        refine k r ⟨g.e, bend g.c j m, g.r⟩ _ (s6.trans s7) ⟨te, q, .inl (.inl upd_same), sqT_sm (sqT_same he4 s5) s6.purse s7, sqT_sm e5 s6.purse s7⟩
          ⟨Nat.le_trans hg.le (by decide), fun z => ?_, ?_, fun z hz => (by have := hg.be z hz; omega), bend_bnd (by omega) hg.bc (by omega) m1 m2, by show -B2 ≤ g.r; omega, by show g.r ≤ B2; omega⟩
        · have : (bend g.c j m).length = 0 := by rw [show bend g.c j m = [] from z]; rfl
          omega
        · show (bend g.c j m).length ≤ 12
          omega
      · refine ⟨_, rfl, _, rfl, _, rfl, _, rfl, _, _, rfl, rfl, (by show 3 ≤ sizeLine; decide), fun r hr' => ?_⟩
        have s7 := (Sm.refl s4.purse).new (o := .tup [.ref te, .ref tc, .int (g.r + m)]) hr'
        exact k r ⟨g.e, g.c, g.r + m⟩ _ (s4.trans s7) ⟨te, tc, .inl (.inl upd_same), sqT_sm he4 s4.purse s7, sqT_sm hc4 s4.purse s7⟩
          ⟨hg.le, hg.ne, hg.lc, fun z hz => (by have := hg.be z hz; omega), fun z hz => (by have := hg.bc z hz; omega), by show -B2 ≤ g.r + m; omega, by show g.r + m ≤ B2; omega⟩
end
end L2.K18

namespace L2.K18
open PySem PySem.Spec PyProof.Rows
section
variable {P : Program} {w : World} {K : PySem.W.Frag} {mg : Str → Option Value} {base : Heap} {C : Addr}
theorem scTwo : FnScope ["_law_purse_here", "_law_form_here", "_law_way", "_law_mate"] ["_law_purse_here"] (defScope tTwo) := ⟨rfl, rfl, rfl, by decide +kernel, rfl, by decide +kernel, by decide +kernel⟩
theorem ok_two {f f1 f2 f3 f4 : Addr} {fd fd1 fd2 fd3 fd4 : FuncData} (F : Fun K "_law_two" "_law_two" tTwo f fd) (D : Def P w K mg base 1 "_law_take" ["_law_purse_here", "_law_many"] spTake f1 fd1)
    (DF : Def P w K mg base 3 "_law_form" ["_law_purse_here"] (spForm K) f2 fd2) (DU : Def P w K mg base 2 "_law_unrolled" ["_law_purse_here", "_law_form_here"] (spUnr K) f3 fd3)
    (DB : Def P w K mg base 2 "_law_bent_form" ["_law_purse_here", "_law_form_here"] (spBent K) f4 fd4) : FnOk P w K mg base CX0 4 f fd ["_law_purse_here"] (spTwo K) := by
  refine F.ok scTwo (fun vs H Q E h => ?_) (fun cdv A outer s H vs Q E hr h => ?_)
  · obtain ⟨a, rfl, _⟩ := h
    rfl
  · obtain ⟨a, rfl, hp, k⟩ := h
    have eB0 := B0_eq
    have eB1 := B1_eq
    have eB2 := B2_eq
    have hr1 : Room 1 _ := hr.mono (by decide)
    have hr2 : Room 2 _ := hr.mono (by decide)
    refine ⟨_, pss_cons (ps_set (i := 1) scTwo.nd rfl (.inl rfl) (pe_call DF.ok hr (by rfl) DF.at_ DF.kp DF.b .nil pass0 (pa_cons (pv 0) pa_nil)))
      (pss_cons (ps_par (i := 2) (j := 3) (by rfl) scTwo.nd rfl rfl (by decide) rfl rfl (pa_cons (pe_call D.ok hr1 (by rfl) D.at_ D.kp D.b .nil pass0 (pa_cons (pv 0) (pa_cons pe_int pa_nil))) (pa_cons (pe_call DU.ok hr2 (by rfl) DU.at_ DU.kp DU.b .nil pass0 (pa_cons (pv 0) (pa_cons (pv 1) pa_nil))) pa_nil)) (by rfl))
      (pss_cons (ps_if (pt_cmpR op_eq (pv 2) pe_int (nomark _)) (pss_one (ps_set (i := 3) scTwo.nd rfl (.inl rfl) (pe_call DB.ok hr2 (by rfl) DB.at_ DB.kp DB.b .nil pass0 (pa_cons (pv 0) (pa_cons (pv 3) pa_nil))))) pss_nil)
      (pss_cons (ps_if (pt_cmpR op_eq (pv 2) pe_int (nomark _)) (pss_one (ps_set (i := 3) scTwo.nd rfl (.inl rfl) (pe_call DF.ok hr (by rfl) DF.at_ DF.kp DF.b .nil pass0 (pa_cons (pv 0) pa_nil)))) pss_nil)
      (pss_one (ps_ret (pe_tup (pa_cons (pe_call DU.ok hr2 (by rfl) DU.at_ DU.kp DU.b .nil pass0 (pa_cons (pv 0) (pa_cons (pv 1) pa_nil))) (pa_cons (pv 3) pa_nil)))))))), ?_⟩
    refine ⟨_, rfl, a, rfl, hp, fun p f0 H1 s1 ff gf => ?_⟩
    refine ⟨_, rfl, a, 4, rfl, s1.purse, by decide, by decide, fun way H2 _ _ s2 => ?_⟩
    have ff2 := ff.sm s1.purse s2
    refine ⟨_, rfl, _, rfl, a, p, f0, rfl, s2.purse, ff2, gf, fun q g H3 s3 fg gg => ⟨_, _, rfl, ?_⟩⟩
    have ff3 := ff2.sm s2.purse s3
    have s13 := (s1.trans s2).trans s3
    refine ⟨_, rfl, rfl, _, rfl, ?_⟩
    refine ite2 (fun h0 => ?_) (fun h0 => ?_)
    · have e : way = 1 := by have := of_decide_eq_true h0; exact V.int.inj this
      subst e
      refine ⟨_, rfl, _, rfl, a, q, g, rfl, s3.purse, fg, gg, fun q' g' H4 s4 fg' gg' => ?_⟩
      have ff4 := ff3.sm s3.purse s4
      have s14 := s13.trans s4
      refine ⟨_, rfl, rfl, _, rfl, iteF ?_⟩
      refine ⟨_, rfl, _, rfl, a, p, f0, rfl, s4.purse, ff4, gf, fun r u H5 s5 fu gu => ⟨_, rfl, (by show 2 ≤ sizeLine; decide), fun t ht => ?_⟩⟩
      have s6 := (Sm.refl s5.purse).new (o := .tup [.ref r, .ref q']) ht
      exact k t r q' u g' _ ((s14.trans s5).trans s6) (.inl (.inl upd_same)) (fu.sm s5.purse s6) ((fg'.sm s4.purse s5).sm s5.purse s6) (gu.mono (by decide) (by decide) (by omega)) gg'
    · refine ⟨_, rfl, rfl, _, rfl, ?_⟩
      refine ite2 (fun h1 => ?_) (fun h1 => ?_)
      · refine ⟨_, rfl, a, rfl, s3.purse, fun q' g' H4 s4 fg' gg' => ?_⟩
        have ff4 := ff3.sm s3.purse s4
        have s14 := s13.trans s4
        refine ⟨_, rfl, _, rfl, a, p, f0, rfl, s4.purse, ff4, gf, fun r u H5 s5 fu gu => ⟨_, rfl, (by show 2 ≤ sizeLine; decide), fun t ht => ?_⟩⟩
        have s6 := (Sm.refl s5.purse).new (o := .tup [.ref r, .ref q']) ht
        exact k t r q' u g' _ ((s14.trans s5).trans s6) (.inl (.inl upd_same)) (fu.sm s5.purse s6) ((fg'.sm s4.purse s5).sm s5.purse s6) (gu.mono (by decide) (by decide) (by omega)) (gg'.mono (by decide) (by decide) (by omega))
      · refine ⟨_, rfl, _, rfl, a, p, f0, rfl, s3.purse, ff3, gf, fun r u H5 s5 fu gu => ⟨_, rfl, (by show 2 ≤ sizeLine; decide), fun t ht => ?_⟩⟩
        have s6 := (Sm.refl s5.purse).new (o := .tup [.ref r, .ref q]) ht
        exact k t r q u g _ ((s13.trans s5).trans s6) (.inl (.inl upd_same)) (fu.sm s5.purse s6) ((fg.sm s3.purse s5).sm s5.purse s6) (gu.mono (by decide) (by decide) (by omega)) (gg.mono (by decide) (by decide) (by omega))
end
end L2.K18

namespace L2.K18
open PySem PySem.Spec PyProof.Rows
section
variable {P : Program} {w : World} {K : PySem.W.Frag} {mg : Str → Option Value} {base : Heap} {C : Addr}
theorem scIsInt : FnScope ["value"] ["value"] (defScope tIsInt) := ⟨rfl, rfl, rfl, by decide +kernel, rfl, by decide +kernel, by decide +kernel⟩
theorem ok_isint {f : Addr} {fd : FuncData} (F : Fun K "is_integer" "is_integer" tIsInt f fd) (T : Txt K mg C) : FnOk P w K mg base CX0 1 f fd ["value"] spIsInt := by
  refine F.ok scIsInt (fun vs H Q E h => ?_) (fun cdv A outer s H vs Q E hr h => ?_)
  · obtain ⟨i, rfl, _⟩ := h
    rfl
  · obtain ⟨i, rfl, k⟩ := h
    refine ⟨_, pss_one (ps_ret (pe_and (pe_callB call_isi (by rfl) T.isinstance (by decide +kernel) (pa_cons (pv 0) (pa_cons (pe_bltn (v := .ty "int") (by rfl) T.int (by decide +kernel) rfl) pa_nil)))
      (pe_one (pe_not (pe_callB call_isi (by rfl) T.isinstance (by decide +kernel) (pa_cons (pv 0) (pa_cons (pe_bltn (v := .ty "bool") (by rfl) T.bool (by decide +kernel) rfl) pa_nil))))))), ?_⟩
    exact ⟨_, rfl, _, _, _, _, true, rfl, .ty "int", .base (.int i), kit_ty (by decide +kernel), _, rfl, _, rfl, _, _, _, _, false, rfl, .ty "bool", .base (.int i), kit_ty (by decide +kernel), _, rfl, k⟩

theorem scCd : FnScope ["one", "other"] ["one", "other"] (defScope tCd) := ⟨rfl, rfl, rfl, by decide +kernel, rfl, by decide +kernel, by decide +kernel⟩
theorem ok_cd {f : Addr} {fd : FuncData} (F : Fun K "common_divisor" "common_divisor" tCd f fd) : FnOk P w K mg base CX0 1 f fd ["one", "other"] spCd := by
  refine F.ok scCd (fun vs H Q E h => ?_) (fun cdv A outer s H vs Q E hr h => ?_)
  · obtain ⟨a, b, rfl, _⟩ := h
    rfl
  · obtain ⟨a, b, rfl, k⟩ := h
    refine ⟨_, pss_cons (ps_while PassesOwn.never (pt_cmpR op_gt (pv 1) pe_int (nomark _)) (pss_one (ps_par (i := 0) (j := 1) (by rfl) scCd.nd rfl rfl (by decide) rfl rfl (pa_cons (pv 1) (pa_cons (pe_op op_mod (pv 0) (pv 1)) pa_nil)) (by rfl))))
      (pss_one (ps_ret (pv 0))), ?_⟩
    refine while_by (fun σ H' => H' = H ∧ ∃ x y : Nat, σ = [some (.int (x : Int)), some (.int (y : Int))] ∧ Nat.gcd x y = Nat.gcd a b) (fun σ _ => match σ with | [_, some (.int y)] => y.toNat | _ => 0) ⟨rfl, a, b, rfl, rfl⟩ ?_
      (fun σ H Q Q' hq ⟨v, e, i, j, e1, e2, b, e3, q⟩ => ⟨v, e, i, j, e1, e2, b, e3, hq _ _ q⟩)
    rintro σ H' ⟨rfl, x, y, rfl, hg⟩
    refine ⟨_, rfl, _, _, rfl, rfl, _, rfl, ?_⟩
    refine ite2 (fun h0 => ?_) (fun h0 => ?_)
    · have h0' := of_decide_eq_true h0
      refine ⟨_, rfl, _, rfl, _, rfl, _, _, rfl, rfl, h0', _, _, rfl, ⟨rfl, y, x % y, rfl, ?_⟩, ?_⟩
      · rw [← hg, Nat.gcd_comm x y, Nat.gcd_rec y x, Nat.gcd_comm]
      · show ((x : Int) % (y : Int)).toNat < (y : Int).toNat
        have h1 := Int.emod_nonneg (x : Int) (by omega : (y : Int) ≠ 0)
        have h2 := Int.emod_lt_of_pos (x : Int) h0'
        omega
    · have hy : y = 0 := by
        have : ¬ (0 : Int) < (y : Int) := fun q => h0 (decide_eq_true q)
        omega
      subst hy
      rw [Nat.gcd_zero_right] at hg
      refine ⟨_, rfl, ?_⟩
      rw [hg]
      exact k

theorem scFrac : FnScope ["top", "bottom", "same"] ["top", "bottom"] (defScope tFrac) := ⟨rfl, rfl, rfl, by decide +kernel, rfl, by decide +kernel, by decide +kernel⟩
theorem ok_frac {f f1 : Addr} {fd fd1 : FuncData} (F : Fun K "fraction" "fraction" tFrac f fd) (T : Txt K mg C) (D : Def P w K mg base 1 "common_divisor" ["one", "other"] spCd f1 fd1) : FnOk P w K mg base CX0 2 f fd ["top", "bottom"] spFrac := by
  refine F.ok scFrac (fun vs H Q E h => ?_) (fun cdv A outer s H vs Q E hr h => ?_)
  · obtain ⟨t, b, rfl, _⟩ := h
    rfl
  · obtain ⟨t, b, rfl, hb, hb2, k⟩ := h
    refine ⟨_, pss_cons (ps_set (i := 2) scFrac.nd rfl (.inl rfl) (pe_call D.ok hr (by rfl) D.at_ D.kp D.b .nil pass0 (pa_cons (pe_callB call_abs (by rfl) T.abs (by decide +kernel) (pa_cons (pv 0) pa_nil)) (pa_cons (pv 1) pa_nil))))
      (pss_one (ps_ret (pe_tup (pa_cons (pe_op op_fdiv (pv 0) (pv 2)) (pa_cons (pe_op op_fdiv (pv 1) (pv 2)) pa_nil))))), ?_⟩
    have ea : (if t < 0 then -t else t) = ((t.natAbs : Nat) : Int) := by split <;> omega
    have h1 : 0 < Nat.gcd t.natAbs b := Nat.gcd_pos_of_pos_right _ hb
    have h2 : Nat.gcd t.natAbs b ≤ b := Nat.gcd_le_right _ hb
    have hd : (0 : Int) < ((Nat.gcd t.natAbs b : Nat) : Int) ∧ ((Nat.gcd t.natAbs b : Nat) : Int) < 1073741824 := by omega
    refine ⟨_, rfl, _, rfl, _, rfl, t.natAbs, b, congrArg (fun z : Int => [V.int z, V.int (b : Int)]) ea, ?_⟩
    exact ⟨_, rfl, _, rfl, _, _, rfl, rfl, hd, _, rfl, _, rfl, _, _, rfl, rfl, hd, (by show 2 ≤ sizeLine; decide), k⟩

theorem scChk : FnScope ["value", "least", "number"] ["value", "least"] (defScope tChk) := ⟨rfl, rfl, rfl, by decide +kernel, rfl, by decide +kernel, by decide +kernel⟩
theorem ok_chk {f f1 : Addr} {fd fd1 : FuncData} (F : Fun K "check_integers" "check_integers" tChk f fd) (T : Txt K mg C) (D : Def P w K mg base 1 "is_integer" ["value"] spIsInt f1 fd1) : FnOk P w K mg base CX0 2 f fd ["value", "least"] (spChk K) := by
  refine F.ok scChk (fun vs H Q E h => ?_) (fun cdv A outer s H vs Q E hr h => ?_)
  · obtain ⟨p, xs, n, rfl, _⟩ := h
    rfl
  · obtain ⟨p, xs, n, rfl, hx, hn, hl, k⟩ := h
    refine ⟨_, pss_one (ps_if (PW.pt (pw_or (pt_not (pt_val (pe_callB call_isi (by rfl) T.isinstance (by decide +kernel) (pa_cons (pv 0) (pa_cons (pe_bltn (v := .ty "tuple") (by rfl) T.tuple (by decide +kernel) rfl) pa_nil)))))
      (pw_or (pt_cmpR op_lt (pe_callB call_len_seq (by rfl) T.len PySem.boot_len (pa_cons (pv 0) pa_nil)) (pv 1) (nomark _))
        (pw_or1 (pt_not (pt_val (pe_callB (cr_all rfl) (by rfl) T.all (by decide +kernel) (pa_cons
          (pe_lc (own := [("number", 2)]) (g := gName 2) (tt := tYes) rfl scChk.nd (pi_tup (pv 0))
            (blkOk_by (N := ["value", "least", "number"]) (sc := defScope tChk) (by decide +kernel)) (fun _ _ _ _ _ => pg_name (i := 2) scChk.nd rfl (Or.inl rfl)) (fun _ _ _ _ _ => pts_nil)
            (fun _ _ _ _ _ => pe_call D.ok hr (by rfl) D.at_ D.kp D.b .nil pass0 (pa_cons (pv 2) pa_nil))) pa_nil)))))))) (pss_one ps_never) pss_nil), ?_⟩
    have ty : TyX K H (.ref p) (.type "tuple") := by
      rcases hx with (h | ⟨o, h⟩) | ⟨o, its, m, h1, h2, _⟩
      · exact .base (.tup h)
      · exact .fTuple h
      · exact .kTuple h1 h2
    refine ⟨_, rfl, _, _, _, _, true, rfl, .ty "tuple", ty, kit_ty (by decide +kernel), _, rfl, iteF ?_⟩
    refine ⟨_, rfl, p, _, rfl, .inr hx, _, rfl, _, _, rfl, rfl, _, rfl, ?_⟩
    rw [decide_eq_false (by rw [List.length_map]; omega)]
    refine iteF ⟨_, rfl, p, rfl, ⟨_, hx⟩, fun D1 hD => ?_⟩
    refine lc_tup (K := K) (a := p) (xs := xs.map V.int) (fun i H' => Same H H' ∧ ∃ bs : List Bool, H' D1 = some (.lst (bs.map V.bl)) ∧ bs.length = i ∧ ∀ b ∈ bs, b = true)
      ⟨same_new (Same.refl _) hD, [], upd_same, rfl, fun _ hz => (List.not_mem_nil hz).elim⟩ (fun i H' _ z => sqT_same hx z.1) ?_ ?_
    · rintro i x H' hi ⟨s1, bs, hL, hlen, hb⟩
      obtain ⟨y, rfl⟩ : ∃ y, x = V.int y := by
        obtain ⟨y, _, e⟩ := List.mem_map.mp (List.mem_of_getElem? hi)
        exact ⟨y, e.symm⟩
      have hi' := (List.getElem?_eq_some_iff.mp hi).1
      rw [List.length_map] at hi'
      refine ⟨rfl, _, rfl, y, rfl, _, hL, ?_, same_upd s1 hD, bs ++ [true], ?_, ?_, fun b hb' => ?_⟩
      · rw [List.length_map]
        exact small_lt (by omega)
      · rw [upd_same, map_snocB]
      · rw [List.length_append, hlen]
        rfl
      · rcases List.mem_append.mp hb' with q | q
        · exact hb b q
        · exact List.mem_singleton.mp q
    · rintro H' ⟨s1, bs, hL, hlen, hb⟩
      have ha : bs.all id = true := List.all_eq_true.mpr fun b hb' => hb b hb'
      refine ⟨D1, bs, rfl, SqL.of hL, _, rfl, ?_⟩
      rw [ha]
      exact iteF (k H' s1)

theorem scGoes : FnScope ["again", "rise", "size", "many", "step", "longer", "number", "at"] ["again", "rise", "size"] (defScope tGoes) := ⟨rfl, rfl, rfl, by decide +kernel, rfl, by decide +kernel, by decide +kernel⟩
theorem ok_goes {f : Addr} {fd : FuncData} (F : Fun K "goes_on" "goes_on" tGoes f fd) (T : Txt K mg C) : FnOk P w K mg base CX0 1 f fd ["again", "rise", "size"] (spGoes K) := by
  refine F.ok scGoes (fun vs H Q E h => ?_) (fun cdv A outer s H vs Q E hr h => ?_)
  · obtain ⟨p, c, r, z, rfl, _⟩ := h
    rfl
  · obtain ⟨p, c, r, z, rfl, hc, hl, hz1, hz2, k⟩ := h
    refine ⟨_, pss_cons (ps_set (i := 3) scGoes.nd rfl (.inl rfl) (pe_callB call_len_seq (by rfl) T.len PySem.boot_len (pa_cons (pv 0) pa_nil)))
      (pss_cons (ps_if (pt_cmpR op_ne (pe_op op_mod (pe_op op_mul (pv 1) (pv 2)) (pv 3)) pe_int (nomark _)) (pss_one (ps_ret pe_bl)) pss_nil)
      (pss_cons (ps_set (i := 4) scGoes.nd rfl (.inr rfl) (pe_op op_fdiv (pe_op op_mul (pv 1) (pv 2)) (pv 3)))
      (pss_cons (ps_set (i := 5) scGoes.nd rfl (.inr rfl) (pe_lst (StX.pa_star (pv 0) (StX.pa_star
          (pe_lc (own := [("number", 6)]) (g := gName 6) (tt := tYes) rfl scGoes.nd (pi_tup (pv 0))
            (blkOk_by (N := ["again", "rise", "size", "many", "step", "longer", "number", "at"]) (sc := defScope tGoes) (by decide +kernel)) (fun _ _ _ _ _ => pg_name (i := 6) scGoes.nd rfl (Or.inl rfl)) (fun _ _ _ _ _ => pts_nil)
            (fun _ _ _ _ _ => pe_op op_add (pv 6) (pv 1))) pa_nil))))
      (pss_one (ps_ret (pe_callB (cr_all rfl) (by rfl) T.all (by decide +kernel) (pa_cons
          (pe_lc (own := [("at", 7)]) (g := gName 7) (tt := tYes) rfl scGoes.nd (pi_range1 (by rfl) T.range (pa_cons (pv 3) pa_nil))
            (blkOk_by (N := ["again", "rise", "size", "many", "step", "longer", "number", "at"]) (sc := defScope tGoes) (by decide +kernel)) (fun _ _ _ _ _ => pg_name (i := 7) scGoes.nd rfl (Or.inl rfl)) (fun _ _ _ _ _ => pts_nil)
            (fun _ _ _ _ _ => pe_cmpR op_eq (pe_ix (r := rIxL K) ix_list (pv 5) (pe_op op_add (pv 7) (pv 2)) (fun _ _ => rfl)) (pe_op op_add (pe_ix (r := rIxL K) ix_list (pv 5) (pv 7) (fun _ _ => rfl)) (pv 4)) (nomark _))) pa_nil))))))), ?_⟩
    have lc1 : (c.map V.int).length = c.length := List.length_map _
    have hpos : 0 < c.length := by omega
    refine ⟨_, rfl, p, _, rfl, .inr hc, ?_⟩
    rw [lc1]
    refine ⟨_, rfl, _, rfl, _, _, rfl, rfl, .inr ⟨by omega, by omega⟩, _, rfl, _, _, rfl, rfl, (by show (0 : Int) < (c.length : Int); omega), rfl, _, rfl, ?_⟩
    by_cases hm : r * (z : Int) % (c.length : Int) = 0
    · refine iteNS (show V.int (r * (z : Int) % (c.length : Int)) = V.int 0 by rw [hm]) ?_
      refine ⟨_, rfl, _, rfl, _, _, rfl, rfl, .inr ⟨by omega, by omega⟩, _, rfl, _, _, rfl, rfl, ⟨by omega, by omega⟩, ?_⟩
      refine ⟨_, rfl, p, _, rfl, .inl hc, _, rfl, p, rfl, ⟨_, hc⟩, fun D1 hD1 => ?_⟩
      refine lc_tup (K := K) (a := p) (xs := c.map V.int) (fun i H' => Same H H' ∧ H' D1 = some (.lst (((c.map (· + r)).take i).map V.int)))
        ⟨same_new (Same.refl _) hD1, upd_same⟩ (fun i H' _ q => sqT_same hc q.1) ?_ ?_
      · rintro i x H' hi ⟨s1, hL⟩
        have hi' := (List.getElem?_eq_some_iff.mp hi).1
        rw [lc1] at hi'
        have ex : x = V.int (c.getD i 0) := by
          rw [List.getElem?_map, List.getElem?_eq_getElem hi'] at hi
          rw [List.getD_eq_getElem?_getD, List.getElem?_eq_getElem hi']
          exact (Option.some.inj hi).symm
        subst ex
        refine ⟨rfl, _, rfl, _, rfl, _, _, rfl, rfl, _, hL, ?_, same_upd s1 hD1, ?_⟩
        · rw [List.length_map, List.length_take, List.length_map]
          exact small_lt (by omega)
        · rw [upd_same, map_snoc, take_succ_getD (by rw [List.length_map]; exact hi')]
          congr 5
          rw [List.getD_eq_getElem?_getD, List.getD_eq_getElem?_getD, List.getElem?_map, List.getElem?_eq_getElem hi']
          rfl
      · rintro H1 ⟨s1, hL⟩
        rw [lc1, ← List.length_map (f := (· + r)) (as := c), List.take_length] at hL
        refine ⟨D1, _, rfl, .inr (SqL.of hL), ?_⟩
        have el : c.map V.int ++ ((c.map (· + r)).map V.int ++ []) = (longer c r).map V.int := by
          unfold longer
          rw [List.append_nil, List.map_append]
        have ll : (longer c r).length = 2 * c.length := by
          unfold longer
          rw [List.length_append, List.length_map]
          omega
        refine ⟨?_, fun l hl' => ?_⟩
        · rw [el, List.length_map, ll]
          exact Nat.le_trans (by omega : 2 * c.length ≤ 2000) (by decide)
        · rw [el]
          have s2 : Same H (upd H1 l (.lst ((longer c r).map V.int))) := same_new s1 hl'
          have hL2 : (upd H1 l (.lst ((longer c r).map V.int))) l = some (.lst ((longer c r).map V.int)) := upd_same
          generalize upd H1 l (.lst ((longer c r).map V.int)) = H2 at s2 hL2 ⊢
          have z0 : ∀ i : Nat, (0 : Int) + (i : Int) = (i : Int) := fun i => Int.zero_add _
          refine ⟨_, rfl, _, rfl, by omega, by omega, fun D2 hD2 => ?_⟩
          refine lc_range (lo := 0) (n := ((c.length : Nat) : Int).toNat) (fun i H' => Same H2 H' ∧ H' D2 = some (.lst (((List.range i).map fun j => decide ((longer c r).getD (j + z) 0 = (longer c r).getD j 0 + r * (z : Int) / (c.length : Int))).map V.bl)))
            ⟨same_new (Same.refl _) hD2, upd_same⟩ ?_ ?_
          · rintro i H' hi ⟨s3, hL3⟩
            rw [z0]
            have hSL : SqL K H' l ((longer c r).map V.int) := SqL.of (s3 _ _ hL2)
            refine ⟨rfl, _, rfl, _, rfl, _, rfl, _, _, rfl, rfl, l, _, _, _, rfl, rfl, hSL, at_ints (i := i + z) (by omega), _, rfl, _, rfl, l, _, _, _, rfl, rfl, hSL, at_ints (i := i) (by omega), _, rfl, _, _, rfl, rfl, rfl, _, hL3, ?_, same_upd s3 hD2, ?_⟩
            · rw [List.length_map, List.length_map, List.length_range]
              exact small_lt (by omega)
            · rw [upd_same, decI, map_snocB, range_snoc fun j => decide ((longer c r).getD (j + z) 0 = (longer c r).getD j 0 + r * (z : Int) / (c.length : Int))]
          · rintro H3 ⟨s3, hL3⟩
            refine ⟨D2, _, rfl, SqL.of hL3, ?_⟩
            have et : ((List.range ((c.length : Nat) : Int).toNat).map fun j => decide ((longer c r).getD (j + z) 0 = (longer c r).getD j 0 + r * (z : Int) / (c.length : Int))).all id = goesOn c r z := by
              rw [all_map]
              unfold goesOn
              rw [if_pos hm]
              rfl
            rw [et]
            exact k H3 (s2.trans s3)
    · have hd : decide (V.int (r * (z : Int) % (c.length : Int)) = V.int 0) = false := by rw [decI, decide_eq_false hm]
      have eg : goesOn c r z = false := by
        unfold goesOn
        rw [if_neg hm]
      show if (!decide (V.int (r * (z : Int) % (c.length : Int)) = V.int 0)) = true then _ else _
      rw [hd]
      refine iteT ?_
      have q := k H (Same.refl _)
      rw [eg] at q
      exact q
end
end L2.K18

namespace L2.K18
open PySem PySem.Spec PyProof.Rows
theorem parts_succ (c : List Int) (r : Int) (i : Nat) : parts c r (i + 1) = parts c r i ++ (if okPart c r (i + 1) = true then [i + 1] else []) := by
  unfold parts
  rw [List.range_succ, List.map_append, List.filter_append]
  congr 1
  show List.filter (okPart c r) [i + 1] = _
  rw [List.filter_cons]
  split <;> rfl
theorem parts_len (c : List Int) (r : Int) (i : Nat) : (parts c r i).length ≤ i := by
  unfold parts
  refine Nat.le_trans (List.length_filter_le _ _) ?_
  rw [List.length_map, List.length_range]
  exact Nat.le_refl _
theorem roll_yes {e : List Int} {s : Int} {l : Nat} {c : List Int} (h : e.getD l 0 = c.getD (c.length - 1) 0 - s) : roll e s (l + 1) c = roll e s l (e.getD l 0 :: c.dropLast) := by
  show (if _ then _ else _) = _
  rw [if_pos h]
theorem roll_no {e : List Int} {s : Int} {l : Nat} {c : List Int} (h : ¬ e.getD l 0 = c.getD (c.length - 1) 0 - s) : roll e s (l + 1) c = (l + 1, c) := by
  show (if _ then _ else _) = _
  rw [if_neg h]
theorem at_end {c : List Int} (h : c ≠ []) : atI (c.map V.int) (-1) = some (.int (c.getD (c.length - 1) 0)) := by
  have hp : 0 < c.length := List.length_pos_iff.mpr h
  have e : ixN (c.map V.int).length (-1) = some (c.length - 1) := by
    unfold ixN
    rw [List.length_map, if_neg (by decide), if_pos (by omega)]
    congr 1
    omega
  unfold atI
  rw [e]
  show (c.map V.int)[c.length - 1]? = _
  rw [List.getElem?_map, List.getElem?_eq_getElem (by omega : c.length - 1 < c.length), List.getD_eq_getElem?_getD, List.getElem?_eq_getElem (by omega : c.length - 1 < c.length)]
  rfl
theorem cut_last {c : List Int} : cutV (c.map V.int) none (some (-1)) = c.dropLast.map V.int := by
  unfold cutV
  rw [HT.sIx_none]
  have e : HT.sIx (c.map V.int).length (c.map V.int).length (some (-1)) = c.length - 1 := by
    unfold HT.sIx
    rw [List.length_map]
    show (if (-1 : Int) < 0 then ((-1 : Int) + (c.length : Int)).toNat else _) = _
    rw [if_pos (by decide)]
    omega
  rw [e, List.drop_zero, Nat.sub_zero, List.map_dropLast, List.dropLast_eq_take, List.length_map]
section
variable {P : Program} {w : World} {K : PySem.W.Frag} {mg : Str → Option Value} {base : Heap} {C : Addr}
abbrev rTupOf (K : PySem.W.Frag) : List V → Hp → VK → Prop := fun xs H Q => ∃ p ys, xs = [.ref p] ∧ ((SqL K H p ys ∧ ∀ l, H l = none → Q (.ref l) (upd H l (.tup ys))) ∨ (SqT K H p ys ∧ Q (.ref p) H))
abbrev tInitEnd (K : PySem.W.Frag) : TS := tAsg (tTup (tCons (tSl (rSlA K) (tVar 1) tNoPart (tPart (tVar 8))) (tCons (tCB (rTupOf K) (tCons (tVar 6) tNil)) (tCons (tVar 7) tNil))))
  (gTup K 3 (gCons (gFld K (tVar 0) "head") (gCons (gFld K (tVar 0) "cycle") (gCons (gFld K (tVar 0) "step") gNil))))
theorem init_end (T : Txt K mg C) {D : Ends} {H0 H6 : Hp} {x te pl dx : Addr} {e cyc : List Int} {st : Int} {l : Nat} {o2 o3 o4 o5 o9 : Option V} (hx : H0 x = some (.ins C dx [])) (s6 : Same H0 H6) (he : IntsT K H0 te e) (hLc : H6 pl = some (.lst (cyc.map V.int)))
    (hl : l ≤ e.length) (k : ∀ H', RowAt C K H' x ⟨e.take l, cyc, st⟩ → Kept x H0 H' → D.nx [some (.ref x), some (.ref te), o2, o3, o4, o5, some (.ref pl), some (.int st), some (.int (l : Int)), o9] H') :
    tInitEnd K D [some (.ref x), some (.ref te), o2, o3, o4, o5, some (.ref pl), some (.int st), some (.int (l : Int)), o9] H6 := by
  refine ⟨_, rfl, _, rfl, _, rfl, slA_any (sqT_same he s6) fun ph H7 s7 eh => ?_⟩
  rw [cut_to hl] at eh
  refine ⟨_, rfl, pl, _, rfl, .inl ⟨SqL.of (s7 _ _ hLc), fun pt hpt => ⟨_, rfl, (by show 3 ≤ sizeLine; decide), fun q hq => ?_⟩⟩⟩
  have s8 : Same H7 (upd H7 pt (.tup (cyc.map V.int))) := same_new (Same.refl _) hpt
  have s9 : Same (upd H7 pt (.tup (cyc.map V.int))) (upd (upd H7 pt (.tup (cyc.map V.int))) q (.tup [.ref ph, .ref pt, .int st])) := same_new (Same.refl _) hq
  have et : IntsT K (upd (upd H7 pt (.tup (cyc.map V.int))) q (.tup [.ref ph, .ref pt, .int st])) pt cyc := sqT_same (.inl (.inl upd_same)) s9
  have eh' := sqT_same (sqT_same eh s8) s9
  have sA : Same H0 (upd (upd H7 pt (.tup (cyc.map V.int))) q (.tup [.ref ph, .ref pt, .int st])) := ((s6.trans s7).trans s8).trans s9
  have hq' : (upd (upd H7 pt (.tup (cyc.map V.int))) q (.tup [.ref ph, .ref pt, .int st])) q = some (.tup [.ref ph, .ref pt, .int st]) := upd_same
  dsimp only
  generalize upd (upd H7 pt (.tup (cyc.map V.int))) q (.tup [.ref ph, .ref pt, .int st]) = H8 at et eh' sA hq' ⊢
  have hx8 := sA _ _ hx
  have l1 : (putF "head" (V.ref ph) []).length < 1000 := by have := length_putF "head" (V.ref ph) []; simp at this; omega
  have l2 : (putF "cycle" (V.ref pt) (putF "head" (V.ref ph) [])).length < 1000 := by have := length_putF "cycle" (V.ref pt) (putF "head" (V.ref ph) []); have := length_putF "head" (V.ref ph) []; simp at this; omega
  refine ⟨q, _, rfl, .inl (.inl hq'), rfl, _, _, rfl, _, rfl, x, C, dx, [], rfl, hx8, T.cl, T.nH, (by decide), ?_⟩
  refine ⟨_, _, rfl, _, rfl, x, C, dx, _, rfl, upd_same, T.cl, T.nC, l1, ?_⟩
  refine ⟨_, _, rfl, _, rfl, x, C, dx, _, rfl, upd_same, T.cl, T.nS, l2, rfl, ?_⟩
  have kx : Kept x H8 (upd (upd (upd H8 x (.ins C dx (putF "head" (.ref ph) []))) x (.ins C dx (putF "cycle" (.ref pt) (putF "head" (.ref ph) [])))) x (.ins C dx (putF "step" (.int st) (putF "cycle" (.ref pt) (putF "head" (.ref ph) []))))) := by
    intro b o hb hne
    rw [upd_ne hne, upd_ne hne, upd_ne hne]
    exact hb
  have nt : ∀ ys, H8 x ≠ some (.tup ys) := fun ys z => by rw [hx8] at z; cases z
  have nf : ∀ o u, H8 x ≠ some (.frz o u) := fun o u z => by rw [hx8] at z; cases z
  exact k _ ⟨dx, ph, pt, upd_same, sqT_kept eh' kx nt nf, sqT_kept et kx nt nf⟩ ((Kept.of sA).trans kx)

theorem scInit : FnScope ["self", "early", "again", "rise", "many", "size", "cycle", "step", "last", "part"] ["self", "early", "again", "rise"] (defScope tInit) := ⟨rfl, rfl, rfl, by decide +kernel, rfl, by decide +kernel, by decide +kernel⟩
theorem ok_init {f f1 f2 f3 : Addr} {fd fd1 fd2 fd3 : FuncData} (F : Fun K "__init__" "Row.__init__" tInit f fd) (T : Txt K mg C) (DI : Def P w K mg base 1 "is_integer" ["value"] spIsInt f1 fd1)
    (DC : Def P w K mg base 2 "check_integers" ["value", "least"] (spChk K) f2 fd2) (DG : Def P w K mg base 1 "goes_on" ["again", "rise", "size"] (spGoes K) f3 fd3) : FnOk P w K mg base CX0 3 f fd ["self", "early", "again", "rise"] (spInit K C) := by
  refine F.ok scInit (fun vs H Q E h => ?_) (fun cdv A outer s H vs Q E hr h => ?_)
  · obtain ⟨x, te, tc, dx, g, rfl, _⟩ := h
    rfl
  · obtain ⟨x, te, tc, dx, g, rfl, hx, he, hc, hne, le, lc, k⟩ := h
    have hr1 : Room 1 _ := hr.mono (by decide)
    have le1 : (g.e.map V.int).length = g.e.length := List.length_map _
    have lc1 : (g.c.map V.int).length = g.c.length := List.length_map _
    have hpos : 0 < g.c.length := List.length_pos_iff.mpr hne
    refine ⟨_, pss_cons (ps_expr (pe_call DC.ok hr (by rfl) DC.at_ DC.kp DC.b .nil pass0 (pa_cons (pv 1) (pa_cons pe_int pa_nil))))
      (pss_cons (ps_expr (pe_call DC.ok hr (by rfl) DC.at_ DC.kp DC.b .nil pass0 (pa_cons (pv 2) (pa_cons pe_int pa_nil))))
      (pss_cons (ps_if (pt_not (pt_val (pe_call DI.ok hr1 (by rfl) DI.at_ DI.kp DI.b .nil pass0 (pa_cons (pv 3) pa_nil)))) (pss_one ps_never) pss_nil)
      (pss_cons (ps_set (i := 4) scInit.nd rfl (.inr rfl) (pe_callB call_len_seq (by rfl) T.len PySem.boot_len (pa_cons (pv 2) pa_nil)))
      (pss_cons (ps_set (i := 5) scInit.nd rfl (.inl rfl) (pe_ix ix_list
          (pe_lc (own := [("part", 9)]) (g := gName 9) rfl scInit.nd (pi_range2 (by rfl) T.range (pa_cons pe_int (pa_cons (pe_op op_add (pv 4) pe_int) pa_nil)))
            (blkOk_by (N := ["self", "early", "again", "rise", "many", "size", "cycle", "step", "last", "part"]) (sc := defScope tInit) (by decide +kernel)) (fun _ _ _ _ _ => pg_name (i := 9) scInit.nd rfl (Or.inl rfl))
            (fun _ _ _ _ _ => pts_one (PW.pt (pw_and (pt_cmpR op_eq (pe_op op_mod (pv 4) (pv 9)) pe_int (nomark _)) (pw_and1 (pt_val (pe_call DG.ok hr1 (by rfl) DG.at_ DG.kp DG.b .nil pass0 (pa_cons (pv 2) (pa_cons (pv 3) (pa_cons (pv 9) pa_nil)))))))))
            (fun _ _ _ _ _ => pv 9)) pe_int (fun _ _ => rfl)))
      (pss_cons (ps_par3 (i := 6) (j := 7) (l := 8) (by rfl) scInit.nd rfl rfl rfl (by decide) (by decide) (by decide) rfl rfl rfl
          (pa_cons (pe_callTy call_list_of (by rfl) T.list (by decide +kernel) (pa_cons (pe_slice sl_tupA (pv 2) po_none (po_some (pv 5))) pa_nil))
            (pa_cons (pe_op op_fdiv (pe_op op_mul (pv 3) (pv 5)) (pv 4)) (pa_cons (pe_callB call_len_seq (by rfl) T.len PySem.boot_len (pa_cons (pv 1) pa_nil)) pa_nil))) (by rfl))
      (pss_cons (ps_while PassesOwn.never (PW.pt (pw_and (pt_cmpR op_gt (pv 8) pe_int (nomark _)) (pw_and1 (pt_cmpR op_eq (pe_ix ix_tup (pv 1) (pe_op op_sub (pv 8) pe_int) (fun _ _ => rfl))
            (pe_op op_sub (pe_ix ix_list (pv 6) (pe_un un_neg pe_int) (fun _ _ => rfl)) (pv 7)) (nomark _)))))
          (pss_cons (ps_set (i := 8) scInit.nd rfl (.inl rfl) (pe_op op_sub (pv 8) pe_int))
            (pss_one (ps_set (i := 6) scInit.nd rfl (.inl rfl) (pe_lst (pa_cons (pe_ix ix_tup (pv 1) (pv 8) (fun _ _ => rfl)) (StX.pa_star (pe_slice sl_list (pv 6) po_none (po_some (pe_un un_neg pe_int))) pa_nil)))))))
      (pss_one (ps_asg (pe_tup (pa_cons (pe_slice sl_tupA (pv 1) po_none (po_some (pv 8))) (pa_cons (pe_callTy call_tuple_of (by rfl) T.tuple (by decide +kernel) (pa_cons (pv 6) pa_nil)) (pa_cons (pv 7) pa_nil))))
          (pg_tup (by rfl) (pgs_cons (pg_fld (pv 0)) (pgs_cons (pg_fld (pv 0)) (pgs_cons (pg_fld (pv 0)) pgs_nil)))))))))))), ?_⟩
    -- the checks
    refine ⟨_, rfl, te, g.e, 0, rfl, he, Nat.zero_le _, by omega, fun H1 s1 => ?_⟩
    refine ⟨_, rfl, tc, g.c, 1, rfl, sqT_same hc s1, by omega, by omega, fun H2 s2 => ?_⟩
    have s12 := s1.trans s2
    refine ⟨_, rfl, g.r, rfl, _, rfl, ?_⟩
    refine iteF ?_
    refine ⟨_, rfl, tc, _, rfl, .inr (sqT_same hc s12), ?_⟩
    rw [lc1]
    -- the least part
    refine ⟨_, rfl, _, _, rfl, rfl, 1, _, rfl, ⟨by decide, by decide, by omega, by omega⟩, fun D1 hD1 => ?_⟩
    refine lc_range (lo := 1) (n := ((g.c.length : Int) + 1 - 1).toNat) (fun i H' => Same H2 H' ∧ H' D1 = some (.lst ((parts g.c g.r i).map fun s : Nat => V.int (s : Int))))
      ⟨same_new (Same.refl _) hD1, upd_same⟩ ?_ ?_
    · rintro i H' hi ⟨s3, hL⟩
      have hi' : i < g.c.length := by omega
      have z1 : (1 : Int) + (i : Int) = ((i + 1 : Nat) : Int) := by omega
      rw [z1]
      refine ⟨rfl, _, rfl, _, rfl, _, _, rfl, rfl, (by show (0 : Int) < ((i + 1 : Nat) : Int); omega), rfl, _, rfl, ?_⟩
      by_cases hm : g.c.length % (i + 1) = 0
      · have hmI : (g.c.length : Int) % ((i + 1 : Nat) : Int) = 0 := by rw [← Int.natCast_emod, hm]; rfl
        show if decide (V.int ((g.c.length : Int) % ((i + 1 : Nat) : Int)) = V.int 0) = true then _ else _
        rw [hmI, decide_eq_true rfl]
        refine iteT ⟨_, rfl, _, rfl, _, rfl, tc, g.c, g.r, i + 1, rfl, sqT_same hc (s12.trans s3), by omega, by omega, by omega, fun H3 s4 => ⟨_, rfl, ?_⟩⟩
        have hL3 := s4 _ _ hL
        have ho : okPart g.c g.r (i + 1) = goesOn g.c g.r (i + 1) := by
          unfold okPart
          rw [hm]
          rfl
        cases hgo : goesOn g.c g.r (i + 1) with
        | true =>
          refine iteT ⟨_, rfl, _, hL3, ?_, same_upd (s3.trans s4) hD1, ?_⟩
          · rw [List.length_map]
            exact small_lt (Nat.le_trans (parts_len _ _ _) (by omega))
          · rw [upd_same, parts_succ, if_pos (ho.trans hgo), List.map_append]
            rfl
        | false =>
          refine iteF ⟨s3.trans s4, ?_⟩
          rw [parts_succ, if_neg (by rw [ho, hgo]; decide), List.append_nil]
          exact hL3
      · have hmI : ¬ (g.c.length : Int) % ((i + 1 : Nat) : Int) = 0 := by rw [← Int.natCast_emod]; omega
        have ho : okPart g.c g.r (i + 1) = false := by
          unfold okPart
          rw [decide_eq_false hm]
          rfl
        show if decide (V.int ((g.c.length : Int) % ((i + 1 : Nat) : Int)) = V.int 0) = true then _ else _
        rw [decI, decide_eq_false hmI]
        refine iteF (iteF ⟨s3, ?_⟩)
        rw [parts_succ, if_neg (by rw [ho]; decide), List.append_nil]
        exact hL
    · rintro H3 ⟨s3, hL⟩
      obtain ⟨z1, z2, z3, z4⟩ := size_spec g hne
      have en : ((g.c.length : Int) + 1 - 1).toNat = g.c.length := by omega
      rw [en] at hL
      have hat : atI ((parts g.c g.r g.c.length).map fun s : Nat => V.int (s : Int)) 0 = some (.int (size g.c g.r : Int)) := by
        refine atI_nat (j := 0) ?_
        rw [List.getElem?_map, ← List.head?_eq_getElem?, z4]
        rfl
      have s13 := s12.trans s3
      refine ⟨D1, _, _, _, rfl, rfl, SqL.of hL, hat, ?_⟩
      refine ⟨_, rfl, _, rfl, _, rfl, slA_any (sqT_same hc s13) fun p1 H4 s4 e4 => ?_⟩
      rw [cut_to (by omega)] at e4
      refine ⟨p1, _, rfl, .inr e4, fun pc hpc => ?_⟩
      have s14 := s13.trans s4
      have s15 : Same H (upd H4 pc (.lst ((g.c.take (size g.c g.r)).map V.int))) := same_new s14 hpc
      have hL5 : (upd H4 pc (.lst ((g.c.take (size g.c g.r)).map V.int))) pc = some (.lst ((g.c.take (size g.c g.r)).map V.int)) := upd_same
      generalize upd H4 pc (.lst ((g.c.take (size g.c g.r)).map V.int)) = H5 at s15 hL5 ⊢
      refine ⟨_, rfl, _, rfl, _, _, rfl, rfl, .inr ⟨by omega, by omega⟩, _, rfl, _, _, rfl, rfl, ⟨by omega, by omega⟩, _, rfl, te, _, rfl, .inr (sqT_same he s15), _, _, _, rfl, ?_⟩
      rw [le1]
      obtain ⟨n1, n2⟩ := take_size g hne
      -- the early ones that the period tells
      refine while_by (fun σ H' => Same H H' ∧ ∃ (l : Nat) (cyc : List Int) (pl : Addr) (v : Option V), σ = [some (.ref x), some (.ref te), some (.ref tc), some (.int g.r), some (.int (g.c.length : Int)), some (.int (size g.c g.r : Int)), some (.ref pl), some (.int (stepOf g.c g.r)), some (.int (l : Int)), v] ∧
          H' pl = some (.lst (cyc.map V.int)) ∧ l ≤ g.e.length ∧ cyc ≠ [] ∧ cyc.length ≤ 100 ∧ roll g.e (stepOf g.c g.r) l cyc = roll g.e (stepOf g.c g.r) g.e.length (g.c.take (size g.c g.r)))
        (fun σ _ => match σ with | [_, _, _, _, _, _, _, _, some (.int l), _] => l.toNat | _ => 0)
        ⟨s15, g.e.length, _, pc, none, rfl, hL5, Nat.le_refl _, n1, by omega, rfl⟩ ?_ ?_
      · rintro σ H6 ⟨s6, l, cyc, pl, v, rfl, hLc, hl, hcn, hcl, hro⟩
        have fin : roll g.e (stepOf g.c g.r) l cyc = (l, cyc) → tInitEnd K { nx := fun _ H' => Q .non H', rt := Q } [some (.ref x), some (.ref te), some (.ref tc), some (.int g.r), some (.int (g.c.length : Int)), some (.int (size g.c g.r : Int)), some (.ref pl), some (.int (stepOf g.c g.r)), some (.int (l : Int)), v] H6 := by
          intro hrl
          refine init_end T hx s6 he hLc hl fun H' hR hK => k H' ?_ hK
          have en : norm g = ⟨g.e.take l, cyc, stepOf g.c g.r⟩ := by
            unfold norm
            dsimp only
            rw [← hro, hrl]
          rw [en]
          exact hR
        have hlc : (cyc.map V.int).length = cyc.length := List.length_map _
        refine ⟨_, rfl, _, _, rfl, rfl, _, rfl, ?_⟩
        cases l with
        | zero => exact iteF (iteF (fin rfl))
        | succ l =>
          have hlt : l < g.e.length := by omega
          have el : ((l + 1 : Nat) : Int) - 1 = (l : Int) := by omega
          have hh : (0 : Int) < ((l + 1 : Nat) : Int) := by omega
          show if decide ((0 : Int) < ((l + 1 : Nat) : Int)) = true then _ else _
          rw [decide_eq_true hh]
          refine iteT ⟨_, rfl, _, rfl, _, _, rfl, rfl, te, _, _, _, rfl, rfl, sqT_same he s6, (by rw [el]; exact at_ints hlt), ?_⟩
          refine ⟨_, rfl, 1, rfl, pl, _, _, _, rfl, rfl, SqL.of hLc, at_end hcn, _, rfl, _, _, rfl, rfl, rfl, _, rfl, ?_⟩
          by_cases hq : g.e.getD l 0 = cyc.getD (cyc.length - 1) 0 - stepOf g.c g.r
          · rw [decI, decide_eq_true hq]
            refine iteT ?_
            refine ⟨_, rfl, _, _, rfl, rfl, ?_⟩
            dsimp only
            rw [el]
            refine ⟨_, rfl, _, rfl, te, _, _, _, rfl, rfl, sqT_same he s6, at_ints hlt, _, rfl, 1, rfl, _, rfl, pl, _, rfl, SqL.of hLc, fun p2 hp2 => ?_⟩
            refine ⟨p2, _, rfl, .inr (SqL.of upd_same), ?_⟩
            have e3 : V.int (g.e.getD l 0) :: (cutV (cyc.map V.int) none (some (-1)) ++ []) = (g.e.getD l 0 :: cyc.dropLast).map V.int := by
              rw [List.append_nil, cut_last]
              rfl
            have l3 : (g.e.getD l 0 :: cyc.dropLast).length = cyc.length := by
              have := List.length_pos_iff.mpr hcn
              rw [List.length_cons, List.length_dropLast]
              omega
            refine ⟨?_, fun p3 hp3 => ?_⟩
            · rw [e3, List.length_map, l3]
              exact Nat.le_trans hcl (by decide)
            · rw [e3]
              have s7 : Same H (upd H6 p2 (.lst (cutV (cyc.map V.int) none (some (-1))))) := same_new s6 hp2
              refine ⟨⟨same_new s7 hp3, l, g.e.getD l 0 :: cyc.dropLast, p3, v, rfl, upd_same, by omega, by simp, by omega, by rw [← hro, roll_yes hq]⟩, ?_⟩
              show (l : Int).toNat < ((l + 1 : Nat) : Int).toNat
              omega
          · rw [decI, decide_eq_false hq]
            exact iteF (fin (roll_no hq))
      · rintro σ H Q Q' hq ⟨v, e, i, j, e1, e2, b, e3, q⟩
        refine ⟨v, e, i, j, e1, e2, b, e3, ?_⟩
        cases b with
        | false => exact hq _ _ q
        | true =>
          obtain ⟨v1, e1, v2, e2, i, j, e3, e4, p, xs, i', v', e5, e6, e7, e8, v3, e9, i1, e10, p2, xs2, i2, v4, e11, e12, e13, e14, v5, e15, i3, j3, e16, e17, hs, b, e18, q⟩ := q
          exact ⟨v1, e1, v2, e2, i, j, e3, e4, p, xs, i', v', e5, e6, e7, e8, v3, e9, i1, e10, p2, xs2, i2, v4, e11, e12, e13, e14, v5, e15, i3, j3, e16, e17, hs, b, e18, hq _ _ q⟩
end
end L2.K18

namespace L2.K18
open PySem PySem.Spec PyProof.Rows
/-! ### tuples of ints as data -/
abbrev dI (xs : List Int) : PyData := .tuple (xs.map PyData.int)
theorem dpAll_ints (K : PySem.W.Frag) (H : Hp) : ∀ xs : List Int, DpAll K H (xs.map V.int) (xs.map PyData.int)
  | [] => .nil
  | x :: xs => .cons (.int x) (dpAll_ints K H xs)
theorem dp_ints {K : PySem.W.Frag} {H : Hp} {a : Addr} {xs : List Int} (h : IntsT K H a xs) : Dp K H (.ref a) (dI xs) := .tup h (dpAll_ints K H xs)
theorem eqvAll_ints : ∀ xs ys : List Int, PyData.eqvAll (xs.map PyData.int) (ys.map PyData.int) = decide (xs = ys)
  | [], [] => by simp [PyData.eqvAll]
  | [], y :: ys => by simp [PyData.eqvAll]
  | x :: xs, [] => by simp [PyData.eqvAll]
  | x :: xs, y :: ys => by
    rw [List.map_cons, List.map_cons, PyData.eqvAll, eqvAll_ints xs ys, PyData.eqv]
    by_cases h : x = y
    · subst h
      simp
    · simp [h]
theorem eqv_ints (xs ys : List Int) : PyData.eqv (dI xs) (dI ys) = decide (xs = ys) := by
  rw [PyData.eqv]
  exact eqvAll_ints xs ys
theorem canLay_ints : ∀ xs : List Int, PyData.canLayAll0 (xs.map PyData.int) = true
  | [] => by simp [PyData.canLayAll0]
  | x :: xs => by simp [PyData.canLayAll0, PyData.canLay0, canLay_ints xs]
theorem depth_ints : ∀ xs : List Int, PyData.depthAll (xs.map PyData.int) ≤ 1
  | [] => by simp [PyData.depthAll]
  | x :: xs => by
    have := depth_ints xs
    rw [List.map_cons, PyData.depthAll, PyData.depth]
    omega
theorem shaped_ints (xs : List Int) : SeqAt.shaped (dI xs) = true := by
  unfold SeqAt.shaped
  rw [PyData.canLay0, canLay_ints, PyData.depth]
  have := depth_ints xs
  simp
  omega
section
variable {P : Program} {w : World} {K : PySem.W.Frag} {mg : Str → Option Value} {base : Heap} {C : Addr}
theorem scEarly : FnScope ["self"] ["self"] (defScope tEarly) := ⟨rfl, rfl, rfl, by decide +kernel, rfl, by decide +kernel, by decide +kernel⟩
theorem scAgain : FnScope ["self"] ["self"] (defScope tAgain) := ⟨rfl, rfl, rfl, by decide +kernel, rfl, by decide +kernel, by decide +kernel⟩
theorem scRise : FnScope ["self"] ["self"] (defScope tRise) := ⟨rfl, rfl, rfl, by decide +kernel, rfl, by decide +kernel, by decide +kernel⟩
theorem scPace : FnScope ["self"] ["self"] (defScope tPace) := ⟨rfl, rfl, rfl, by decide +kernel, rfl, by decide +kernel, by decide +kernel⟩
theorem ok_early {f : Addr} {fd : FuncData} (F : Fun K "early" "Row.early" tEarly f fd) (T : Txt K mg C) : FnOk P w K mg base CX0 1 f fd ["self"] (spHead K C) := by
  refine F.ok scEarly (fun vs H Q E h => ?_) (fun cdv A outer s H vs Q E hr h => ?_)
  · obtain ⟨x, g, rfl, _⟩ := h
    rfl
  · obtain ⟨x, g, rfl, ⟨dx, th, tc, hx, e1, e2⟩, k⟩ := h
    refine ⟨_, pss_one (ps_ret (pe_fld (pv 0) rfl)), ?_⟩
    exact ⟨_, rfl, x, C, dx, _, _, rfl, hx, T.cl, T.nH, rflds_head _ _ _, k th e1⟩
theorem ok_again {f : Addr} {fd : FuncData} (F : Fun K "again" "Row.again" tAgain f fd) (T : Txt K mg C) : FnOk P w K mg base CX0 1 f fd ["self"] (spCyc K C) := by
  refine F.ok scAgain (fun vs H Q E h => ?_) (fun cdv A outer s H vs Q E hr h => ?_)
  · obtain ⟨x, g, rfl, _⟩ := h
    rfl
  · obtain ⟨x, g, rfl, ⟨dx, th, tc, hx, e1, e2⟩, k⟩ := h
    refine ⟨_, pss_one (ps_ret (pe_fld (pv 0) rfl)), ?_⟩
    exact ⟨_, rfl, x, C, dx, _, _, rfl, hx, T.cl, T.nC, rflds_cycle _ _ _, k tc e2⟩
theorem ok_rise {f : Addr} {fd : FuncData} (F : Fun K "rise" "Row.rise" tRise f fd) (T : Txt K mg C) : FnOk P w K mg base CX0 1 f fd ["self"] (spStep K C) := by
  refine F.ok scRise (fun vs H Q E h => ?_) (fun cdv A outer s H vs Q E hr h => ?_)
  · obtain ⟨x, g, rfl, _⟩ := h
    rfl
  · obtain ⟨x, g, rfl, ⟨dx, th, tc, hx, e1, e2⟩, k⟩ := h
    refine ⟨_, pss_one (ps_ret (pe_fld (pv 0) rfl)), ?_⟩
    exact ⟨_, rfl, x, C, dx, _, _, rfl, hx, T.cl, T.nS, rflds_step _ _ _, k⟩
theorem ok_pace {f f1 : Addr} {fd fd1 : FuncData} (F : Fun K "pace" "Row.pace" tPace f fd) (T : Txt K mg C) (D : Def P w K mg base 2 "fraction" ["top", "bottom"] spFrac f1 fd1) : FnOk P w K mg base CX0 3 f fd ["self"] (spPace K C) := by
  refine F.ok scPace (fun vs H Q E h => ?_) (fun cdv A outer s H vs Q E hr h => ?_)
  · obtain ⟨x, g, rfl, _⟩ := h
    rfl
  · obtain ⟨x, g, rfl, ⟨dx, th, tc, hx, e1, e2⟩, hne, hl, k⟩ := h
    have hpos : 0 < g.c.length := List.length_pos_iff.mpr hne
    refine ⟨_, pss_one (ps_ret (pe_call D.ok hr (by rfl) D.at_ D.kp D.b .nil pass0 (pa_cons (pe_fld (pv 0) rfl) (pa_cons (pe_callB call_len_seq (by rfl) T.len PySem.boot_len (pa_cons (pe_fld (pv 0) rfl) pa_nil)) pa_nil)))), ?_⟩
    refine ⟨_, rfl, x, C, dx, _, _, rfl, hx, T.cl, T.nS, rflds_step _ _ _, _, rfl, x, C, dx, _, _, rfl, hx, T.cl, T.nC, rflds_cycle _ _ _, tc, _, rfl, .inr e2, g.r, g.c.length, ?_, hpos, by omega, k⟩
    rw [List.length_map]
    rfl

theorem scEq : FnScope ["self", "other"] ["self", "other"] (defScope tEq) := ⟨rfl, rfl, rfl, by decide +kernel, rfl, by decide +kernel, by decide +kernel⟩
theorem ok_eq {f : Addr} {fd : FuncData} (F : Fun K "__eq__" "Row.__eq__" tEq f fd) (T : Txt K mg C) : FnOk P w K mg base CX0 1 f fd ["self", "other"] (spEqR K C) := by
  refine F.ok scEq (fun vs H Q E h => ?_) (fun cdv A outer s H vs Q E hr h => ?_)
  · obtain ⟨x, y, g, rfl, _⟩ := h
    rfl
  · obtain ⟨x, y, g, rfl, ⟨dx, th, tc, hx, e1, e2⟩, k⟩ := h
    refine ⟨_, pss_cons (ps_if (pt_not (pt_val (pe_callB call_isi (by rfl) T.isinstance (by decide +kernel) (pa_cons (pv 1) (pa_cons (pe_glob (v := .ref C) (by rfl) T.mgR rfl) pa_nil))))) (pss_one (ps_ret pe_bl)) pss_nil)
      (pss_one (ps_ret (pe_and (pe_cmpR (op_eqD hr.units) (pe_fld (pv 0) rfl) (pe_fld (pv 1) rfl) (nomark _)) (pe_and (pe_cmpR (op_eqD hr.units) (pe_fld (pv 0) rfl) (pe_fld (pv 1) rfl) (nomark _))
        (pe_one (pe_cmpR op_eq (pe_fld (pv 0) rfl) (pe_fld (pv 1) rfl) (nomark _))))))), ?_⟩
    rcases k with ⟨z, g', rfl, ⟨dz, th', tc', hz, e1', e2'⟩, k⟩ | ⟨t, ty, hk, k⟩
    · have hkc : PySem.W.kitOne K (.ref C) (.ref C) = some true := by
        unfold PySem.W.kitOne
        rw [if_pos (by simp)]
      refine ⟨_, rfl, _, _, _, _, true, rfl, .own C, .base (.ins hz T.cl T.cls_ T.get_ T.tak_ T.obj_), hkc, _, rfl, iteF ?_⟩
      refine ⟨_, rfl, x, C, dx, _, _, rfl, hx, T.cl, T.nH, rflds_head _ _ _, _, rfl, z, C, dz, _, _, rfl, hz, T.cl, T.nH, rflds_head _ _ _, _, _, dp_ints e1, dp_ints e1', shaped_ints _, shaped_ints _, _, rfl, ?_⟩
      rw [eqv_ints]
      by_cases h1 : g.e = g'.e
      · rw [decide_eq_true h1]
        refine iteT ⟨_, rfl, x, C, dx, _, _, rfl, hx, T.cl, T.nC, rflds_cycle _ _ _, _, rfl, z, C, dz, _, _, rfl, hz, T.cl, T.nC, rflds_cycle _ _ _, _, _, dp_ints e2, dp_ints e2', shaped_ints _, shaped_ints _, _, rfl, ?_⟩
        rw [eqv_ints]
        by_cases h2 : g.c = g'.c
        · rw [decide_eq_true h2]
          refine iteT ⟨_, rfl, x, C, dx, _, _, rfl, hx, T.cl, T.nS, rflds_step _ _ _, _, rfl, z, C, dz, _, _, rfl, hz, T.cl, T.nS, rflds_step _ _ _, rfl, ?_⟩
          have e : decide (V.int g.r = V.int g'.r) = decide (g = g') := by
            rw [decI]
            by_cases h3 : g.r = g'.r
            · have : g = g' := by cases g; cases g'; simp_all
              rw [decide_eq_true h3, decide_eq_true this]
            · rw [decide_eq_false h3, decide_eq_false fun q => h3 (by rw [q])]
          rw [e]
          exact k
        · rw [decide_eq_false h2]
          rw [decide_eq_false fun q : g = g' => h2 (by rw [q])] at k
          exact iteF k
      · rw [decide_eq_false h1]
        rw [decide_eq_false fun q : g = g' => h1 (by rw [q])] at k
        exact iteF k
    · refine ⟨_, rfl, _, _, _, _, false, rfl, .own C, ty, hk, _, rfl, iteT k⟩

theorem scRepr : FnScope ["self"] ["self"] (defScope tRepr) := ⟨rfl, rfl, rfl, by decide +kernel, rfl, by decide +kernel, by decide +kernel⟩
theorem ok_repr {f : Addr} {fd : FuncData} (F : Fun K "__repr__" "Row.__repr__" tRepr f fd) (T : Txt K mg C) : FnOk P w K mg base CX0 1 f fd ["self"] (spReprR K C) := by
  refine F.ok scRepr (fun vs H Q E h => ?_) (fun cdv A outer s H vs Q E hr h => ?_)
  · obtain ⟨x, g, rfl, _⟩ := h
    rfl
  · obtain ⟨x, g, rfl, ⟨dx, th, tc, hx, e1, e2⟩, hl, hb, k⟩ := h
    refine ⟨_, pss_one (ps_ret (pe_joined (.cons pe_str (.cons (pe_fmt (pe_callB call_len_seq (by rfl) T.len PySem.boot_len (pa_cons (pe_fld (pv 0) rfl) pa_nil))) (.cons pe_str (.cons (pe_fmt (pe_fld (pv 0) rfl)) .nil)))))), ?_⟩
    have hlen : ((g.c.map V.int).length : Int).natAbs.log2 < 1920 := by
      rw [List.length_map, Int.natAbs_natCast]
      exact Nat.lt_of_le_of_lt (Nat.log2_le_self _) (by omega)
    have n1 := int_text_len_1921 hlen
    have n2 := int_text_len_1921 (i := g.r) (by omega)
    have l1 : (Str.ofString "Row with period ").length = 16 := by decide +kernel
    have l2 : (Str.ofString " and rise ").length = 10 := by decide +kernel
    have l0 : Str.empty.length = 0 := rfl
    have sz := sizeLine_eq
    refine ⟨_, rfl, ?_, _, rfl, x, C, dx, _, _, rfl, hx, T.cl, T.nC, rflds_cycle _ _ _, tc, _, rfl, .inr e2, .inr ⟨_, rfl, hlen, _, rfl, ?_, _, rfl, ?_, _, rfl, x, C, dx, _, _, rfl, hx, T.cl, T.nS, rflds_step _ _ _, .inr ⟨_, rfl, by omega, _, rfl, ?_, k _⟩⟩⟩
    · rw [strLen_append]
      omega
    · rw [strLen_append, strLen_append]
      show _ + (Str.ofString (toString ((g.c.map V.int).length : Int))).length ≤ _
      omega
    · rw [strLen_append, strLen_append, strLen_append]
      show _ + (Str.ofString (toString ((g.c.map V.int).length : Int))).length + _ ≤ _
      omega
    · rw [strLen_append, strLen_append, strLen_append, strLen_append]
      show _ + (Str.ofString (toString ((g.c.map V.int).length : Int))).length + _ + (Str.ofString (toString g.r)).length ≤ _
      omega
end
end L2.K18

namespace L2.K18
open PySem PySem.Spec PyProof.Rows
/-! ### the least form's integers are small -/
theorem roll_mem {e : List Int} {s B : Int} (he : ∀ z ∈ e, -B ≤ z ∧ z ≤ B) (hB : 0 ≤ B) : ∀ (l : Nat) (c : List Int), (∀ z ∈ c, -B ≤ z ∧ z ≤ B) → ∀ z ∈ (roll e s l c).2, -B ≤ z ∧ z ≤ B
  | 0, c, hc => hc
  | l + 1, c, hc => by
    by_cases h : e.getD l 0 = c.getD (c.length - 1) 0 - s
    · rw [roll_yes h]
      refine roll_mem he hB l _ fun z hz => ?_
      rcases List.mem_cons.mp hz with q | q
      · rw [q]
        exact getD_bnd hB he l
      · rw [List.dropLast_eq_take] at q
        exact hc z (List.mem_of_mem_take q)
    · rw [roll_no h]
      exact hc
def B3 : Int := 2400000000000000000000000000000000
theorem B3_eq : B3 = 2400000000000000000000000000000000 := rfl
theorem norm_good {f : Fm} (g : Good 8 12 B2 f) : Good 8 12 B3 (norm f) := by
  have eB2 := B2_eq
  have eB3 := B3_eq
  obtain ⟨l1, l2⟩ := norm_len f g.ne
  obtain ⟨z1, z2, _⟩ := size_spec f g.ne
  have lc := g.lc
  have hs := step_eq f g.ne
  rw [l1] at hs
  refine ⟨?_, l2, by rw [l1]; omega, fun z hz => ?_, fun z hz => ?_, ?_⟩
  · show (f.e.take _).length ≤ 8
    rw [List.length_take]
    have := g.le
    omega
  · have := g.be z (List.mem_of_mem_take hz)
    omega
  · have := roll_mem (s := stepOf f.c f.r) g.be (by omega) f.e.length (f.c.take (size f.c f.r)) (fun y hy => g.bc y (List.mem_of_mem_take hy)) z hz
    omega
  · have h1 := mul_bnd (q := size f.c f.r) (m := 12) g.br (by omega)
    rw [Int.mul_comm (size f.c f.r : Int) f.r] at h1
    have hp : (1 : Int) ≤ (f.c.length : Int) := by omega
    rw [← hs] at h1
    generalize (norm f).r = r at h1 ⊢
    generalize (f.c.length : Int) = n at h1 hp
    constructor
    · rcases Int.lt_or_le r 0 with q | q
      · have : r * n ≤ r * 1 := Int.mul_le_mul_of_nonpos_left (by omega) hp
        omega
      · omega
    · rcases Int.lt_or_le 0 r with q | q
      · have : r * 1 ≤ r * n := Int.mul_le_mul_of_nonneg_left hp (by omega)
        omega
      · omega
theorem log_small {z : Int} (h1 : -B3 ≤ z) (h2 : z ≤ B3) : z.natAbs.log2 < 200 := by
  have eB := B3_eq
  by_cases h0 : z.natAbs = 0
  · rw [h0]
    decide
  · rw [Nat.log2_lt h0]
    have : (2400000000000000000000000000000000 : Nat) < 2 ^ 200 := by decide
    omega
theorem text_small {z : Int} (h1 : -B3 ≤ z) (h2 : z ≤ B3) : (Str.ofString (toString z)).length ≤ 201 := by
  rw [PySem.ofString_length]
  exact int_text_length_le (by decide) (log_small h1 h2)

/-! ### what repr shows of a row -/
theorem showable_ints : ∀ xs : List Int, (∀ z ∈ xs, -B3 ≤ z ∧ z ≤ B3) → PyData.showableAll (xs.map PyData.int) = true ∧ PyData.hasDictAll (xs.map PyData.int) = false ∧ piled (PyData.shownAll (xs.map PyData.int)) ≤ 203 * xs.length
  | [], _ => by simp [PyData.showableAll, PyData.hasDictAll, PyData.shownAll, piled_nil]
  | x :: xs, h => by
    obtain ⟨a, b, c⟩ := showable_ints xs fun z hz => h z (List.mem_cons_of_mem _ hz)
    obtain ⟨h1, h2⟩ := h x List.mem_cons_self
    have h3 := log_small h1 h2
    have h4 : (PyData.shown (.int x)).length ≤ 201 := text_small h1 h2
    refine ⟨?_, ?_, ?_⟩
    · rw [List.map_cons, PyData.showableAll, a, PyData.showable, decide_eq_true (by omega)]
      rfl
    · rw [List.map_cons, PyData.hasDictAll, b, PyData.hasDict]
      rfl
    · rw [List.map_cons, PyData.shownAll, piled_cons, List.length_cons]
      omega
theorem tup_text (ts : List Str) : (tupleText ts).length ≤ piled ts + 3 := by
  have e3 : (((if ts.length == 1 then ",)" else ")" : String) : Str)).length ≤ 2 := by split <;> decide +kernel
  have e1 : ((("(" : String) : Str)).length = 1 := rfl
  unfold tupleText
  rw [strLen_append, strLen_append, e1]
  by_cases h : ts = []
  · subst h
    have : (Str.join ", " []).length = 0 := by decide +kernel
    omega
  · have := join_length_add ts h
    omega
theorem from_text : ∀ (ts : List Str) (k : Nat) (acc : Str), (textFrom k acc ts).length ≤ acc.length + piled ts
  | [], k, acc => by show acc.length ≤ _; omega
  | t :: r, k, acc => by
    have ih := from_text r (k + 1) (acc ++ (if k > 0 then ", " else "" : String) ++ t)
    have h3 : (((if k > 0 then ", " else "" : String) : String) : Str).length ≤ 2 := by split <;> decide +kernel
    rw [piled_cons]
    show (textFrom (k + 1) (acc ++ (if k > 0 then ", " else "" : String) ++ t) r).length ≤ _
    rw [strLen_append, strLen_append] at ih
    omega
theorem lst_text (ts : List Str) : (listText ts).length ≤ piled ts + 2 := by
  unfold listText
  rw [strLen_append]
  have := from_text ts 0 "["
  have e1 : (("[" : String) : Str).length = 1 := rfl
  have e2 : (("]" : String) : Str).length = 1 := rfl
  omega
abbrev dRow (h : Fm) : PyData := .list [dI h.e, dI h.c, .int h.r]
structure Shows (d : PyData) : Prop where
  sh : d.showable = true
  nd : d.hasDict = false
  dp : d.depth ≤ 60
  ln : d.shown.length ≤ sizeLine
theorem shows_row {h : Fm} (g : Good 8 12 B3 h) : Shows (dRow h) := by
  obtain ⟨a1, a2, a3⟩ := showable_ints h.e g.be
  obtain ⟨b1, b2, b3⟩ := showable_ints h.c g.bc
  have c1 := log_small g.br.1 g.br.2
  have c2 : (PyData.shown (.int h.r)).length ≤ 201 := text_small g.br.1 g.br.2
  have l1 := g.le
  have l2 := g.lc
  refine ⟨?_, ?_, ?_, ?_⟩
  · simp only [PyData.showable, PyData.showableAll, a1, b1, decide_eq_true (show h.r.natAbs.log2 < 1920 by omega), Bool.and_true]
  · simp only [PyData.hasDict, PyData.hasDictAll, a2, b2, Bool.or_false]
  · have d1 := depth_ints h.e
    have d2 := depth_ints h.c
    simp only [PyData.depth, PyData.depthAll]
    omega
  · have t1 := tup_text (PyData.shownAll (h.e.map PyData.int))
    have t2 := tup_text (PyData.shownAll (h.c.map PyData.int))
    have t3 := lst_text (PyData.shownAll [dI h.e, dI h.c, .int h.r])
    have t4 : piled (PyData.shownAll [dI h.e, dI h.c, .int h.r]) = ((tupleText (PyData.shownAll (h.e.map PyData.int))).length + 2) + (((tupleText (PyData.shownAll (h.c.map PyData.int))).length + 2) + (((PyData.shown (.int h.r)).length + 2) + 0)) := by
      simp only [PyData.shownAll, piled_cons, piled_nil, PyData.shown]
    have t5 : (PyData.shown (dRow h)).length ≤ piled (PyData.shownAll [dI h.e, dI h.c, .int h.r]) + 2 := by
      show (PyData.shown (.list [dI h.e, dI h.c, .int h.r])).length ≤ _
      rw [PyData.shown]
      exact t3
    rw [sizeLine_eq]
    omega
abbrev dBs (b1 b2 b3 b4 b5 : Bool) : PyData := .list [.bool b1, .bool b2, .bool b3, .bool b4, .bool b5]
theorem shows_bs (b1 b2 b3 b4 b5 : Bool) : Shows (dBs b1 b2 b3 b4 b5) := by
  refine ⟨?_, ?_, ?_, ?_⟩
  · simp only [PyData.showable, PyData.showableAll, Bool.and_true]
  · simp only [PyData.hasDict, PyData.hasDictAll, Bool.or_false]
  · simp only [PyData.depth, PyData.depthAll]
    decide
  · have t3 := lst_text (PyData.shownAll [.bool b1, .bool b2, .bool b3, .bool b4, .bool b5])
    have hb : ∀ b : Bool, (PyData.shown (.bool b)).length ≤ 5 := by
      intro b
      rw [PyData.shown]
      cases b <;> decide +kernel
    have t4 : piled (PyData.shownAll [.bool b1, .bool b2, .bool b3, .bool b4, .bool b5]) ≤ 35 := by
      have h1 := hb b1
      have h2 := hb b2
      have h3 := hb b3
      have h4 := hb b4
      have h5 := hb b5
      simp only [PyData.shownAll, piled_cons, piled_nil]
      omega
    have t5 : (PyData.shown (dBs b1 b2 b3 b4 b5)).length ≤ piled (PyData.shownAll [.bool b1, .bool b2, .bool b3, .bool b4, .bool b5]) + 2 := by
      show (PyData.shown (.list _)).length ≤ _
      rw [PyData.shown]
      exact t3
    rw [sizeLine_eq]
    omega
theorem dp_row {K : PySem.W.Frag} {H : Hp} {l t u : Addr} {h : Fm} (hl : H l = some (.lst [.ref t, .ref u, .int h.r])) (e1 : IntsT K H t h.e) (e2 : IntsT K H u h.c) : Dp K H (.ref l) (dRow h) :=
  .lst (SqL.of hl) (.cons (dp_ints e1) (.cons (dp_ints e2) (.cons (.int _) .nil)))
theorem dp_bs {K : PySem.W.Frag} {H : Hp} {l : Addr} {b1 b2 b3 b4 b5 : Bool} (hl : H l = some (.lst [.bl b1, .bl b2, .bl b3, .bl b4, .bl b5])) : Dp K H (.ref l) (dBs b1 b2 b3 b4 b5) :=
  .lst (SqL.of hl) (.cons (.bl _) (.cons (.bl _) (.cons (.bl _) (.cons (.bl _) (.cons (.bl _) .nil)))))

/-! ### what is no Row -/
theorem sub_own {K : PySem.W.Frag} {C : Addr} {T : String} {l : List String} (h : PySem.fastBuiltinMro T = some (l.map Value.type)) : PySem.W.subIn K (.type T) (.ref C) = some false := by
  show (PySem.fastBuiltinMro T).map (·.contains (.ref C)) = some false
  rw [h]
  show some ((l.map Value.type).contains (.ref C)) = some false
  congr 1
  rw [Bool.eq_false_iff]
  intro q
  rw [List.contains_iff_mem] at q
  obtain ⟨n, _, e⟩ := List.mem_map.mp q
  cases e
theorem not_row {K : PySem.W.Frag} {mg : Str → Option Value} {C : Addr} (T : Txt K mg C) {n : String} {l : List String} (h : PySem.fastBuiltinMro n = some (l.map Value.type)) :
    PySem.W.kitOne K (.type n) (.ref C) = some false ∧ PySem.W.notFirst K C (.type n) = true := by
  have e := sub_own (K := K) (C := C) h
  refine ⟨?_, ?_⟩
  · unfold PySem.W.kitOne
    rw [if_neg (by simp)]
    unfold PySem.W.kitCls
    dsimp only
    have hc : ((PySem.W.clsIn K C).isSome && PySem.W.typeIn K (.ref C) == some (.type "type")) = true := by
      rw [show (PySem.W.clsIn K C).isSome = true from T.cin_, T.cty_]
      simp
    rw [if_pos hc]
    exact e
  · unfold PySem.W.notFirst
    rw [e]
    simp
theorem foreign_ty {K : PySem.W.Frag} {mg : Str → Option Value} {C : Addr} {H : Hp} {x : V} (T : Txt K mg C) (f : Foreign K H x) : ∃ t, TyX K H x t ∧ PySem.W.kitOne K t (.ref C) = some false ∧ PySem.W.notFirst K C t = true := by
  rcases f with rfl | ⟨i, rfl⟩ | ⟨y, rfl⟩ | ⟨p, xs, rfl, h⟩ | ⟨p, xs, rfl, h⟩
  · exact ⟨_, .base .non, not_row T (l := ["NoneType", "object"]) (by decide +kernel)⟩
  · exact ⟨_, .base (.int i), not_row T (l := ["int", "object"]) (by decide +kernel)⟩
  · exact ⟨_, .base (.str y), not_row T (l := ["str", "object"]) (by decide +kernel)⟩
  · have n := not_row T (n := "list") (l := ["list", "object"]) (by decide +kernel)
    rcases h with (h | ⟨o, h⟩) | ⟨o, its, m, h1, h2, _⟩
    · exact ⟨_, .base (.lst h), n⟩
    · exact ⟨_, .base (.frz h), n⟩
    · exact ⟨_, .kList h1 h2, n⟩
  · have n := not_row T (n := "tuple") (l := ["tuple", "object"]) (by decide +kernel)
    rcases h with (h | ⟨o, h⟩) | ⟨o, its, m, h1, h2, _⟩
    · exact ⟨_, .base (.tup h), n⟩
    · exact ⟨_, .fTuple h, n⟩
    · exact ⟨_, .kTuple h1 h2, n⟩
theorem own_first {K : PySem.W.Frag} {C : Addr} : PySem.W.notFirst K C (.ref C) = true := by
  unfold PySem.W.notFirst
  simp
/-- a new instance, its dict, its __init__ -/
theorem made_same {H H' : Hp} {x dx C : Addr} (nx : H x = none) (nd : H dx = none) (k : Kept x (upd (upd H dx (.own x)) x (.ins C dx [])) H') : Same H H' := fun b o e =>
  k b o (by rw [upd_ne (ne_of_none e nx), upd_ne (ne_of_none e nd)]; exact e) (ne_of_none e nx)
theorem made_new {H : Hp} {x dx C : Addr} (nx : H x = none) (nd : H dx = none) : Same H (upd (upd H dx (.own x)) x (.ins C dx [])) := fun b o e => by
  rw [upd_ne (ne_of_none e nx), upd_ne (ne_of_none e nd)]
  exact e
end L2.K18

namespace L2.K18
open PySem PySem.Spec PyProof.Rows
/-- the methods and properties of Row, as the top has left them -/
structure RowTxt (P : Program) (w : World) (K : PySem.W.Frag) (mg : Str → Option Value) (base : Heap) (C : Addr) where
  (fI fQ fR fE fA fS fP : Addr)
  (dI dQ dR dE dA dS dP : FuncData)
  (pE pA pS pP : Addr)
  mki : Mk K C fI
  okI : FnOk P w K mg base CX0 3 fI dI ["self", "early", "again", "rise"] (spInit K C)
  bI : Binds K dI ["self", "early", "again", "rise"] []
  oq : OwnEq K C fQ
  okQ : FnOk P w K mg base CX0 1 fQ dQ ["self", "other"] (spEqR K C)
  bQ : Binds K dQ ["self", "other"] []
  orr : OwnRepr K C fR
  okR : FnOk P w K mg base CX0 1 fR dR ["self"] (spReprR K C)
  bR : Binds K dR ["self"] []
  prE : PropOf K C "early" pE fE
  okE : FnOk P w K mg base CX0 1 fE dE ["self"] (spHead K C)
  bE : Binds K dE ["self"] []
  prA : PropOf K C "again" pA fA
  okA : FnOk P w K mg base CX0 1 fA dA ["self"] (spCyc K C)
  bA : Binds K dA ["self"] []
  prS : PropOf K C "rise" pS fS
  okS : FnOk P w K mg base CX0 1 fS dS ["self"] (spStep K C)
  bS : Binds K dS ["self"] []
  prP : PropOf K C "pace" pP fP
  okP : FnOk P w K mg base CX0 3 fP dP ["self"] (spPace K C)
  bP : Binds K dP ["self"] []
section
variable {P : Program} {w : World} {K : PySem.W.Frag} {mg : Str → Option Value} {base : Heap} {C : Addr}
/-! ### the comparisons of rows -/
theorem eqO_row {H : Hp} {Q : VK} {x y : Addr} {h g : Fm} (T : Txt K mg C) (rx : RowAt C K H x h) (ry : RowAt C K H y g) (k : Q (.bl (decide (h = g))) H) : rEqO K C (spEqR K C) E0 (.ref x) (.ref y) H Q := by
  obtain ⟨dx, th, tc, hx, _⟩ := id rx
  obtain ⟨dy, th', tc', hy, _⟩ := id ry
  exact ⟨x, dx, _, _, rfl, hx, .base (.ins hy T.cl T.cls_ T.get_ T.tak_ T.obj_), own_first, x, _, h, rfl, rx, .inl ⟨y, g, rfl, ry, _, rfl, k⟩⟩
theorem neO_row {H : Hp} {Q : VK} {x y : Addr} {h g : Fm} (T : Txt K mg C) (rx : RowAt C K H x h) (ry : RowAt C K H y g) (k : Q (.bl (!decide (h = g))) H) : rNeO K C (spEqR K C) E0 (.ref x) (.ref y) H Q := by
  obtain ⟨dx, th, tc, hx, _⟩ := id rx
  obtain ⟨dy, th', tc', hy, _⟩ := id ry
  exact ⟨x, dx, _, _, rfl, hx, .base (.ins hy T.cl T.cls_ T.get_ T.tak_ T.obj_), own_first, x, _, h, rfl, rx, .inl ⟨y, g, rfl, ry, _, rfl, k⟩⟩
theorem eqO_no {H : Hp} {Q : VK} {x : Addr} {v : V} {h : Fm} (T : Txt K mg C) (rx : RowAt C K H x h) (fo : Foreign K H v) (k : Q (.bl false) H) : rEqO K C (spEqR K C) E0 (.ref x) v H Q := by
  obtain ⟨dx, th, tc, hx, _⟩ := id rx
  obtain ⟨t, ty, k1, k2⟩ := foreign_ty T fo
  exact ⟨x, dx, _, t, rfl, hx, ty, k2, x, _, h, rfl, rx, .inr ⟨t, ty, k1, _, rfl, k⟩⟩
theorem neO_no {H : Hp} {Q : VK} {x : Addr} {v : V} {h : Fm} (T : Txt K mg C) (rx : RowAt C K H x h) (fo : Foreign K H v) (k : Q (.bl true) H) : rNeO K C (spEqR K C) E0 (.ref x) v H Q := by
  obtain ⟨dx, th, tc, hx, _⟩ := id rx
  obtain ⟨t, ty, k1, k2⟩ := foreign_ty T fo
  exact ⟨x, dx, _, t, rfl, hx, ty, k2, x, _, h, rfl, rx, .inr ⟨t, ty, k1, _, rfl, k⟩⟩
theorem eqB_no {H : Hp} {Q : VK} {x : Addr} {v : V} {h : Fm} (T : Txt K mg C) (rx : RowAt C K H x h) (fo : Foreign K H v) (k : Q (.bl false) H) : rEqB K C (spEqR K C) E0 v (.ref x) H Q := by
  obtain ⟨dx, th, tc, hx, _⟩ := id rx
  obtain ⟨t, ty, k1, k2⟩ := foreign_ty T fo
  exact ⟨x, dx, _, rfl, hx, fo, x, _, h, rfl, rx, .inr ⟨t, ty, k1, _, rfl, k⟩⟩
theorem Foreign.same {H H' : Hp} {v : V} (fo : Foreign K H v) (s : Same H H') : Foreign K H' v := by
  rcases fo with h | h | h | ⟨p, xs, e, h⟩ | ⟨p, xs, e, h⟩
  · exact .inl h
  · exact .inr (.inl h)
  · exact .inr (.inr (.inl h))
  · exact .inr (.inr (.inr (.inl ⟨p, xs, e, s.seq h⟩)))
  · exact .inr (.inr (.inr (.inr ⟨p, xs, e, sqT_same h s⟩)))

abbrev tThings (K : PySem.W.Frag) (C : Addr) : TS :=
  tFor (iList K (tLst (tCons (tC .non) (tCons (tC (.int 0)) (tCons (tVar 2) (tCons (tOp (rIxT K) (tVar 2) (tC (.int 1))) (tCons (tCB (rReprO C (spReprR K C) E0) (tCons (tVar 4) tNil)) (tCons (tLst (tCons (tVar 4) tNil))
    (tCons (tTup (tCons (tProp C (spHead K C) [] E0 (tVar 4)) (tCons (tProp C (spCyc K C) [] E0 (tVar 4)) (tCons (tProp C (spStep K C) [] E0 (tVar 4)) tNil)))) tNil))))))))) (gName 9)
    (tIfS (tOr (tTest (tOp (rEqO K C (spEqR K C) E0) (tVar 4) (tVar 9))) (tOr (tTest (tOp (rEqB K C (spEqR K C) E0) (tVar 9) (tVar 4))) (tNot (tTest (tOp (rNeO K C (spEqR K C) E0) (tVar 4) (tVar 9)))))) (tRet (tC (.bl false))) tNext)
theorem things_run (T : Txt K mg C) {D : Ends} {H : Hp} {x t : Addr} {h g : Fm} {o0 o1 o3 o5 o6 o7 o8 o9 : Option V} (rx : RowAt C K H x h) (gh : Good 8 12 B3 h) (ft : FormAt K H t g)
    (k : ∀ (v : Option V) (H' : Hp), Same H H' → D.nx [o0, o1, some (.ref t), o3, some (.ref x), o5, o6, o7, o8, v] H') : tThings K C D [o0, o1, some (.ref t), o3, some (.ref x), o5, o6, o7, o8, o9] H := by
  obtain ⟨te, tc, f1, f2, f3⟩ := id ft
  obtain ⟨dx, xh, xc, hx, xe, xf⟩ := id rx
  refine ⟨_, rfl, _, rfl, t, _, _, _, rfl, rfl, f1, at3_1 _ _ _, _, rfl, x, dx, _, rfl, hx, x, h, rfl, rx, by have := gh.lc; omega, by have := log_small gh.br.1 gh.br.2; omega, fun yy => ⟨yy, rfl, ?_⟩⟩
  refine ⟨_, rfl, (by show 1 ≤ sizeLine; decide), fun l1 hl1 => ?_⟩
  have s1 : Same H (upd H l1 (.lst [.ref x])) := same_new (Same.refl _) hl1
  have L1 : (upd H l1 (.lst [.ref x])) l1 = some (.lst [.ref x]) := upd_same
  generalize upd H l1 (.lst [.ref x]) = H1 at s1 L1 ⊢
  have rx1 := rx.same s1
  refine ⟨_, rfl, x, dx, _, rfl, s1 _ _ hx, x, h, rfl, rx1, fun qa hqa => ?_⟩
  refine ⟨_, rfl, x, dx, _, rfl, s1 _ _ hx, x, h, rfl, rx1, fun qb hqb => ?_⟩
  refine ⟨_, rfl, x, dx, _, rfl, s1 _ _ hx, x, h, rfl, rx1, (by show 3 ≤ sizeLine; decide), fun p hp => ?_⟩
  have s2 : Same H1 (upd H1 p (.tup [.ref qa, .ref qb, .int h.r])) := same_new (Same.refl _) hp
  have L2 : (upd H1 p (.tup [.ref qa, .ref qb, .int h.r])) p = some (.tup [.ref qa, .ref qb, .int h.r]) := upd_same
  generalize upd H1 p (.tup [.ref qa, .ref qb, .int h.r]) = H2 at s2 L2 ⊢
  refine ⟨(by show 7 ≤ sizeLine; decide), fun l hl => ?_⟩
  have s3 : Same H2 (upd H2 l (.lst [.non, .int 0, .ref t, .ref tc, .str yy, .ref l1, .ref p])) := same_new (Same.refl _) hl
  have L3 : (upd H2 l (.lst [.non, .int 0, .ref t, .ref tc, .str yy, .ref l1, .ref p])) l = some (.lst [.non, .int 0, .ref t, .ref tc, .str yy, .ref l1, .ref p]) := upd_same
  generalize upd H2 l (.lst [.non, .int 0, .ref t, .ref tc, .str yy, .ref l1, .ref p]) = H3 at s3 L3 ⊢
  have s23 := s2.trans s3
  have s13 := s1.trans s23
  have rx3 := rx.same s13
  have all : ∀ v ∈ [V.non, V.int 0, V.ref t, V.ref tc, V.str yy, V.ref l1, V.ref p], Foreign K H3 v := by
    intro v hv
    simp only [List.mem_cons, List.not_mem_nil, or_false] at hv
    rcases hv with e | e | e | e | e | e | e
    · exact .inl e
    · exact .inr (.inl ⟨0, e⟩)
    · exact .inr (.inr (.inr (.inr ⟨t, _, e, sqT_same f1 s13⟩)))
    · exact .inr (.inr (.inr (.inr ⟨tc, _, e, sqT_same f3 s13⟩)))
    · exact .inr (.inr (.inl ⟨yy, e⟩))
    · exact .inr (.inr (.inr (.inl ⟨l1, _, e, SqL.of (s23 _ _ L1)⟩)))
    · exact .inr (.inr (.inr (.inr ⟨p, _, e, .inl (.inl (s3 _ _ L2))⟩)))
  refine ⟨l, rfl, ⟨_, SqL.of L3⟩, ?_⟩
  refine for_list (K := K) (a := l) (xs := [.non, .int 0, .ref t, .ref tc, .str yy, .ref l1, .ref p]) (fun i σ' H' => H' = H3 ∧ ∃ v : Option V, σ' = [o0, o1, some (.ref t), o3, some (.ref x), o5, o6, o7, o8, v])
    ⟨rfl, _, rfl⟩ (fun i σ' H' _ z => by rw [z.1]; exact SqL.of L3) ?_ ?_
  · rintro i v σ' H' hi ⟨rfl, v', rfl⟩
    have fo := all v (List.mem_of_getElem? hi)
    exact ⟨_, rfl, _, rfl, eqO_no T rx3 fo ⟨false, rfl, iteF ⟨_, rfl, _, rfl, eqB_no T rx3 fo ⟨false, rfl, iteF ⟨_, rfl, _, rfl, neO_no T rx3 fo ⟨true, rfl, iteF ⟨rfl, _, rfl⟩⟩⟩⟩⟩⟩⟩
  · rintro σ' H' ⟨rfl, v, rfl⟩
    exact k v _ s13

theorem scRight : FnScope ["_law_purse_here", "_law_turn", "_law_near", "_law_far", "_law_mine", "_law_mate", "_law_same", "_law_told", "_law_shown", "_law_thing"] ["_law_purse_here"] (defScope tRight) := ⟨rfl, rfl, rfl, by decide +kernel, rfl, by decide +kernel, by decide +kernel⟩
theorem ok_right {f f1 f2 f3 : Addr} {fd fd1 fd2 fd3 : FuncData} (F : Fun K "_law_right" "_law_right" tRight f fd) (T : Txt K mg C) (R : RowTxt P w K mg base C) (DT : Def P w K mg base 4 "_law_two" ["_law_purse_here"] (spTwo K) f1 fd1)
    (DS : Def P w K mg base 2 "_law_same_told" ["_law_one_form", "_law_two_here"] (spSame K) f2 fd2) (DP : Def P w K mg base 1 "_law_paced" ["_law_told", "_law_form_here"] (spPaced K) f3 fd3) :
    FnG P w K mg base CX0 5 f fd ["_law_purse_here"] spRight := by
  refine Fun.okG F scRight (fun vs H Q E h => ?_) (fun cdv A outer s H vs Q E hr hG h => ?_)
  · obtain ⟨a, rfl, _⟩ := h
    rfl
  · obtain ⟨a, rfl, hp, k⟩ := h
    have hr1 : Room 1 _ := hr.mono (by decide)
    have hr2 : Room 2 _ := hr.mono (by decide)
    refine ⟨_, pss_cons (ps_for PassesOwn.never rfl (pi_range1 (by rfl) T.range (pa_cons pe_int pa_nil)) (pg_name (i := 1) scRight.nd rfl (.inl rfl))
      (pss_cons (ps_asg (pe_call DT.ok hr (by rfl) DT.at_ DT.kp DT.b .nil pass0 (pa_cons (pv 0) pa_nil)) (pg_tup (by rfl) (pgs_cons (pg_name (i := 2) scRight.nd rfl (.inl rfl)) (pgs_cons (pg_name (i := 3) scRight.nd rfl (.inl rfl)) pgs_nil))))
      (pss_cons (ps_par (i := 4) (j := 5) (by rfl) scRight.nd rfl rfl (by decide) rfl rfl
          (pa_cons (pe_make R.mki R.okI hr (by rfl) T.mgR R.bI .nil pass0 (pa_cons (pe_ix ix_tup (pv 2) pe_int (fun _ _ => rfl)) (pa_cons (pe_ix ix_tup (pv 2) pe_int (fun _ _ => rfl)) (pa_cons (pe_ix ix_tup (pv 2) pe_int (fun _ _ => rfl)) pa_nil))))
            (pa_cons (pe_make R.mki R.okI hr (by rfl) T.mgR R.bI .nil pass0 (pa_cons (pe_ix ix_tup (pv 3) pe_int (fun _ _ => rfl)) (pa_cons (pe_ix ix_tup (pv 3) pe_int (fun _ _ => rfl)) (pa_cons (pe_ix ix_tup (pv 3) pe_int (fun _ _ => rfl)) pa_nil)))) pa_nil)) (by rfl))
      (pss_cons (ps_set (i := 6) scRight.nd rfl (.inl rfl) (pe_call DS.ok hr2 (by rfl) DS.at_ DS.kp DS.b .nil pass0 (pa_cons (pv 2) (pa_cons (pv 3) pa_nil))))
      (pss_cons (ps_set (i := 7) scRight.nd rfl (.inl rfl) (pe_lst (pa_cons (pe_cmpR (op_eqO R.okQ R.oq hr1 R.bQ pass0) (pv 4) (pv 5) (nomark _)) (pa_cons (pe_cmpR (op_eqO R.okQ R.oq hr1 R.bQ pass0) (pv 5) (pv 4) (nomark _))
          (pa_cons (pe_cmpR (op_neO R.okQ R.oq hr2 R.bQ pass0) (pv 4) (pv 5) (nomark _))
          (pa_cons (pe_cmpR (op_eqO R.okQ R.oq hr1 R.bQ pass0) (pv 4) (pe_make R.mki R.okI hr (by rfl) T.mgR R.bI .nil pass0 (pa_cons (pe_ix ix_tup (pv 2) pe_int (fun _ _ => rfl)) (pa_cons (pe_ix ix_tup (pv 2) pe_int (fun _ _ => rfl)) (pa_cons (pe_ix ix_tup (pv 2) pe_int (fun _ _ => rfl)) pa_nil)))) (nomark _))
          (pa_cons (pe_cmpR (op_eqO R.okQ R.oq hr1 R.bQ pass0) (pv 4) (pv 4) (nomark _)) pa_nil)))))))
      (pss_cons (ps_if (pt_cmpR op_ne (pe_callB (call_reprD hG hr) (by rfl) T.repr (by decide +kernel) (pa_cons (pv 7) pa_nil))
          (pe_callB (call_reprD hG hr) (by rfl) T.repr (by decide +kernel) (pa_cons (pe_lst (pa_cons (pv 6) (pa_cons (pv 6) (pa_cons (pe_not (pv 6)) (pa_cons pe_bl (pa_cons pe_bl pa_nil)))))) pa_nil)) (nomark _)) (pss_one (ps_ret pe_bl)) pss_nil)
      (pss_cons (ps_if (PW.pt (pw_or (pt_not (pt_val (pe_call DP.ok hr1 (by rfl) DP.at_ DP.kp DP.b .nil pass0 (pa_cons (pe_prop (pv 4) T.cl R.prP R.okP hr R.bP .nil pass0 rfl) (pa_cons (pv 2) pa_nil)))))
          (pw_or1 (pt_not (pt_val (pe_call DP.ok hr1 (by rfl) DP.at_ DP.kp DP.b .nil pass0 (pa_cons (pe_prop (pv 5) T.cl R.prP R.okP hr R.bP .nil pass0 rfl) (pa_cons (pv 3) pa_nil)))))))) (pss_one (ps_ret pe_bl)) pss_nil)
      (pss_cons (ps_set (i := 8) scRight.nd rfl (.inl rfl) (pe_lst (pa_cons (pe_prop (pv 5) T.cl R.prE R.okE hr2 R.bE .nil pass0 rfl) (pa_cons (pe_prop (pv 5) T.cl R.prA R.okA hr2 R.bA .nil pass0 rfl) (pa_cons (pe_prop (pv 5) T.cl R.prS R.okS hr2 R.bS .nil pass0 rfl) pa_nil)))))
      (pss_cons (ps_if (PW.pt (pw_and (pt_val (pv 6)) (pw_and1 (pt_cmpR op_ne (pe_callB (call_reprD hG hr) (by rfl) T.repr (by decide +kernel)
            (pa_cons (pe_lst (pa_cons (pe_prop (pv 4) T.cl R.prE R.okE hr2 R.bE .nil pass0 rfl) (pa_cons (pe_prop (pv 4) T.cl R.prA R.okA hr2 R.bA .nil pass0 rfl) (pa_cons (pe_prop (pv 4) T.cl R.prS R.okS hr2 R.bS .nil pass0 rfl) pa_nil)))) pa_nil))
          (pe_callB (call_reprD hG hr) (by rfl) T.repr (by decide +kernel) (pa_cons (pv 8) pa_nil)) (nomark _))))) (pss_one (ps_ret pe_bl)) pss_nil)
      (pss_one (ps_for PassesOwn.never rfl (pi_list (pe_lst (pa_cons pe_non (pa_cons pe_int (pa_cons (pv 2) (pa_cons (pe_ix ix_tup (pv 2) pe_int (fun _ _ => rfl))
          (pa_cons (pe_callB (call_reprO R.okR R.orr hr2 R.bR pass0) (by rfl) T.repr (by decide +kernel) (pa_cons (pv 4) pa_nil)) (pa_cons (pe_lst (pa_cons (pv 4) pa_nil))
          (pa_cons (pe_tup (pa_cons (pe_prop (pv 4) T.cl R.prE R.okE hr2 R.bE .nil pass0 rfl) (pa_cons (pe_prop (pv 4) T.cl R.prA R.okA hr2 R.bA .nil pass0 rfl) (pa_cons (pe_prop (pv 4) T.cl R.prS R.okS hr2 R.bS .nil pass0 rfl) pa_nil)))) pa_nil)))))))))
          (pg_name (i := 9) scRight.nd rfl (.inl rfl))
        (pss_one (ps_if (PW.pt (pw_or (pt_cmpR (op_eqO R.okQ R.oq hr1 R.bQ pass0) (pv 4) (pv 9) (nomark _)) (pw_or (pt_cmpR (op_eqB R.okQ R.oq hr1 R.bQ pass0) (pv 9) (pv 4) (nomark _))
          (pw_or1 (pt_not (pt_cmpR (op_neO R.okQ R.oq hr2 R.bQ pass0) (pv 4) (pv 9) (nomark _))))))) (pss_one (ps_ret pe_bl)) pss_nil)))))))))))))
      (pss_one (ps_ret pe_bl)), ?_⟩
    refine ⟨10, rfl, by decide, by decide, for_range (lo := 0) (n := 10) (fun i σ H' => Sm a H H' ∧ ∃ o1 o2 o3 o4 o5 o6 o7 o8 o9 : Option V, σ = [some (.ref a), o1, o2, o3, o4, o5, o6, o7, o8, o9])
      ⟨Sm.refl hp, _, _, _, _, _, _, _, _, _, rfl⟩ ?_ ?_⟩
    · rintro i σ H1 hi ⟨s1, o1, o2, o3, o4, o5, o6, o7, o8, o9, rfl⟩
      -- near and far
      refine ⟨_, rfl, a, rfl, s1.purse, fun p t u f0 g0 H2 s2 hpt ft fu gf gg => ⟨p, _, rfl, hpt, rfl, _, _, rfl, _, _, rfl, rfl, ?_⟩⟩
      have s12 := s1.trans s2
      obtain ⟨te, tc, ft1, ft2, ft3⟩ := id ft
      obtain ⟨ue, uc, fu1, fu2, fu3⟩ := id fu
      -- mine
      refine ⟨_, rfl, t, _, _, _, rfl, rfl, ft1, at3_0 _ _ _, _, rfl, t, _, _, _, rfl, rfl, ft1, at3_1 _ _ _, _, rfl, t, _, _, _, rfl, rfl, ft1, at3_2 _ _ _, fun x dx nx ndx nex => ?_⟩
      have m1 := made_new (C := C) nx ndx
      refine ⟨x, te, tc, dx, f0, rfl, upd_same, sqT_same ft2 m1, sqT_same ft3 m1, gf.ne, by have := gf.le; omega, by have := gf.lc; omega, fun H3 rx kx => ⟨rfl, ?_⟩⟩
      have s3 : Same H2 H3 := made_same nx ndx kx
      -- mate
      have fu1' := sqT_same fu1 s3
      refine ⟨_, rfl, u, _, _, _, rfl, rfl, fu1', at3_0 _ _ _, _, rfl, u, _, _, _, rfl, rfl, fu1', at3_1 _ _ _, _, rfl, u, _, _, _, rfl, rfl, fu1', at3_2 _ _ _, fun y dy ny ndy ney => ?_⟩
      have m2 := made_new (C := C) ny ndy
      refine ⟨y, ue, uc, dy, g0, rfl, upd_same, sqT_same (sqT_same fu2 s3) m2, sqT_same (sqT_same fu3 s3) m2, gg.ne, by have := gg.le; omega, by have := gg.lc; omega, fun H4 ry ky => ⟨rfl, _, _, rfl, ?_⟩⟩
      have s4 : Same H3 H4 := made_same ny ndy ky
      have s24 := s3.trans s4
      -- same
      refine ⟨_, rfl, _, rfl, t, u, f0, g0, rfl, ft.same s24, fu.same s24, gf, gg, fun H5 s5 => ?_⟩
      have s25 := s24.trans s5
      have s15 := s12.trans (s2.purse.sm s25)
      have rx5 := rx.same (s4.trans s5)
      have ry5 := ry.same s5
      have ft5 := ft.same s25
      have fu5 := fu.same s25
      rw [told_eq f0 g0 gf.ne gg.ne]
      -- told
      refine ⟨_, rfl, _, rfl, eqO_row T rx5 ry5 ⟨_, rfl, _, rfl, eqO_row T ry5 rx5 ⟨_, rfl, _, rfl, neO_row T rx5 ry5 ⟨_, rfl, ?_⟩⟩⟩⟩
      have ft1' := sqT_same ft1 s25
      refine ⟨_, rfl, t, _, _, _, rfl, rfl, ft1', at3_0 _ _ _, _, rfl, t, _, _, _, rfl, rfl, ft1', at3_1 _ _ _, _, rfl, t, _, _, _, rfl, rfl, ft1', at3_2 _ _ _, fun z dz nz ndz nez => ?_⟩
      have m3 := made_new (C := C) nz ndz
      refine ⟨z, te, tc, dz, f0, rfl, upd_same, sqT_same (sqT_same ft2 s25) m3, sqT_same (sqT_same ft3 s25) m3, gf.ne, by have := gf.le; omega, by have := gf.lc; omega, fun H6 rz kz => ⟨rfl, ?_⟩⟩
      have s6 : Same H5 H6 := made_same nz ndz kz
      have rx6 := rx5.same s6
      refine eqO_row T rx6 rz ⟨_, rfl, _, rfl, eqO_row T rx6 rx6 ⟨(by show 5 ≤ sizeLine; decide), fun l1 hl1 => ?_⟩⟩
      rw [show decide (norm g0 = norm f0) = decide (norm f0 = norm g0) from decide_eq_decide.mpr eq_comm, show decide (norm f0 = norm f0) = true from decide_eq_true rfl]
      generalize hb : decide (norm f0 = norm g0) = b
      have s7 : Same H6 (upd H6 l1 (.lst [.bl b, .bl b, .bl (!b), .bl true, .bl true])) := same_new (Same.refl _) hl1
      have L7 : (upd H6 l1 (.lst [.bl b, .bl b, .bl (!b), .bl true, .bl true])) l1 = some (.lst [.bl b, .bl b, .bl (!b), .bl true, .bl true]) := upd_same
      generalize upd H6 l1 (.lst [.bl b, .bl b, .bl (!b), .bl true, .bl true]) = H7 at s7 L7 ⊢
      have sb := shows_bs b b (!b) true true
      -- repr(told) != repr([same, same, not same, True, True])
      refine ⟨_, rfl, l1, dBs b b (!b) true true, rfl, dp_bs L7, sb.sh, sb.nd, sb.dp, sb.ln, ?_⟩
      refine ⟨_, rfl, _, rfl, _, rfl, b, rfl, (by show 5 ≤ sizeLine; decide), fun l2 hl2 => ?_⟩
      have s8 : Same H7 (upd H7 l2 (.lst [.bl b, .bl b, .bl (!b), .bl true, .bl true])) := same_new (Same.refl _) hl2
      have L8 : (upd H7 l2 (.lst [.bl b, .bl b, .bl (!b), .bl true, .bl true])) l2 = some (.lst [.bl b, .bl b, .bl (!b), .bl true, .bl true]) := upd_same
      generalize upd H7 l2 (.lst [.bl b, .bl b, .bl (!b), .bl true, .bl true]) = H8 at s8 L8 ⊢
      refine ⟨l2, dBs b b (!b) true true, rfl, dp_bs L8, sb.sh, sb.nd, sb.dp, sb.ln, rfl, _, rfl, iteNS rfl ?_⟩
      have s58 := (s6.trans s7).trans s8
      have rx8 := rx5.same s58
      have ry8 := ry5.same s58
      have ft8 := ft5.same s58
      have fu8 := fu5.same s58
      have s18 := s15.trans (s15.purse.sm s58)
      have nf := norm_good gf
      have ng := norm_good gg
      obtain ⟨dx8, xh8, xc8, hx8, xe8, xf8⟩ := id rx8
      obtain ⟨dy8, yh8, yc8, hy8, ye8, yf8⟩ := id ry8
      -- the paces
      refine ⟨_, rfl, x, dx8, _, rfl, hx8, x, norm f0, rfl, rx8, nf.ne, by have := nf.lc; omega, fun p1 hp1 => ?_⟩
      have s9 := same_new (o := .tup [.int (paceTop f0), .int (paceBot f0)]) (Same.refl H8) hp1
      refine ⟨_, rfl, p1, t, f0, paceTop f0, paceBot f0, rfl, upd_same, ft8.same s9, gf, pace_spec f0 gf.ne, fun H9 s9' => ⟨_, rfl, iteF ?_⟩⟩
      have s89 := s9.trans s9'
      refine ⟨_, rfl, y, dy8, _, rfl, s89 _ _ hy8, y, norm g0, rfl, ry8.same s89, ng.ne, by have := ng.lc; omega, fun p2 hp2 => ?_⟩
      have s10 := same_new (o := .tup [.int (paceTop g0), .int (paceBot g0)]) (Same.refl H9) hp2
      refine ⟨_, rfl, p2, u, g0, paceTop g0, paceBot g0, rfl, upd_same, (fu8.same s89).same s10, gg, pace_spec g0 gg.ne, fun HA sA => ⟨_, rfl, iteF ?_⟩⟩
      have s8A := (s89.trans s10).trans sA
      have rxA := rx8.same s8A
      have ryA := ry8.same s8A
      have ftA := ft8.same s8A
      have s1A := s18.trans (s18.purse.sm s8A)
      have hxA := s8A _ _ hx8
      have hyA := s8A _ _ hy8
      -- shown
      refine ⟨_, rfl, y, dy8, _, rfl, hyA, y, norm g0, rfl, ryA, fun ya hya => ?_⟩
      refine ⟨_, rfl, y, dy8, _, rfl, hyA, y, norm g0, rfl, ryA, fun yb hyb => ?_⟩
      refine ⟨_, rfl, y, dy8, _, rfl, hyA, y, norm g0, rfl, ryA, (by show 3 ≤ sizeLine; decide), fun l3 hl3 => ?_⟩
      have sB : Same HA (upd HA l3 (.lst [.ref ya, .ref yb, .int (norm g0).r])) := same_new (Same.refl _) hl3
      have LB : (upd HA l3 (.lst [.ref ya, .ref yb, .int (norm g0).r])) l3 = some (.lst [.ref ya, .ref yb, .int (norm g0).r]) := upd_same
      generalize upd HA l3 (.lst [.ref ya, .ref yb, .int (norm g0).r]) = HB at sB LB ⊢
      have rxB := rxA.same sB
      have ftB := ftA.same sB
      have s1B := s1A.trans (s1A.purse.sm sB)
      have hxB := sB _ _ hxA
      have shg := shows_row ng
      refine ⟨_, rfl, b, rfl, ?_⟩
      cases b with
      | false =>
        refine iteF (iteF ?_)
        exact things_run T rxB nf ftB fun v HC sC => ⟨s1B.trans (s1B.purse.sm sC), _, _, _, _, _, _, _, _, _, rfl⟩
      | true =>
        have e : norm f0 = norm g0 := of_decide_eq_true hb
        refine iteT ?_
        refine ⟨_, rfl, x, dx8, _, rfl, hxB, x, norm f0, rfl, rxB, fun xa hxa => ?_⟩
        refine ⟨_, rfl, x, dx8, _, rfl, hxB, x, norm f0, rfl, rxB, fun xb hxb => ?_⟩
        refine ⟨_, rfl, x, dx8, _, rfl, hxB, x, norm f0, rfl, rxB, (by show 3 ≤ sizeLine; decide), fun l4 hl4 => ?_⟩
        have sC : Same HB (upd HB l4 (.lst [.ref xa, .ref xb, .int (norm f0).r])) := same_new (Same.refl _) hl4
        have LC : (upd HB l4 (.lst [.ref xa, .ref xb, .int (norm f0).r])) l4 = some (.lst [.ref xa, .ref xb, .int (norm f0).r]) := upd_same
        generalize upd HB l4 (.lst [.ref xa, .ref xb, .int (norm f0).r]) = HC at sC LC ⊢
        have d1 : Dp K HC (.ref l4) (dRow (norm g0)) := by
          rw [← e]
          exact dp_row LC (sqT_same hxa sC) (sqT_same hxb sC)
        have d2 : Dp K HC (.ref l3) (dRow (norm g0)) := dp_row (sC _ _ LB) (sqT_same (sqT_same hya sB) sC) (sqT_same (sqT_same hyb sB) sC)
        refine ⟨l4, _, rfl, d1, shg.sh, shg.nd, shg.dp, shg.ln, _, rfl, l3, _, rfl, d2, shg.sh, shg.nd, shg.dp, shg.ln, rfl, _, rfl, iteNS rfl ?_⟩
        have s1C := s1B.trans (s1B.purse.sm sC)
        exact things_run T (rxB.same sC) nf (ftB.same sC) fun v HC sC => ⟨s1C.trans (s1C.purse.sm sC), _, _, _, _, _, _, _, _, _, rfl⟩
    · rintro σ H' ⟨s1, _⟩
      exact k H' s1
end
end L2.K18

namespace L2.K18
open PySem PySem.Spec PyProof.Rows
section
variable {P : Program} {w : World} {K : PySem.W.Frag} {mg : Str → Option Value} {base : Heap} {C : Addr}
theorem scLaw : FnScope ["_law_script", "_law_k"] ["_law_script"] (defScope tLaw) := ⟨rfl, rfl, rfl, by decide +kernel, rfl, by decide +kernel, by decide +kernel⟩
theorem ok_law {f f1 f2 f3 : Addr} {fd fd1 fd2 fd3 : FuncData} (F : Fun K "law" "law" tLaw f fd) (T : Txt K mg C) (DC : Def P w K mg base 1 "_law_cell" ["_law_script", "_law_k"] (spCellK K) f1 fd1)
    (DP : Def P w K mg base 1 "_law_purse" ["_law_cell_here"] spPurse f2 fd2) (GR : FnG P w K mg base CX0 5 f3 fd3 ["_law_purse_here"] spRight) (mR : mg "_law_right" = some (.ref f3)) (kR : PySem.W.keepIn K (.ref f3) = true) (bR : Binds K fd3 ["_law_purse_here"] []) :
    FnG P w K mg base CX0 6 f fd ["_law_script"] (spLaw K) := by
  refine Fun.okG F scLaw (fun vs H Q E h => ?_) (fun cdv A outer s H vs Q E hr hG h => ?_)
  · obtain ⟨l, ns, rfl, _⟩ := h
    rfl
  · obtain ⟨l, ns, rfl, hS, hlen, k⟩ := h
    have hr1 : Room 1 _ := hr.mono (by decide)
    refine ⟨_, pss_one (ps_ret (pe_callB (cr_all rfl) (by rfl) T.all (by decide +kernel) (pa_cons
        (pe_lc (own := [("_law_k", 1)]) (g := gName 1) (tt := tYes) rfl scLaw.nd (pi_range1 (by rfl) T.range (pa_cons (pe_callB (call_max2 rfl) (by rfl) T.max (by decide +kernel) (pa_cons pe_int
            (pa_cons (pe_callB (call_min2 rfl) (by rfl) T.min (by decide +kernel) (pa_cons (pe_callB call_len_seq (by rfl) T.len PySem.boot_len (pa_cons (pv 0) pa_nil)) (pa_cons pe_int pa_nil))) pa_nil))) pa_nil))
          (blkOk_by (N := ["_law_script", "_law_k"]) (sc := defScope tLaw) (by decide +kernel)) (fun _ _ _ _ _ => pg_name (i := 1) scLaw.nd rfl (Or.inl rfl)) (fun _ _ _ _ _ => pts_nil)
          (fun _ _ _ _ _ => pe_callG GR hG hr (by rfl) mR kR bR pass0 (pa_cons (pe_call DP.ok hr1 (by rfl) DP.at_ DP.kp DP.b .nil pass0 (pa_cons (pe_call DC.ok hr1 (by rfl) DC.at_ DC.kp DC.b .nil pass0 (pa_cons (pv 0) (pa_cons (pv 1) pa_nil))) pa_nil)) pa_nil))) pa_nil))), ?_⟩
    refine ⟨_, rfl, l, _, rfl, .inl hS, _, _, rfl, _, _, rfl, ?_⟩
    dsimp only
    obtain ⟨n, hn, hn6⟩ : ∃ n : Nat, (if (if (6 : Int) < ((ns.map V.int).length : Int) then (6 : Int) else ((ns.map V.int).length : Int)) > 2 then (if (6 : Int) < ((ns.map V.int).length : Int) then (6 : Int) else ((ns.map V.int).length : Int)) else 2) = (n : Int) ∧ n ≤ 6 := by
      by_cases h6 : (6 : Int) < ((ns.map V.int).length : Int)
      · exact ⟨6, by rw [if_pos h6]; rfl, Nat.le_refl _⟩
      · rw [if_neg h6]
        by_cases h2 : ((ns.map V.int).length : Int) > 2
        · exact ⟨(ns.map V.int).length, by rw [if_pos h2], by omega⟩
        · exact ⟨2, by rw [if_neg h2]; rfl, by decide⟩
    rw [hn]
    have z0 : ∀ i : Nat, (0 : Int) + (i : Int) = (i : Int) := fun i => Int.zero_add _
    refine ⟨_, rfl, by omega, by omega, fun D1 hD1 => ?_⟩
    refine lc_range (lo := 0) (n := (n : Int).toNat) (fun i H' => Same H H' ∧ ∃ bs : List Bool, H' D1 = some (.lst (bs.map V.bl)) ∧ bs.length = i ∧ ∀ b ∈ bs, b = true)
      ⟨same_new (Same.refl _) hD1, [], upd_same, rfl, fun _ hz => (List.not_mem_nil hz).elim⟩ ?_ ?_
    · rintro i H1 hi ⟨s1, bs, hL, hlen', hb⟩
      rw [z0]
      refine ⟨rfl, _, rfl, _, rfl, l, ns, i, rfl, s1.seq hS, hlen, by omega, fun z H2 s2 => ⟨z, rfl, fun p H3 np s3 pu => ⟨p, rfl, pu, fun H4 s4 => ?_⟩⟩⟩
      have s24 : Same H2 H4 := Kept.same s3 s4.kept np
      have s14 := s2.trans s24
      refine ⟨_, s14 _ _ hL, by rw [List.length_map]; exact small_lt (by omega), same_upd (s1.trans s14) hD1, bs ++ [true], by rw [upd_same, map_snocB], by rw [List.length_append, hlen']; rfl, fun b hb' => ?_⟩
      rcases List.mem_append.mp hb' with q | q
      · exact hb b q
      · exact List.mem_singleton.mp q
    · rintro H1 ⟨s1, bs, hL, hlen', hb⟩
      have ha : bs.all id = true := List.all_eq_true.mpr fun b hb' => hb b hb'
      refine ⟨D1, bs, rfl, SqL.of hL, ?_⟩
      rw [ha]
      exact k H1
end
theorem all_mk {l : PySem.W.OpenLaw} {w : World} {K : PySem.W.Frag} {h : Heap} {mg : Str → Option Value} {fa C fd0 fd1 fd2 fd3 fd4 fd5 fd6 fd7 fd8 fd9 fd10 fd11 fd12 fd13 fd14 fd15 fd16 fd17 fm0 fm1 fm2 fp0 op0 fp1 op1 fp2 op2 fp3 op3 : Addr} (X : K.In h) (G : h.Ns mainGlobals mg) (hfa : mg "law" = some (.ref fa))
    {odd0 and0 : Option Addr} {sld0 : Array (Option Value)} {ocd0 kVd0 dcd0 pmd0 cdd0 ctd0 : Value}
    {odd1 and1 : Option Addr} {sld1 : Array (Option Value)} {ocd1 kVd1 dcd1 pmd1 cdd1 ctd1 : Value}
    {odd2 and2 : Option Addr} {sld2 : Array (Option Value)} {ocd2 kVd2 dcd2 pmd2 cdd2 ctd2 : Value}
    {odd3 and3 : Option Addr} {sld3 : Array (Option Value)} {ocd3 kVd3 dcd3 pmd3 cdd3 ctd3 : Value}
    {odd4 and4 : Option Addr} {sld4 : Array (Option Value)} {ocd4 kVd4 dcd4 pmd4 cdd4 ctd4 : Value}
    {odd5 and5 : Option Addr} {sld5 : Array (Option Value)} {ocd5 kVd5 dcd5 pmd5 cdd5 ctd5 : Value}
    {odd6 and6 : Option Addr} {sld6 : Array (Option Value)} {ocd6 kVd6 dcd6 pmd6 cdd6 ctd6 : Value}
    {odd7 and7 : Option Addr} {sld7 : Array (Option Value)} {ocd7 kVd7 dcd7 pmd7 cdd7 ctd7 : Value}
    {odd8 and8 : Option Addr} {sld8 : Array (Option Value)} {ocd8 kVd8 dcd8 pmd8 cdd8 ctd8 : Value}
    {odd9 and9 : Option Addr} {sld9 : Array (Option Value)} {ocd9 kVd9 dcd9 pmd9 cdd9 ctd9 : Value}
    {odd10 and10 : Option Addr} {sld10 : Array (Option Value)} {ocd10 kVd10 dcd10 pmd10 cdd10 ctd10 : Value}
    {odd11 and11 : Option Addr} {sld11 : Array (Option Value)} {ocd11 kVd11 dcd11 pmd11 cdd11 ctd11 : Value}
    {odd12 and12 : Option Addr} {sld12 : Array (Option Value)} {ocd12 kVd12 dcd12 pmd12 cdd12 ctd12 : Value}
    {odd13 and13 : Option Addr} {sld13 : Array (Option Value)} {ocd13 kVd13 dcd13 pmd13 cdd13 ctd13 : Value}
    {odd14 and14 : Option Addr} {sld14 : Array (Option Value)} {ocd14 kVd14 dcd14 pmd14 cdd14 ctd14 : Value}
    {odd15 and15 : Option Addr} {sld15 : Array (Option Value)} {ocd15 kVd15 dcd15 pmd15 cdd15 ctd15 : Value}
    {odd16 and16 : Option Addr} {sld16 : Array (Option Value)} {ocd16 kVd16 dcd16 pmd16 cdd16 ctd16 : Value}
    {odd17 and17 : Option Addr} {sld17 : Array (Option Value)} {ocd17 kVd17 dcd17 pmd17 cdd17 ctd17 : Value}
    {odm0 anm0 : Option Addr} {slm0 : Array (Option Value)} {ocm0 kVm0 dcm0 pmm0 cdm0 ctm0 : Value}
    {odm1 anm1 : Option Addr} {slm1 : Array (Option Value)} {ocm1 kVm1 dcm1 pmm1 cdm1 ctm1 : Value}
    {odm2 anm2 : Option Addr} {slm2 : Array (Option Value)} {ocm2 kVm2 dcm2 pmm2 cdm2 ctm2 : Value}
    {rp0 : List Value}
    {odp0 anp0 : Option Addr} {slp0 : Array (Option Value)} {ocp0 kVp0 dcp0 pmp0 cdp0 ctp0 : Value}
    {rp1 : List Value}
    {odp1 anp1 : Option Addr} {slp1 : Array (Option Value)} {ocp1 kVp1 dcp1 pmp1 cdp1 ctp1 : Value}
    {rp2 : List Value}
    {odp2 anp2 : Option Addr} {slp2 : Array (Option Value)} {ocp2 kVp2 dcp2 pmp2 cdp2 ctp2 : Value}
    {rp3 : List Value}
    {odp3 anp3 : Option Addr} {slp3 : Array (Option Value)} {ocp3 kVp3 dcp3 pmp3 cdp3 ctp3 : Value}
    (aC : PySem.W.nsIn K mainGlobals "Row" = some (some (.ref C)))
    (ad0 : PySem.W.nsIn K mainGlobals "is_integer" = some (some (.ref fd0)))
    (ld0 : K.lookup fd0 = some ⟨ocd0, odd0, .func (PySem.W.fnOf "is_integer" "is_integer" (defArgs tIsInt) (defBody tIsInt) (defScope tIsInt) .none kVd0 dcd0 pmd0 and0 cdd0 ctd0), sld0⟩) (cd0 : PySem.W.codeIn K cdd0 "is_integer" = true) (kd0 : PySem.W.keepIn K (.ref fd0) = true)
    (ad1 : PySem.W.nsIn K mainGlobals "common_divisor" = some (some (.ref fd1)))
    (ld1 : K.lookup fd1 = some ⟨ocd1, odd1, .func (PySem.W.fnOf "common_divisor" "common_divisor" (defArgs tCd) (defBody tCd) (defScope tCd) .none kVd1 dcd1 pmd1 and1 cdd1 ctd1), sld1⟩) (cd1 : PySem.W.codeIn K cdd1 "common_divisor" = true) (kd1 : PySem.W.keepIn K (.ref fd1) = true)
    (ad2 : PySem.W.nsIn K mainGlobals "fraction" = some (some (.ref fd2)))
    (ld2 : K.lookup fd2 = some ⟨ocd2, odd2, .func (PySem.W.fnOf "fraction" "fraction" (defArgs tFrac) (defBody tFrac) (defScope tFrac) .none kVd2 dcd2 pmd2 and2 cdd2 ctd2), sld2⟩) (cd2 : PySem.W.codeIn K cdd2 "fraction" = true) (kd2 : PySem.W.keepIn K (.ref fd2) = true)
    (ad3 : PySem.W.nsIn K mainGlobals "check_integers" = some (some (.ref fd3)))
    (ld3 : K.lookup fd3 = some ⟨ocd3, odd3, .func (PySem.W.fnOf "check_integers" "check_integers" (defArgs tChk) (defBody tChk) (defScope tChk) .none kVd3 dcd3 pmd3 and3 cdd3 ctd3), sld3⟩) (cd3 : PySem.W.codeIn K cdd3 "check_integers" = true) (kd3 : PySem.W.keepIn K (.ref fd3) = true)
    (ad4 : PySem.W.nsIn K mainGlobals "goes_on" = some (some (.ref fd4)))
    (ld4 : K.lookup fd4 = some ⟨ocd4, odd4, .func (PySem.W.fnOf "goes_on" "goes_on" (defArgs tGoes) (defBody tGoes) (defScope tGoes) .none kVd4 dcd4 pmd4 and4 cdd4 ctd4), sld4⟩) (cd4 : PySem.W.codeIn K cdd4 "goes_on" = true) (kd4 : PySem.W.keepIn K (.ref fd4) = true)
    (ad5 : PySem.W.nsIn K mainGlobals "_law_cell" = some (some (.ref fd5)))
    (ld5 : K.lookup fd5 = some ⟨ocd5, odd5, .func (PySem.W.fnOf "_law_cell" "_law_cell" (defArgs tCell) (defBody tCell) (defScope tCell) .none kVd5 dcd5 pmd5 and5 cdd5 ctd5), sld5⟩) (cd5 : PySem.W.codeIn K cdd5 "_law_cell" = true) (kd5 : PySem.W.keepIn K (.ref fd5) = true)
    (ad6 : PySem.W.nsIn K mainGlobals "_law_purse" = some (some (.ref fd6)))
    (ld6 : K.lookup fd6 = some ⟨ocd6, odd6, .func (PySem.W.fnOf "_law_purse" "_law_purse" (defArgs tPurse) (defBody tPurse) (defScope tPurse) .none kVd6 dcd6 pmd6 and6 cdd6 ctd6), sld6⟩) (cd6 : PySem.W.codeIn K cdd6 "_law_purse" = true) (kd6 : PySem.W.keepIn K (.ref fd6) = true)
    (ad7 : PySem.W.nsIn K mainGlobals "_law_take" = some (some (.ref fd7)))
    (ld7 : K.lookup fd7 = some ⟨ocd7, odd7, .func (PySem.W.fnOf "_law_take" "_law_take" (defArgs tTake) (defBody tTake) (defScope tTake) .none kVd7 dcd7 pmd7 and7 cdd7 ctd7), sld7⟩) (cd7 : PySem.W.codeIn K cdd7 "_law_take" = true) (kd7 : PySem.W.keepIn K (.ref fd7) = true)
    (ad8 : PySem.W.nsIn K mainGlobals "_law_int" = some (some (.ref fd8)))
    (ld8 : K.lookup fd8 = some ⟨ocd8, odd8, .func (PySem.W.fnOf "_law_int" "_law_int" (defArgs tInt) (defBody tInt) (defScope tInt) .none kVd8 dcd8 pmd8 and8 cdd8 ctd8), sld8⟩) (cd8 : PySem.W.codeIn K cdd8 "_law_int" = true) (kd8 : PySem.W.keepIn K (.ref fd8) = true)
    (ad9 : PySem.W.nsIn K mainGlobals "_law_form" = some (some (.ref fd9)))
    (ld9 : K.lookup fd9 = some ⟨ocd9, odd9, .func (PySem.W.fnOf "_law_form" "_law_form" (defArgs tForm) (defBody tForm) (defScope tForm) .none kVd9 dcd9 pmd9 and9 cdd9 ctd9), sld9⟩) (cd9 : PySem.W.codeIn K cdd9 "_law_form" = true) (kd9 : PySem.W.keepIn K (.ref fd9) = true)
    (ad10 : PySem.W.nsIn K mainGlobals "_law_at" = some (some (.ref fd10)))
    (ld10 : K.lookup fd10 = some ⟨ocd10, odd10, .func (PySem.W.fnOf "_law_at" "_law_at" (defArgs tAt) (defBody tAt) (defScope tAt) .none kVd10 dcd10 pmd10 and10 cdd10 ctd10), sld10⟩) (cd10 : PySem.W.codeIn K cdd10 "_law_at" = true) (kd10 : PySem.W.keepIn K (.ref fd10) = true)
    (ad11 : PySem.W.nsIn K mainGlobals "_law_unrolled" = some (some (.ref fd11)))
    (ld11 : K.lookup fd11 = some ⟨ocd11, odd11, .func (PySem.W.fnOf "_law_unrolled" "_law_unrolled" (defArgs tUnr) (defBody tUnr) (defScope tUnr) .none kVd11 dcd11 pmd11 and11 cdd11 ctd11), sld11⟩) (cd11 : PySem.W.codeIn K cdd11 "_law_unrolled" = true) (kd11 : PySem.W.keepIn K (.ref fd11) = true)
    (ad12 : PySem.W.nsIn K mainGlobals "_law_same_told" = some (some (.ref fd12)))
    (ld12 : K.lookup fd12 = some ⟨ocd12, odd12, .func (PySem.W.fnOf "_law_same_told" "_law_same_told" (defArgs tSame) (defBody tSame) (defScope tSame) .none kVd12 dcd12 pmd12 and12 cdd12 ctd12), sld12⟩) (cd12 : PySem.W.codeIn K cdd12 "_law_same_told" = true) (kd12 : PySem.W.keepIn K (.ref fd12) = true)
    (ad13 : PySem.W.nsIn K mainGlobals "_law_bent_form" = some (some (.ref fd13)))
    (ld13 : K.lookup fd13 = some ⟨ocd13, odd13, .func (PySem.W.fnOf "_law_bent_form" "_law_bent_form" (defArgs tBent) (defBody tBent) (defScope tBent) .none kVd13 dcd13 pmd13 and13 cdd13 ctd13), sld13⟩) (cd13 : PySem.W.codeIn K cdd13 "_law_bent_form" = true) (kd13 : PySem.W.keepIn K (.ref fd13) = true)
    (ad14 : PySem.W.nsIn K mainGlobals "_law_paced" = some (some (.ref fd14)))
    (ld14 : K.lookup fd14 = some ⟨ocd14, odd14, .func (PySem.W.fnOf "_law_paced" "_law_paced" (defArgs tPaced) (defBody tPaced) (defScope tPaced) .none kVd14 dcd14 pmd14 and14 cdd14 ctd14), sld14⟩) (cd14 : PySem.W.codeIn K cdd14 "_law_paced" = true) (kd14 : PySem.W.keepIn K (.ref fd14) = true)
    (ad15 : PySem.W.nsIn K mainGlobals "_law_two" = some (some (.ref fd15)))
    (ld15 : K.lookup fd15 = some ⟨ocd15, odd15, .func (PySem.W.fnOf "_law_two" "_law_two" (defArgs tTwo) (defBody tTwo) (defScope tTwo) .none kVd15 dcd15 pmd15 and15 cdd15 ctd15), sld15⟩) (cd15 : PySem.W.codeIn K cdd15 "_law_two" = true) (kd15 : PySem.W.keepIn K (.ref fd15) = true)
    (ad16 : PySem.W.nsIn K mainGlobals "_law_right" = some (some (.ref fd16)))
    (ld16 : K.lookup fd16 = some ⟨ocd16, odd16, .func (PySem.W.fnOf "_law_right" "_law_right" (defArgs tRight) (defBody tRight) (defScope tRight) .none kVd16 dcd16 pmd16 and16 cdd16 ctd16), sld16⟩) (cd16 : PySem.W.codeIn K cdd16 "_law_right" = true) (kd16 : PySem.W.keepIn K (.ref fd16) = true)
    (ad17 : PySem.W.nsIn K mainGlobals "law" = some (some (.ref fd17)))
    (ld17 : K.lookup fd17 = some ⟨ocd17, odd17, .func (PySem.W.fnOf "law" "law" (defArgs tLaw) (defBody tLaw) (defScope tLaw) .none kVd17 dcd17 pmd17 and17 cdd17 ctd17), sld17⟩) (cd17 : PySem.W.codeIn K cdd17 "law" = true) (kd17 : PySem.W.keepIn K (.ref fd17) = true)
    (am0 : PySem.W.findIn K (.ref C) "__init__" = some (some (.ref fm0))) (im0 : PySem.W.isFn K (.ref fm0) = true)
    (lm0 : K.lookup fm0 = some ⟨ocm0, odm0, .func (PySem.W.fnOf "__init__" "Row.__init__" (defArgs tInit) (defBody tInit) (defScope tInit) .none kVm0 dcm0 pmm0 anm0 cdm0 ctm0), slm0⟩) (cm0 : PySem.W.codeIn K cdm0 "Row.__init__" = true) (km0 : PySem.W.keepIn K (.ref fm0) = true)
    (am1 : PySem.W.findIn K (.ref C) "__eq__" = some (some (.ref fm1))) (im1 : PySem.W.isFn K (.ref fm1) = true)
    (lm1 : K.lookup fm1 = some ⟨ocm1, odm1, .func (PySem.W.fnOf "__eq__" "Row.__eq__" (defArgs tEq) (defBody tEq) (defScope tEq) .none kVm1 dcm1 pmm1 anm1 cdm1 ctm1), slm1⟩) (cm1 : PySem.W.codeIn K cdm1 "Row.__eq__" = true) (km1 : PySem.W.keepIn K (.ref fm1) = true)
    (am2 : PySem.W.findIn K (.ref C) "__repr__" = some (some (.ref fm2))) (im2 : PySem.W.isFn K (.ref fm2) = true)
    (lm2 : K.lookup fm2 = some ⟨ocm2, odm2, .func (PySem.W.fnOf "__repr__" "Row.__repr__" (defArgs tRepr) (defBody tRepr) (defScope tRepr) .none kVm2 dcm2 pmm2 anm2 cdm2 ctm2), slm2⟩) (cm2 : PySem.W.codeIn K cdm2 "Row.__repr__" = true) (km2 : PySem.W.keepIn K (.ref fm2) = true)
    (ap0 : PySem.W.findIn K (.ref C) "early" = some (some (.ref op0))) (gp0 : PySem.W.specialIn K (.ref op0) "__get__" = some (some (.builtin "property.__get__"))) (tp0 : PySem.W.takesIn K (.ref op0) = some true) (ep0 : PySem.W.recIn K op0 "property" = some (.ref fp0 :: rp0))
    (lp0 : K.lookup fp0 = some ⟨ocp0, odp0, .func (PySem.W.fnOf "early" "Row.early" (defArgs tEarly) (defBody tEarly) (defScope tEarly) .none kVp0 dcp0 pmp0 anp0 cdp0 ctp0), slp0⟩) (cp0 : PySem.W.codeIn K cdp0 "Row.early" = true) (kp0 : PySem.W.keepIn K (.ref fp0) = true)
    (ap1 : PySem.W.findIn K (.ref C) "again" = some (some (.ref op1))) (gp1 : PySem.W.specialIn K (.ref op1) "__get__" = some (some (.builtin "property.__get__"))) (tp1 : PySem.W.takesIn K (.ref op1) = some true) (ep1 : PySem.W.recIn K op1 "property" = some (.ref fp1 :: rp1))
    (lp1 : K.lookup fp1 = some ⟨ocp1, odp1, .func (PySem.W.fnOf "again" "Row.again" (defArgs tAgain) (defBody tAgain) (defScope tAgain) .none kVp1 dcp1 pmp1 anp1 cdp1 ctp1), slp1⟩) (cp1 : PySem.W.codeIn K cdp1 "Row.again" = true) (kp1 : PySem.W.keepIn K (.ref fp1) = true)
    (ap2 : PySem.W.findIn K (.ref C) "rise" = some (some (.ref op2))) (gp2 : PySem.W.specialIn K (.ref op2) "__get__" = some (some (.builtin "property.__get__"))) (tp2 : PySem.W.takesIn K (.ref op2) = some true) (ep2 : PySem.W.recIn K op2 "property" = some (.ref fp2 :: rp2))
    (lp2 : K.lookup fp2 = some ⟨ocp2, odp2, .func (PySem.W.fnOf "rise" "Row.rise" (defArgs tRise) (defBody tRise) (defScope tRise) .none kVp2 dcp2 pmp2 anp2 cdp2 ctp2), slp2⟩) (cp2 : PySem.W.codeIn K cdp2 "Row.rise" = true) (kp2 : PySem.W.keepIn K (.ref fp2) = true)
    (ap3 : PySem.W.findIn K (.ref C) "pace" = some (some (.ref op3))) (gp3 : PySem.W.specialIn K (.ref op3) "__get__" = some (some (.builtin "property.__get__"))) (tp3 : PySem.W.takesIn K (.ref op3) = some true) (ep3 : PySem.W.recIn K op3 "property" = some (.ref fp3 :: rp3))
    (lp3 : K.lookup fp3 = some ⟨ocp3, odp3, .func (PySem.W.fnOf "pace" "Row.pace" (defArgs tPace) (defBody tPace) (defScope tPace) .none kVp3 dcp3 pmp3 anp3 cdp3 ctp3), slp3⟩) (cp3 : PySem.W.codeIn K cdp3 "Row.pace" = true) (kp3 : PySem.W.keepIn K (.ref fp3) = true)
    (pg : PySem.W.plainGet K C Str.empty = true)
    (hd : PySem.W.hasDictIn K C = true)
    (po : PySem.W.plainOver K C = true)
    (sa : PySem.W.findIn K (.ref C) "__setattr__" = some (some (.builtin "object.__setattr__")))
    (mk : PySem.W.makesIn K C = true)
    (kc : PySem.W.keepIn K (.ref C) = true)
    (nH : PySem.W.findIn K (.ref C) "head" = some none)
    (nC : PySem.W.findIn K (.ref C) "cycle" = some none)
    (nS : PySem.W.findIn K (.ref C) "step" = some none)
    (ne : PySem.W.findIn K (.ref C) "__ne__" = some (some (.builtin "object.__ne__")))
    (mo : PySem.W.mroIn K C (.type "object") = some true)
    (mn : PySem.W.mroIn K C (.type "NoneType") = some false)
    (mi : PySem.W.mroIn K C (.type "int") = some false)
    (ms : PySem.W.mroIn K C (.type "str") = some false)
    (mt : PySem.W.mroIn K C (.type "tuple") = some false)
    (ml : PySem.W.mroIn K C (.type "list") = some false)
    (x1 : PySem.W.findIn K (.ref C) "__class__" = some (some (.builtin "object.__class__")))
    (x2 : PySem.W.specialIn K (.builtin "object.__class__") "__get__" = some (some (.builtin "getset_descriptor.__get__")))
    (x3 : PySem.W.takesIn K (.builtin "object.__class__") = some true)
    (x4 : PySem.W.isClsIn K C = true)
    (x5 : PySem.W.typeIn K (.ref C) = some (.type "type"))
    (z0 : PySem.W.nsIn K mainGlobals "len" = some none)
    (z1 : PySem.W.nsIn K mainGlobals "isinstance" = some none)
    (z2 : PySem.W.nsIn K mainGlobals "int" = some none)
    (z3 : PySem.W.nsIn K mainGlobals "bool" = some none)
    (z4 : PySem.W.nsIn K mainGlobals "tuple" = some none)
    (z5 : PySem.W.nsIn K mainGlobals "list" = some none)
    (z6 : PySem.W.nsIn K mainGlobals "all" = some none)
    (z7 : PySem.W.nsIn K mainGlobals "any" = some none)
    (z8 : PySem.W.nsIn K mainGlobals "abs" = some none)
    (z9 : PySem.W.nsIn K mainGlobals "divmod" = some none)
    (z10 : PySem.W.nsIn K mainGlobals "range" = some none)
    (z11 : PySem.W.nsIn K mainGlobals "max" = some none)
    (z12 : PySem.W.nsIn K mainGlobals "min" = some none)
    (z13 : PySem.W.nsIn K mainGlobals "repr" = some none) :
    ∃ fd : FuncData, (∀ (s : Shared) (v : Value), BindsTo s fd ⟨[v], []⟩ [("_law_script", v)]) ∧ ∀ base : Heap, K.In base → base.Ns mainGlobals mg → FnG l.prog w K mg base CX0 6 fa fd ["_law_script"] (spLaw K) := by
  have e := hfa.symm.trans (PySem.W.mg_of X G ad17)
  cases e
  have T : Txt K mg C := { cl := ⟨pg, hd, po, sa⟩, nH := nH, nC := nC, nS := nS, mgR := PySem.W.mg_of X G aC, cls_ := x1, get_ := x2, tak_ := x3, obj_ := mo, cin_ := x4, cty_ := x5, len := PySem.W.mg_none_of X G z0, isinstance := PySem.W.mg_none_of X G z1, int := PySem.W.mg_none_of X G z2, bool := PySem.W.mg_none_of X G z3, tuple := PySem.W.mg_none_of X G z4, list := PySem.W.mg_none_of X G z5, all := PySem.W.mg_none_of X G z6, any := PySem.W.mg_none_of X G z7, abs := PySem.W.mg_none_of X G z8, divmod := PySem.W.mg_none_of X G z9, range := PySem.W.mg_none_of X G z10, max := PySem.W.mg_none_of X G z11, min := PySem.W.mg_none_of X G z12, repr := PySem.W.mg_none_of X G z13 }
  have Fd0 := fun_mk (st := tIsInt) ld0 cd0 kd0
  have bd0 := Fd0.binds (ps := ["value"]) fun _ _ _ _ _ _ us hl => match us, hl with | [_], _ => rfl
  have Fd1 := fun_mk (st := tCd) ld1 cd1 kd1
  have bd1 := Fd1.binds (ps := ["one", "other"]) fun _ _ _ _ _ _ us hl => match us, hl with | [_, _], _ => rfl
  have Fd2 := fun_mk (st := tFrac) ld2 cd2 kd2
  have bd2 := Fd2.binds (ps := ["top", "bottom"]) fun _ _ _ _ _ _ us hl => match us, hl with | [_, _], _ => rfl
  have Fd3 := fun_mk (st := tChk) ld3 cd3 kd3
  have bd3 := Fd3.binds (ps := ["value", "least"]) fun _ _ _ _ _ _ us hl => match us, hl with | [_, _], _ => rfl
  have Fd4 := fun_mk (st := tGoes) ld4 cd4 kd4
  have bd4 := Fd4.binds (ps := ["again", "rise", "size"]) fun _ _ _ _ _ _ us hl => match us, hl with | [_, _, _], _ => rfl
  have Fd5 := fun_mk (st := tCell) ld5 cd5 kd5
  have bd5 := Fd5.binds (ps := ["_law_script", "_law_k"]) fun _ _ _ _ _ _ us hl => match us, hl with | [_, _], _ => rfl
  have Fd6 := fun_mk (st := tPurse) ld6 cd6 kd6
  have bd6 := Fd6.binds (ps := ["_law_cell_here"]) fun _ _ _ _ _ _ us hl => match us, hl with | [_], _ => rfl
  have Fd7 := fun_mk (st := tTake) ld7 cd7 kd7
  have bd7 := Fd7.binds (ps := ["_law_purse_here", "_law_many"]) fun _ _ _ _ _ _ us hl => match us, hl with | [_, _], _ => rfl
  have Fd8 := fun_mk (st := tInt) ld8 cd8 kd8
  have bd8 := Fd8.binds (ps := ["_law_purse_here"]) fun _ _ _ _ _ _ us hl => match us, hl with | [_], _ => rfl
  have Fd9 := fun_mk (st := tForm) ld9 cd9 kd9
  have bd9 := Fd9.binds (ps := ["_law_purse_here"]) fun _ _ _ _ _ _ us hl => match us, hl with | [_], _ => rfl
  have Fd10 := fun_mk (st := tAt) ld10 cd10 kd10
  have bd10 := Fd10.binds (ps := ["_law_form_here", "_law_at_here"]) fun _ _ _ _ _ _ us hl => match us, hl with | [_, _], _ => rfl
  have Fd11 := fun_mk (st := tUnr) ld11 cd11 kd11
  have bd11 := Fd11.binds (ps := ["_law_purse_here", "_law_form_here"]) fun _ _ _ _ _ _ us hl => match us, hl with | [_, _], _ => rfl
  have Fd12 := fun_mk (st := tSame) ld12 cd12 kd12
  have bd12 := Fd12.binds (ps := ["_law_one_form", "_law_two_here"]) fun _ _ _ _ _ _ us hl => match us, hl with | [_, _], _ => rfl
  have Fd13 := fun_mk (st := tBent) ld13 cd13 kd13
  have bd13 := Fd13.binds (ps := ["_law_purse_here", "_law_form_here"]) fun _ _ _ _ _ _ us hl => match us, hl with | [_, _], _ => rfl
  have Fd14 := fun_mk (st := tPaced) ld14 cd14 kd14
  have bd14 := Fd14.binds (ps := ["_law_told", "_law_form_here"]) fun _ _ _ _ _ _ us hl => match us, hl with | [_, _], _ => rfl
  have Fd15 := fun_mk (st := tTwo) ld15 cd15 kd15
  have bd15 := Fd15.binds (ps := ["_law_purse_here"]) fun _ _ _ _ _ _ us hl => match us, hl with | [_], _ => rfl
  have Fd16 := fun_mk (st := tRight) ld16 cd16 kd16
  have bd16 := Fd16.binds (ps := ["_law_purse_here"]) fun _ _ _ _ _ _ us hl => match us, hl with | [_], _ => rfl
  have Fd17 := fun_mk (st := tLaw) ld17 cd17 kd17
  have bd17 := Fd17.binds (ps := ["_law_script"]) fun _ _ _ _ _ _ us hl => match us, hl with | [_], _ => rfl
  have Fm0 := fun_mk (st := tInit) lm0 cm0 km0
  have bm0 := Fm0.binds (ps := ["self", "early", "again", "rise"]) fun _ _ _ _ _ _ us hl => match us, hl with | [_, _, _, _], _ => rfl
  have Fm1 := fun_mk (st := tEq) lm1 cm1 km1
  have bm1 := Fm1.binds (ps := ["self", "other"]) fun _ _ _ _ _ _ us hl => match us, hl with | [_, _], _ => rfl
  have Fm2 := fun_mk (st := tRepr) lm2 cm2 km2
  have bm2 := Fm2.binds (ps := ["self"]) fun _ _ _ _ _ _ us hl => match us, hl with | [_], _ => rfl
  have Fp0 := fun_mk (st := tEarly) lp0 cp0 kp0
  have bp0 := Fp0.binds (ps := ["self"]) fun _ _ _ _ _ _ us hl => match us, hl with | [_], _ => rfl
  have Fp1 := fun_mk (st := tAgain) lp1 cp1 kp1
  have bp1 := Fp1.binds (ps := ["self"]) fun _ _ _ _ _ _ us hl => match us, hl with | [_], _ => rfl
  have Fp2 := fun_mk (st := tRise) lp2 cp2 kp2
  have bp2 := Fp2.binds (ps := ["self"]) fun _ _ _ _ _ _ us hl => match us, hl with | [_], _ => rfl
  have Fp3 := fun_mk (st := tPace) lp3 cp3 kp3
  have bp3 := Fp3.binds (ps := ["self"]) fun _ _ _ _ _ _ us hl => match us, hl with | [_], _ => rfl
  refine ⟨_, fun s v => .of_eq (show bindArgs (PySem.W.fnOf "law" "law" (defArgs tLaw) (defBody tLaw) (defScope tLaw) .none kVd17 dcd17 pmd17 and17 cdd17 ctd17) ⟨[v], []⟩ = _ from rfl), fun base _ _ => ?_⟩
  have DI : Def l.prog w K mg base 1 "is_integer" ["value"] spIsInt fd0 _ := ⟨ok_isint Fd0 T, PySem.W.mg_of X G ad0, kd0, bd0⟩
  have DD : Def l.prog w K mg base 1 "common_divisor" ["one", "other"] spCd fd1 _ := ⟨ok_cd Fd1, PySem.W.mg_of X G ad1, kd1, bd1⟩
  have DF : Def l.prog w K mg base 2 "fraction" ["top", "bottom"] spFrac fd2 _ := ⟨ok_frac Fd2 T DD, PySem.W.mg_of X G ad2, kd2, bd2⟩
  have DC : Def l.prog w K mg base 2 "check_integers" ["value", "least"] (spChk K) fd3 _ := ⟨ok_chk Fd3 T DI, PySem.W.mg_of X G ad3, kd3, bd3⟩
  have DG : Def l.prog w K mg base 1 "goes_on" ["again", "rise", "size"] (spGoes K) fd4 _ := ⟨ok_goes Fd4 T, PySem.W.mg_of X G ad4, kd4, bd4⟩
  have Dcell : Def l.prog w K mg base 1 "_law_cell" ["_law_script", "_law_k"] (spCellK K) fd5 _ := ⟨ok_cell Fd5 T, PySem.W.mg_of X G ad5, kd5, bd5⟩
  have Dpurse : Def l.prog w K mg base 1 "_law_purse" ["_law_cell_here"] spPurse fd6 _ := ⟨ok_purse Fd6 T, PySem.W.mg_of X G ad6, kd6, bd6⟩
  have Dtake : Def l.prog w K mg base 1 "_law_take" ["_law_purse_here", "_law_many"] spTake fd7 _ := ⟨ok_take Fd7 T, PySem.W.mg_of X G ad7, kd7, bd7⟩
  have Dint : Def l.prog w K mg base 2 "_law_int" ["_law_purse_here"] spInt fd8 _ := ⟨ok_int Fd8 Dtake, PySem.W.mg_of X G ad8, kd8, bd8⟩
  have Dform : Def l.prog w K mg base 3 "_law_form" ["_law_purse_here"] (spForm K) fd9 _ := ⟨ok_form Fd9 T Dtake Dint, PySem.W.mg_of X G ad9, kd9, bd9⟩
  have Dat : Def l.prog w K mg base 1 "_law_at" ["_law_form_here", "_law_at_here"] (spAt K) fd10 _ := ⟨ok_at Fd10 T, PySem.W.mg_of X G ad10, kd10, bd10⟩
  have Dunr : Def l.prog w K mg base 2 "_law_unrolled" ["_law_purse_here", "_law_form_here"] (spUnr K) fd11 _ := ⟨ok_unr Fd11 T Dtake Dat, PySem.W.mg_of X G ad11, kd11, bd11⟩
  have Dsame : Def l.prog w K mg base 2 "_law_same_told" ["_law_one_form", "_law_two_here"] (spSame K) fd12 _ := ⟨ok_same Fd12 T Dat, PySem.W.mg_of X G ad12, kd12, bd12⟩
  have Dbent : Def l.prog w K mg base 2 "_law_bent_form" ["_law_purse_here", "_law_form_here"] (spBent K) fd13 _ := ⟨ok_bent Fd13 T Dtake, PySem.W.mg_of X G ad13, kd13, bd13⟩
  have Dpaced : Def l.prog w K mg base 1 "_law_paced" ["_law_told", "_law_form_here"] (spPaced K) fd14 _ := ⟨ok_paced Fd14 T, PySem.W.mg_of X G ad14, kd14, bd14⟩
  have Dtwo : Def l.prog w K mg base 4 "_law_two" ["_law_purse_here"] (spTwo K) fd15 _ := ⟨ok_two Fd15 Dtake Dform Dunr Dbent, PySem.W.mg_of X G ad15, kd15, bd15⟩
  have R : RowTxt l.prog w K mg base C :=
    { fI := fm0, fQ := fm1, fR := fm2, fE := fp0, fA := fp1, fS := fp2, fP := fp3, dI := _, dQ := _, dR := _, dE := _, dA := _, dS := _, dP := _, pE := op0, pA := op1, pS := op2, pP := op3,
      mki := ⟨mk, am0, im0, kc⟩, okI := ok_init Fm0 T DI DC DG, bI := bm0, oq := ⟨am1, im1, ne, mo, mn, mi, ms, mt, ml⟩, okQ := ok_eq Fm1 T, bQ := bm1, orr := ⟨am2, im2⟩, okR := ok_repr Fm2 T, bR := bm2,
      prE := ⟨ap0, gp0, tp0, _, ep0⟩, okE := ok_early Fp0 T, bE := bp0, prA := ⟨ap1, gp1, tp1, _, ep1⟩, okA := ok_again Fp1 T, bA := bp1,
      prS := ⟨ap2, gp2, tp2, _, ep2⟩, okS := ok_rise Fp2 T, bS := bp2, prP := ⟨ap3, gp3, tp3, _, ep3⟩, okP := ok_pace Fp3 T DF, bP := bp3 }
  exact ok_law Fd17 T Dcell Dpurse (ok_right Fd16 T R Dtwo Dsame Dpaced) (PySem.W.mg_of X G ad16) kd16 bd16
end L2.K18

open PySem PySem.W PyProof.Rows in
set_option maxRecDepth 100000 in
set_option maxHeartbeats 0 in
theorem PySem.Challenge.cw_linecents_k18_whole_rows_alike_holds : PySem.Challenge.rw_linecents_k18_whole_rows_alike.Holds := by
  w_on; o_law; k_head; (case hw => w_witness2)
  k_fill
  refine L2.K18.walk_ofG (l := PySem.Challenge.rw_linecents_k18_whole_rows_alike) (n := 63) (k := 6) (x := "_law_script") (sp := L2.K18.spLaw) rfl (by decide) rfl ⟨rfl, by decide, by decide⟩ (fun w h Y => PySem.W.kIn_of Y) ?F (fun _ _ a ns hl _ hS => ⟨a, ns, rfl, hS, hl, fun _ => rfl⟩)
  case F =>
    intro w mg fa h KX G hmg
    refine' L2.K18.all_mk (l := PySem.Challenge.rw_linecents_k18_whole_rows_alike) KX G hmg ?aC ?ad0 ?ld0 ?cd0 ?kd0 ?ad1 ?ld1 ?cd1 ?kd1 ?ad2 ?ld2 ?cd2 ?kd2 ?ad3 ?ld3 ?cd3 ?kd3 ?ad4 ?ld4 ?cd4 ?kd4 ?ad5 ?ld5 ?cd5 ?kd5 ?ad6 ?ld6 ?cd6 ?kd6 ?ad7 ?ld7 ?cd7 ?kd7 ?ad8 ?ld8 ?cd8 ?kd8 ?ad9 ?ld9 ?cd9 ?kd9 ?ad10 ?ld10 ?cd10 ?kd10 ?ad11 ?ld11 ?cd11 ?kd11 ?ad12 ?ld12 ?cd12 ?kd12 ?ad13 ?ld13 ?cd13 ?kd13 ?ad14 ?ld14 ?cd14 ?kd14 ?ad15 ?ld15 ?cd15 ?kd15 ?ad16 ?ld16 ?cd16 ?kd16 ?ad17 ?ld17 ?cd17 ?kd17 ?am0 ?im0 ?lm0 ?cm0 ?km0 ?am1 ?im1 ?lm1 ?cm1 ?km1 ?am2 ?im2 ?lm2 ?cm2 ?km2 ?ap0 ?gp0 ?tp0 ?ep0 ?lp0 ?cp0 ?kp0 ?ap1 ?gp1 ?tp1 ?ep1 ?lp1 ?cp1 ?kp1 ?ap2 ?gp2 ?tp2 ?ep2 ?lp2 ?cp2 ?kp2 ?ap3 ?gp3 ?tp3 ?ep3 ?lp3 ?cp3 ?kp3 ?pg ?hd ?po ?sa ?mk ?kc ?nH ?nC ?nS ?ne ?mo ?mn ?mi ?ms ?mt ?ml ?x1 ?x2 ?x3 ?x4 ?x5 ?z0 ?z1 ?z2 ?z3 ?z4 ?z5 ?z6 ?z7 ?z8 ?z9 ?z10 ?z11 ?z12 ?z13
    (case aC => k_is)
    (case ad0 => k_is)
    (case ld0 => k_is)
    (case cd0 => k_is)
    (case kd0 => k_is)
    (case ad1 => k_is)
    (case ld1 => k_is)
    (case cd1 => k_is)
    (case kd1 => k_is)
    (case ad2 => k_is)
    (case ld2 => k_is)
    (case cd2 => k_is)
    (case kd2 => k_is)
    (case ad3 => k_is)
    (case ld3 => k_is)
    (case cd3 => k_is)
    (case kd3 => k_is)
    (case ad4 => k_is)
    (case ld4 => k_is)
    (case cd4 => k_is)
    (case kd4 => k_is)
    (case ad5 => k_is)
    (case ld5 => k_is)
    (case cd5 => k_is)
    (case kd5 => k_is)
    (case ad6 => k_is)
    (case ld6 => k_is)
    (case cd6 => k_is)
    (case kd6 => k_is)
    (case ad7 => k_is)
    (case ld7 => k_is)
    (case cd7 => k_is)
    (case kd7 => k_is)
    (case ad8 => k_is)
    (case ld8 => k_is)
    (case cd8 => k_is)
    (case kd8 => k_is)
    (case ad9 => k_is)
    (case ld9 => k_is)
    (case cd9 => k_is)
    (case kd9 => k_is)
    (case ad10 => k_is)
    (case ld10 => k_is)
    (case cd10 => k_is)
    (case kd10 => k_is)
    (case ad11 => k_is)
    (case ld11 => k_is)
    (case cd11 => k_is)
    (case kd11 => k_is)
    (case ad12 => k_is)
    (case ld12 => k_is)
    (case cd12 => k_is)
    (case kd12 => k_is)
    (case ad13 => k_is)
    (case ld13 => k_is)
    (case cd13 => k_is)
    (case kd13 => k_is)
    (case ad14 => k_is)
    (case ld14 => k_is)
    (case cd14 => k_is)
    (case kd14 => k_is)
    (case ad15 => k_is)
    (case ld15 => k_is)
    (case cd15 => k_is)
    (case kd15 => k_is)
    (case ad16 => k_is)
    (case ld16 => k_is)
    (case cd16 => k_is)
    (case kd16 => k_is)
    (case ad17 => k_is)
    (case ld17 => k_is)
    (case cd17 => k_is)
    (case kd17 => k_is)
    (case am0 => k_is)
    (case im0 => k_is)
    (case lm0 => k_is)
    (case cm0 => k_is)
    (case km0 => k_is)
    (case am1 => k_is)
    (case im1 => k_is)
    (case lm1 => k_is)
    (case cm1 => k_is)
    (case km1 => k_is)
    (case am2 => k_is)
    (case im2 => k_is)
    (case lm2 => k_is)
    (case cm2 => k_is)
    (case km2 => k_is)
    (case ap0 => k_is)
    (case gp0 => k_is)
    (case tp0 => k_is)
    (case ep0 => k_is)
    (case lp0 => k_is)
    (case cp0 => k_is)
    (case kp0 => k_is)
    (case ap1 => k_is)
    (case gp1 => k_is)
    (case tp1 => k_is)
    (case ep1 => k_is)
    (case lp1 => k_is)
    (case cp1 => k_is)
    (case kp1 => k_is)
    (case ap2 => k_is)
    (case gp2 => k_is)
    (case tp2 => k_is)
    (case ep2 => k_is)
    (case lp2 => k_is)
    (case cp2 => k_is)
    (case kp2 => k_is)
    (case ap3 => k_is)
    (case gp3 => k_is)
    (case tp3 => k_is)
    (case ep3 => k_is)
    (case lp3 => k_is)
    (case cp3 => k_is)
    (case kp3 => k_is)
    (case pg => k_is)
    (case hd => k_is)
    (case po => k_is)
    (case sa => k_is)
    (case mk => k_is)
    (case kc => k_is)
    (case nH => k_is)
    (case nC => k_is)
    (case nS => k_is)
    (case ne => k_is)
    (case mo => k_is)
    (case mn => k_is)
    (case mi => k_is)
    (case ms => k_is)
    (case mt => k_is)
    (case ml => k_is)
    (case x1 => k_is)
    (case x2 => k_is)
    (case x3 => k_is)
    (case x4 => k_is)
    (case x5 => k_is)
    (case z0 => k_is)
    (case z1 => k_is)
    (case z2 => k_is)
    (case z3 => k_is)
    (case z4 => k_is)
    (case z5 => k_is)
    (case z6 => k_is)
    (case z7 => k_is)
    (case z8 => k_is)
    (case z9 => k_is)
    (case z10 => k_is)
    (case z11 => k_is)
    (case z12 => k_is)
    (case z13 => k_is)
