import PyProof.Rows.All
import Wide.All
import OpenK.AllK
import Wide.FinOn
import Lean
import HandS.ForMost
import HandS.Property
import HandS.Head0
import HandS.Head1
import HandS.Head2
import HandS.HeadEnd
import HandS.HeadHook1
import HandS.HeadHook2
import PySem.Challenge.RW_burstapart_k77_whole_tables_by_what_was
import KE.GoesMore
import KE.GoesEnum
import KE.DataMinMax
import HandS.Star
import HandS.SetBool
import HandS.Strs
import HandS.SetKeys
import HandS.Walk
import HandS.Conv
import HandS.Style
import HandS.TupAny
import HandS.TupMul
import HandS.IsInst
import HandS.Deep
import HandS.FStr
import HandS.Codes
import HandS.Ends
import HandS.More
import HandS.Words
import HandS.WordsExc
import HandS.Defaults
section
/-! Tables as lists of ints: the plain mathematics of what was seen. No program here. -/
set_option autoImplicit false
namespace Ba

/-! ### lists of numbers below a bound -/
theorem le_of_all : ∀ (n : Nat) (l : List Nat), (∀ r, r < n → r ∈ l) → n ≤ l.length
  | 0, _, _ => Nat.zero_le _
  | n + 1, l, h => by
    have hm : n ∈ l := h n (Nat.lt_succ_self n)
    have ih := le_of_all n (l.erase n) fun r hr => (List.mem_erase_of_ne (by omega)).mpr (h r (by omega))
    rw [List.length_erase_of_mem hm] at ih
    have : 0 < l.length := List.length_pos_of_mem hm
    omega
theorem le_of_below : ∀ (n : Nat) (l : List Nat), l.Nodup → (∀ r, r ∈ l → r < n) → l.length ≤ n
  | 0, l, _, h => by
    cases l with
    | nil => exact Nat.le_refl _
    | cons a r => exact absurd (h a List.mem_cons_self) (Nat.not_lt_zero _)
  | n + 1, l, nd, h => by
    by_cases hm : n ∈ l
    · have ih := le_of_below n (l.erase n) (nd.erase n) fun r hr => by
        have h1 := h r (List.mem_of_mem_erase hr)
        have h2 : r ≠ n := fun e => by
          subst e
          exact absurd hr (nd.not_mem_erase)
        omega
      rw [List.length_erase_of_mem hm] at ih
      omega
    · have ih := le_of_below n l nd fun r hr => by
        have h1 := h r hr
        have h2 : r ≠ n := fun e => hm (e ▸ hr)
        omega
      omega
/-- a Nodup list of exactly the numbers below n has n items -/
theorem length_of_exact {n : Nat} {l : List Nat} (nd : l.Nodup) (h : ∀ r, r ∈ l ↔ r < n) : l.length = n :=
  Nat.le_antisymm (le_of_below n l nd fun r hr => (h r).mp hr) (le_of_all n l fun r hr => (h r).mpr hr)

/-! ### tables -/
/-- the hold of thing n -/
def hold (t : List Int) (n : Int) : Int := t.getD (n % (t.length : Int)).toNat 0
def out (t : List Int) (n : Int) : Int := n + hold t n
structure IsTab (t : List Int) : Prop where
  pos : 1 ≤ t.length
  len : t.length ≤ 24
  rng : ∀ h ∈ t, 0 ≤ h ∧ h ≤ 60
  inj : ∀ (i j : Nat), i < t.length → j < t.length → ((i : Int) + t.getD i 0) % (t.length : Int) = ((j : Int) + t.getD j 0) % (t.length : Int) → i = j
def fits (t : List Int) (seen : List (Int × Int)) : Prop := ∀ p ∈ seen, out t p.1 = p.2

theorem getD_mem {t : List Int} {i : Nat} (h : i < t.length) : t.getD i 0 ∈ t := by
  rw [List.getD_eq_getElem?_getD, List.getElem?_eq_getElem h]
  exact List.getElem_mem h
theorem IsTab.at {t : List Int} (T : IsTab t) {i : Nat} (h : i < t.length) : 0 ≤ t.getD i 0 ∧ t.getD i 0 ≤ 60 := T.rng _ (getD_mem h)
theorem mod_lt {t : List Int} (h : 1 ≤ t.length) (n : Int) : (n % (t.length : Int)).toNat < t.length := by
  have h1 := Int.emod_nonneg n (show (t.length : Int) ≠ 0 by omega)
  have h2 := Int.emod_lt_of_pos n (show (0 : Int) < t.length by omega)
  omega
theorem IsTab.hrng {t : List Int} (T : IsTab t) (n : Int) : 0 ≤ hold t n ∧ hold t n ≤ 60 := T.at (mod_lt T.pos n)
theorem hold_nat {t : List Int} {i : Nat} (h : i < t.length) : hold t (i : Int) = t.getD i 0 := by
  unfold hold
  rw [Int.emod_eq_of_lt (by omega) (by omega)]
  rfl
theorem hold_mod {t : List Int} {a b : Int} (h : a % (t.length : Int) = b % (t.length : Int)) : hold t a = hold t b := by
  unfold hold; rw [h]
theorem hold_add (t : List Int) (a : Int) : hold t (a + t.length) = hold t a := hold_mod (by simp)
/-- what comes out is one to one -/
theorem IsTab.out_mod {t : List Int} (T : IsTab t) {a b : Int} (h : out t a % (t.length : Int) = out t b % (t.length : Int)) : a % (t.length : Int) = b % (t.length : Int) := by
  have p : (0 : Int) < t.length := by have := T.pos; omega
  have ha := mod_lt T.pos a
  have hb := mod_lt T.pos b
  have na := Int.emod_nonneg a (show (t.length : Int) ≠ 0 by omega)
  have nb := Int.emod_nonneg b (show (t.length : Int) ≠ 0 by omega)
  have key := T.inj _ _ ha hb (by
    have e1 : (((a % (t.length : Int)).toNat : Nat) : Int) = a % (t.length : Int) := Int.toNat_of_nonneg na
    have e2 : (((b % (t.length : Int)).toNat : Nat) : Int) = b % (t.length : Int) := Int.toNat_of_nonneg nb
    rw [e1, e2]
    have h' : (a + hold t a) % (t.length : Int) = (b + hold t b) % (t.length : Int) := h
    rw [Int.emod_add_emod, Int.emod_add_emod]
    exact h')
  omega
theorem IsTab.out_inj {t : List Int} (T : IsTab t) {a b : Int} (h : out t a = out t b) : a = b := by
  have e := T.out_mod (a := a) (b := b) (by rw [h])
  have e2 := hold_mod e
  unfold out at h
  omega

/-! ### the shortest table -/
/-- many copies of t -/
def rep (t : List Int) (n : Nat) : List Int := (List.replicate n t).flatten
theorem rep_length (t : List Int) (n : Nat) : (rep t n).length = n * t.length := by
  unfold rep
  rw [List.length_flatten, List.map_replicate, List.sum_replicate_nat]
theorem rep_succ (t : List Int) (n : Nat) : rep t (n + 1) = t ++ rep t n := by
  unfold rep
  rw [List.replicate_succ, List.flatten_cons]
theorem rep_getD (t : List Int) : ∀ (n i : Nat), i < n * t.length → (rep t n).getD i 0 = t.getD (i % t.length) 0
  | 0, i, h => by simp at h
  | n + 1, i, h => by
    rw [rep_succ, List.getD_eq_getElem?_getD]
    by_cases hi : i < t.length
    · rw [List.getElem?_append_left hi, Nat.mod_eq_of_lt hi, ← List.getD_eq_getElem?_getD]
    · rw [List.getElem?_append_right (by omega), ← List.getD_eq_getElem?_getD, rep_getD t n (i - t.length) (by rw [Nat.succ_mul] at h; omega)]
      congr 1
      exact (Nat.mod_eq_sub_mod (by omega)).symm
theorem ext_getD {a b : List Int} (h : a.length = b.length) (e : ∀ i, i < a.length → a.getD i 0 = b.getD i 0) : a = b := by
  apply List.ext_getElem h
  intro i h1 h2
  have := e i h1
  rw [List.getD_eq_getElem?_getD, List.getD_eq_getElem?_getD, List.getElem?_eq_getElem h1, List.getElem?_eq_getElem h2] at this
  simpa using this
theorem take_getD (t : List Int) {g i : Nat} (h : i < g) : (t.take g).getD i 0 = t.getD i 0 := by
  rw [List.getD_eq_getElem?_getD, List.getD_eq_getElem?_getD, List.getElem?_take, if_pos h]
/-- g is a length by which t goes on alike -/
def Per (t : List Int) (g : Nat) : Prop := t.length % g = 0 ∧ rep (t.take g) (t.length / g) = t
theorem Per.heq {t : List Int} {g : Nat} (hg : 1 ≤ g) (hl : g ≤ t.length) (h : Per t g) (n : Int) : hold (t.take g) n = hold t n := by
  have lg : (t.take g).length = g := by rw [List.length_take]; omega
  have ln : t.length = (t.length / g) * g := by
    have := Nat.div_add_mod t.length g
    rw [h.1, Nat.mul_comm] at this
    omega
  have hm := mod_lt (t := t) (by omega) n
  have e1 : t.getD (n % (t.length : Int)).toNat 0 = (t.take g).getD ((n % (t.length : Int)).toNat % g) 0 := by
    have z := rep_getD (t.take g) (t.length / g) (n % (t.length : Int)).toNat (by rw [lg, ← ln]; exact hm)
    rw [h.2, lg] at z
    exact z
  unfold hold
  rw [e1, lg]
  congr 1
  have nn := Int.emod_nonneg n (show (t.length : Int) ≠ 0 by omega)
  have dv : ((g : Int)) ∣ (t.length : Int) := by
    rw [ln]; exact ⟨((t.length / g : Nat) : Int), by push_cast; rw [Int.mul_comm]⟩
  have e2 : n % (t.length : Int) % (g : Int) = n % (g : Int) := Int.emod_emod_of_dvd n dv
  have e3 : (((n % (t.length : Int)).toNat % g : Nat) : Int) = (n % (t.length : Int)) % (g : Int) := by
    rw [Int.natCast_emod, Int.toNat_of_nonneg nn]
  rw [e2] at e3
  omega
/-- alike holds make a length by which t goes on alike -/
theorem Per.of {t : List Int} {g : Nat} (hg : 1 ≤ g) (hl : g ≤ t.length) (hd : t.length % g = 0) (h : ∀ i : Nat, i < t.length → t.getD i 0 = t.getD (i % g) 0) : Per t g := by
  have lg : (t.take g).length = g := by rw [List.length_take]; omega
  have ln : t.length = (t.length / g) * g := by
    have := Nat.div_add_mod t.length g
    rw [hd, Nat.mul_comm] at this
    omega
  refine ⟨hd, ext_getD (by rw [rep_length, lg]; omega) fun i hi => ?_⟩
  have hi' : i < t.length := by rw [rep_length, lg] at hi; omega
  rw [rep_getD _ _ _ (by rw [lg]; omega), lg, take_getD _ (Nat.mod_lt _ (by omega)), ← h i hi']
theorem IsTab.take {t : List Int} (T : IsTab t) {g : Nat} (hg : 1 ≤ g) (hl : g ≤ t.length) (h : Per t g) : IsTab (t.take g) := by
  have lg : (t.take g).length = g := by rw [List.length_take]; omega
  refine ⟨by omega, by have := T.len; omega, fun x hx => T.rng x (List.mem_of_mem_take hx), fun i j hi hj e => ?_⟩
  rw [lg] at hi hj e
  rw [take_getD _ hi, take_getD _ hj] at e
  have ei : hold t (i : Int) = t.getD i 0 := hold_nat (by omega)
  have ej : hold t (j : Int) = t.getD j 0 := hold_nat (by omega)
  rw [← ei, ← ej] at e
  -- i + h i and j + h j differ by k lengths: so does j from i
  have e0 : (out t (i : Int) - out t (j : Int)) % (g : Int) = 0 := Int.emod_eq_emod_iff_emod_sub_eq_zero.mp e
  obtain ⟨k, hk⟩ := Int.dvd_of_emod_eq_zero e0
  have hh : hold t ((j : Int) + g * k) = hold t (j : Int) := by
    rw [← Per.heq hg hl h, ← Per.heq hg hl h]
    refine hold_mod ?_
    rw [lg]
    simp
  have ho : out t (i : Int) = out t ((j : Int) + g * k) := by
    unfold out at hk ⊢
    rw [hh]
    omega
  have := T.out_inj ho
  have e5 : (i : Int) % g = (j : Int) % g := by rw [this]; simp
  rw [Int.emod_eq_of_lt (by omega) (by omega), Int.emod_eq_of_lt (by omega) (by omega)] at e5
  omega
/-- the shortest: g is the least such length -/
structure Short (t : List Int) (g : Nat) : Prop where
  pos : 1 ≤ g
  le : g ≤ t.length
  per : Per t g
  least : ∀ k, 1 ≤ k → k < g → ¬ Per t k
theorem Short.len {t : List Int} {g : Nat} (S : Short t g) : (t.take g).length = g := by
  have := S.le
  rw [List.length_take]; omega
theorem Short.tab {t : List Int} {g : Nat} (T : IsTab t) (S : Short t g) : IsTab (t.take g) := T.take S.pos S.le S.per
theorem Short.heq {t : List Int} {g : Nat} (S : Short t g) (n : Int) : hold (t.take g) n = hold t n := Per.heq S.pos S.le S.per n
theorem Short.fit {t : List Int} {g : Nat} (S : Short t g) {seen : List (Int × Int)} (h : fits t seen) : fits (t.take g) seen := fun p hp => by
  have := h p hp
  unfold out at this ⊢
  rw [S.heq]; exact this
/-- a shift by L under which the holds of t are alike makes a length by which t goes on alike -/
theorem per_gcd {t : List Int} (hp : 1 ≤ t.length) {L : Nat} (hL : 1 ≤ L) (h : ∀ n : Int, hold t (n + L) = hold t n) : Per t (Nat.gcd L t.length) := by
  have hg : 1 ≤ Nat.gcd L t.length := Nat.gcd_pos_of_pos_left _ (by omega)
  have hl : Nat.gcd L t.length ≤ t.length := Nat.le_of_dvd (by omega) (Nat.gcd_dvd_right _ _)
  have hd : t.length % Nat.gcd L t.length = 0 := Nat.mod_eq_zero_of_dvd (Nat.gcd_dvd_right _ _)
  have many : ∀ (k : Nat) (n : Int), hold t (n + k * L) = hold t n := by
    intro k
    induction k with
    | zero => intro n; simp
    | succ k ih =>
      intro n
      have e : n + ((k + 1 : Nat) : Int) * L = (n + k * L) + L := by push_cast; rw [Int.add_mul]; omega
      rw [e, h, ih]
  -- gcd = a * L modulo the length, for some a
  have bez : ∀ (m n : Nat), ∃ a b : Int, (Nat.gcd m n : Int) = a * m + b * n := by
    intro m n
    induction m, n using Nat.gcd.induction with
    | H0 n => exact ⟨0, 1, by simp⟩
    | H1 m n hm ih =>
      obtain ⟨a, b, e⟩ := ih
      refine ⟨b - a * (n / m : Nat), a, ?_⟩
      rw [Nat.gcd_rec, e]
      have q : ((n % m : Nat) : Int) = n - (m : Int) * (n / m : Nat) := by
        have := Nat.div_add_mod n m
        have : ((m * (n / m) + n % m : Nat) : Int) = n := by rw [this]
        push_cast at this ⊢
        omega
      rw [q, Int.mul_sub, Int.sub_mul]
      have : a * ((m : Int) * ((n / m : Nat) : Int)) = a * ((n / m : Nat) : Int) * m := by
        rw [Int.mul_assoc, Int.mul_comm (m : Int)]
      omega
  obtain ⟨a, b, e⟩ := bez L t.length
  -- a shift by the gcd
  have sh : ∀ n : Int, hold t (n + Nat.gcd L t.length) = hold t n := by
    intro n
    have na := Int.emod_nonneg a (show (t.length : Int) ≠ 0 by omega)
    have z := many (a % (t.length : Int)).toNat n
    rw [Int.toNat_of_nonneg na] at z
    rw [← z]
    refine hold_mod ?_
    have qa : a = (t.length : Int) * (a / (t.length : Int)) + a % (t.length : Int) := (Int.mul_ediv_add_emod a _).symm
    have r : n + (Nat.gcd L t.length : Int) = (n + a % (t.length : Int) * L) + (t.length : Int) * (a / (t.length : Int) * L + b) := by
      rw [e]
      have e1 : a * (L : Int) = (t.length : Int) * (a / (t.length : Int)) * L + a % (t.length : Int) * L := by
        conv => lhs; rw [qa, Int.add_mul]
      rw [e1, Int.mul_add, Int.mul_assoc, Int.mul_comm b]
      omega
    rw [r]
    simp
  have shk : ∀ (k : Nat) (n : Int), hold t (n + k * Nat.gcd L t.length) = hold t n := by
    intro k
    induction k with
    | zero => intro n; simp
    | succ k ih =>
      intro n
      have e : n + ((k + 1 : Nat) : Int) * (Nat.gcd L t.length : Int) = (n + k * Nat.gcd L t.length) + Nat.gcd L t.length := by push_cast; rw [Int.add_mul]; omega
      rw [e, sh, ih]
  refine Per.of hg hl hd fun i hi => ?_
  have hr : i % Nat.gcd L t.length < t.length := Nat.lt_of_lt_of_le (Nat.mod_lt _ (by omega)) hl
  rw [← hold_nat hi, ← hold_nat hr]
  have z := shk (i / Nat.gcd L t.length) ((i % Nat.gcd L t.length : Nat) : Int)
  rw [← z]
  congr 1
  have := Nat.div_add_mod i (Nat.gcd L t.length)
  have q : ((Nat.gcd L t.length * (i / Nat.gcd L t.length) + i % Nat.gcd L t.length : Nat) : Int) = i := by rw [this]
  push_cast at q ⊢
  rw [Int.mul_comm] at q
  omega
/-- the heart: a table no longer than the shortest, by which two lengths of things come out as by t, is the shortest -/
theorem short_unique {t T : List Int} {g : Nat} (Tt : IsTab t) (S : Short t g) (TT : IsTab T) (hl : T.length ≤ g) (h : ∀ i : Nat, i < 2 * t.length → out T (i : Int) = out t (i : Int)) : T = t.take g := by
  have hh : ∀ i : Nat, i < 2 * t.length → hold T (i : Int) = hold t (i : Int) := fun i hi => by
    have := h i hi
    unfold out at this
    omega
  have p := Tt.pos
  have pT := TT.pos
  have gl := S.le
  have sh : ∀ n : Int, hold t (n + T.length) = hold t n := by
    intro n
    have hm := mod_lt p n
    have nn := Int.emod_nonneg n (show (t.length : Int) ≠ 0 by omega)
    have e1 : hold t n = hold t (((n % (t.length : Int)).toNat : Nat) : Int) := hold_mod (by rw [Int.toNat_of_nonneg nn]; simp)
    have e2 : hold t (n + T.length) = hold t ((((n % (t.length : Int)).toNat + T.length : Nat)) : Int) := hold_mod (by push_cast; rw [Int.toNat_of_nonneg nn]; simp)
    rw [e1, e2, ← hh _ (by omega), ← hh _ (by omega)]
    push_cast
    exact hold_add T _
  have per := per_gcd p pT sh
  have gp : 1 ≤ Nat.gcd T.length t.length := Nat.gcd_pos_of_pos_left _ (by omega)
  have gle : Nat.gcd T.length t.length ≤ T.length := Nat.le_of_dvd (by omega) (Nat.gcd_dvd_left _ _)
  have eg : T.length = g := by
    rcases Nat.lt_or_ge (Nat.gcd T.length t.length) g with z | z
    · exact absurd per (S.least _ gp z)
    · omega
  refine ext_getD (by rw [S.len, eg]) fun i hi => ?_
  rw [take_getD _ (by omega), ← hold_nat hi, ← hold_nat (by omega), hh i (by omega)]
/-- a table said twice is a table -/
theorem IsTab.twice {t : List Int} (T : IsTab t) (h : t.length ≤ 12) : IsTab (t ++ t) := by
  have p := T.pos
  have lt : (t ++ t).length = 2 * t.length := by rw [List.length_append]; omega
  have gd : ∀ i, i < 2 * t.length → (t ++ t).getD i 0 = hold t (i : Int) := fun i hi => by
    rw [List.getD_eq_getElem?_getD]
    by_cases q : i < t.length
    · rw [List.getElem?_append_left q, ← List.getD_eq_getElem?_getD, hold_nat q]
    · rw [List.getElem?_append_right (by omega), ← List.getD_eq_getElem?_getD, ← hold_nat (by omega)]
      refine hold_mod ?_
      have : (i : Int) = ((i - t.length : Nat) : Int) + t.length := by omega
      rw [this]; simp
  refine ⟨by omega, by omega, fun x hx => (List.mem_append.mp hx).elim (T.rng x) (T.rng x), fun i j hi hj e => ?_⟩
  rw [lt] at hi hj e
  rw [gd i hi, gd j hj] at e
  have e0 := Int.emod_eq_emod_iff_emod_sub_eq_zero.mp e
  obtain ⟨k, hk⟩ := Int.dvd_of_emod_eq_zero e0
  have hx : hold t ((j : Int) + t.length * (2 * k)) = hold t (j : Int) := hold_mod (by simp)
  have ho : out t (i : Int) = out t ((j : Int) + t.length * (2 * k)) := by
    unfold out
    rw [hx]
    have : (t.length : Int) * (2 * k) = ((2 * t.length : Nat) : Int) * k := by push_cast; rw [← Int.mul_assoc, Int.mul_comm (t.length : Int) 2]
    omega
  have z := T.out_inj ho
  have e5 : (i : Int) % (2 * t.length : Nat) = (j : Int) % (2 * t.length : Nat) := by
    rw [z]
    have : (t.length : Int) * (2 * k) = ((2 * t.length : Nat) : Int) * k := by push_cast; rw [← Int.mul_assoc, Int.mul_comm (t.length : Int) 2]
    rw [this]; simp
  rw [Int.emod_eq_of_lt (by omega) (by omega), Int.emod_eq_of_lt (by omega) (by omega)] at e5
  omega
end Ba
end
section
/-! What the fitting's dict, set and filling loop hold. -/
set_option autoImplicit false
namespace Ba
theorem nodup_map_inj {α β : Type} {f : α → β} : ∀ {l : List α}, (l.map f).Nodup → ∀ {a b : α}, a ∈ l → b ∈ l → f a = f b → a = b
  | [], _, _, _, h, _, _ => nomatch h
  | x :: l, nd, a, b, ha, hb, e => by
    rw [List.map_cons, List.nodup_cons] at nd
    rcases List.mem_cons.mp ha with ea | ha <;> rcases List.mem_cons.mp hb with eb | hb
    · rw [ea, eb]
    · exact absurd (List.mem_map.mpr ⟨b, hb, by rw [← e, ea]⟩) nd.1
    · exact absurd (List.mem_map.mpr ⟨a, ha, by rw [e, eb]⟩) nd.1
    · exact nodup_map_inj nd.2 ha hb e
theorem lookup_mem : ∀ {l : List (Int × Int)} {k h : Int}, l.lookup k = some h → (k, h) ∈ l
  | [], _, _, e => by simp at e
  | (a, b) :: l, k, h, e => by
    rw [List.lookup_cons] at e
    by_cases q : k = a
    · subst q
      simp at e
      subst e
      exact List.mem_cons_self
    · have q' : (k == a) = false := by simpa using q
      rw [q'] at e
      exact List.mem_cons_of_mem _ (lookup_mem e)
theorem mem_lookup : ∀ {l : List (Int × Int)} {k h : Int}, (l.map (·.1)).Nodup → (k, h) ∈ l → l.lookup k = some h
  | [], _, _, _, e => nomatch e
  | (a, b) :: l, k, h, nd, e => by
    rw [List.map_cons, List.nodup_cons] at nd
    rw [List.lookup_cons]
    rcases List.mem_cons.mp e with e | e
    · cases e
      simp
    · have q : (k == a) = false := by
        simp only [beq_eq_false_iff_ne, ne_eq]
        intro ek
        exact nd.1 (List.mem_map.mpr ⟨(k, h), e, ek⟩)
      rw [q]
      exact mem_lookup nd.2 e
theorem lookup_none {l : List (Int × Int)} {k : Int} (e : l.lookup k = none) {h : Int} : (k, h) ∉ l := fun m => by
  rw [List.lookup_eq_none_iff] at e
  have := e _ m
  simp at this

/-- the key and the hold of what was seen -/
def keyOf (L : Nat) (p : Int × Int) : Int := p.1 % (L : Int)
def res (L : Nat) (p : Int × Int) : Int := (p.1 + p.2) % (L : Int)
/-- the dict behind some of what was seen -/
structure Known (L : Nat) (pre ks : List (Int × Int)) : Prop where
  nd : (ks.map (·.1)).Nodup
  key : ∀ p ∈ ks, 0 ≤ p.1 ∧ p.1 < (L : Int)
  rng : ∀ p ∈ ks, 0 ≤ p.2 ∧ p.2 ≤ 60
  src : ∀ p ∈ ks, ∃ q ∈ pre, q.1 % (L : Int) = p.1 ∧ q.2 - q.1 = p.2
  all : ∀ q ∈ pre, (q.1 % (L : Int), q.2 - q.1) ∈ ks
  len : ks.length ≤ pre.length
theorem Known.nil (L : Nat) : Known L [] [] := ⟨List.nodup_nil, by simp, by simp, by simp, by simp, Nat.le_refl _⟩
theorem Known.more {L : Nat} (hL : 1 ≤ L) {pre ks : List (Int × Int)} (K : Known L pre ks) {q : Int × Int} (h : 0 ≤ q.2 - q.1 ∧ q.2 - q.1 ≤ 60) (hn : ks.lookup (q.1 % (L : Int)) = none) :
    Known L (pre ++ [q]) (ks ++ [(q.1 % (L : Int), q.2 - q.1)]) := by
  have h1 := Int.emod_nonneg q.1 (show (L : Int) ≠ 0 by omega)
  have h2 := Int.emod_lt_of_pos q.1 (show (0 : Int) < L by omega)
  refine ⟨?_, fun p hp => ?_, fun p hp => ?_, fun p hp => ?_, fun r hr => ?_, by simp [K.len]⟩
  · rw [List.map_append, List.nodup_append]
    refine ⟨K.nd, by simp, fun a ha b hb => ?_⟩
    obtain ⟨p, hp, rfl⟩ := List.mem_map.mp ha
    have eb : b = q.1 % (L : Int) := by simpa using hb
    subst eb
    intro e
    exact lookup_none hn (h := p.2) (by rw [← e]; exact hp)
  · rcases List.mem_append.mp hp with z | z
    · exact K.key p z
    · have e : p = (q.1 % (L : Int), q.2 - q.1) := by simpa using z
      subst e; exact ⟨h1, h2⟩
  · rcases List.mem_append.mp hp with z | z
    · exact K.rng p z
    · have e : p = (q.1 % (L : Int), q.2 - q.1) := by simpa using z
      subst e; exact h
  · rcases List.mem_append.mp hp with z | z
    · obtain ⟨r, hr, e⟩ := K.src p z
      exact ⟨r, List.mem_append_left _ hr, e⟩
    · have e : p = (q.1 % (L : Int), q.2 - q.1) := by simpa using z
      subst e
      exact ⟨q, by simp, rfl, rfl⟩
  · rcases List.mem_append.mp hr with z | z
    · exact List.mem_append_left _ (K.all r z)
    · have e : r = q := by simpa using z
      subst e; simp
theorem Known.same {L : Nat} {pre ks : List (Int × Int)} (K : Known L pre ks) {q : Int × Int} (hn : ks.lookup (q.1 % (L : Int)) = some (q.2 - q.1)) : Known L (pre ++ [q]) ks := by
  refine ⟨K.nd, K.key, K.rng, fun p hp => ?_, fun r hr => ?_, by have := K.len; simp; omega⟩
  · obtain ⟨r, hr, e⟩ := K.src p hp
    exact ⟨r, List.mem_append_left _ hr, e⟩
  · rcases List.mem_append.mp hr with z | z
    · exact K.all r z
    · have e : r = q := by simpa using z
      subst e
      exact lookup_mem hn
theorem fits_hold {T : List Int} {seen : List (Int × Int)} (F : fits T seen) {q : Int × Int} (h : q ∈ seen) : hold T q.1 = q.2 - q.1 := by
  have := F q h
  unfold out at this
  omega
/-- a hold that no table has -/
theorem no_far {T : List Int} (TT : IsTab T) {seen : List (Int × Int)} {q : Int × Int} (hq : q ∈ seen) (h : ¬ (0 ≤ q.2 - q.1 ∧ q.2 - q.1 ≤ 60)) : ¬ fits T seen := fun F => by
  have := fits_hold F hq
  have := TT.hrng q.1
  omega
/-- two holds at one place -/
theorem Known.clash {L : Nat} {pre ks : List (Int × Int)} (K : Known L pre ks) {seen : List (Int × Int)} (hs : ∀ p ∈ pre, p ∈ seen) {q : Int × Int} (hq : q ∈ seen) {h : Int} (e : ks.lookup (q.1 % (L : Int)) = some h) (ne : h ≠ q.2 - q.1)
    {T : List Int} (hl : T.length = L) : ¬ fits T seen := fun F => by
  obtain ⟨r, hr, e1, e2⟩ := K.src _ (lookup_mem e)
  have a := fits_hold F (hs r hr)
  have b := fits_hold F hq
  have c : hold T r.1 = hold T q.1 := hold_mod (by rw [hl]; exact e1)
  have e2 : r.2 - r.1 = h := e2
  omega
/-- two things at one tick -/
theorem Known.meet {L : Nat} {seen ks : List (Int × Int)} (K : Known L seen ks) (h : ¬ (ks.map (res L)).Nodup) {T : List Int} (TT : IsTab T) (hl : T.length = L) : ¬ fits T seen := fun F => h <| by
  have inj : ∀ a ∈ ks, ∀ b ∈ ks, res L a = res L b → a.1 = b.1 := fun a ha b hb e => by
    obtain ⟨p, hp, e1, e2⟩ := K.src a ha
    obtain ⟨q, hq, e3, e4⟩ := K.src b hb
    have o : out T p.1 % (T.length : Int) = out T q.1 % (T.length : Int) := by
      unfold out
      rw [fits_hold F hp, fits_hold F hq, e2, e4, hl]
      unfold res at e
      rw [← e1, ← e3, Int.emod_add_emod, Int.emod_add_emod] at e
      exact e
    have z := TT.out_mod o
    rw [hl, e1, e3] at z
    exact z
  have go : ∀ l : List (Int × Int), (∀ a ∈ l, a ∈ ks) → (l.map (·.1)).Nodup → (l.map (res L)).Nodup := by
    intro l
    induction l with
    | nil => intro _ _; exact List.nodup_nil
    | cons a l ih =>
      intro hs nd
      rw [List.map_cons, List.nodup_cons] at nd ⊢
      refine ⟨fun m => ?_, ih (fun b hb => hs b (List.mem_cons_of_mem _ hb)) nd.2⟩
      obtain ⟨b, hb, e⟩ := List.mem_map.mp m
      have := inj b (hs b (List.mem_cons_of_mem _ hb)) a (hs a List.mem_cons_self) e
      exact nd.1 (List.mem_map.mpr ⟨b, hb, this⟩)
  exact go ks (fun _ h => h) K.nd

/-- the dict as it is filled: places below i are there -/
structure Fill (L : Nat) (seen : List (Int × Int)) (i : Nat) (ks : List (Int × Int)) : Prop where
  nd : (ks.map (·.1)).Nodup
  key : ∀ p ∈ ks, 0 ≤ p.1 ∧ p.1 < (L : Int)
  rng : ∀ p ∈ ks, 0 ≤ p.2 ∧ p.2 ≤ 60
  all : ∀ q ∈ seen, (q.1 % (L : Int), q.2 - q.1) ∈ ks
  rnd : (ks.map (res L)).Nodup
  low : ∀ k : Nat, k < i → ∃ h, ks.lookup (k : Int) = some h
theorem Fill.start {L : Nat} {seen ks : List (Int × Int)} (K : Known L seen ks) (h : (ks.map (res L)).Nodup) : Fill L seen 0 ks := ⟨K.nd, K.key, K.rng, K.all, h, fun _ h => absurd h (Nat.not_lt_zero _)⟩
theorem Fill.le {L i : Nat} {seen ks : List (Int × Int)} (F : Fill L seen i ks) : ks.length ≤ L := by
  have e : ((ks.map (·.1)).map Int.toNat).length = ks.length := by simp
  rw [← e]
  refine le_of_below L _ ?_ fun r hr => ?_
  · refine List.Pairwise.map _ (R := fun a b : Int => (0 ≤ a ∧ 0 ≤ b) ∧ a ≠ b) (fun a b h => ?_) ?_
    · omega
    · refine List.Pairwise.imp_of_mem (fun {a b} ha hb h => ⟨?_, h⟩) F.nd
      obtain ⟨p, hp, rfl⟩ := List.mem_map.mp ha
      obtain ⟨q, hq, rfl⟩ := List.mem_map.mp hb
      exact ⟨(F.key p hp).1, (F.key q hq).1⟩
  · obtain ⟨a, ha, rfl⟩ := List.mem_map.mp hr
    obtain ⟨p, hp, rfl⟩ := List.mem_map.mp ha
    have := F.key p hp
    omega
theorem Fill.lt {L i : Nat} {seen ks : List (Int × Int)} (F : Fill L seen i ks) (hi : i < L) (hn : ks.lookup (i : Int) = none) : ks.length < L := by
  have e : (i :: (ks.map (·.1)).map Int.toNat).length = ks.length + 1 := by simp
  have : (i :: (ks.map (·.1)).map Int.toNat).length ≤ L := by
    refine le_of_below L _ (List.nodup_cons.mpr ⟨fun m => ?_, ?_⟩) fun r hr => ?_
    · obtain ⟨a, ha, e⟩ := List.mem_map.mp m
      obtain ⟨p, hp, rfl⟩ := List.mem_map.mp ha
      have := F.key p hp
      exact lookup_none hn (h := p.2) (by have e2 : p.1 = (i : Int) := by omega
                                          rw [← e2]; exact hp)
    · refine List.Pairwise.map _ (R := fun a b : Int => (0 ≤ a ∧ 0 ≤ b) ∧ a ≠ b) (fun a b h => ?_) ?_
      · omega
      · refine List.Pairwise.imp_of_mem (fun {a b} ha hb h => ⟨?_, h⟩) F.nd
        obtain ⟨p, hp, rfl⟩ := List.mem_map.mp ha
        obtain ⟨q, hq, rfl⟩ := List.mem_map.mp hb
        exact ⟨(F.key p hp).1, (F.key q hq).1⟩
    · rcases List.mem_cons.mp hr with rfl | hr
      · exact hi
      · obtain ⟨a, ha, rfl⟩ := List.mem_map.mp hr
        obtain ⟨p, hp, rfl⟩ := List.mem_map.mp ha
        have := F.key p hp
        omega
  omega
/-- a hold that is free -/
theorem Fill.free {L i : Nat} {seen ks : List (Int × Int)} (F : Fill L seen i ks) (hi : i < L) (hn : ks.lookup (i : Int) = none) : ∃ h : Nat, h < L ∧ ((i : Int) + h) % (L : Int) ∉ ks.map (res L) := by
  have hlt := F.lt hi hn
  obtain ⟨r, hr, nr⟩ : ∃ r : Nat, r < L ∧ ((r : Int)) ∉ ks.map (res L) := by
    apply Classical.byContradiction
    intro z
    have all : ∀ r : Nat, r < L → r ∈ (ks.map (res L)).map Int.toNat := fun r hr => by
      have : (r : Int) ∈ ks.map (res L) := Classical.byContradiction fun q => z ⟨r, hr, q⟩
      exact List.mem_map.mpr ⟨_, this, by simp⟩
    have := le_of_all L _ all
    rw [List.length_map, List.length_map] at this
    omega
  refine ⟨(((r : Int) - i) % (L : Int)).toNat, ?_, ?_⟩
  · have h1 := Int.emod_nonneg ((r : Int) - i) (show (L : Int) ≠ 0 by omega)
    have h2 := Int.emod_lt_of_pos ((r : Int) - i) (show (0 : Int) < L by omega)
    omega
  · rw [Int.toNat_of_nonneg (Int.emod_nonneg _ (by omega)), Int.add_emod_emod]
    have e : (i : Int) + (r - i) = r := by omega
    rw [e, Int.emod_eq_of_lt (by omega) (by omega)]
    exact nr
theorem Fill.put {L i : Nat} {seen ks : List (Int × Int)} (F : Fill L seen i ks) (hi : i < L) (hL : L ≤ 24) (hn : ks.lookup (i : Int) = none) {m : Int} (h0 : 0 ≤ m) (h1 : m < L) (hm : ((i : Int) + m) % (L : Int) ∉ ks.map (res L)) :
    Fill L seen (i + 1) (ks ++ [((i : Int), m)]) := by
  refine ⟨?_, fun p hp => ?_, fun p hp => ?_, fun q hq => List.mem_append_left _ (F.all q hq), ?_, fun k hk => ?_⟩
  · rw [List.map_append, List.nodup_append]
    refine ⟨F.nd, by simp, fun a ha b hb => ?_⟩
    obtain ⟨p, hp, rfl⟩ := List.mem_map.mp ha
    have eb : b = (i : Int) := by simpa using hb
    subst eb
    intro e
    exact lookup_none hn (h := p.2) (by rw [← e]; exact hp)
  · rcases List.mem_append.mp hp with z | z
    · exact F.key p z
    · have e : p = ((i : Int), m) := by simpa using z
      subst e; exact ⟨by simp, by simpa using hi⟩
  · rcases List.mem_append.mp hp with z | z
    · exact F.rng p z
    · have e : p = ((i : Int), m) := by simpa using z
      subst e
      exact ⟨h0, by show m ≤ 60; omega⟩
  · rw [List.map_append, List.nodup_append]
    refine ⟨F.rnd, by simp, fun a ha b hb => ?_⟩
    have eb : b = ((i : Int) + m) % (L : Int) := by simpa [res] using hb
    subst eb
    intro e
    exact hm (e ▸ ha)
  · rcases Nat.lt_or_ge k i with q | q
    · obtain ⟨h, e⟩ := F.low k q
      exact ⟨h, by rw [List.lookup_append, e]; rfl⟩
    · have : k = i := by omega
      subst this
      exact ⟨m, by rw [List.lookup_append, hn]; simp⟩
theorem Fill.skip {L i : Nat} {seen ks : List (Int × Int)} (F : Fill L seen i ks) {h : Int} (e : ks.lookup (i : Int) = some h) : Fill L seen (i + 1) ks :=
  ⟨F.nd, F.key, F.rng, F.all, F.rnd, fun k hk => (Nat.lt_or_ge k i).elim (F.low k) fun q => ⟨h, by have : k = i := by omega
                                                                                                   subst this; exact e⟩⟩
def val (ks : List (Int × Int)) (k : Nat) : Int := (ks.lookup (k : Int)).getD 0
def tabOf (L : Nat) (ks : List (Int × Int)) : List Int := (List.range L).map (val ks)
theorem tabOf_len (L : Nat) (ks : List (Int × Int)) : (tabOf L ks).length = L := by simp [tabOf]
theorem tabOf_getD {L : Nat} {ks : List (Int × Int)} {k : Nat} (h : k < L) : (tabOf L ks).getD k 0 = val ks k := by
  unfold tabOf
  rw [List.getD_eq_getElem?_getD, List.getElem?_map, List.getElem?_range h]
  rfl
theorem Fill.at {L : Nat} {seen ks : List (Int × Int)} (F : Fill L seen L ks) {k : Nat} (h : k < L) : ((k : Int), val ks k) ∈ ks := by
  obtain ⟨x, e⟩ := F.low k h
  have := lookup_mem e
  unfold val
  rw [e]
  exact this
theorem Fill.tab {L : Nat} (h1 : 1 ≤ L) (hL : L ≤ 24) {seen ks : List (Int × Int)} (F : Fill L seen L ks) : IsTab (tabOf L ks) := by
  refine ⟨by rw [tabOf_len]; exact h1, by rw [tabOf_len]; exact hL, fun x hx => ?_, fun i j hi hj e => ?_⟩
  · obtain ⟨k, hk, rfl⟩ := List.mem_map.mp hx
    exact F.rng _ (F.at (List.mem_range.mp hk))
  · rw [tabOf_len] at hi hj e
    rw [tabOf_getD hi, tabOf_getD hj] at e
    have := nodup_map_inj F.rnd (F.at hi) (F.at hj) e
    have : (i : Int) = j := congrArg Prod.fst this
    omega
theorem Fill.fit {L : Nat} (h1 : 1 ≤ L) {seen ks : List (Int × Int)} (F : Fill L seen L ks) : fits (tabOf L ks) seen := fun q hq => by
  have m := F.all q hq
  have a0 := Int.emod_nonneg q.1 (show (L : Int) ≠ 0 by omega)
  have a1 := Int.emod_lt_of_pos q.1 (show (0 : Int) < L by omega)
  have e := mem_lookup F.nd m
  have v : hold (tabOf L ks) q.1 = q.2 - q.1 := by
    unfold hold
    rw [tabOf_len, tabOf_getD (by omega)]
    unfold val
    rw [Int.toNat_of_nonneg a0, e]
    rfl
  unfold out
  omega
end Ba
end
section
/-! What comes out of a row into which the numbers go, and what is seen of it. -/
set_option autoImplicit false
namespace Ba
/-- the tick at which thing i comes out -/
def outN (t : List Int) (i : Nat) : Nat := i + (hold t (i : Int)).toNat
theorem IsTab.outN {t : List Int} (T : IsTab t) (i : Nat) : (Ba.outN t i : Int) = out t (i : Int) := by
  have := T.hrng (i : Int)
  unfold Ba.outN out
  push_cast
  omega
theorem IsTab.outN_inj {t : List Int} (T : IsTab t) {i j : Nat} (h : Ba.outN t i = Ba.outN t j) : i = j := by
  have a := T.outN i
  have b := T.outN j
  have := T.out_inj (a := (i : Int)) (b := (j : Int)) (by omega)
  omega
theorem outN_ge (t : List Int) (i : Nat) : i ≤ outN t i := Nat.le_add_right _ _
/-- the thing that comes out at tick u -/
def at_ (t : List Int) (u : Nat) : Option Nat := (List.range (u + 1)).find? fun i => decide (outN t i = u)
theorem at_some {t : List Int} (T : IsTab t) {u i : Nat} : at_ t u = some i ↔ outN t i = u := by
  constructor
  · intro h
    unfold at_ at h
    have z := List.find?_some h
    exact of_decide_eq_true z
  · intro h
    have hi : i < u + 1 := by have := outN_ge t i; omega
    cases e : at_ t u with
    | none =>
      have := (List.find?_eq_none.mp e) i (List.mem_range.mpr hi)
      simp [h] at this
    | some j =>
      unfold at_ at e
      have z := List.find?_some e
      have hj : outN t j = u := of_decide_eq_true z
      rw [T.outN_inj (h.trans hj.symm)]
theorem at_none {t : List Int} (T : IsTab t) {u : Nat} (h : at_ t u = none) (i : Nat) : outN t i ≠ u := fun e => by
  rw [(at_some T).mpr e] at h
  cases h
theorem at_le {t : List Int} (T : IsTab t) {u i : Nat} (h : at_ t u = some i) : i ≤ u := by
  have := (at_some T).mp h
  have := outN_ge t i
  omega
/-- the pairs (thing, tick) of what came out below n -/
def seenN (t : List Int) (n : Nat) : List (Nat × Nat) := (List.range n).filterMap fun u => (at_ t u).map fun i => (i, u)
def cast2 (p : Nat × Nat) : Int × Int := ((p.1 : Int), (p.2 : Int))
theorem mem_seen {t : List Int} (T : IsTab t) {n : Nat} {p : Nat × Nat} : p ∈ seenN t n ↔ p.2 < n ∧ outN t p.1 = p.2 := by
  unfold seenN
  rw [List.mem_filterMap]
  constructor
  · rintro ⟨u, hu, e⟩
    rw [Option.map_eq_some_iff] at e
    obtain ⟨i, e1, e2⟩ := e
    subst e2
    exact ⟨List.mem_range.mp hu, (at_some T).mp e1⟩
  · rintro ⟨h1, h2⟩
    exact ⟨p.2, List.mem_range.mpr h1, by rw [(at_some T).mpr h2]; rfl⟩
theorem seen_succ (t : List Int) (n : Nat) : seenN t (n + 1) = seenN t n ++ (match at_ t n with | some i => [(i, n)] | none => []) := by
  unfold seenN
  rw [List.range_succ, List.filterMap_append]
  congr 1
  cases e : at_ t n with
  | none => simp [e]
  | some i => simp [e]
theorem seen_nodup {t : List Int} (T : IsTab t) (n : Nat) : ((seenN t n).map (·.1)).Nodup := by
  unfold seenN
  rw [List.map_filterMap]
  unfold List.Nodup
  rw [List.pairwise_filterMap]
  refine List.Pairwise.imp (fun {u v} hne => ?_) (List.nodup_range (n := n))
  intro b hb b' hb' e
  simp only [Option.map_map, Option.map_eq_some_iff] at hb hb'
  obtain ⟨i, e1, e2⟩ := hb
  obtain ⟨j, e3, e4⟩ := hb'
  have a := (at_some T).mp e1
  have b2 := (at_some T).mp e3
  have : i = j := e2.trans (e.trans e4.symm)
  subst this
  omega
theorem seen_len (t : List Int) (n : Nat) : (seenN t n).length ≤ n := by
  have := List.length_filterMap_le (fun u => (at_ t u).map fun i => (i, u)) (List.range n)
  rw [List.length_range] at this
  exact this
/-- those of two lengths -/
def twoN (t : List Int) (n : Nat) : List (Nat × Nat) := (seenN t n).filter fun p => decide (p.1 < 2 * t.length)
theorem two_len {t : List Int} (T : IsTab t) {n : Nat} (h : ∀ i, i < 2 * t.length → outN t i < n) : (twoN t n).length = 2 * t.length := by
  have e : ((twoN t n).map (·.1)).length = 2 * t.length := by
    refine length_of_exact ?_ fun r => ?_
    · exact List.Nodup.sublist (List.Sublist.map _ List.filter_sublist) (seen_nodup T n)
    · constructor
      · intro hr
        obtain ⟨p, hp, rfl⟩ := List.mem_map.mp hr
        exact of_decide_eq_true (List.mem_filter.mp hp).2
      · intro hr
        exact List.mem_map.mpr ⟨(r, outN t r), List.mem_filter.mpr ⟨(mem_seen T).mpr ⟨h r hr, rfl⟩, decide_eq_true hr⟩, rfl⟩
  rw [List.length_map] at e
  exact e
/-- what is seen is so by the table -/
theorem seen_fits {t : List Int} (T : IsTab t) {n : Nat} {l : List (Nat × Nat)} (h : ∀ p ∈ l, p ∈ seenN t n) : fits t (l.map cast2) := fun p hp => by
  obtain ⟨q, hq, rfl⟩ := List.mem_map.mp hp
  have := (mem_seen T).mp (h q hq)
  show out t (q.1 : Int) = (q.2 : Int)
  rw [← T.outN, this.2]
theorem two_mem {t : List Int} {n : Nat} {p : Nat × Nat} (h : p ∈ twoN t n) : p ∈ seenN t n := (List.mem_filter.mp h).1
theorem in_two {t : List Int} (T : IsTab t) {n : Nat} (h : ∀ i, i < 2 * t.length → outN t i < n) {i : Nat} (hi : i < 2 * t.length) : (i, outN t i) ∈ twoN t n :=
  List.mem_filter.mpr ⟨(mem_seen T).mpr ⟨h i hi, rfl⟩, decide_eq_true hi⟩
/-- what fitting finds, once all things of two lengths are seen -/
theorem fit_short {t T : List Int} {g : Nat} (Tt : IsTab t) (S : Short t g) {l : List (Nat × Nat)} (h2 : ∀ i, i < 2 * t.length → (i, outN t i) ∈ l) (hl : ∀ p ∈ l, outN t p.1 = p.2)
    (TT : IsTab T) (F : fits T (l.map cast2)) (least : ∀ U, IsTab U → fits U (l.map cast2) → T.length ≤ U.length) : T = t.take g := by
  have Fs : fits (t.take g) (l.map cast2) := S.fit fun p hp => by
    obtain ⟨q, hq, rfl⟩ := List.mem_map.mp hp
    show out t (q.1 : Int) = (q.2 : Int)
    rw [← Tt.outN, hl q hq]
  refine short_unique Tt S TT ?_ fun i hi => ?_
  · have := least _ (S.tab Tt) Fs
    rw [S.len] at this
    exact this
  · have := F _ (List.mem_map.mpr ⟨_, h2 i hi, rfl⟩)
    have e : out T (i : Int) = (outN t i : Int) := this
    rw [e, Tt.outN]
theorem delay_bound {t : List Int} (T : IsTab t) {m : Int} (hm : ∀ h ∈ t, h ≤ m) {i : Nat} : outN t i ≤ i + m.toNat := by
  have a : hold t (i : Int) ∈ t := by
    unfold hold
    exact getD_mem (mod_lt T.pos _)
  have := hm _ a
  unfold outN
  omega
end Ba
end
section
set_option Elab.async false
set_option maxRecDepth 100000
set_option maxHeartbeats 0
/-! The text by places, and what the top leaves. -/
namespace Ba
open PySem PySem.Spec PyProof.Rows L2
def top (i : Nat) : Stmt := PySem.Challenge.pw_burstapart_k77_whole_tables_by_what_was.main.body.getD i (.Pass ⟨0, 0, 0, 0⟩)
abbrev s_is_integer : Stmt := top 13
abbrev s_is_between : Stmt := top 14
abbrev s_is_onto : Stmt := top 15
abbrev s_is_table : Stmt := top 16
abbrev s_need_table : Stmt := top 17
abbrev s_need_integer : Stmt := top 18
abbrev s_hold_of : Stmt := top 19
abbrev s_out_of : Stmt := top 20
abbrev s_shortened : Stmt := top 21
abbrev s_out_at : Stmt := top 22
abbrev s_delay : Stmt := top 23
abbrev s_shortest : Stmt := top 24
abbrev s_are_seen : Stmt := top 27
abbrev s_known_holds : Stmt := top 28
abbrev s_fitted : Stmt := top 29
abbrev s_fitting : Stmt := top 30
abbrev s_is_value : Stmt := top 34
abbrev s_need_value : Stmt := top 35
abbrev s_copied : Stmt := top 37
abbrev s_hold_ahead : Stmt := top 38
abbrev s_number_in : Stmt := top 45
abbrev s_value_in : Stmt := top 46
abbrev s_journal_text : Stmt := top 47
abbrev s_pair_in : Stmt := top 48
abbrev s_read_journal : Stmt := top 49
abbrev s_law_cell : Stmt := top 51
abbrev s_law_pen : Stmt := top 52
abbrev s_law_draw : Stmt := top 53
abbrev s_law_table : Stmt := top 54
abbrev s_law_some_right : Stmt := top 55
abbrev s_law_right : Stmt := top 56
abbrev s_law : Stmt := top 57
abbrev s_Stand_init : Stmt := inClass (top 36) 0
abbrev s_Row_init : Stmt := inClass (top 42) 1
abbrev s_Row_put_out : Stmt := inClass (top 42) 7
abbrev s_Row_step : Stmt := inClass (top 42) 8
abbrev s_Row_push : Stmt := inClass (top 42) 9
abbrev s_Row_push_all : Stmt := inClass (top 42) 10
abbrev s_Row_getitem : Stmt := inClass (top 42) 14
abbrev s_Row_len : Stmt := inClass (top 42) 16
abbrev s_Row_tick : Stmt := inClass (top 42) 4
/-- one def: where it stands, its name, qualified name, statement -/
structure DefG where
  adr : PySem.W.Frag → Addr
  name : Str
  qual : Str
  st : Stmt
def fnObsA (K : PySem.W.Frag) (a : Addr) : He.FnV := match K.lookup a with
  | some ⟨_, _, .func fd, _⟩ => some (fd.name, fd.qualname, fd.params, fd.body, fd.scope, fd.globals, fd.closure, fd.defaults, fd.builtins)
  | _ => none
def DefG.val (d : DefG) : He.FnV := some (d.name, d.qual, defArgs d.st, .stmts (defBody d.st), defScope d.st, mainGlobals, [], .none, builtinsNs)
def DefG.ok (K : PySem.W.Frag) (d : DefG) : Bool := PySem.W.keepIn K (.ref (d.adr K)) && (match K.lookup (d.adr K) with
  | some ⟨_, _, .func fd, _⟩ => PySem.W.codeIn K fd.code d.qual
  | _ => false)
theorem DefG.fn {K : PySem.W.Frag} {d : DefG} (e : fnObsA K (d.adr K) = d.val) (c : d.ok K = true) : ∃ fd, Fun K d.name d.qual d.st (d.adr K) fd := by
  obtain ⟨kp, c2⟩ := He.ba c
  unfold fnObsA at e
  cases q : K.lookup (d.adr K) with
  | none =>
    rw [q] at c2
    cases c2
  | some o =>
    obtain ⟨oc, od, dt, osl⟩ := o
    rw [q] at c2 e
    cases dt with
    | func fd =>
      obtain ⟨n1, n2, n3, n4, n5, n6, n7, n8, n9, n10, n11, n12, n13, n14, n15⟩ := fd
      have e2 : (some (n1, n2, n3, n4, n5, n6, n7, n8, n15) : He.FnV) = some (d.name, d.qual, defArgs d.st, .stmts (defBody d.st), defScope d.st, mainGlobals, [], .none, builtinsNs) := e
      simp only [Option.some.injEq, Prod.mk.injEq] at e2
      obtain ⟨h1, h2, h3, h4, h5, h6, h7, h8, h9⟩ := e2
      subst h1 h2 h3 h4 h5 h6 h7 h8 h9
      exact ⟨_, fun_mk q c2 kp⟩
    | _ => cases c2
abbrev AlG : Type := Bool × List He.FnV
def obsK (fa : List He.Fa) (ex : PySem.W.Frag → Bool) (fn : List DefG) (K : PySem.W.Frag) : AlG := ((fa.all fun f => f.ok K) && (ex K && fn.all fun d => d.ok K), fn.map fun d => fnObsA K (d.adr K))
def valK (fn : List DefG) : AlG := (true, fn.map DefG.val)
def SaysK (fa : List He.Fa) (ex : PySem.W.Frag → Bool) (fn : List DefG) (K : PySem.W.Frag) : Prop := obsK fa ex fn K = valK fn
def obsKG (n : Nat) (fa : List He.Fa) (ex : PySem.W.Frag → Bool) (fn : List DefG) (g : Addr → Option Obj) : AlG := obsK fa ex fn (He.frG g (He.asD g n))
def hookK (n : Nat) (fa : List He.Fa) (ex : PySem.W.Frag → Bool) (fn : List DefG) : PySem.W.Hook where
  α := AlG
  obs := fun s => obsKG n fa ex fn s.heap.get?
  val := fun _ => valK fn
  says := fun _ h => ∃ K : PySem.W.Frag, K.In h ∧ SaysK fa ex fn K
  of := fun _ _ e => ⟨_, He.frG_in, e⟩
  keeps := fun _ _ _ ⟨K, hK, c⟩ k => ⟨K, PySem.W.Frag.In.keeps hK k, c⟩
theorem obsKG_eq {n : Nat} {fa : List He.Fa} {ex : PySem.W.Frag → Bool} {fn : List DefG} {g : Addr → Option Obj} {s : Shared} (h : ∀ a, g a = s.heap.get? a) : obsKG n fa ex fn g = (hookK n fa ex fn).obs s := by
  have e : g = s.heap.get? := funext h
  rw [e] <;> rfl
section
variable {fa : List He.Fa} {ex : PySem.W.Frag → Bool} {fn : List DefG} {K : PySem.W.Frag}
theorem SaysK.bool (c : SaysK fa ex fn K) : ((fa.all fun f => f.ok K) && (ex K && fn.all fun d => d.ok K)) = true := congrArg (fun z : AlG => z.1) c
theorem SaysK.fact (c : SaysK fa ex fn K) {f : He.Fa} (h : f ∈ fa) : f.ok K = true := List.all_eq_true.mp (He.ba c.bool).1 f h
theorem SaysK.more (c : SaysK fa ex fn K) : ex K = true := (He.ba (He.ba c.bool).2).1
theorem SaysK.def_ (c : SaysK fa ex fn K) (i : Nat) {d : DefG} (h : fn[i]? = some d := by rfl) : ∃ fd, Fun K d.name d.qual d.st (d.adr K) fd := by
  have c2 := (He.ba (He.ba c.bool).2).2
  have e : fn.map (fun d => fnObsA K (d.adr K)) = fn.map DefG.val := congrArg (fun z : AlG => z.2) c
  have e2 : (fn.map fun d => fnObsA K (d.adr K))[i]? = (fn.map DefG.val)[i]? := by rw [e]
  rw [List.getElem?_map, List.getElem?_map, h] at e2
  exact DefG.fn (Option.some.inj e2) (List.all_eq_true.mp c2 d (List.mem_of_getElem? h))
end
/-- the getter of Row's property tick, the property itself -/
def tickP (K : PySem.W.Frag) : Addr := He.ma K (He.ga K "Row") "tick"
def tickG (K : PySem.W.Frag) : Addr := match PySem.W.recIn K (tickP K) "property" with
  | some (.ref g :: _) => g
  | _ => 0
def isTickRec (K : PySem.W.Frag) : Bool := match PySem.W.recIn K (tickP K) "property" with
  | some (.ref _ :: _) => true
  | _ => false
def d_is_integer : DefG := ⟨fun K => He.ga K "is_integer", "is_integer", "is_integer", s_is_integer⟩
def d_is_between : DefG := ⟨fun K => He.ga K "is_between", "is_between", "is_between", s_is_between⟩
def d_is_onto : DefG := ⟨fun K => He.ga K "is_onto", "is_onto", "is_onto", s_is_onto⟩
def d_is_table : DefG := ⟨fun K => He.ga K "is_table", "is_table", "is_table", s_is_table⟩
def d_need_table : DefG := ⟨fun K => He.ga K "need_table", "need_table", "need_table", s_need_table⟩
def d_need_integer : DefG := ⟨fun K => He.ga K "need_integer", "need_integer", "need_integer", s_need_integer⟩
def d_hold_of : DefG := ⟨fun K => He.ga K "hold_of", "hold_of", "hold_of", s_hold_of⟩
def d_out_of : DefG := ⟨fun K => He.ga K "out_of", "out_of", "out_of", s_out_of⟩
def d_shortened : DefG := ⟨fun K => He.ga K "shortened", "shortened", "shortened", s_shortened⟩
def d_out_at : DefG := ⟨fun K => He.ga K "out_at", "out_at", "out_at", s_out_at⟩
def d_delay : DefG := ⟨fun K => He.ga K "delay", "delay", "delay", s_delay⟩
def d_shortest : DefG := ⟨fun K => He.ga K "shortest", "shortest", "shortest", s_shortest⟩
def d_are_seen : DefG := ⟨fun K => He.ga K "are_seen", "are_seen", "are_seen", s_are_seen⟩
def d_known_holds : DefG := ⟨fun K => He.ga K "known_holds", "known_holds", "known_holds", s_known_holds⟩
def d_fitted : DefG := ⟨fun K => He.ga K "fitted", "fitted", "fitted", s_fitted⟩
def d_fitting : DefG := ⟨fun K => He.ga K "fitting", "fitting", "fitting", s_fitting⟩
def d_is_value : DefG := ⟨fun K => He.ga K "is_value", "is_value", "is_value", s_is_value⟩
def d_need_value : DefG := ⟨fun K => He.ga K "need_value", "need_value", "need_value", s_need_value⟩
def d_copied : DefG := ⟨fun K => He.ga K "copied", "copied", "copied", s_copied⟩
def d_hold_ahead : DefG := ⟨fun K => He.ga K "hold_ahead", "hold_ahead", "hold_ahead", s_hold_ahead⟩
def d_number_in : DefG := ⟨fun K => He.ga K "number_in", "number_in", "number_in", s_number_in⟩
def d_value_in : DefG := ⟨fun K => He.ga K "value_in", "value_in", "value_in", s_value_in⟩
def d_journal_text : DefG := ⟨fun K => He.ga K "journal_text", "journal_text", "journal_text", s_journal_text⟩
def d_pair_in : DefG := ⟨fun K => He.ga K "pair_in", "pair_in", "pair_in", s_pair_in⟩
def d_read_journal : DefG := ⟨fun K => He.ga K "read_journal", "read_journal", "read_journal", s_read_journal⟩
def d_law_cell : DefG := ⟨fun K => He.ga K "_law_cell", "_law_cell", "_law_cell", s_law_cell⟩
def d_law_pen : DefG := ⟨fun K => He.ga K "_law_pen", "_law_pen", "_law_pen", s_law_pen⟩
def d_law_draw : DefG := ⟨fun K => He.ga K "_law_draw", "_law_draw", "_law_draw", s_law_draw⟩
def d_law_table : DefG := ⟨fun K => He.ga K "_law_table", "_law_table", "_law_table", s_law_table⟩
def d_law_some_right : DefG := ⟨fun K => He.ga K "_law_some_right", "_law_some_right", "_law_some_right", s_law_some_right⟩
def d_law_right : DefG := ⟨fun K => He.ga K "_law_right", "_law_right", "_law_right", s_law_right⟩
def d_law : DefG := ⟨fun K => He.ga K "law", "law", "law", s_law⟩
def d_Stand_init : DefG := ⟨fun K => He.ma K (He.ga K "Stand") "__init__", "__init__", "Stand.__init__", s_Stand_init⟩
def d_Row_init : DefG := ⟨fun K => He.ma K (He.ga K "Row") "__init__", "__init__", "Row.__init__", s_Row_init⟩
def d_Row_put_out : DefG := ⟨fun K => He.ma K (He.ga K "Row") "put_out", "put_out", "Row.put_out", s_Row_put_out⟩
def d_Row_step : DefG := ⟨fun K => He.ma K (He.ga K "Row") "step", "step", "Row.step", s_Row_step⟩
def d_Row_push : DefG := ⟨fun K => He.ma K (He.ga K "Row") "push", "push", "Row.push", s_Row_push⟩
def d_Row_push_all : DefG := ⟨fun K => He.ma K (He.ga K "Row") "push_all", "push_all", "Row.push_all", s_Row_push_all⟩
def d_Row_getitem : DefG := ⟨fun K => He.ma K (He.ga K "Row") "__getitem__", "__getitem__", "Row.__getitem__", s_Row_getitem⟩
def d_Row_len : DefG := ⟨fun K => He.ma K (He.ga K "Row") "__len__", "__len__", "Row.__len__", s_Row_len⟩
def d_Row_tick : DefG := ⟨tickG, "tick", "Row.tick", s_Row_tick⟩
def fn : List DefG := [d_is_integer, d_is_between, d_is_onto, d_is_table, d_need_table, d_need_integer, d_hold_of, d_out_of, d_shortened, d_out_at, d_delay, d_shortest, d_are_seen, d_known_holds, d_fitted, d_fitting, d_is_value, d_need_value, d_copied, d_hold_ahead, d_number_in, d_value_in, d_journal_text, d_pair_in, d_read_journal, d_law_cell, d_law_pen, d_law_draw, d_law_table, d_law_some_right, d_law_right, d_law, d_Stand_init, d_Row_init, d_Row_put_out, d_Row_step, d_Row_push, d_Row_push_all, d_Row_getitem, d_Row_len, d_Row_tick]
def fa0 : List He.Fa := [.glo "is_integer", .glo "is_between", .glo "is_onto", .glo "is_table", .glo "need_table", .glo "need_integer", .glo "hold_of", .glo "out_of", .glo "shortened", .glo "out_at", .glo "delay", .glo "shortest", .glo "are_seen", .glo "known_holds", .glo "fitted", .glo "fitting", .glo "is_value", .glo "need_value", .glo "copied", .glo "hold_ahead", .glo "number_in", .glo "value_in", .glo "journal_text", .glo "pair_in", .glo "read_journal", .glo "_law_cell", .glo "_law_pen", .glo "_law_draw", .glo "_law_table", .glo "_law_some_right"]
def fa1 : List He.Fa := [.glo "_law_right", .glo "law", .free "isinstance", .free "int", .free "bool", .free "str", .free "tuple", .free "list", .free "dict", .free "len", .free "enumerate", .free "all", .free "range", .free "max", .free "min", .free "zip", .int "LONGEST" 24, .int "GREATEST_HOLD" 60, .int "MOST_SEEN" 200, .int "MOST_LETTERS" 10, .str "DIGITS" "0123456789", .str "LETTERS" "abcdefghijklmnopqrstuvwxyz", .glo "Stand", .glo "Row", .cls "Stand", .cls "Row", .mkr "Stand", .mkr "Row", .noat "Stand" "own", .noat "Stand" "begin"]
def fa2 : List He.Fa := [.noat "Stand" "coming", .noat "Stand" "ins", .noat "Stand" "outs", .noat "Stand" "due", .noat "Stand" "cuts", .noat "Stand" "gone", .noat "Stand" "many", .noat "Stand" "later", .noat "Row" "stands", .meth "Row" "put_out", .meth "Row" "step", .meth "Row" "push", .meth "Row" "push_all", .meth "Row" "__getitem__", .meth "Row" "__len__"]
def fa : List He.Fa := fa0 ++ fa1 ++ fa2
def ex (K : PySem.W.Frag) : Bool :=
  He.eqO (PySem.W.findIn K (.ref (He.ga K "Row")) "tick") (some (some (.ref (tickP K)))) && (He.eqO (PySem.W.specialIn K (.ref (tickP K)) "__get__") (some (some (.builtin "property.__get__"))) &&
    (decide (PySem.W.takesIn K (.ref (tickP K)) = some true) && (isTickRec K && (PySem.W.noSeq K (He.ga K "Row") && (PySem.W.fnIn K (He.ma K (He.ga K "Row") "__getitem__") && (He.eqO (PySem.W.findIn K (.ref (He.ga K "Row")) "__class__") (some (some (.builtin "object.__class__"))) && (He.eqO (PySem.W.specialIn K (.builtin "object.__class__") "__get__") (some (some (.builtin "getset_descriptor.__get__"))) &&
    (decide (PySem.W.takesIn K (.builtin "object.__class__") = some true) && (decide (PySem.W.mroIn K (He.ga K "Row") (.type "object") = some true) && decide (PySem.W.kitOne K (.ref (He.ga K "Row")) (.ref (He.ga K "Row")) = some true))))))))))
abbrev R : PySem.W.OpenRow := PySem.W.OpenLaw.row PySem.Challenge.rw_burstapart_k77_whole_tables_by_what_was
abbrev hk : PySem.W.Hook := hookK 5 fa ex fn
def ob (s : PySem.W.SharedT) : AlG := obsKG 5 fa ex fn (HandSHeadRun.getT s)
theorem ob_eq (s : PySem.W.SharedT) : ob s = hk.obs s.abs := obsKG_eq (HandSHeadRun.getT_eq s)
def nm0 : List Str := ["_wall", "BurstError", "NoTable", "NoInteger", "NoRow", "NoPlace", "NoValue", "NoSeen", "NoText", "LONGEST", "GREATEST_HOLD", "is_integer", "is_between", "is_onto", "is_table", "need_table", "need_integer", "hold_of", "out_of", "shortened", "out_at", "delay", "shortest", "MOST_SEEN", "are_seen", "known_holds", "fitted", "fitting", "LETTERS", "MOST_LETTERS"]
def nm1 : List Str := ["is_value", "need_value", "Stand", "copied", "hold_ahead", "holds_ahead", "cuts_ahead", "go_on_alike", "Row", "DIGITS", "number_in", "value_in", "journal_text", "pair_in", "read_journal", "_law_cell", "_law_pen", "_law_draw", "_law_table", "_law_some_right", "_law_right"]
def names : List Str := nm0 ++ nm1
theorem run (w : World) : HandSHeadRun.RunEq R (PySem.W.view R.prog [57]) hk ob 6000 names w := by
  intro os
  kernel_rfl
end Ba
end
section
set_option Elab.async false
set_option maxRecDepth 100000
set_option maxHeartbeats 4000000
/-! Rules of our own over the hand layer: what this program needs and the layer lacks. -/
namespace Ba
open PySem PySem.Spec PyProof.Rows L2

section
variable {X : Cx}
/-! ### constants of the module -/
theorem pe_gI {x : Str} {i : Int} {p : Pos} (hg : Gl X x) (h : ∃ t, X.mg x = some (.int i t)) (hd : (x == ("__debug__" : Str)) = false := by decide) : PE X (.Name x p) (tC (.int i)) := by
  obtain ⟨t, e⟩ := h
  exact pe_glob hg e ⟨t, rfl⟩ hd
theorem pe_gS {x : Str} {z : Str} {p : Pos} (hg : Gl X x) (h : ∃ t, X.mg x = some (.str z t)) (hd : (x == ("__debug__" : Str)) = false := by decide) : PE X (.Name x p) (tC (.str z)) := by
  obtain ⟨t, e⟩ := h
  exact pe_glob hg e ⟨t, rfl⟩ hd

/-! ### an attribute as one of several targets -/
def gAtt (K : PySem.W.Frag) (ta : TE) (f : Str) : TG := fun v σ H Q => ta σ H fun x H1 => ∃ a C dx fs, x = .ref a ∧ H1 a = some (.ins C dx fs) ∧ Cls K C ∧ NoAttr K C f ∧ fs.length < 1000 ∧ Q σ (upd H1 a (.ins C dx (putF f v fs)))
theorem pg_att {o : Expr} {f : Str} {ta : TE} {pos : Pos} (ho : PE X o ta) : PG X (.Attribute o f pos) (gAtt X.K ta f) := by
  refine ⟨fun pins s σ H v u Q I r h => ?_⟩
  rw [arm_assign_Attribute]
  refine wpAny_bind (wpAny_holding (thn (ho.run pins s σ H _ I h) fun ov s1 ⟨x, H1, I1, rx, a, C, dx, fs, ex, ea, c, n, l, q⟩ => ?_))
  subst ex
  obtain rfl : ov = Value.ref a := rx
  refine wpAny_bind (wpAny_standAt (wpAny_bind (wpAny_holding ?_)))
  exact setattr_ok I1 ea c n l r fun s2 I2 => wpAny_release ⟨σ, _, I2, q⟩

/-! ### o[i] and len(o) of an own class -/
theorem ins_at {pins : List (Addr × Obj)} {s : Shared} {σ : L2.St} {H : Hp} {a C dx : Addr} {fs : List (Str × V)} (I : Inv X pins σ H s) (e : H a = some (.ins C dx fs)) : ∃ ox od, PySem.W.InstAt s.heap a ox C od := by
  obtain ⟨mA, O, _⟩ := ins_get I.hok e
  obtain ⟨od, J, _⟩ := O.look
  exact ⟨_, _, J⟩
/-- a special method: its promise, from within a builtin -/
theorem run_in1 {CX : CXT} {k : Nat} {f : Addr} {sp : Sp} {E : XK} {Q : VK} {us : List Value} {vs : List V} {pins : List (Addr × Obj)} {s : Shared} {σ : L2.St} {H : Hp} {Ex : Value → Shared → Prop} (F : FnR X.prog X.w X.K X.mg X.base CX k f sp) (hr : Room (k + 1) X.A) (hx : Passes CX X.nox E)
    (I : Inv X pins σ H s) (r : Vals vs us) (h : sp vs H Q E) : wpAny (model X.prog X.w) X.A.in1 (call (.ref f) us) (EP X pins σ Q) Ex s := by
  refine wpAny_call (codeAny_mono (F X.A.in1 X.stack s H us vs Q E hr.in1 I.env0.in1 r h) fun r s' hq => ?_)
  cases r with
  | error er => exact False.elim (hx pins σ H s er s' (I.wish _) hq)
  | ok fl =>
    cases fl with
    | ret u => exact I.after hq
    | next => exact False.elim hq
    | brk => exact False.elim hq
    | cont => exact False.elim hq
structure OwnIx (K : PySem.W.Frag) (C g : Addr) : Prop where
  at_ : PySem.W.findIn K (.ref C) "__getitem__" = some (some (.ref g))
  fn : PySem.W.isFn K (.ref g) = true
  fd : PySem.W.fnIn K g = true
/-- o[i], o an instance of C: the promise of __getitem__ -/
def tOwnIx (C : Addr) (sp : Sp) (E : XK) (ta tb : TE) : TE := fun σ H Q => ta σ H fun x H1 => tb σ H1 fun y H2 => ∃ a dx fs, x = .ref a ∧ H2 a = some (.ins C dx fs) ∧ sp [.ref a, y] H2 Q E
theorem pe_ownIx {CX : CXT} {k : Nat} {C g : Addr} {sp : Sp} {E : XK} {a b : Expr} {ta tb : TE} {pos : Pos} (ha : PE X a ta) (hb : PE X b tb) (o : OwnIx X.K C g) (F : FnR X.prog X.w X.K X.mg X.base CX k g sp) (hr : Room (k + 1) X.A) (hx : Passes CX X.nox E)
    (hsl : ∀ x i, subscripted b true (.ref x) i = runValue (.builtin "lifetime.subscript" ⟨[.ref x, i], []⟩) := by intro _ _; with_unfolding_all rfl) :
    PE X (.Subscript a b pos) (tOwnIx C sp E ta tb) := by
  refine ⟨fun pins s σ H Q I h => ?_⟩
  refine Subscript_ (binT ha hb I h fun v u s2 x y H2 I2 rx ry q => ?_)
  obtain ⟨p, dx, fs, ex, ep, q⟩ := q
  subst ex
  obtain rfl : v = Value.ref p := rx
  obtain ⟨ox, od, J⟩ := ins_at I2 ep
  obtain ⟨m, F'⟩ := I2.fr
  exact PySem.W.sub_K F' I2.mod.kin J o.at_ o.fd o.fn (run_in1 (vs := [.ref p, y]) F hr hx I2 (.cons (show RelV (.ref p) (.ref p) from rfl) (.cons ry .nil)) q) (hsl p u)
/-- len(o), o an instance of C: the promise of __len__ -/
def rOwnLen (C : Addr) (sp : Sp) (E : XK) : List V → Hp → VK → Prop := fun xs H Q => ∃ a dx fs, xs = [.ref a] ∧ H a = some (.ins C dx fs) ∧ sp [.ref a] H (fun v H' => ∃ n : Int, v = .int n ∧ (0 ≤ n ∧ n < 2 ^ 63) ∧ Q (.int n) H') E
theorem call_ownLen {CX : CXT} {k : Nat} {C g : Addr} {sp : Sp} {E : XK} (hs : PySem.W.findIn X.K (.ref C) "__len__" = some (some (.ref g))) (hf : PySem.W.isFn X.K (.ref g) = true) (F : FnR X.prog X.w X.K X.mg X.base CX k g sp) (hr : Room (k + 1) X.A) (hx : Passes CX X.nox E) :
    CallR X (.builtin "len") (rOwnLen C sp E) := by
  intro pins s σ H xs us Q I r h
  obtain ⟨a, dx, fs, rfl, ea, q⟩ := h
  obtain ⟨u, rfl, ru⟩ := vals1 r
  obtain rfl : u = Value.ref a := ru
  obtain ⟨ox, od, J⟩ := ins_at I ea
  obtain ⟨m, F'⟩ := I.fr
  refine PySem.W.len_K F' I.mod.kin J hs hf (wpAny_mono (run_in1 (Ex := X.xe) (vs := [.ref a]) F hr hx I (.cons (show RelV (.ref a) (.ref a) from rfl) .nil) q) (fun v s' hv => ?_) fun _ _ z => z)
  obtain ⟨x, H', I', rx, n, ex, hn, q'⟩ := hv
  subst ex
  obtain ⟨t, rfl⟩ := rx
  exact ⟨hn, ⟨.int n, H', I'.tok _, ⟨_, rfl⟩, q'⟩⟩
/-- o.m(e, ..), the promise by positional values -/
theorem pe_methR {CX : CXT} {k : Nat} {C f : Addr} {m : Str} {sp : Sp} {E : XK} {o e : Expr} {es : List Expr} {ta : TE} {t : TA} {apos pos : Pos} {pl : Sem Bool} (he : PE X o ta) (c : Cls X.K C) (hm : Meth X.K C m f) (F : FnR X.prog X.w X.K X.mg X.base CX k f sp) (hr : Room k X.A) (hx : Passes CX X E) (ha : PA X (e :: es) t)
    (hst : starEach (e :: es) X.env = (false, eval e X.env) :: starEach es X.env := by rfl) (hpl : (backTo pos (starEach es X.env)).any (·.1) = false := by rfl)
    (ht : eval (.Call (.Attribute o m apos) (e :: es) [] pos) X.env = (do
      let ov ← eval o X.env
      standAt apos.atName
      let (f, first) ← holding [ov] (getMethod ov m pl)
      callWith pos f first (backTo pos (starEach (e :: es) X.env)) (backToKw pos (keywordEach [] X.env))) := by rfl) :
    PE X (.Call (.Attribute o m apos) (e :: es) [] pos) (tMeth C m sp [] E ta t) := by
  refine ⟨fun pins s σ H Q I h => ?_⟩
  refine PySem.W.methodCall_KW (pl := pl) (thn (he.run pins s σ H _ I h) fun u s1 ⟨x, H1, I1, rx, a, dx, fs, ex, ea, l, q⟩ => ?_) ht
  subst ex
  obtain rfl : u = Value.ref a := rx
  refine getmeth_ok I1 ea c hm l ?_
  refine PySem.W.callWith_K (first := [.ref a]) (h₀ := X.base) I.ok.mod.kin hm.kp (thn (ha.run pos pins s1 σ H1 _ I1 q) fun us s2 ⟨vs, H2, I2, r, q2⟩ => ⟨I2.kIn, ?_⟩) hst hpl
  have q2 : sp (V.ref a :: (vs ++ [])) H2 Q E := q2
  rw [List.append_nil] at q2
  exact wpAny_call (run_fnR (us := .ref a :: us) (vs := .ref a :: vs) F hr hx I2 (.cons rfl r) q2)

/-! ### isinstance, told by what the value is -/
theorem isi_int {i : Int} {b : Bool} {n : String} {K : PySem.W.Frag} {H : Hp} {Q : VK} (h : kitB "int" n = some b) (q : Q (.bl b) H) : rIsi K [.int i, .ty n] H Q := ⟨_, _, _, _, b, rfl, .ty n, .base (.int i), kit_ty h, q⟩
theorem isi_str {x : Str} {b : Bool} {n : String} {K : PySem.W.Frag} {H : Hp} {Q : VK} (h : kitB "str" n = some b) (q : Q (.bl b) H) : rIsi K [.str x, .ty n] H Q := ⟨_, _, _, _, b, rfl, .ty n, .base (.str x), kit_ty h, q⟩
theorem isi_tup {a : Addr} {xs : List V} {b : Bool} {n : String} {K : PySem.W.Frag} {H : Hp} {Q : VK} (e : H a = some (.tup xs)) (h : kitB "tuple" n = some b) (q : Q (.bl b) H) : rIsi K [.ref a, .ty n] H Q := ⟨_, _, _, _, b, rfl, .ty n, .base (.tup e), kit_ty h, q⟩

/-! ### max of a tuple of ints -/
theorem reads_ints {h : Heap} : ∀ {ns : List Int} {us : List Value}, Vals (ns.map V.int) us → ∃ bs, ReadsAll h us (ns.map PyData.int) bs
  | [], _, r => by
    cases r
    exact ⟨_, .nil⟩
  | n :: ns, _, r => by
    cases r with
    | cons r rr =>
      obtain ⟨t, rfl⟩ := r
      obtain ⟨bs, z⟩ := reads_ints rr
      exact ⟨_, .cons (.int _ _) z⟩
theorem alike_ints (ns : List Int) : PySem.W.AlikeAll (ns.map PyData.int) := by
  refine ⟨fun x hx y hy => ?_, fun x hx => ?_⟩
  · obtain ⟨i, _, rfl⟩ := List.mem_map.mp hx
    obtain ⟨j, _, rfl⟩ := List.mem_map.mp hy
    rfl
  · obtain ⟨i, _, rfl⟩ := List.mem_map.mp hx
    exact fun z => nomatch z
theorem depth_ints : ∀ ns : List Int, PyData.depthAll (ns.map PyData.int) = 0
  | [] => rfl
  | n :: ns => by
    rw [List.map_cons]
    show max (PyData.depth (.int n)) (PyData.depthAll (ns.map PyData.int)) = 0
    rw [depth_ints ns]
    rfl
def rMaxT (K : PySem.W.Frag) : List V → Hp → VK → Prop := fun xs H Q => ∃ (a : Addr) (n : Int) (ns : List Int), xs = [.ref a] ∧ SqT K H a ((n :: ns).map V.int) ∧ Q (.int (ns.foldl max n)) H
theorem cr_maxT (hc : X.calm = true) (hu : X.A.units + 1 < cLine) : CallR X (.builtin "max") (rMaxT X.K) := by
  intro pins s σ H xs us Q I r h
  obtain ⟨a, n, ns, rfl, hs, q⟩ := h
  obtain ⟨u, rfl, ru⟩ := vals1 r
  obtain rfl : u = Value.ref a := ru
  obtain ⟨its, rv, ht, _⟩ := I.tuple hs
  obtain ⟨bs, hr⟩ := reads_ints (h := s.heap) rv
  rw [List.map_cons] at hr
  refine PySem.W.max_tuple_data (vs := its.toArray) (I.ok.hd hc) ht hr (by rw [← List.map_cons (f := PyData.int)]; exact alike_ints (n :: ns)) (by rw [← List.map_cons (f := PyData.int), depth_ints]; exact hu) fun i v h' tk cs _ hv hk => ?_
  rw [PySem.W.maxD_ints] at hv
  cases hv
  exact ⟨.int _, H, I.kept hk, ⟨_, rfl⟩, q⟩

/-! ### t[::-1] -/
theorem pick_rev (items : Array Value) : ((List.range items.size).filterMap fun (m : Nat) => items[(((items.size : Int) - 1) + (m : Int) * (-1)).toNat]?).toArray = items.toList.reverse.toArray := by
  congr 1
  apply List.ext_getElem?
  intro i
  by_cases hi : i < items.size
  · have e : (List.range items.size).filterMap (fun (m : Nat) => items[(((items.size : Int) - 1) + (m : Int) * (-1)).toNat]?) = (List.range items.size).map (fun m => items[items.size - 1 - m]!) := by
      have go : ∀ l : List Nat, (∀ m ∈ l, m < items.size) → l.filterMap (fun (m : Nat) => items[(((items.size : Int) - 1) + (m : Int) * (-1)).toNat]?) = l.map (fun m => items[items.size - 1 - m]!) := by
        intro l
        induction l with
        | nil => intro _; rfl
        | cons m l ih =>
          intro hl
          have hm' := hl m List.mem_cons_self
          have e1 : (((items.size : Int) - 1) + (m : Int) * (-1)).toNat = items.size - 1 - m := by omega
          have e2 : items[items.size - 1 - m]? = some (items[items.size - 1 - m]!) := by rw [getElem!_pos items _ (by omega), Array.getElem?_eq_getElem (by omega)]
          rw [List.filterMap_cons, e1, e2, List.map_cons, ih fun k hk => hl k (List.mem_cons_of_mem _ hk)]
      exact go _ fun m hm => List.mem_range.mp hm
    rw [e, List.getElem?_map, List.getElem?_range hi, List.getElem?_reverse (by simpa using hi)]
    simp only [Option.map_some]
    rw [Array.length_toList, Array.getElem?_toList, getElem!_pos items _ (by omega), Array.getElem?_eq_getElem (by omega)]
  · rw [List.getElem?_eq_none (Nat.le_trans (List.length_filterMap_le _ _) (by rw [List.length_range]; omega)), List.getElem?_eq_none (by rw [List.length_reverse, Array.length_toList]; omega)]
theorem sliceApplied_rev {M : Program} {w : World} {A : Around} {E : Value → Shared → Prop} {s : Shared} {sl : Addr} {t : Tok} {n : Nat} {Q : Int × Int × Nat → Shared → Prop} (hs : s.heap.IsSliceOf sl .none .none (.int (-1) t))
    (h : Q ((n : Int) - 1, -1, n) s) : wpAny (model M w) A (Builtin.Slice.sliceApplied (.ref sl) (pure (n : Int))) Q E s := by
  obtain ⟨os, hos, hcs, hds⟩ := id hs
  unfold Builtin.Slice.sliceApplied Builtin.Slice.sliceFields
  refine wpAny_bind (wpAny_bind (wpAny_field hos hds (x := .none) rfl (wpAny_bind (wpAny_field hos hds (x := .none) rfl (wpAny_bind (wpAny_field hos hds (x := .int (-1) t) rfl (wpAny_pure ?_)))))))
  refine wpAny_bind (HT.slicePart_ (.int (-1) t) ?_)
  show wpAny _ _ (if ((-1 : Int) == 0) = true then _ else _) _ _ s
  rw [if_neg (by decide)]
  refine wpAny_bind (HT.slicePart_ .none (wpAny_bind (HT.slicePart_ .none (wpAny_bind (wpAny_pure ?_)))))
  have e1 : Builtin.Slice.sliceAdjust none none (-1) (n : Int) = ((n : Int) - 1, -1) := rfl
  have e2 : Builtin.Slice.slicePlaces ((n : Int) - 1) (-1) (-1) = n := by
    unfold Builtin.Slice.slicePlaces
    rw [if_neg (by decide)]
    by_cases hn : (n : Int) - 1 > -1
    · rw [if_pos hn]
      have e3 : (n : Int) - 1 - (-1) - 1 = (n : Int) - 1 := by omega
      rw [e3, show (-(-1) : Int) = 1 from rfl, Int.ediv_one]
      omega
    · rw [if_neg hn]
      omega
  show wpAny _ _ (match Builtin.Slice.sliceAdjust none none (-1) (n : Int) with | (lo, hi) => pure (lo, (-1 : Int), Builtin.Slice.slicePlaces lo hi (-1))) _ _ s
  rw [e1]
  show wpAny _ _ (pure ((n : Int) - 1, (-1 : Int), Builtin.Slice.slicePlaces ((n : Int) - 1) (-1) (-1))) _ _ s
  rw [e2]
  exact wpAny_pure h
/-- t[::-1], a new tuple (t not empty) -/
theorem getItem_tuple_rev {M : Program} {w : World} {A : Around} {E : Value → Shared → Prop} {s : Shared} {t sl : Addr} {items : Array Value} {tk : Tok} {Q : Value → Shared → Prop} (ht : IsTup s.heap t items) (hs : s.heap.IsSliceOf sl .none .none (.int (-1) tk))
    (h : Q (.ref s.heap.objs.size) { s with heap := s.heap.push { cls := .type "tuple", data := .seq items.toList.reverse.toArray } }) (hsz : items.size ≤ sizeLine) : wpAny (model M w) A (getItem (.ref t) (.ref sl)) Q E s := by
  have htake : sizeOk (.seq items.toList.reverse.toArray) := by
    show items.toList.reverse.toArray.size ≤ sizeLine
    rw [List.size_toArray, List.length_reverse, Array.length_toList]
    exact hsz
  obtain ⟨os, hos, hcs, hds⟩ := id hs
  have hTs : s.TypeIs (.ref sl) "slice" := ⟨os, hos, hcs⟩
  unfold getItem
  try with_reducible refine wpAny_holding ?_
  first | refine wpAny_bind (wpAny_pure ?_) | skip
  refine wpAny_bind (wpAny_sequenceKey ht.typeIs (by decide) ?_)
  refine wpAny_bind (wpAny_callSpecial?_slot (name := Str.ofString "__getitem__") ht.typeIs PyProof.Rows.slot_tuple_getitem
    (wpAny_call_entry PyProof.Rows.slot_tuple_getitem ht.typeIs PyProof.Rows.entry_tuple_getitem ?_ (PyProof.Rows.args_tuple_getitem _ _)))
  show wpAny _ _ (Builtin.Tuple.tupleItemsOf (.ref t) >>= _) _ _ s
  refine wpAny_bind (PyProof.Rows.tupleItemsOf_ ht ?_)
  refine wpAny_bind (wpAny_typeOf hTs ?_)
  rw [if_pos (by decide)]
  refine wpAny_bind (sliceApplied_rev hs ?_)
  show wpAny _ _ (if (((items.size : Int) - 1) == 0 && (-1 : Int) == 1 && items.size == items.size) = true then _ else _) _ _ s
  rw [if_neg (by rw [show ((-1 : Int) == 1) = false from rfl]; simp), pick_rev]
  first
    | exact wpAny_bind (m := Builtin.Tuple.tupleExact _) (wpAny_newObj_type (wpAny_pure ⟨_, rfl, wpAny_pure h⟩) htake)
    | exact wpAny_bind (m := Builtin.Tuple.tupleExact _) (wpAny_newObj_type (wpAny_bind (wpAny_pure (wpAny_pure ⟨_, rfl, wpAny_pure h⟩))) htake)
    | exact wpAny_bind (wpAny_bind (m := Builtin.Tuple.tupleExact _) (wpAny_newObj_type (wpAny_pure (wpAny_pure ⟨_, rfl, wpAny_pure h⟩)) htake))
    | exact wpAny_bind (wpAny_bind (m := Builtin.Tuple.tupleExact _) (wpAny_newObj_type (wpAny_pure ⟨_, rfl, wpAny_pure h⟩) htake))
def tRevT (K : PySem.W.Frag) (te : TE) : TE := fun σ H Q => te σ H fun x H1 => ∃ a xs, x = .ref a ∧ SqT K H1 a xs ∧ ∀ p, H1 p = none → Q (.ref p) (upd H1 p (.tup xs.reverse))
theorem pe_revT {e : Expr} {te : TE} {k : Nat} {p1 p2 p3 pos : Pos} (he : PE X e te) : PE X (.Subscript e (.Slice none none (some (.UnaryOp .USub (.Constant (.int 1) k p1) p2)) p3) pos) (tRevT X.K te) := by
  refine ⟨fun pins s σ H Q I h => ?_⟩
  refine Subscript_ (thn (he.run pins s σ H _ I h) fun v s1 ⟨x, H1, I1, r1, a, xs, ex, hx, q⟩ => ?_)
  subst ex
  cases r1
  have hst : PO X (some (.UnaryOp .USub (.Constant (.int 1) k p1) p2)) (tPart (tUn (rU fun i => .int (-i)) (tC (.int 1)))) := po_some (pe_un un_neg pe_int)
  refine wpAny_Slice (thn (po_none.run pins s1 σ H1 (fun o H2 => o = none ∧ H2 = H1) I1 ⟨rfl, rfl⟩) fun vl s2 ⟨l, H2, I2, pl, el, e2⟩ => ?_)
  subst el e2
  refine thn (po_none.run pins s2 σ H2 (fun o H3 => o = none ∧ H3 = H2) I2 ⟨rfl, rfl⟩) fun vu s3 ⟨u, H3, I3, pu, eu, e3⟩ => ?_
  subst eu e3
  refine thn (hst.run pins s3 σ H3 (fun o H4 => o = some (-1) ∧ H4 = H3) I3 ⟨1, rfl, -1, rfl, rfl, rfl⟩) fun vs s4 ⟨o, H4, I4, ps, eo, e4⟩ => ?_
  subst eo e4
  cases pl
  cases pu
  cases ps with
  | int _ tk =>
    have I5 : Inv X pins σ H4 { s4 with heap := s4.heap.push { cls := .type "slice", data := .fields #[Value.none, Value.none, .int (-1) tk] } } := I4.kept (t' := s4.toks) fun b ob q => Heap.get?_push_of_some _ q
    obtain ⟨its, r, ht, hz⟩ := I5.tuple hx
    have hlen := r.length
    refine tail_any (ops := [.ref a, .ref s4.heap.objs.size]) ht.typeIs PyProof.Rows.slot_tuple_getitem.lookup ?_ (by with_unfolding_all rfl)
    refine getItem_tuple_rev ht (Heap.IsSliceOf.new _ _ _ _) ?_ (by rw [List.size_toArray]; omega)
    refine ⟨.ref _, _, I5.laid (t' := s4.toks) (o := .tup xs.reverse) (fun b ob q => Heap.get?_push_of_some _ q) (Nat.le_refl _) ?_, rfl, q _ (I5.hok.fresh (Nat.le_refl _))⟩
    exact ⟨by rw [List.length_reverse]; exact hz, its.reverse, r.reverse, ⟨_, Heap.get?_push_size _ rfl, rfl, 0, rfl⟩⟩

/-! ### len of a set of ints -/
theorem call_lenSet : CallR X (.builtin "len") (fun xs H Q => ∃ (a : Addr) (S : Int → Bool) (n : Nat), xs = [.ref a] ∧ H a = some (SetO X.w a S n) ∧ Q (.int n) H) := by
  intro pins s σ H xs us Q I r h
  obtain ⟨a, S, n, rfl, ha, q⟩ := h
  obtain ⟨u, rfl, ru⟩ := vals1 r
  obtain rfl : u = Value.ref a := ru
  obtain ⟨o, es, ep, t, ho, hex, hd, _, _, _, hb, hf, hn, _⟩ := setO_get I ha
  have h4 : scanBound = 4096 := rfl
  exact call_len_set ho hex hd hf (by omega) ⟨.int n, H, I.tok _, ⟨_, by rw [hn]⟩, q⟩
end
end Ba
end
section
set_option Elab.async false
set_option maxRecDepth 100000
set_option maxHeartbeats 4000000
/-! Set comprehensions of ints; enumerate over a tuple. -/
namespace Ba
open PySem PySem.Spec PyProof.Rows L2

/-! ### {elt for target in iter if ..}, elt an int -/
/-- set.add of an int -/
theorem addI_ok {X : Cx} {pins : List (Addr × Obj)} {σ : L2.St} {H : Hp} {s : Shared} {E : Value → Shared → Prop} {D : Addr} {S : Int → Bool} {n : Nat} {y : Int} {tk : Tok} {Q : Value → Shared → Prop} (I : Inv X pins σ H s) (hD : H D = some (SetO X.w D S n)) (room : n + 1 < scanBound)
    (h : ∀ s', Inv X pins σ (upd H D (SetO X.w D (fun j => S j || decide (j = y)) (if S y = true then n else n + 1))) s' → Q .none s') : wpAny (model X.prog X.w) X.A (call (.builtin "set.add") [.ref D, .int y tk]) Q E s := by
  have RR := setO_get I hD
  refine setR_add RR room fun h' sb new => ?_
  have he : ∃ u, h'.get? D = some u := by
    have ⟨o, _, _, _, ho, _⟩ := new
    exact ⟨o, ho⟩
  exact h _ (I.write (e := D) (t' := s.toks + 1) (by rw [hD]; trivial) (.inl rfl) (fun b u hb hu => (sb.2 b hb).trans hu) he (setO_new new))
section
variable {X : Cx}
/-- D the new set -/
def tSi (w : World) (wi : TI) (g : TG) (tt : TT) (te : TE) (vs : List Nat) : TE := fun σ H Q => wi σ H fun J H1 => ∀ D, H1 D = none →
  ∃ W : Nat → Nat → Hp → Prop, (∃ m, W 0 m (upd H1 D (SetO w D (fun _ => false) 0))) ∧ ∀ i m H, W i m H →
    (J.stop i H ∧ Q (.ref D) H) ∨
      (J.go i H ∧ ∃ Nx : Hp → Prop, (∀ H', Nx H' → ∃ m', m' < m ∧ W (i + 1) m' H') ∧ ∀ x H', J.yld i H x H' → g x (wipe σ vs) H' fun σ2 H2 => wipe σ2 vs = wipe σ vs ∧ tt σ2 H2 fun b H3 =>
        if b = true then te σ2 H3 fun y H4 => ∃ (c : Int) (S : Int → Bool) (n : Nat), y = .int c ∧ H4 D = some (SetO w D S n) ∧ n + 1 < scanBound ∧ Nx (upd H4 D (SetO w D (fun j => S j || decide (j = c)) (if S c = true then n else n + 1))) else Nx H3)
theorem si_core {pins : List (Addr × Obj)} {s : Shared} {σ : L2.St} {H : Hp} {Q : VK} {elt tg iter : Expr} {ifs : List Expr} {scope : Scope} {own : List (PySem.Str × Nat)} {pos pos' : Pos} {wi : TI} {g : TG} {tt : TT} {te : TE} {use : Option (Value → Sem Unit)} {Qf : Value → Shared → Prop}
    (hc : X.calm = true) (hN : X.N.Nodup) (I : Inv X pins σ H s) (hi : PI X tg iter wi) (ok : BlkOk X.N X.env.scope scope own)
    (hg : ∀ (s : Shared) (H : Hp) (C : Addr) (cl : List (PySem.Str × Addr)) (fp : List Addr), PG (X.blk s H scope (compEnvC scope cl C X.env) fp) tg g)
    (ht : ∀ (s : Shared) (H : Hp) (C : Addr) (cl : List (PySem.Str × Addr)) (fp : List Addr), PTs (X.blk s H scope (compEnvC scope cl C X.env) fp) ifs tt)
    (he : ∀ (s : Shared) (H : Hp) (C : Addr) (cl : List (PySem.Str × Addr)) (fp : List Addr), PE (X.blk s H scope (compEnvC scope cl C X.env) fp) elt te)
    (hs : ∀ x, foldedSetIterable iter X.env x = pure x) (h : tSi X.w wi g tt te (own.map (·.2)) σ H Q)
    (hRR : ∀ D C s' m H', Inv X pins σ H' s' → Q (.ref D) H' → s'.heap.Ns C m → FpOk X pins H' C → compPost (model X.prog X.w) X.A X.xe use Qf (.ref D) C (.ok .next) s') :
    wpAny (model X.prog X.w) X.A (comprehension (.SetComp elt [⟨tg, iter, ifs, 0⟩] scope pos) scope X.env pos' (newSet (.type "set")) false (eval iter X.env) use) Qf X.xe s := by
  have hfree : ∀ y ∈ scope.names, y.2 = .free → ∃ c, X.env.cells.lookup y.1 = some c := fun y hy e =>
    (ok.free y hy e).elim (fun k => I.ok.has _ (.inl k)) (fun k => I.ok.has _ (.inr k))
  refine wpAny_comprehension_free (use := use) rfl hs (closure_ok hfree) ok.kind (fun y hy e => by rw [ok.uniq y hy, e])
    (thn (hi.run pins s σ H _ I h) fun xv s1 hx => thn hx fun itv s2 h2 => ?_)
  obtain ⟨it, fp, tn, J, H2, ei, I2, T, st2, f2, q⟩ := h2
  subst ei
  refine PpSet.newSet_ok (newEnv_comp ?_)
  generalize hD : s2.heap.objs.size = D
  obtain ⟨W, ⟨m0, w0⟩, turn⟩ := q D (I2.hok.fresh (Nat.le_of_eq hD))
  generalize hs3 : ({ s2 with heap := s2.heap.push { cls := .type "set", dict := none, data := .set #[] 0 (.fresh 0 0 (!X.w.params.followText "set-order")) } } : Shared) = s3
  have h3 : s3.heap = s2.heap.push { cls := .type "set", dict := none, data := .set #[] 0 (.fresh 0 0 (!X.w.params.followText "set-order")) } := by rw [← hs3]
  have I3 : Inv X pins σ (upd H2 D (SetO X.w D (fun _ => false) 0)) s3 := by
    rw [← hs3]
    refine I2.laid (t' := s2.toks) (fun b o e => Heap.get?_push_of_some _ e) (Nat.le_of_eq hD) ?_
    rw [← hD]
    exact setO_new (setR_fresh X.w)
  have sz : ∀ b ∈ fp, b < s2.heap.objs.size := fun b hb => let ⟨_, e, _⟩ := T.obj _ _ st2 b hb; Heap.lt_size e
  have f3 : ∀ b ∈ fp, FpOk X pins (upd H2 D (SetO X.w D (fun _ => false) 0)) b ∧ b < s3.heap.objs.size := fun b hb => by
    have hlt := sz b hb
    refine ⟨⟨?_, (f2 b hb).2⟩, by rw [h3, Heap.size_push]; exact Nat.lt_succ_of_lt hlt⟩
    rw [upd_ne (by rw [← hD]; exact Nat.ne_of_lt hlt)]
    exact (f2 b hb).1
  have st3 : tn 0 s3.heap := T.keep _ _ _ st2 fun b _ o e => by rw [h3]; exact Heap.get?_push_of_some _ e
  have I4 := block_start I3 ok hN f3
  have pg := hg s3 (upd H2 D (SetO X.w D (fun _ => false) 0)) s3.heap.objs.size (cellsFrom (s3.heap.objs.size + 1) scope.names (cloFrom X.env.cells scope.names [])) fp
  have pt := ht s3 (upd H2 D (SetO X.w D (fun _ => false) 0)) s3.heap.objs.size (cellsFrom (s3.heap.objs.size + 1) scope.names (cloFrom X.env.cells scope.names [])) fp
  have pe := he s3 (upd H2 D (SetO X.w D (fun _ => false) 0)) s3.heap.objs.size (cellsFrom (s3.heap.objs.size + 1) scope.names (cloFrom X.env.cells scope.names [])) fp
  show codeAny _ _ (.compStart (.SetComp elt [⟨tg, iter, ifs, 0⟩] scope pos) 0 (.ref it) (.ref D) (compEnvC scope (cellsFrom (s3.heap.objs.size + 1) scope.names (cloFrom X.env.cells scope.names [])) s3.heap.objs.size X.env))
    (compPost (model X.prog X.w) X.A X.xe use Qf (.ref D) s3.heap.objs.size) { s3 with heap := pushCells (s3.heap.push { cls := .type "dict", data := .dict #[] }) scope.names }
  have nfp : ∀ b ∈ fp, (upd H2 D (SetO X.w D (fun _ => false) 0)) b = none := fun b hb => (f3 b hb).1.1
  generalize hce : compEnvC scope (cellsFrom (s3.heap.objs.size + 1) scope.names (cloFrom X.env.cells scope.names [])) s3.heap.objs.size X.env = ce at I4 pg pt pe ⊢
  have cL : ce.locals = s3.heap.objs.size := by subst hce; rfl
  generalize hH3 : upd H2 D (SetO X.w D (fun _ => false) 0) = H3 at I3 I4 pg pt pe w0 nfp f3
  generalize hs4 : ({ s3 with heap := pushCells (s3.heap.push { cls := .type "dict", data := .dict #[] }) scope.names } : Shared) = s4 at I4 ⊢
  have st4 : tn 0 s4.heap := T.keep _ _ _ st3 fun b _ o e => by rw [← hs4]; exact pushCells_keeps _ _ _ _ (Heap.get?_push_of_some _ e)
  have stat : ∀ {σ' : L2.St} {H' : Hp} {s' : Shared}, Inv (X.blk s3 H3 scope ce fp) [] σ' H' s' → (∀ b ∈ fp, H' b = none) → ∀ b ∈ fp, FpOk (X.blk s3 H3 scope ce fp) [] H' b := fun {σ' H' s'} I' hn b hb =>
    ⟨hn b hb, (I'.ok.exf b hb).1, I'.ok.exfs b hb, .inl hb, fun x c e => (I'.ok.exf b hb).2 x c e, fun p hp => absurd (show p ∈ ([] : List (Addr × Obj)) ++ [] from hp) (by simp)⟩
  have loop : codeAny (model X.prog X.w) X.A (.compLoop (.SetComp elt [⟨tg, iter, ifs, 0⟩] scope pos) 0 (.ref it) (.ref D) ce) (compPost (model X.prog X.w) X.A X.xe use Qf (.ref D) s3.heap.objs.size) s4 := by
    refine PpSet.compLoopS_any (fun n s' => ∃ i H', Inv (X.blk s3 H3 scope ce fp) [] (wipe σ (own.map (·.2))) H' s' ∧ tn i s'.heap ∧ (∀ b ∈ fp, H' b = none) ∧ W i n H') ?_ m0 ⟨0, H3, I4, st4, nfp, w0⟩
    rintro n s5 ⟨i, H5, I5, st5, n5, w5⟩
    rcases turn i n H5 w5 with ⟨stop, qq⟩ | ⟨go, Nx, hNx, step⟩
    · refine thnF (T.done (X.blk s3 H3 scope ce fp) rfl rfl rfl hc i [] s5 _ H5 (fun _ _ => False) I5 (stat I5 n5) st5 stop) fun r s6 ⟨hr, I6⟩ => ?_
      subst hr
      have I7 : Inv X pins σ H5 s6 := I3.call' (ch := fp) I6.os I6.base I6.hok I6.bare fun b hb => ⟨(f3 b hb).1.2.2.2.1, (f3 b hb).1.2.1, (f3 b hb).1.2.2.2.2.1, (f3 b hb).1.2.2.2.2.2⟩
      have nC : H5 s3.heap.objs.size = none := by
        have z : H5 ce.locals = none := I6.free
        rw [cL] at z
        exact z
      obtain ⟨m, hn, _⟩ := I6.loc
      have hn : s6.heap.Ns ce.locals m := hn
      rw [cL] at hn
      exact hRR D s3.heap.objs.size s6 m H5 I7 qq hn (I3.fpOk (Nat.le_refl _) nC)
    · refine thnF (T.item (X.blk s3 H3 scope ce fp) rfl rfl rfl hc i [] s5 _ H5 (fun _ _ => False) I5 (stat I5 n5) st5 go) fun r s6 ⟨u, hr, h6⟩ => ?_
      subst hr
      refine thnF h6 fun _ s7 ⟨x, H7, I7, r7, y7, st7, n7⟩ => ?_
      have I7' := I7.pinned (stat I7 n7) (T.obj _ _ st7)
      refine thnF (pg.run _ s7 _ H7 x u _ I7' r7 (step x H7 y7)) fun _ s8 ⟨σ8, H8, I8, hw8, q8⟩ => ?_
      refine thnF (pt.run _ s8 σ8 H8 _ I8 q8) fun b s9 ⟨H9, I9, q9⟩ => ?_
      have fin : ∀ {s' : Shared} {H' : Hp}, Inv (X.blk s3 H3 scope ce fp) ([] ++ pinsAt fp s7.heap) σ8 H' s' → Nx H' →
          ∃ m, m < n ∧ ∃ i H', Inv (X.blk s3 H3 scope ce fp) [] (wipe σ (own.map (·.2))) H' s' ∧ tn i s'.heap ∧ (∀ b ∈ fp, H' b = none) ∧ W i m H' := fun {s' H'} I' nx => by
        obtain ⟨m', hm, w'⟩ := hNx H' nx
        have pin' : ∀ b ∈ fp, ∀ o, s7.heap.get? b = some o → s'.heap.get? b = some o ∧ H' b = none := fun b hb o e =>
          let z := I'.pin (b, o) (List.mem_append_right _ (List.mem_append_right _ (mem_pinsAt hb e)))
          ⟨z.1, z.2.1⟩
        have hl : (wipe σ (own.map (·.2))).length = σ8.length := by rw [← hw8, wipe_length]
        refine ⟨m', hm, i + 1, H', (I'.unpinned (pins := [])).weak hl (fun j v e => ?_), T.keep _ _ _ st7 fun b hb o e => (pin' b hb o e).1, fun b hb => ?_, w'⟩
        · rw [← hw8] at e
          exact (wipe_some e).1
        · obtain ⟨o, e, _⟩ := T.obj _ _ st7 b hb
          exact (pin' b hb o e).2
      cases b with
      | false =>
        simp only [Bool.false_eq_true, if_false] at q9 ⊢
        exact fin I9 q9
      | true =>
        simp only [if_true] at q9 ⊢
        refine thnF (pe.run _ s9 σ8 H9 _ I9 q9) fun z s10 ⟨yv, H10, I10, r10, cb, S0, n0, ey, hD10, hz10, nx⟩ => ?_
        subst ey
        obtain ⟨tk, rfl⟩ := (show ∃ t, z = Value.int cb t from r10)
        exact addI_ok (X := X.blk s3 H3 scope ce fp) I10 hD10 hz10 fun s11 I11 => fin I11 nx
  exact PpSet.codeAny_compStart_set loop (T.self X.A 0 _ _ _ st4 loop)
theorem pe_si {elt tg iter : Expr} {ifs : List Expr} {scope : Scope} {own : List (PySem.Str × Nat)} {pos : Pos} {wi : TI} {g : TG} {tt : TT} {te : TE} (hc : X.calm = true) (hN : X.N.Nodup) (hi : PI X tg iter wi) (ok : BlkOk X.N X.env.scope scope own)
    (hg : ∀ (s : Shared) (H : Hp) (C : Addr) (cl : List (PySem.Str × Addr)) (fp : List Addr), PG (X.blk s H scope (compEnvC scope cl C X.env) fp) tg g)
    (ht : ∀ (s : Shared) (H : Hp) (C : Addr) (cl : List (PySem.Str × Addr)) (fp : List Addr), PTs (X.blk s H scope (compEnvC scope cl C X.env) fp) ifs tt)
    (he : ∀ (s : Shared) (H : Hp) (C : Addr) (cl : List (PySem.Str × Addr)) (fp : List Addr), PE (X.blk s H scope (compEnvC scope cl C X.env) fp) elt te)
    (hs : ∀ x, foldedSetIterable iter X.env x = pure x := by intro _; rfl) :
    PE X (.SetComp elt [⟨tg, iter, ifs, 0⟩] scope pos) (tSi X.w wi g tt te (own.map (·.2))) := by
  refine ⟨fun pins s σ H Q I h => ?_⟩
  rw [PpSet.eval_SetComp]
  refine si_core hc hN I hi ok hg ht he hs h fun D C s' m H' I' q hn f => ⟨m, hn, fun h'' sb => ?_⟩
  obtain ⟨f0, f1, f2, f3, f4, f5⟩ := f
  exact ⟨.ref D, H', I'.turned (t' := s'.toks) (fun b o hb e => (sb.2 b hb).trans e) f0 f1 f3 f4 f5, rfl, q⟩
end
/-- over anything that walks -/
theorem si_it {J : It} {n : Nat} {G : Hp → Prop} {Y : Nat → Hp → V → Hp → Prop} (wk : Walk J n G Y) {w : World} {g : TG} {tt : TT} {te : TE} {vs : List Nat} {σ : L2.St} {H1 : Hp} {D : Addr} {Qd : Hp → Prop} (Pv : Nat → Hp → Prop) (h0 : Pv 0 (upd H1 D (SetO w D (fun _ => false) 0)))
    (hG : ∀ i H, i ≤ n → Pv i H → G H)
    (hs : ∀ i x H H', i < n → Pv i H → Y i H x H' → g x (wipe σ vs) H' fun σ2 H2 => wipe σ2 vs = wipe σ vs ∧ tt σ2 H2 fun b H3 =>
      if b = true then te σ2 H3 fun y H4 => ∃ (c : Int) (S : Int → Bool) (n : Nat), y = .int c ∧ H4 D = some (SetO w D S n) ∧ n + 1 < scanBound ∧ Pv (i + 1) (upd H4 D (SetO w D (fun j => S j || decide (j = c)) (if S c = true then n else n + 1))) else Pv (i + 1) H3) (hd : ∀ H, Pv n H → Qd H) :
    ∃ W : Nat → Nat → Hp → Prop, (∃ m, W 0 m (upd H1 D (SetO w D (fun _ => false) 0))) ∧ ∀ i m H, W i m H →
      (J.stop i H ∧ Qd H) ∨ (J.go i H ∧ ∃ Nx : Hp → Prop, (∀ H', Nx H' → ∃ m', m' < m ∧ W (i + 1) m' H') ∧ ∀ x H', J.yld i H x H' → g x (wipe σ vs) H' fun σ2 H2 => wipe σ2 vs = wipe σ vs ∧ tt σ2 H2 fun b H3 =>
        if b = true then te σ2 H3 fun y H4 => ∃ (c : Int) (S : Int → Bool) (n : Nat), y = .int c ∧ H4 D = some (SetO w D S n) ∧ n + 1 < scanBound ∧ Nx (upd H4 D (SetO w D (fun j => S j || decide (j = c)) (if S c = true then n else n + 1))) else Nx H3) := by
  refine ⟨fun i m H => m = n - i ∧ i ≤ n ∧ Pv i H, ⟨n, by simp, Nat.zero_le _, h0⟩, ?_⟩
  rintro i m H ⟨rfl, hi, p⟩
  have q := hG i H hi p
  by_cases hlt : i < n
  · exact .inr ⟨wk.goes i H hlt q, Pv (i + 1), fun H' p' => ⟨n - (i + 1), by omega, rfl, hlt, p'⟩, fun x H' y => hs i x H H' hlt p (wk.yields i H x H' hlt q y)⟩
  · obtain rfl : i = n := by omega
    exact .inl ⟨wk.stops H q, hd H p⟩

/-! ### enumerate over a tuple -/
def IteT (K : PySem.W.Frag) (a : Addr) : It :=
  ⟨fun i H => ∃ xs x, SqT K H a xs ∧ xs[i]? = some x, fun i H v H' => ∃ T x, v = .ref T ∧ H T = none ∧ H' = upd H T (.tup [.int (i : Nat), x]) ∧ ∀ xs, SqT K H a xs → xs[i]? = some x, fun i H => ∃ xs, SqT K H a xs ∧ xs.length ≤ i⟩
theorem turn_enumT {P : Program} {w : World} {K : PySem.W.Frag} {elts : List Expr} {kk : Nat} {tpos : Pos} (a e it : Addr) :
    Turn P w K (.Tuple elts kk tpos) (IteT K a) [e, it] e (fun i h => (∃ old, IsEnum h e it ((i : Nat) : Int) old) ∧ h.IsTupleIter it a i ∧ e ≠ it) where
  mem := by simp
  obj := fun i h st b hb => by
    obtain ⟨⟨old, he⟩, ⟨o, ho, hc, hd⟩, _⟩ := st
    have e' : b = e ∨ b = it := by simpa using hb
    rcases e' with z | z
    · rw [z]; exact ⟨_, he, fun v q => nomatch q⟩
    · rw [z]; exact ⟨o, ho, fun v q => by rw [hd] at q; cases q⟩
  keep := fun i h h' st k => let ⟨⟨old, he⟩, hi, hne⟩ := st; ⟨⟨old, k e (by simp) _ he⟩, hi.at fun o q => k it (by simp) o q, hne⟩
  item := by
    intro X hP hw hK hc i pins s σ H E I hf st hg
    subst hP hw hK
    obtain ⟨⟨old, he⟩, hit, hne⟩ := st
    obtain ⟨xs, x, hq, hx⟩ := hg
    obtain ⟨its, rv, p, hz⟩ := I.tuple hq
    obtain ⟨u, hu, ru⟩ := rv.get hx
    have hel : e < s.heap.objs.size := Heap.lt_size he
    have hil : it < s.heap.objs.size := by obtain ⟨_, q, _⟩ := hit; exact Heap.lt_size q
    have hai : a ≠ it := fun z => by
      obtain ⟨o1, q1, c1, d1⟩ := hit
      obtain ⟨o2, q2, c2, _⟩ := p
      rw [z, q1] at q2
      cases q2
      rw [c1] at c2
      exact absurd c2 (by decide)
    have hae : e ≠ a := fun z => by
      obtain ⟨o2, q2, c2, _⟩ := p
      rw [← z, he] at q2
      cases q2
      have c3 : Value.type "enumerate" = Value.type "tuple" := c2
      exact absurd c3 (by decide)
    have D := Draws.tuple (prog := X.prog) (w := X.w) (A := X.A.in1) (I.ok.hd hc) it a hai its.toArray
    have hlt : i < its.toArray.size := by
      rw [List.size_toArray]
      exact (List.getElem?_eq_some_iff.mp hu).1
    refine wpAny_pyNext_enum_itemD D he ⟨hit, p⟩ hlt hne (by simp [hne, hae]) fun x' h' tk hx' ho st' hT hsz hk => ?_
    have ex : x' = u := by
      have e1 : its.toArray[i]? = some u := by simpa using hu
      rw [e1] at hx'
      exact (Option.some.inj hx').symm
    subst ex
    refine ⟨_, rfl, wpAny_letOwnedTupleGo_enum (s := { s with heap := h', toks := tk + 1 }) ho fun h'' he' sb => ?_⟩
    have hT2 : h''.get? s.heap.objs.size = some { cls := .type "tuple", data := .seq #[.int i tk, x'] } := (sb.2 _ (Nat.ne_of_gt hel)).trans hT
    have new : ObjOk X.prog X.w (upd H s.heap.objs.size (.tup [.int (i : Nat), x])) h'' s.heap.objs.size (.tup [.int (i : Nat), x]) :=
      ⟨by show 2 ≤ sizeLine; decide, [.int i tk, x'], .cons ⟨_, rfl⟩ (.cons ru .nil), ⟨_, hT2, rfl, _, rfl⟩⟩
    have I1 : Inv X pins σ (upd H s.heap.objs.size (.tup [.int (i : Nat), x])) { s with heap := h'', toks := tk + 1 } :=
      I.turnedNew (ch := [e, it]) (fun b ob hb q => (sb.2 b (fun z => hb (by simp [z]))).trans (hk b ob (fun z => hb (by simp [z])) (fun z => hb (by simp [z])) q)) hf (Nat.le_refl _) new
    refine ⟨.ref s.heap.objs.size, _, I1, rfl, ⟨_, x, rfl, I.hok.fresh (Nat.le_refl _), rfl, fun ys hy => by rw [I.tuple_inj hy hq]; exact hx⟩, ⟨⟨x', ?_⟩, st'.1.at fun o q => (sb.2 it (Ne.symm hne)).trans q, hne⟩, fun b hb => ?_⟩
    · have e1 : ((i + 1 : Nat) : Int) = (i : Int) + 1 := by omega
      rw [e1]; exact he'
    · have hb' : b < s.heap.objs.size := by
        have e' : b = e ∨ b = it := by simpa using hb
        rcases e' with z | z
        · rw [z]; exact hel
        · rw [z]; exact hil
      rw [upd_ne (Nat.ne_of_lt hb')]
      exact (hf b hb).1
  done := by
    intro X hP hw hK hc i pins s σ H E I hf st hg
    subst hP hw hK
    obtain ⟨⟨old, he⟩, hit, hne⟩ := st
    obtain ⟨xs, hq, hx⟩ := hg
    obtain ⟨its, rv, p, hz⟩ := I.tuple hq
    obtain ⟨f0, f1, f2, f3, f4, f5⟩ := hf it (by simp)
    have hai : a ≠ it := fun z => by
      obtain ⟨o1, q1, c1, d1⟩ := hit
      obtain ⟨o2, q2, c2, _⟩ := p
      rw [z, q1] at q2
      cases q2
      rw [c1] at c2
      exact absurd c2 (by decide)
    unfold pyNext
    have hT : s.TypeIs (.ref e) "enumerate" := ⟨_, he, rfl⟩
    refine wpAny_bind (wpAny_attempt (wpAny_callSpecial?_slot (name := Str.ofString "__next__") hT F.slot_enumerate_next
      (wpAny_call_entry F.slot_enumerate_next hT F.entry_enumerate_next ?_ (F.args_enumerate_next_1 _))))
    show wpAny _ _ (field (.ref e) 2 >>= _) _ _ _
    refine wpAny_bind (wpAny_field he rfl (x := .ref it) rfl ?_)
    refine wpAny_bind (wpAny_nextOf_tuple_end (A := X.A.in1) (I.ok.hd hc) hit p (by
      have := rv.length
      simp; omega) fun h' x he' hx' => ?_)
    obtain ⟨o, ho, hc'⟩ := hx'
    refine wpAny_bind (wpAny_isInstance (T := "StopIteration") (b := true) ⟨o, ho, hc'⟩ isSubtype_stop ?_)
    exact wpAny_pure ⟨rfl, I.turned (t' := s.toks) (fun b o hb q => he' b o hb q) f0 f1 f3 f4 f5⟩
  self := fun A i s Q E st h => let ⟨⟨_, he⟩, _⟩ := st; wpAny_pyIter_enum he h
set_option maxHeartbeats 1000000 in
theorem meets_enum1 {v : Value} {o : Obj} {H : Heap → Prop} (B : Begins v o H) :
    Meets (Builtin.«enumerate.__new__» ⟨[.type "enumerate", v], []⟩) (fun _ R s => H s.heap ∧
      R (.ok (.ret (.ref (s.heap.push o).objs.size))) { s with heap := (s.heap.push o).push { cls := .type "enumerate", data := .fields #[.none, .bool false, .ref s.heap.objs.size, rawInt 0, .none, .none] } }) :=
  .of_wp fun prog w A R s h => by
    obtain ⟨hp, g, d, tk, os⟩ := s
    obtain ⟨h1, h⟩ := h
    have hsub := sub_enumerate
    have q1 : ∀ {A' : Around} {E : Value → Shared → Prop} {Q : Value → Shared → Prop}, Q (.ref hp.objs.size) ⟨hp.push o, g, d, tk, os⟩ → wpAny (model prog w) A' (pyIter v) Q E ⟨hp, g, d, tk, os⟩ :=
      fun q => B.iter prog w _ _ ⟨hp, g, d, tk, os⟩ _ h1 q
    wp_walk using q1
    refine wpAny_stack_any fun st => wpAny_pure ?_
    split
    · rename_i c _ _ _ _ _
      cases (c == Value.type "enumerate")
      · wp_walk using q1
        exact ⟨_, rfl, h⟩
      · wp_walk using q1
        exact ⟨_, rfl, h⟩
    · wp_walk using q1
      exact ⟨_, rfl, h⟩
theorem call_enum1 {prog : Program} {w : World} {A : Around} {E : Value → Shared → Prop} {s : Shared} {v : Value} {o : Obj} {H : Heap → Prop} {Q : Value → Shared → Prop} (B : Begins v o H) (h1 : H s.heap)
    (h : ∀ h', IsEnum h' (s.heap.objs.size + 1) s.heap.objs.size 0 .none → h'.get? s.heap.objs.size = some o → (∀ b o, s.heap.get? b = some o → h'.get? b = some o) → Q (.ref (s.heap.objs.size + 1)) { s with heap := h' }) :
    wpAny (model prog w) A (call (.type "enumerate") [v]) Q E s := by
  refine callType_new F.called_enumerate (by decide) (F.typeCall_enumerate_1 _) (F.newCall_enumerate_1 _) (fun obj => F.args_object_init_2 obj _) F.entry_enumerate_new (meets_enum1 B) ⟨h1, ?_⟩
  have hz : (s.heap.push o).objs.size = s.heap.objs.size + 1 := Heap.size_push ..
  show _ ∧ _
  rw [hz]
  have he : IsEnum ((s.heap.push o).push { cls := .type "enumerate", data := .fields #[.none, .bool false, .ref s.heap.objs.size, rawInt 0, .none, .none] }) (s.heap.objs.size + 1) s.heap.objs.size 0 .none := by
    have z := Heap.get?_push_size (s.heap.push o) (o := { cls := .type "enumerate", data := .fields #[.none, .bool false, .ref s.heap.objs.size, rawInt 0, .none, .none] }) rfl
    rw [hz] at z
    exact z
  exact ⟨⟨_, he, rfl⟩, h _ he (Heap.get?_push_of_some _ (Heap.get?_push_size _ B.free)) fun b o x => Heap.get?_push_of_some _ (Heap.get?_push_of_some _ x)⟩
def iEnumT (K : PySem.W.Frag) (ta : TA) : TI := fun σ H R => ta σ H fun vs H1 => ∃ a xs, vs = [.ref a] ∧ SqT K H1 a xs ∧ R (IteT K a) H1
theorem pi_enumT {X : Cx} {e : Expr} {ta : TA} {p pos tpos : Pos} {elts : List Expr} {kk : Nat} (hg : Gl X "enumerate") (hm : X.mg "enumerate" = none) (ha : PA X [e] ta) (hs : starEach [e] X.env = [(false, eval e X.env)] := by rfl) :
    PI X (.Tuple elts kk tpos) (.Call (.Name "enumerate" p) [e] [] pos) (iEnumT X.K ta) := by
  refine ⟨fun pins s σ H R I h => ?_⟩
  refine Call_ (ld_blt I hg hm boot_enumerate (PyProof.Rows.callWith_type1 (thn (ha.run pos pins s σ H _ I h) fun us s1 ⟨vs, H1, I1, r1, a, xs, ex, hq, q⟩ => ?_) hs rfl))
  subst ex
  cases r1 with
  | cons r rr =>
    cases rr
    cases r
    obtain ⟨its, rv, p', hz⟩ := I1.tuple hq
    refine call_enum1 (begins_tuple a its.toArray) (show s1.heap.IsTuple a its.toArray from p') fun h' he hit hk => wpAny_pyIter_enum he ?_
    have I2 : Inv X pins σ H1 { s1 with heap := h' } := I1.kept (t' := s1.toks) hk
    refine ⟨s1.heap.objs.size + 1, [s1.heap.objs.size + 1, s1.heap.objs.size], _, _, H1, rfl, I2, turn_enumT a (s1.heap.objs.size + 1) s1.heap.objs.size, ⟨⟨.none, he⟩, ⟨_, hit, rfl, rfl⟩, Nat.succ_ne_self _⟩, fun b hb => ?_, q⟩
    have e' : b = s1.heap.objs.size + 1 ∨ b = s1.heap.objs.size := by simpa using hb
    have hle : s1.heap.objs.size ≤ b := by
      rcases e' with z | z
      · rw [z]; exact Nat.le_add_right _ _
      · rw [z]; exact Nat.le_refl _
    exact I1.fpOk hle (I1.hok.fresh hle)
theorem walk_enumT {K : PySem.W.Frag} {a : Addr} {xs : List V} : Walk (IteT K a) xs.length (fun H => SqT K H a xs) (YPair (fun i => some (.int (i : Nat))) (fun i => xs[i]?)) := by
  refine ⟨fun i _ hi q => ⟨xs, xs[i], q, by simp [hi]⟩, fun _ q => ⟨xs, q, Nat.le_refl _⟩, fun i H v H' _ q y => ?_⟩
  obtain ⟨T, x, h1, h2, h3, h4⟩ := y
  exact ⟨T, .int (i : Nat), x, h1, h2, h3, rfl, h4 xs q⟩
/-! ### rules whose reading names the written part: for the turns of a comprehension -/
section
variable {X : Cx} {K : PySem.W.Frag} {w : World}
def rLenK (K : PySem.W.Frag) : List V → Hp → VK → Prop := fun xs H Q => ∃ p ys, xs = [.ref p] ∧ (SqL K H p ys ∨ SqT K H p ys) ∧ Q (.int ys.length) H
theorem call_len_seqK (hK : X.K = K) : CallR X (.builtin "len") (rLenK K) := by
  subst hK
  exact call_len_seq
theorem call_isiK (hK : X.K = K) : CallR X (.builtin "isinstance") (rIsi K) := by
  subst hK
  exact call_isi
theorem ix_tupK (hK : X.K = K) : IxR X (rIxT K) := by
  subst hK
  exact ix_tup
theorem ix_listK (hK : X.K = K) : IxR X (rIxL K) := by
  subst hK
  exact ix_list
theorem or_snotinW (hw : X.w = w) : OpR X (compareOp .NotIn) (rSNotIn w) := by
  subst hw
  exact or_snotin
end
end Ba
end
section
set_option Elab.async false
set_option maxRecDepth 100000
set_option maxHeartbeats 4000000
/-! tuple * 1 is the tuple itself. -/
namespace Ba
open PySem PySem.Spec PyProof.Rows L2
open AutoSeq1 (wpAny_loadPart')
theorem tuple_mul1 (l : Addr) (items : Array Value) (n : Nat) (dd : Option Addr) (sl : Array (Option Value)) (u : Tok) :
    Meets (Builtin.«tuple.__mul__» ⟨[.ref l, .int 1 u], []⟩) (fun _ R s => s.heap.get? l = some { cls := .type "tuple", dict := dd, data := .seq items n, slots := sl } ∧ R (.ok (.ret (Value.ref l))) s) :=
  .of_wp fun prog w A R s h => by
    obtain ⟨hp, g, d, tk, os⟩ := s
    obtain ⟨hl, h⟩ := h
    have f1 := AutoSeq1.idx_int
    have c0 : (decide ((1 : Int) < -(2 ^ 63)) || decide ((1 : Int) ≥ 2 ^ 63)) = false := by decide
    have c1 : (items.isEmpty || (1 : Int) == 1) = true := by rw [show ((1 : Int) == 1) = true from rfl, Bool.or_true]
    wp_walk using wpAny_loadPart' hl
    repeat (first
      | (refine wpAny_ite_false (decide_eq_false (by rw [c0]; exact Bool.false_ne_true)) ?_; wp_walk using wpAny_loadPart' hl)
      | (refine wpAny_ite_true (decide_eq_true c1) ?_; wp_walk using wpAny_loadPart' hl))
    exact ⟨_, rfl, h⟩
def rRepA (K : PySem.W.Frag) : R2 := fun x y H Q => ∃ l k xs, x = .ref l ∧ y = .int k ∧ SqT K H l xs ∧ xs ≠ [] ∧ 1 ≤ k ∧ k ≤ 1000 ∧ xs.length ≤ 1000 ∧ (k = 1 → Q (.ref l) H) ∧ (2 ≤ k → ∀ p, H p = none → Q (.ref p) (upd H p (.tup (List.replicate k.toNat xs).flatten)))
theorem op_repAny {X : Cx} : OpR X (binaryOp .Mult) (rRepA X.K) := by
  intro pins s σ H x y v u Q I rx ry h
  obtain ⟨l, k, xs, rfl, rfl, hT, hne, h1, h2, hz, q1, q2⟩ := h
  by_cases hk : k = 1
  · subst hk
    cases rx
    obtain ⟨t, rfl⟩ := ry
    obtain ⟨its, r, ⟨⟨cls, dd, data, sl⟩, ho, hc, n, hd⟩, hs⟩ := I.tuple hT
    simp only at hc hd
    subst hc hd
    exact wpAny_binaryOp_repeat_ref (T := "tuple") (U := "int") (by decide) ⟨_, ho, rfl⟩ (fun s' => typeIs_int s' 1 t) noFill_tuple_mul F.fills_int_mul F.slot_int_rmul repeat_tuple F.slot_int_index.lookup
      (call_meets F.slot_int_rmul (typeIs_int s 1 t) F.entry_int_rmul (F.args_int_rmul_2 _ _) (int_rmul_tuple 1 t l its.toArray n dd sl)
        ⟨ho, rfl, ⟨_, ho, rfl⟩, call_meets F.slot_tuple_mul ⟨_, ho, rfl⟩ F.entry_tuple_mul (F.args_tuple_mul_2 _ _) (tuple_mul1 l its.toArray n dd sl t) ⟨ho, ⟨.ref l, H, I, rfl, q1 rfl⟩⟩⟩)
  · exact op_repT pins s σ H _ _ v u Q I rx ry ⟨l, k, xs, rfl, rfl, hT, hne, by omega, h2, hz, q2 (by omega)⟩
/-! ### == of tuples and lists of ints (and None) -/
theorem dp_ints {K : PySem.W.Frag} {H : Hp} : ∀ t : List Int, DpAll K H (t.map V.int) (t.map PyData.int)
  | [] => .nil
  | i :: t => .cons (.int i) (dp_ints t)
theorem lay_ints : ∀ t : List Int, PyData.canLayAll0 (t.map PyData.int) = true
  | [] => rfl
  | i :: t => by
    rw [List.map_cons]
    simp only [PyData.canLayAll0, PyData.canLay0, lay_ints t]
    rfl
theorem shaped_tup (t : List Int) : SeqAt.shaped (.tuple (t.map PyData.int)) = true := by
  unfold SeqAt.shaped
  simp only [PyData.canLay0, lay_ints, PyData.depth, depth_ints]
  rfl
theorem shaped_lst (t : List Int) : SeqAt.shaped (.list (t.map PyData.int)) = true := by
  unfold SeqAt.shaped
  simp only [PyData.canLay0, lay_ints, PyData.depth, depth_ints]
  rfl
theorem eqvAll_ints : ∀ a b : List Int, PyData.eqvAll (a.map PyData.int) (b.map PyData.int) = decide (a = b)
  | [], [] => rfl
  | [], _ :: _ => rfl
  | _ :: _, [] => rfl
  | x :: a, y :: b => by
    rw [List.map_cons, List.map_cons]
    simp only [PyData.eqvAll, PyData.eqv, eqvAll_ints a b]
    by_cases h1 : x = y
    · subst h1
      simp
    · have e1 : (x == y) = false := beq_eq_false_iff_ne.mpr h1
      rw [e1, decide_eq_false (fun z => h1 (List.cons.inj z).1)]
      rfl
/-- the data of a value that is None or an int -/
def ovV : Option Int → V
  | none => .non
  | some i => .int i
def ovD : Option Int → PyData
  | none => .none
  | some i => .int i
theorem dp_ov {K : PySem.W.Frag} {H : Hp} : ∀ t : List (Option Int), DpAll K H (t.map ovV) (t.map ovD)
  | [] => .nil
  | none :: t => .cons .non (dp_ov t)
  | some i :: t => .cons (.int i) (dp_ov t)
theorem lay_ov : ∀ t : List (Option Int), PyData.canLayAll0 (t.map ovD) = true
  | [] => rfl
  | none :: t => by
    rw [List.map_cons]
    simp only [ovD, PyData.canLayAll0, PyData.canLay0, lay_ov t]
    rfl
  | some i :: t => by
    rw [List.map_cons]
    simp only [ovD, PyData.canLayAll0, PyData.canLay0, lay_ov t]
    rfl
theorem depth_ov : ∀ t : List (Option Int), PyData.depthAll (t.map ovD) = 0
  | [] => rfl
  | none :: t => by
    rw [List.map_cons]
    show max (PyData.depth .none) (PyData.depthAll (t.map ovD)) = 0
    rw [depth_ov t]
    rfl
  | some i :: t => by
    rw [List.map_cons]
    show max (PyData.depth (.int i)) (PyData.depthAll (t.map ovD)) = 0
    rw [depth_ov t]
    rfl
theorem shaped_ov (t : List (Option Int)) : SeqAt.shaped (.list (t.map ovD)) = true := by
  unfold SeqAt.shaped
  simp only [PyData.canLay0, lay_ov, PyData.depth, depth_ov]
  rfl
theorem eqv_ov (t : List (Option Int)) : PyData.eqv (.list (t.map ovD)) (.list (t.map ovD)) = true := SeqAt.eqv_refl _ (SeqAt.canLay_of_shaped (shaped_ov t))
end Ba
end
section
set_option Elab.async false
set_option maxRecDepth 100000
set_option maxHeartbeats 4000000
/-! What the walk takes of the top: one structure; a def by its name. -/
namespace Ba
open PySem PySem.Spec PyProof.Rows L2
/-- the def of that name and text -/
def Def (K : PySem.W.Frag) (mg : Str → Option Value) (x : Str) (st : Stmt) : Prop := (∃ fd, Fun K x x st (He.ga K x) fd) ∧ mg x = some (.ref (He.ga K x))
/-- the method -/
def MDef (K : PySem.W.Frag) (C : Addr) (m qual : Str) (st : Stmt) : Prop := (∃ fd, Fun K m qual st (He.ma K C m) fd) ∧ Meth K C m (He.ma K C m)
abbrev CR (K : PySem.W.Frag) : Addr := He.ga K "Row"
abbrev CS (K : PySem.W.Frag) : Addr := He.ga K "Stand"
structure Txt (K : PySem.W.Frag) (mg : Str → Option Value) : Prop where
  b_isinstance : mg "isinstance" = none
  b_int : mg "int" = none
  b_bool : mg "bool" = none
  b_str : mg "str" = none
  b_tuple : mg "tuple" = none
  b_list : mg "list" = none
  b_dict : mg "dict" = none
  b_len : mg "len" = none
  b_enumerate : mg "enumerate" = none
  b_all : mg "all" = none
  b_range : mg "range" = none
  b_max : mg "max" = none
  b_min : mg "min" = none
  b_zip : mg "zip" = none
  LONGEST : ∃ t, mg "LONGEST" = some (.int 24 t)
  GREATEST_HOLD : ∃ t, mg "GREATEST_HOLD" = some (.int 60 t)
  MOST_SEEN : ∃ t, mg "MOST_SEEN" = some (.int 200 t)
  MOST_LETTERS : ∃ t, mg "MOST_LETTERS" = some (.int 10 t)
  DIGITS : ∃ t, mg "DIGITS" = some (.str "0123456789" t)
  LETTERS : ∃ t, mg "LETTERS" = some (.str "abcdefghijklmnopqrstuvwxyz" t)
  gRow : mg "Row" = some (.ref (CR K))
  gStand : mg "Stand" = some (.ref (CS K))
  clR : Cls K (CR K)
  clS : Cls K (CS K)
  mkR : Mk K (CR K) (He.ma K (CR K) "__init__")
  mkS : Mk K (CS K) (He.ma K (CS K) "__init__")
  n_own : NoAttr K (CS K) "own"
  n_begin : NoAttr K (CS K) "begin"
  n_coming : NoAttr K (CS K) "coming"
  n_ins : NoAttr K (CS K) "ins"
  n_outs : NoAttr K (CS K) "outs"
  n_due : NoAttr K (CS K) "due"
  n_cuts : NoAttr K (CS K) "cuts"
  n_gone : NoAttr K (CS K) "gone"
  n_many : NoAttr K (CS K) "many"
  n_later : NoAttr K (CS K) "later"
  n_stands : NoAttr K (CR K) "stands"
  d_is_integer : Def K mg "is_integer" s_is_integer
  d_is_between : Def K mg "is_between" s_is_between
  d_is_onto : Def K mg "is_onto" s_is_onto
  d_is_table : Def K mg "is_table" s_is_table
  d_need_table : Def K mg "need_table" s_need_table
  d_need_integer : Def K mg "need_integer" s_need_integer
  d_hold_of : Def K mg "hold_of" s_hold_of
  d_out_of : Def K mg "out_of" s_out_of
  d_shortened : Def K mg "shortened" s_shortened
  d_out_at : Def K mg "out_at" s_out_at
  d_delay : Def K mg "delay" s_delay
  d_shortest : Def K mg "shortest" s_shortest
  d_are_seen : Def K mg "are_seen" s_are_seen
  d_known_holds : Def K mg "known_holds" s_known_holds
  d_fitted : Def K mg "fitted" s_fitted
  d_fitting : Def K mg "fitting" s_fitting
  d_is_value : Def K mg "is_value" s_is_value
  d_need_value : Def K mg "need_value" s_need_value
  d_copied : Def K mg "copied" s_copied
  d_hold_ahead : Def K mg "hold_ahead" s_hold_ahead
  d_number_in : Def K mg "number_in" s_number_in
  d_value_in : Def K mg "value_in" s_value_in
  d_journal_text : Def K mg "journal_text" s_journal_text
  d_pair_in : Def K mg "pair_in" s_pair_in
  d_read_journal : Def K mg "read_journal" s_read_journal
  d_law_cell : Def K mg "_law_cell" s_law_cell
  d_law_pen : Def K mg "_law_pen" s_law_pen
  d_law_draw : Def K mg "_law_draw" s_law_draw
  d_law_table : Def K mg "_law_table" s_law_table
  d_law_some_right : Def K mg "_law_some_right" s_law_some_right
  d_law_right : Def K mg "_law_right" s_law_right
  d_law : Def K mg "law" s_law
  Stand_init : ∃ fd, Fun K "__init__" "Stand.__init__" s_Stand_init (He.ma K (He.ga K "Stand") "__init__") fd
  Row_init : ∃ fd, Fun K "__init__" "Row.__init__" s_Row_init (He.ma K (He.ga K "Row") "__init__") fd
  Row_put_out : MDef K (CR K) "put_out" "Row.put_out" s_Row_put_out
  Row_step : MDef K (CR K) "step" "Row.step" s_Row_step
  Row_push : MDef K (CR K) "push" "Row.push" s_Row_push
  Row_push_all : MDef K (CR K) "push_all" "Row.push_all" s_Row_push_all
  Row_getitem : MDef K (CR K) "__getitem__" "Row.__getitem__" s_Row_getitem
  Row_len : MDef K (CR K) "__len__" "Row.__len__" s_Row_len
  tick : ∃ fd, Fun K "tick" "Row.tick" s_Row_tick (tickG K) fd
  tickP : PropOf K (CR K) "tick" (tickP K) (tickG K)
  ownIx : OwnIx K (CR K) (He.ma K (CR K) "__getitem__")
  isRow : C8.InsC K (CR K)
section
variable {P : Program} {w : World} {K : PySem.W.Frag} {mg : Str → Option Value} {base : Heap}
/-- a def that keeps its promise, called by its name -/
def Cal (P : Program) (w : World) (K : PySem.W.Frag) (mg : Str → Option Value) (base : Heap) (k : Nat) (x : Str) (sp : Sp) : Prop :=
  ∃ (f : Addr) (fd : FuncData) (ps : List Str), FnOk P w K mg base CX0 k f fd ps sp ∧ mg x = some (.ref f) ∧ PySem.W.keepIn K (.ref f) = true ∧ Binds K fd ps []
/-- a method that keeps its promise -/
def MCal (P : Program) (w : World) (K : PySem.W.Frag) (mg : Str → Option Value) (base : Heap) (k : Nat) (C : Addr) (m : Str) (sp : Sp) : Prop :=
  ∃ (f : Addr) (fd : FuncData) (ps : List Str), FnOk P w K mg base CX0 k f fd ps sp ∧ Meth K C m f ∧ Binds K fd ps []
/-- a class's __init__ that keeps its promise -/
def ICal (P : Program) (w : World) (K : PySem.W.Frag) (mg : Str → Option Value) (base : Heap) (k : Nat) (x : Str) (C : Addr) (sp : Sp) : Prop :=
  ∃ (f : Addr) (fd : FuncData) (ps : List Str), FnOk P w K mg base CX0 k f fd ps sp ∧ mg x = some (.ref C) ∧ Mk K C f ∧ Binds K fd ps []
theorem Cal.mono {j k : Nat} {x : Str} {sp : Sp} (c : Cal P w K mg base j x sp) (h : j ≤ k) : Cal P w K mg base k x sp := let ⟨f, fd, ps, F, r⟩ := c; ⟨f, fd, ps, F.mono h, r⟩
/-- THE RULE for a def of the text -/
theorem Def.cal {x : Str} {st : Stmt} {N ps : List Str} {k : Nat} {sp : Sp} (D : Def K mg x st) (S : FnScope N ps (defScope st)) (len : ∀ vs H Q E, sp vs H Q E → vs.length = ps.length)
    (hb : ∀ (kV doc pm : Value) (an : Option Addr) (cdv ct : Value) (us : List Value), us.length = ps.length → bindArgs (PySem.W.fnOf x x (defArgs st) (defBody st) (defScope st) .none kV doc pm an cdv ct) ⟨us, []⟩ = pure (ps.zip us))
    (hbody : ∀ (f : Addr) (cdv : Value) (A : Around) (outer : List Env) (s : Shared) (H : Hp) (vs : List V) (Q : VK) (E : XK), Room k (A.deeper (envOfC x (defScope st) s.heap.objs.size f cdv)) → sp vs H Q E →
      ∃ t, PSs (cxOf CX0 P w K mg base N x (defScope st) f cdv A outer s H E).nox (defBody st) t ∧ t { nx := fun _ H' => Q .non H', rt := Q } (start N vs) H) : Cal P w K mg base (k + 1) x sp := by
  obtain ⟨⟨fd, F⟩, g⟩ := D
  exact ⟨_, fd, ps, F.ok S len (hbody _), g, F.kp, F.binds hb⟩
theorem MDef.cal {m qual : Str} {C : Addr} {st : Stmt} {N ps : List Str} {k : Nat} {sp : Sp} (D : MDef K C m qual st) (S : FnScope N ps (defScope st)) (len : ∀ vs H Q E, sp vs H Q E → vs.length = ps.length)
    (hb : ∀ (kV doc pm : Value) (an : Option Addr) (cdv ct : Value) (us : List Value), us.length = ps.length → bindArgs (PySem.W.fnOf m qual (defArgs st) (defBody st) (defScope st) .none kV doc pm an cdv ct) ⟨us, []⟩ = pure (ps.zip us))
    (hbody : ∀ (f : Addr) (cdv : Value) (A : Around) (outer : List Env) (s : Shared) (H : Hp) (vs : List V) (Q : VK) (E : XK), Room k (A.deeper (envOfC qual (defScope st) s.heap.objs.size f cdv)) → sp vs H Q E →
      ∃ t, PSs (cxOf CX0 P w K mg base N qual (defScope st) f cdv A outer s H E).nox (defBody st) t ∧ t { nx := fun _ H' => Q .non H', rt := Q } (start N vs) H) : MCal P w K mg base (k + 1) C m sp := by
  obtain ⟨⟨fd, F⟩, g⟩ := D
  exact ⟨_, fd, ps, F.ok S len (hbody _), g, F.binds hb⟩
end
section
variable {X : Cx} {k : Nat} {x m : Str} {sp : Sp} {e o : Expr} {es : List Expr} {t : TA} {ta : TE} {p pos apos : Pos} {C : Addr}
/-- f(e, ..) -/
theorem pe_cal (c : Cal X.prog X.w X.K X.mg X.base k x sp) (hr : Room k X.A) (hg : Gl X x) (ha : PA X (e :: es) t) (hdb : (x == ("__debug__" : Str)) = false := by decide)
    (he : starEach (e :: es) X.env = (false, eval e X.env) :: starEach es X.env := by rfl) (hpl : (backTo pos (starEach es X.env)).any (·.1) = false := by rfl) : PE X (.Call (.Name x p) (e :: es) [] pos) (tCall sp [] E0 t) := by
  obtain ⟨f, fd, ps, F, hm, hk, hb⟩ := c
  exact pe_call F hr hg hm hk hb .nil pass0 ha hdb he hpl
theorem pe_mcal {pl : Sem Bool} (ho : PE X o ta) (cl : Cls X.K C) (c : MCal X.prog X.w X.K X.mg X.base k C m sp) (hr : Room k X.A) (ha : PA X (e :: es) t)
    (hst : starEach (e :: es) X.env = (false, eval e X.env) :: starEach es X.env := by rfl) (hpl : (backTo pos (starEach es X.env)).any (·.1) = false := by rfl)
    (ht : eval (.Call (.Attribute o m apos) (e :: es) [] pos) X.env = (do
      let ov ← eval o X.env
      standAt apos.atName
      let (f, first) ← holding [ov] (getMethod ov m pl)
      callWith pos f first (backTo pos (starEach (e :: es) X.env)) (backToKw pos (keywordEach [] X.env))) := by rfl) : PE X (.Call (.Attribute o m apos) (e :: es) [] pos) (tMeth C m sp [] E0 ta t) := by
  obtain ⟨f, fd, ps, F, hm, hb⟩ := c
  exact pe_meth ho cl hm F hr hb .nil pass0 ha hst hpl ht
theorem pe_ical (c : ICal X.prog X.w X.K X.mg X.base k x C sp) (hr : Room (k + 1) X.A) (hg : Gl X x) (ha : PA X (e :: es) t) (hdb : (x == ("__debug__" : Str)) = false := by decide)
    (he : starEach (e :: es) X.env = (false, eval e X.env) :: starEach es X.env := by rfl) (hpl : (backTo pos (starEach es X.env)).any (·.1) = false := by rfl) : PE X (.Call (.Name x p) (e :: es) [] pos) (tMake C sp [] E0 t) := by
  obtain ⟨f, fd, ps, F, hm, M, hb⟩ := c
  exact pe_make M F hr hg hm hb .nil pass0 ha hdb he hpl
end
/-- what stands stays, whatever is new -/
theorem Same.new {H : Hp} {p : Addr} {o : HO} (h : H p = none) : Same H (upd H p o) := fun a u e => by
  rw [upd_ne (ne_of_none e h)]
  exact e
/-- a thing that H does not know may change -/
theorem _root_.L2.Same.mut {H H' : Hp} {p : Addr} {o : HO} (e : Same H H') (h : H p = none) : Same H (upd H' p o) := fun a u ha => by
  rw [upd_ne (ne_of_none ha h)]
  exact e a u ha
end Ba
end
section
set_option Elab.async false
set_option maxRecDepth 100000
set_option maxHeartbeats 4000000
/-! The defs over tables. -/
namespace Ba
open PySem PySem.Spec PyProof.Rows L2
/-- a table's tuple -/
abbrev TabAt (H : Hp) (a : Addr) (t : List Int) : Prop := H a = some (.tup (t.map V.int))
def sp_is_integer : Sp := fun vs H Q _ => ∃ i : Int, vs = [.int i] ∧ Q (.bl true) H
def sp_is_between : Sp := fun vs H Q _ => ∃ i lo hi : Int, vs = [.int i, .int lo, .int hi] ∧ lo ≤ i ∧ i ≤ hi ∧ Q (.bl true) H
def sp_is_onto : Sp := fun vs H Q _ => ∃ (a : Addr) (t : List Int), vs = [.ref a] ∧ TabAt H a t ∧ IsTab t ∧ ∀ H', Same H H' → Q (.bl true) H'
def sp_need_table : Sp := fun vs H Q _ => ∃ (a : Addr) (t : List Int), vs = [.ref a] ∧ TabAt H a t ∧ IsTab t ∧ ∀ H', Same H H' → Q .non H'
def sp_need_integer : Sp := fun vs H Q _ => ∃ i : Int, vs = [.int i] ∧ Q .non H
def sp_hold_of : Sp := fun vs H Q _ => ∃ (a : Addr) (t : List Int) (n : Int), vs = [.ref a, .int n] ∧ TabAt H a t ∧ IsTab t ∧ Q (.int (hold t n)) H
def sp_out_of : Sp := fun vs H Q _ => ∃ (a : Addr) (t : List Int) (n : Int), vs = [.ref a, .int n] ∧ TabAt H a t ∧ IsTab t ∧ Q (.int (out t n)) H
def sp_out_at : Sp := fun vs H Q _ => ∃ (a : Addr) (t : List Int) (n : Int), vs = [.ref a, .int n] ∧ TabAt H a t ∧ IsTab t ∧ ∀ H', Same H H' → Q (.int (out t n)) H'
def sp_delay : Sp := fun vs H Q _ => ∃ (a : Addr) (t : List Int), vs = [.ref a] ∧ TabAt H a t ∧ IsTab t ∧ ∀ H' m, Same H H' → m ∈ t → (∀ h ∈ t, h ≤ m) → Q (.int m) H'
def sp_shortest : Sp := fun vs H Q _ => ∃ (a : Addr) (t : List Int), vs = [.ref a] ∧ TabAt H a t ∧ IsTab t ∧ ∀ g p H', Short t g → Same H H' → TabAt H' p (t.take g) → Q (.ref p) H'
theorem sc_is_integer : FnScope ["thing"] ["thing"] (defScope s_is_integer) := ⟨rfl, rfl, rfl, by decide +kernel, rfl, by decide +kernel, by decide +kernel⟩
theorem sc_is_between : FnScope ["thing", "low", "high"] ["thing", "low", "high"] (defScope s_is_between) := ⟨rfl, rfl, rfl, by decide +kernel, rfl, by decide +kernel, by decide +kernel⟩
theorem sc_is_onto : FnScope ["holds", "place", "hold"] ["holds"] (defScope s_is_onto) := ⟨rfl, rfl, rfl, by decide +kernel, rfl, by decide +kernel, by decide +kernel⟩
theorem sc_is_table : FnScope ["thing", "hold"] ["thing"] (defScope s_is_table) := ⟨rfl, rfl, rfl, by decide +kernel, rfl, by decide +kernel, by decide +kernel⟩
theorem sc_need_table : FnScope ["table"] ["table"] (defScope s_need_table) := ⟨rfl, rfl, rfl, by decide +kernel, rfl, by decide +kernel, by decide +kernel⟩
theorem sc_need_integer : FnScope ["number"] ["number"] (defScope s_need_integer) := ⟨rfl, rfl, rfl, by decide +kernel, rfl, by decide +kernel, by decide +kernel⟩
theorem sc_hold_of : FnScope ["table", "thing"] ["table", "thing"] (defScope s_hold_of) := ⟨rfl, rfl, rfl, by decide +kernel, rfl, by decide +kernel, by decide +kernel⟩
theorem sc_out_of : FnScope ["table", "thing"] ["table", "thing"] (defScope s_out_of) := ⟨rfl, rfl, rfl, by decide +kernel, rfl, by decide +kernel, by decide +kernel⟩
theorem sc_out_at : FnScope ["table", "thing"] ["table", "thing"] (defScope s_out_at) := ⟨rfl, rfl, rfl, by decide +kernel, rfl, by decide +kernel, by decide +kernel⟩
theorem sc_delay : FnScope ["table"] ["table"] (defScope s_delay) := ⟨rfl, rfl, rfl, by decide +kernel, rfl, by decide +kernel, by decide +kernel⟩
theorem sc_shortest : FnScope ["table"] ["table"] (defScope s_shortest) := ⟨rfl, rfl, rfl, by decide +kernel, rfl, by decide +kernel, by decide +kernel⟩
theorem map_get {t : List Int} {i : Nat} (h : i < t.length) : (t.map V.int)[i]? = some (.int (t.getD i 0)) := by
  rw [List.getElem?_map, List.getD_eq_getElem?_getD, List.getElem?_eq_getElem h]
  rfl
theorem map_len (t : List Int) : (t.map V.int).length = t.length := List.length_map ..
theorem tYes_mk {σ : L2.St} {H : Hp} {Q : Bool → Hp → Prop} (h : Q true H) : tYes σ H Q := h
theorem iteD {c A B : Prop} [Decidable c] (hc : c) (h : A) : if decide c = true then A else B := by
  rw [decide_eq_true hc]
  exact iteT h
theorem iteDF {c A B : Prop} [Decidable c] (hc : ¬ c) (h : B) : if decide c = true then A else B := by
  rw [decide_eq_false hc]
  exact iteF h
theorem iteNF {c A B : Prop} [Decidable c] (hc : ¬ c) (h : A) : if (!decide c) = true then A else B := by
  rw [decide_eq_false hc]
  exact iteT h
theorem all_rep (n : Nat) : (List.replicate n true).all id = true := by
  induction n with
  | zero => rfl
  | succ n ih => rw [List.replicate_succ, List.all_cons, ih]; rfl
theorem rep_snoc (n : Nat) : (List.replicate n true).map V.bl ++ [V.bl true] = (List.replicate (n + 1) true).map V.bl := by
  rw [List.replicate_succ', List.map_append]
  rfl
theorem line_of {n : Nat} (h : n ≤ 1000000) : n ≤ sizeLine := Nat.le_trans h (by decide)
theorem line_lt {n : Nat} (h : n < 1000000) : n < sizeLine := Nat.lt_of_lt_of_le h (by decide)
/-- a place that is there -/
theorem atI_of {xs : List V} {v : V} {i : Int} {j : Nat} (e : i = (j : Int)) (h : xs[j]? = some v) : atI xs i = some v := at_of e h
section
variable {P : Program} {w : World} {K : PySem.W.Frag} {mg : Str → Option Value} {base : Heap}
theorem cal_is_integer (T : Txt K mg) : Cal P w K mg base 1 "is_integer" sp_is_integer := by
  refine T.d_is_integer.cal sc_is_integer (fun vs H Q E h => ?_) (fun _ _ _ _ _ _ us hl => match us, hl with | [_], _ => rfl) (fun f cdv A outer s H vs Q E hr h => ?_)
  · obtain ⟨i, rfl, _⟩ := h; rfl
  · obtain ⟨i, rfl, q⟩ := h
    refine ⟨_, (pss_one (ps_ret (pe_and (pe_callB call_isi rfl T.b_isinstance (by decide +kernel) (pa_cons (pv 0) (pa_cons (pe_bltn (v := .ty "int") (u := .type "int") rfl T.b_int (by decide +kernel) rfl) pa_nil))) (pe_one (pe_not (pe_callB call_isi rfl T.b_isinstance (by decide +kernel) (pa_cons (pv 0) (pa_cons (pe_bltn (v := .ty "bool") (u := .type "bool") rfl T.b_bool (by decide +kernel) rfl) pa_nil)))))))), ?_⟩
    exact ⟨_, rfl, _, _, _, _, true, rfl, .ty _, .base (.int i), kit_ty (by decide +kernel), true, rfl, iteT ⟨_, rfl, _, _, _, _, false, rfl, .ty _, .base (.int i), kit_ty (by decide +kernel), false, rfl, q⟩⟩
theorem cal_is_between (T : Txt K mg) : Cal P w K mg base 2 "is_between" sp_is_between := by
  have G_is_integer := cal_is_integer (P := P) (w := w) (base := base) T
  refine T.d_is_between.cal sc_is_between (fun vs H Q E h => ?_) (fun _ _ _ _ _ _ us hl => match us, hl with | [_, _, _], _ => rfl) (fun f cdv A outer s H vs Q E hr h => ?_)
  · obtain ⟨i, lo, hi, rfl, _⟩ := h; rfl
  · obtain ⟨i, lo, hi, rfl, h1, h2, q⟩ := h
    refine ⟨_, (pss_one (ps_ret (pe_and (pe_cal G_is_integer (hr.mono (by decide)) rfl (pa_cons (pv 0) pa_nil)) (pe_one (pe_chain op_le op_le (pv 1) (pv 0) (pv 2)))))), ?_⟩
    refine ⟨_, rfl, i, rfl, true, rfl, iteT ?_⟩
    refine ⟨_, rfl, _, rfl, _, _, rfl, rfl, _, rfl, ?_⟩
    rw [decide_eq_true h1]
    refine iteT ⟨_, rfl, _, _, rfl, rfl, ?_⟩
    show Q (.bl (decide (i ≤ hi))) H
    rw [decide_eq_true h2]
    exact q
theorem cal_is_onto (T : Txt K mg) : Cal P w K mg base 1 "is_onto" sp_is_onto := by
  refine T.d_is_onto.cal sc_is_onto (fun vs H Q E h => ?_) (fun _ _ _ _ _ _ us hl => match us, hl with | [_], _ => rfl) (fun f cdv A outer s H vs Q E hr h => ?_)
  · obtain ⟨a, t, rfl, _⟩ := h; rfl
  · obtain ⟨a, t, rfl, ha, tt, q⟩ := h
    have pos := tt.pos
    refine ⟨_, (pss_one (ps_ret (pe_cmpR op_eq (pe_callB call_lenSet rfl T.b_len (by decide +kernel) (pa_cons (pe_si (own := [("place", 1), ("hold", 2)]) (g := gTup K 2 (gCons (gName 1) (gCons (gName 2) gNil))) (tt := tYes) rfl sc_is_onto.nd (pi_enumT rfl T.b_enumerate (pa_cons (pv 0) pa_nil)) (blkOk_by (own := [("place", 1), ("hold", 2)]) (N := ["holds", "place", "hold"]) (sc := defScope s_is_onto) (by decide +kernel)) (fun _ _ _ _ _ => (pg_tup rfl (pgs_cons (pg_name (i := 1) sc_is_onto.nd rfl (Or.inl rfl)) (pgs_cons (pg_name (i := 2) sc_is_onto.nd rfl (Or.inl rfl)) pgs_nil)))) (fun _ _ _ _ _ => pts_nil) (fun _ _ _ _ _ => (pe_op op_mod (pe_op op_add (pv 1) (pv 2)) (pe_callB (call_len_seqK (K := K) rfl) rfl T.b_len (by decide +kernel) (pa_cons (pv 0) pa_nil))))) pa_nil)) (pe_callB call_len_seq rfl T.b_len (by decide +kernel) (pa_cons (pv 0) pa_nil)) (nomark _)))), ?_⟩
    refine ⟨_, rfl, a, _, rfl, SqT.of ha, fun D hD => si_it (walk_enumT (K := K) (a := a) (xs := t.map V.int)) (fun i H' => Same H H' ∧ ∃ S, H' D = some (SetO w D S i) ∧ ∀ r, S r = true ↔ ∃ j : Nat, j < i ∧ r = ((j : Int) + t.getD j 0) % (t.length : Int))
      ⟨Same.new hD, _, upd_same, fun r => ⟨fun z => absurd z Bool.false_ne_true, fun ⟨j, hj, _⟩ => absurd hj (Nat.not_lt_zero j)⟩⟩ (fun i H' _ p => SqT.of (p.1 _ _ ha)) ?_ ?_⟩
    · rintro i x H1 H2 hi ⟨s1, S, hS, hm⟩ ⟨TT, x1, y1, rfl, nT, rfl, e1, e2⟩
      rw [map_len] at hi
      have e1 : some (V.int (i : Nat)) = some x1 := e1
      have e2 : (t.map V.int)[i]? = some y1 := e2
      rw [map_get hi] at e2
      cases e1
      cases e2
      have nTD : D ≠ TT := ne_of_none hS nT
      have s2 : Same H (upd H1 TT (.tup [V.int (i : Nat), V.int (t.getD i 0)])) := s1.trans (Same.new nT)
      refine ⟨TT, _, rfl, SqT.of upd_same, rfl, _, _, rfl, _, _, rfl, rfl, rfl, tYes_mk (iteT ?_)⟩
      refine ⟨_, rfl, _, rfl, _, _, rfl, rfl, _, rfl, _, _, rfl, .inr (SqT.of (s2 _ _ ha)), _, _, rfl, rfl, ?_, ?_⟩
      · rw [map_len]; omega
      · rw [map_len]
        have fresh : S (((i : Int) + t.getD i 0) % (t.length : Int)) = false := by
          cases q : S (((i : Int) + t.getD i 0) % (t.length : Int)) with
          | false => rfl
          | true =>
            obtain ⟨j, hj, e⟩ := (hm _).mp q
            have := tt.inj i j hi (by omega) e
            omega
        refine ⟨_, S, i, rfl, by rw [upd_ne nTD]; exact hS, ?_, s2.mut hD, fun r => S r || decide (r = ((i : Int) + t.getD i 0) % (t.length : Int)), ?_, fun r => ?_⟩
        · have h4 : scanBound = 4096 := rfl
          have := tt.len
          omega
        · rw [upd_same, fresh]
          rfl
        · rw [Bool.or_eq_true, decide_eq_true_eq, hm]
          constructor
          · rintro (⟨j, hj, e⟩ | e)
            · exact ⟨j, by omega, e⟩
            · exact ⟨i, by omega, e⟩
          · rintro ⟨j, hj, e⟩
            by_cases z : j = i
            · subst z; exact .inr e
            · exact .inl ⟨j, by omega, e⟩
    · rintro H1 ⟨s1, S, hS, hm⟩
      refine ⟨D, S, _, rfl, hS, _, rfl, _, _, rfl, .inr (SqT.of (s1 _ _ ha)), rfl, ?_⟩
      rw [decide_eq_true rfl]
      exact q _ s1
theorem cal_is_table (T : Txt K mg) : Cal P w K mg base 3 "is_table" sp_is_onto := by
  have G_is_between := cal_is_between (P := P) (w := w) (base := base) T
  have G_is_onto := cal_is_onto (P := P) (w := w) (base := base) T
  refine T.d_is_table.cal sc_is_table (fun vs H Q E h => ?_) (fun _ _ _ _ _ _ us hl => match us, hl with | [_], _ => rfl) (fun f cdv A outer s H vs Q E hr h => ?_)
  · obtain ⟨a, t, rfl, _⟩ := h; rfl
  · obtain ⟨a, t, rfl, ha, tt, q⟩ := h
    have pos := tt.pos
    have len := tt.len
    refine ⟨_, (pss_cons (ps_if (PW.pt (pw_or (pt_not (pt_val (pe_callB call_isi rfl T.b_isinstance (by decide +kernel) (pa_cons (pv 0) (pa_cons (pe_bltn (v := .ty "tuple") (u := .type "tuple") rfl T.b_tuple (by decide +kernel) rfl) pa_nil))))) (pw_or1 (pt_not (pt_chain op_le op_le pe_int (pe_callB call_len_seq rfl T.b_len (by decide +kernel) (pa_cons (pv 0) pa_nil)) (pe_gI rfl T.LONGEST)))))) (pss_one (ps_ret pe_bl)) pss_nil)
      (pss_one (ps_ret (pe_and (pe_callB (cr_all rfl) rfl T.b_all (by decide +kernel) (pa_cons (pe_lc (own := [("hold", 1)]) (g := gName 1) (tt := tYes) rfl sc_is_table.nd (pi_tup (pv 0)) (blkOk_by (own := [("hold", 1)]) (N := ["thing", "hold"]) (sc := defScope s_is_table) (by decide +kernel)) (fun _ _ _ _ _ => (pg_name (i := 1) sc_is_table.nd rfl (Or.inl rfl))) (fun _ _ _ _ _ => pts_nil) (fun _ _ _ _ _ => (pe_cal G_is_between (hr.mono (by decide)) rfl (pa_cons (pv 1) (pa_cons pe_int (pa_cons (pe_gI rfl T.GREATEST_HOLD) pa_nil)))))) pa_nil)) (pe_one (pe_cal G_is_onto (hr.mono (by decide)) rfl (pa_cons (pv 0) pa_nil))))))), ?_⟩
    refine ⟨_, rfl, _, _, _, _, true, rfl, .ty _, .base (.tup ha), kit_ty (by decide +kernel), true, rfl, iteF ?_⟩
    refine ⟨_, rfl, a, _, rfl, .inr (SqT.of ha), _, _, rfl, rfl, _, rfl, iteD (by rw [map_len]; omega) ⟨_, _, rfl, rfl, _, rfl, iteNS (by rw [map_len]; omega) ?_⟩⟩
    refine ⟨_, rfl, a, rfl, ⟨_, SqT.of ha⟩, fun D hD => lc_it (walk_tup (K := K) (a := a) (xs := t.map V.int)) (fun i H' => Same H H' ∧ H' D = some (.lst ((List.replicate i true).map V.bl)))
      ⟨Same.new hD, upd_same⟩ (fun i H' _ p => SqT.of (p.1 _ _ ha)) ?_ ?_⟩
    · rintro i x H1 H2 hi ⟨s1, hL⟩ ⟨rfl, ex⟩
      rw [map_len] at hi
      rw [map_get hi] at ex
      cases ex
      have hh := tt.at hi
      refine ⟨rfl, tYes_mk (iteT ⟨_, rfl, _, _, _, rfl, hh.1, hh.2, _, hL, ?_, s1.mut hD, ?_⟩)⟩
      · rw [List.length_map, List.length_replicate]
        exact line_lt (by omega)
      · rw [upd_same, rep_snoc]
    · rintro H1 ⟨s1, hL⟩
      refine ⟨D, _, rfl, SqL.of hL, _, rfl, ?_⟩
      rw [all_rep]
      exact iteT ⟨_, rfl, a, t, rfl, s1 _ _ ha, tt, fun H' s2 => q H' (s1.trans s2)⟩
theorem cal_need_table (T : Txt K mg) : Cal P w K mg base 4 "need_table" sp_need_table := by
  have G_is_table := cal_is_table (P := P) (w := w) (base := base) T
  refine T.d_need_table.cal sc_need_table (fun vs H Q E h => ?_) (fun _ _ _ _ _ _ us hl => match us, hl with | [_], _ => rfl) (fun f cdv A outer s H vs Q E hr h => ?_)
  · obtain ⟨a, t, rfl, _⟩ := h; rfl
  · obtain ⟨a, t, rfl, ha, tt, q⟩ := h
    refine ⟨_, (pss_one (ps_if (pt_not (pt_val (pe_cal G_is_table (hr.mono (by decide)) rfl (pa_cons (pv 0) pa_nil)))) (pss_one ps_never) pss_nil)), ?_⟩
    exact ⟨_, rfl, a, t, rfl, ha, tt, fun H' s1 => ⟨true, rfl, iteF (q H' s1)⟩⟩
theorem cal_need_integer (T : Txt K mg) : Cal P w K mg base 2 "need_integer" sp_need_integer := by
  have G_is_integer := cal_is_integer (P := P) (w := w) (base := base) T
  refine T.d_need_integer.cal sc_need_integer (fun vs H Q E h => ?_) (fun _ _ _ _ _ _ us hl => match us, hl with | [_], _ => rfl) (fun f cdv A outer s H vs Q E hr h => ?_)
  · obtain ⟨i, rfl, _⟩ := h; rfl
  · obtain ⟨i, rfl, q⟩ := h
    refine ⟨_, (pss_one (ps_if (pt_not (pt_val (pe_cal G_is_integer (hr.mono (by decide)) rfl (pa_cons (pv 0) pa_nil)))) (pss_one ps_never) pss_nil)), ?_⟩
    exact ⟨_, rfl, i, rfl, true, rfl, iteF q⟩
theorem cal_hold_of (T : Txt K mg) : Cal P w K mg base 1 "hold_of" sp_hold_of := by
  refine T.d_hold_of.cal sc_hold_of (fun vs H Q E h => ?_) (fun _ _ _ _ _ _ us hl => match us, hl with | [_, _], _ => rfl) (fun f cdv A outer s H vs Q E hr h => ?_)
  · obtain ⟨a, t, n, rfl, _⟩ := h; rfl
  · obtain ⟨a, t, n, rfl, ha, tt, q⟩ := h
    have pos := tt.pos
    have m := mod_lt pos n
    refine ⟨_, (pss_one (ps_ret (pe_ix ix_tup (pv 0) (pe_op op_mod (pv 1) (pe_callB call_len_seq rfl T.b_len (by decide +kernel) (pa_cons (pv 0) pa_nil))) (fun _ _ => rfl)))), ?_⟩
    refine ⟨_, rfl, _, rfl, _, rfl, a, _, rfl, .inr (SqT.of ha), _, _, rfl, rfl, by rw [map_len]; omega, a, _, _, _, rfl, rfl, SqT.of ha, atI_of (j := (n % (t.length : Int)).toNat) ?_ (map_get m), q⟩
    rw [map_len, Int.toNat_of_nonneg (Int.emod_nonneg _ (by omega))]
theorem cal_out_of (T : Txt K mg) : Cal P w K mg base 2 "out_of" sp_out_of := by
  have G_hold_of := cal_hold_of (P := P) (w := w) (base := base) T
  refine T.d_out_of.cal sc_out_of (fun vs H Q E h => ?_) (fun _ _ _ _ _ _ us hl => match us, hl with | [_, _], _ => rfl) (fun f cdv A outer s H vs Q E hr h => ?_)
  · obtain ⟨a, t, n, rfl, _⟩ := h; rfl
  · obtain ⟨a, t, n, rfl, ha, tt, q⟩ := h
    refine ⟨_, (pss_one (ps_ret (pe_op op_add (pv 1) (pe_cal G_hold_of (hr.mono (by decide)) rfl (pa_cons (pv 0) (pa_cons (pv 1) pa_nil)))))), ?_⟩
    exact ⟨_, rfl, _, rfl, _, rfl, a, t, n, rfl, ha, tt, _, _, rfl, rfl, q⟩
theorem cal_out_at (T : Txt K mg) : Cal P w K mg base 5 "out_at" sp_out_at := by
  have G_need_table := cal_need_table (P := P) (w := w) (base := base) T
  have G_need_integer := cal_need_integer (P := P) (w := w) (base := base) T
  have G_out_of := cal_out_of (P := P) (w := w) (base := base) T
  refine T.d_out_at.cal sc_out_at (fun vs H Q E h => ?_) (fun _ _ _ _ _ _ us hl => match us, hl with | [_, _], _ => rfl) (fun f cdv A outer s H vs Q E hr h => ?_)
  · obtain ⟨a, t, n, rfl, _⟩ := h; rfl
  · obtain ⟨a, t, n, rfl, ha, tt, q⟩ := h
    refine ⟨_, (pss_cons (ps_expr (pe_cal G_need_table (hr.mono (by decide)) rfl (pa_cons (pv 0) pa_nil)))
      (pss_cons (ps_expr (pe_cal G_need_integer (hr.mono (by decide)) rfl (pa_cons (pv 1) pa_nil)))
      (pss_one (ps_ret (pe_cal G_out_of (hr.mono (by decide)) rfl (pa_cons (pv 0) (pa_cons (pv 1) pa_nil))))))), ?_⟩
    exact ⟨_, rfl, a, t, rfl, ha, tt, fun H' s1 => ⟨_, rfl, n, rfl, _, rfl, _, rfl, a, t, n, rfl, s1 _ _ ha, tt, q H' s1⟩⟩
theorem cal_delay (T : Txt K mg) : Cal P w K mg base 5 "delay" sp_delay := by
  have G_need_table := cal_need_table (P := P) (w := w) (base := base) T
  refine T.d_delay.cal sc_delay (fun vs H Q E h => ?_) (fun _ _ _ _ _ _ us hl => match us, hl with | [_], _ => rfl) (fun f cdv A outer s H vs Q E hr h => ?_)
  · obtain ⟨a, t, rfl, _⟩ := h; rfl
  · obtain ⟨a, t, rfl, ha, tt, q⟩ := h
    refine ⟨_, (pss_cons (ps_expr (pe_cal G_need_table (hr.mono (by decide)) rfl (pa_cons (pv 0) pa_nil)))
      (pss_one (ps_ret (pe_callB (cr_maxT rfl (hu_of hr)) rfl T.b_max (by decide +kernel) (pa_cons (pv 0) pa_nil))))), ?_⟩
    refine ⟨_, rfl, a, t, rfl, ha, tt, fun H' s1 => ?_⟩
    cases t with
    | nil => exact absurd tt.pos (by decide)
    | cons n ns =>
      have go : ∀ (l : List Int) (m : Int), (l.foldl max m = m ∨ l.foldl max m ∈ l) ∧ m ≤ l.foldl max m ∧ ∀ h ∈ l, h ≤ l.foldl max m := by
        intro l
        induction l with
        | nil => intro m; exact ⟨.inl rfl, Int.le_refl _, fun h z => nomatch z⟩
        | cons b l ih =>
          intro m
          obtain ⟨h1, h2, h3⟩ := ih (max m b)
          rw [List.foldl_cons]
          refine ⟨?_, by omega, fun h hm => ?_⟩
          · rcases h1 with h1 | h1
            · rw [h1]
              by_cases z : m ≤ b
              · exact .inr (by rw [Int.max_eq_right z]; exact List.mem_cons_self)
              · exact .inl (Int.max_eq_left (by omega))
            · exact .inr (List.mem_cons_of_mem _ h1)
          · rcases List.mem_cons.mp hm with z | z
            · subst z; omega
            · exact h3 h z
      obtain ⟨h1, h2, h3⟩ := go ns n
      refine ⟨_, rfl, a, n, ns, rfl, SqT.of (s1 _ _ ha), q H' _ s1 ?_ fun h hm => ?_⟩
      · rcases h1 with z | z
        · rw [z]; exact List.mem_cons_self
        · exact List.mem_cons_of_mem _ z
      · rcases List.mem_cons.mp hm with z | z
        · subst z; exact h2
        · exact h3 h z
end
end Ba
end
section
set_option Elab.async false
set_option maxRecDepth 100000
set_option maxHeartbeats 4000000
/-! The shortest table. -/
namespace Ba
open PySem PySem.Spec PyProof.Rows L2
theorem sc_shortened : FnScope ["holds", "length"] ["holds"] (defScope s_shortened) := ⟨rfl, rfl, rfl, by decide +kernel, rfl, by decide +kernel, by decide +kernel⟩
theorem range_nat (n : Nat) : ((1 + (n : Int)) - 1).toNat = n := by omega
section
variable {P : Program} {w : World} {K : PySem.W.Frag} {mg : Str → Option Value} {base : Heap}
theorem rep_map (t : List Int) (n : Nat) : (List.replicate n (t.map V.int)).flatten = (rep t n).map V.int := by
  unfold rep
  rw [List.map_flatten, List.map_replicate]
theorem cut_take (xs : List V) (g : Nat) : cutV xs none (some (g : Int)) = xs.take g := by
  unfold cutV
  rw [HT.sIx_none, HT.sIx_nat, List.drop_zero, Nat.sub_zero]
  by_cases h : g ≤ xs.length
  · rw [Nat.min_eq_left h]
  · rw [Nat.min_eq_right (by omega), List.take_of_length_le (by omega), List.take_of_length_le (by omega)]
/-- t[:g]: t itself or a new tuple -/
theorem slice_take {K : PySem.W.Frag} {H : Hp} {a : Addr} {t : List Int} {g : Nat} {Q : VK} (ha : TabAt H a t) (hg : g ≤ t.length)
    (q : ∀ p H', Same H H' → TabAt H' p (t.take g) → (g = t.length → p = a ∧ H' = H) → Q (.ref p) H') : rSlA K (.ref a) none (some (g : Int)) H Q := by
  refine ⟨a, _, rfl, SqT.of ha, fun h => ?_, fun h p hp => ?_⟩
  · rw [HT.sIx_nat, map_len] at h
    have e : g = t.length := by omega
    exact q a H (Same.refl H) (by rw [e, List.take_length]; exact ha) fun _ => ⟨rfl, rfl⟩
  · rw [HT.sIx_none, HT.sIx_nat, map_len] at h
    refine q p _ (Same.new hp) ?_ fun e => absurd ⟨rfl, by omega⟩ h
    rw [TabAt, upd_same, cut_take, List.map_take]
/-- t * k: t itself or a new tuple -/
theorem repA_of {K : PySem.W.Frag} {H : Hp} {p : Addr} {t : List Int} {k : Int} {Q : VK} (hp : TabAt H p t) (ne : t ≠ []) (h1 : 1 ≤ k) (h2 : k ≤ 1000) (hl : t.length ≤ 1000)
    (q : ∀ p2 H3, Same H H3 → TabAt H3 p2 (rep t k.toNat) → Q (.ref p2) H3) : rRepA K (.ref p) (.int k) H Q := by
  refine ⟨p, k, _, rfl, rfl, SqT.of hp, fun z => ne (List.map_eq_nil_iff.mp z), h1, h2, by rw [map_len]; exact hl, fun e => ?_, fun _ p2 hp2 => ?_⟩
  · refine q p H (Same.refl H) ?_
    rw [e]
    show TabAt H p (rep t 1)
    rw [rep_succ]
    show TabAt H p (t ++ [])
    rw [List.append_nil]
    exact hp
  · exact q p2 _ (Same.new hp2) (by rw [TabAt, upd_same, rep_map])
theorem cal_shortened (T : Txt K mg) : Cal P w K mg base 1 "shortened" sp_shortest := by
  refine T.d_shortened.cal sc_shortened (fun vs H Q E h => ?_) (fun _ _ _ _ _ _ us hl => match us, hl with | [_], _ => rfl) (fun f cdv A outer s H vs Q E hr h => ?_)
  · obtain ⟨a, t, rfl, _⟩ := h; rfl
  · obtain ⟨a, t, rfl, ha, tt, q⟩ := h
    have pos := tt.pos
    have len := tt.len
    refine ⟨_, (pss_one (ps_for PassesOwn.never rfl (pi_range2 rfl T.b_range (pa_cons pe_int (pa_cons (pe_op op_add (pe_callB call_len_seq rfl T.b_len (by decide +kernel) (pa_cons (pv 0) pa_nil)) pe_int) pa_nil))) (pg_name (i := 1) sc_shortened.nd rfl (Or.inl rfl)) (pss_one (ps_if (PW.pt (pw_and (pt_cmpR op_eq (pe_op op_mod (pe_callB call_len_seq rfl T.b_len (by decide +kernel) (pa_cons (pv 0) pa_nil)) (pv 1)) pe_int (nomark _)) (pw_and1 (pt_cmpR (op_eqD hr.units) (pe_op op_repAny (pe_slice sl_tupA (pv 0) po_none (po_some (pv 1))) (pe_op op_fdiv (pe_callB call_len_seq rfl T.b_len (by decide +kernel) (pa_cons (pv 0) pa_nil)) (pv 1))) (pv 0) (nomark _))))) (pss_one (ps_ret (pe_slice sl_tupA (pv 0) po_none (po_some (pv 1))))) pss_nil)))), ?_⟩
    refine ⟨_, rfl, a, _, rfl, .inr (SqT.of ha), _, _, rfl, rfl, 1, _, rfl, ⟨by decide, by decide, by rw [map_len]; omega, by rw [map_len]; omega⟩, for_range (lo := 1) (n := (((t.map V.int).length : Int) + 1 - 1).toNat)
      (fun i σ H' => Same H H' ∧ (∃ v : Option V, σ = [some (.ref a), v]) ∧ ∀ k, 1 ≤ k → k < i + 1 → ¬ Per t k) ⟨Same.refl H, ⟨_, rfl⟩, fun k h1 h2 => by omega⟩ ?_ ?_⟩
    · rintro i σ H1 hi ⟨s1, ⟨v, rfl⟩, hno⟩
      rw [map_len] at hi
      have hi' : i < t.length := by omega
      have ha1 := s1 _ _ ha
      have eg : (1 : Int) + (i : Int) = ((i + 1 : Nat) : Int) := by omega
      refine ⟨_, rfl, a, _, rfl, .inr (SqT.of ha1), _, rfl, _, _, rfl, rfl, by omega, rfl, _, rfl, ?_⟩
      show if decide (V.int (((t.map V.int).length : Int) % (1 + (i : Int))) = V.int 0) = true then _ else _
      rw [map_len]
      by_cases hd : t.length % (i + 1) = 0
      · refine iteD (by rw [eg, ← Int.natCast_emod, hd]; rfl) ?_
        rw [eg]
        refine ⟨_, rfl, _, rfl, _, rfl, ?_⟩
        refine slice_take ha1 (by omega) fun p H2 s2 hp he => ?_
        have ha2 := s2 _ _ ha1
        have dpos : 1 ≤ t.length / (i + 1) := (Nat.one_le_div_iff (by omega)).mpr (by omega)
        have dle : t.length / (i + 1) ≤ t.length := Nat.div_le_self _ _
        have dI : ((t.length : Nat) : Int) / ((i + 1 : Nat) : Int) = ((t.length / (i + 1) : Nat) : Int) := (Int.natCast_ediv _ _).symm
        have tl : (t.take (i + 1)).length = i + 1 := by rw [List.length_take]; omega
        refine ⟨_, rfl, a, _, rfl, .inr (SqT.of ha2), _, rfl, _, _, rfl, rfl, ⟨by omega, by omega⟩, ?_⟩
        show rRepA K (.ref p) (.int (((t.map V.int).length : Int) / ((i + 1 : Nat) : Int))) H2 _
        rw [map_len, dI]
        refine repA_of hp (fun z => by rw [z] at tl; simp at tl) (by omega) (by omega) (by omega) fun p2 H3 s3 hp2 => ?_
        rw [Int.toNat_natCast] at hp2
        have ha3 := s3 _ _ ha2
        refine ⟨_, rfl, _, _, .tup (SqT.of hp2) (dp_ints _), .tup (SqT.of ha3) (dp_ints _), shaped_tup _, shaped_tup _, _, rfl, ?_⟩
        show if PyData.eqvAll ((rep (t.take (i + 1)) (t.length / (i + 1))).map PyData.int) (t.map PyData.int) = true then _ else _
        rw [eqvAll_ints]
        by_cases hp1 : rep (t.take (i + 1)) (t.length / (i + 1)) = t
        · refine iteD hp1 ⟨_, rfl, _, rfl, _, rfl, ?_⟩
          refine slice_take ha3 (by omega) fun p4 H4 s4 hp4 _ => ?_
          exact q (i + 1) p4 H4 ⟨by omega, by omega, ⟨hd, hp1⟩, fun k h1 h2 => hno k h1 h2⟩ (((s1.trans s2).trans s3).trans s4) hp4
        · refine iteDF hp1 ⟨(s1.trans s2).trans s3, ⟨_, rfl⟩, fun k h1 h2 hp => ?_⟩
          by_cases e : k = i + 1
          · subst e; exact hp1 hp.2
          · exact hno k h1 (by omega) hp
      · refine iteDF (fun z => hd ?_) ⟨s1, ⟨_, rfl⟩, fun k h1 h2 hp => ?_⟩
        · have := V.int.inj z
          rw [eg, ← Int.natCast_emod] at this
          omega
        · by_cases e : k = i + 1
          · subst e; exact hd hp.1
          · exact hno k h1 (by omega) hp
    · rintro σ H1 ⟨s1, _, hno⟩
      rw [map_len] at hno
      refine absurd ?_ (hno t.length pos (by omega))
      refine ⟨Nat.mod_self _, ?_⟩
      rw [List.take_length, Nat.div_self (by omega)]
      unfold rep
      simp
theorem cal_shortest (T : Txt K mg) : Cal P w K mg base 5 "shortest" sp_shortest := by
  have G_need_table := cal_need_table (P := P) (w := w) (base := base) T
  have G_shortened := cal_shortened (P := P) (w := w) (base := base) T
  refine T.d_shortest.cal sc_shortest (fun vs H Q E h => ?_) (fun _ _ _ _ _ _ us hl => match us, hl with | [_], _ => rfl) (fun f cdv A outer s H vs Q E hr h => ?_)
  · obtain ⟨a, t, rfl, _⟩ := h; rfl
  · obtain ⟨a, t, rfl, ha, tt, q⟩ := h
    refine ⟨_, (pss_cons (ps_expr (pe_cal G_need_table (hr.mono (by decide)) rfl (pa_cons (pv 0) pa_nil)))
      (pss_one (ps_ret (pe_cal G_shortened (hr.mono (by decide)) rfl (pa_cons (pv 0) pa_nil))))), ?_⟩
    exact ⟨_, rfl, a, t, rfl, ha, tt, fun H' s1 => ⟨_, rfl, a, t, rfl, s1 _ _ ha, tt, fun g p H2 S s2 hp => q g p H2 S (s1.trans s2) hp⟩⟩
end
end Ba
end
section
set_option Elab.async false
set_option maxRecDepth 100000
set_option maxHeartbeats 4000000
/-! Fitting: what was seen, the known holds. -/
namespace Ba
open PySem PySem.Spec PyProof.Rows L2
/-- a tuple of pairs of ints -/
def SeenAt (H : Hp) (a : Addr) (seen : List (Int × Int)) : Prop :=
  ∃ ps : List Addr, H a = some (.tup (ps.map V.ref)) ∧ ps.length = seen.length ∧ ∀ (j : Nat) (p : Addr), ps[j]? = some p → ∃ q, seen[j]? = some q ∧ H p = some (.tup [.int q.1, .int q.2])
theorem SeenAt.same {H H' : Hp} {a : Addr} {seen : List (Int × Int)} (h : SeenAt H a seen) (s : Same H H') : SeenAt H' a seen := by
  obtain ⟨ps, h1, h2, h3⟩ := h
  exact ⟨ps, s _ _ h1, h2, fun j p e => let ⟨q, e1, e2⟩ := h3 j p e; ⟨q, e1, s _ _ e2⟩⟩
def sp_are_seen : Sp := fun vs H Q _ => ∃ (a : Addr) (seen : List (Int × Int)), vs = [.ref a] ∧ SeenAt H a seen ∧ 1 ≤ seen.length ∧ seen.length ≤ 200 ∧ ∀ H', Same H H' → Q (.bl true) H'
def kvsOf (ks : List (Int × Int)) : List (Key × V) := ks.map fun p => ((Sum.inl p.1 : Key), V.int p.2)
theorem valV_kvs (k : Int) : ∀ ks : List (Int × Int), valV (kvsOf ks) (Sum.inl k : Key) = (ks.lookup k).map V.int
  | [] => rfl
  | (a, b) :: ks => by
    rw [List.lookup_cons]
    show valV (((Sum.inl a : Key), V.int b) :: kvsOf ks) (Sum.inl k : Key) = _
    by_cases e : a = k
    · subst e
      rw [valV_pos rfl]
      simp
    · have e2 : (k == a) = false := beq_eq_false_iff_ne.mpr (Ne.symm e)
      rw [valV_neg (fun z => e (Sum.inl.inj z)), e2, valV_kvs k ks]
theorem putK_kvs {ks : List (Int × Int)} {k h : Int} (e : ks.lookup k = none) : putK (kvsOf ks) (Sum.inl k : Key) (.int h) = kvsOf (ks ++ [(k, h)]) := by
  rw [putK_new _ (by rw [valV_kvs, e]; rfl)]
  unfold kvsOf
  rw [List.map_append]
  rfl
theorem kvs_len (ks : List (Int × Int)) : (kvsOf ks).length = ks.length := List.length_map ..
/-- no table of the length -/
def NoTab (L : Nat) (seen : List (Int × Int)) : Prop := ∀ T, IsTab T → T.length = L → ¬ fits T seen
def sp_known_holds : Sp := fun vs H Q _ => ∃ (L : Nat) (a : Addr) (seen : List (Int × Int)), vs = [.int L, .ref a] ∧ SeenAt H a seen ∧ 1 ≤ L ∧ L ≤ 24 ∧ seen.length ≤ 200 ∧
  (∀ d ks H', Same H H' → H d = none → H' d = some (.dK (kvsOf ks)) → Known L seen ks → Q (.ref d) H') ∧ (∀ H', Same H H' → NoTab L seen → Q .non H')
theorem sc_are_seen : FnScope ["thing", "pair", "one", "other"] ["thing"] (defScope s_are_seen) := ⟨rfl, rfl, rfl, by decide +kernel, rfl, by decide +kernel, by decide +kernel⟩
theorem sc_known_holds : FnScope ["length", "seen", "holds", "thing", "tick", "hold"] ["length", "seen"] (defScope s_known_holds) := ⟨rfl, rfl, rfl, by decide +kernel, rfl, by decide +kernel, by decide +kernel⟩
section
variable {P : Program} {w : World} {K : PySem.W.Frag} {mg : Str → Option Value} {base : Heap}
theorem ps_get {ps : List Addr} {i : Nat} {x : V} (h : (ps.map V.ref)[i]? = some x) : ∃ p, ps[i]? = some p ∧ x = .ref p := by
  rw [List.getElem?_map] at h
  cases e : ps[i]? with
  | none => rw [e] at h; cases h
  | some p =>
    rw [e] at h
    exact ⟨p, rfl, (Option.some.inj h).symm⟩
theorem cal_are_seen (T : Txt K mg) : Cal P w K mg base 2 "are_seen" sp_are_seen := by
  have G_is_integer := cal_is_integer (P := P) (w := w) (base := base) T
  refine T.d_are_seen.cal sc_are_seen (fun vs H Q E h => ?_) (fun _ _ _ _ _ _ us hl => match us, hl with | [_], _ => rfl) (fun f cdv A outer s H vs Q E hr h => ?_)
  · obtain ⟨a, seen, rfl, _⟩ := h; rfl
  · obtain ⟨a, seen, rfl, ⟨ps, ha, hlen, hp⟩, h1, h2, q⟩ := h
    have pl : (ps.map V.ref).length = seen.length := by rw [List.length_map]; exact hlen
    refine ⟨_, (pss_cons (ps_if (PW.pt (pw_or (pt_not (pt_val (pe_callB call_isi rfl T.b_isinstance (by decide +kernel) (pa_cons (pv 0) (pa_cons (pe_bltn (v := .ty "tuple") (u := .type "tuple") rfl T.b_tuple (by decide +kernel) rfl) pa_nil))))) (pw_or1 (pt_not (pt_chain op_le op_le pe_int (pe_callB call_len_seq rfl T.b_len (by decide +kernel) (pa_cons (pv 0) pa_nil)) (pe_gI rfl T.MOST_SEEN)))))) (pss_one (ps_ret pe_bl)) pss_nil)
      (pss_cons (ps_if (pt_not (pt_val (pe_callB (cr_all rfl) rfl T.b_all (by decide +kernel) (pa_cons (pe_lc (own := [("pair", 1)]) (g := gName 1) (tt := tYes) rfl sc_are_seen.nd (pi_tup (pv 0)) (blkOk_by (own := [("pair", 1)]) (N := ["thing", "pair", "one", "other"]) (sc := defScope s_are_seen) (by decide +kernel)) (fun _ _ _ _ _ => (pg_name (i := 1) sc_are_seen.nd rfl (Or.inl rfl))) (fun _ _ _ _ _ => pts_nil) (fun _ _ _ _ _ => (pe_and (pe_callB (call_isiK (K := K) rfl) rfl T.b_isinstance (by decide +kernel) (pa_cons (pv 1) (pa_cons (pe_bltn (v := .ty "tuple") (u := .type "tuple") rfl T.b_tuple (by decide +kernel) rfl) pa_nil))) (pe_one (pe_cmpR op_eq (pe_callB (call_len_seqK (K := K) rfl) rfl T.b_len (by decide +kernel) (pa_cons (pv 1) pa_nil)) pe_int (nomark _)))))) pa_nil)))) (pss_one (ps_ret pe_bl)) pss_nil)
      (pss_one (ps_ret (pe_callB (cr_all rfl) rfl T.b_all (by decide +kernel) (pa_cons (pe_lc (own := [("one", 2), ("other", 3)]) (g := gTup K 2 (gCons (gName 2) (gCons (gName 3) gNil))) (tt := tYes) rfl sc_are_seen.nd (pi_tup (pv 0)) (blkOk_by (own := [("one", 2), ("other", 3)]) (N := ["thing", "pair", "one", "other"]) (sc := defScope s_are_seen) (by decide +kernel)) (fun _ _ _ _ _ => (pg_tup rfl (pgs_cons (pg_name (i := 2) sc_are_seen.nd rfl (Or.inl rfl)) (pgs_cons (pg_name (i := 3) sc_are_seen.nd rfl (Or.inl rfl)) pgs_nil)))) (fun _ _ _ _ _ => pts_nil) (fun _ _ _ _ _ => (pe_and (pe_cal G_is_integer (hr.mono (by decide)) rfl (pa_cons (pv 2) pa_nil)) (pe_one (pe_cal G_is_integer (hr.mono (by decide)) rfl (pa_cons (pv 3) pa_nil)))))) pa_nil)))))), ?_⟩
    refine ⟨_, rfl, _, _, _, _, true, rfl, .ty _, .base (.tup ha), kit_ty (by decide +kernel), true, rfl, iteF ?_⟩
    refine ⟨_, rfl, a, _, rfl, .inr (SqT.of ha), _, _, rfl, rfl, _, rfl, iteD (by rw [pl]; omega) ⟨_, _, rfl, rfl, _, rfl, iteNS (by rw [pl]; omega) ?_⟩⟩
    -- all pairs are tuples of two
    refine ⟨_, rfl, a, rfl, ⟨_, SqT.of ha⟩, fun D hD => lc_it (walk_tup (K := K) (a := a) (xs := ps.map V.ref)) (fun i H' => Same H H' ∧ H' D = some (.lst ((List.replicate i true).map V.bl)))
      ⟨Same.new hD, upd_same⟩ (fun i H' _ p => SqT.of (p.1 _ _ ha)) ?_ ?_⟩
    · rintro i x H1 H2 hi ⟨s1, hL⟩ ⟨rfl, ex⟩
      rw [pl] at hi
      obtain ⟨p, ep, rfl⟩ := ps_get ex
      obtain ⟨qq, eq, hq⟩ := hp i p ep
      have hq1 := s1 _ _ hq
      refine ⟨rfl, tYes_mk (iteT ⟨_, rfl, _, _, _, _, true, rfl, .ty _, .base (.tup hq1), kit_ty (by decide +kernel), true, rfl, iteT ⟨_, rfl, p, _, rfl, .inr (SqT.of hq1), rfl, ?_⟩⟩)⟩
      refine ⟨_, hL, ?_, s1.mut hD, ?_⟩
      · rw [List.length_map, List.length_replicate]
        exact line_lt (by omega)
      · rw [upd_same]
        exact congrArg (fun z => some (HO.lst z)) (rep_snoc i)
    · rintro H1 ⟨s1, hL⟩
      refine ⟨D, _, rfl, SqL.of hL, _, rfl, ?_⟩
      rw [all_rep]
      refine iteF ?_
      have ha1 := s1 _ _ ha
      refine ⟨_, rfl, a, rfl, ⟨_, SqT.of ha1⟩, fun D2 hD2 => lc_it (walk_tup (K := K) (a := a) (xs := ps.map V.ref)) (fun i H' => Same H1 H' ∧ H' D2 = some (.lst ((List.replicate i true).map V.bl)))
        ⟨Same.new hD2, upd_same⟩ (fun i H' _ p => SqT.of (p.1 _ _ ha1)) ?_ ?_⟩
      · rintro i x H2 H3 hi ⟨s2, hL2⟩ ⟨rfl, ex⟩
        rw [pl] at hi
        obtain ⟨p, ep, rfl⟩ := ps_get ex
        obtain ⟨qq, eq, hq⟩ := hp i p ep
        have hq1 := s2 _ _ (s1 _ _ hq)
        refine ⟨p, _, rfl, SqT.of hq1, rfl, _, _, rfl, _, _, rfl, rfl, rfl, tYes_mk (iteT ⟨_, rfl, _, rfl, _, rfl, iteT ⟨_, rfl, _, rfl, _, hL2, ?_, s2.mut hD2, ?_⟩⟩)⟩
        · rw [List.length_map, List.length_replicate]
          exact line_lt (by omega)
        · rw [upd_same, rep_snoc]
      · rintro H2 ⟨s2, hL2⟩
        refine ⟨D2, _, rfl, SqL.of hL2, ?_⟩
        rw [all_rep]
        exact q H2 (s1.trans s2)
theorem take_snoc {α : Type} {l : List α} {i : Nat} {x : α} (h : l[i]? = some x) : l.take (i + 1) = l.take i ++ [x] := by
  rw [List.take_succ, h]
  rfl
theorem cal_known_holds (T : Txt K mg) : Cal P w K mg base 1 "known_holds" sp_known_holds := by
  refine T.d_known_holds.cal sc_known_holds (fun vs H Q E h => ?_) (fun _ _ _ _ _ _ us hl => match us, hl with | [_, _], _ => rfl) (fun f cdv A outer s H vs Q E hr h => ?_)
  · obtain ⟨L, a, seen, rfl, _⟩ := h; rfl
  · obtain ⟨L, a, seen, rfl, ⟨ps, ha, hlen, hp⟩, h1, h2, hz, qY, qN⟩ := h
    have pl : (ps.map V.ref).length = seen.length := by rw [List.length_map]; exact hlen
    refine ⟨_, (pss_cons (ps_set (i := 2) sc_known_holds.nd rfl (Or.inl rfl) pe_dnewK)
      (pss_cons (ps_for PassesOwn.never rfl (pi_tup (pv 1)) (pg_tup rfl (pgs_cons (pg_name (i := 3) sc_known_holds.nd rfl (Or.inl rfl)) (pgs_cons (pg_name (i := 4) sc_known_holds.nd rfl (Or.inl rfl)) pgs_nil))) (pss_cons (ps_set (i := 5) sc_known_holds.nd rfl (Or.inl rfl) (pe_op op_sub (pv 4) (pv 3)))
      (pss_one (ps_if (PW.pt (pw_or (pt_not (pt_chain op_le op_le pe_int (pv 5) (pe_gI rfl T.GREATEST_HOLD))) (pw_or1 (pt_cmpR op_ne (pe_dsetd (pv 2) (pe_op op_mod (pv 3) (pv 0)) (pv 5) ⟨rfl, rfl, rfl, rfl⟩) (pv 5) (nomark _))))) (pss_one (ps_ret pe_non)) pss_nil))))
      (pss_one (ps_ret (pv 2))))), ?_⟩
    intro d hd
    have s0 : Same H (upd H d (.dK [])) := Same.new hd
    refine ⟨_, rfl, a, rfl, ⟨_, SqT.of (s0 _ _ ha)⟩, for_tup (K := K) (a := a) (xs := ps.map V.ref)
      (fun i σ H' => Same H H' ∧ (∃ v3 v4 v5 : Option V, σ = [some (.int L), some (.ref a), some (.ref d), v3, v4, v5]) ∧ ∃ ks, H' d = some (.dK (kvsOf ks)) ∧ Known L (seen.take i) ks)
      ⟨s0, ⟨_, _, _, rfl⟩, [], upd_same, Known.nil L⟩ (fun i σ H' _ p => SqT.of (p.1 _ _ ha)) ?_ ?_⟩
    · rintro i x σ H1 hi ⟨s1, ⟨v3, v4, v5, rfl⟩, ks, hk, kn⟩
      obtain ⟨p, ep, rfl⟩ := ps_get hi
      obtain ⟨qq, eq, hq⟩ := hp i p ep
      have hq1 := s1 _ _ hq
      have qm : qq ∈ seen := List.mem_of_getElem? eq
      refine ⟨p, _, rfl, SqT.of hq1, rfl, _, _, rfl, _, _, rfl, rfl, ?_⟩
      refine ⟨_, rfl, _, rfl, _, _, rfl, rfl, ?_⟩
      refine ⟨_, rfl, _, _, rfl, rfl, _, rfl, ?_⟩
      by_cases c0 : (0 : Int) ≤ qq.2 - qq.1
      · refine iteD c0 ⟨_, _, rfl, rfl, _, rfl, ?_⟩
        by_cases c1 : qq.2 - qq.1 ≤ 60
        · refine iteNS c1 ?_
          refine ⟨_, rfl, d, rfl, .inl ⟨_, Rd.of hk⟩, _, rfl, _, rfl, _, _, rfl, rfl, by omega, _, rfl, kvsOf ks, Sum.inl (qq.1 % (L : Int)), hk, rfl, ?_, fun v hv => ?_, fun hn => ?_⟩
          · rw [kvs_len]
            have := kn.len
            rw [List.length_take] at this
            exact line_lt (by omega)
          · rw [valV_kvs] at hv
            cases e : ks.lookup (qq.1 % (L : Int)) with
            | none => rw [e] at hv; cases hv
            | some h0 =>
              rw [e] at hv
              cases hv
              refine ⟨_, rfl, rfl, _, rfl, ?_⟩
              by_cases c2 : h0 = qq.2 - qq.1
              · subst c2
                refine iteNS rfl ⟨s1, ⟨_, _, _, rfl⟩, ks, hk, ?_⟩
                rw [take_snoc eq]
                exact kn.same e
              · exact iteNF (fun z => c2 (V.int.inj z)) (qN _ s1 fun T _ hl => kn.clash (fun p hp => List.mem_of_mem_take hp) qm e c2 hl)
          · rw [valV_kvs] at hn
            have e : ks.lookup (qq.1 % (L : Int)) = none := by
              cases e : ks.lookup (qq.1 % (L : Int)) with
              | none => rfl
              | some h0 => rw [e] at hn; cases hn
            refine ⟨_, rfl, rfl, _, rfl, iteNS rfl ⟨s1.mut hd, ⟨_, _, _, rfl⟩, ks ++ [(qq.1 % (L : Int), qq.2 - qq.1)], ?_, ?_⟩⟩
            · rw [upd_same, putK_kvs e]
            · rw [take_snoc eq]
              exact kn.more h1 ⟨c0, c1⟩ e
        · exact iteNF c1 (iteT (qN _ s1 fun T TT _ => no_far TT qm (by omega)))
      · exact iteDF c0 ⟨false, rfl, iteT (iteT (qN _ s1 fun T TT _ => no_far TT qm (by omega)))⟩
    · rintro σ H1 ⟨s1, ⟨v3, v4, v5, rfl⟩, ks, hk, kn⟩
      rw [pl, List.take_length] at kn
      exact ⟨_, rfl, qY d ks H1 s1 hd hk kn⟩
end
end Ba
end
section
set_option Elab.async false
set_option maxRecDepth 100000
set_option maxHeartbeats 4000000
/-! Fitting: the first table of a length, the shortest one. -/
namespace Ba
open PySem PySem.Spec PyProof.Rows L2
def sp_fitted : Sp := fun vs H Q _ => ∃ (L : Nat) (a : Addr) (seen : List (Int × Int)), vs = [.int L, .ref a] ∧ SeenAt H a seen ∧ 1 ≤ L ∧ L ≤ 24 ∧ seen.length ≤ 200 ∧
  (∀ p T H', Same H H' → TabAt H' p T → IsTab T → T.length = L → fits T seen → Q (.ref p) H') ∧ (∀ H', Same H H' → NoTab L seen → Q .non H')
def sp_fitting : Sp := fun vs H Q _ => ∃ (a : Addr) (seen : List (Int × Int)), vs = [.ref a] ∧ SeenAt H a seen ∧ 1 ≤ seen.length ∧ seen.length ≤ 200 ∧
  (∀ p T H', Same H H' → TabAt H' p T → IsTab T → fits T seen → (∀ U, IsTab U → fits U seen → T.length ≤ U.length) → Q (.ref p) H') ∧ (∀ H', Same H H' → (∀ U, IsTab U → ¬ fits U seen) → Q .non H')
theorem sc_fitted : FnScope ["length", "seen", "holds", "place", "taken", "hold"] ["length", "seen"] (defScope s_fitted) := ⟨rfl, rfl, rfl, by decide +kernel, rfl, by decide +kernel, by decide +kernel⟩
theorem sc_fitting : FnScope ["seen", "length", "found"] ["seen"] (defScope s_fitting) := ⟨rfl, rfl, rfl, by decide +kernel, rfl, by decide +kernel, by decide +kernel⟩
/-- the residues of the first i -/
def resT (L : Nat) (ks : List (Int × Int)) (i : Nat) : List Int := (ks.take i).map (res L)
theorem resT_succ {L : Nat} {ks : List (Int × Int)} {i : Nat} {q : Int × Int} (h : ks[i]? = some q) : resT L ks (i + 1) = resT L ks i ++ [res L q] := by
  unfold resT
  rw [take_snoc h, List.map_append]
  rfl
theorem nodup_snoc {l : List Int} {c : Int} : (l ++ [c]).Nodup ↔ l.Nodup ∧ c ∉ l := by
  rw [List.nodup_append]
  constructor
  · rintro ⟨h1, _, h3⟩
    exact ⟨h1, fun m => h3 c m c (by simp) rfl⟩
  · rintro ⟨h1, h2⟩
    exact ⟨h1, by simp, fun a ha b hb e => by
      have : b = c := by simpa using hb
      subst this; subst e
      exact h2 ha⟩
theorem kvs_get {ks : List (Int × Int)} {i : Nat} {q : Int × Int} (h : ks[i]? = some q) : (kvsOf ks)[i]? = some ((Sum.inl q.1 : Key), V.int q.2) := by
  unfold kvsOf
  rw [List.getElem?_map, h]
  rfl
section
variable {P : Program} {w : World} {K : PySem.W.Frag} {mg : Str → Option Value} {base : Heap}
theorem cal_fitted (T : Txt K mg) : Cal P w K mg base 2 "fitted" sp_fitted := by
  have G_known_holds := cal_known_holds (P := P) (w := w) (base := base) T
  refine T.d_fitted.cal sc_fitted (fun vs H Q E h => ?_) (fun _ _ _ _ _ _ us hl => match us, hl with | [_, _], _ => rfl) (fun f cdv A outer s H vs Q E hr h => ?_)
  · obtain ⟨L, a, seen, rfl, _⟩ := h; rfl
  · obtain ⟨L, a, seen, rfl, hs, h1, h2, hz, qY, qN⟩ := h
    have h4 : scanBound = 4096 := rfl
    refine ⟨_, (pss_cons (ps_set (i := 2) sc_fitted.nd rfl (Or.inr rfl) (pe_cal G_known_holds (hr.mono (by decide)) rfl (pa_cons (pv 0) (pa_cons (pv 1) pa_nil))))
      (pss_cons (ps_if (pt_cmpR op_isN (pv 2) pe_non (nomark _)) (pss_one (ps_ret pe_non)) pss_nil)
      (pss_cons (ps_set (i := 4) sc_fitted.nd rfl (Or.inr rfl) (pe_lock (pe_si (own := [("place", 3), ("hold", 5)]) (g := gTup K 2 (gCons (gName 3) (gCons (gName 5) gNil))) (tt := tYes) rfl sc_fitted.nd (pi_items (pv 2)) (blkOk_by (own := [("place", 3), ("hold", 5)]) (N := ["length", "seen", "holds", "place", "taken", "hold"]) (sc := defScope s_fitted) (by decide +kernel)) (fun _ _ _ _ _ => (pg_tup rfl (pgs_cons (pg_name (i := 3) sc_fitted.nd rfl (Or.inl rfl)) (pgs_cons (pg_name (i := 5) sc_fitted.nd rfl (Or.inl rfl)) pgs_nil)))) (fun _ _ _ _ _ => pts_nil) (fun _ _ _ _ _ => (pe_op op_mod (pe_op op_add (pv 3) (pv 5)) (pv 0))))))
      (pss_cons (ps_if (pt_cmpR op_lt (pe_callB call_lenSet rfl T.b_len (by decide +kernel) (pa_cons (pv 4) pa_nil)) (pe_callB call_lenD rfl T.b_len (by decide +kernel) (pa_cons (pv 2) pa_nil)) (nomark _)) (pss_one (ps_ret pe_non)) pss_nil)
      (pss_cons (ps_for PassesOwn.never rfl (pi_range1 rfl T.b_range (pa_cons (pv 0) pa_nil)) (pg_name (i := 3) sc_fitted.nd rfl (Or.inr rfl)) (pss_one (ps_if (pt_cmp (pc_dnotin (hu_of hr) (pv 3) (pv 2))) (pss_cons (ps_dput (hu_of hr) (pv 2) (pv 3) (pe_callB (cr_min rfl) rfl T.b_min (by decide +kernel) (pa_cons (pe_lc (own := [("hold", 5)]) (g := gName 5) rfl sc_fitted.nd (pi_range1 rfl T.b_range (pa_cons (pv 0) pa_nil)) (blkOk_by (own := [("hold", 5)]) (N := ["length", "seen", "holds", "place", "taken", "hold"]) (sc := defScope s_fitted) (by decide +kernel)) (fun _ _ _ _ _ => (pg_name (i := 5) sc_fitted.nd rfl (Or.inl rfl))) (fun _ _ _ _ _ => (pts_one (pt_cmpR (or_snotinW (w := w) rfl) (pe_op op_mod (pe_op op_add (pv 3) (pv 5)) (pv 0)) (pv 4) rfl))) (fun _ _ _ _ _ => (pv 5))) pa_nil)) rfl)
      (pss_one (ps_expr (pe_sadd (pv 4) (pa_cons (pe_op op_mod (pe_op op_add (pv 3) (pe_dget (hu_of hr) (pv 2) (pv 3) (fun _ _ => rfl))) (pv 0)) pa_nil))))) pss_nil)))
      (pss_one (ps_ret (pe_callTy call_tuple_of rfl T.b_tuple (by decide +kernel) (pa_cons (pe_lc (own := [("place", 3)]) (g := gName 3) (tt := tYes) rfl sc_fitted.nd (pi_range1 rfl T.b_range (pa_cons (pv 0) pa_nil)) (blkOk_by (own := [("place", 3)]) (N := ["length", "seen", "holds", "place", "taken", "hold"]) (sc := defScope s_fitted) (by decide +kernel)) (fun _ _ _ _ _ => (pg_name (i := 3) sc_fitted.nd rfl (Or.inl rfl))) (fun _ _ _ _ _ => pts_nil) (fun _ _ _ _ _ => (pe_dget (hu_of hr) (pv 2) (pv 3) (fun _ _ => rfl)))) pa_nil))))))))), ?_⟩
    refine ⟨_, rfl, _, rfl, L, a, seen, rfl, hs, h1, h2, hz, fun d ks H1 s1 hd hk kn => ?_, fun H1 s1 no => ⟨_, rfl, rfl, _, rfl, iteD rfl (qN H1 s1 no)⟩⟩
    refine ⟨_, rfl, rfl, _, rfl, iteDF (fun z => nomatch z) ?_⟩
    -- the set of what is taken
    refine ⟨d, _, hk, trivial, fun od => ?_⟩
    refine ⟨_, rfl, d, od, _, rfl, upd_same, fun D hD => si_it (walk_items (d := d) (o := od) (kvs := kvsOf ks))
      (fun i H' => Same (upd H1 d (.frz od (.dK (kvsOf ks)))) H' ∧ ∃ S n, H' D = some (SetO w D S n) ∧ n ≤ i ∧ (∀ r, S r = true ↔ r ∈ resT L ks i) ∧ (n = i ↔ (resT L ks i).Nodup))
      ⟨Same.new hD, _, 0, upd_same, Nat.le_refl _, fun r => ⟨fun z => absurd z Bool.false_ne_true, fun z => nomatch z⟩, ⟨fun _ => List.nodup_nil, fun _ => rfl⟩⟩ (fun i H' _ p => p.1 _ _ upd_same) ?_ ?_⟩
    · rintro i x H2 H3 hi ⟨s2, S, n, hS, hn, hm, hnd⟩ ⟨TT, x1, y1, rfl, nT, rfl, e1, e2⟩
      rw [kvs_len] at hi
      obtain ⟨q, hq⟩ : ∃ q, ks[i]? = some q := ⟨ks[i], List.getElem?_eq_getElem hi⟩
      have e1 : ((kvsOf ks)[i]?.map fun kv => kV kv.1) = some x1 := e1
      have e2 : (kvsOf ks)[i]?.map Prod.snd = some y1 := e2
      rw [kvs_get hq] at e1 e2
      cases e1
      cases e2
      have nTD : D ≠ TT := ne_of_none hS nT
      refine ⟨TT, _, rfl, SqT.of upd_same, rfl, _, _, rfl, _, _, rfl, rfl, rfl, tYes_mk (iteT ?_)⟩
      refine ⟨_, rfl, _, rfl, _, _, rfl, rfl, _, rfl, _, _, rfl, rfl, by omega, _, S, n, rfl, by rw [upd_ne nTD]; exact hS, by have := kn.len; omega, (s2.trans (Same.new nT)).mut hD, fun r => S r || decide (r = res L q), _, upd_same, ?_, fun r => ?_, ?_⟩
      · split <;> omega
      · rw [Bool.or_eq_true, decide_eq_true_eq, hm, resT_succ hq, List.mem_append, List.mem_singleton]
      · rw [resT_succ hq, nodup_snoc, ← hnd, ← hm]
        show (if S (res L q) = true then n else n + 1) = i + 1 ↔ _
        by_cases c : S (res L q) = true
        · rw [if_pos c]
          exact ⟨fun z => by omega, fun z => absurd c z.2⟩
        · rw [if_neg c]
          exact ⟨fun z => ⟨by omega, c⟩, fun z => by omega⟩
    · rintro H2 ⟨s2, S, n, hS, hn, hm, hnd⟩
      rw [kvs_len] at hn hm hnd
      have nDd : D ≠ d := fun z => by
        rw [z, upd_same] at hD
        cases hD
      have hD1 : H1 D = none := by
        rw [upd_ne nDd] at hD
        exact hD
      have hD0 : H D = none := s1.free hD1
      have s2' : Same H H2 := (s1.mut hd).trans s2
      have s3 : Same H (upd H2 d (.dK (kvsOf ks))) := s2'.mut hd
      have full : resT L ks ks.length = ks.map (res L) := by
        unfold resT
        rw [List.take_length]
      rw [full] at hm hnd
      refine ⟨s2 _ _ upd_same, ?_⟩
      generalize hH3 : upd H2 d (HO.dK (kvsOf ks)) = H3 at s3 ⊢
      have hk3 : H3 d = some (.dK (kvsOf ks)) := by rw [← hH3, upd_same]
      have hS3 : H3 D = some (SetO w D S n) := by rw [← hH3, upd_ne nDd]; exact hS
      refine ⟨_, rfl, D, S, n, rfl, hS3, _, rfl, d, _, rfl, hk3, _, _, rfl, rfl, _, rfl, ?_⟩
      by_cases c : n < ks.length
      · refine iteD (by rw [kvs_len]; omega) (qN _ s3 fun U TU hl => kn.meet (fun z => ?_) TU hl)
        have := hnd.mpr z
        omega
      · refine iteDF (by rw [kvs_len]; omega) ?_
        have en : n = ks.length := by omega
        have ndk := hnd.mp en
        subst en
        -- the places without a hold
        refine ⟨_, rfl, (L : Int), rfl, by omega, by omega, for_range (lo := 0) (n := ((L : Int)).toNat)
          (fun i σ H' => Same H H' ∧ (∃ v3 v5 : Option V, σ = [some (.int L), some (.ref a), some (.ref d), v3, some (.ref D), v5]) ∧
            ∃ ks S, H' d = some (.dK (kvsOf ks)) ∧ H' D = some (SetO w D S ks.length) ∧ Fill L seen i ks ∧ ∀ r, S r = true ↔ r ∈ ks.map (res L))
          ⟨s3, ⟨_, _, rfl⟩, ks, S, hk3, hS3, Fill.start kn ndk, hm⟩ ?_ ?_⟩
        · rintro i σ H4 hi ⟨s4, ⟨v3, v5, rfl⟩, ks, S, hk4, hS4, F, hm⟩
          rw [Int.toNat_natCast] at hi
          have ei : (0 : Int) + (i : Int) = (i : Int) := by omega
          have Fle := F.le
          refine ⟨_, rfl, _, rfl, d, _, rfl, DGet.k (k := Sum.inl ((0 : Int) + (i : Int))) hk4, _, rfl, ?_⟩
          rw [valV_kvs, ei]
          cases el : ks.lookup (i : Int) with
          | some hh => exact iteF ⟨s4, ⟨_, _, rfl⟩, ks, S, hk4, hS4, F.skip el, hm⟩
          | none =>
            refine iteT ?_
            have flt := F.lt hi el
            refine ⟨_, rfl, (L : Int), rfl, by omega, by omega, fun D2 hD2 => lc_it (walk_range (lo := 0) (n := ((L : Int)).toNat))
              (fun j H' => Same H4 H' ∧ ∃ ms : List Int, H' D2 = some (.lst (ms.map V.int)) ∧ ms.length ≤ j ∧ ∀ m, m ∈ ms ↔ ∃ h : Nat, h < j ∧ m = (h : Int) ∧ ((i : Int) + h) % (L : Int) ∉ ks.map (res L))
              ⟨Same.new hD2, [], upd_same, Nat.le_refl _, fun m => ⟨(fun z => nomatch z), fun ⟨h, z, _⟩ => absurd z (Nat.not_lt_zero h)⟩⟩ (fun _ _ _ _ => trivial) ?_ ?_⟩
            · rintro j x H5 H6 hj ⟨s5, ms, hL, hlen, hms⟩ ⟨rfl, rfl⟩
              rw [Int.toNat_natCast] at hj
              have ej : (0 : Int) + (j : Int) = (j : Int) := by omega
              have hS5 := s5 _ _ hS4
              refine ⟨rfl, ?_⟩
              refine ⟨_, rfl, _, rfl, _, _, rfl, rfl, _, rfl, _, _, rfl, rfl, by omega, _, rfl, _, D, S, _, rfl, rfl, hS5, _, rfl, ?_⟩
              rw [ej]
              cases cS : S (((i : Int) + (j : Int)) % (L : Int)) with
              | true =>
                refine iteF ⟨s5, ms, hL, by omega, fun m => ?_⟩
                rw [hms]
                have inn := (hm _).mp cS
                constructor
                · rintro ⟨h, a1, a2, a3⟩
                  exact ⟨h, by omega, a2, a3⟩
                · rintro ⟨h, a1, a2, a3⟩
                  by_cases z : h = j
                  · subst z; exact absurd inn a3
                  · exact ⟨h, by omega, a2, a3⟩
              | false =>
                have out : ((i : Int) + (j : Int)) % (L : Int) ∉ ks.map (res L) := fun z => by
                  rw [(hm _).mpr z] at cS
                  cases cS
                refine iteT ⟨_, rfl, _, hL, ?_, s5.mut hD2, ms ++ [(j : Int)], ?_, by rw [List.length_append]; simp; omega, fun m => ?_⟩
                · rw [List.length_map]
                  exact line_lt (by omega)
                · rw [upd_same, List.map_append]
                  show some (HO.lst (ms.map V.int ++ [V.int ((0 : Int) + (j : Int))])) = _
                  rw [ej]
                  rfl
                · rw [List.mem_append, hms, List.mem_singleton]
                  constructor
                  · rintro (⟨h, a1, a2, a3⟩ | rfl)
                    · exact ⟨h, by omega, a2, a3⟩
                    · exact ⟨j, by omega, rfl, out⟩
                  · rintro ⟨h, a1, a2, a3⟩
                    by_cases z : h = j
                    · subst z; exact .inr a2
                    · exact .inl ⟨h, by omega, a2, a3⟩
            · rintro H5 ⟨s5, ms, hL, hlen, hms⟩
              rw [Int.toNat_natCast] at hms
              obtain ⟨fh, fl, fn⟩ := F.free hi el
              have fm : (fh : Int) ∈ ms := (hms _).mpr ⟨fh, fl, rfl, fn⟩
              refine ⟨D2, ms, rfl, SqL.of hL, List.length_pos_of_mem fm, fun m hmm _ => ?_⟩
              obtain ⟨mh, ml, rfl, mn⟩ := (hms _).mp hmm
              have hk5 := s5 _ _ hk4
              have hS5 := s5 _ _ hS4
              refine ⟨_, rfl, _, rfl, d, _, rfl, DPut.k (k := Sum.inl (i : Int)) hk5 (by rw [kvs_len]; exact line_lt (by omega)), ?_⟩
              rw [putK_kvs el]
              generalize hH6 : upd H5 d (HO.dK (kvsOf (ks ++ [((i : Int), (mh : Int))]))) = H6
              have hk6 : H6 d = some (.dK (kvsOf (ks ++ [((i : Int), (mh : Int))]))) := by rw [← hH6, upd_same]
              have hS6 : H6 D = some (SetO w D S ks.length) := by rw [← hH6, upd_ne nDd]; exact hS5
              have s6 : Same H H6 := by rw [← hH6]; exact (s4.trans s5).mut hd
              have look : valV (kvsOf (ks ++ [((i : Int), (mh : Int))])) (Sum.inl (i : Int) : Key) = some (V.int mh) := by
                rw [valV_kvs, List.lookup_append, el]
                simp
              have get : DGet H6 d (V.int (i : Int)) (some (V.int mh)) := by
                rw [← look]
                exact DGet.k (k := Sum.inl (i : Int)) hk6
              refine ⟨_, rfl, ⟨D, S, _, rfl, hS6⟩, _, rfl, _, rfl, _, rfl, d, _, rfl, get, _, _, rfl, rfl, _, rfl, _, _, rfl, rfl, by omega, ?_⟩
              refine ⟨D, _, S, _, rfl, rfl, hS6, by omega, s6.mut hD0, ⟨_, _, rfl⟩, ks ++ [((i : Int), (mh : Int))], fun r => S r || decide (r = ((i : Int) + mh) % (L : Int)), by rw [upd_ne nDd.symm]; exact hk6, ?_, F.put hi h2 el (by omega) (by omega) mn, fun r => ?_⟩
              · rw [upd_same]
                have cS : S (((i : Int) + (mh : Int)) % (L : Int)) = false := by
                  cases c : S (((i : Int) + (mh : Int)) % (L : Int)) with
                  | false => rfl
                  | true => exact absurd ((hm _).mp c) mn
                rw [cS, List.length_append]
                rfl
              · rw [Bool.or_eq_true, decide_eq_true_eq, hm, List.map_append, List.mem_append]
                show _ ↔ _ ∨ r ∈ [res L ((i : Int), (mh : Int))]
                rw [List.mem_singleton]
                exact Iff.rfl
        · rintro σ H4 ⟨s4, ⟨v3, v5, rfl⟩, ks, S, hk4, hS4, F, hm⟩
          rw [Int.toNat_natCast] at F
          refine ⟨_, rfl, (L : Int), rfl, by omega, by omega, fun D2 hD2 => lc_it (walk_range (lo := 0) (n := ((L : Int)).toNat))
            (fun j H' => Same H4 H' ∧ H' D2 = some (.lst (((List.range j).map (val ks)).map V.int))) ⟨Same.new hD2, upd_same⟩ (fun _ _ _ _ => trivial) ?_ ?_⟩
          · rintro j x H5 H6 hj ⟨s5, hL⟩ ⟨rfl, rfl⟩
            rw [Int.toNat_natCast] at hj
            have ej : (0 : Int) + (j : Int) = (j : Int) := by omega
            have hk5 := s5 _ _ hk4
            obtain ⟨hv, ev⟩ := F.low j hj
            have look : valV (kvsOf ks) (Sum.inl (j : Int) : Key) = some (V.int (val ks j)) := by
              rw [valV_kvs]
              unfold val
              rw [ev]
              rfl
            have get : DGet H6 d (V.int ((0 : Int) + (j : Int))) (some (V.int (val ks j))) := by
              rw [ej, ← look]
              exact DGet.k (k := Sum.inl (j : Int)) hk5
            refine ⟨rfl, tYes_mk (iteT ⟨_, rfl, _, rfl, d, _, rfl, get, _, hL, ?_, s5.mut hD2, ?_⟩)⟩
            · rw [List.length_map, List.length_map, List.length_range]
              exact line_lt (by omega)
            · rw [upd_same, List.range_succ, List.map_append, List.map_append]
              rfl
          · rintro H5 ⟨s5, hL⟩
            rw [Int.toNat_natCast] at hL
            refine ⟨D2, _, rfl, .inl ⟨SqL.of hL, fun p hp => ?_⟩⟩
            exact qY p (tabOf L ks) _ ((s4.trans s5).trans (Same.new hp)) upd_same (F.tab h1 h2) (tabOf_len L ks) (F.fit h1)
theorem cal_fitting (T : Txt K mg) : Cal P w K mg base 3 "fitting" sp_fitting := by
  have G_are_seen := cal_are_seen (P := P) (w := w) (base := base) T
  have G_fitted := cal_fitted (P := P) (w := w) (base := base) T
  refine T.d_fitting.cal sc_fitting (fun vs H Q E h => ?_) (fun _ _ _ _ _ _ us hl => match us, hl with | [_], _ => rfl) (fun f cdv A outer s H vs Q E hr h => ?_)
  · obtain ⟨a, seen, rfl, _⟩ := h; rfl
  · obtain ⟨a, seen, rfl, hs, h1, h2, qY, qN⟩ := h
    refine ⟨_, (pss_cons (ps_if (pt_not (pt_val (pe_cal G_are_seen (hr.mono (by decide)) rfl (pa_cons (pv 0) pa_nil)))) (pss_one ps_never) pss_nil)
      (pss_cons (ps_for PassesOwn.never rfl (pi_range2 rfl T.b_range (pa_cons pe_int (pa_cons (pe_op op_add (pe_gI rfl T.LONGEST) pe_int) pa_nil))) (pg_name (i := 1) sc_fitting.nd rfl (Or.inl rfl)) (pss_cons (ps_set (i := 2) sc_fitting.nd rfl (Or.inl rfl) (pe_cal G_fitted (hr.mono (by decide)) rfl (pa_cons (pv 1) (pa_cons (pv 0) pa_nil))))
      (pss_one (ps_if (pt_cmpR op_notN (pv 2) pe_non (nomark _)) (pss_one (ps_ret (pv 2))) pss_nil))))
      (pss_one (ps_ret pe_non)))), ?_⟩
    refine ⟨_, rfl, a, seen, rfl, hs, h1, h2, fun H1 s1 => ⟨true, rfl, iteF ?_⟩⟩
    refine ⟨_, _, rfl, rfl, 1, _, rfl, ⟨by decide, by decide, by decide, by decide⟩, for_range (lo := 1) (n := 24)
      (fun i σ H' => Same H H' ∧ (∃ v1 v2 : Option V, σ = [some (.ref a), v1, v2]) ∧ ∀ U, IsTab U → U.length ≤ i → ¬ fits U seen) ⟨s1, ⟨_, _, rfl⟩, fun U TU hl => ?_⟩ ?_ ?_⟩
    · have := TU.pos
      omega
    · rintro i σ H2 hi ⟨s2, ⟨v1, v2, rfl⟩, no⟩
      have ei : (1 : Int) + (i : Int) = ((i + 1 : Nat) : Int) := by omega
      rw [ei]
      refine ⟨_, rfl, _, rfl, i + 1, a, seen, rfl, hs.same s2, by omega, by omega, h2, fun p U H3 s3 hp TU hl F => ?_, fun H3 s3 hno => ?_⟩
      · refine ⟨_, rfl, rfl, _, rfl, iteNF (fun z => nomatch z) ⟨_, rfl, ?_⟩⟩
        refine qY p U H3 (s2.trans s3) hp TU F fun W TW FW => ?_
        rcases Nat.lt_or_ge i W.length with z | z
        · omega
        · exact absurd FW (no W TW z)
      · refine ⟨_, rfl, rfl, _, rfl, iteNS rfl ⟨s2.trans s3, ⟨_, _, rfl⟩, fun U TU hl => ?_⟩⟩
        by_cases z : U.length = i + 1
        · exact hno U TU z
        · exact no U TU (by omega)
    · rintro σ H2 ⟨s2, _, no⟩
      exact qN H2 s2 fun U TU => no U TU TU.len
end
end Ba
end
section
set_option Elab.async false
set_option maxRecDepth 100000
set_option maxHeartbeats 4000000
/-! A row's stand: how it lies in the heap. -/
namespace Ba
open PySem PySem.Spec PyProof.Rows L2
theorem lk_hit {k : Str} {v : V} {r : List (Str × V)} : List.lookup k ((k, v) :: r) = some v := by
  have e : (k == k) = true := beq_self_eq_true k
  simp only [List.lookup, e]
theorem lk_miss {k g : Str} {v : V} {r : List (Str × V)} {o : Option V} (h : (k == g) = false) (q : List.lookup k r = o) : List.lookup k ((g, v) :: r) = o := by
  simp only [List.lookup, h]
  exact q
theorem put_hit {f : Str} {v x : V} {r : List (Str × V)} : putF f v ((f, x) :: r) = (f, v) :: r := if_pos rfl
theorem put_miss {f g : Str} {v x : V} {r q : List (Str × V)} (h : ¬ g = f) (e : putF f v r = q) : putF f v ((g, x) :: r) = (g, x) :: q := by
  rw [← e]
  exact if_neg h
theorem put_nil {f : Str} {v : V} : putF f v [] = [(f, v)] := rfl
/-- a stand's attributes -/
def sf (tab e li lo d c g dl : Addr) : List (Str × V) := [("own", .ref tab), ("begin", .int 0), ("coming", .ref e), ("ins", .ref li), ("outs", .ref lo), ("due", .ref d), ("cuts", .ref c), ("gone", .ref g), ("many", .int 0), ("later", .ref dl)]
section
variable {tab e li lo d c g dl x : Addr}
theorem sf_own : (sf tab e li lo d c g dl).lookup ("own" : Str) = some (.ref tab) := lk_hit
theorem sf_begin : (sf tab e li lo d c g dl).lookup ("begin" : Str) = some (.int 0) := lk_miss (by decide +kernel) (lk_hit)
theorem sf_coming : (sf tab e li lo d c g dl).lookup ("coming" : Str) = some (.ref e) := lk_miss (by decide +kernel) (lk_miss (by decide +kernel) (lk_hit))
theorem sf_ins : (sf tab e li lo d c g dl).lookup ("ins" : Str) = some (.ref li) := lk_miss (by decide +kernel) (lk_miss (by decide +kernel) (lk_miss (by decide +kernel) (lk_hit)))
theorem sf_outs : (sf tab e li lo d c g dl).lookup ("outs" : Str) = some (.ref lo) := lk_miss (by decide +kernel) (lk_miss (by decide +kernel) (lk_miss (by decide +kernel) (lk_miss (by decide +kernel) (lk_hit))))
theorem sf_due : (sf tab e li lo d c g dl).lookup ("due" : Str) = some (.ref d) := lk_miss (by decide +kernel) (lk_miss (by decide +kernel) (lk_miss (by decide +kernel) (lk_miss (by decide +kernel) (lk_miss (by decide +kernel) (lk_hit)))))
theorem sf_cuts : (sf tab e li lo d c g dl).lookup ("cuts" : Str) = some (.ref c) := lk_miss (by decide +kernel) (lk_miss (by decide +kernel) (lk_miss (by decide +kernel) (lk_miss (by decide +kernel) (lk_miss (by decide +kernel) (lk_miss (by decide +kernel) (lk_hit))))))
theorem sf_gone : (sf tab e li lo d c g dl).lookup ("gone" : Str) = some (.ref g) := lk_miss (by decide +kernel) (lk_miss (by decide +kernel) (lk_miss (by decide +kernel) (lk_miss (by decide +kernel) (lk_miss (by decide +kernel) (lk_miss (by decide +kernel) (lk_miss (by decide +kernel) (lk_hit)))))))
theorem sf_many : (sf tab e li lo d c g dl).lookup ("many" : Str) = some (.int 0) := lk_miss (by decide +kernel) (lk_miss (by decide +kernel) (lk_miss (by decide +kernel) (lk_miss (by decide +kernel) (lk_miss (by decide +kernel) (lk_miss (by decide +kernel) (lk_miss (by decide +kernel) (lk_miss (by decide +kernel) (lk_hit))))))))
theorem sf_later : (sf tab e li lo d c g dl).lookup ("later" : Str) = some (.ref dl) := lk_miss (by decide +kernel) (lk_miss (by decide +kernel) (lk_miss (by decide +kernel) (lk_miss (by decide +kernel) (lk_miss (by decide +kernel) (lk_miss (by decide +kernel) (lk_miss (by decide +kernel) (lk_miss (by decide +kernel) (lk_miss (by decide +kernel) (lk_hit)))))))))
theorem sf_put_coming : putF "coming" (.ref e) (sf tab e li lo d c g dl) = sf tab e li lo d c g dl := put_miss (by decide +kernel) (put_miss (by decide +kernel) (put_hit))
theorem sb_own : putF "own" (.ref tab) ([] : List (Str × V)) = ([("own", .ref tab)] : List (Str × V)) := put_nil
theorem sb_begin : putF "begin" (.int 0) ([("own", .ref tab)] : List (Str × V)) = ([("own", .ref tab), ("begin", .int 0)] : List (Str × V)) := put_miss (by decide +kernel) (put_nil)
theorem sb_coming : putF "coming" (.ref e) ([("own", .ref tab), ("begin", .int 0)] : List (Str × V)) = ([("own", .ref tab), ("begin", .int 0), ("coming", .ref e)] : List (Str × V)) := put_miss (by decide +kernel) (put_miss (by decide +kernel) (put_nil))
theorem sb_ins : putF "ins" (.ref li) ([("own", .ref tab), ("begin", .int 0), ("coming", .ref e)] : List (Str × V)) = ([("own", .ref tab), ("begin", .int 0), ("coming", .ref e), ("ins", .ref li)] : List (Str × V)) := put_miss (by decide +kernel) (put_miss (by decide +kernel) (put_miss (by decide +kernel) (put_nil)))
theorem sb_outs : putF "outs" (.ref lo) ([("own", .ref tab), ("begin", .int 0), ("coming", .ref e), ("ins", .ref li)] : List (Str × V)) = ([("own", .ref tab), ("begin", .int 0), ("coming", .ref e), ("ins", .ref li), ("outs", .ref lo)] : List (Str × V)) := put_miss (by decide +kernel) (put_miss (by decide +kernel) (put_miss (by decide +kernel) (put_miss (by decide +kernel) (put_nil))))
theorem sb_due : putF "due" (.ref d) ([("own", .ref tab), ("begin", .int 0), ("coming", .ref e), ("ins", .ref li), ("outs", .ref lo)] : List (Str × V)) = ([("own", .ref tab), ("begin", .int 0), ("coming", .ref e), ("ins", .ref li), ("outs", .ref lo), ("due", .ref d)] : List (Str × V)) := put_miss (by decide +kernel) (put_miss (by decide +kernel) (put_miss (by decide +kernel) (put_miss (by decide +kernel) (put_miss (by decide +kernel) (put_nil)))))
theorem sb_cuts : putF "cuts" (.ref c) ([("own", .ref tab), ("begin", .int 0), ("coming", .ref e), ("ins", .ref li), ("outs", .ref lo), ("due", .ref d)] : List (Str × V)) = ([("own", .ref tab), ("begin", .int 0), ("coming", .ref e), ("ins", .ref li), ("outs", .ref lo), ("due", .ref d), ("cuts", .ref c)] : List (Str × V)) := put_miss (by decide +kernel) (put_miss (by decide +kernel) (put_miss (by decide +kernel) (put_miss (by decide +kernel) (put_miss (by decide +kernel) (put_miss (by decide +kernel) (put_nil))))))
theorem sb_gone : putF "gone" (.ref g) ([("own", .ref tab), ("begin", .int 0), ("coming", .ref e), ("ins", .ref li), ("outs", .ref lo), ("due", .ref d), ("cuts", .ref c)] : List (Str × V)) = ([("own", .ref tab), ("begin", .int 0), ("coming", .ref e), ("ins", .ref li), ("outs", .ref lo), ("due", .ref d), ("cuts", .ref c), ("gone", .ref g)] : List (Str × V)) := put_miss (by decide +kernel) (put_miss (by decide +kernel) (put_miss (by decide +kernel) (put_miss (by decide +kernel) (put_miss (by decide +kernel) (put_miss (by decide +kernel) (put_miss (by decide +kernel) (put_nil)))))))
theorem sb_many : putF "many" (.int 0) ([("own", .ref tab), ("begin", .int 0), ("coming", .ref e), ("ins", .ref li), ("outs", .ref lo), ("due", .ref d), ("cuts", .ref c), ("gone", .ref g)] : List (Str × V)) = ([("own", .ref tab), ("begin", .int 0), ("coming", .ref e), ("ins", .ref li), ("outs", .ref lo), ("due", .ref d), ("cuts", .ref c), ("gone", .ref g), ("many", .int 0)] : List (Str × V)) := put_miss (by decide +kernel) (put_miss (by decide +kernel) (put_miss (by decide +kernel) (put_miss (by decide +kernel) (put_miss (by decide +kernel) (put_miss (by decide +kernel) (put_miss (by decide +kernel) (put_miss (by decide +kernel) (put_nil))))))))
theorem sb_later : putF "later" (.ref dl) ([("own", .ref tab), ("begin", .int 0), ("coming", .ref e), ("ins", .ref li), ("outs", .ref lo), ("due", .ref d), ("cuts", .ref c), ("gone", .ref g), ("many", .int 0)] : List (Str × V)) = ([("own", .ref tab), ("begin", .int 0), ("coming", .ref e), ("ins", .ref li), ("outs", .ref lo), ("due", .ref d), ("cuts", .ref c), ("gone", .ref g), ("many", .int 0), ("later", .ref dl)] : List (Str × V)) := put_miss (by decide +kernel) (put_miss (by decide +kernel) (put_miss (by decide +kernel) (put_miss (by decide +kernel) (put_miss (by decide +kernel) (put_miss (by decide +kernel) (put_miss (by decide +kernel) (put_miss (by decide +kernel) (put_miss (by decide +kernel) (put_nil)))))))))
theorem sg_own {v0 v1 v2 v3 v4 v5 v6 v7 v8 v9 y : V} : putF "own" y ([("own", v0), ("begin", v1), ("coming", v2), ("ins", v3), ("outs", v4), ("due", v5), ("cuts", v6), ("gone", v7), ("many", v8), ("later", v9)] : List (Str × V)) = ([("own", y), ("begin", v1), ("coming", v2), ("ins", v3), ("outs", v4), ("due", v5), ("cuts", v6), ("gone", v7), ("many", v8), ("later", v9)] : List (Str × V)) := put_hit
theorem sg_begin {v0 v1 v2 v3 v4 v5 v6 v7 v8 v9 y : V} : putF "begin" y ([("own", v0), ("begin", v1), ("coming", v2), ("ins", v3), ("outs", v4), ("due", v5), ("cuts", v6), ("gone", v7), ("many", v8), ("later", v9)] : List (Str × V)) = ([("own", v0), ("begin", y), ("coming", v2), ("ins", v3), ("outs", v4), ("due", v5), ("cuts", v6), ("gone", v7), ("many", v8), ("later", v9)] : List (Str × V)) := put_miss (by decide +kernel) (put_hit)
theorem sg_coming {v0 v1 v2 v3 v4 v5 v6 v7 v8 v9 y : V} : putF "coming" y ([("own", v0), ("begin", v1), ("coming", v2), ("ins", v3), ("outs", v4), ("due", v5), ("cuts", v6), ("gone", v7), ("many", v8), ("later", v9)] : List (Str × V)) = ([("own", v0), ("begin", v1), ("coming", y), ("ins", v3), ("outs", v4), ("due", v5), ("cuts", v6), ("gone", v7), ("many", v8), ("later", v9)] : List (Str × V)) := put_miss (by decide +kernel) (put_miss (by decide +kernel) (put_hit))
theorem sg_ins {v0 v1 v2 v3 v4 v5 v6 v7 v8 v9 y : V} : putF "ins" y ([("own", v0), ("begin", v1), ("coming", v2), ("ins", v3), ("outs", v4), ("due", v5), ("cuts", v6), ("gone", v7), ("many", v8), ("later", v9)] : List (Str × V)) = ([("own", v0), ("begin", v1), ("coming", v2), ("ins", y), ("outs", v4), ("due", v5), ("cuts", v6), ("gone", v7), ("many", v8), ("later", v9)] : List (Str × V)) := put_miss (by decide +kernel) (put_miss (by decide +kernel) (put_miss (by decide +kernel) (put_hit)))
theorem sg_outs {v0 v1 v2 v3 v4 v5 v6 v7 v8 v9 y : V} : putF "outs" y ([("own", v0), ("begin", v1), ("coming", v2), ("ins", v3), ("outs", v4), ("due", v5), ("cuts", v6), ("gone", v7), ("many", v8), ("later", v9)] : List (Str × V)) = ([("own", v0), ("begin", v1), ("coming", v2), ("ins", v3), ("outs", y), ("due", v5), ("cuts", v6), ("gone", v7), ("many", v8), ("later", v9)] : List (Str × V)) := put_miss (by decide +kernel) (put_miss (by decide +kernel) (put_miss (by decide +kernel) (put_miss (by decide +kernel) (put_hit))))
theorem sg_due {v0 v1 v2 v3 v4 v5 v6 v7 v8 v9 y : V} : putF "due" y ([("own", v0), ("begin", v1), ("coming", v2), ("ins", v3), ("outs", v4), ("due", v5), ("cuts", v6), ("gone", v7), ("many", v8), ("later", v9)] : List (Str × V)) = ([("own", v0), ("begin", v1), ("coming", v2), ("ins", v3), ("outs", v4), ("due", y), ("cuts", v6), ("gone", v7), ("many", v8), ("later", v9)] : List (Str × V)) := put_miss (by decide +kernel) (put_miss (by decide +kernel) (put_miss (by decide +kernel) (put_miss (by decide +kernel) (put_miss (by decide +kernel) (put_hit)))))
theorem sg_cuts {v0 v1 v2 v3 v4 v5 v6 v7 v8 v9 y : V} : putF "cuts" y ([("own", v0), ("begin", v1), ("coming", v2), ("ins", v3), ("outs", v4), ("due", v5), ("cuts", v6), ("gone", v7), ("many", v8), ("later", v9)] : List (Str × V)) = ([("own", v0), ("begin", v1), ("coming", v2), ("ins", v3), ("outs", v4), ("due", v5), ("cuts", y), ("gone", v7), ("many", v8), ("later", v9)] : List (Str × V)) := put_miss (by decide +kernel) (put_miss (by decide +kernel) (put_miss (by decide +kernel) (put_miss (by decide +kernel) (put_miss (by decide +kernel) (put_miss (by decide +kernel) (put_hit))))))
theorem sg_gone {v0 v1 v2 v3 v4 v5 v6 v7 v8 v9 y : V} : putF "gone" y ([("own", v0), ("begin", v1), ("coming", v2), ("ins", v3), ("outs", v4), ("due", v5), ("cuts", v6), ("gone", v7), ("many", v8), ("later", v9)] : List (Str × V)) = ([("own", v0), ("begin", v1), ("coming", v2), ("ins", v3), ("outs", v4), ("due", v5), ("cuts", v6), ("gone", y), ("many", v8), ("later", v9)] : List (Str × V)) := put_miss (by decide +kernel) (put_miss (by decide +kernel) (put_miss (by decide +kernel) (put_miss (by decide +kernel) (put_miss (by decide +kernel) (put_miss (by decide +kernel) (put_miss (by decide +kernel) (put_hit)))))))
theorem sg_many {v0 v1 v2 v3 v4 v5 v6 v7 v8 v9 y : V} : putF "many" y ([("own", v0), ("begin", v1), ("coming", v2), ("ins", v3), ("outs", v4), ("due", v5), ("cuts", v6), ("gone", v7), ("many", v8), ("later", v9)] : List (Str × V)) = ([("own", v0), ("begin", v1), ("coming", v2), ("ins", v3), ("outs", v4), ("due", v5), ("cuts", v6), ("gone", v7), ("many", y), ("later", v9)] : List (Str × V)) := put_miss (by decide +kernel) (put_miss (by decide +kernel) (put_miss (by decide +kernel) (put_miss (by decide +kernel) (put_miss (by decide +kernel) (put_miss (by decide +kernel) (put_miss (by decide +kernel) (put_miss (by decide +kernel) (put_hit))))))))
theorem sg_later {v0 v1 v2 v3 v4 v5 v6 v7 v8 v9 y : V} : putF "later" y ([("own", v0), ("begin", v1), ("coming", v2), ("ins", v3), ("outs", v4), ("due", v5), ("cuts", v6), ("gone", v7), ("many", v8), ("later", v9)] : List (Str × V)) = ([("own", v0), ("begin", v1), ("coming", v2), ("ins", v3), ("outs", v4), ("due", v5), ("cuts", v6), ("gone", v7), ("many", v8), ("later", y)] : List (Str × V)) := put_miss (by decide +kernel) (put_miss (by decide +kernel) (put_miss (by decide +kernel) (put_miss (by decide +kernel) (put_miss (by decide +kernel) (put_miss (by decide +kernel) (put_miss (by decide +kernel) (put_miss (by decide +kernel) (put_miss (by decide +kernel) (put_hit)))))))))
theorem sf_eq : sf tab e li lo d c g dl = ([("own", .ref tab), ("begin", .int 0), ("coming", .ref e), ("ins", .ref li), ("outs", .ref lo), ("due", .ref d), ("cuts", .ref c), ("gone", .ref g), ("many", .int 0), ("later", .ref dl)] : List (Str × V)) := rfl
end
/-- a row's attributes -/
def rfl_ (ls : Addr) : List (Str × V) := [("stands", .ref ls)]
theorem rf_stands {ls : Addr} : (rfl_ ls).lookup ("stands" : Str) = some (.ref ls) := lk_hit
theorem rf_none {ls : Addr} {m : Str} (h : (m == ("stands" : Str)) = false) : (rfl_ ls).lookup m = none := lk_miss h rfl
def ovN : Option Nat → V
  | none => .non
  | some i => .int (i : Int)
/-- the dict of what is due: the things below n that come out from lo on -/
structure DueG (H : Hp) (t : List Int) (n lo : Nat) (kvs : List (Key × V)) : Prop where
  nd : (kvs.map (·.1)).Nodup
  len : kvs.length ≤ n
  src : ∀ p ∈ kvs, ∃ i a, i < n ∧ lo ≤ outN t i ∧ p = ((Sum.inl ((outN t i : Nat) : Int) : Key), V.ref a) ∧ H a = some (.tup [.int (i : Int), .int (i : Int)])
  all : ∀ i, i < n → lo ≤ outN t i → ∃ v, ((Sum.inl ((outN t i : Nat) : Int) : Key), v) ∈ kvs
theorem DueG.nil (H : Hp) (t : List Int) (lo : Nat) : DueG H t 0 lo [] := ⟨List.nodup_nil, Nat.le_refl _, (fun _ z => nomatch z), fun _ z => absurd z (Nat.not_lt_zero _)⟩
theorem DueG.same {H H' : Hp} {t : List Int} {n lo : Nat} {kvs : List (Key × V)} (D : DueG H t n lo kvs) (s : Same H H') : DueG H' t n lo kvs :=
  ⟨D.nd, D.len, fun p hp => let ⟨i, a, h1, h2, h3, h4⟩ := D.src p hp; ⟨i, a, h1, h2, h3, s _ _ h4⟩, D.all⟩
theorem valV_mem {κ : Type} [DecidableEq κ] {k : κ} {v : V} : ∀ {kvs : List (κ × V)}, valV kvs k = some v → (k, v) ∈ kvs
  | [], h => nomatch h
  | (a, b) :: r, h => by
    by_cases e : a = k
    · subst e
      rw [valV_pos rfl] at h
      cases h
      exact List.mem_cons_self
    · rw [valV_neg e] at h
      exact List.mem_cons_of_mem _ (valV_mem h)
theorem DueG.fresh {H : Hp} {t : List Int} (T : IsTab t) {n lo : Nat} {kvs : List (Key × V)} (D : DueG H t n lo kvs) : valV kvs (Sum.inl ((outN t n : Nat) : Int) : Key) = none := by
  cases e : valV kvs (Sum.inl ((outN t n : Nat) : Int) : Key) with
  | none => rfl
  | some v =>
    obtain ⟨i, a, h1, _, h3, _⟩ := D.src _ (valV_mem e)
    have h4 : (outN t n : Int) = (outN t i : Int) := Sum.inl.inj (congrArg Prod.fst h3)
    have := T.outN_inj (i := n) (j := i) (by omega)
    omega
theorem DueG.put {H : Hp} {t : List Int} (T : IsTab t) {n lo : Nat} {kvs : List (Key × V)} (D : DueG H t n lo kvs) {a : Addr} (ha : H a = some (.tup [.int (n : Int), .int (n : Int)])) (hl : lo ≤ outN t n) :
    DueG H t (n + 1) lo (putK kvs (Sum.inl ((outN t n : Nat) : Int) : Key) (.ref a)) := by
  have f := D.fresh T
  refine ⟨nd_putK _ D.nd f, ?_, fun p hp => ?_, fun i hi h => ?_⟩
  · rw [putK_new _ f, List.length_append]
    have := D.len
    simp
    omega
  · rw [putK_new _ f] at hp
    rcases List.mem_append.mp hp with z | z
    · obtain ⟨i, b, h1, h2⟩ := D.src p z
      exact ⟨i, b, by omega, h2⟩
    · exact ⟨n, a, by omega, hl, List.mem_singleton.mp z, ha⟩
  · rw [putK_new _ f]
    by_cases e : i = n
    · subst e
      exact ⟨_, List.mem_append_right _ (List.mem_singleton.mpr rfl)⟩
    · obtain ⟨v, hv⟩ := D.all i (by omega) h
      exact ⟨v, List.mem_append_left _ hv⟩
theorem DueG.pop {H : Hp} {t : List Int} (T : IsTab t) {n lo : Nat} {kvs : List (Key × V)} (D : DueG H t n lo kvs) {v : V} (h : valV kvs (Sum.inl (lo : Int) : Key) = some v) :
    (∃ i a, at_ t lo = some i ∧ v = .ref a ∧ H a = some (.tup [.int (i : Int), .int (i : Int)])) ∧ DueG H t n (lo + 1) (dropK kvs (Sum.inl (lo : Int) : Key)) := by
  obtain ⟨i, a, h1, h2, h3, h4⟩ := D.src _ (valV_mem h)
  have e1 : (lo : Int) = (outN t i : Int) := Sum.inl.inj (congrArg Prod.fst h3)
  refine ⟨⟨i, a, (at_some T).mpr (by omega), congrArg Prod.snd h3, h4⟩, nd_dropK D.nd, Nat.le_trans (dropK_le _ _) D.len, fun p hp => ?_, fun j hj hl => ?_⟩
  · obtain ⟨m1, m2⟩ := List.mem_filter.mp hp
    obtain ⟨j, b, a1, a2, a3, a4⟩ := D.src p m1
    refine ⟨j, b, a1, ?_, a3, a4⟩
    have ne : p.1 ≠ (Sum.inl (lo : Int) : Key) := of_decide_eq_true m2
    rw [a3] at ne
    have ne2 : ¬ ((outN t j : Nat) : Int) = (lo : Int) := fun z => ne (congrArg Sum.inl z)
    omega
  · obtain ⟨b, hb⟩ := D.all j hj (by omega)
    refine ⟨b, List.mem_filter.mpr ⟨hb, decide_eq_true fun z => ?_⟩⟩
    have z2 : ((outN t j : Nat) : Int) = (lo : Int) := Sum.inl.inj z
    omega
theorem DueG.miss {H : Hp} {t : List Int} (T : IsTab t) {n lo : Nat} {kvs : List (Key × V)} (D : DueG H t n lo kvs) (hn : lo < n) (h : valV kvs (Sum.inl (lo : Int) : Key) = none) :
    at_ t lo = none ∧ DueG H t n (lo + 1) kvs := by
  have no : ∀ i, i < n → outN t i ≠ lo := fun i hi e => by
    obtain ⟨v, hv⟩ := D.all i hi (by omega)
    rw [e] at hv
    exact valV_not h (List.mem_map.mpr ⟨_, hv, rfl⟩)
  refine ⟨?_, D.nd, D.len, fun p hp => ?_, fun j hj hl => D.all j hj (by omega)⟩
  · cases e : at_ t lo with
    | none => rfl
    | some i =>
      have := at_le T e
      exact absurd ((at_some T).mp e) (no i (by omega))
  · obtain ⟨j, b, a1, a2, a3, a4⟩ := D.src p hp
    have := no j a1
    exact ⟨j, b, a1, by omega, a3, a4⟩
/-- ins: the numbers below m; outs: what came out -/
def insL (m : Nat) : List V := (List.range m).map fun (i : Nat) => V.int (i : Int)
def outsL (t : List Int) (m : Nat) : List V := (List.range m).map fun u => ovN (at_ t u)
theorem insL_len (m : Nat) : (insL m).length = m := by simp [insL]
theorem outsL_len (t : List Int) (m : Nat) : (outsL t m).length = m := by simp [outsL]
theorem insL_succ (m : Nat) : insL (m + 1) = insL m ++ [V.int (m : Int)] := by simp [insL, List.range_succ]
theorem outsL_succ (t : List Int) (m : Nat) : outsL t (m + 1) = outsL t m ++ [ovN (at_ t m)] := by simp [outsL, List.range_succ]
/-- the stand at q behind m pushes: what it holds; the lists and the dict that may change: li, lo, d -/
structure StandAt (K : PySem.W.Frag) (H : Hp) (q tab : Addr) (t : List Int) (m : Nat) (dx e li lo d c g dl : Addr) (kvs : List (Key × V)) : Prop where
  ob : H q = some (.ins (CS K) dx (sf tab e li lo d c g dl))
  tb : TabAt H tab t
  he : H e = some (.tup [])
  hi : H li = some (.lst (insL m))
  ho : H lo = some (.lst (outsL t m))
  hd : H d = some (.dK kvs)
  due : DueG H t m m kvs
  hc : H c = some (.tup [])
  hg : H g = some (.tup [])
  hl : H dl = some (.dK [])
theorem StandAt.same {K : PySem.W.Frag} {H H' : Hp} {q tab : Addr} {t : List Int} {m : Nat} {dx e li lo d c g dl : Addr} {kvs : List (Key × V)} (S : StandAt K H q tab t m dx e li lo d c g dl kvs) (s : Same H H') : StandAt K H' q tab t m dx e li lo d c g dl kvs :=
  ⟨s _ _ S.ob, s _ _ S.tb, s _ _ S.he, s _ _ S.hi, s _ _ S.ho, s _ _ S.hd, S.due.same s, s _ _ S.hc, s _ _ S.hg, s _ _ S.hl⟩
/-- .. and all of it that changes is new against H0 -/
structure StandIn (K : PySem.W.Frag) (H0 H : Hp) (q tab : Addr) (t : List Int) (m : Nat) : Prop where
  same : Same H0 H
  nq : H0 q = none
  ex : ∃ dx e li lo d c g dl kvs, StandAt K H q tab t m dx e li lo d c g dl kvs ∧ H0 li = none ∧ H0 lo = none ∧ H0 d = none ∧ li ≠ lo ∧ d ≠ dl
/-- the row at p behind m pushes, all that changes new against H0 -/
structure RowIn (K : PySem.W.Frag) (H0 H : Hp) (p tab : Addr) (t : List Int) (m : Nat) : Prop where
  same : Same H0 H
  np : H0 p = none
  ex : ∃ dxr ls st q dx e li lo d c g dl kvs, H0 ls = none ∧ H p = some (.ins (CR K) dxr (rfl_ ls)) ∧ H ls = some (.lst (st ++ [.ref q])) ∧ st.length = m ∧ StandAt K H q tab t m dx e li lo d c g dl kvs ∧ H0 li = none ∧ H0 lo = none
end Ba
end
section
set_option Elab.async false
set_option maxRecDepth 100000
set_option maxHeartbeats 4000000
/-! A row's stand: made, copied, read. -/
namespace Ba
open PySem PySem.Spec PyProof.Rows L2
/-- all but q stays -/
def But (q : Addr) (H H' : Hp) : Prop := ∀ b o, H b = some o → b ≠ q → H' b = some o
theorem But.trans {q : Addr} {H H1 H2 : Hp} (a : But q H H1) (b : But q H1 H2) : But q H H2 := fun x o h n => b x o (a x o h n) n
theorem But.new {q p : Addr} {H : Hp} {o : HO} (h : H p = none) : But q H (upd H p o) := fun x u e _ => by
  rw [upd_ne (ne_of_none e h)]
  exact e
theorem But.upd {q : Addr} {H H' : Hp} {o : HO} (h : But q H H') : But q H (upd H' q o) := fun x u e n => by
  rw [upd_ne n]
  exact h x u e n
theorem But.same {q : Addr} {H0 H H' : Hp} (h : But q H H') (s : Same H0 H) (n : H0 q = none) : Same H0 H' := fun b o e => h b o (s b o e) (ne_of_none e n)
def sp_Stand_init (K : PySem.W.Frag) : Sp := fun vs H Q _ => ∃ (H0 : Hp) (q dx tab : Addr) (t : List Int), vs = [.ref q, .ref tab] ∧ Same H0 H ∧ H0 q = none ∧ H q = some (.ins (CS K) dx []) ∧ TabAt H0 tab t ∧
  ∀ H', StandIn K H0 H' q tab t 0 → Q .non H'
def sp_copied (K : PySem.W.Frag) : Sp := fun vs H Q _ => ∃ (q tab : Addr) (t : List Int) (m : Nat) (dx e li lo d c g dl : Addr) (kvs : List (Key × V)), vs = [.ref q] ∧ StandAt K H q tab t m dx e li lo d c g dl kvs ∧
  ∀ q' H', StandIn K H H' q' tab t m → Q (.ref q') H'
def sp_hold_ahead (K : PySem.W.Frag) : Sp := fun vs H Q _ => ∃ (q tab : Addr) (t : List Int) (m : Nat) (dx e li lo d c g dl : Addr), vs = [.ref q, .int 0] ∧ IsTab t ∧ H q = some (.ins (CS K) dx (sf tab e li lo d c g dl)) ∧
  TabAt H tab t ∧ H e = some (.tup []) ∧ H li = some (.lst (insL m)) ∧ Q (.int (hold t (m : Int))) H
theorem sc_is_value : FnScope ["thing", "sign"] ["thing"] (defScope s_is_value) := ⟨rfl, rfl, rfl, by decide +kernel, rfl, by decide +kernel, by decide +kernel⟩
theorem sc_need_value : FnScope ["value"] ["value"] (defScope s_need_value) := ⟨rfl, rfl, rfl, by decide +kernel, rfl, by decide +kernel, by decide +kernel⟩
theorem sc_Stand_init : FnScope ["self", "own"] ["self", "own"] (defScope s_Stand_init) := ⟨rfl, rfl, rfl, by decide +kernel, rfl, by decide +kernel, by decide +kernel⟩
theorem sc_copied : FnScope ["stood", "found"] ["stood"] (defScope s_copied) := ⟨rfl, rfl, rfl, by decide +kernel, rfl, by decide +kernel, by decide +kernel⟩
theorem sc_hold_ahead : FnScope ["stood", "far"] ["stood", "far"] (defScope s_hold_ahead) := ⟨rfl, rfl, rfl, by decide +kernel, rfl, by decide +kernel, by decide +kernel⟩
section
variable {P : Program} {w : World} {K : PySem.W.Frag} {mg : Str → Option Value} {base : Heap}
theorem cal_is_value (T : Txt K mg) : Cal P w K mg base 2 "is_value" sp_is_integer := by
  have G_is_integer := cal_is_integer (P := P) (w := w) (base := base) T
  refine T.d_is_value.cal sc_is_value (fun vs H Q E h => ?_) (fun _ _ _ _ _ _ us hl => match us, hl with | [_], _ => rfl) (fun f cdv A outer s H vs Q E hr h => ?_)
  · obtain ⟨i, rfl, _⟩ := h; rfl
  · obtain ⟨i, rfl, q⟩ := h
    refine ⟨_, (pss_cons (ps_if (pt_val (pe_callB call_isi rfl T.b_isinstance (by decide +kernel) (pa_cons (pv 0) (pa_cons (pe_bltn (v := .ty "str") (u := .type "str") rfl T.b_str (by decide +kernel) rfl) pa_nil)))) pss_never pss_nil)
      (pss_one (ps_ret (pe_cal G_is_integer (hr.mono (by decide)) rfl (pa_cons (pv 0) pa_nil))))), ?_⟩
    exact ⟨_, rfl, _, _, _, _, false, rfl, .ty _, .base (.int i), kit_ty (by decide +kernel), false, rfl, iteF ⟨_, rfl, i, rfl, q⟩⟩
theorem cal_need_value (T : Txt K mg) : Cal P w K mg base 3 "need_value" sp_need_integer := by
  have G_is_value := cal_is_value (P := P) (w := w) (base := base) T
  refine T.d_need_value.cal sc_need_value (fun vs H Q E h => ?_) (fun _ _ _ _ _ _ us hl => match us, hl with | [_], _ => rfl) (fun f cdv A outer s H vs Q E hr h => ?_)
  · obtain ⟨i, rfl, _⟩ := h; rfl
  · obtain ⟨i, rfl, q⟩ := h
    refine ⟨_, (pss_one (ps_if (pt_not (pt_val (pe_cal G_is_value (hr.mono (by decide)) rfl (pa_cons (pv 0) pa_nil)))) (pss_one ps_never) pss_nil)), ?_⟩
    exact ⟨_, rfl, i, rfl, true, rfl, iteF q⟩
theorem ical_Stand (T : Txt K mg) : ICal P w K mg base 1 "Stand" (CS K) (sp_Stand_init K) := by
  obtain ⟨fd, F⟩ := T.Stand_init
  refine ⟨_, fd, ["self", "own"], F.ok sc_Stand_init (fun vs H Q E h => ?_) (fun cdv A outer s H vs Q E hr h => ?_), T.gStand, T.mkS, F.binds (fun _ _ _ _ _ _ us hl => match us, hl with | [_, _], _ => rfl)⟩
  · obtain ⟨H0, q, dx, tab, t, rfl, _⟩ := h; rfl
  · obtain ⟨H0, q, dx, tab, t, rfl, s0, nq, hq, ht, k⟩ := h
    refine ⟨_, (pss_cons (ps_asg (pe_tup (pa_cons (pv 1) (pa_cons pe_int (pa_cons (pe_tup pa_nil) pa_nil)))) (pg_tup rfl (pgs_cons (pg_att (pv 0)) (pgs_cons (pg_att (pv 0)) (pgs_cons (pg_att (pv 0)) pgs_nil)))))
      (pss_cons (ps_asg (pe_tup (pa_cons (pe_lst pa_nil) (pa_cons (pe_lst pa_nil) (pa_cons pe_dnewK pa_nil)))) (pg_tup rfl (pgs_cons (pg_att (pv 0)) (pgs_cons (pg_att (pv 0)) (pgs_cons (pg_att (pv 0)) pgs_nil)))))
      (pss_one (ps_asg (pe_tup (pa_cons (pe_tup pa_nil) (pa_cons (pe_tup pa_nil) (pa_cons pe_int (pa_cons pe_dnewK pa_nil))))) (pg_tup rfl (pgs_cons (pg_att (pv 0)) (pgs_cons (pg_att (pv 0)) (pgs_cons (pg_att (pv 0)) (pgs_cons (pg_att (pv 0)) pgs_nil))))))))), ?_⟩
    -- self.own, self.begin, self.coming = own, 0, ()
    refine ⟨_, rfl, Nat.zero_le _, fun e he => ⟨by show 3 ≤ sizeLine; decide, fun T1 hT1 => ?_⟩⟩
    have nqe : q ≠ e := ne_of_none hq he
    have nqT : q ≠ T1 := ne_of_none (by rw [upd_ne nqe]; exact hq) hT1
    have neT : e ≠ T1 := ne_of_none upd_same hT1
    refine ⟨T1, _, rfl, SqT.of upd_same, rfl, _, _, rfl, _, rfl, q, _, dx, [], rfl, by rw [upd_ne nqT, upd_ne nqe]; exact hq, T.clS, T.n_own, (by decide : 0 < 1000), _, _, rfl, _, rfl, q, _, dx, _, rfl, upd_same, T.clS, T.n_begin, by rw [sb_own]; exact (by decide : 1 < 1000),
      _, _, rfl, _, rfl, q, _, dx, _, rfl, upd_same, T.clS, T.n_coming, by rw [sb_own, sb_begin]; exact (by decide : 2 < 1000), rfl, ?_⟩
    rw [upd_upd, upd_upd, sb_own, sb_begin, sb_coming]
    have b1 : But q H (upd (upd (upd H e (.tup [])) T1 (.tup [.ref tab, .int 0, .ref e])) q (.ins (CS K) dx [("own", .ref tab), ("begin", .int 0), ("coming", .ref e)])) := ((But.new he).trans (But.new hT1)).upd
    have e1 : (upd (upd (upd H e (.tup [])) T1 (.tup [.ref tab, .int 0, .ref e])) q (.ins (CS K) dx [("own", .ref tab), ("begin", .int 0), ("coming", .ref e)])) e = some (.tup []) := by
      rw [upd_ne nqe.symm, upd_ne neT, upd_same]
    have q1 : (upd (upd (upd H e (.tup [])) T1 (.tup [.ref tab, .int 0, .ref e])) q (.ins (CS K) dx [("own", .ref tab), ("begin", .int 0), ("coming", .ref e)])) q = some (.ins (CS K) dx [("own", .ref tab), ("begin", .int 0), ("coming", .ref e)]) := upd_same
    generalize (upd (upd (upd H e (.tup [])) T1 (.tup [.ref tab, .int 0, .ref e])) q (.ins (CS K) dx [("own", .ref tab), ("begin", .int 0), ("coming", .ref e)])) = H1 at b1 e1 q1 ⊢
    have s1 := b1.same s0 nq
    -- self.ins, self.outs, self.due = [], [], {}
    refine ⟨Nat.zero_le _, fun li hli => ⟨Nat.zero_le _, fun lo hlo d hd => ⟨by show 3 ≤ sizeLine; decide, fun T2 hT2 => ?_⟩⟩⟩
    have l1 : upd H1 li (.lst []) li = some (.lst []) := upd_same
    have l2 : upd (upd H1 li (.lst [])) lo (.lst []) li = some (.lst []) := (But.new hlo) li _ l1 (ne_of_none l1 hlo) |> fun z => z
    have nlilo : li ≠ lo := ne_of_none l1 hlo
    have o2 : upd (upd H1 li (.lst [])) lo (.lst []) lo = some (.lst []) := upd_same
    have nqli : q ≠ li := ne_of_none q1 hli
    have q2 := (Same.new (o := .lst []) hlo) _ _ ((Same.new (o := .lst []) hli) _ _ q1)
    have q3 := (Same.new (o := .dK []) hd) _ _ q2
    have q4 := (Same.new (o := .tup [.ref li, .ref lo, .ref d]) hT2) _ _ q3
    have l4 := (Same.new (o := .tup [.ref li, .ref lo, .ref d]) hT2) _ _ ((Same.new (o := .dK []) hd) _ _ l2)
    have o4 := (Same.new (o := .tup [.ref li, .ref lo, .ref d]) hT2) _ _ ((Same.new (o := .dK []) hd) _ _ o2)
    have d4 := (Same.new (o := .tup [.ref li, .ref lo, .ref d]) hT2) d (.dK []) upd_same
    have nli : H0 li = none := s1.free hli
    have nlo : H0 lo = none := (s1.trans (Same.new (o := .lst []) hli)).free hlo
    have nd : H0 d = none := ((s1.trans (Same.new (o := .lst []) hli)).trans (Same.new (o := .lst []) hlo)).free hd
    refine ⟨T2, _, rfl, SqT.of upd_same, rfl, _, _, rfl, _, rfl, q, _, dx, _, rfl, q4, T.clS, T.n_ins, (by decide : 3 < 1000), _, _, rfl, _, rfl, q, _, dx, _, rfl, upd_same, T.clS, T.n_outs, by rw [sb_ins]; exact (by decide : 4 < 1000),
      _, _, rfl, _, rfl, q, _, dx, _, rfl, upd_same, T.clS, T.n_due, by rw [sb_ins, sb_outs]; exact (by decide : 5 < 1000), rfl, ?_⟩
    rw [upd_upd, upd_upd, sb_ins, sb_outs, sb_due]
    generalize hHb : upd (upd (upd (upd H1 li (.lst [])) lo (.lst [])) d (.dK [])) T2 (.tup [.ref li, .ref lo, .ref d]) = Hb at q4 l4 o4 d4 ⊢
    have sb : Same H1 Hb := by
      rw [← hHb]
      exact ((Same.new hli).trans (Same.new hlo)).trans ((Same.new hd).trans (Same.new hT2))
    have qr := fun (x : Addr) (u : HO) (h : Hb x = some u) (n : x ≠ q) => (But.upd (o := .ins (CS K) dx [("own", .ref tab), ("begin", .int 0), ("coming", .ref e), ("ins", .ref li), ("outs", .ref lo), ("due", .ref d)]) (fun b o h _ => h : But q Hb Hb)) x u h n
    have nliq : li ≠ q := nqli.symm
    have nloq : lo ≠ q := ne_of o4 q4 (by intro z; cases z)
    have ndq : d ≠ q := ne_of d4 q4 (by intro z; cases z)
    have l5 := qr _ _ l4 nliq
    have o5 := qr _ _ o4 nloq
    have d5 := qr _ _ d4 ndq
    have e5 := qr _ _ (sb _ _ e1) nqe.symm
    have s5 : Same H0 (upd Hb q (.ins (CS K) dx [("own", .ref tab), ("begin", .int 0), ("coming", .ref e), ("ins", .ref li), ("outs", .ref lo), ("due", .ref d)])) := (s1.trans sb).mut nq
    have q5 : upd Hb q (.ins (CS K) dx [("own", .ref tab), ("begin", .int 0), ("coming", .ref e), ("ins", .ref li), ("outs", .ref lo), ("due", .ref d)]) q = _ := upd_same
    generalize upd Hb q (.ins (CS K) dx [("own", .ref tab), ("begin", .int 0), ("coming", .ref e), ("ins", .ref li), ("outs", .ref lo), ("due", .ref d)]) = H5 at l5 o5 d5 e5 s5 q5 ⊢
    -- self.cuts, self.gone, self.many, self.later = (), (), 0, {}
    refine ⟨Nat.zero_le _, fun c hc => ⟨Nat.zero_le _, fun g hg dl hdl => ⟨by show 4 ≤ sizeLine; decide, fun T3 hT3 => ?_⟩⟩⟩
    have sc : Same H5 (upd (upd (upd (upd H5 c (.tup [])) g (.tup [])) dl (.dK [])) T3 (.tup [.ref c, .ref g, .int 0, .ref dl])) := ((Same.new hc).trans (Same.new hg)).trans ((Same.new hdl).trans (Same.new hT3))
    have c6 := (Same.new (o := .tup [.ref c, .ref g, .int 0, .ref dl]) hT3) _ _ ((Same.new (o := .dK []) hdl) _ _ ((Same.new (o := .tup []) hg) c (.tup []) upd_same))
    have g6 := (Same.new (o := .tup [.ref c, .ref g, .int 0, .ref dl]) hT3) _ _ ((Same.new (o := .dK []) hdl) g (.tup []) upd_same)
    have dl6 := (Same.new (o := .tup [.ref c, .ref g, .int 0, .ref dl]) hT3) dl (.dK []) upd_same
    have ndl : d ≠ dl := ne_of_none ((Same.new hg) _ _ ((Same.new hc) _ _ d5)) hdl
    have t6 : (upd (upd (upd (upd H5 c (.tup [])) g (.tup [])) dl (.dK [])) T3 (.tup [.ref c, .ref g, .int 0, .ref dl])) T3 = some (.tup [.ref c, .ref g, .int 0, .ref dl]) := upd_same
    generalize upd (upd (upd (upd H5 c (.tup [])) g (.tup [])) dl (.dK [])) T3 (.tup [.ref c, .ref g, .int 0, .ref dl]) = H6 at sc c6 g6 dl6 t6 ⊢
    have q6 := sc _ _ q5
    refine ⟨T3, _, rfl, SqT.of t6, rfl, _, _, rfl, _, rfl, q, _, dx, _, rfl, q6, T.clS, T.n_cuts, (by decide : 6 < 1000), _, _, rfl, _, rfl, q, _, dx, _, rfl, upd_same, T.clS, T.n_gone, by rw [sb_cuts]; exact (by decide : 7 < 1000),
      _, _, rfl, _, rfl, q, _, dx, _, rfl, upd_same, T.clS, T.n_many, by rw [sb_cuts, sb_gone]; exact (by decide : 8 < 1000), _, _, rfl, _, rfl, q, _, dx, _, rfl, upd_same, T.clS, T.n_later, by rw [sb_cuts, sb_gone, sb_many]; exact (by decide : 9 < 1000), rfl, ?_⟩
    rw [upd_upd, upd_upd, upd_upd, sb_cuts, sb_gone, sb_many, sb_later]
    have s7 : Same H0 (upd H6 q (.ins (CS K) dx (sf tab e li lo d c g dl))) := (s5.trans sc).mut nq
    have r7 : ∀ (x : Addr) (u : HO), H6 x = some u → x ≠ q → (upd H6 q (.ins (CS K) dx (sf tab e li lo d c g dl))) x = some u := fun x u h n => by
      rw [upd_ne n]
      exact h
    refine k _ ⟨s7, nq, dx, e, li, lo, d, c, g, dl, [], ⟨upd_same, s7 _ _ ht, r7 _ _ (sc _ _ e5) nqe.symm, r7 _ _ (sc _ _ l5) nliq, r7 _ _ (sc _ _ o5) nloq, r7 _ _ (sc _ _ d5) ndq, DueG.nil _ _ _, r7 _ _ c6 ?_, r7 _ _ g6 ?_, r7 _ _ dl6 ?_⟩, nli, nlo, nd, nlilo, ndl⟩
    · exact ne_of c6 q6 (by intro z; cases z)
    · exact ne_of g6 q6 (by intro z; cases z)
    · exact ne_of dl6 q6 (by intro z; cases z)
theorem cal_hold_ahead (T : Txt K mg) : Cal P w K mg base 1 "hold_ahead" (sp_hold_ahead K) := by
  refine T.d_hold_ahead.cal sc_hold_ahead (fun vs H Q E h => ?_) (fun _ _ _ _ _ _ us hl => match us, hl with | [_, _], _ => rfl) (fun f cdv A outer s H vs Q E hr h => ?_)
  · obtain ⟨q, tab, t, m, dx, e, li, lo, d, c, g, dl, rfl, _⟩ := h; rfl
  · obtain ⟨q, tab, t, m, dx, e, li, lo, d, c, g, dl, rfl, tt, hq, ht, he, hli, k⟩ := h
    have pos := tt.pos
    refine ⟨_, (pss_cons (ps_if (pt_cmpR op_lt (pv 1) (pe_callB call_len_seq rfl T.b_len (by decide +kernel) (pa_cons (pe_fld (pv 0) rfl) pa_nil)) (nomark _)) (pss_one (ps_ret (pe_ix ix_tup (pe_fld (pv 0) rfl) (pv 1) (fun _ _ => rfl)))) pss_nil)
      (pss_one (ps_ret (pe_ix ix_tup (pe_fld (pv 0) rfl) (pe_op op_mod (pe_op op_sub (pe_op op_add (pe_callB call_len_seq rfl T.b_len (by decide +kernel) (pa_cons (pe_fld (pv 0) rfl) pa_nil)) (pv 1)) (pe_fld (pv 0) rfl)) (pe_callB call_len_seq rfl T.b_len (by decide +kernel) (pa_cons (pe_fld (pv 0) rfl) pa_nil))) (fun _ _ => rfl))))), ?_⟩
    refine ⟨_, rfl, _, rfl, q, _, dx, _, _, rfl, hq, T.clS, T.n_coming, sf_coming, e, _, rfl, .inr (SqT.of he), _, _, rfl, rfl, _, rfl, iteDF (by decide) ?_⟩
    refine ⟨_, rfl, q, _, dx, _, _, rfl, hq, T.clS, T.n_own, sf_own, _, rfl, q, _, dx, _, _, rfl, hq, T.clS, T.n_ins, sf_ins, li, _, rfl, .inl (SqL.of hli), _, rfl, _, _, rfl, rfl, _, rfl, q, _, dx, _, _, rfl, hq, T.clS, T.n_begin, sf_begin, _, _, rfl, rfl,
      _, rfl, q, _, dx, _, _, rfl, hq, T.clS, T.n_own, sf_own, tab, _, rfl, .inr (SqT.of ht), _, _, rfl, rfl, by rw [map_len]; omega, tab, _, _, _, rfl, rfl, SqT.of ht, atI_of (j := ((m : Int) % (t.length : Int)).toNat) ?_ (map_get (mod_lt pos _)), k⟩
    rw [map_len, insL_len, Int.toNat_of_nonneg (Int.emod_nonneg _ (by omega))]
    congr 1
theorem cal_copied (T : Txt K mg) : Cal P w K mg base 3 "copied" (sp_copied K) := by
  have G_Stand := ical_Stand (P := P) (w := w) (base := base) T
  refine T.d_copied.cal sc_copied (fun vs H Q E h => ?_) (fun _ _ _ _ _ _ us hl => match us, hl with | [_], _ => rfl) (fun f cdv A outer s H vs Q E hr h => ?_)
  · obtain ⟨q, tab, t, m, dx, e, li, lo, d, c, g, dl, kvs, rfl, _⟩ := h; rfl
  · obtain ⟨q, tab, t, m, dx, e, li, lo, d, c, g, dl, kvs, rfl, S, k⟩ := h
    refine ⟨_, (pss_cons (ps_set (i := 1) sc_copied.nd rfl (Or.inl rfl) (pe_ical G_Stand (hr.mono (by decide)) rfl (pa_cons (pe_fld (pv 0) rfl) pa_nil)))
      (pss_cons (ps_asg (pe_tup (pa_cons (pe_fld (pv 0) rfl) (pa_cons (pe_fld (pv 0) rfl) pa_nil))) (pg_tup rfl (pgs_cons (pg_att (pv 1)) (pgs_cons (pg_att (pv 1)) pgs_nil))))
      (pss_cons (ps_asg (pe_tup (pa_cons (pe_callTy call_list_of rfl T.b_list (by decide +kernel) (pa_cons (pe_fld (pv 0) rfl) pa_nil)) (pa_cons (pe_callTy call_list_of rfl T.b_list (by decide +kernel) (pa_cons (pe_fld (pv 0) rfl) pa_nil)) (pa_cons (pe_callTy call_dictD rfl T.b_dict (by decide +kernel) (pa_cons (pe_fld (pv 0) rfl) pa_nil)) pa_nil)))) (pg_tup rfl (pgs_cons (pg_att (pv 1)) (pgs_cons (pg_att (pv 1)) (pgs_cons (pg_att (pv 1)) pgs_nil)))))
      (pss_cons (ps_asg (pe_tup (pa_cons (pe_fld (pv 0) rfl) (pa_cons (pe_fld (pv 0) rfl) (pa_cons (pe_fld (pv 0) rfl) (pa_cons (pe_callTy call_dictD rfl T.b_dict (by decide +kernel) (pa_cons (pe_fld (pv 0) rfl) pa_nil)) pa_nil))))) (pg_tup rfl (pgs_cons (pg_att (pv 1)) (pgs_cons (pg_att (pv 1)) (pgs_cons (pg_att (pv 1)) (pgs_cons (pg_att (pv 1)) pgs_nil))))))
      (pss_one (ps_ret (pv 1))))))), ?_⟩
    refine ⟨_, rfl, q, _, dx, _, _, rfl, S.ob, T.clS, T.n_own, sf_own, fun x dy nx ndy ne => ?_⟩
    have sx : Same H (upd (upd H dy (.own x)) x (.ins (CS K) dy [])) := (Same.new ndy).mut nx
    refine ⟨H, x, dy, tab, t, rfl, sx, nx, upd_same, S.tb, fun H1 I1 => ⟨rfl, ?_⟩⟩
    obtain ⟨s1, _, dz, ez, liz, loz, d', cz, gz, dlz, kvz, Z, _⟩ := I1
    have hx1 := Z.ob
    have nqx : q ≠ x := ne_of_none S.ob nx
    have S1 := S.same s1
    -- found.begin, found.coming = stood.begin, stood.coming
    refine ⟨_, rfl, q, _, dx, _, _, rfl, S1.ob, T.clS, T.n_begin, sf_begin, _, rfl, q, _, dx, _, _, rfl, S1.ob, T.clS, T.n_coming, sf_coming, by show 2 ≤ sizeLine; decide, fun T1 hT1 => ?_⟩
    have hx2 := (Same.new (o := .tup [.int 0, .ref e]) hT1) _ _ hx1
    refine ⟨T1, _, rfl, SqT.of upd_same, rfl, _, _, rfl, _, rfl, x, _, dz, _, rfl, hx2, T.clS, T.n_begin, (by decide : 10 < 1000), _, _, rfl, _, rfl, x, _, dz, _, rfl, upd_same, T.clS, T.n_coming, by rw [sf_eq, sg_begin]; exact (by decide : 10 < 1000), rfl, ?_⟩
    rw [upd_upd, sf_eq, sg_begin, sg_coming]
    have b2 : But x H1 (upd (upd H1 T1 (.tup [.int 0, .ref e])) x (.ins (CS K) dz (sf tab e liz loz d' cz gz dlz))) := (But.new hT1).upd
    have s2 := b2.same s1 nx
    have hx3 : (upd (upd H1 T1 (.tup [.int 0, .ref e])) x (.ins (CS K) dz (sf tab e liz loz d' cz gz dlz))) x = some (.ins (CS K) dz (sf tab e liz loz d' cz gz dlz)) := upd_same
    rw [sf_eq] at b2 s2 hx3
    generalize upd (upd H1 T1 (.tup [.int 0, .ref e])) x (.ins (CS K) dz [("own", .ref tab), ("begin", .int 0), ("coming", .ref e), ("ins", .ref liz), ("outs", .ref loz), ("due", .ref d'), ("cuts", .ref cz), ("gone", .ref gz), ("many", .int 0), ("later", .ref dlz)]) = H2 at b2 s2 hx3 ⊢
    have S2 := S.same s2
    -- found.ins, found.outs, found.due = list(stood.ins), list(stood.outs), dict(stood.due)
    refine ⟨_, rfl, q, _, dx, _, _, rfl, S2.ob, T.clS, T.n_ins, sf_ins, li, _, rfl, .inl (SqL.of S2.hi), fun l2 hl2 => ?_⟩
    have sl : Same H2 (upd H2 l2 (.lst (insL m))) := Same.new hl2
    have S3 := S2.same sl
    refine ⟨_, rfl, q, _, dx, _, _, rfl, S3.ob, T.clS, T.n_outs, sf_outs, lo, _, rfl, .inl (SqL.of S3.ho), fun o2 ho2 => ?_⟩
    have so : Same (upd H2 l2 (.lst (insL m))) (upd (upd H2 l2 (.lst (insL m))) o2 (.lst (outsL t m))) := Same.new ho2
    have S4 := S3.same so
    refine ⟨_, rfl, q, _, dx, _, _, rfl, S4.ob, T.clS, T.n_due, sf_due, d, _, rfl, Rd.of S4.hd, fun d2 hd2 => ⟨by show 3 ≤ sizeLine; decide, fun T2 hT2 => ?_⟩⟩
    have sd : Same (upd (upd H2 l2 (.lst (insL m))) o2 (.lst (outsL t m))) (upd (upd (upd H2 l2 (.lst (insL m))) o2 (.lst (outsL t m))) d2 (.dK kvs)) := Same.new hd2
    have sT : Same (upd (upd (upd H2 l2 (.lst (insL m))) o2 (.lst (outsL t m))) d2 (.dK kvs)) (upd (upd (upd (upd H2 l2 (.lst (insL m))) o2 (.lst (outsL t m))) d2 (.dK kvs)) T2 (.tup [.ref l2, .ref o2, .ref d2])) := Same.new hT2
    have l5 := sT _ _ (sd _ _ (so l2 (.lst (insL m)) upd_same))
    have o5 := sT _ _ (sd o2 (.lst (outsL t m)) upd_same)
    have d5 := sT d2 (.dK kvs) upd_same
    have t5 : (upd (upd (upd (upd H2 l2 (.lst (insL m))) o2 (.lst (outsL t m))) d2 (.dK kvs)) T2 (.tup [.ref l2, .ref o2, .ref d2])) T2 = some (.tup [.ref l2, .ref o2, .ref d2]) := upd_same
    have s25 := ((sl.trans so).trans sd).trans sT
    have nl2 : H l2 = none := s2.free hl2
    have no2 : H o2 = none := (s2.trans sl).free ho2
    have nd2 : H d2 = none := ((s2.trans sl).trans so).free hd2
    have nlo2 : l2 ≠ o2 := ne_of_none upd_same ho2
    generalize (upd (upd (upd (upd H2 l2 (.lst (insL m))) o2 (.lst (outsL t m))) d2 (.dK kvs)) T2 (.tup [.ref l2, .ref o2, .ref d2])) = H5 at l5 o5 d5 t5 s25 ⊢
    have x5 := s25 _ _ hx3
    refine ⟨T2, _, rfl, SqT.of t5, rfl, _, _, rfl, _, rfl, x, _, dz, _, rfl, x5, T.clS, T.n_ins, (by decide : 10 < 1000), _, _, rfl, _, rfl, x, _, dz, _, rfl, upd_same, T.clS, T.n_outs, by rw [sg_ins]; exact (by decide : 10 < 1000),
      _, _, rfl, _, rfl, x, _, dz, _, rfl, upd_same, T.clS, T.n_due, by rw [sg_ins, sg_outs]; exact (by decide : 10 < 1000), rfl, ?_⟩
    rw [upd_upd, upd_upd, sg_ins, sg_outs, sg_due]
    have b6 : But x H5 (upd H5 x (.ins (CS K) dz [("own", .ref tab), ("begin", .int 0), ("coming", .ref e), ("ins", .ref l2), ("outs", .ref o2), ("due", .ref d2), ("cuts", .ref cz), ("gone", .ref gz), ("many", .int 0), ("later", .ref dlz)])) := But.upd fun b o h _ => h
    have x6 : (upd H5 x (.ins (CS K) dz [("own", .ref tab), ("begin", .int 0), ("coming", .ref e), ("ins", .ref l2), ("outs", .ref o2), ("due", .ref d2), ("cuts", .ref cz), ("gone", .ref gz), ("many", .int 0), ("later", .ref dlz)])) x = _ := upd_same
    generalize (upd H5 x (.ins (CS K) dz [("own", .ref tab), ("begin", .int 0), ("coming", .ref e), ("ins", .ref l2), ("outs", .ref o2), ("due", .ref d2), ("cuts", .ref cz), ("gone", .ref gz), ("many", .int 0), ("later", .ref dlz)])) = H6 at b6 x6 ⊢
    have s6 : Same H H6 := b6.same (s2.trans s25) nx
    have S6 := S.same s6
    have l6 := b6 _ _ l5 (ne_of l5 x5 (by intro z; cases z))
    have o6 := b6 _ _ o5 (ne_of o5 x5 (by intro z; cases z))
    have d6 := b6 _ _ d5 (ne_of d5 x5 (by intro z; cases z))
    -- found.cuts, found.gone, found.many, found.later = stood.cuts, stood.gone, stood.many, dict(stood.later)
    refine ⟨_, rfl, q, _, dx, _, _, rfl, S6.ob, T.clS, T.n_cuts, sf_cuts, _, rfl, q, _, dx, _, _, rfl, S6.ob, T.clS, T.n_gone, sf_gone, _, rfl, q, _, dx, _, _, rfl, S6.ob, T.clS, T.n_many, sf_many, _, rfl, q, _, dx, _, _, rfl, S6.ob, T.clS, T.n_later, sf_later,
      dl, _, rfl, Rd.of S6.hl, fun dl2 hdl2 => ⟨by show 4 ≤ sizeLine; decide, fun T3 hT3 => ?_⟩⟩
    have s7a : Same H6 (upd H6 dl2 (.dK [])) := Same.new hdl2
    have s7 : Same H6 (upd (upd H6 dl2 (.dK [])) T3 (.tup [.ref c, .ref g, .int 0, .ref dl2])) := s7a.trans (Same.new hT3)
    have dl7 := (Same.new (o := .tup [.ref c, .ref g, .int 0, .ref dl2]) hT3) dl2 (.dK []) upd_same
    have t7 : (upd (upd H6 dl2 (.dK [])) T3 (.tup [.ref c, .ref g, .int 0, .ref dl2])) T3 = some (.tup [.ref c, .ref g, .int 0, .ref dl2]) := upd_same
    have nddl : d2 ≠ dl2 := ne_of_none d6 hdl2
    generalize (upd (upd H6 dl2 (.dK [])) T3 (.tup [.ref c, .ref g, .int 0, .ref dl2])) = H7 at s7 dl7 t7 ⊢
    have x7 := s7 _ _ x6
    refine ⟨T3, _, rfl, SqT.of t7, rfl, _, _, rfl, _, rfl, x, _, dz, _, rfl, x7, T.clS, T.n_cuts, (by decide : 10 < 1000), _, _, rfl, _, rfl, x, _, dz, _, rfl, upd_same, T.clS, T.n_gone, by rw [sg_cuts]; exact (by decide : 10 < 1000),
      _, _, rfl, _, rfl, x, _, dz, _, rfl, upd_same, T.clS, T.n_many, by rw [sg_cuts, sg_gone]; exact (by decide : 10 < 1000), _, _, rfl, _, rfl, x, _, dz, _, rfl, upd_same, T.clS, T.n_later, by rw [sg_cuts, sg_gone, sg_many]; exact (by decide : 10 < 1000), rfl, ?_⟩
    rw [upd_upd, upd_upd, upd_upd, sg_cuts, sg_gone, sg_many, sg_later]
    have b8 : But x H7 (upd H7 x (.ins (CS K) dz (sf tab e l2 o2 d2 c g dl2))) := But.upd fun b o h _ => h
    have s8 : Same H (upd H7 x (.ins (CS K) dz (sf tab e l2 o2 d2 c g dl2))) := b8.same (s6.trans s7) nx
    have S8 := S.same s8
    refine ⟨_, rfl, k x _ ⟨s8, nx, dz, e, l2, o2, d2, c, g, dl2, kvs, ⟨upd_same, S8.tb, S8.he, b8 _ _ (s7 _ _ l6) (ne_of (s7 _ _ l6) x7 (by intro z; cases z)), b8 _ _ (s7 _ _ o6) (ne_of (s7 _ _ o6) x7 (by intro z; cases z)),
      b8 _ _ (s7 _ _ d6) (ne_of (s7 _ _ d6) x7 (by intro z; cases z)), S8.due, S8.hc, S8.hg, b8 _ _ dl7 (ne_of dl7 x7 (by intro z; cases z))⟩, nl2, no2, nd2, nlo2, nddl⟩⟩
end
end Ba
end
section
set_option Elab.async false
set_option maxRecDepth 100000
set_option maxHeartbeats 4000000
/-! A row: made, pushed, read. -/
namespace Ba
open PySem PySem.Spec PyProof.Rows L2
theorem DueG.tups {H H' : Hp} {t : List Int} {n lo : Nat} {kvs : List (Key × V)} (D : DueG H t n lo kvs) (s : ∀ a xs, H a = some (.tup xs) → H' a = some (.tup xs)) : DueG H' t n lo kvs :=
  ⟨D.nd, D.len, fun p hp => let ⟨i, a, h1, h2, h3, h4⟩ := D.src p hp; ⟨i, a, h1, h2, h3, s _ _ h4⟩, D.all⟩
theorem upd_eq {H : Hp} {a : Addr} {o : HO} (h : H a = some o) : upd H a o = H := by
  funext b
  by_cases e : b = a
  · subst e; rw [upd_same, h]
  · rw [upd_ne e]
theorem RowIn.to {K : PySem.W.Frag} {H0 H H' : Hp} {p tab : Addr} {t : List Int} {m : Nat} (R : RowIn K H0 H p tab t m) (s : Same H H') : RowIn K H0 H' p tab t m := by
  obtain ⟨s0, np, dxr, ls, st, q, dx, e, li, lo, d, c, g, dl, kvs, h1, h2, h3, h4, S, nl⟩ := R
  exact ⟨s0.trans s, np, dxr, ls, st, q, dx, e, li, lo, d, c, g, dl, kvs, h1, s _ _ h2, s _ _ h3, h4, S.same s, nl⟩
def sp_put_out : Sp := fun vs H Q _ => ∃ (p q : Addr) (n : Int) (v : V), vs = [.ref p, .ref q, .int n, v] ∧ ((v = .non ∧ Q .non H) ∨ ∃ a x y, v = .ref a ∧ H a = some (.tup [x, y]) ∧ Q y H)
def sp_step (K : PySem.W.Frag) : Sp := fun vs H Q _ => ∃ (H0 : Hp) (p dxr ls q tab : Addr) (t : List Int) (m : Nat), vs = [.ref p, .ref q, .int m] ∧ IsTab t ∧ m ≤ 1000 ∧ H0 p = some (.ins (CR K) dxr (rfl_ ls)) ∧ StandIn K H0 H q tab t m ∧
  ∀ H', StandIn K H0 H' q tab t (m + 1) → Q (ovN (at_ t m)) H'
def sp_push_all (K : PySem.W.Frag) : Sp := fun vs H Q _ => ∃ (H0 : Hp) (p a tab : Addr) (t : List Int) (m : Nat), vs = [.ref p, .ref a] ∧ IsTab t ∧ m ≤ 1000 ∧ H a = some (.tup [.int m]) ∧ RowIn K H0 H p tab t m ∧
  ∀ r H', RowIn K H0 H' p tab t (m + 1) → H' r = some (.tup [ovN (at_ t m)]) → Q (.ref r) H'
def sp_push (K : PySem.W.Frag) : Sp := fun vs H Q _ => ∃ (H0 : Hp) (p tab : Addr) (t : List Int) (m : Nat), vs = [.ref p, .int m] ∧ IsTab t ∧ m ≤ 1000 ∧ RowIn K H0 H p tab t m ∧ ∀ H', RowIn K H0 H' p tab t (m + 1) → Q (ovN (at_ t m)) H'
def sp_Row_init (K : PySem.W.Frag) : Sp := fun vs H Q _ => ∃ (H0 : Hp) (p dx tab : Addr) (t : List Int), vs = [.ref p, .ref tab] ∧ Same H0 H ∧ H0 p = none ∧ H p = some (.ins (CR K) dx []) ∧ TabAt H0 tab t ∧ IsTab t ∧
  ∀ H', RowIn K H0 H' p tab t 0 → Q .non H'
def sp_tick (K : PySem.W.Frag) : Sp := fun vs H Q _ => ∃ (H0 : Hp) (p tab : Addr) (t : List Int) (m : Nat), vs = [.ref p] ∧ RowIn K H0 H p tab t m ∧ Q (.int m) H
def sp_getitem (K : PySem.W.Frag) : Sp := fun vs H Q _ => ∃ (H0 : Hp) (p tab : Addr) (t : List Int) (m u : Nat), vs = [.ref p, .int u] ∧ RowIn K H0 H p tab t m ∧ u < m ∧ Q (ovN (at_ t u)) H
theorem sc_Row_init : FnScope ["self", "table"] ["self", "table"] (defScope s_Row_init) := ⟨rfl, rfl, rfl, by decide +kernel, rfl, by decide +kernel, by decide +kernel⟩
theorem sc_Row_put_out : FnScope ["self", "stood", "now", "found"] ["self", "stood", "now", "found"] (defScope s_Row_put_out) := ⟨rfl, rfl, rfl, by decide +kernel, rfl, by decide +kernel, by decide +kernel⟩
theorem sc_Row_step : FnScope ["self", "stood", "value", "now", "out"] ["self", "stood", "value"] (defScope s_Row_step) := ⟨rfl, rfl, rfl, by decide +kernel, rfl, by decide +kernel, by decide +kernel⟩
theorem sc_Row_push : FnScope ["self", "value"] ["self", "value"] (defScope s_Row_push) := ⟨rfl, rfl, rfl, by decide +kernel, rfl, by decide +kernel, by decide +kernel⟩
theorem sc_Row_push_all : FnScope ["self", "values", "value", "stood", "found"] ["self", "values"] (defScope s_Row_push_all) := ⟨rfl, rfl, rfl, by decide +kernel, rfl, by decide +kernel, by decide +kernel⟩
theorem sc_Row_tick : FnScope ["self"] ["self"] (defScope s_Row_tick) := ⟨rfl, rfl, rfl, by decide +kernel, rfl, by decide +kernel, by decide +kernel⟩
theorem sc_Row_getitem : FnScope ["self", "tick"] ["self", "tick"] (defScope s_Row_getitem) := ⟨rfl, rfl, rfl, by decide +kernel, rfl, by decide +kernel, by decide +kernel⟩
theorem sc_Row_len : FnScope ["self"] ["self"] (defScope s_Row_len) := ⟨rfl, rfl, rfl, by decide +kernel, rfl, by decide +kernel, by decide +kernel⟩
theorem last_get (st : List V) (v : V) : atI (st ++ [v]) (-1) = some v := by
  unfold atI ixN
  rw [if_neg (by omega), if_pos (by rw [List.length_append, List.length_singleton]; omega)]
  have e : (-1 + ((st ++ [v]).length : Int)).toNat = st.length := by
    rw [List.length_append, List.length_singleton]
    omega
  show (st ++ [v])[(-1 + ((st ++ [v]).length : Int)).toNat]? = some v
  rw [e]
  simp
section
variable {P : Program} {w : World} {K : PySem.W.Frag} {mg : Str → Option Value} {base : Heap}
theorem MDef.raw {m qual : Str} {C : Addr} {st : Stmt} {N ps : List Str} {k : Nat} {sp : Sp} (D : MDef K C m qual st) (S : FnScope N ps (defScope st)) (len : ∀ vs H Q E, sp vs H Q E → vs.length = ps.length)
    (hb : ∀ (kV doc pm : Value) (an : Option Addr) (cdv ct : Value) (us : List Value), us.length = ps.length → bindArgs (PySem.W.fnOf m qual (defArgs st) (defBody st) (defScope st) .none kV doc pm an cdv ct) ⟨us, []⟩ = pure (ps.zip us))
    (hbody : ∀ (f : Addr) (cdv : Value) (A : Around) (outer : List Env) (s : Shared) (H : Hp) (vs : List V) (Q : VK) (E : XK), Room k (A.deeper (envOfC qual (defScope st) s.heap.objs.size f cdv)) → sp vs H Q E →
      ∃ t, PSs (cxOf CX0 P w K mg base N qual (defScope st) f cdv A outer s H E).nox (defBody st) t ∧ t { nx := fun _ H' => Q .non H', rt := Q } (start N vs) H) : FnR P w K mg base CX0 (k + 1) (He.ma K C m) sp := by
  obtain ⟨⟨fd, F⟩, g⟩ := D
  exact ((F.ok S len (hbody _)).raw (F.binds hb) .nil).imp fun vs H Q E h => by
    rw [List.append_nil]
    exact h
theorem mcal_put_out (T : Txt K mg) : MCal P w K mg base 1 (CR K) "put_out" sp_put_out := by
  refine T.Row_put_out.cal sc_Row_put_out (fun vs H Q E h => ?_) (fun _ _ _ _ _ _ us hl => match us, hl with | [_, _, _, _], _ => rfl) (fun f cdv A outer s H vs Q E hr h => ?_)
  · obtain ⟨p, q, n, v, rfl, _⟩ := h; rfl
  · obtain ⟨p, q, n, v, rfl, h⟩ := h
    refine ⟨_, (pss_one (ps_ret (pe_ifExp (pt_cmpR op_isN (pv 3) pe_non (nomark _)) pe_non (pe_ix ix_tup (pv 3) pe_int (fun _ _ => rfl))))), ?_⟩
    rcases h with ⟨rfl, k⟩ | ⟨a, x, y, rfl, ha, k⟩
    · exact ⟨_, rfl, rfl, _, rfl, iteD rfl k⟩
    · exact ⟨_, rfl, rfl, _, rfl, iteDF (fun z => nomatch z) ⟨_, rfl, a, _, _, _, rfl, rfl, SqT.of ha, atI_of (j := 1) rfl rfl, k⟩⟩
/-- stood.outs.append(out); return out -/
theorem step_tail (T : Txt K mg) {D : Ends} {p q tab e li lo d c g dl dx : Addr} {t : List Int} {m : Nat} {v : V} {H4 : Hp} (hq : H4 q = some (.ins (CS K) dx (sf tab e li lo d c g dl))) (ho : H4 lo = some (.lst (outsL t m))) (hm : m ≤ 1000)
    (k : D.rt v (upd H4 lo (.lst (outsL t m ++ [v])))) :
    tSeq (tDrop (tBM K "list" rAppend (tFld K (tVar 1) "outs") (tCons (tVar 4) tNil))) (tRet (tVar 4)) D [some (.ref p), some (.ref q), some (.int (m : Int)), some (.int (m : Int)), some v] H4 :=
  ⟨_, rfl, q, _, dx, _, _, rfl, hq, T.clS, T.n_outs, sf_outs, .inl ⟨rfl, _, SqL.of ho⟩, _, rfl, lo, _, _, rfl, rfl, ho, by rw [outsL_len]; exact line_lt (by omega), _, rfl, k⟩
theorem mcal_step (T : Txt K mg) : MCal P w K mg base 2 (CR K) "step" (sp_step K) := by
  have G_hold_ahead := cal_hold_ahead (P := P) (w := w) (base := base) T
  have M_put_out := mcal_put_out (P := P) (w := w) (base := base) T
  refine T.Row_step.cal sc_Row_step (fun vs H Q E h => ?_) (fun _ _ _ _ _ _ us hl => match us, hl with | [_, _, _], _ => rfl) (fun f cdv A outer s H vs Q E hr h => ?_)
  · obtain ⟨H0, p, dxr, ls, q, tab, t, m, rfl, _⟩ := h; rfl
  · obtain ⟨H0, p, dxr, ls, q, tab, t, m, rfl, tt, hm, hp0, ⟨s0, nq, dx, e, li, lo, d, c, g, dl, kvs, S, nli, nlo, nd, nlilo, nddl⟩, k⟩ := h
    refine ⟨_, (pss_cons (ps_set (i := 3) sc_Row_step.nd rfl (Or.inl rfl) (pe_callB call_len_seq rfl T.b_len (by decide +kernel) (pa_cons (pe_fld (pv 1) rfl) pa_nil)))
      (pss_cons (ps_dput (hu_of hr) (pe_fld (pv 1) rfl) (pe_op op_add (pv 3) (pe_cal G_hold_ahead (hr.mono (by decide)) rfl (pa_cons (pv 1) (pa_cons pe_int pa_nil)))) (pe_tup (pa_cons (pv 3) (pa_cons (pv 2) pa_nil))) rfl)
      (pss_cons (ps_fld (pv 1) (pe_slice sl_tupA (pe_fld (pv 1) rfl) (po_some pe_int) po_none) rfl)
      (pss_cons (ps_expr (pe_bm PySem.F.plainAttrs_list PySem.F.slot_list_append PySem.F.type_list_append mt_append (pe_fld (pv 1) rfl) (pa_cons (pv 2) pa_nil)))
      (pss_cons (ps_set (i := 4) sc_Row_step.nd rfl (Or.inl rfl) (pe_mcal (pv 0) T.clR M_put_out (hr.mono (by decide)) (pa_cons (pv 1) (pa_cons (pv 3) (pa_cons (pe_dpop2 (pe_fld (pv 1) rfl) (pv 3) pe_non ⟨rfl, rfl, rfl, rfl⟩) pa_nil)))))
      (pss_cons (ps_expr (pe_bm PySem.F.plainAttrs_list PySem.F.slot_list_append PySem.F.type_list_append mt_append (pe_fld (pv 1) rfl) (pa_cons (pv 4) pa_nil)))
      (pss_one (ps_ret (pv 4))))))))), ?_⟩
    have eo : (m : Int) + hold t (m : Int) = (outN t m : Int) := (tt.outN m).symm
    refine ⟨_, rfl, q, _, dx, _, _, rfl, S.ob, T.clS, T.n_ins, sf_ins, li, _, rfl, .inl (SqL.of S.hi), ?_⟩
    rw [insL_len]
    -- stood.due[now + hold_ahead(stood, 0)] = (now, value)
    refine ⟨_, rfl, _, rfl, by show 2 ≤ sizeLine; decide, fun T1 hT1 => ?_⟩
    have s1 : Same H (upd H T1 (.tup [.int (m : Int), .int (m : Int)])) := Same.new hT1
    have S1 := S.same s1
    have t1 : (upd H T1 (.tup [.int (m : Int), .int (m : Int)])) T1 = some (.tup [.int (m : Int), .int (m : Int)]) := upd_same
    generalize upd H T1 (.tup [.int (m : Int), .int (m : Int)]) = H1 at s1 S1 t1 ⊢
    refine ⟨_, rfl, q, _, dx, _, _, rfl, S1.ob, T.clS, T.n_due, sf_due, _, rfl, _, rfl, q, tab, t, m, dx, e, li, lo, d, c, g, dl, rfl, tt, S1.ob, S1.tb, S1.he, S1.hi, _, _, rfl, rfl,
      d, _, rfl, DPut.k (k := Sum.inl ((m : Int) + hold t (m : Int))) S1.hd (by have := S1.due.len; exact line_lt (by omega)), ?_⟩
    rw [eo]
    have D2 := S1.due.put tt t1 (outN_ge t m)
    generalize putK kvs (Sum.inl ((outN t m : Nat) : Int) : Key) (V.ref T1) = kv2 at D2 ⊢
    have b2 : But d H1 (upd H1 d (.dK kv2)) := But.upd fun b o h _ => h
    have d2 : upd H1 d (.dK kv2) d = some (.dK kv2) := upd_same
    have nqd : q ≠ d := ne_of S1.ob S1.hd (by intro z; cases z)
    have q2 := b2 _ _ S1.ob nqd
    have e2 := b2 _ _ S1.he (ne_of S1.he S1.hd (by intro z; cases z))
    have i2 := b2 _ _ S1.hi (ne_of S1.hi S1.hd (by intro z; cases z))
    have o2 := b2 _ _ S1.ho (ne_of S1.ho S1.hd (by intro z; cases z))
    have c2 := b2 _ _ S1.hc (ne_of S1.hc S1.hd (by intro z; cases z))
    have g2 := b2 _ _ S1.hg (ne_of S1.hg S1.hd (by intro z; cases z))
    have l2 := b2 _ _ S1.hl nddl.symm
    have tb2 := b2 _ _ S1.tb (ne_of S1.tb S1.hd (by intro z; cases z))
    have s2 : Same H0 (upd H1 d (.dK kv2)) := b2.same (s0.trans s1) nd
    have D3 : DueG (upd H1 d (.dK kv2)) t (m + 1) m kv2 := D2.tups fun a xs h => b2 _ _ h (ne_of h S1.hd (by intro z; cases z))
    generalize upd H1 d (.dK kv2) = H2 at d2 q2 e2 i2 o2 c2 g2 l2 s2 D3 tb2 ⊢
    -- stood.coming = stood.coming[1:]
    refine ⟨_, rfl, q, _, dx, _, _, rfl, q2, T.clS, T.n_coming, sf_coming, 1, rfl, e, _, rfl, SqT.of e2, fun _ => ⟨_, rfl, q, _, dx, _, rfl, q2, T.clS, T.n_coming, (by decide : 10 < 1000), ?_⟩, fun h => absurd ⟨rfl, rfl⟩ h⟩
    rw [sf_put_coming, upd_eq q2]
    -- stood.ins.append(value)
    refine ⟨_, rfl, q, _, dx, _, _, rfl, q2, T.clS, T.n_ins, sf_ins, .inl ⟨rfl, _, SqL.of i2⟩, _, rfl, li, _, _, rfl, rfl, i2, by rw [insL_len]; exact line_lt (by omega), ?_⟩
    rw [← insL_succ]
    have b3 : But li H2 (upd H2 li (.lst (insL (m + 1)))) := But.upd fun b o h _ => h
    have i3 : upd H2 li (.lst (insL (m + 1))) li = some (.lst (insL (m + 1))) := upd_same
    have q3 := b3 _ _ q2 (ne_of q2 i2 (by intro z; cases z))
    have e3 := b3 _ _ e2 (ne_of e2 i2 (by intro z; cases z))
    have o3 := b3 _ _ o2 nlilo.symm
    have d3 := b3 _ _ d2 (ne_of d2 i2 (by intro z; cases z))
    have c3 := b3 _ _ c2 (ne_of c2 i2 (by intro z; cases z))
    have g3 := b3 _ _ g2 (ne_of g2 i2 (by intro z; cases z))
    have tb3 := b3 _ _ tb2 (ne_of tb2 i2 (by intro z; cases z))
    have l3 := b3 _ _ l2 (ne_of l2 i2 (by intro z; cases z))
    have s3 : Same H0 (upd H2 li (.lst (insL (m + 1)))) := b3.same s2 nli
    have D4 : DueG (upd H2 li (.lst (insL (m + 1)))) t (m + 1) m kv2 := D3.tups fun a xs h => b3 _ _ h (ne_of h i2 (by intro z; cases z))
    generalize upd H2 li (.lst (insL (m + 1))) = H3 at i3 q3 e3 o3 d3 c3 g3 l3 s3 D4 tb3 ⊢
    -- the end, whatever came out
    have fin : ∀ (H4 : Hp) (kv4 : List (Key × V)), But d H3 H4 → H4 d = some (.dK kv4) → DueG H4 t (m + 1) (m + 1) kv4 → Q (ovN (at_ t m)) (upd H4 lo (.lst (outsL t m ++ [ovN (at_ t m)]))) := fun H4 kv4 b4 d4 D5 => by
      have q4 := b4 _ _ q3 nqd
      have e4 := b4 _ _ e3 (ne_of e3 d3 (by intro z; cases z))
      have i4 := b4 _ _ i3 (ne_of i3 d3 (by intro z; cases z))
      have o4 := b4 _ _ o3 (ne_of o3 d3 (by intro z; cases z))
      have c4 := b4 _ _ c3 (ne_of c3 d3 (by intro z; cases z))
      have g4 := b4 _ _ g3 (ne_of g3 d3 (by intro z; cases z))
      have l4 := b4 _ _ l3 nddl.symm
      have tb4 := b4 _ _ tb3 (ne_of tb3 d3 (by intro z; cases z))
      have s4 : Same H0 H4 := b4.same s3 nd
      rw [← outsL_succ]
      have b5 : But lo H4 (upd H4 lo (.lst (outsL t (m + 1)))) := But.upd fun b o h _ => h
      have s5 := b5.same s4 nlo
      refine k _ ⟨s5, nq, dx, e, li, lo, d, c, g, dl, kv4, ⟨b5 _ _ q4 (ne_of q4 o4 (by intro z; cases z)), b5 _ _ tb4 (ne_of tb4 o4 (by intro z; cases z)), b5 _ _ e4 (ne_of e4 o4 (by intro z; cases z)), b5 _ _ i4 nlilo, upd_same, b5 _ _ d4 (ne_of d4 o4 (by intro z; cases z)),
        D5.tups fun a xs h => b5 _ _ h (ne_of h o4 (by intro z; cases z)), b5 _ _ c4 (ne_of c4 o4 (by intro z; cases z)), b5 _ _ g4 (ne_of g4 o4 (by intro z; cases z)), b5 _ _ l4 (ne_of l4 o4 (by intro z; cases z))⟩, nli, nlo, nd, nlilo, nddl⟩
    refine ⟨_, rfl, p, dxr, _, rfl, s3 _ _ hp0, rf_none (by decide +kernel), _, rfl, _, rfl, _, rfl, q, _, dx, _, _, rfl, q3, T.clS, T.n_due, sf_due, d, rfl, .inl ⟨_, Rd.of d3⟩, _, rfl, kv2, Sum.inl (m : Int), d3, rfl, fun v hv => ?_, fun hn => ?_⟩
    · obtain ⟨⟨i, a, ea, rfl, ha⟩, D5⟩ := D4.pop tt hv
      have b4 : But d H3 (upd H3 d (.dK (dropK kv2 (Sum.inl (m : Int) : Key)))) := But.upd fun b o h _ => h
      have tups : ∀ a xs, H3 a = some (.tup xs) → (upd H3 d (.dK (dropK kv2 (Sum.inl (m : Int) : Key)))) a = some (.tup xs) := fun a xs h => b4 _ _ h (ne_of h d3 (by intro z; cases z))
      have fin4 := fin _ _ b4 upd_same (D5.tups tups)
      rw [ea] at fin4
      refine ⟨p, q, _, _, rfl, .inr ⟨a, _, _, rfl, tups _ _ ha, step_tail T (b4 _ _ q3 nqd) (b4 _ _ o3 (ne_of o3 d3 (by intro z; cases z))) hm fin4⟩⟩
    · obtain ⟨ea, D5⟩ := D4.miss tt (by omega) hn
      have fin4 := fin H3 kv2 (fun b o h _ => h) d3 D5
      rw [ea] at fin4
      exact ⟨p, q, _, _, rfl, .inl ⟨rfl, step_tail T q3 o3 hm fin4⟩⟩
theorem fnr_push_all (T : Txt K mg) : FnR P w K mg base CX0 4 (He.ma K (CR K) "push_all") (fun vs H Q E => ∃ ws rest, vs = ws ++ rest ∧ ws.length = ["self"].length ∧ rest.length ≤ sizeLine ∧ ∀ p, H p = Option.none → sp_push_all K (ws ++ [V.ref p]) (upd H p (.tup rest)) Q E) := by
  have G_need_value := cal_need_value (P := P) (w := w) (base := base) T
  have G_copied := cal_copied (P := P) (w := w) (base := base) T
  have M_step := mcal_step (P := P) (w := w) (base := base) T
  obtain ⟨⟨fd, F⟩, _⟩ := T.Row_push_all
  obtain ⟨oc, od, kV, doc, pm, an, cdv, ct, osl, rfl, lk, hcd⟩ := F.ex
  refine StX.fn_star (ps := ["self"]) (pv := "values") lk hcd sc_Row_push_all StX.cxUp_none (StX.bind_star1 (B := fun us => bindArgs (PySem.W.fnOf "push_all" "Row.push_all" (defArgs s_Row_push_all) (defBody s_Row_push_all) (defScope s_Row_push_all) .none kV doc pm an cdv ct) ⟨us, []⟩) (p1 := "self") (pv := "values") (fun a => rfl) (fun a r rs => rfl)) fun A outer s H vs Q E hr h => ?_
  obtain ⟨H0, p, a, tab, t, m, rfl, tt, hm, ha, RR, k⟩ := h
  refine ⟨_, PSs.nox (pss_cons (ps_for PassesOwn.never rfl (pi_tup (pv 1)) (pg_name (i := 2) sc_Row_push_all.nd rfl (Or.inl rfl)) (pss_one (ps_expr (pe_cal G_need_value (hr.mono (by decide)) rfl (pa_cons (pv 2) pa_nil)))))
      (pss_cons (ps_set (i := 3) sc_Row_push_all.nd rfl (Or.inr rfl) (pe_cal G_copied (hr.mono (by decide)) rfl (pa_cons (pe_ix ix_list (pe_fld (pv 0) rfl) (pe_un un_neg pe_int) (fun _ _ => rfl)) pa_nil)))
      (pss_cons (ps_set (i := 4) sc_Row_push_all.nd rfl (Or.inl rfl) (pe_callTy call_tuple_of rfl T.b_tuple (by decide +kernel) (pa_cons (pe_lc (own := [("value", 2)]) (g := gName 2) (tt := tYes) rfl sc_Row_push_all.nd (pi_tup (pv 1)) (blkOk_by (own := [("value", 2)]) (N := ["self", "values", "value", "stood", "found"]) (sc := defScope s_Row_push_all) (by decide +kernel)) (fun _ _ _ _ _ => (pg_name (i := 2) sc_Row_push_all.nd rfl (Or.inl rfl))) (fun _ _ _ _ _ => pts_nil) (fun _ _ _ _ _ => (pe_mcal (pv 0) T.clR M_step (hr.mono (by decide)) (pa_cons (pv 3) (pa_cons (pv 2) pa_nil))))) pa_nil)))
      (pss_cons (ps_expr (pe_bm PySem.F.plainAttrs_list PySem.F.slot_list_append PySem.F.type_list_append mt_append (pe_fld (pv 0) rfl) (pa_cons (pv 3) pa_nil)))
      (pss_one (ps_ret (pv 4))))))), ?_⟩
  refine ⟨_, rfl, a, rfl, ⟨_, SqT.of ha⟩, for_tup (K := K) (a := a) (xs := [V.int (m : Int)]) (fun i σ H' => H' = H ∧ ∃ v2 : Option V, σ = [some (.ref p), some (.ref a), v2, none, none]) ⟨rfl, _, rfl⟩ (fun i σ H' _ h => by rw [h.1]; exact SqT.of ha) ?_ ?_⟩
  · rintro i x σ H1 hi ⟨rfl, v2, rfl⟩
    have ex : x = V.int (m : Int) := by
      cases i with
      | zero => exact (Option.some.inj hi).symm
      | succ i => simp at hi
    subst ex
    exact ⟨_, rfl, _, rfl, rfl, _, rfl⟩
  · rintro σ H1 ⟨rfl, v2, rfl⟩
    obtain ⟨s0, np, dxr, ls, st, q, dx, e, li, lo, d, c, g, dl, kvs, nls, hp, hls, hst, S, _⟩ := RR
    -- stood = copied(self.stands[-1])
    refine ⟨_, rfl, p, _, dxr, _, _, rfl, hp, T.clR, T.n_stands, rf_stands, _, rfl, ls, _, _, _, rfl, rfl, SqL.of hls, last_get st _, q, tab, t, m, dx, e, li, lo, d, c, g, dl, kvs, rfl, S, fun q2 H2 I2 => ?_⟩
    -- found = tuple([self.step(stood, value) for value in values])
    have s12 := I2.same
    have ha2 := s12 _ _ ha
    obtain ⟨_, nq2, dx2, e2, li2, lo2, d2, c2, g2, dl2, kv2, S2, nli2, nlo2, nd2, nlilo, nddl⟩ := I2
    refine ⟨_, rfl, a, rfl, ⟨_, SqT.of ha2⟩, fun D hD => lc_it (walk_tup (K := K) (a := a) (xs := [V.int (m : Int)]))
      (fun i H' => (i = 0 ∧ H' = upd H2 D (.lst [])) ∨ (i = 1 ∧ H' D = some (.lst [ovN (at_ t m)]) ∧ Same H1 H' ∧ ∃ dx e li lo d c g dl kvs, StandAt K H' q2 tab t (m + 1) dx e li lo d c g dl kvs ∧ H1 li = none ∧ H1 lo = none))
      (.inl ⟨rfl, rfl⟩) (fun i H' _ h => ?_) ?_ ?_⟩
    · rcases h with ⟨_, rfl⟩ | ⟨_, _, s, _⟩
      · exact SqT.of ((Same.new hD) _ _ ha2)
      · exact SqT.of (s _ _ ha)
    · rintro i x H3 H4 hi h ⟨rfl, ex⟩
      have i0 : i = 0 := by
        have : i < 1 := hi
        omega
      subst i0
      have ex : x = V.int (m : Int) := (Option.some.inj ex).symm
      subst ex
      rcases h with ⟨_, rfl⟩ | ⟨z, _⟩
      · have nD1 : H1 D = none := s12.free hD
        have sN : Same H2 (upd H2 D (.lst [])) := Same.new hD
        have sB : Same (upd H1 D (.lst [])) (upd H2 D (.lst [])) := fun b o h => by
          by_cases z : b = D
          · subst z
            rw [upd_same] at h ⊢
            exact h
          · rw [upd_ne z] at h ⊢
            exact s12 _ _ h
        have fr : ∀ {x : Addr} {o : HO}, H2 x = some o → H1 x = none → (upd H1 D (.lst [])) x = none := fun {x o} h n => by
          rw [upd_ne (ne_of_none h hD)]
          exact n
        refine ⟨rfl, tYes_mk (iteT ⟨_, rfl, p, dxr, _, rfl, sN _ _ (s12 _ _ hp), rf_none (by decide +kernel), _, rfl, _, rfl, upd H1 D (.lst []), p, dxr, ls, q2, tab, t, m, rfl, tt, hm, by rw [upd_ne (ne_of_none hp nD1)]; exact hp,
          ⟨sB, fr S2.ob nq2, dx2, e2, li2, lo2, d2, c2, g2, dl2, kv2, S2.same sN, fr S2.hi nli2, fr S2.ho nlo2, fr S2.hd nd2, nlilo, nddl⟩, fun H5 I5 => ?_⟩)⟩
        obtain ⟨s5, _, dx5, e5, li5, lo5, d5, c5, g5, dl5, kv5, S5, nli5, nlo5, nd5, _, _⟩ := I5
        have hD5 : H5 D = some (.lst []) := s5 _ _ upd_same
        have s15 : Same H1 H5 := (Same.new nD1).trans s5
        have bD : But D H5 (upd H5 D (.lst ([] ++ [ovN (at_ t m)]))) := But.upd fun b o h _ => h
        have off : ∀ {x : Addr} {o : HO}, H5 x = some o → (upd H1 D (.lst [])) x = none → x ≠ D := fun {x o} h n z => by
          rw [z, upd_same] at n
          cases n
        refine ⟨[], hD5, by show 0 < sizeLine; decide, .inr ⟨rfl, upd_same, bD.same s15 nD1, dx5, e5, li5, lo5, d5, c5, g5, dl5, kv5, ?_, ?_, ?_⟩⟩
        rotate_left
        · rw [upd_ne (off S5.hi nli5)] at nli5
          exact nli5
        · rw [upd_ne (off S5.ho nlo5)] at nlo5
          exact nlo5
        exact ⟨bD _ _ S5.ob (ne_of S5.ob hD5 (by intro z; cases z)), bD _ _ S5.tb (ne_of S5.tb hD5 (by intro z; cases z)), bD _ _ S5.he (ne_of S5.he hD5 (by intro z; cases z)), bD _ _ S5.hi (off S5.hi nli5), bD _ _ S5.ho (off S5.ho nlo5),
          bD _ _ S5.hd (ne_of S5.hd hD5 (by intro z; cases z)), S5.due.tups fun a xs h => bD _ _ h (ne_of h hD5 (by intro z; cases z)), bD _ _ S5.hc (ne_of S5.hc hD5 (by intro z; cases z)), bD _ _ S5.hg (ne_of S5.hg hD5 (by intro z; cases z)), bD _ _ S5.hl (ne_of S5.hl hD5 (by intro z; cases z))⟩
      · omega
    · rintro H3 h
      rcases h with ⟨z, _⟩ | ⟨_, hD3, s13, dx3, e3, li3, lo3, d3, c3, g3, dl3, kv3, S3, nli3, nlo3⟩
      · exact absurd z (by show ¬ (1 = 0); decide)
      · refine ⟨D, _, rfl, .inl ⟨SqL.of hD3, fun r hr3 => ?_⟩⟩
        have sr : Same H3 (upd H3 r (.tup [ovN (at_ t m)])) := Same.new hr3
        have hr4 : (upd H3 r (.tup [ovN (at_ t m)])) r = some (.tup [ovN (at_ t m)]) := upd_same
        have S4 := S3.same sr
        have s14 := s13.trans sr
        have nD1 : H1 D = none := s12.free hD
        generalize upd H3 r (.tup [ovN (at_ t m)]) = H4 at hr4 S4 s14 ⊢
        have hls4 := s14 _ _ hls
        refine ⟨_, rfl, p, _, dxr, _, _, rfl, s14 _ _ hp, T.clR, T.n_stands, rf_stands, .inl ⟨rfl, _, SqL.of hls4⟩, _, rfl, ls, _, _, rfl, rfl, hls4, by rw [List.length_append, List.length_singleton]; exact line_lt (by omega), ?_⟩
        have bL : But ls H4 (upd H4 ls (.lst (st ++ [.ref q] ++ [.ref q2]))) := But.upd fun b o h _ => h
        have s5 : Same H0 (upd H4 ls (.lst (st ++ [.ref q] ++ [.ref q2]))) := bL.same (s0.trans s14) nls
        have sL : ∀ {x : Addr} {o : HO}, H4 x = some o → (∀ ys, o ≠ .lst ys) → (upd H4 ls (.lst (st ++ [.ref q] ++ [.ref q2]))) x = some o := fun {x o} h n => bL _ _ h (ne_of h hls4 (n _))
        have off : ∀ {x : Addr}, H1 x = none → x ≠ ls := fun {x} n z => by
          rw [z, hls] at n
          cases n
        refine ⟨_, rfl, k r _ ⟨s5, np, dxr, ls, st ++ [.ref q], q2, dx3, e3, li3, lo3, d3, c3, g3, dl3, kv3, nls, sL (s14 _ _ hp) (by intro ys z; cases z), upd_same, by rw [List.length_append, hst]; rfl, ?_, s0.free nli3, s0.free nlo3⟩ (sL hr4 (by intro ys z; cases z))⟩
        exact ⟨sL S4.ob (by intro ys z; cases z), sL S4.tb (by intro ys z; cases z), sL S4.he (by intro ys z; cases z), bL _ _ S4.hi (off nli3), bL _ _ S4.ho (off nlo3), sL S4.hd (by intro ys z; cases z),
          S4.due.tups fun a xs h => sL h (by intro ys z; cases z), sL S4.hc (by intro ys z; cases z), sL S4.hg (by intro ys z; cases z), sL S4.hl (by intro ys z; cases z)⟩
theorem mcal_push (T : Txt K mg) : MCal P w K mg base 5 (CR K) "push" (sp_push K) := by
  have G_need_value := cal_need_value (P := P) (w := w) (base := base) T
  have GP := fnr_push_all (P := P) (w := w) (base := base) T
  have Mp := T.Row_push_all.2
  refine T.Row_push.cal sc_Row_push (fun vs H Q E h => ?_) (fun _ _ _ _ _ _ us hl => match us, hl with | [_, _], _ => rfl) (fun f cdv A outer s H vs Q E hr h => ?_)
  · obtain ⟨H0, p, tab, t, m, rfl, _⟩ := h; rfl
  · obtain ⟨H0, p, tab, t, m, rfl, tt, hm, RR, k⟩ := h
    refine ⟨_, (pss_cons (ps_expr (pe_cal G_need_value (hr.mono (by decide)) rfl (pa_cons (pv 1) pa_nil)))
      (pss_one (ps_ret (pe_ix ix_tup (pe_methR (pv 0) T.clR Mp GP (hr.mono (by decide)) pass0 (pa_cons (pv 1) pa_nil)) pe_int (fun _ _ => rfl))))), ?_⟩
    obtain ⟨s0, np, dxr, ls, st, q, dx, e, li, lo, d, c, g, dl, kvs, nls, hp, hls, hst, S, _⟩ := id RR
    refine ⟨_, rfl, _, rfl, _, rfl, p, dxr, _, rfl, hp, rf_none (by decide +kernel), _, rfl, [.ref p], [.int (m : Int)], rfl, rfl, by show 1 ≤ sizeLine; decide, fun a ha => ?_⟩
    refine ⟨H0, p, a, tab, t, m, rfl, tt, hm, upd_same, RR.to (Same.new ha), fun r H' R' hr' => ?_⟩
    exact ⟨r, _, _, _, rfl, rfl, SqT.of hr', atI_of (j := 0) rfl rfl, k H' R'⟩
theorem ical_Row (T : Txt K mg) : ICal P w K mg base 5 "Row" (CR K) (sp_Row_init K) := by
  have G_need_table := cal_need_table (P := P) (w := w) (base := base) T
  have G_Stand := ical_Stand (P := P) (w := w) (base := base) T
  obtain ⟨fd, F⟩ := T.Row_init
  refine ⟨_, fd, ["self", "table"], F.ok sc_Row_init (fun vs H Q E h => ?_) (fun cdv A outer s H vs Q E hr h => ?_), T.gRow, T.mkR, F.binds (fun _ _ _ _ _ _ us hl => match us, hl with | [_, _], _ => rfl)⟩
  · obtain ⟨H0, p, dx, tab, t, rfl, _⟩ := h; rfl
  · obtain ⟨H0, p, dx, tab, t, rfl, s0, np, hp, ht, tt, k⟩ := h
    refine ⟨_, (pss_cons (ps_expr (pe_cal G_need_table (hr.mono (by decide)) rfl (pa_cons (pv 1) pa_nil)))
      (pss_one (ps_fld (pv 0) (pe_lst (pa_cons (pe_ical G_Stand (hr.mono (by decide)) rfl (pa_cons (pv 1) pa_nil)) pa_nil)) rfl))), ?_⟩
    refine ⟨_, rfl, tab, t, rfl, s0 _ _ ht, tt, fun H1 s1 => ?_⟩
    refine ⟨_, rfl, fun x dy nx ndy ne => ?_⟩
    have sx : Same H1 (upd (upd H1 dy (.own x)) x (.ins (CS K) dy [])) := (Same.new ndy).mut nx
    refine ⟨H1, x, dy, tab, t, rfl, sx, nx, upd_same, s1 _ _ (s0 _ _ ht), fun H2 I2 => ⟨rfl, by show 1 ≤ sizeLine; decide, fun ls hls => ?_⟩⟩
    obtain ⟨s2, _, dx2, e, li, lo, d, c, g, dl, kvs, S, nli, nlo, _⟩ := I2
    have s3 : Same H2 (upd H2 ls (.lst [.ref x])) := Same.new hls
    have hls3 : (upd H2 ls (.lst [.ref x])) ls = some (.lst [.ref x]) := upd_same
    have nls : H0 ls = none := ((s0.trans s1).trans s2).free hls
    have S3 := S.same s3
    have s03 := ((s0.trans s1).trans s2).trans s3
    have hp3 := s3 _ _ (s2 _ _ (s1 _ _ hp))
    generalize upd H2 ls (.lst [.ref x]) = H3 at hls3 S3 s03 hp3 ⊢
    refine ⟨_, rfl, p, _, dx, [], rfl, hp3, T.clR, T.n_stands, (by decide : 0 < 1000), ?_⟩
    have b4 : But p H3 (upd H3 p (.ins (CR K) dx (putF "stands" (.ref ls) []))) := But.upd fun b o h _ => h
    have off : ∀ {y : Addr} {o : HO}, H3 y = some o → (∀ fs, o ≠ .ins (CR K) dx fs) → (upd H3 p (.ins (CR K) dx (putF "stands" (.ref ls) []))) y = some o := fun {y o} h n => b4 _ _ h (ne_of h hp3 (n _))
    have nxp : x ≠ p := fun z => by
      rw [z] at nx
      rw [s1 _ _ hp] at nx
      cases nx
    refine k _ ⟨b4.same s03 np, np, dx, ls, [], x, dx2, e, li, lo, d, c, g, dl, kvs, nls, upd_same, off hls3 (by intro fs z; cases z), rfl, ?_, (s0.trans s1).free nli, (s0.trans s1).free nlo⟩
    exact ⟨b4 _ _ S3.ob nxp, off S3.tb (by intro fs z; cases z), off S3.he (by intro fs z; cases z), off S3.hi (by intro fs z; cases z), off S3.ho (by intro fs z; cases z), off S3.hd (by intro fs z; cases z),
      S3.due.tups fun a xs h => off h (by intro fs z; cases z), off S3.hc (by intro fs z; cases z), off S3.hg (by intro fs z; cases z), off S3.hl (by intro fs z; cases z)⟩
theorem fn_tick (T : Txt K mg) : ∃ fd, FnOk P w K mg base CX0 1 (tickG K) fd ["self"] (sp_tick K) ∧ Binds K fd ["self"] [] := by
  obtain ⟨fd, F⟩ := T.tick
  refine ⟨fd, F.ok sc_Row_tick (fun vs H Q E h => ?_) (fun cdv A outer s H vs Q E hr h => ?_), F.binds (fun _ _ _ _ _ _ us hl => match us, hl with | [_], _ => rfl)⟩
  · obtain ⟨H0, p, tab, t, m, rfl, _⟩ := h; rfl
  · obtain ⟨H0, p, tab, t, m, rfl, ⟨s0, np, dxr, ls, st, q, dx, e, li, lo, d, c, g, dl, kvs, nls, hp, hls, hst, S, _⟩, k⟩ := h
    refine ⟨_, (pss_one (ps_ret (pe_callB call_len_seq rfl T.b_len (by decide +kernel) (pa_cons (pe_fld (pe_ix ix_list (pe_fld (pv 0) rfl) (pe_un un_neg pe_int) (fun _ _ => rfl)) rfl) pa_nil)))), ?_⟩
    refine ⟨_, rfl, p, _, dxr, _, _, rfl, hp, T.clR, T.n_stands, rf_stands, _, rfl, ls, _, _, _, rfl, rfl, SqL.of hls, last_get st _, q, _, dx, _, _, rfl, S.ob, T.clS, T.n_ins, sf_ins, li, _, rfl, .inl (SqL.of S.hi), ?_⟩
    rw [insL_len]
    exact k
theorem fnr_getitem (T : Txt K mg) : FnR P w K mg base CX0 3 (He.ma K (CR K) "__getitem__") (sp_getitem K) := by
  have G_is_between := cal_is_between (P := P) (w := w) (base := base) T
  obtain ⟨fdT, GT, bT⟩ := fn_tick (P := P) (w := w) (base := base) T
  refine MDef.raw T.Row_getitem sc_Row_getitem (fun vs H Q E h => ?_) (fun _ _ _ _ _ _ us hl => match us, hl with | [_, _], _ => rfl) (fun f cdv A outer s H vs Q E hr h => ?_)
  · obtain ⟨H0, p, tab, t, m, u, rfl, _⟩ := h; rfl
  · obtain ⟨H0, p, tab, t, m, u, rfl, RR, hu, k⟩ := h
    obtain ⟨s0, np, dxr, ls, st, q, dx, e, li, lo, d, c, g, dl, kvs, nls, hp, hls, hst, S, _⟩ := id RR
    refine ⟨_, (pss_cons (ps_if (pt_not (pt_val (pe_cal G_is_between (hr.mono (by decide)) rfl (pa_cons (pv 1) (pa_cons pe_int (pa_cons (pe_op op_sub (pe_prop (pv 0) T.clR T.tickP GT (hr.mono (by decide)) bT .nil pass0 rfl) pe_int) pa_nil)))))) (pss_one ps_never) pss_nil)
      (pss_one (ps_ret (pe_ix ix_list (pe_fld (pe_ix ix_list (pe_fld (pv 0) rfl) (pe_un un_neg pe_int) (fun _ _ => rfl)) rfl) (pv 1) (fun _ _ => rfl))))), ?_⟩
    refine ⟨_, rfl, _, rfl, p, dxr, _, rfl, hp, H0, p, tab, t, m, rfl, RR, _, _, rfl, rfl, _, _, _, rfl, by omega, by omega, true, rfl, iteF ?_⟩
    refine ⟨_, rfl, p, _, dxr, _, _, rfl, hp, T.clR, T.n_stands, rf_stands, _, rfl, ls, _, _, _, rfl, rfl, SqL.of hls, last_get st _, q, _, dx, _, _, rfl, S.ob, T.clS, T.n_outs, sf_outs, _, rfl, lo, _, _, _, rfl, rfl, SqL.of S.ho, atI_of (j := u) rfl ?_, k⟩
    unfold outsL
    rw [List.getElem?_map, List.getElem?_range hu]
    rfl
theorem fnr_len (T : Txt K mg) : FnR P w K mg base CX0 1 (He.ma K (CR K) "__len__") (sp_tick K) := by
  refine MDef.raw T.Row_len sc_Row_len (fun vs H Q E h => ?_) (fun _ _ _ _ _ _ us hl => match us, hl with | [_], _ => rfl) (fun f cdv A outer s H vs Q E hr h => ?_)
  · obtain ⟨H0, p, tab, t, m, rfl, _⟩ := h; rfl
  · obtain ⟨H0, p, tab, t, m, rfl, ⟨s0, np, dxr, ls, st, q, dx, e, li, lo, d, c, g, dl, kvs, nls, hp, hls, hst, S, _⟩, k⟩ := h
    refine ⟨_, (pss_one (ps_ret (pe_callB call_len_seq rfl T.b_len (by decide +kernel) (pa_cons (pe_fld (pe_ix ix_list (pe_fld (pv 0) rfl) (pe_un un_neg pe_int) (fun _ _ => rfl)) rfl) pa_nil)))), ?_⟩
    refine ⟨_, rfl, p, _, dxr, _, _, rfl, hp, T.clR, T.n_stands, rf_stands, _, rfl, ls, _, _, _, rfl, rfl, SqL.of hls, last_get st _, q, _, dx, _, _, rfl, S.ob, T.clS, T.n_outs, sf_outs, lo, _, rfl, .inl (SqL.of S.ho), ?_⟩
    rw [outsL_len]
    exact k
end
end Ba
end
section
set_option Elab.async false
set_option maxRecDepth 100000
set_option maxHeartbeats 4000000
/-! The texts of a journal: numbers, lines, and what is read back of them. -/
namespace Ba
open PySem PySem.Spec PyProof.Rows L2 TL
/-- the text of a number -/
def num (n : Nat) : Str := Str.ofString (toString ((n : Nat) : Int))
theorem tl_numS (n : Nat) : tl (num n) = numL n := tl_num n
/-- the text of what came out -/
def outT : Option Nat → Str
  | none => "-"
  | some i => num i
theorem tl_dash : tl ("-" : Str) = [45] := by decide +kernel
theorem tl_space : tl (" " : Str) = [32] := by decide +kernel
theorem tl_nl : tl ("\n" : Str) = [10] := by decide +kernel
theorem tl_empty : tl ("" : Str) = [] := by decide +kernel
theorem tl_digits : tl ("0123456789" : Str) = [48, 49, 50, 51, 52, 53, 54, 55, 56, 57] := by decide +kernel
theorem tl_zero : tl ("0" : Str) = [48] := by decide +kernel
theorem tl_outT_free {o : Option Nat} {s : Nat} (h : s < 45) : s ∉ tl (outT o) := by
  cases o with
  | none =>
    rw [show outT none = ("-" : Str) from rfl, tl_dash]
    intro z
    have := List.mem_singleton.mp z
    omega
  | some i =>
    rw [show outT (some i) = num i from rfl, tl_numS]
    exact numL_free (.inl (by omega))
theorem num_len {n : Nat} (h : n < 10 ^ 6) : (num n).length ≤ 6 := by
  rw [len_tl, tl_numS]
  exact numL_len (by decide) h
theorem outT_len {o : Option Nat} (h : ∀ i, o = some i → i < 10 ^ 6) : (outT o).length ≤ 6 := by
  cases o with
  | none => decide +kernel
  | some i => exact num_len (h i rfl)
/-- the first sign of a number is no 0 but for 0 itself -/
theorem numL_head : ∀ n : Nat, n ≠ 0 → (numL n).head? ≠ some 48 := by
  intro n
  induction n using Nat.strongRecOn with
  | _ n ih =>
    intro h0
    by_cases h : n < 10
    · rw [numL_lt h]
      intro e
      have := Option.some.inj e
      omega
    · rw [numL_step (by omega)]
      have := ih (n / 10) (by omega) (by omega)
      intro e
      cases q : numL (n / 10) with
      | nil => exact numL_ne _ q
      | cons a r =>
        rw [q] at e this
        exact this e
/-- the first sign -/
theorem num_first (n : Nat) : ∃ c r, tl (num n) = c :: r ∧ 48 ≤ c ∧ c ≤ 57 ∧ (c = 48 → num n = ("0" : Str)) := by
  have hd := numL_digits n
  have hh := numL_head n
  have e := tl_numS n
  cases q : numL n with
  | nil => exact absurd q (numL_ne n)
  | cons c r =>
    rw [q] at hd hh e
    have hc := hd.head
    refine ⟨c, r, e, hc.1, hc.2, fun ec => ?_⟩
    have n0 : n = 0 := Classical.byContradiction fun hn => hh hn (by rw [ec]; rfl)
    subst n0
    refine ext_tl ?_
    rw [tl_numS, tl_zero, numL_lt (by decide)]
theorem num_ne_empty (n : Nat) : num n ≠ ("" : Str) := fun e => by
  obtain ⟨c, r, h, _⟩ := num_first n
  rw [e, tl_empty] at h
  cases h
theorem num_ne_dash (n : Nat) : num n ≠ ("-" : Str) := fun e => by
  obtain ⟨c, r, h, h1, _⟩ := num_first n
  rw [e, tl_dash] at h
  have := (List.cons.inj h).1
  omega
theorem num_cut (n : Nat) : cutS (num n) none (some 1) ≠ ("-" : Str) := fun e => by
  obtain ⟨c, r, h, h1, _⟩ := num_first n
  have e2 := congrArg tl e
  rw [tl_dash] at e2
  have hl : (num n).length = r.length + 1 := by rw [len_tl, h]; rfl
  have e3 : tl (cutS (num n) none (some 1)) = ((tl (num n)).drop (HT.sIx (num n).length 0 none)).take (HT.sIx (num n).length (num n).length (some 1) - HT.sIx (num n).length 0 none) := rfl
  have i0 : HT.sIx (num n).length 0 none = 0 := rfl
  have i1 : HT.sIx (num n).length (num n).length (some 1) = 1 := by
    rw [hl]
    unfold HT.sIx
    simp
    try omega
  rw [e3, i0, i1, h] at e2
  have := (List.cons.inj e2).1
  omega
theorem num_at0 (n : Nat) : ∃ c, atI (num n).cps.toList 0 = some c ∧ ((⟨#[c]⟩ : Str) = ("0" : Str) → num n = ("0" : Str)) := by
  obtain ⟨c, r, h, h1, h2, h3⟩ := num_first n
  refine ⟨c, ?_, fun e => ?_⟩
  · have : (num n).cps.toList = c :: r := h
    rw [this]
    unfold atI ixN
    rw [if_pos (by omega), if_pos (by simp)]
    rfl
  · have e2 := congrArg tl e
    rw [tl_zero] at e2
    exact h3 (List.cons.inj e2).1
theorem num_sign {n i c : Nat} (h : (num n).cps[i]? = some c) : decide (c ∈ ("0123456789" : Str).cps.toList) = true := by
  have hm : c ∈ numL n := by
    rw [← tl_numS]
    have : (num n).cps.toList[i]? = some c := by rw [Array.getElem?_toList]; exact h
    exact List.mem_of_getElem? this
  have := numL_digits n c hm
  refine decide_eq_true ?_
  show c ∈ tl ("0123456789" : Str)
  rw [tl_digits]
  simp only [List.mem_cons, List.not_mem_nil, or_false]
  omega
theorem num_int {n : Nat} (h : n < 10 ^ 6) : PySem.intText? (num n) = some (n : Int) := by
  refine int_num ?_
  have := numL_len (k := 6) (by decide) h
  omega
theorem num_log {n : Nat} (h : n < 10 ^ 6) : ((n : Int)).natAbs.log2 < 1920 := by
  have h1 : ((n : Int)).natAbs = n := by omega
  rw [h1]
  have h2 : n.log2 < 20 := by
    by_cases h0 : n = 0
    · subst h0; decide
    · exact (Nat.log2_lt h0).mpr (by omega)
  omega
/-! ### lines -/
/-- a line, without its end -/
def body (u : Nat) (o : Option Nat) : Str := Txt.join " " [num u, outT o]
/-- a line, as the program makes it -/
def line (u : Nat) (o : Option Nat) : Str := (((Str.empty ++ num u) ++ " ") ++ outT o) ++ "\n"
theorem tl_body (u : Nat) (o : Option Nat) : tl (body u o) = numL u ++ ([32] ++ tl (outT o)) := by
  unfold body
  rw [join_eq, tl_join, tl_space]
  show tl (num u) ++ ([32] ++ tl (outT o)) = _
  rw [tl_numS]
theorem tl_line (u : Nat) (o : Option Nat) : tl (line u o) = tl (body u o) ++ [10] := by
  unfold line
  rw [tl_append, tl_append, tl_append, tl_append, tl_body, tl_numS, tl_space, tl_nl]
  show [] ++ numL u ++ [32] ++ tl (outT o) ++ [10] = _
  simp
theorem body_free (u : Nat) (o : Option Nat) : 10 ∉ tl (body u o) := by
  rw [tl_body]
  intro z
  rcases List.mem_append.mp z with z | z
  · exact numL_free (.inl (by omega)) z
  · rcases List.mem_append.mp z with z | z
    · have := List.mem_singleton.mp z
      omega
    · exact tl_outT_free (by omega) z
theorem body_split (u : Nat) (o : Option Nat) : Txt.split (body u o) " " = [num u, outT o] :=
  split_join tl_space (by decide +kernel) (by simp) fun p hp => by
    rcases List.mem_cons.mp hp with rfl | hp
    · rw [tl_numS]; exact numL_free (.inl (by omega))
    · rw [List.mem_singleton.mp hp]; exact tl_outT_free (by omega)
theorem body_len {u : Nat} {o : Option Nat} (hu : u < 10 ^ 6) (ho : ∀ i, o = some i → i < 10 ^ 6) : (body u o).length ≤ 13 := by
  rw [len_tl, tl_body, List.length_append, List.length_append]
  have a := numL_len (k := 6) (by decide) hu
  have b := outT_len ho
  rw [len_tl] at b
  simp only [List.length_singleton]
  omega
/-- the lines of a row at tick m -/
def lines (t : List Int) (m : Nat) : List Str := (List.range m).map fun u => line u (at_ t u)
def bodies (t : List Int) (m : Nat) : List Str := (List.range m).map fun u => body u (at_ t u)
theorem joinL_nil : ∀ l : List (List Nat), joinL [] l = l.flatten
  | [] => rfl
  | [p] => by simp [joinL]
  | p :: q :: r => by
    show p ++ ([] ++ joinL [] (q :: r)) = _
    rw [joinL_nil (q :: r)]
    simp
theorem joinL_end (S : List Nat) : ∀ l : List (List Nat), joinL S (l ++ [[]]) = (l.map (· ++ S)).flatten
  | [] => rfl
  | [p] => by
    show p ++ (S ++ []) = _
    simp
  | p :: q :: r => by
    show p ++ (S ++ joinL S ((q :: r) ++ [[]])) = _
    rw [joinL_end S (q :: r)]
    simp
def jtext (t : List Int) (m : Nat) : Str := Txt.join "" (lines t m)
theorem jtext_eq (t : List Int) (m : Nat) : jtext t m = Txt.join "\n" (bodies t m ++ [("" : Str)]) := by
  refine ext_tl ?_
  unfold jtext
  rw [join_eq, join_eq, tl_join, tl_join, tl_empty, tl_nl, List.map_append, joinL_nil]
  show _ = joinL [10] ((bodies t m).map tl ++ [tl ("" : Str)])
  rw [tl_empty, joinL_end]
  unfold lines bodies
  rw [List.map_map, List.map_map, List.map_map]
  congr 1
  refine List.map_congr_left fun u _ => ?_
  exact tl_line u _
theorem jtext_split (t : List Int) (m : Nat) : Txt.split (jtext t m) "\n" = bodies t m ++ [("" : Str)] := by
  rw [jtext_eq]
  refine split_join tl_nl (by decide +kernel) (by simp) fun p hp => ?_
  rcases List.mem_append.mp hp with hp | hp
  · obtain ⟨u, _, rfl⟩ := List.mem_map.mp hp
    exact body_free _ _
  · rw [List.mem_singleton.mp hp, tl_empty]
    simp
theorem lines_tl (t : List Int) (m : Nat) : tl (jtext t m) = ((lines t m).map tl).flatten := by
  unfold jtext
  rw [join_eq, tl_join, tl_empty, joinL_nil]
theorem at_lt {t : List Int} (T : IsTab t) {m u : Nat} (hu : u < m) (hm : m ≤ 1000) : ∀ i, at_ t u = some i → i < 10 ^ 6 := fun i e => by
  have := at_le T e
  omega
theorem line_len {t : List Int} (T : IsTab t) {m u : Nat} (hu : u < m) (hm : m ≤ 1000) : (line u (at_ t u)).length ≤ 14 := by
  have := body_len (u := u) (by omega) (at_lt T hu hm)
  rw [len_tl] at this ⊢
  rw [tl_line, List.length_append, List.length_singleton]
  omega
theorem sum_le (l : List Str) (k : Nat) (h : ∀ x ∈ l, x.length ≤ k) : (l.map (·.length)).sum ≤ l.length * k := by
  induction l with
  | nil => simp
  | cons a l ih =>
    have h1 := h a (List.mem_cons_self ..)
    have h2 := ih fun x hx => h x (List.mem_cons_of_mem _ hx)
    rw [List.map_cons, List.sum_cons, List.length_cons, Nat.succ_mul]
    omega
theorem lines_length (t : List Int) (m : Nat) : (lines t m).length = m := by simp [lines]
theorem lines_sum {t : List Int} (T : IsTab t) {m : Nat} (hm : m ≤ 1000) : ((lines t m).map (·.length)).sum ≤ 14000 := by
  have := sum_le (lines t m) 14 fun x hx => by
    obtain ⟨u, hu, rfl⟩ := List.mem_map.mp hx
    exact line_len T (List.mem_range.mp hu) hm
  rw [lines_length] at this
  omega
theorem jtext_len {t : List Int} (T : IsTab t) {m : Nat} (hm : m ≤ 1000) : (jtext t m).length ≤ 14000 := by
  have h := lines_sum T hm
  rw [len_tl, lines_tl, List.length_flatten, List.map_map]
  have e : (List.map (List.length ∘ tl) (lines t m)) = (lines t m).map (·.length) := List.map_congr_left fun x _ => (len_tl x).symm
  rw [e]
  exact h
theorem jtext_last (t : List Int) {m : Nat} (hm : 1 ≤ m) : atI (jtext t m).cps.toList (-1) = some 10 := by
  obtain ⟨k, rfl⟩ : ∃ k, m = k + 1 := ⟨m - 1, by omega⟩
  have e : (jtext t (k + 1)).cps.toList = ((lines t k).map tl).flatten ++ tl (body k (at_ t k)) ++ [10] := by
    show tl (jtext t (k + 1)) = _
    rw [lines_tl]
    unfold lines
    rw [List.range_succ, List.map_append, List.map_append, List.flatten_append]
    show _ ++ [tl (line k (at_ t k))].flatten = _
    rw [List.flatten_singleton, tl_line, List.append_assoc]
  rw [e]
  unfold atI ixN
  rw [if_neg (by omega), if_pos (by rw [List.length_append, List.length_singleton]; omega)]
  have e2 : ∀ L : List Nat, (-1 + ((L ++ [10]).length : Int)).toNat = L.length := fun L => by
    rw [List.length_append, List.length_singleton]
    omega
  show (_ ++ [10])[(-1 + ((_ ++ [10]).length : Int)).toNat]? = some 10
  rw [e2]
  simp
theorem jtext_ne (t : List Int) {m : Nat} (hm : 1 ≤ m) : jtext t m ≠ ("" : Str) := fun e => by
  have h := jtext_last t hm
  rw [e] at h
  revert h
  decide +kernel
end Ba
end
section
set_option Elab.async false
set_option maxRecDepth 100000
set_option maxHeartbeats 4000000
/-! The journal of a row: written, read. -/
namespace Ba
open PySem PySem.Spec PyProof.Rows L2
/-- an f-string's reading, by a name -/
def tJoined (ts : List TE) : TE := fun σ H Q => tJs ts Str.empty σ H fun out H1 => Q (.str out) H1
theorem pe_jn {X : Cx} {v1 v2 : Expr} {rest : List Expr} {ts : List TE} {pos : Pos} (h : PJ X (v1 :: v2 :: rest) ts) : PE X (.JoinedStr (v1 :: v2 :: rest) pos) (tJoined ts) := pe_joined h
theorem u65 {k : Nat} {A : Around} (r : Room k A) : A.units + 65 < cLine := by have := r.un; omega
def sp_number_in : Sp := fun vs H Q _ => ∃ n : Nat, vs = [.str (num n)] ∧ n < 10 ^ 6 ∧ ∀ H', Same H H' → Q (.int n) H'
def sp_pair_in : Sp := fun vs H Q _ => ∃ (u : Nat) (o : Option Nat), vs = [.str (body u o)] ∧ u < 10 ^ 6 ∧ (∀ i, o = some i → i < 10 ^ 6) ∧ ∀ p H', Same H H' → H p = none → H' p = some (.tup [.int u, ovN o]) → Q (.ref p) H'
def sp_journal_text (K : PySem.W.Frag) : Sp := fun vs H Q _ => ∃ (H0 : Hp) (p tab : Addr) (t : List Int) (m : Nat), vs = [.ref p] ∧ IsTab t ∧ m ≤ 1000 ∧ RowIn K H0 H p tab t m ∧ ∀ H', Same H H' → Q (.str (jtext t m)) H'
/-- the pairs that a journal told -/
def PairsAt (H : Hp) (p : Addr) (t : List Int) (m : Nat) : Prop := ∃ ps : List Addr, H p = some (.tup (ps.map V.ref)) ∧ ps.length = m ∧ ∀ u q, ps[u]? = some q → H q = some (.tup [.int (u : Nat), ovN (at_ t u)])
def sp_read_journal : Sp := fun vs H Q _ => ∃ (t : List Int) (m : Nat), vs = [.str (jtext t m)] ∧ IsTab t ∧ 1 ≤ m ∧ m ≤ 1000 ∧ ∀ p H', Same H H' → PairsAt H' p t m → Q (.ref p) H'
theorem sc_number_in : FnScope ["word", "digits", "sign"] ["word"] (defScope s_number_in) := ⟨rfl, rfl, rfl, by decide +kernel, rfl, by decide +kernel, by decide +kernel⟩
theorem sc_value_in : FnScope ["word", "number"] ["word"] (defScope s_value_in) := ⟨rfl, rfl, rfl, by decide +kernel, rfl, by decide +kernel, by decide +kernel⟩
theorem sc_journal_text : FnScope ["row", "stood", "outs", "out", "value"] ["row"] (defScope s_journal_text) := ⟨rfl, rfl, rfl, by decide +kernel, rfl, by decide +kernel, by decide +kernel⟩
theorem sc_pair_in : FnScope ["line", "words", "value", "out"] ["line"] (defScope s_pair_in) := ⟨rfl, rfl, rfl, by decide +kernel, rfl, by decide +kernel, by decide +kernel⟩
theorem sc_read_journal : FnScope ["text", "found", "line"] ["text"] (defScope s_read_journal) := ⟨rfl, rfl, rfl, by decide +kernel, rfl, by decide +kernel, by decide +kernel⟩
theorem len_app (x y : Str) : (x ++ y).length = x.length + y.length := by rw [TL.len_tl, TL.len_tl, TL.len_tl, TL.tl_append, List.length_append]
theorem pairs_all {K : PySem.W.Frag} {H : Hp} {t : List Int} : ∀ (ps : List Addr) (k : Nat), (∀ u q, ps[u]? = some q → H q = some (.tup [.int ((k + u : Nat) : Int), ovN (at_ t (k + u))])) →
    ∃ ds, DpAll K H (ps.map V.ref) ds ∧ PyData.canLayAll0 ds = true ∧ PyData.depthAll ds ≤ 1 ∧ (ds.any fun z => PyData.eqv z .none) = false
  | [], _, _ => ⟨[], .nil, rfl, Nat.zero_le _, rfl⟩
  | p :: ps, k, h => by
    obtain ⟨ds, D1, D2, D3, D4⟩ := pairs_all ps (k + 1) fun u q e => by
      have := h (u + 1) q e
      rw [show k + 1 + u = k + (u + 1) by omega]
      exact this
    have h0 := h 0 p rfl
    cases e : at_ t (k + 0) with
    | none =>
      rw [e] at h0
      exact ⟨.tuple [.int ((k + 0 : Nat) : Int), .none] :: ds, .cons (.tup (SqT.of h0) (.cons (.int _) (.cons .non .nil))) D1, by simp only [PyData.canLayAll0, PyData.canLay0, D2]; rfl, by
        show max (PyData.depth (.tuple [.int ((k + 0 : Nat) : Int), .none])) (PyData.depthAll ds) ≤ 1
        exact Nat.max_le.mpr ⟨by simp [PyData.depth, PyData.depthAll], D3⟩, by rw [List.any_cons, D4]; rfl⟩
    | some i =>
      rw [e] at h0
      exact ⟨.tuple [.int ((k + 0 : Nat) : Int), .int (i : Int)] :: ds, .cons (.tup (SqT.of h0) (.cons (.int _) (.cons (.int _) .nil))) D1, by simp only [PyData.canLayAll0, PyData.canLay0, D2]; rfl, by
        show max (PyData.depth (.tuple [.int ((k + 0 : Nat) : Int), .int (i : Int)])) (PyData.depthAll ds) ≤ 1
        exact Nat.max_le.mpr ⟨by simp [PyData.depth, PyData.depthAll], D3⟩, by rw [List.any_cons, D4]; rfl⟩
theorem pairs_data {K : PySem.W.Frag} {H : Hp} {t : List Int} (ps : List Addr) (k : Nat) (h : ∀ u q, ps[u]? = some q → H q = some (.tup [.int ((k + u : Nat) : Int), ovN (at_ t (k + u))])) :
    ∃ ds, DpAll K H (ps.map V.ref) ds ∧ SeqAt.shaped (.list ds) = true ∧ (ds.any fun z => PyData.eqv z .none) = false := by
  obtain ⟨ds, D1, D2, D3, D4⟩ := pairs_all ps k h
  refine ⟨ds, D1, ?_, D4⟩
  unfold SeqAt.shaped
  simp only [PyData.canLay0, D2, PyData.depth, Bool.and_eq_true, true_and]
  exact decide_eq_true (by omega)
theorem num_line {n : Nat} (h : n < 10 ^ 6) : (num n).length ≤ sizeLine := Nat.le_trans (num_len h) (by decide)
theorem iteNT {c A B : Prop} [Decidable c] (hc : c) (h : B) : if (!decide c) = true then A else B := by
  rw [decide_eq_true hc]
  exact iteF h
section
variable {P : Program} {w : World} {K : PySem.W.Frag} {mg : Str → Option Value} {base : Heap}
theorem cal_number_in (T : Txt K mg) : Cal P w K mg base 1 "number_in" sp_number_in := by
  refine T.d_number_in.cal sc_number_in (fun vs H Q E h => ?_) (fun _ _ _ _ _ _ us hl => match us, hl with | [_], _ => rfl) (fun f cdv A outer s H vs Q E hr h => ?_)
  · obtain ⟨n, rfl, _⟩ := h; rfl
  · obtain ⟨n, rfl, hn, k⟩ := h
    refine ⟨_, (pss_cons (ps_set (i := 1) sc_number_in.nd rfl (Or.inl rfl) (pe_ifExp (pt_cmpR op_eq (pe_slice sl_str (pv 0) po_none (po_some pe_int)) pe_str (nomark _)) (pe_slice sl_str (pv 0) (po_some pe_int) po_none) (pv 0)))
      (pss_cons (ps_if (PW.pt (pw_or (pt_cmpR op_eq (pv 1) pe_str (nomark _)) (pw_or (pt_not (pt_val (pe_callB (cr_all rfl) rfl T.b_all (by decide +kernel) (pa_cons (pe_lc (own := [("sign", 2)]) (g := gName 2) (tt := tYes) rfl sc_number_in.nd (pi_str (pv 1)) (blkOk_by (own := [("sign", 2)]) (N := ["word", "digits", "sign"]) (sc := defScope s_number_in) (by decide +kernel)) (fun _ _ _ _ _ => (pg_name (i := 2) sc_number_in.nd rfl (Or.inl rfl))) (fun _ _ _ _ _ => pts_nil) (fun _ _ _ _ _ => (pe_cmpR op_in_sign (pv 2) (pe_gS rfl T.DIGITS) rfl))) pa_nil)))) (pw_or1 (PW.pt (pw_and (pt_cmpR op_eq (pe_ix ix_str (pv 1) pe_int (fun _ _ => rfl)) pe_str (nomark _)) (pw_and1 (pt_cmpR op_ne (pv 0) pe_str (nomark _))))))))) (pss_one (ps_ret pe_non)) pss_nil)
      (pss_one (ps_ret (pe_callTy call_int_str rfl T.b_int (by decide +kernel) (pa_cons (pv 0) pa_nil)))))), ?_⟩
    refine ⟨_, rfl, _, rfl, _, rfl, num_line hn, rfl, _, rfl, iteDF (fun e => num_cut n (V.str.inj e)) ⟨_, rfl, ?_⟩⟩
    refine ⟨_, rfl, rfl, _, rfl, iteDF (fun e => num_ne_empty n (V.str.inj e)) ⟨_, rfl, _, rfl, fun D hD => lc_it walk_str (fun i H' => Same H H' ∧ H' D = some (.lst ((List.replicate i true).map V.bl))) ⟨Same.new hD, upd_same⟩ (fun _ _ _ _ => trivial) ?_ ?_⟩⟩
    · rintro i x H1 H2 hi ⟨s1, hL⟩ ⟨rfl, c, hc, rfl⟩
      have hlen : (num n).cps.size ≤ 6 := num_len hn
      refine ⟨rfl, tYes_mk (iteT ⟨_, rfl, _, _, rfl, rfl, ?_⟩)⟩
      rw [num_sign hc]
      refine ⟨_, hL, ?_, s1.mut hD, ?_⟩
      · rw [List.length_map, List.length_replicate]
        exact line_lt (by omega)
      · rw [upd_same, rep_snoc]
    · rintro H1 ⟨s1, hL⟩
      refine ⟨D, _, rfl, SqL.of hL, _, rfl, ?_⟩
      rw [all_rep]
      obtain ⟨c, hc, hc0⟩ := num_at0 n
      refine iteF ⟨_, rfl, _, _, _, rfl, rfl, num_line hn, hc, rfl, _, rfl, ?_⟩
      have fin : ∃ a m, [V.str (num n)] = [V.str a] ∧ intText? a = some m ∧ a.length ≤ 640 ∧ Q (V.int m) H1 := ⟨_, _, rfl, num_int hn, Nat.le_trans (num_len hn) (by decide), k _ s1⟩
      by_cases h0 : (⟨#[c]⟩ : Str) = ("0" : Str)
      · exact iteD (congrArg V.str h0) ⟨_, rfl, rfl, _, rfl, iteNT (congrArg V.str (hc0 h0)) ⟨_, rfl, fin⟩⟩
      · exact iteDF (fun e => h0 (V.str.inj e)) (iteF ⟨_, rfl, fin⟩)
theorem cal_value_in (T : Txt K mg) : Cal P w K mg base 2 "value_in" sp_number_in := by
  have G_number_in := cal_number_in (P := P) (w := w) (base := base) T
  refine T.d_value_in.cal sc_value_in (fun vs H Q E h => ?_) (fun _ _ _ _ _ _ us hl => match us, hl with | [_], _ => rfl) (fun f cdv A outer s H vs Q E hr h => ?_)
  · obtain ⟨n, rfl, _⟩ := h; rfl
  · obtain ⟨n, rfl, hn, k⟩ := h
    refine ⟨_, (pss_cons (ps_set (i := 1) sc_value_in.nd rfl (Or.inl rfl) (pe_cal G_number_in (hr.mono (by decide)) rfl (pa_cons (pv 0) pa_nil)))
      (pss_cons (ps_if (pt_cmpR op_notN (pv 1) pe_non (nomark _)) (pss_one (ps_ret (pv 1))) pss_nil)
      (pss_one ps_never))), ?_⟩
    exact ⟨_, rfl, n, rfl, hn, fun H1 s1 => ⟨_, rfl, rfl, _, rfl, iteNF (fun z => nomatch z) ⟨_, rfl, k _ s1⟩⟩⟩
theorem cal_pair_in (T : Txt K mg) : Cal P w K mg base 3 "pair_in" sp_pair_in := by
  have G_value_in := cal_value_in (P := P) (w := w) (base := base) T
  refine T.d_pair_in.cal sc_pair_in (fun vs H Q E h => ?_) (fun _ _ _ _ _ _ us hl => match us, hl with | [_], _ => rfl) (fun f cdv A outer s H vs Q E hr h => ?_)
  · obtain ⟨u, o, rfl, _⟩ := h; rfl
  · obtain ⟨u, o, rfl, hu, ho, k⟩ := h
    refine ⟨_, (pss_cons (ps_set (i := 1) sc_pair_in.nd rfl (Or.inl rfl) (pe_split (pv 0) pe_str))
      (pss_cons (ps_if (pt_cmpR op_ne (pe_callB call_len_seq rfl T.b_len (by decide +kernel) (pa_cons (pv 1) pa_nil)) pe_int (nomark _)) (pss_one (ps_ret pe_non)) pss_nil)
      (pss_cons (ps_par (i := 2) (j := 3) rfl sc_pair_in.nd rfl rfl (by decide) rfl rfl (pa_cons (pe_cal G_value_in (hr.mono (by decide)) rfl (pa_cons (pe_ix ix_list (pv 1) pe_int (fun _ _ => rfl)) pa_nil)) (pa_cons (pe_ifExp (pt_cmpR op_eq (pe_ix ix_list (pv 1) pe_int (fun _ _ => rfl)) pe_str (nomark _)) pe_non (pe_cal G_value_in (hr.mono (by decide)) rfl (pa_cons (pe_ix ix_list (pv 1) pe_int (fun _ _ => rfl)) pa_nil))) pa_nil)) rfl)
      (pss_cons (ps_if (PW.pt (pw_or (pt_cmpR op_isN (pv 2) pe_non (nomark _)) (pw_or1 (PW.pt (pw_and (pt_cmpR op_isN (pv 3) pe_non (nomark _)) (pw_and1 (pt_cmpR op_ne (pe_ix ix_list (pv 1) pe_int (fun _ _ => rfl)) pe_str (nomark _)))))))) (pss_one (ps_ret pe_non)) pss_nil)
      (pss_one (ps_ret (pe_tup (pa_cons (pv 2) (pa_cons (pv 3) pa_nil))))))))), ?_⟩
    refine ⟨_, rfl, ⟨_, rfl⟩, _, _, rfl, rfl, rfl, line_of (by have := body_len hu ho; omega), fun D hD => ?_⟩
    rw [body_split]
    have s1 : Same H (upd H D (.lst ([num u, outT o].map V.str))) := Same.new hD
    have l1 : upd H D (.lst ([num u, outT o].map V.str)) D = some (.lst [V.str (num u), V.str (outT o)]) := upd_same
    generalize upd H D (.lst ([num u, outT o].map V.str)) = H1 at s1 l1 ⊢
    refine ⟨_, rfl, D, _, rfl, .inl (SqL.of l1), rfl, _, rfl, iteNT rfl ?_⟩
    refine ⟨_, rfl, D, _, _, _, rfl, rfl, SqL.of l1, atI_of (j := 0) rfl rfl, u, rfl, hu, fun H2 s2 => ?_⟩
    have l2 := s2 _ _ l1
    refine ⟨_, rfl, D, _, _, _, rfl, rfl, SqL.of l2, atI_of (j := 1) rfl rfl, rfl, _, rfl, ?_⟩
    have s02 := s1.trans s2
    cases o with
    | none =>
      exact iteD rfl ⟨_, _, rfl, _, rfl, rfl, _, rfl, iteDF (fun z => nomatch z) ⟨_, rfl, rfl, _, rfl, iteD rfl ⟨_, rfl, D, _, _, _, rfl, rfl, SqL.of l2, atI_of (j := 1) rfl rfl, rfl, _, rfl, iteNT rfl ⟨_, rfl, _, rfl, by show 2 ≤ sizeLine; decide,
        fun p hp => k p _ (s02.trans (Same.new hp)) (s02.free hp) upd_same⟩⟩⟩⟩
    | some i =>
      refine iteDF (fun e => num_ne_dash i (V.str.inj e)) ⟨_, rfl, D, _, _, _, rfl, rfl, SqL.of l2, atI_of (j := 1) rfl rfl, i, rfl, ho i rfl, fun H3 s3 => ?_⟩
      have s03 := s02.trans s3
      exact ⟨_, _, rfl, _, rfl, rfl, _, rfl, iteDF (fun z => nomatch z) ⟨_, rfl, rfl, _, rfl, iteDF (fun z => nomatch z) (iteF ⟨_, rfl, _, rfl, by show 2 ≤ sizeLine; decide,
        fun p hp => k p _ (s03.trans (Same.new hp)) (s03.free hp) upd_same⟩)⟩⟩
theorem cal_journal_text (T : Txt K mg) : Cal P w K mg base 1 "journal_text" (sp_journal_text K) := by
  refine T.d_journal_text.cal sc_journal_text (fun vs H Q E h => ?_) (fun _ _ _ _ _ _ us hl => match us, hl with | [_], _ => rfl) (fun f cdv A outer s H vs Q E hr h => ?_)
  · obtain ⟨H0, p, tab, t, m, rfl, _⟩ := h; rfl
  · obtain ⟨H0, p, tab, t, m, rfl, tt, hm, ⟨s0, np, dxr, ls, st, q, dx, e, li, lo, d, c, g, dl, kvs, nls, hp, hls, hst, S, _⟩, k⟩ := h
    refine ⟨_, (pss_cons (ps_if (pt_not (pt_val (pe_callB (C8.call_isC T.isRow) rfl T.b_isinstance (by decide +kernel) (pa_cons (pv 0) (pa_cons (pe_glob (v := .ref (CR K)) rfl T.gRow rfl) pa_nil))))) (pss_one ps_never) pss_nil)
      (pss_cons (ps_set (i := 1) sc_journal_text.nd rfl (Or.inl rfl) (pe_ix ix_list (pe_fld (pv 0) rfl) (pe_un un_neg pe_int) (fun _ _ => rfl)))
      (pss_cons (ps_setLc (i := 2) (own := [("out", 3)]) (g := gName 3) (tt := tYes) rfl sc_journal_text.nd rfl rfl (sw_true rfl rfl rfl (by decide +kernel)) (pi_list (pe_fld (pv 1) rfl)) (blkOk_by (own := [("out", 3)]) (N := ["row", "stood", "outs", "out", "value"]) (sc := defScope s_journal_text) (by decide +kernel)) (fun _ _ _ _ _ => (pg_name (i := 3) sc_journal_text.nd rfl (Or.inl rfl))) (fun _ _ _ _ _ => pts_nil) (fun _ _ _ _ _ => (pe_ifExp (pt_cmpR op_isN (pv 3) pe_non (nomark _)) pe_str (pe_callTy call_str_int rfl T.b_str (by decide +kernel) (pa_cons (pv 3) pa_nil)))))
      (pss_one (ps_ret (pe_join pe_str (pe_lc (own := [("value", 4), ("out", 3)]) (g := gTup K 2 (gCons (gName 4) (gCons (gName 3) gNil))) (tt := tYes) rfl sc_journal_text.nd (pi_zip rfl T.b_zip (pa_cons (pe_fld (pv 1) rfl) (pa_cons (pv 2) pa_nil))) (blkOk_by (own := [("value", 4), ("out", 3)]) (N := ["row", "stood", "outs", "out", "value"]) (sc := defScope s_journal_text) (by decide +kernel)) (fun _ _ _ _ _ => (pg_tup rfl (pgs_cons (pg_name (i := 4) sc_journal_text.nd rfl (Or.inl rfl)) (pgs_cons (pg_name (i := 3) sc_journal_text.nd rfl (Or.inl rfl)) pgs_nil)))) (fun _ _ _ _ _ => pts_nil) (fun _ _ _ _ _ => (pe_jn (.cons (pe_fmt (pv 4)) (.cons pe_str (.cons (pe_fmt (pv 3)) (.cons pe_str .nil))))))))))))), ?_⟩
    refine ⟨_, rfl, _, _, _, rfl, hp, _, rfl, iteF ?_⟩
    refine ⟨_, rfl, p, _, dxr, _, _, rfl, hp, T.clR, T.n_stands, rf_stands, _, rfl, ls, _, _, _, rfl, rfl, SqL.of hls, last_get st _, ?_⟩
    have hz : ∀ i, i < m → ∃ o, at_ t i = o ∧ (∀ j, o = some j → j < 10 ^ 6) := fun i hi => ⟨_, rfl, at_lt tt hi hm⟩
    refine ⟨_, rfl, q, _, dx, _, _, rfl, S.ob, T.clS, T.n_outs, sf_outs, lo, rfl, ⟨_, SqL.of S.ho⟩, fun D hD => lc_it (walk_list (K := K) (a := lo) (xs := outsL t m)) (fun i H' => Same H H' ∧ H' D = some (.lst (((List.range i).map fun u => outT (at_ t u)).map V.str)))
      ⟨Same.new hD, upd_same⟩ (fun i H' _ p => SqL.of (p.1 _ _ S.ho)) ?_ ?_⟩
    · rintro i x H1 H2 hi ⟨s1, hL⟩ ⟨rfl, ex⟩
      rw [outsL_len] at hi
      have ex2 : x = ovN (at_ t i) := by
        unfold outsL at ex
        rw [List.getElem?_map, List.getElem?_range hi] at ex
        exact (Option.some.inj ex).symm
      subst ex2
      have lt := at_lt tt hi hm
      have fin : ∀ o, o = at_ t i → ∃ acc, H2 D = some (.lst acc) ∧ acc.length < sizeLine ∧ Same H (upd H2 D (.lst (acc ++ [V.str (outT o)]))) ∧ upd H2 D (.lst (acc ++ [V.str (outT o)])) D = some (.lst (((List.range (i + 1)).map fun u => outT (at_ t u)).map V.str)) := fun o eo => by
        refine ⟨_, hL, ?_, s1.mut hD, ?_⟩
        · rw [List.length_map, List.length_map, List.length_range]
          exact line_lt (by omega)
        · rw [upd_same, List.range_succ, List.map_append, List.map_append, eo]
          rfl
      cases e : at_ t i with
      | none =>
        rw [e] at fin
        exact ⟨rfl, tYes_mk (iteT ⟨_, rfl, rfl, _, rfl, iteD rfl (fin none rfl)⟩)⟩
      | some j =>
        rw [e] at fin
        exact ⟨rfl, tYes_mk (iteT ⟨_, rfl, rfl, _, rfl, iteDF (fun z => nomatch z) ⟨_, rfl, _, rfl, num_log (lt j e), fin (some j) rfl⟩⟩)⟩
    · rintro H1 ⟨s1, hD1⟩
      rw [outsL_len] at hD1
      have S1 := S.same s1
      refine ⟨⟨_, rfl⟩, _, rfl, q, _, dx, _, _, rfl, S1.ob, T.clS, T.n_ins, sf_ins, _, rfl, li, D, _, _, rfl, SqL.of S1.hi, SqL.of hD1, fun D2 hD2 => lc_it (walk_zip (K := K) (a := li) (b := D) (xs := insL m) (ys := ((List.range m).map fun u => outT (at_ t u)).map V.str) (n := m) (by rw [insL_len]; simp))
        (fun i H' => Same H1 H' ∧ H' D2 = some (.lst ((lines t i).map V.str))) ⟨Same.new hD2, upd_same⟩ (fun i H' _ p => ⟨SqL.of (p.1 _ _ S1.hi), SqL.of (p.1 _ _ hD1)⟩) ?_ ?_⟩
      · rintro i x H2 H3 hi ⟨s2, hL⟩ ⟨T1, x1, y1, rfl, hT1, rfl, ex, ey⟩
        have ex2 : x1 = V.int (i : Int) := by
          have ex : (insL m)[i]? = some x1 := ex
          unfold insL at ex
          rw [List.getElem?_map, List.getElem?_range hi] at ex
          exact (Option.some.inj ex).symm
        have ey2 : y1 = V.str (outT (at_ t i)) := by
          have ey : (List.map V.str (List.map (fun u => outT (at_ t u)) (List.range m)))[i]? = some y1 := ey
          rw [List.getElem?_map, List.getElem?_map, List.getElem?_range hi] at ey
          exact (Option.some.inj ey).symm
        subst ex2 ey2
        have lt := at_lt tt hi hm
        have li6 : i < 10 ^ 6 := by omega
        have ll := line_len tt hi hm
        have q1 : (line i (at_ t i)).length = (((Str.empty ++ num i) ++ " ") ++ outT (at_ t i)).length + ("\n" : Str).length := len_app _ _
        have q2 : (((Str.empty ++ num i) ++ " ") ++ outT (at_ t i)).length = ((Str.empty ++ num i) ++ " ").length + (outT (at_ t i)).length := len_app _ _
        have q3 : ((Str.empty ++ num i) ++ " ").length = (Str.empty ++ num i).length + (" " : Str).length := len_app _ _
        have w1 : (Str.empty ++ num i).length ≤ sizeLine := line_of (by omega)
        have w2 : ((Str.empty ++ num i) ++ " ").length ≤ sizeLine := line_of (by omega)
        have w3 : (((Str.empty ++ num i) ++ " ") ++ outT (at_ t i)).length ≤ sizeLine := line_of (by omega)
        have w4 : (line i (at_ t i)).length ≤ sizeLine := line_of (by omega)
        refine ⟨T1, _, rfl, SqT.of upd_same, rfl, _, _, rfl, _, _, rfl, rfl, rfl, tYes_mk (iteT ⟨_, rfl, .inr ⟨_, rfl, num_log li6, _, rfl, w1, _, rfl, w2, _, rfl, .inl ⟨_, rfl, line_of (by omega), _, rfl, w3, _, rfl, w4, ?_⟩⟩⟩)⟩
        refine ⟨_, (Same.new hT1) _ _ hL, ?_, (s2.trans (Same.new hT1)).mut hD2, ?_⟩
        · rw [List.length_map, lines_length]
          exact line_lt (by omega)
        · rw [upd_same]
          unfold lines
          rw [List.range_succ, List.map_append, List.map_append]
          rfl
      · rintro H2 ⟨s2, hL⟩
        refine ⟨_, D2, lines t m, rfl, rfl, .inl (SqL.of hL), ?_, k _ (s1.trans s2)⟩
        have := lines_sum tt hm
        rw [show ("" : Str).length = 0 from by decide +kernel]
        omega
theorem cal_read_journal (T : Txt K mg) : Cal P w K mg base 4 "read_journal" sp_read_journal := by
  have G_pair_in := cal_pair_in (P := P) (w := w) (base := base) T
  refine T.d_read_journal.cal sc_read_journal (fun vs H Q E h => ?_) (fun _ _ _ _ _ _ us hl => match us, hl with | [_], _ => rfl) (fun f cdv A outer s H vs Q E hr h => ?_)
  · obtain ⟨t, m, rfl, _⟩ := h; rfl
  · obtain ⟨t, m, rfl, tt, h1, hm, k⟩ := h
    have jl := jtext_len tt hm
    refine ⟨_, (pss_cons (ps_if (PW.pt (pw_or (pt_not (pt_val (pe_callB call_isi rfl T.b_isinstance (by decide +kernel) (pa_cons (pv 0) (pa_cons (pe_bltn (v := .ty "str") (u := .type "str") rfl T.b_str (by decide +kernel) rfl) pa_nil))))) (pw_or1 (PW.pt (pw_and (pt_cmpR op_ne (pv 0) pe_str (nomark _)) (pw_and1 (pt_cmpR op_ne (pe_ix ix_str (pv 0) (pe_un un_neg pe_int) (fun _ _ => rfl)) pe_str (nomark _)))))))) (pss_one ps_never) pss_nil)
      (pss_cons (ps_setLc (i := 1) (own := [("line", 2)]) (g := gName 2) (tt := tYes) rfl sc_read_journal.nd rfl rfl (sw_true rfl rfl rfl (by decide +kernel)) (pi_list (pe_slice sl_list (pe_split (pv 0) pe_str) po_none (po_some (pe_un un_neg pe_int)))) (blkOk_by (own := [("line", 2)]) (N := ["text", "found", "line"]) (sc := defScope s_read_journal) (by decide +kernel)) (fun _ _ _ _ _ => (pg_name (i := 2) sc_read_journal.nd rfl (Or.inl rfl))) (fun _ _ _ _ _ => pts_nil) (fun _ _ _ _ _ => (pe_cal G_pair_in (hr.mono (by decide)) rfl (pa_cons (pv 2) pa_nil))))
      (pss_cons (ps_if (pt_cmpR (op_inD (u65 hr)) pe_non (pv 1) rfl) (pss_one ps_never) pss_nil)
      (pss_one (ps_ret (pe_callTy call_tuple_of rfl T.b_tuple (by decide +kernel) (pa_cons (pv 1) pa_nil))))))), ?_⟩
    refine ⟨_, rfl, _, _, _, _, true, rfl, .ty "str", .base (.str _), kit_ty rfl, _, rfl, iteF ?_⟩
    refine ⟨_, rfl, rfl, _, rfl, iteNF (fun e => jtext_ne t h1 (V.str.inj e)) ⟨_, rfl, _, rfl, _, _, _, rfl, rfl, line_of (by omega), jtext_last t h1, rfl, _, rfl, iteNT (congrArg V.str (by decide +kernel)) ?_⟩⟩
    refine ⟨_, rfl, ⟨_, rfl⟩, _, _, rfl, rfl, rfl, line_of (by omega), fun D0 hD0 => ?_⟩
    rw [jtext_split]
    have s1 : Same H (upd H D0 (.lst ((bodies t m ++ [("" : Str)]).map V.str))) := Same.new hD0
    have l1 : upd H D0 (.lst ((bodies t m ++ [("" : Str)]).map V.str)) D0 = some (.lst ((bodies t m ++ [("" : Str)]).map V.str)) := upd_same
    generalize upd H D0 (.lst ((bodies t m ++ [("" : Str)]).map V.str)) = H1 at s1 l1 ⊢
    refine ⟨_, rfl, _, rfl, D0, _, rfl, SqL.of l1, fun D1 hD1 => ?_⟩
    have ec : cutV ((bodies t m ++ [("" : Str)]).map V.str) none (some (-1)) = (bodies t m).map V.str := by
      have e1 : ((bodies t m ++ [("" : Str)]).map V.str).length = m + 1 := by simp [bodies]
      unfold cutV
      rw [e1, HT.sIx_none, List.drop_zero, Nat.sub_zero]
      have e2 : HT.sIx (m + 1) (m + 1) (some (-1)) = m := by
        show (if (-1 : Int) < 0 then ((-1 : Int) + ((m + 1 : Nat) : Int)).toNat else min (-1 : Int).toNat (m + 1)) = m
        rw [if_pos (by omega)]
        omega
      rw [e2, List.map_append]
      exact List.take_left' (by simp [bodies])
    rw [ec]
    have s2 : Same H (upd H1 D1 (.lst ((bodies t m).map V.str))) := s1.trans (Same.new hD1)
    have l2 : upd H1 D1 (.lst ((bodies t m).map V.str)) D1 = some (.lst ((bodies t m).map V.str)) := upd_same
    generalize upd H1 D1 (.lst ((bodies t m).map V.str)) = H2 at s2 l2 ⊢
    have bl : ((bodies t m).map V.str).length = m := by simp [bodies]
    refine ⟨D1, rfl, ⟨_, SqL.of l2⟩, fun D hD => lc_it (walk_list (K := K) (a := D1) (xs := (bodies t m).map V.str)) (fun i H' => Same H2 H' ∧ ∃ ps : List Addr, H' D = some (.lst (ps.map V.ref)) ∧ ps.length = i ∧ ∀ u q, ps[u]? = some q → H' q = some (.tup [.int (u : Nat), ovN (at_ t u)]))
      ⟨Same.new hD, [], upd_same, rfl, fun u q e => by cases e⟩ (fun i H' _ p => SqL.of (p.1 _ _ l2)) ?_ ?_⟩
    · rintro i x H3 H4 hi ⟨s3, ps, hL, hlen, hps⟩ ⟨rfl, ex⟩
      rw [bl] at hi
      have ex2 : x = V.str (body i (at_ t i)) := by
        unfold bodies at ex
        rw [List.getElem?_map, List.getElem?_map, List.getElem?_range hi] at ex
        exact (Option.some.inj ex).symm
      subst ex2
      refine ⟨rfl, tYes_mk (iteT ⟨_, rfl, i, at_ t i, rfl, by omega, at_lt tt hi hm, fun p H5 s5 hp hp5 => ?_⟩)⟩
      have hL5 := s5 _ _ hL
      refine ⟨_, hL5, ?_, (s3.trans s5).mut hD, ps ++ [p], ?_, ?_, fun u q e => ?_⟩
      · rw [List.length_map]
        exact line_lt (by omega)
      · rw [upd_same, List.map_append]
        rfl
      · rw [List.length_append, hlen]
        rfl
      · have nq : ∀ (q : Addr) (o : HO), H5 q = some o → (∀ l, o ≠ .lst l) → upd H5 D (.lst (ps.map V.ref ++ [V.ref p])) q = some o := fun q o h no => by
          rw [upd_ne (ne_of h hL5 (no _))]
          exact h
        by_cases hu : u < ps.length
        · rw [List.getElem?_append_left hu] at e
          exact nq _ _ (s5 _ _ (hps u q e)) (fun l z => nomatch z)
        · rw [List.getElem?_append_right (by omega)] at e
          have eu : u = i := by
            have := List.getElem?_eq_some_iff.mp e
            obtain ⟨h, _⟩ := this
            simp at h
            omega
          subst eu
          rw [hlen, Nat.sub_self] at e
          have : p = q := Option.some.inj e
          subst this
          exact nq _ _ hp5 (fun l z => nomatch z)
    · rintro H3 ⟨s3, ps, hL, hlen, hps⟩
      rw [bl] at hlen
      obtain ⟨ds, D1, D2, D3⟩ := pairs_data (K := K) ps 0 fun u q e => by rw [Nat.zero_add]; exact hps u q e
      refine ⟨_, rfl, _, ds, .non, .lst (SqL.of hL) D1, rfl, D2, _, rfl, ?_⟩
      rw [D3]
      exact iteF ⟨_, rfl, D, _, rfl, .inl ⟨SqL.of hL, fun p hp => k p _ ((s2.trans s3).trans (Same.new hp)) ⟨ps, upd_same, hlen, fun u q e => (Same.new hp) _ _ (hps u q e)⟩⟩⟩
end
end Ba
end
section
set_option Elab.async false
set_option maxRecDepth 100000
set_option maxHeartbeats 4000000
/-! The law's own: cells, the pen, what it draws, the table it makes. -/
namespace Ba
open PySem PySem.Spec PyProof.Rows L2
/-- the pen: three ints, the second of them small -/
def PenAt (H : Hp) (a : Addr) : Prop := ∃ x y z : Int, H a = some (.lst [.int x, .int y, .int z]) ∧ 0 ≤ y ∧ y < 2147483647
theorem PenAt.to {H H' : Hp} {a : Addr} (P : PenAt H a) (s : Same H H') : PenAt H' a := let ⟨x, y, z, h, r⟩ := P; ⟨x, y, z, s _ _ h, r⟩
theorem But.mut {q p : Addr} {H H' : Hp} {o : HO} (h : But q H H') (n : H p = none) : But q H (L2.upd H' p o) := fun x u e z => by
  rw [upd_ne (ne_of_none e n)]
  exact h x u e z
theorem But.of {q : Addr} {H H' : Hp} (s : Same H H') : But q H H' := fun b o h _ => s b o h
theorem But.new' {q p : Addr} {H H' : Hp} {o : HO} (h : But q H H') (n : H' p = none) : But q H (L2.upd H' p o) := h.trans (But.of (Same.new n))
theorem But.free {q p : Addr} {H H' : Hp} (h : But q H H') (P : PenAt H q) (n : H' p = none) (nq : PenAt H' q := by assumption) : H p = none := by
  cases e : H p with
  | none => rfl
  | some o =>
    by_cases z : p = q
    · subst z
      obtain ⟨_, _, _, e2, _⟩ := nq
      rw [n] at e2
      cases e2
    · rw [h _ _ e z] at n
      cases n
def sp_law_cell (K : PySem.W.Frag) : Sp := fun vs H Q _ => ∃ (a : Addr) (ns : List Int) (k : Nat), vs = [.ref a, .int k] ∧ SqL K H a (ns.map V.int) ∧ ∀ c, Q (.int c) H
def sp_law_pen : Sp := fun vs H Q _ => ∃ c : Int, vs = [.int c] ∧ ∀ a H', Same H H' → H a = none → PenAt H' a → Q (.ref a) H'
def sp_law_draw : Sp := fun vs H Q _ => ∃ (a : Addr) (n : Int), vs = [.ref a, .int n] ∧ PenAt H a ∧ 0 < n ∧ n ≤ 1000 ∧ ∀ r H', 0 ≤ r → r < n → But a H H' → PenAt H' a → Q (.int r) H'
def sp_law_table : Sp := fun vs H Q _ => ∃ (a : Addr) (n : Int), vs = [.ref a, .int n, .int 1] ∧ PenAt H a ∧ 0 < n ∧ n ≤ 12 ∧ ∀ p t H', But a H H' → PenAt H' a → TabAt H' p t → IsTab t → t.length ≤ 12 → Q (.ref p) H'
theorem sc_law_cell : FnScope ["_law_script", "_law_k"] ["_law_script", "_law_k"] (defScope s_law_cell) := ⟨rfl, rfl, rfl, by decide +kernel, rfl, by decide +kernel, by decide +kernel⟩
theorem sc_law_pen : FnScope ["_law_cell_here"] ["_law_cell_here"] (defScope s_law_pen) := ⟨rfl, rfl, rfl, by decide +kernel, rfl, by decide +kernel, by decide +kernel⟩
theorem sc_law_draw : FnScope ["_law_pen_here", "_law_upto", "_law_found", "_law_stirred"] ["_law_pen_here", "_law_upto"] (defScope s_law_draw) := ⟨rfl, rfl, rfl, by decide +kernel, rfl, by decide +kernel, by decide +kernel⟩
theorem sc_law_table : FnScope ["_law_pen_here", "_law_most", "_law_times", "_law_length", "_law_holds", "_law_left", "_law_place", "_law_hold", "_law_more"] ["_law_pen_here", "_law_most", "_law_times"] (defScope s_law_table) := ⟨rfl, rfl, rfl, by decide +kernel, rfl, by decide +kernel, by decide +kernel⟩
/-! ### a table, made place by place -/
def csOf (len : Nat) (hs : List Int) : List Int := (List.range hs.length).map fun (j : Nat) => ((j : Int) + hs.getD j 0) % (len : Int)
theorem csOf_snoc (len : Nat) (hs : List Int) (h : Int) : csOf len (hs ++ [h]) = csOf len hs ++ [((hs.length : Int) + h) % (len : Int)] := by
  unfold csOf
  rw [List.length_append, List.length_singleton, List.range_succ, List.map_append]
  congr 1
  · refine List.map_congr_left fun j hj => ?_
    have := List.mem_range.mp hj
    rw [List.getD_eq_getElem?_getD, List.getElem?_append_left this, ← List.getD_eq_getElem?_getD]
  · show [((hs.length : Int) + (hs ++ [h]).getD hs.length 0) % (len : Int)] = _
    rw [List.getD_eq_getElem?_getD, List.getElem?_append_right (Nat.le_refl _), Nat.sub_self]
    rfl
theorem erase_ints (l : List Int) : ∀ j : Nat, (l.map V.int).eraseIdx j = (l.eraseIdx j).map V.int := by
  induction l with
  | nil => intro j; rfl
  | cons a l ih => exact fun j => match j with
    | 0 => rfl
    | j + 1 => congrArg (V.int a :: ·) (ih j)
structure Mak (len i : Nat) (hs ls : List Int) : Prop where
  hl : hs.length = i
  ll : ls.length + i = len
  rl : ∀ x ∈ ls, 0 ≤ x ∧ x < (len : Int)
  rh : ∀ h ∈ hs, 0 ≤ h ∧ h ≤ 60
  nd : (csOf len hs ++ ls).Nodup
theorem Mak.init (len : Nat) : Mak len 0 [] ((List.range len).map fun (i : Nat) => (i : Int)) where
  hl := rfl
  ll := by simp
  rl := fun x hx => by
    obtain ⟨i, hi, rfl⟩ := List.mem_map.mp hx
    have := List.mem_range.mp hi
    omega
  rh := fun h hh => by cases hh
  nd := by
    show ((List.range len).map fun (i : Nat) => (i : Int)).Nodup
    unfold List.Nodup
    rw [List.pairwise_map]
    refine List.Pairwise.imp (fun {a b} hne => ?_) (List.nodup_range (n := len))
    intro e
    exact hne (by omega)
theorem Mak.step {len i k : Nat} {hs ls : List Int} {c h : Int} (M : Mak len i hs ls) (hk : ls[k]? = some c) (h0 : 0 ≤ h) (h1 : h ≤ 60) (e : ((i : Int) + h) % (len : Int) = c) : Mak len (i + 1) (hs ++ [h]) (ls.eraseIdx k) where
  hl := by rw [List.length_append, M.hl]; rfl
  ll := by
    have p := (erase_perm ls k c hk).length_eq
    rw [List.length_cons] at p
    have := M.ll
    omega
  rl := fun x hx => M.rl x ((erase_perm ls k c hk).subset (List.mem_cons_of_mem _ hx))
  rh := fun x hx => by
    rcases List.mem_append.mp hx with z | z
    · exact M.rh x z
    · rw [List.mem_singleton.mp z]; exact ⟨h0, h1⟩
  nd := by
    rw [csOf_snoc, M.hl, e, List.append_assoc]
    have p := List.Perm.append_left (csOf len hs) (erase_perm ls k c hk)
    exact p.symm.nodup_iff.mp M.nd |> fun z => z
theorem nodup_get {l : List Int} (h : l.Nodup) {i j : Nat} {x : Int} (a : l[i]? = some x) (b : l[j]? = some x) : i = j := nd_ix h a b
theorem Mak.tab {len : Nat} {hs ls : List Int} (M : Mak len len hs ls) (h1 : 1 ≤ len) (h2 : len ≤ 24) : IsTab hs where
  pos := by rw [M.hl]; exact h1
  len := by rw [M.hl]; exact h2
  rng := M.rh
  inj := fun i j hi hj e => by
    rw [M.hl] at hi hj e
    have nd : (csOf len hs).Nodup := (List.nodup_append.mp M.nd).1
    have g : ∀ k, k < len → (csOf len hs)[k]? = some (((k : Int) + hs.getD k 0) % (len : Int)) := fun k hk => by
      unfold csOf
      rw [List.getElem?_map, M.hl, List.getElem?_range hk]
      rfl
    have a := g i hi
    rw [e] at a
    exact nodup_get nd a (g j hj)
section
variable {P : Program} {w : World} {K : PySem.W.Frag} {mg : Str → Option Value} {base : Heap}
theorem cal_law_cell (T : Txt K mg) : Cal P w K mg base 1 "_law_cell" (sp_law_cell K) := by
  refine T.d_law_cell.cal sc_law_cell (fun vs H Q E h => ?_) (fun _ _ _ _ _ _ us hl => match us, hl with | [_, _], _ => rfl) (fun f cdv A outer s H vs Q E hr h => ?_)
  · obtain ⟨a, ns, k, rfl, _⟩ := h; rfl
  · obtain ⟨a, ns, k, rfl, ha, q⟩ := h
    refine ⟨_, (pss_cons (ps_if (pt_cmpR op_lt (pv 1) (pe_callB call_len_seq rfl T.b_len (by decide +kernel) (pa_cons (pv 0) pa_nil)) (nomark _)) (pss_one (ps_ret (pe_ix ix_list (pv 0) (pv 1) (fun _ _ => rfl)))) pss_nil)
      (pss_one (ps_ret pe_int))), ?_⟩
    refine ⟨_, rfl, _, rfl, a, _, rfl, .inl ha, _, _, rfl, rfl, _, rfl, ?_⟩
    by_cases h : k < ns.length
    · refine iteD (by rw [map_len]; omega) ⟨_, rfl, _, rfl, a, _, _, _, rfl, rfl, ha, atI_of (j := k) rfl (map_get h), q _⟩
    · exact iteDF (by rw [map_len]; omega) (q _)
theorem cal_law_pen (T : Txt K mg) : Cal P w K mg base 1 "_law_pen" sp_law_pen := by
  refine T.d_law_pen.cal sc_law_pen (fun vs H Q E h => ?_) (fun _ _ _ _ _ _ us hl => match us, hl with | [_], _ => rfl) (fun f cdv A outer s H vs Q E hr h => ?_)
  · obtain ⟨c, rfl, _⟩ := h; rfl
  · obtain ⟨c, rfl, q⟩ := h
    refine ⟨_, (pss_one (ps_ret (pe_lst (pa_cons (pe_callB (call_max2 rfl) rfl T.b_max (by decide +kernel) (pa_cons pe_int (pa_cons (pe_op op_sub (pv 0) (pe_op op_pow pe_int pe_int)) pa_nil))) (pa_cons (pe_op op_add (pe_op op_mod (pv 0) pe_int) pe_int) (pa_cons pe_int pa_nil)))))), ?_⟩
    refine ⟨_, rfl, _, _, rfl, rfl, ⟨by decide, by decide, by decide⟩, _, _, rfl, rfl, _, _, rfl, _, rfl, _, _, rfl, rfl, (by decide : (0 : Int) < 2147483629), _, _, rfl, rfl, by show 3 ≤ sizeLine; decide, fun p hp => ?_⟩
    refine q p _ (Same.new hp) hp ⟨_, _, _, upd_same, ?_, ?_⟩
    · have := Int.emod_nonneg c (show (2147483629 : Int) ≠ 0 by decide)
      omega
    · have := Int.emod_lt_of_pos c (show (0 : Int) < 2147483629 by decide)
      omega
theorem cal_law_draw (T : Txt K mg) : Cal P w K mg base 1 "_law_draw" sp_law_draw := by
  refine T.d_law_draw.cal sc_law_draw (fun vs H Q E h => ?_) (fun _ _ _ _ _ _ us hl => match us, hl with | [_, _], _ => rfl) (fun f cdv A outer s H vs Q E hr h => ?_)
  · obtain ⟨a, n, rfl, _⟩ := h; rfl
  · obtain ⟨a, n, rfl, ⟨x, y, z, hp, y0, y1⟩, n0, n1, q⟩ := h
    refine ⟨_, (pss_cons (ps_if (pt_cmpR op_gt (pe_ix ix_list (pv 0) pe_int (fun _ _ => rfl)) pe_int (nomark _)) (pss_cons (ps_set (i := 2) sc_law_draw.nd rfl (Or.inl rfl) (pe_op op_mod (pe_ix ix_list (pv 0) pe_int (fun _ _ => rfl)) (pv 1)))
      (pss_cons (ps_asg (pe_op op_fdiv (pe_ix ix_list (pv 0) pe_int (fun _ _ => rfl)) (pv 1)) (pg_sub (pv 0) pe_int set_list))
      (pss_one (ps_ret (pv 2))))) pss_nil)
      (pss_cons (ps_asg (pe_op op_add (pe_ix ix_list (pv 0) pe_int (fun _ _ => rfl)) pe_int) (pg_sub (pv 0) pe_int set_list))
      (pss_cons (ps_asg (pe_op op_mod (pe_op op_add (pe_op op_add (pe_op op_mul (pe_ix ix_list (pv 0) pe_int (fun _ _ => rfl)) pe_int) (pe_op op_mul pe_int (pe_ix ix_list (pv 0) pe_int (fun _ _ => rfl)))) pe_int) pe_int) (pg_sub (pv 0) pe_int set_list))
      (pss_cons (ps_set (i := 3) sc_law_draw.nd rfl (Or.inl rfl) (pe_op op_mod (pe_op op_add (pe_op op_add (pe_op op_mul (pe_ix ix_list (pv 0) pe_int (fun _ _ => rfl)) (pe_ix ix_list (pv 0) pe_int (fun _ _ => rfl))) (pe_op op_mul pe_int (pe_ix ix_list (pv 0) pe_int (fun _ _ => rfl)))) pe_int) pe_int))
      (pss_cons (ps_set (i := 3) sc_law_draw.nd rfl (Or.inl rfl) (pe_op op_mod (pe_op op_add (pe_op op_mul (pv 3) (pv 3)) (pe_op op_mul pe_int (pv 3))) pe_int))
      (pss_one (ps_ret (pe_op op_mod (pe_op op_fdiv (pv 3) pe_int) (pv 1))))))))), ?_⟩
    refine ⟨_, rfl, a, _, _, _, rfl, rfl, SqL.of hp, atI_of (j := 0) rfl rfl, _, _, rfl, rfl, _, rfl, ?_⟩
    by_cases h : x > 0
    · refine iteD h ?_
      refine ⟨_, rfl, a, _, _, _, rfl, rfl, SqL.of hp, atI_of (j := 0) rfl rfl, _, rfl, _, _, rfl, rfl, n0, ?_⟩
      refine ⟨_, rfl, a, _, _, _, rfl, rfl, SqL.of hp, atI_of (j := 0) rfl rfl, _, rfl, _, _, rfl, rfl, ⟨n0, by omega⟩, _, rfl, a, _, _, 0, rfl, rfl, hp, rfl, _, rfl, ?_⟩
      exact q _ _ (Int.emod_nonneg _ (by omega)) (Int.emod_lt_of_pos _ n0) (But.upd fun b o h _ => h) ⟨_, _, _, upd_same, y0, y1⟩
    · refine iteDF h ?_
      refine ⟨_, rfl, a, _, _, _, rfl, rfl, SqL.of hp, atI_of (j := 2) rfl rfl, _, _, rfl, rfl, _, rfl, a, _, _, 2, rfl, rfl, hp, rfl, ?_⟩
      have hp1 : upd H a (.lst [.int x, .int y, .int (z + 1)]) a = some (.lst [.int x, .int y, .int (z + 1)]) := upd_same
      have b1 : But a H (upd H a (.lst [.int x, .int y, .int (z + 1)])) := But.upd fun b o h _ => h
      have m1 : ∀ i : Int, CMul i 48271 := fun i => .inr ⟨by decide, by decide⟩
      have m2 : ∀ i : Int, CMul 1009 i := fun i => .inl ⟨by decide, by decide⟩
      generalize ho : upd H a (.lst [.int x, .int y, .int (z + 1)]) = H1 at hp1 b1
      refine ⟨_, rfl, a, _, _, _, rfl, rfl, SqL.of (ho ▸ hp1), atI_of (j := 1) rfl rfl, _, _, rfl, rfl, m1 _, _, rfl, a, _, _, _, rfl, rfl, SqL.of (ho ▸ hp1), atI_of (j := 2) rfl rfl, _, _, rfl, rfl, m2 _, _, _, rfl, rfl, _, _, rfl, rfl, _, _, rfl, rfl, (by decide : (0 : Int) < 2147483647), _, rfl, a, _, _, 1, rfl, rfl, ho ▸ hp1, rfl, ?_⟩
      have mb : ∀ (u : Int), 0 ≤ u % 2147483647 ∧ u % 2147483647 < 2147483647 := fun u => ⟨Int.emod_nonneg _ (by decide), Int.emod_lt_of_pos _ (by decide)⟩
      have mb2 : ∀ (u : Int), 0 ≤ u % 2147483629 ∧ u % 2147483629 < 2147483629 := fun u => ⟨Int.emod_nonneg _ (by decide), Int.emod_lt_of_pos _ (by decide)⟩
      have mb3 : ∀ (u : Int), 0 ≤ u % 2147483587 := fun u => Int.emod_nonneg _ (by decide)
      have y2 := mb (y * 48271 + 1009 * (z + 1) + 7)
      generalize hy2 : (y * 48271 + 1009 * (z + 1) + 7) % 2147483647 = w2 at y2
      have hp2 : (upd (upd H a (.lst [.int x, .int y, .int (z + 1)])) a (.lst [.int x, .int ((y * 48271 + 1009 * (z + 1) + 7) % 2147483647), .int (z + 1)])) a = some (.lst [.int x, .int w2, .int (z + 1)]) := by rw [hy2]; exact upd_same
      have b2 : But a H (upd (upd H a (.lst [.int x, .int y, .int (z + 1)])) a (.lst [.int x, .int ((y * 48271 + 1009 * (z + 1) + 7) % 2147483647), .int (z + 1)])) := But.upd (But.upd fun b o h _ => h)
      show tSeq _ _ _ _ (upd (upd H a (.lst [.int x, .int y, .int (z + 1)])) a (.lst [.int x, .int ((y * 48271 + 1009 * (z + 1) + 7) % 2147483647), .int (z + 1)]))
      generalize (upd (upd H a (.lst [.int x, .int y, .int (z + 1)])) a (.lst [.int x, .int ((y * 48271 + 1009 * (z + 1) + 7) % 2147483647), .int (z + 1)])) = H2 at hp2 b2 ⊢
      have c2 : CMul w2 w2 := .inl ⟨by omega, by omega⟩
      refine ⟨_, rfl, a, _, _, _, rfl, rfl, SqL.of hp2, atI_of (j := 1) rfl rfl, _, rfl, a, _, _, _, rfl, rfl, SqL.of hp2, atI_of (j := 1) rfl rfl, _, _, rfl, rfl, c2, _, rfl, a, _, _, _, rfl, rfl, SqL.of hp2, atI_of (j := 1) rfl rfl, _, _, rfl, rfl, .inl ⟨by decide, by decide⟩,
        _, _, rfl, rfl, _, _, rfl, rfl, _, _, rfl, rfl, (by decide : (0 : Int) < 2147483629), ?_⟩
      have y3 := mb2 (w2 * w2 + 69621 * w2 + 11)
      show tSeq _ _ _ [some (.ref a), some (.int n), none, some (.int ((w2 * w2 + 69621 * w2 + 11) % 2147483629))] H2
      generalize (w2 * w2 + 69621 * w2 + 11) % 2147483629 = w3 at y3 ⊢
      refine ⟨_, rfl, _, rfl, _, _, rfl, rfl, .inl ⟨by omega, by omega⟩, _, rfl, _, _, rfl, rfl, .inl ⟨by decide, by decide⟩, _, _, rfl, rfl, _, _, rfl, rfl, (by decide : (0 : Int) < 2147483587), ?_⟩
      exact ⟨_, rfl, _, _, rfl, rfl, ⟨by decide, by decide⟩, _, rfl, _, _, rfl, rfl, n0, q _ _ (Int.emod_nonneg _ (by omega)) (Int.emod_lt_of_pos _ n0) b2 ⟨_, _, _, hp2, y2⟩⟩
theorem cal_law_table (T : Txt K mg) : Cal P w K mg base 2 "_law_table" sp_law_table := by
  have G_law_draw := cal_law_draw (P := P) (w := w) (base := base) T
  refine T.d_law_table.cal sc_law_table (fun vs H Q E h => ?_) (fun _ _ _ _ _ _ us hl => match us, hl with | [_, _, _], _ => rfl) (fun f cdv A outer s H vs Q E hr h => ?_)
  · obtain ⟨a, n, rfl, _⟩ := h; rfl
  · obtain ⟨a, n, rfl, pen, n0, n1, q⟩ := h
    refine ⟨_, (pss_cons (ps_par (i := 3) (j := 4) rfl sc_law_table.nd rfl rfl (by decide) rfl rfl (pa_cons (pe_op op_add pe_int (pe_cal G_law_draw (hr.mono (by decide)) rfl (pa_cons (pv 0) (pa_cons (pv 1) pa_nil)))) (pa_cons (pe_lst pa_nil) pa_nil)) rfl)
      (pss_cons (ps_set (i := 5) sc_law_table.nd rfl (Or.inl rfl) (pe_listRg rfl rfl T.b_list (prg_1 rfl T.b_range (pv 3))))
      (pss_cons (ps_for PassesOwn.never rfl (pi_range1 rfl T.b_range (pa_cons (pv 3) pa_nil)) (pg_name (i := 6) sc_law_table.nd rfl (Or.inl rfl)) (pss_cons (ps_set (i := 7) sc_law_table.nd rfl (Or.inl rfl) (pe_op op_mod (pe_op op_sub (pe_bm PySem.F.plainAttrs_list PySem.F.slot_list_pop PySem.F.type_list_pop mt_popAt (pv 5) (pa_cons (pe_cal G_law_draw (hr.mono (by decide)) rfl (pa_cons (pv 0) (pa_cons (pe_callB call_len_seq rfl T.b_len (by decide +kernel) (pa_cons (pv 5) pa_nil)) pa_nil))) pa_nil)) (pv 6)) (pv 3)))
      (pss_cons (ps_set (i := 8) sc_law_table.nd rfl (Or.inl rfl) (pe_op op_add (pv 7) (pe_op op_mul (pv 3) (pe_cal G_law_draw (hr.mono (by decide)) rfl (pa_cons (pv 0) (pa_cons (pe_op op_add (pv 2) pe_int) pa_nil))))))
      (pss_one (ps_expr (pe_bm PySem.F.plainAttrs_list PySem.F.slot_list_append PySem.F.type_list_append mt_append (pv 4) (pa_cons (pe_ifExp (pt_cmpR op_lt (pv 8) pe_int (nomark _)) (pv 8) (pv 7)) pa_nil)))))))
      (pss_one (ps_ret (pe_callTy call_tuple_of rfl T.b_tuple (by decide +kernel) (pa_cons (pv 4) pa_nil))))))), ?_⟩
    refine ⟨_, rfl, _, rfl, a, n, rfl, pen, n0, by omega, fun r H1 r0 r1 b1 pen1 => ?_⟩
    obtain ⟨len, hlen⟩ : ∃ len : Nat, 1 + r = (len : Int) := ⟨(1 + r).toNat, by omega⟩
    refine ⟨_, _, rfl, rfl, Nat.zero_le _, fun Hd hHd => ⟨_, _, rfl, ?_⟩⟩
    show tSeq _ _ _ [some (.ref a), some (.int n), some (.int 1), some (.int (1 + r)), some (.ref Hd), none, none, none, none] _
    rw [hlen]
    have l1 : 1 ≤ len := by omega
    have l2 : len ≤ 12 := by omega
    refine ⟨_, rfl, _, rfl, RgOk.of_le (by decide) (by omega) (by decide) (by omega), fun L hL => ?_⟩
    have erg : rgV 0 (len : Int) = ((List.range len).map fun (i : Nat) => (i : Int)).map V.int := by
      unfold rgV
      rw [List.map_map, show ((len : Int) - 0).toNat = len by omega]
      refine List.map_congr_left fun i _ => ?_
      show V.int (0 + (i : Int)) = V.int (i : Int)
      rw [Int.zero_add]
    rw [erg]
    have nHd : H Hd = none := b1.free pen hHd
    have nL : H L = none := (b1.new' hHd).free pen hL (pen1.to (Same.new hHd))
    have nHL : Hd ≠ L := ne_of_none upd_same hL
    have nHa : Hd ≠ a := fun z => by obtain ⟨_, _, _, e, _⟩ := pen; rw [← z, nHd] at e; cases e
    have nLa : L ≠ a := fun z => by obtain ⟨_, _, _, e, _⟩ := pen; rw [← z, nL] at e; cases e
    have hHd2 : (upd (upd H1 Hd (.lst [])) L (.lst (((List.range len).map fun (i : Nat) => (i : Int)).map V.int))) Hd = some (.lst []) := by rw [upd_ne nHL]; exact upd_same
    have hL2 : (upd (upd H1 Hd (.lst [])) L (.lst (((List.range len).map fun (i : Nat) => (i : Int)).map V.int))) L = some (.lst (((List.range len).map fun (i : Nat) => (i : Int)).map V.int)) := upd_same
    have b2 := (b1.new' (o := .lst []) hHd).new' (o := .lst (((List.range len).map fun (i : Nat) => (i : Int)).map V.int)) hL
    have pen2 : PenAt (upd (upd H1 Hd (.lst [])) L (.lst (((List.range len).map fun (i : Nat) => (i : Int)).map V.int))) a := (pen1.to (Same.new hHd)).to (Same.new hL)
    generalize (upd (upd H1 Hd (.lst [])) L (.lst (((List.range len).map fun (i : Nat) => (i : Int)).map V.int))) = H2 at hHd2 hL2 b2 pen2 ⊢
    refine ⟨_, rfl, (len : Int), rfl, by omega, by omega, for_range (lo := 0) (n := ((len : Int)).toNat)
      (fun i σ H' => (∃ v6 v7 v8 : Option V, σ = [some (.ref a), some (.int n), some (.int 1), some (.int (len : Int)), some (.ref Hd), some (.ref L), v6, v7, v8]) ∧ But a H H' ∧ PenAt H' a ∧ ∃ hs ls : List Int, H' L = some (.lst (ls.map V.int)) ∧ H' Hd = some (.lst (hs.map V.int)) ∧ Mak len i hs ls)
      ⟨⟨_, _, _, rfl⟩, b2, pen2, [], _, hL2, hHd2, Mak.init len⟩ ?_ ?_⟩
    · rintro i σ H3 hi ⟨⟨v6, v7, v8, rfl⟩, b3, pen3, hs, ls, hL3, hHd3, M⟩
      have hi : i < len := by omega
      have lls := M.ll
      refine ⟨_, rfl, .inl ⟨rfl, _, SqL.of hL3⟩, _, rfl, _, rfl, L, _, rfl, .inl (SqL.of hL3), a, _, rfl, pen3, by rw [map_len]; omega, by rw [map_len]; omega, fun r4 H4 r40 r41 b4 pen4 => ?_⟩
      have hL4 := b4 _ _ hL3 nLa
      have hHd4 := b4 _ _ hHd3 nHa
      rw [map_len] at r41
      have kl : r4.toNat < ls.length := by omega
      have ek : ls[r4.toNat]? = some (ls.getD r4.toNat 0) := by
        rw [List.getD_eq_getElem?_getD, List.getElem?_eq_getElem kl]
        rfl
      have cr := M.rl _ (List.mem_of_getElem? ek)
      generalize ls.getD r4.toNat 0 = c at ek cr
      refine ⟨L, _, r4, r4.toNat, .int c, rfl, rfl, hL4, by omega, by omega, seqIndex_of r40 (by rw [map_len]; exact r41), by rw [List.getElem?_map, ek]; rfl, _, rfl, _, _, rfl, rfl, _, rfl, _, _, rfl, rfl, (by show (0 : Int) < (len : Int); omega), ?_⟩
      rw [erase_ints]
      have hL5 : upd H4 L (.lst ((ls.eraseIdx r4.toNat).map V.int)) L = some (.lst ((ls.eraseIdx r4.toNat).map V.int)) := upd_same
      have hHd5 : upd H4 L (.lst ((ls.eraseIdx r4.toNat).map V.int)) Hd = some (.lst (hs.map V.int)) := by rw [upd_ne nHL]; exact hHd4
      have pen5 : PenAt (upd H4 L (.lst ((ls.eraseIdx r4.toNat).map V.int))) a := by
        obtain ⟨x, y, z, e, r⟩ := pen4
        exact ⟨x, y, z, by rw [upd_ne nLa.symm]; exact e, r⟩
      have b5 : But a H (upd H4 L (.lst ((ls.eraseIdx r4.toNat).map V.int))) := (b3.trans b4).mut nL
      generalize upd H4 L (.lst ((ls.eraseIdx r4.toNat).map V.int)) = H5 at hL5 hHd5 pen5 b5 ⊢
      have hm : ((i : Int) + (c - (i : Int)) % (len : Int)) % (len : Int) = c := by
        rw [Int.add_emod, Int.emod_emod_of_dvd _ (Int.dvd_refl _), ← Int.add_emod]
        rw [show (i : Int) + (c - (i : Int)) = c by omega]
        exact Int.emod_eq_of_lt cr.1 cr.2
      have h0 : 0 ≤ (c - (i : Int)) % (len : Int) := Int.emod_nonneg _ (by omega)
      have h1 : (c - (i : Int)) % (len : Int) < (len : Int) := Int.emod_lt_of_pos _ (by omega)
      show tSeq _ _ _ [some (.ref a), some (.int n), some (.int 1), some (.int (len : Int)), some (.ref Hd), some (.ref L), some (.int (0 + (i : Int))), some (.int ((c - (0 + (i : Int))) % (len : Int))), v8] H5
      rw [Int.zero_add]
      generalize (c - (i : Int)) % (len : Int) = h at hm h0 h1 ⊢
      refine ⟨_, rfl, _, rfl, _, rfl, _, rfl, _, _, rfl, rfl, a, _, rfl, pen5, by decide, by decide, fun r6 H6 r60 r61 b6 pen6 => ⟨_, _, rfl, rfl, .inl ⟨by omega, by omega⟩, _, _, rfl, rfl, ?_⟩⟩
      have hL6 := b6 _ _ hL5 nLa
      have hHd6 := b6 _ _ hHd5 nHa
      have r62 : r6 = 0 ∨ r6 = 1 := by omega
      have more : 0 ≤ h + (len : Int) * r6 ∧ h + (len : Int) * r6 ≤ 60 ∧ ((i : Int) + (h + (len : Int) * r6)) % (len : Int) = c := by
        refine ⟨?_, ?_, ?_⟩
        · rcases r62 with e | e <;> subst e <;> omega
        · rcases r62 with e | e <;> subst e <;> omega
        · rw [← Int.add_assoc, Int.add_mul_emod_self_left]
          exact hm
      refine ⟨_, rfl, .inl ⟨rfl, _, SqL.of hHd6⟩, _, rfl, _, _, rfl, rfl, _, rfl, iteD (by omega) ⟨_, rfl, Hd, _, _, rfl, rfl, hHd6, by rw [map_len, M.hl]; exact line_lt (by omega), ⟨_, _, _, rfl⟩, (b5.trans b6).mut nHd, ?_, _, _, ?_, ?_, M.step ek more.1 more.2.1 more.2.2⟩⟩
      · obtain ⟨x, y, z, e, r⟩ := pen6
        exact ⟨x, y, z, by rw [upd_ne nHa.symm]; exact e, r⟩
      · rw [upd_ne nHL.symm]
        exact hL6
      · rw [upd_same, List.map_append]
        rfl
    · rintro σ H3 ⟨⟨v6, v7, v8, rfl⟩, b3, pen3, hs, ls, hL3, hHd3, M⟩
      rw [show ((len : Int)).toNat = len by omega] at M
      refine ⟨_, rfl, Hd, _, rfl, .inl ⟨SqL.of hHd3, fun p hp => ?_⟩⟩
      exact q _ hs _ (b3.new' hp) (pen3.to (Same.new hp)) upd_same (M.tab l1 (by omega)) (by rw [M.hl]; exact l2)
end
end Ba
end
section
set_option Elab.async false
set_option maxRecDepth 100000
set_option maxHeartbeats 4000000
/-! What the law asks of one table. -/
namespace Ba
open PySem PySem.Spec PyProof.Rows L2
def sp_some_right : Sp := fun vs H Q _ => ∃ (tab a : Addr) (t : List Int) (seen : List (Int × Int)), vs = [.ref tab, .ref a] ∧ TabAt H tab t ∧ IsTab t ∧ SeenAt H a seen ∧ 1 ≤ seen.length ∧ seen.length ≤ 200 ∧ fits t seen ∧ ∀ H', Same H H' → Q (.bl true) H'
theorem sc_law_some_right : FnScope ["_law_table_here", "_law_pairs_seen", "_law_found", "_law_thing", "_law_tick"] ["_law_table_here", "_law_pairs_seen"] (defScope s_law_some_right) := ⟨rfl, rfl, rfl, by decide +kernel, rfl, by decide +kernel, by decide +kernel⟩
section
variable {P : Program} {w : World} {K : PySem.W.Frag} {mg : Str → Option Value} {base : Heap}
theorem cal_some_right (T : Txt K mg) : Cal P w K mg base 6 "_law_some_right" sp_some_right := by
  have G_fitting := cal_fitting (P := P) (w := w) (base := base) T
  have G_is_table := cal_is_table (P := P) (w := w) (base := base) T
  have G_shortest := cal_shortest (P := P) (w := w) (base := base) T
  have G_out_at := cal_out_at (P := P) (w := w) (base := base) T
  refine T.d_law_some_right.cal sc_law_some_right (fun vs H Q E h => ?_) (fun _ _ _ _ _ _ us hl => match us, hl with | [_, _], _ => rfl) (fun f cdv A outer s H vs Q E hr h => ?_)
  · obtain ⟨tab, a, t, seen, rfl, _⟩ := h; rfl
  · obtain ⟨tab, a, t, seen, rfl, ht, tt, SA, n1, n2, F, q⟩ := h
    refine ⟨_, (pss_cons (ps_set (i := 2) sc_law_some_right.nd rfl (Or.inr rfl) (pe_cal G_fitting (hr.mono (by decide)) rfl (pa_cons (pv 1) pa_nil)))
      (pss_cons (ps_if (PW.pt (pw_or (pt_cmpR op_isN (pv 2) pe_non (nomark _)) (pw_or (pt_not (pt_val (pe_cal G_is_table (hr.mono (by decide)) rfl (pa_cons (pv 2) pa_nil)))) (pw_or1 (pt_cmpR op_gt (pe_callB call_len_seq rfl T.b_len (by decide +kernel) (pa_cons (pv 2) pa_nil)) (pe_callB call_len_seq rfl T.b_len (by decide +kernel) (pa_cons (pe_cal G_shortest (hr.mono (by decide)) rfl (pa_cons (pv 0) pa_nil)) pa_nil)) (nomark _)))))) (pss_one (ps_ret pe_bl)) pss_nil)
      (pss_one (ps_ret (pe_cmpR (op_eqD hr.units) (pe_lc (own := [("_law_thing", 3), ("_law_tick", 4)]) (g := gTup K 2 (gCons (gName 3) (gCons (gName 4) gNil))) rfl sc_law_some_right.nd (pi_tup (pv 1)) (blkOk_by (own := [("_law_thing", 3), ("_law_tick", 4)]) (N := ["_law_table_here", "_law_pairs_seen", "_law_found", "_law_thing", "_law_tick"]) (sc := defScope s_law_some_right) (by decide +kernel)) (fun _ _ _ _ _ => (pg_tup rfl (pgs_cons (pg_name (i := 3) sc_law_some_right.nd rfl (Or.inl rfl)) (pgs_cons (pg_name (i := 4) sc_law_some_right.nd rfl (Or.inl rfl)) pgs_nil)))) (fun _ _ _ _ _ => (pts_one (pt_cmpR op_ne (pe_cal G_out_at (hr.mono (by decide)) rfl (pa_cons (pv 2) (pa_cons (pv 3) pa_nil))) (pv 4) (nomark _)))) (fun _ _ _ _ _ => pe_int)) (pe_lst pa_nil) (nomark _)))))), ?_⟩
    refine ⟨_, rfl, a, seen, rfl, SA, n1, n2, fun p U H1 s1 hU UU FU least => ?_, fun H1 s1 no => absurd F (no t tt)⟩
    refine ⟨_, rfl, rfl, _, rfl, iteDF (fun z => nomatch z) ⟨_, rfl, p, U, rfl, hU, UU, fun H2 s2 => ⟨_, rfl, iteF ?_⟩⟩⟩
    have hU2 := s2 _ _ hU
    refine ⟨_, rfl, p, _, rfl, .inr (SqT.of hU2), _, rfl, tab, t, rfl, s2 _ _ (s1 _ _ ht), tt, fun g p2 H3 S s3 hp2 => ⟨p2, _, rfl, .inr (SqT.of hp2), _, _, rfl, rfl, _, rfl, iteDF ?_ ?_⟩⟩
    · have := least _ (S.tab tt) (S.fit F)
      rw [map_len, map_len]
      omega
    · have s13 := (s1.trans s2).trans s3
      obtain ⟨ps, ha, hlen, hp⟩ := SA.same s13
      have hU3 := s3 _ _ hU2
      refine ⟨_, rfl, a, rfl, ⟨_, SqT.of ha⟩, fun D hD => lc_it (walk_tup (K := K) (a := a) (xs := ps.map V.ref)) (fun i H' => Same H3 H' ∧ H' D = some (.lst [])) ⟨Same.new hD, upd_same⟩ (fun i H' _ p => SqT.of (p.1 _ _ ha)) ?_ ?_⟩
      · rintro i x H4 H5 hi ⟨s4, hL⟩ ⟨rfl, ex⟩
        obtain ⟨p5, ep, rfl⟩ := ps_get ex
        obtain ⟨qq, eq, hq⟩ := hp i p5 ep
        have e5 := FU qq (List.mem_of_getElem? eq)
        refine ⟨p5, _, rfl, SqT.of (s4 _ _ hq), rfl, _, _, rfl, _, _, rfl, rfl, rfl, _, rfl, _, rfl, p, U, _, rfl, s4 _ _ hU3, UU, fun H6 s6 => ?_⟩
        exact ⟨_, rfl, rfl, _, rfl, iteNT (congrArg V.int e5) ⟨s4.trans s6, s6 _ _ hL⟩⟩
      · rintro H4 ⟨s4, hL⟩
        refine ⟨Nat.zero_le _, fun D2 hD2 => ⟨.list [], .list [], .lst (SqL.of ((Same.new hD2) _ _ hL)) .nil, .lst (SqL.of upd_same) .nil, rfl, rfl, q _ ((s13.trans s4).trans (Same.new hD2))⟩⟩
/-! ### pairs as lists, as tuples -/
/-- the pairs in a list -/
def LSeen (H : Hp) (D : Addr) (l : List (Nat × Nat)) : Prop :=
  ∃ ps : List Addr, H D = some (.lst (ps.map V.ref)) ∧ ps.length = l.length ∧ ∀ (j : Nat) (p : Addr), ps[j]? = some p → ∃ q, l[j]? = some q ∧ H p = some (.tup [.int (q.1 : Nat), .int (q.2 : Nat)])
/-- the pairs in a tuple -/
def TSeen (H : Hp) (a : Addr) (l : List (Nat × Nat)) : Prop :=
  ∃ ps : List Addr, H a = some (.tup (ps.map V.ref)) ∧ ps.length = l.length ∧ ∀ (j : Nat) (p : Addr), ps[j]? = some p → ∃ q, l[j]? = some q ∧ H p = some (.tup [.int (q.1 : Nat), .int (q.2 : Nat)])
theorem TSeen.to {H H' : Hp} {a : Addr} {l : List (Nat × Nat)} (h : TSeen H a l) (s : Same H H') : TSeen H' a l := by
  obtain ⟨ps, h1, h2, h3⟩ := h
  exact ⟨ps, s _ _ h1, h2, fun j p e => let ⟨q, e1, e2⟩ := h3 j p e; ⟨q, e1, s _ _ e2⟩⟩
theorem TSeen.but {H H' : Hp} {a b : Addr} {l : List (Nat × Nat)} (h : TSeen H a l) (P : PenAt H b) (s : But b H H') : TSeen H' a l := by
  obtain ⟨ps, h1, h2, h3⟩ := h
  obtain ⟨x, y, z, hb, _⟩ := P
  exact ⟨ps, s _ _ h1 (ne_of h1 hb (by intro z; cases z)), h2, fun j p e => let ⟨q, e1, e2⟩ := h3 j p e; ⟨q, e1, s _ _ e2 (ne_of e2 hb (by intro z; cases z))⟩⟩
theorem TSeen.at {H : Hp} {a : Addr} {l : List (Nat × Nat)} (h : TSeen H a l) : SeenAt H a (l.map cast2) := by
  obtain ⟨ps, h1, h2, h3⟩ := h
  refine ⟨ps, h1, by rw [List.length_map]; exact h2, fun j p e => ?_⟩
  obtain ⟨q, e1, e2⟩ := h3 j p e
  exact ⟨cast2 q, by rw [List.getElem?_map, e1]; rfl, e2⟩
theorem LSeen.nil {H : Hp} {D : Addr} : LSeen (upd H D (.lst [])) D [] := ⟨[], upd_same, rfl, fun j p e => by cases e⟩
theorem LSeen.to {H H' : Hp} {D : Addr} {l : List (Nat × Nat)} (h : LSeen H D l) (s : Same H H') : LSeen H' D l := by
  obtain ⟨ps, h1, h2, h3⟩ := h
  exact ⟨ps, s _ _ h1, h2, fun j p e => let ⟨q, e1, e2⟩ := h3 j p e; ⟨q, e1, s _ _ e2⟩⟩
theorem LSeen.push {H : Hp} {D p : Addr} {l : List (Nat × Nat)} {q : Nat × Nat} (h : LSeen H D l) (hp : H p = some (.tup [.int (q.1 : Nat), .int (q.2 : Nat)])) (hl : l.length < 1000) :
    ∃ acc, H D = some (.lst acc) ∧ acc.length < sizeLine ∧ LSeen (upd H D (.lst (acc ++ [.ref p]))) D (l ++ [q]) := by
  obtain ⟨ps, h1, h2, h3⟩ := h
  refine ⟨_, h1, by rw [List.length_map]; exact line_lt (by omega), ps ++ [p], ?_, by rw [List.length_append, List.length_append, h2]; rfl, fun j a e => ?_⟩
  · rw [upd_same, List.map_append]
    rfl
  · have keep : ∀ (b : Addr) (xs : List V), H b = some (.tup xs) → upd H D (.lst (ps.map V.ref ++ [.ref p])) b = some (.tup xs) := fun b xs z => by
      rw [upd_ne (ne_of z h1 (by intro z; cases z))]
      exact z
    by_cases hj : j < ps.length
    · rw [List.getElem?_append_left hj] at e
      obtain ⟨q2, e1, e2⟩ := h3 j a e
      exact ⟨q2, by rw [List.getElem?_append_left (by omega)]; exact e1, keep _ _ e2⟩
    · rw [List.getElem?_append_right (by omega)] at e
      have hj0 : j - ps.length = 0 := by
        obtain ⟨z, _⟩ := List.getElem?_eq_some_iff.mp e
        simp at z
        omega
      rw [hj0] at e
      have : p = a := Option.some.inj e
      subst this
      exact ⟨q, by rw [List.getElem?_append_right (by omega), ← h2, hj0]; rfl, keep _ _ hp⟩
/-- tuple(list) -/
theorem LSeen.tup {H : Hp} {D : Addr} {l : List (Nat × Nat)} {K : PySem.W.Frag} {Q : VK} (h : LSeen H D l) (k : ∀ p H', Same H H' → TSeen H' p l → Q (.ref p) H') :
    ∃ p ys, [V.ref D] = [.ref p] ∧ ((SqL K H p ys ∧ ∀ l, H l = none → Q (.ref l) (upd H l (.tup ys))) ∨ (SqT K H p ys ∧ Q (.ref p) H)) := by
  obtain ⟨ps, h1, h2, h3⟩ := h
  refine ⟨D, _, rfl, .inl ⟨SqL.of h1, fun a ha => k a _ (Same.new ha) ⟨ps, upd_same, h2, fun j p e => ?_⟩⟩⟩
  obtain ⟨q, e1, e2⟩ := h3 j p e
  exact ⟨q, e1, (Same.new ha) _ _ e2⟩
theorem TSeen.mk {H : Hp} {a : Addr} {l : List (Nat × Nat)} {ps : List Addr} (ha : H a = none) (h2 : ps.length = l.length) (h3 : ∀ (j : Nat) (p : Addr), ps[j]? = some p → ∃ q, l[j]? = some q ∧ H p = some (.tup [.int (q.1 : Nat), .int (q.2 : Nat)])) :
    TSeen (upd H a (.tup (ps.map V.ref))) a l := ⟨ps, upd_same, h2, fun j p e => let ⟨q, e1, e2⟩ := h3 j p e; ⟨q, e1, (Same.new ha) _ _ e2⟩⟩
theorem LSeen.but {H H' : Hp} {D b : Addr} {l : List (Nat × Nat)} (h : LSeen H D l) (P : PenAt H b) (n : D ≠ b) (s : But b H H') : LSeen H' D l := by
  obtain ⟨ps, h1, h2, h3⟩ := h
  obtain ⟨x, y, z, hb, _⟩ := P
  exact ⟨ps, s _ _ h1 n, h2, fun j p e => let ⟨q, e1, e2⟩ := h3 j p e; ⟨q, e1, s _ _ e2 (ne_of e2 hb (by intro z; cases z))⟩⟩
theorem PenAt.upd {H : Hp} {a b : Addr} {o : HO} (P : PenAt H a) (n : a ≠ b) : PenAt (L2.upd H b o) a := by
  obtain ⟨x, y, z, e, r⟩ := P
  exact ⟨x, y, z, by rw [upd_ne n]; exact e, r⟩
theorem TSeen.rev {H : Hp} {a : Addr} {l : List (Nat × Nat)} {ps : List Addr} (h1 : H a = some (.tup (ps.map V.ref).reverse)) (h2 : ps.length = l.length) (h3 : ∀ (j : Nat) (p : Addr), ps[j]? = some p → ∃ q, l[j]? = some q ∧ H p = some (.tup [.int (q.1 : Nat), .int (q.2 : Nat)])) : TSeen H a l.reverse := by
  refine ⟨ps.reverse, by rw [List.map_reverse]; exact h1, by rw [List.length_reverse, List.length_reverse]; exact h2, fun j p e => ?_⟩
  obtain ⟨hj, _⟩ := List.getElem?_eq_some_iff.mp e
  rw [List.length_reverse] at hj
  rw [List.getElem?_reverse hj] at e
  obtain ⟨q, e1, e2⟩ := h3 _ p e
  exact ⟨q, by rw [List.getElem?_reverse (by omega), ← h2]; exact e1, e2⟩
/-- the data of a pair -/
def pd (q : Nat × Nat) : PyData := .tuple [.int (q.1 : Nat), .int (q.2 : Nat)]
theorem dp_pairs {K : PySem.W.Frag} {H : Hp} : ∀ (ps : List Addr) (l : List (Nat × Nat)), ps.length = l.length → (∀ (j : Nat) (p : Addr), ps[j]? = some p → ∃ q, l[j]? = some q ∧ H p = some (.tup [.int (q.1 : Nat), .int (q.2 : Nat)])) → DpAll K H (ps.map V.ref) (l.map pd)
  | [], [], _, _ => .nil
  | [], _ :: _, h, _ => by cases h
  | _ :: _, [], h, _ => by cases h
  | p :: ps, q :: l, h, h3 => by
    obtain ⟨q2, e1, e2⟩ := h3 0 p rfl
    have : q = q2 := Option.some.inj e1
    subst this
    exact .cons (.tup (SqT.of e2) (.cons (.int _) (.cons (.int _) .nil))) (dp_pairs ps l (Nat.succ.inj h) fun j a e => h3 (j + 1) a e)
theorem lay_pairs : ∀ l : List (Nat × Nat), PyData.canLayAll0 (l.map pd) = true ∧ PyData.depthAll (l.map pd) ≤ 1
  | [] => ⟨rfl, Nat.zero_le _⟩
  | q :: l => by
    obtain ⟨h1, h2⟩ := lay_pairs l
    constructor
    · rw [List.map_cons]
      simp only [pd, PyData.canLayAll0, PyData.canLay0, h1]
      rfl
    · show max (PyData.depth (pd q)) (PyData.depthAll (l.map pd)) ≤ 1
      exact Nat.max_le.mpr ⟨by simp [pd, PyData.depth, PyData.depthAll], h2⟩
theorem shaped_pairs (l : List (Nat × Nat)) : SeqAt.shaped (.tuple (l.map pd)) = true := by
  obtain ⟨h1, h2⟩ := lay_pairs l
  unfold SeqAt.shaped
  simp only [PyData.canLay0, h1, PyData.depth, Bool.and_eq_true, true_and]
  exact decide_eq_true (by omega)
/-- the whole base but for the pen -/
def NoB (a : Addr) (H : Hp) : Hp := fun b => if b = a then none else H b
/-- a row stays when the pen draws -/
theorem RowIn.but {K : PySem.W.Frag} {H0 H H' : Hp} {p a tab : Addr} {t : List Int} {m : Nat} (R : RowIn K H0 H p tab t m) (P : PenAt H0 a) (b : But a H H') : RowIn K (NoB a H0) H' p tab t m := by
  obtain ⟨s0, np, dxr, ls, st, q, dx, e, li, lo, d, c, g, dl, kvs, nls, hp, hls, hst, S, nli, nlo⟩ := R
  obtain ⟨x, y, z, ha0, _⟩ := P
  have ha := s0 _ _ ha0
  have nb : ∀ {u : Addr}, H0 u = none → NoB a H0 u = none := fun {u} h => by
    unfold NoB
    split
    · rfl
    · exact h
  have off : ∀ {u : Addr}, H0 u = none → u ≠ a := fun {u} h z => by
    rw [z, ha0] at h
    cases h
  have keep : ∀ {u : Addr} {o : HO}, H u = some o → (∀ ys, o ≠ .lst ys) → H' u = some o := fun {u o} h n => b _ _ h (ne_of h ha (n _))
  refine ⟨fun u o h => ?_, nb np, dxr, ls, st, q, dx, e, li, lo, d, c, g, dl, kvs, nb nls, keep hp (by intro ys z; cases z), b _ _ hls (off nls), hst,
    ⟨keep S.ob (by intro ys z; cases z), keep S.tb (by intro ys z; cases z), keep S.he (by intro ys z; cases z), b _ _ S.hi (off nli), b _ _ S.ho (off nlo), keep S.hd (by intro ys z; cases z), S.due.tups fun a xs h => keep h (by intro ys z; cases z),
      keep S.hc (by intro ys z; cases z), keep S.hg (by intro ys z; cases z), keep S.hl (by intro ys z; cases z)⟩, nb nli, nb nlo⟩
  unfold NoB at h
  split at h
  · cases h
  · rename_i hne
    exact b _ _ (s0 _ _ h) hne
/-! ### fitting(x) against shortest(table) -/
/-- what is asked of the things seen -/
structure Full (t : List Int) (l : List (Nat × Nat)) : Prop where
  h2 : ∀ i, i < 2 * t.length → (i, outN t i) ∈ l
  hl : ∀ p ∈ l, outN t p.1 = p.2
  le : l.length ≤ 200
theorem Full.ne {t : List Int} {l : List (Nat × Nat)} (F : Full t l) (T : IsTab t) : 1 ≤ l.length := by
  have := F.h2 0 (by have := T.pos; omega)
  exact List.length_pos_of_mem this
theorem Full.fits {t : List Int} {l : List (Nat × Nat)} (F : Full t l) (T : IsTab t) : Ba.fits t (l.map cast2) := fun p hp => by
  obtain ⟨q, hq, rfl⟩ := List.mem_map.mp hp
  show out t (q.1 : Int) = (q.2 : Int)
  rw [← T.outN, F.hl q hq]
theorem fit_core {R : R2} {H : Hp} {tab : Addr} {t : List Int} {l : List (Nat × Nat)} {σ : L2.St} {Q : VK} {ta : TE} (ht : TabAt H tab t) (tt : IsTab t) (F : Full t l) (hσ : σ[1]? = some (some (.ref tab)))
    (hta : ∀ R : VK, (∀ a H1, Same H H1 → TSeen H1 a l → R (.ref a) H1) → ta σ H R) (k : ∀ H' p p2 (U : List Int), Same H H' → TabAt H' p U → TabAt H' p2 U → R (.ref p) (.ref p2) H' Q) :
    tOp R (tCall sp_fitting [] E0 (tCons ta tNil)) (tCall sp_shortest [] E0 (tCons (tVar 1) tNil)) σ H Q := by
  refine hta _ fun a H1 s1 SA => ⟨a, l.map cast2, rfl, SA.at, by rw [List.length_map]; exact F.ne tt, by rw [List.length_map]; exact F.le, fun p U H2 s2 hU UU FU least => ?_, fun H2 s2 no => absurd (F.fits tt) (no t tt)⟩
  refine ⟨_, hσ, tab, t, rfl, s2 _ _ (s1 _ _ ht), tt, fun g p2 H3 S s3 hp2 => ?_⟩
  have e := fit_short tt S F.h2 F.hl UU FU least
  exact k H3 p p2 U ((s1.trans s2).trans s3) (s3 _ _ hU) (by rw [e]; exact hp2)
theorem eqv_tup (U : List Int) : PyData.eqv (.tuple (U.map PyData.int)) (.tuple (U.map PyData.int)) = true := SeqAt.eqv_refl _ (SeqAt.canLay_of_shaped (shaped_tup U))
theorem fit_ne {K : PySem.W.Frag} {H : Hp} {tab : Addr} {t : List Int} {l : List (Nat × Nat)} {σ : L2.St} {Q : VK} {ta : TE} (ht : TabAt H tab t) (tt : IsTab t) (F : Full t l) (hσ : σ[1]? = some (some (.ref tab)))
    (hta : ∀ R : VK, (∀ a H1, Same H H1 → TSeen H1 a l → R (.ref a) H1) → ta σ H R) (k : ∀ H', Same H H' → Q (.bl false) H') :
    tOp (rNeD K) (tCall sp_fitting [] E0 (tCons ta tNil)) (tCall sp_shortest [] E0 (tCons (tVar 1) tNil)) σ H Q := by
  refine fit_core ht tt F hσ hta fun H' p p2 U s h1 h2 => ⟨.tuple (U.map PyData.int), .tuple (U.map PyData.int), .tup (SqT.of h1) (dp_ints U), .tup (SqT.of h2) (dp_ints U), shaped_tup U, shaped_tup U, ?_⟩
  rw [eqv_tup]
  exact k H' s
theorem fit_eq {K : PySem.W.Frag} {H : Hp} {tab : Addr} {t : List Int} {l : List (Nat × Nat)} {σ : L2.St} {Q : VK} {ta : TE} (ht : TabAt H tab t) (tt : IsTab t) (F : Full t l) (hσ : σ[1]? = some (some (.ref tab)))
    (hta : ∀ R : VK, (∀ a H1, Same H H1 → TSeen H1 a l → R (.ref a) H1) → ta σ H R) (k : ∀ H', Same H H' → Q (.bl true) H') :
    tOp (rEqD K) (tCall sp_fitting [] E0 (tCons ta tNil)) (tCall sp_shortest [] E0 (tCons (tVar 1) tNil)) σ H Q := by
  refine fit_core ht tt F hσ hta fun H' p p2 U s h1 h2 => ⟨.tuple (U.map PyData.int), .tuple (U.map PyData.int), .tup (SqT.of h1) (dp_ints U), .tup (SqT.of h2) (dp_ints U), shaped_tup U, shaped_tup U, ?_⟩
  rw [eqv_tup]
  exact k H' s
/-- a variable that holds the pairs -/
theorem var_seen {H : Hp} {σ : L2.St} {i : Nat} {a : Addr} {l : List (Nat × Nat)} (hσ : σ[i]? = some (some (.ref a))) (h : TSeen H a l) : ∀ R : VK, (∀ a H1, Same H H1 → TSeen H1 a l → R (.ref a) H1) → tVar i σ H R := fun R k => ⟨_, hσ, k a H (Same.refl H) h⟩
end
end Ba
end
section
set_option Elab.async false
set_option maxRecDepth 100000
set_option maxHeartbeats 8000000
/-! The law of one table. -/
namespace Ba
open PySem PySem.Spec PyProof.Rows L2
def sp_law_right : Sp := fun vs H Q _ => ∃ (pen tab : Addr) (t : List Int), vs = [.ref pen, .ref tab] ∧ PenAt H pen ∧ TabAt H tab t ∧ IsTab t ∧ ∀ H', But pen H H' → PenAt H' pen → Q (.bl true) H'
theorem sc_law_right : FnScope ["_law_pen_here", "_law_table_here", "_law_box", "_law_long", "_law_thing", "_law_ticks", "_law_pairs_seen", "_law_two", "_law_some", "_law_pairs", "_law_tick", "_law_pair", "_law_one", "_law_out"] ["_law_pen_here", "_law_table_here"] (defScope s_law_right) := ⟨rfl, rfl, rfl, by decide +kernel, rfl, by decide +kernel, by decide +kernel⟩
theorem rg_ins (n : Nat) : rgV 0 (n : Int) = insL n := by
  unfold rgV insL
  rw [show ((n : Int) - 0).toNat = n by omega]
  refine List.map_congr_left fun i _ => ?_
  show V.int (0 + (i : Int)) = V.int (i : Int)
  rw [Int.zero_add]
theorem ins_get {n i : Nat} {x : V} (h : (insL n)[i]? = some x) : x = V.int (i : Int) := by
  unfold insL at h
  rw [List.getElem?_map] at h
  cases e : (List.range n)[i]? with
  | none => rw [e] at h; cases h
  | some j =>
    rw [e] at h
    obtain ⟨_, e2⟩ := List.getElem?_eq_some_iff.mp e
    rw [List.getElem_range] at e2
    subst e2
    exact (Option.some.inj h).symm
/-- the data of the lists -/
def insD (n : Nat) : List PyData := ((List.range n).map fun (i : Nat) => (i : Int)).map PyData.int
theorem dp_insL {K : PySem.W.Frag} {H : Hp} (n : Nat) : DpAll K H (insL n) (insD n) := by
  have e : insL n = ((List.range n).map fun (i : Nat) => (i : Int)).map V.int := by unfold insL; rw [List.map_map]; rfl
  rw [e]
  exact dp_ints _
theorem shaped_ins (n : Nat) : SeqAt.shaped (.list (insD n)) = true := shaped_lst _
theorem eqv_ins (n : Nat) : PyData.eqv (.list (insD n)) (.list (insD n)) = true := SeqAt.eqv_refl _ (SeqAt.canLay_of_shaped (shaped_ins n))
def outsD (t : List Int) (n : Nat) : List PyData := ((List.range n).map fun u => (at_ t u).map fun (i : Nat) => (i : Int)).map ovD
theorem dp_outsL {K : PySem.W.Frag} {H : Hp} (t : List Int) (n : Nat) : DpAll K H (outsL t n) (outsD t n) := by
  have e : outsL t n = ((List.range n).map fun u => (at_ t u).map fun (i : Nat) => (i : Int)).map ovV := by
    unfold outsL
    rw [List.map_map]
    refine List.map_congr_left fun u _ => ?_
    show ovN (at_ t u) = ovV ((at_ t u).map fun (i : Nat) => (i : Int))
    cases at_ t u <;> rfl
  rw [e]
  exact dp_ov _
theorem shaped_outs (t : List Int) (n : Nat) : SeqAt.shaped (.list (outsD t n)) = true := shaped_ov _
theorem eqv_outs (t : List Int) (n : Nat) : PyData.eqv (.list (outsD t n)) (.list (outsD t n)) = true := eqv_ov _
section
variable {P : Program} {w : World} {K : PySem.W.Frag} {mg : Str → Option Value} {base : Heap}
theorem cal_law_right (T : Txt K mg) : Cal P w K mg base 7 "_law_right" sp_law_right := by
  have G_fitting := cal_fitting (P := P) (w := w) (base := base) T
  have G_shortest := cal_shortest (P := P) (w := w) (base := base) T
  have G_delay := cal_delay (P := P) (w := w) (base := base) T
  have G_law_draw := cal_law_draw (P := P) (w := w) (base := base) T
  have G_law_some_right := cal_some_right (P := P) (w := w) (base := base) T
  have G_journal_text := cal_journal_text (P := P) (w := w) (base := base) T
  have G_read_journal := cal_read_journal (P := P) (w := w) (base := base) T
  have G_Row := ical_Row (P := P) (w := w) (base := base) T
  have M_push := mcal_push (P := P) (w := w) (base := base) T
  have FL := fnr_len (P := P) (w := w) (base := base) T
  have FG := fnr_getitem (P := P) (w := w) (base := base) T
  refine T.d_law_right.cal sc_law_right (fun vs H Q E h => ?_) (fun _ _ _ _ _ _ us hl => match us, hl with | [_, _], _ => rfl) (fun f cdv A outer s H vs Q E hr h => ?_)
  · obtain ⟨pen, tab, t, rfl, _⟩ := h; rfl
  · obtain ⟨pen, tab, t, rfl, pa, ht, tt, k⟩ := h
    refine ⟨_, (pss_cons (ps_asg (pe_tup (pa_cons (pe_ical G_Row (hr.mono (by decide)) rfl (pa_cons (pv 1) pa_nil)) (pa_cons (pe_callB call_len_seq rfl T.b_len (by decide +kernel) (pa_cons (pv 1) pa_nil)) pa_nil))) (pg_tup rfl (pgs_cons (pg_name (i := 2) sc_law_right.nd rfl (Or.inr rfl)) (pgs_cons (pg_name (i := 3) sc_law_right.nd rfl (Or.inr rfl)) pgs_nil))))
      (pss_cons (ps_for PassesOwn.never rfl (pi_range1 rfl T.b_range (pa_cons (pe_op op_add (pe_op op_mul pe_int (pv 3)) (pe_cal G_delay (hr.mono (by decide)) rfl (pa_cons (pv 1) pa_nil))) pa_nil)) (pg_name (i := 4) sc_law_right.nd rfl (Or.inl rfl)) (pss_one (ps_expr (pe_mcal (pv 2) T.clR M_push (hr.mono (by decide)) (pa_cons (pv 4) pa_nil)))))
      (pss_cons (ps_set (i := 5) sc_law_right.nd rfl (Or.inl rfl) (pe_listRg rfl rfl T.b_list (prg_1 rfl T.b_range (pe_callB (call_ownLen T.Row_len.2.at_ T.Row_len.2.fn FL (hr.mono (by decide)) pass0) rfl T.b_len (by decide +kernel) (pa_cons (pv 2) pa_nil)))))
      (pss_cons (ps_set (i := 6) sc_law_right.nd rfl (Or.inl rfl) (pe_callTy call_tuple_of rfl T.b_tuple (by decide +kernel) (pa_cons (pe_lc (own := [("_law_tick", 10)]) (g := gName 10) rfl sc_law_right.nd (pi_list (pv 5)) (blkOk_by (own := [("_law_tick", 10)]) (N := ["_law_pen_here", "_law_table_here", "_law_box", "_law_long", "_law_thing", "_law_ticks", "_law_pairs_seen", "_law_two", "_law_some", "_law_pairs", "_law_tick", "_law_pair", "_law_one", "_law_out"]) (sc := defScope s_law_right) (by decide +kernel)) (fun _ _ _ _ _ => (pg_name (i := 10) sc_law_right.nd rfl (Or.inl rfl))) (fun _ _ _ _ _ => (pts_one (pt_cmpR op_notN (pe_ownIx (pv 2) (pv 10) T.ownIx FG (hr.mono (by decide)) pass0) pe_non (nomark _)))) (fun _ _ _ _ _ => (pe_tup (pa_cons (pe_ownIx (pv 2) (pv 10) T.ownIx FG (hr.mono (by decide)) pass0) (pa_cons (pv 10) pa_nil))))) pa_nil)))
      (pss_cons (ps_set (i := 7) sc_law_right.nd rfl (Or.inl rfl) (pe_callTy call_tuple_of rfl T.b_tuple (by decide +kernel) (pa_cons (pe_lc (own := [("_law_pair", 11)]) (g := gName 11) rfl sc_law_right.nd (pi_tup (pv 6)) (blkOk_by (own := [("_law_pair", 11)]) (N := ["_law_pen_here", "_law_table_here", "_law_box", "_law_long", "_law_thing", "_law_ticks", "_law_pairs_seen", "_law_two", "_law_some", "_law_pairs", "_law_tick", "_law_pair", "_law_one", "_law_out"]) (sc := defScope s_law_right) (by decide +kernel)) (fun _ _ _ _ _ => (pg_name (i := 11) sc_law_right.nd rfl (Or.inl rfl))) (fun _ _ _ _ _ => (pts_one (pt_cmpR op_lt (pe_ix (ix_tupK (K := K) rfl) (pv 11) pe_int (fun _ _ => rfl)) (pe_op op_mul pe_int (pv 3)) (nomark _)))) (fun _ _ _ _ _ => (pv 11))) pa_nil)))
      (pss_cons (ps_if (PW.pt (pw_or (pt_cmpR op_ne (pe_callB call_len_seq rfl T.b_len (by decide +kernel) (pa_cons (pv 7) pa_nil)) (pe_op op_mul pe_int (pv 3)) (nomark _)) (pw_or1 (pt_cmpR (op_neD hr.units) (pe_cal G_fitting (hr.mono (by decide)) rfl (pa_cons (pv 6) pa_nil)) (pe_cal G_shortest (hr.mono (by decide)) rfl (pa_cons (pv 1) pa_nil)) (nomark _))))) (pss_one (ps_ret pe_bl)) pss_nil)
      (pss_cons (ps_if (PW.pt (pw_or (pt_cmpR (op_neD hr.units) (pe_cal G_fitting (hr.mono (by decide)) rfl (pa_cons (pv 7) pa_nil)) (pe_cal G_shortest (hr.mono (by decide)) rfl (pa_cons (pv 1) pa_nil)) (nomark _)) (pw_or1 (pt_cmpR (op_neD hr.units) (pe_cal G_fitting (hr.mono (by decide)) rfl (pa_cons (pe_revT (pv 7)) pa_nil)) (pe_cal G_shortest (hr.mono (by decide)) rfl (pa_cons (pv 1) pa_nil)) (nomark _))))) (pss_one (ps_ret pe_bl)) pss_nil)
      (pss_cons (ps_set (i := 8) sc_law_right.nd rfl (Or.inl rfl) (pe_callTy call_tuple_of rfl T.b_tuple (by decide +kernel) (pa_cons (pe_lc (own := [("_law_pair", 11)]) (g := gName 11) rfl sc_law_right.nd (pi_tup (pv 7)) (blkOk_by (own := [("_law_pair", 11)]) (N := ["_law_pen_here", "_law_table_here", "_law_box", "_law_long", "_law_thing", "_law_ticks", "_law_pairs_seen", "_law_two", "_law_some", "_law_pairs", "_law_tick", "_law_pair", "_law_one", "_law_out"]) (sc := defScope s_law_right) (by decide +kernel)) (fun _ _ _ _ _ => (pg_name (i := 11) sc_law_right.nd rfl (Or.inl rfl))) (fun _ _ _ _ _ => (pts_one (pt_cmpR op_eq (pe_cal G_law_draw (hr.mono (by decide)) rfl (pa_cons (pv 0) (pa_cons pe_int pa_nil))) pe_int (nomark _)))) (fun _ _ _ _ _ => (pv 11))) pa_nil)))
      (C8.pss_cut (ps_if (PW.pt (pw_and (pt_cmpR (op_neD hr.units) (pv 8) (pe_tup pa_nil) (nomark _)) (pw_and1 (pt_not (pt_val (pe_cal G_law_some_right (hr.mono (by decide)) rfl (pa_cons (pv 1) (pa_cons (pv 8) pa_nil)))))))) (pss_one (ps_ret pe_bl)) pss_nil)
      (pss_cons (ps_set (i := 9) sc_law_right.nd rfl (Or.inl rfl) (pe_cal G_read_journal (hr.mono (by decide)) rfl (pa_cons (pe_cal G_journal_text (hr.mono (by decide)) rfl (pa_cons (pv 2) pa_nil)) pa_nil)))
      (pss_cons (ps_if (PW.pt (pw_or (pt_cmpR (op_neD hr.units) (pe_lc (own := [("_law_one", 12), ("_law_out", 13)]) (g := gTup K 2 (gCons (gName 12) (gCons (gName 13) gNil))) (tt := tYes) rfl sc_law_right.nd (pi_tup (pv 9)) (blkOk_by (own := [("_law_one", 12), ("_law_out", 13)]) (N := ["_law_pen_here", "_law_table_here", "_law_box", "_law_long", "_law_thing", "_law_ticks", "_law_pairs_seen", "_law_two", "_law_some", "_law_pairs", "_law_tick", "_law_pair", "_law_one", "_law_out"]) (sc := defScope s_law_right) (by decide +kernel)) (fun _ _ _ _ _ => (pg_tup rfl (pgs_cons (pg_name (i := 12) sc_law_right.nd rfl (Or.inl rfl)) (pgs_cons (pg_name (i := 13) sc_law_right.nd rfl (Or.inl rfl)) pgs_nil)))) (fun _ _ _ _ _ => pts_nil) (fun _ _ _ _ _ => (pv 12))) (pv 5) (nomark _)) (pw_or1 (pt_cmpR (op_neD hr.units) (pe_lc (own := [("_law_one", 12), ("_law_out", 13)]) (g := gTup K 2 (gCons (gName 12) (gCons (gName 13) gNil))) (tt := tYes) rfl sc_law_right.nd (pi_tup (pv 9)) (blkOk_by (own := [("_law_one", 12), ("_law_out", 13)]) (N := ["_law_pen_here", "_law_table_here", "_law_box", "_law_long", "_law_thing", "_law_ticks", "_law_pairs_seen", "_law_two", "_law_some", "_law_pairs", "_law_tick", "_law_pair", "_law_one", "_law_out"]) (sc := defScope s_law_right) (by decide +kernel)) (fun _ _ _ _ _ => (pg_tup rfl (pgs_cons (pg_name (i := 12) sc_law_right.nd rfl (Or.inl rfl)) (pgs_cons (pg_name (i := 13) sc_law_right.nd rfl (Or.inl rfl)) pgs_nil)))) (fun _ _ _ _ _ => pts_nil) (fun _ _ _ _ _ => (pv 13))) (pe_lc (own := [("_law_tick", 10)]) (g := gName 10) (tt := tYes) rfl sc_law_right.nd (pi_list (pv 5)) (blkOk_by (own := [("_law_tick", 10)]) (N := ["_law_pen_here", "_law_table_here", "_law_box", "_law_long", "_law_thing", "_law_ticks", "_law_pairs_seen", "_law_two", "_law_some", "_law_pairs", "_law_tick", "_law_pair", "_law_one", "_law_out"]) (sc := defScope s_law_right) (by decide +kernel)) (fun _ _ _ _ _ => (pg_name (i := 10) sc_law_right.nd rfl (Or.inl rfl))) (fun _ _ _ _ _ => pts_nil) (fun _ _ _ _ _ => (pe_ownIx (pv 2) (pv 10) T.ownIx FG (hr.mono (by decide)) pass0))) (nomark _))))) (pss_one (ps_ret pe_bl)) pss_nil)
      (pss_one (ps_ret (pe_and (pe_cmpR (op_eqD hr.units) (pe_cal G_fitting (hr.mono (by decide)) rfl (pa_cons (pe_op op_catA (pv 7) (pe_slice sl_tupA (pv 7) po_none (po_some pe_int))) pa_nil)) (pe_cal G_shortest (hr.mono (by decide)) rfl (pa_cons (pv 1) pa_nil)) (nomark _)) (pe_one (pe_cmpR op_isN (pe_cal G_fitting (hr.mono (by decide)) rfl (pa_cons (pe_op op_catA (pv 7) (pe_tup (pa_cons (pe_tup (pa_cons pe_int (pa_cons pe_int pa_nil))) pa_nil))) pa_nil)) pe_non (nomark _))))))))))))))))), ?_⟩
    have t1 := tt.pos
    have t2 := tt.len
    -- _law_box, _law_long = Row(_law_table_here), len(_law_table_here)
    refine ⟨_, rfl, fun x dy nx ndy ne => ?_⟩
    have sx : Same H (upd (upd H dy (.own x)) x (.ins (CR K) dy [])) := (Same.new ndy).mut nx
    refine ⟨H, x, dy, tab, t, rfl, sx, nx, upd_same, ht, tt, fun H1 R1 => ⟨rfl, _, rfl, tab, _, rfl, .inr (SqT.of (R1.same _ _ ht)), by show 2 ≤ sizeLine; decide, fun T1 hT1 => ⟨T1, _, rfl, SqT.of upd_same, rfl, _, _, rfl, _, _, rfl, rfl, ?_⟩⟩⟩
    have R2 := R1.to (Same.new (o := .tup [.ref x, .int (t.map V.int).length]) hT1)
    show tSeq _ _ _ [some (.ref pen), some (.ref tab), some (.ref x), some (.int ((t.map V.int).length : Nat)), none, none, none, none, none, none, none, none, none, none] (upd H1 T1 (.tup [.ref x, .int ((t.map V.int).length : Nat)]))
    generalize upd H1 T1 (.tup [.ref x, .int ((t.map V.int).length : Nat)]) = H2 at R2 ⊢
    rw [map_len]
    -- the pushes
    refine ⟨_, rfl, _, _, rfl, rfl, .inl ⟨by decide, by decide⟩, _, rfl, tab, t, rfl, R2.same _ _ ht, tt, fun H3 dm s3 dmem dle => ?_⟩
    have dr := tt.rng _ dmem
    obtain ⟨n, hn⟩ : ∃ n : Nat, (n : Int) = 2 * (t.length : Int) + dm := ⟨(2 * (t.length : Int) + dm).toNat, by omega⟩
    have R3 := R2.to s3
    have n1 : 1 ≤ n := by omega
    have n2 : n ≤ 108 := by omega
    refine ⟨_, _, rfl, rfl, (n : Int), by rw [hn], by omega, by omega, for_range (lo := 0) (n := ((n : Int)).toNat)
      (fun i σ H' => RowIn K H H' x tab t i ∧ ∃ v4 : Option V, σ = [some (.ref pen), some (.ref tab), some (.ref x), some (.int (t.length : Nat)), v4, none, none, none, none, none, none, none, none, none])
      ⟨R3, _, rfl⟩ ?_ ?_⟩
    · rintro i σ H4 hi ⟨R4, v4, rfl⟩
      obtain ⟨s0, np, dxr, ls, st, q, dx, e, li, lo, d, c, g, dl, kvs, nls, hp, hls, hst, S, _⟩ := id R4
      exact ⟨_, rfl, x, dxr, _, rfl, hp, rf_none (by decide +kernel), _, rfl, H, x, tab, t, i, by rw [Int.zero_add]; rfl, tt, by omega, R4, fun H' R' => ⟨R', _, rfl⟩⟩
    · rintro σ H4 ⟨R4, v4, rfl⟩
      rw [Int.toNat_natCast] at R4
      obtain ⟨s0, np, dxr, ls, st, q, dx, e, li, lo, d, c, g, dl, kvs, nls, hp, hls, hst, S, _⟩ := id R4
      clear R1 R2 R3
      -- _law_ticks = list(range(len(_law_box)))
      refine ⟨_, rfl, x, dxr, _, rfl, hp, H, x, tab, t, n, rfl, R4, _, rfl, ⟨by omega, by omega⟩, _, rfl, RgOk.of_le (by decide) (by omega) (by decide) (by omega), fun L hL => ?_⟩
      rw [rg_ins]
      have R5 := R4.to (Same.new (o := .lst (insL n)) hL)
      have hL5 : upd H4 L (.lst (insL n)) L = some (.lst (insL n)) := upd_same
      have hp5 := (Same.new (o := .lst (insL n)) hL) _ _ hp
      generalize upd H4 L (.lst (insL n)) = H5 at R5 hL5 hp5 ⊢
      -- what is seen
      refine ⟨_, rfl, L, rfl, ⟨_, SqL.of hL5⟩, fun D hD => lc_it (walk_list (K := K) (a := L) (xs := insL n)) (fun i H' => Same H5 H' ∧ LSeen H' D (seenN t i)) ⟨Same.new hD, LSeen.nil⟩ (fun i H' _ p => SqL.of (p.1 _ _ hL5)) ?_ ?_⟩
      · rintro i y H6 H7 hi ⟨s6, LS⟩ ⟨rfl, ey⟩
        rw [insL_len] at hi
        have ey := ins_get ey
        subst ey
        have R6 := R5.to s6
        refine ⟨rfl, _, rfl, _, rfl, x, dxr, _, rfl, s6 _ _ hp5, H, x, tab, t, n, i, rfl, R6, hi, rfl, _, rfl, ?_⟩
        have lb : (seenN t i).length < 1000 := by have := seen_len t i; omega
        cases e : at_ t i with
        | none => exact iteNT rfl ⟨s6, by rw [seen_succ, e, List.append_nil]; exact LS⟩
        | some j =>
          refine iteNF (fun z => nomatch z) ⟨_, rfl, _, rfl, x, dxr, _, rfl, s6 _ _ hp5, H, x, tab, t, n, i, rfl, R6, hi, _, rfl, by show 2 ≤ sizeLine; decide, fun p hp => ?_⟩
          rw [e]
          obtain ⟨acc, h1, h2, h3⟩ := (LS.to (Same.new (o := .tup [.int (j : Nat), .int (i : Nat)]) hp)).push (q := (j, i)) (p := p) upd_same lb
          exact ⟨acc, h1, h2, (s6.trans (Same.new hp)).mut hD, by rw [seen_succ, e]; exact h3⟩
      · rintro H6 ⟨s6, LS⟩
        rw [insL_len] at LS
        have R6 := R5.to s6
        have hL6 := s6 _ _ hL5
        have hp6 := s6 _ _ hp5
        obtain ⟨ps6, hD6, len6, at6⟩ := LS
        refine ⟨D, _, rfl, .inl ⟨SqL.of hD6, fun a6 ha6 => ?_⟩⟩
        have TS6 : TSeen (upd H6 a6 (.tup (ps6.map V.ref))) a6 (seenN t n) := TSeen.mk ha6 len6 at6
        have R7 := R6.to (Same.new (o := .tup (ps6.map V.ref)) ha6)
        have hL7 := (Same.new (o := .tup (ps6.map V.ref)) ha6) _ _ hL6
        have hp7 := (Same.new (o := .tup (ps6.map V.ref)) ha6) _ _ hp6
        generalize upd H6 a6 (.tup (ps6.map V.ref)) = H7 at TS6 R7 hL7 hp7 ⊢
        clear at6 hD6 len6 ha6
        -- the things of two lengths
        obtain ⟨ps7, h67, l67, g67⟩ := id TS6
        refine ⟨_, rfl, a6, rfl, ⟨_, SqT.of h67⟩, fun D2 hD2 => lc_it (walk_tup (K := K) (a := a6) (xs := ps7.map V.ref)) (fun i H' => Same H7 H' ∧ LSeen H' D2 (((seenN t n).take i).filter fun p => decide (p.1 < 2 * t.length)))
          ⟨Same.new hD2, LSeen.nil⟩ (fun i H' _ p => SqT.of (p.1 _ _ h67)) ?_ ?_⟩
        · rintro i y H8 H9 hi ⟨s8, LS⟩ ⟨rfl, ey⟩
          obtain ⟨p, ep, rfl⟩ := ps_get ey
          obtain ⟨qq, eq, hq⟩ := g67 i p ep
          have hq8 := s8 _ _ hq
          refine ⟨rfl, _, rfl, p, _, _, _, rfl, rfl, SqT.of hq8, atI_of (j := 0) rfl rfl, _, rfl, _, _, rfl, rfl, .inl ⟨by decide, by decide⟩, _, _, rfl, rfl, _, rfl, ?_⟩
          have lb : (((seenN t n).take i).filter fun p => decide (p.1 < 2 * t.length)).length < 1000 := by
            have h1 := List.length_filter_le (fun p : Nat × Nat => decide (p.1 < 2 * t.length)) ((seenN t n).take i)
            have h2 := List.length_take_le i (seenN t n)
            have h3 := seen_len t n
            have h4 : ((seenN t n).take i).length ≤ (seenN t n).length := by rw [List.length_take]; omega
            omega
          by_cases hc : qq.1 < 2 * t.length
          · obtain ⟨acc, h1, h2, h3⟩ := LS.push hq8 lb
            refine iteD (by omega) ⟨_, rfl, acc, h1, h2, s8.mut hD2, ?_⟩
            rw [take_snoc eq, List.filter_append]
            have e1 : ([qq].filter fun p => decide (p.1 < 2 * t.length)) = [qq] := by simp [hc]
            rw [e1]
            exact h3
          · refine iteDF (by omega) ⟨s8, ?_⟩
            rw [take_snoc eq, List.filter_append]
            have e1 : ([qq].filter fun p => decide (p.1 < 2 * t.length)) = [] := by simp [hc]
            rw [e1, List.append_nil]
            exact LS
        · rintro H8 ⟨s8, LS⟩
          rw [List.length_map, l67, List.take_length] at LS
          have R8 := R7.to s8
          have hL8 := s8 _ _ hL7
          have hp8 := s8 _ _ hp7
          have TS8 := TS6.to s8
          obtain ⟨ps8, hD8, len8, at8⟩ := LS
          refine ⟨D2, _, rfl, .inl ⟨SqL.of hD8, fun a7 ha7 => ?_⟩⟩
          have TW9 : TSeen (upd H8 a7 (.tup (ps8.map V.ref))) a7 (twoN t n) := TSeen.mk ha7 len8 at8
          have R9 := R8.to (Same.new (o := .tup (ps8.map V.ref)) ha7)
          have hL9 := (Same.new (o := .tup (ps8.map V.ref)) ha7) _ _ hL8
          have hp9 := (Same.new (o := .tup (ps8.map V.ref)) ha7) _ _ hp8
          have TS9 := TS8.to (Same.new (o := .tup (ps8.map V.ref)) ha7)
          generalize upd H8 a7 (.tup (ps8.map V.ref)) = H9 at TW9 R9 hL9 hp9 TS9 ⊢
          clear at8 hD8 len8 ha7
          have hlt : ∀ i, i < 2 * t.length → outN t i < n := fun i hi => by
            have := delay_bound tt dle (i := i)
            omega
          have tl := two_len tt hlt
          have FS : Full t (seenN t n) := ⟨fun i hi => (mem_seen tt).mpr ⟨hlt i hi, rfl⟩, fun p hp => ((mem_seen tt).mp hp).2, by have := seen_len t n; omega⟩
          have FT : Full t (twoN t n) := ⟨fun i hi => in_two tt hlt hi, fun p hp => ((mem_seen tt).mp (two_mem hp)).2, by omega⟩
          obtain ⟨ps9, h79, l79, g79⟩ := id TW9
          refine ⟨_, rfl, a7, _, rfl, .inr (SqT.of h79), _, rfl, _, _, rfl, rfl, .inl ⟨by decide, by decide⟩, rfl, _, rfl, iteNT (by rw [List.length_map, l79, tl]; congr 1) ?_⟩
          refine fit_ne (K := K) (R9.same _ _ ht) tt FS rfl (var_seen rfl TS9) fun H10 s10 => ⟨_, rfl, iteF ?_⟩
          have R10 := R9.to s10
          have TW10 := TW9.to s10
          refine fit_ne (K := K) (R10.same _ _ ht) tt FT rfl (var_seen rfl TW10) fun H11 s11 => ⟨_, rfl, iteF ?_⟩
          have R11 := R10.to s11
          have TW11 := TW10.to s11
          have FR : Full t (twoN t n).reverse := ⟨fun i hi => List.mem_reverse.mpr (FT.h2 i hi), fun p hp => FT.hl p (List.mem_reverse.mp hp), by rw [List.length_reverse]; exact FT.le⟩
          refine fit_ne (K := K) (R11.same _ _ ht) tt FR rfl (fun R k => ?_) fun H12 s12 => ⟨_, rfl, iteF ?_⟩
          · obtain ⟨ps, h1, h2, h3⟩ := TW11
            refine ⟨_, rfl, a7, _, rfl, SqT.of h1, fun p hp => k p _ (Same.new hp) (TSeen.rev upd_same h2 fun j b e => ?_)⟩
            obtain ⟨q2, e1, e2⟩ := h3 j b e
            exact ⟨q2, e1, (Same.new hp) _ _ e2⟩
          have R12 := R11.to s12
          have TW12 := TW11.to s12
          have s912 := (s10.trans s11).trans s12
          have hL12 := s912 _ _ hL9
          have hp12 := s912 _ _ hp9
          have pa12 := pa.to R12.same
          clear TS9 TW9 TW10 TW11 R9 R10 R11 h79 g79
          -- some of them, drawn
          obtain ⟨ps12, h12, l12, g12⟩ := id TW12
          refine ⟨_, rfl, a7, rfl, ⟨_, SqT.of h12⟩, fun D3 hD3 => ?_⟩
          have nD3 : D3 ≠ pen := fun z => by
            obtain ⟨_, _, _, e, _⟩ := pa12
            rw [← z, hD3] at e
            cases e
          have npen : ∀ {u : Addr} {o : HO}, H12 u = some o → (∀ ys, o ≠ .lst ys) → u ≠ pen := fun {u o} h n => by
            obtain ⟨_, _, _, e, _⟩ := pa12
            exact ne_of h e (n _)
          refine lc_it (walk_tup (K := K) (a := a7) (xs := ps12.map V.ref)) (fun i H' => But pen H12 H' ∧ PenAt H' pen ∧ ∃ l, LSeen H' D3 l ∧ l.length ≤ i ∧ ∀ q ∈ l, q ∈ twoN t n)
            ⟨But.of (Same.new hD3), pa12.upd nD3.symm, [], LSeen.nil, Nat.le_refl _, fun q hq => by cases hq⟩ (fun i H' _ p => SqT.of (p.1 _ _ h12 (npen h12 (by intro ys z; cases z)))) ?_ ?_
          · rintro i y H13 H14 hi ⟨b13, pa13, l, LS, ll, lm⟩ ⟨rfl, ey⟩
            obtain ⟨p, ep, rfl⟩ := ps_get ey
            obtain ⟨qq, eq, hq⟩ := g12 i p ep
            rw [List.length_map, l12, tl] at hi
            refine ⟨rfl, _, rfl, pen, 3, rfl, pa13, by decide, by decide, fun r H15 r0 r1 b15 pa15 => ⟨rfl, _, rfl, ?_⟩⟩
            have LS15 := LS.but pa13 nD3 b15
            by_cases hr0 : r = 0
            · have hq15 := b15 _ _ (b13 _ _ hq (npen hq (by intro ys z; cases z))) (npen hq (by intro ys z; cases z))
              obtain ⟨acc, h1, h2, h3⟩ := LS15.push hq15 (by omega)
              refine iteD (congrArg V.int hr0) ⟨_, rfl, acc, h1, h2, (b13.trans b15).mut hD3, pa15.upd nD3.symm, l ++ [qq], h3, by rw [List.length_append, List.length_singleton]; omega, fun q2 hq2 => ?_⟩
              rcases List.mem_append.mp hq2 with z | z
              · exact lm q2 z
              · rw [List.mem_singleton.mp z]
                exact List.mem_of_getElem? eq
            · exact iteDF (fun e => hr0 (V.int.inj e)) ⟨b13.trans b15, pa15, l, LS15, by omega, lm⟩
          · rintro H13 ⟨b13, pa13, l, LS, ll, lm⟩
            rw [List.length_map, l12, tl] at ll
            obtain ⟨ps13, hD13, len13, at13⟩ := LS
            refine ⟨D3, _, rfl, .inl ⟨SqL.of hD13, fun a8 ha8 => ?_⟩⟩
            have TL14 : TSeen (upd H13 a8 (.tup (ps13.map V.ref))) a8 l := TSeen.mk ha8 len13 at13
            have b14 : But pen H12 (upd H13 a8 (.tup (ps13.map V.ref))) := b13.new' ha8
            have pa14 : PenAt (upd H13 a8 (.tup (ps13.map V.ref))) pen := pa13.to (Same.new ha8)
            generalize upd H13 a8 (.tup (ps13.map V.ref)) = H14 at TL14 b14 pa14 ⊢
            clear at13 hD13 len13 ha8
            have R14 := R12.but pa b14
            have TW14 := TW12.but pa12 b14
            have hp14 := b14 _ _ hp12 (npen hp12 (by intro ys z; cases z))
            have nL : L ≠ pen := fun z => by
              obtain ⟨_, _, _, e, _⟩ := pa.to s0
              rw [← z, hL] at e
              cases e
            have hL14 := b14 _ _ hL12 nL
            have bH : But pen H H14 := (But.of R12.same).trans b14
            have ht14 : TabAt H14 tab t := bH _ _ ht (by
              obtain ⟨_, _, _, e, _⟩ := pa
              exact ne_of ht e (by intro z; cases z))
            refine ⟨fun σ' H' => σ' = [some (.ref pen), some (.ref tab), some (.ref x), some (.int (t.length : Nat)), v4, some (.ref L), some (.ref a6), some (.ref a7), some (.ref a8), none, none, none, none, none] ∧ Same H14 H', ?_, ?_⟩
            · obtain ⟨ps14, h814, l14, g14⟩ := id TL14
              refine ⟨_, rfl, Nat.zero_le _, fun pe hpe => ?_⟩
              have se : Same H14 (upd H14 pe (.tup [])) := Same.new hpe
              refine ⟨.tuple (l.map pd), .tuple [], .tup (SqT.of (se _ _ h814)) (dp_pairs ps14 l l14 fun j b e => let ⟨q2, e1, e2⟩ := g14 j b e; ⟨q2, e1, se _ _ e2⟩), .tup (SqT.of upd_same) .nil, shaped_pairs l, rfl, _, rfl, ?_⟩
              cases hl : l with
              | nil => exact iteF (iteF ⟨rfl, se⟩)
              | cons q0 r0 =>
                rw [← hl]
                have lp : 1 ≤ l.length := by rw [hl]; exact Nat.succ_le_succ (Nat.zero_le _)
                have ev : PyData.eqv (.tuple (l.map pd)) (.tuple []) = false := by rw [hl]; rfl
                rw [ev]
                refine iteT ⟨_, rfl, _, rfl, tab, a8, t, l.map cast2, rfl, se _ _ ht14, tt, (TL14.to se).at, by rw [List.length_map]; exact lp, by rw [List.length_map]; omega, fun p hp => ?_, fun H15 s15 => ⟨_, rfl, iteF ⟨rfl, se.trans s15⟩⟩⟩
                obtain ⟨q2, hq2, rfl⟩ := List.mem_map.mp hp
                show out t (q2.1 : Int) = (q2.2 : Int)
                rw [← tt.outN, FT.hl q2 (lm q2 hq2)]
            · rintro σ' H15 ⟨rfl, s15⟩
              have R15 := R14.to s15
              have TW15 := TW14.to s15
              have hp15 := s15 _ _ hp14
              have hL15 := s15 _ _ hL14
              have bH15 := bH.trans (But.of s15)
              have pa15 := pa14.to s15
              have ht15 : TabAt H15 tab t := s15 _ _ ht14
              clear R14 TW14 hp14 hL14 bH pa14 ht14
              -- the journal, written and read
              refine ⟨_, rfl, NoB pen H, x, tab, t, n, rfl, tt, by omega, R15, fun H16 s16 => ⟨t, n, rfl, tt, n1, by omega, fun p9 H17 s17 PA => ?_⟩⟩
              obtain ⟨ps17, h917, l17, g17⟩ := PA
              have s157 := s16.trans s17
              have R17 := R15.to s157
              have TW17 := TW15.to s157
              have hp17 := s157 _ _ hp15
              have hL17 := s157 _ _ hL15
              have bH17 := bH15.trans (But.of s157)
              have pa17 := pa15.to s157
              have ht17 : TabAt H17 tab t := s157 _ _ ht15
              clear R15 TW15 hp15 hL15 bH15 pa15 ht15
              have pget : ∀ i y, (ps17.map V.ref)[i]? = some y → ∃ p, y = .ref p ∧ H17 p = some (.tup [.int (i : Nat), ovN (at_ t i)]) := fun i y h => by
                obtain ⟨p, ep, rfl⟩ := ps_get h
                exact ⟨p, rfl, g17 i p ep⟩
              refine ⟨_, rfl, p9, rfl, ⟨_, SqT.of h917⟩, fun D4 hD4 => lc_it (walk_tup (K := K) (a := p9) (xs := ps17.map V.ref)) (fun i H' => Same H17 H' ∧ H' D4 = some (.lst (insL i))) ⟨Same.new hD4, upd_same⟩ (fun i H' _ p => SqT.of (p.1 _ _ h917)) ?_ ?_⟩
              · rintro i y H18 H19 hi ⟨s18, hD18⟩ ⟨rfl, ey⟩
                rw [List.length_map, l17] at hi
                obtain ⟨p, rfl, hq⟩ := pget i y ey
                refine ⟨p, _, rfl, SqT.of (s18 _ _ hq), rfl, _, _, rfl, _, _, rfl, rfl, rfl, tYes_mk (iteT ⟨_, rfl, _, hD18, by rw [insL_len]; exact line_lt (by omega), s18.mut hD4, by rw [upd_same, insL_succ]⟩)⟩
              · rintro H18 ⟨s18, hD18⟩
                rw [List.length_map, l17] at hD18
                have dI := dp_insL (K := K) (H := H18) n
                refine ⟨_, rfl, .list (insD n), .list (insD n), .lst (SqL.of hD18) dI, .lst (SqL.of (s18 _ _ hL17)) dI, shaped_ins n, shaped_ins n, ?_⟩
                rw [eqv_ins]
                refine ⟨_, rfl, iteF ?_⟩
                have h918 := s18 _ _ h917
                refine ⟨_, rfl, p9, rfl, ⟨_, SqT.of h918⟩, fun D5 hD5 => lc_it (walk_tup (K := K) (a := p9) (xs := ps17.map V.ref)) (fun i H' => Same H18 H' ∧ H' D5 = some (.lst (outsL t i))) ⟨Same.new hD5, upd_same⟩ (fun i H' _ p => SqT.of (p.1 _ _ h918)) ?_ ?_⟩
                · rintro i y H19 H20 hi ⟨s19, hD19⟩ ⟨rfl, ey⟩
                  rw [List.length_map, l17] at hi
                  obtain ⟨p, rfl, hq⟩ := pget i y ey
                  refine ⟨p, _, rfl, SqT.of (s19 _ _ (s18 _ _ hq)), rfl, _, _, rfl, _, _, rfl, rfl, rfl, tYes_mk (iteT ⟨_, rfl, _, hD19, by rw [outsL_len]; exact line_lt (by omega), s19.mut hD5, by rw [upd_same, outsL_succ]⟩)⟩
                · rintro H19 ⟨s19, hD19⟩
                  rw [List.length_map, l17] at hD19
                  have s179 := s18.trans s19
                  have R19 := R17.to s179
                  have hp19 := s179 _ _ hp17
                  have hL19 := s179 _ _ hL17
                  refine ⟨_, rfl, L, rfl, ⟨_, SqL.of hL19⟩, fun D6 hD6 => lc_it (walk_list (K := K) (a := L) (xs := insL n)) (fun i H' => Same H19 H' ∧ H' D6 = some (.lst (outsL t i))) ⟨Same.new hD6, upd_same⟩ (fun i H' _ p => SqL.of (p.1 _ _ hL19)) ?_ ?_⟩
                  · rintro i y H20 H21 hi ⟨s20, hD20⟩ ⟨rfl, ey⟩
                    rw [insL_len] at hi
                    have ey := ins_get ey
                    subst ey
                    exact ⟨rfl, tYes_mk (iteT ⟨_, rfl, _, rfl, x, dxr, _, rfl, s20 _ _ hp19, NoB pen H, x, tab, t, n, i, rfl, R19.to s20, hi, _, hD20, by rw [outsL_len]; exact line_lt (by omega), s20.mut hD6, by rw [upd_same, outsL_succ]⟩)⟩
                  · rintro H20 ⟨s20, hD20⟩
                    rw [insL_len] at hD20
                    refine ⟨.list (outsD t n), .list (outsD t n), .lst (SqL.of (s20 _ _ hD19)) (dp_outsL t n), .lst (SqL.of hD20) (dp_outsL t n), shaped_outs t n, shaped_outs t n, ?_⟩
                    rw [eqv_outs]
                    refine ⟨_, rfl, iteF ?_⟩
                    have s170 := s179.trans s20
                    have TW20 := TW17.to s170
                    have bH20 := bH17.trans (But.of s170)
                    have pa20 := pa17.to s170
                    have ht20 : TabAt H20 tab t := s170 _ _ ht17
                    clear R17 TW17 hp17 hL17 bH17 pa17 ht17 R19 hp19 hL19
                    -- the last two
                    have FC : Full t (twoN t n ++ (twoN t n).take 1) := ⟨fun i hi => List.mem_append_left _ (FT.h2 i hi), fun p hp => by
                      rcases List.mem_append.mp hp with z | z
                      · exact FT.hl p z
                      · exact FT.hl p (List.mem_of_mem_take z), by rw [List.length_append, List.length_take]; omega⟩
                    show tOp (rEqD K) (tCall sp_fitting [] E0 (tCons (tOp (rCatA K) (tVar 7) (tSl (rSlA K) (tVar 7) tNoPart (tPart (tC (.int 1))))) tNil)) (tCall sp_shortest [] E0 (tCons (tVar 1) tNil)) [some (.ref pen), some (.ref tab), some (.ref x), some (.int (t.length : Nat)), v4, some (.ref L), some (.ref a6), some (.ref a7), some (.ref a8), some (.ref p9), none, none, none, none] H20 _
                    refine fit_eq (K := K) ht20 tt FC rfl (fun R k => ?_) fun H21 s21 => ⟨_, rfl, iteT ?_⟩
                    · obtain ⟨ps, h1, h2, h3⟩ := TW20
                      have lp : (ps.map V.ref).length = 2 * t.length := by rw [List.length_map, h2, tl]
                      have ne : ps.map V.ref ≠ [] := fun z => by rw [z] at lp; simp at lp; omega
                      refine ⟨_, rfl, _, rfl, _, rfl, a7, _, rfl, SqT.of h1, fun z => ?_, fun _ p hp => ?_⟩
                      · exfalso
                        have z2 : HT.sIx (ps.map V.ref).length (ps.map V.ref).length (some ((1 : Nat) : Int)) = (ps.map V.ref).length := z.2
                        rw [HT.sIx_nat] at z2
                        omega
                      · have ec : cutV (ps.map V.ref) none (some (1 : Int)) = (ps.take 1).map V.ref := by
                          have := cut_take (ps.map V.ref) 1
                          rw [List.map_take]
                          exact this
                        rw [ec]
                        have nt : (ps.take 1).map V.ref ≠ [] := fun z => by
                          have z2 := congrArg List.length z
                          rw [List.length_map, List.length_take, h2, tl] at z2
                          simp at z2
                          omega
                        refine ⟨a7, p, _, _, rfl, rfl, SqT.of ((Same.new hp) _ _ h1), SqT.of upd_same, line_of (by rw [lp, List.length_map, List.length_take]; omega), fun z => absurd z ne, fun _ z => absurd z nt, fun _ _ p2 hp2 => ?_⟩
                        have ss : Same H20 (upd (upd H20 p (.tup ((ps.take 1).map V.ref))) p2 (.tup (ps.map V.ref ++ (ps.take 1).map V.ref))) := (Same.new hp).trans (Same.new hp2)
                        refine k p2 _ ss ⟨ps ++ ps.take 1, by rw [List.map_append]; exact upd_same, by rw [List.length_append, List.length_append, List.length_take, List.length_take, h2], fun j b e => ?_⟩
                        by_cases hj : j < ps.length
                        · rw [List.getElem?_append_left hj] at e
                          obtain ⟨q2, e1, e2⟩ := h3 j b e
                          exact ⟨q2, by rw [List.getElem?_append_left (by omega)]; exact e1, ss _ _ e2⟩
                        · rw [List.getElem?_append_right (by omega)] at e
                          have e3 : ps[j - ps.length]? = some b := by
                            rw [List.getElem?_take] at e
                            split at e
                            · exact e
                            · cases e
                          obtain ⟨q2, e1, e2⟩ := h3 _ b e3
                          refine ⟨q2, ?_, ss _ _ e2⟩
                          rw [List.getElem?_append_right (by omega), ← h2, List.getElem?_take]
                          rw [List.getElem?_take] at e
                          split at e
                          · rename_i hlt1
                            rw [if_pos hlt1]
                            exact e1
                          · cases e
                    · have TW21 := TW20.to s21
                      obtain ⟨ps, h1, h2, h3⟩ := TW21
                      have lp : (ps.map V.ref).length = 2 * t.length := by rw [List.length_map, h2, tl]
                      have ne : ps.map V.ref ≠ [] := fun z => by rw [z] at lp; simp at lp; omega
                      refine ⟨_, rfl, by show 2 ≤ sizeLine; decide, fun pi hpi => ⟨by show 1 ≤ sizeLine; decide, fun po hpo => ?_⟩⟩
                      have s1 : Same H21 (upd H21 pi (.tup [.int 0, .int 100])) := Same.new hpi
                      have s2 : Same H21 (upd (upd H21 pi (.tup [.int 0, .int 100])) po (.tup [.ref pi])) := s1.trans (Same.new hpo)
                      have hpi2 : (upd (upd H21 pi (.tup [.int 0, .int 100])) po (.tup [.ref pi])) pi = some (.tup [.int 0, .int 100]) := (Same.new hpo) _ _ upd_same
                      have hpo2 : (upd (upd H21 pi (.tup [.int 0, .int 100])) po (.tup [.ref pi])) po = some (.tup [.ref pi]) := upd_same
                      generalize (upd (upd H21 pi (.tup [.int 0, .int 100])) po (.tup [.ref pi])) = H22 at s2 hpi2 hpo2 ⊢
                      refine ⟨a7, po, _, _, rfl, rfl, SqT.of (s2 _ _ h1), SqT.of hpo2, line_of (by rw [lp, List.length_singleton]; omega), fun z => absurd z ne, fun _ z => (nomatch z), fun _ _ p2 hp2 => ?_⟩
                      have s3 : Same H22 (upd H22 p2 (.tup (ps.map V.ref ++ [.ref pi]))) := Same.new hp2
                      have SA : SeenAt (upd H22 p2 (.tup (ps.map V.ref ++ [.ref pi]))) p2 ((twoN t n).map cast2 ++ [(0, 100)]) := by
                        refine ⟨ps ++ [pi], by rw [List.map_append]; exact upd_same, by rw [List.length_append, List.length_append, List.length_map, h2]; rfl, fun j b e => ?_⟩
                        by_cases hj : j < ps.length
                        · rw [List.getElem?_append_left hj] at e
                          obtain ⟨q2, e1, e2⟩ := h3 j b e
                          exact ⟨cast2 q2, by rw [List.getElem?_append_left (by rw [List.length_map]; omega), List.getElem?_map, e1]; rfl, s3 _ _ (s2 _ _ e2)⟩
                        · rw [List.getElem?_append_right (by omega)] at e
                          have hj0 : j - ps.length = 0 := by
                            obtain ⟨z, _⟩ := List.getElem?_eq_some_iff.mp e
                            simp at z
                            omega
                          rw [hj0] at e
                          have : pi = b := Option.some.inj e
                          subst this
                          exact ⟨(0, 100), by rw [List.getElem?_append_right (by rw [List.length_map]; omega), List.length_map, ← h2, hj0]; rfl, s3 _ _ hpi2⟩
                      have nofit : ∀ U, IsTab U → ¬ fits U ((twoN t n).map cast2 ++ [(0, 100)]) := fun U UU F => by
                        have e1 : out U 0 = 100 := F (0, 100) (List.mem_append_right _ (List.mem_singleton.mpr rfl))
                        have e2 := UU.hrng 0
                        unfold out at e1
                        omega
                      refine ⟨p2, _, rfl, SA, by rw [List.length_append]; exact Nat.le_add_left 1 _, by rw [List.length_append, List.length_map, tl, List.length_singleton]; omega, fun p U H23 _ _ UU FU _ => absurd FU (nofit U UU), fun H23 s23 _ => ⟨rfl, ?_⟩⟩
                      have sE := ((s21.trans s2).trans s3).trans s23
                      exact k H23 (bH20.trans (But.of sE)) (pa20.to sE)
end
end Ba
end
section
set_option Elab.async false
set_option maxRecDepth 100000
set_option maxHeartbeats 8000000
/-! The law. -/
namespace Ba
open PySem PySem.Spec PyProof.Rows L2
def sp_law (K : PySem.W.Frag) : Sp := fun vs H Q _ => ∃ (a : Addr) (ns : List Int), vs = [.ref a] ∧ SqL K H a (ns.map V.int) ∧ ∀ H', Q (.bl true) H'
theorem sc_law : FnScope ["_law_script", "_law_k", "_law_pen_here", "_law_lap", "_law_table_here"] ["_law_script"] (defScope s_law) := ⟨rfl, rfl, rfl, by decide +kernel, rfl, by decide +kernel, by decide +kernel⟩
theorem sqL_same {K : PySem.W.Frag} {H H' : Hp} {a : Addr} {xs : List V} (h : SqL K H a xs) (s : Same H H') : SqL K H' a xs :=
  h.elim (fun h => .inl (h.elim (fun h => .inl (s _ _ h)) fun ⟨o, h⟩ => .inr ⟨o, s _ _ h⟩)) fun h => .inr h
theorem most_of {i : Nat} (h : i < 8) : ∃ n : Int, atI [V.int 2, V.int 4, V.int 7, V.int 12] ((0 + (i : Int)) % 4) = some (.int n) ∧ 0 < n ∧ n ≤ 12 := by
  have : i = 0 ∨ i = 1 ∨ i = 2 ∨ i = 3 ∨ i = 4 ∨ i = 5 ∨ i = 6 ∨ i = 7 := by omega
  rcases this with rfl | rfl | rfl | rfl | rfl | rfl | rfl | rfl
  · exact ⟨2, rfl, by decide, by decide⟩
  · exact ⟨4, rfl, by decide, by decide⟩
  · exact ⟨7, rfl, by decide, by decide⟩
  · exact ⟨12, rfl, by decide, by decide⟩
  · exact ⟨2, rfl, by decide, by decide⟩
  · exact ⟨4, rfl, by decide, by decide⟩
  · exact ⟨7, rfl, by decide, by decide⟩
  · exact ⟨12, rfl, by decide, by decide⟩
section
variable {P : Program} {w : World} {K : PySem.W.Frag} {mg : Str → Option Value} {base : Heap}
theorem law_ok (T : Txt K mg) {fd : FuncData} (F : Fun K "law" "law" s_law (He.ga K "law") fd) : FnOk P w K mg base CX0 8 (He.ga K "law") fd ["_law_script"] (sp_law K) := by
  have G_law_cell := cal_law_cell (P := P) (w := w) (base := base) T
  have G_law_pen := cal_law_pen (P := P) (w := w) (base := base) T
  have G_law_table := cal_law_table (P := P) (w := w) (base := base) T
  have G_law_right := cal_law_right (P := P) (w := w) (base := base) T
  refine F.ok sc_law (fun vs H Q E h => ?_) (fun cdv A outer s H vs Q E hr h => ?_)
  · obtain ⟨a, ns, rfl, _⟩ := h; rfl
  · obtain ⟨a, ns, rfl, hS, k⟩ := h
    refine ⟨_, PSs.nox (pss_cons (ps_for PassesOwn.never rfl (pi_range1 rfl T.b_range (pa_cons (pe_callB (call_max2 rfl) rfl T.b_max (by decide +kernel) (pa_cons pe_int (pa_cons (pe_callB (call_min2 rfl) rfl T.b_min (by decide +kernel) (pa_cons (pe_callB call_len_seq rfl T.b_len (by decide +kernel) (pa_cons (pv 0) pa_nil)) (pa_cons pe_int pa_nil))) pa_nil))) pa_nil)) (pg_name (i := 1) sc_law.nd rfl (Or.inl rfl)) (pss_cons (ps_set (i := 2) sc_law.nd rfl (Or.inl rfl) (pe_cal G_law_pen (hr.mono (by decide)) rfl (pa_cons (pe_cal G_law_cell (hr.mono (by decide)) rfl (pa_cons (pv 0) (pa_cons (pv 1) pa_nil))) pa_nil)))
      (pss_one (ps_for PassesOwn.never rfl (pi_range1 rfl T.b_range (pa_cons pe_int pa_nil)) (pg_name (i := 3) sc_law.nd rfl (Or.inl rfl)) (pss_cons (ps_set (i := 4) sc_law.nd rfl (Or.inl rfl) (pe_cal G_law_table (hr.mono (by decide)) rfl (pa_cons (pv 2) (pa_cons (pe_ix ix_list (pe_lst (pa_cons pe_int (pa_cons pe_int (pa_cons pe_int (pa_cons pe_int pa_nil))))) (pe_op op_mod (pv 3) pe_int) (fun _ _ => rfl)) (pa_cons pe_int pa_nil)))))
      (C8.pss_cut (ps_set (i := 4) sc_law.nd rfl (Or.inl rfl) (pe_ifExp (PW.pt (pw_and (pt_cmpR op_eq (pe_op op_mod (pv 3) pe_int) pe_int (nomark _)) (pw_and1 (pt_cmpR op_lt (pe_callB call_len_seq rfl T.b_len (by decide +kernel) (pa_cons (pv 4) pa_nil)) pe_int (nomark _))))) (pe_op op_repAny (pv 4) pe_int) (pv 4)))
      (pss_one (ps_if (pt_not (pt_val (pe_cal G_law_right (hr.mono (by decide)) rfl (pa_cons (pv 2) (pa_cons (pv 4) pa_nil))))) (pss_one (ps_ret pe_bl)) pss_nil))))))))
      (pss_one (ps_ret pe_bl))), ?_⟩
    have bnd : ∀ m : Int, ∃ c : Int, (if (if (3 : Int) < m then 3 else m) > 1 then (if (3 : Int) < m then 3 else m) else 1) = c ∧ 0 ≤ c ∧ c ≤ 3 := fun m => by
      by_cases h1 : (3 : Int) < m
      · rw [if_pos h1]
        exact ⟨3, rfl, by decide, by decide⟩
      · rw [if_neg h1]
        by_cases h2 : m > 1
        · rw [if_pos h2]
          exact ⟨m, rfl, by omega, by omega⟩
        · rw [if_neg h2]
          exact ⟨1, rfl, by decide, by decide⟩
    refine ⟨_, rfl, a, _, rfl, .inl hS, _, _, rfl, _, _, rfl, ?_⟩
    obtain ⟨m, em, m0, m1⟩ := bnd ((ns.map V.int).length : Int)
    refine ⟨m, by rw [em], by omega, by omega, for_range (lo := 0) (n := m.toNat)
      (fun i σ H' => Same H H' ∧ ∃ v1 v2 v3 v4 : Option V, σ = [some (.ref a), v1, v2, v3, v4]) ⟨Same.refl H, _, _, _, _, rfl⟩ ?_ ?_⟩
    · rintro i σ H1 hi ⟨s1, v1, v2, v3, v4, rfl⟩
      refine ⟨_, rfl, _, rfl, a, ns, i, by rw [Int.zero_add]; rfl, sqL_same hS s1, fun c => ⟨c, rfl, fun pen H2 s2 np pa2 => ?_⟩⟩
      have npen := s1.free np
      have s02 := s1.trans s2
      refine ⟨8, rfl, by decide, by decide, for_range (lo := 0) (n := 8)
        (fun j σ H' => But pen H2 H' ∧ PenAt H' pen ∧ ∃ v3 v4 : Option V, σ = [some (.ref a), some (.int (0 + (i : Int))), some (.ref pen), v3, v4]) ⟨But.of (Same.refl _), pa2, _, _, rfl⟩ ?_ ?_⟩
      · rintro j σ H3 hj ⟨b3, pa3, v3, v4, rfl⟩
        obtain ⟨n, en, n0, n1⟩ := most_of hj
        refine ⟨_, rfl, by show 4 ≤ sizeLine; decide, fun pl hpl => ⟨_, rfl, _, _, rfl, rfl, (by decide : (0 : Int) < 4), pl, _, _, _, rfl, rfl, SqL.of upd_same, en, pen, n, rfl, pa3.to (Same.new hpl), n0, n1, fun p t H4 b4 pa4 ht tt tl => ?_⟩⟩
        have b24 := (b3.new' (o := .lst [.int 2, .int 4, .int 7, .int 12]) hpl).trans b4
        refine ⟨fun σ' H' => ∃ p t, σ' = [some (.ref a), some (.int (0 + (i : Int))), some (.ref pen), some (.int (0 + (j : Int))), some (.ref p)] ∧ TabAt H' p t ∧ IsTab t ∧ But pen H2 H' ∧ PenAt H' pen, ?_, ?_⟩
        · refine ⟨_, rfl, _, _, rfl, rfl, (by decide : (0 : Int) < 3), rfl, _, rfl, ?_⟩
          by_cases c3 : (0 + (j : Int)) % 3 = 0
          · refine iteD (congrArg V.int c3) ⟨_, rfl, p, _, rfl, .inr (SqT.of ht), _, _, rfl, rfl, _, rfl, iteD (by rw [map_len]; omega) ⟨_, rfl, ?_⟩⟩
            dsimp only [tC]
            have ne : t ≠ [] := fun z => by have := tt.pos; rw [z] at this; exact absurd this (by decide)
            have er : rep t (2 : Int).toNat = t ++ t := by
              show rep t (1 + 1) = _
              rw [rep_succ, rep_succ]
              show t ++ (t ++ []) = _
              rw [List.append_nil]
            refine repA_of (k := 2) ht ne (by decide) (by decide) (by omega) fun p2 H5 s5 h5 => ?_
            rw [er] at h5
            exact ⟨p2, t ++ t, rfl, h5, tt.twice tl, b24.trans (But.of s5), pa4.to s5⟩
          · exact iteDF (fun e => c3 (V.int.inj e)) (iteF ⟨_, rfl, p, t, rfl, ht, tt, b24, pa4⟩)
        · rintro σ' H5 ⟨p, t, rfl, ht, tt, b5, pa5⟩
          exact ⟨_, rfl, _, rfl, pen, p, t, rfl, pa5, ht, tt, fun H6 b6 pa6 => ⟨_, rfl, iteF ⟨b5.trans b6, pa6, _, _, rfl⟩⟩⟩
      · rintro σ H3 ⟨b3, pa3, v3, v4, rfl⟩
        exact ⟨b3.same s02 npen, _, _, _, _, rfl⟩
    · rintro σ H1 ⟨s1, v1, v2, v3, v4, rfl⟩
      exact k H1
end
end Ba
end
set_option Elab.async false
set_option linter.all false
set_option maxRecDepth 100000
set_option maxHeartbeats 0
/-! What the head tells, as the walk takes it; the end. -/
namespace Ba
open PySem PySem.Spec PyProof.Rows L2
theorem fa_mem {f : He.Fa} (i : Nat) (h : fa[i]? = some f) : f ∈ fa := List.mem_of_getElem? h
theorem more_ok {K : PySem.W.Frag} (cR : Cls K (CR K)) (M : Meth K (CR K) "__getitem__" (He.ma K (CR K) "__getitem__")) (h : ex K = true) : PropOf K (CR K) "tick" (tickP K) (tickG K) ∧ OwnIx K (CR K) (He.ma K (CR K) "__getitem__") ∧ C8.InsC K (CR K) := by
  obtain ⟨h1, h⟩ := He.ba h
  obtain ⟨h2, h⟩ := He.ba h
  obtain ⟨h3, h⟩ := He.ba h
  obtain ⟨h4, h⟩ := He.ba h
  obtain ⟨h5, h⟩ := He.ba h
  obtain ⟨h6, h⟩ := He.ba h
  obtain ⟨h7, h⟩ := He.ba h
  obtain ⟨h8, h⟩ := He.ba h
  obtain ⟨h9, h⟩ := He.ba h
  obtain ⟨h10, h11⟩ := He.ba h
  refine ⟨⟨He.eqO_ok h1, He.eqO_ok h2, of_decide_eq_true h3, ?_⟩, ?_, ⟨cR, He.eqO_ok h7, He.eqO_ok h8, of_decide_eq_true h9, of_decide_eq_true h10, of_decide_eq_true h11⟩⟩
  · unfold isTickRec at h4
    unfold tickG
    cases e : PySem.W.recIn K (tickP K) "property" with
    | none => rw [e] at h4; cases h4
    | some l =>
      cases l with
      | nil => rw [e] at h4; cases h4
      | cons v r =>
        cases v with
        | ref g => exact ⟨r, rfl⟩
        | _ => rw [e] at h4; cases h4
  · exact ⟨M.at_, M.fn, h6⟩
theorem txt_of {K : PySem.W.Frag} {h : Heap} {mg : Str → Option Value} (X : K.In h) (G : h.Ns mainGlobals mg) (c : SaysK fa ex fn K) : Txt K mg := by
  have E := more_ok (He.cls_ok (c.fact (f := .cls "Row") (fa_mem 55 rfl))) (He.meth_ok (c.fact (f := .meth "Row" "__getitem__") (fa_mem 73 rfl))) c.more
  exact
   { b_isinstance := He.free_ok X G (c.fact (f := .free "isinstance") (fa_mem 32 rfl))
     b_int := He.free_ok X G (c.fact (f := .free "int") (fa_mem 33 rfl))
     b_bool := He.free_ok X G (c.fact (f := .free "bool") (fa_mem 34 rfl))
     b_str := He.free_ok X G (c.fact (f := .free "str") (fa_mem 35 rfl))
     b_tuple := He.free_ok X G (c.fact (f := .free "tuple") (fa_mem 36 rfl))
     b_list := He.free_ok X G (c.fact (f := .free "list") (fa_mem 37 rfl))
     b_dict := He.free_ok X G (c.fact (f := .free "dict") (fa_mem 38 rfl))
     b_len := He.free_ok X G (c.fact (f := .free "len") (fa_mem 39 rfl))
     b_enumerate := He.free_ok X G (c.fact (f := .free "enumerate") (fa_mem 40 rfl))
     b_all := He.free_ok X G (c.fact (f := .free "all") (fa_mem 41 rfl))
     b_range := He.free_ok X G (c.fact (f := .free "range") (fa_mem 42 rfl))
     b_max := He.free_ok X G (c.fact (f := .free "max") (fa_mem 43 rfl))
     b_min := He.free_ok X G (c.fact (f := .free "min") (fa_mem 44 rfl))
     b_zip := He.free_ok X G (c.fact (f := .free "zip") (fa_mem 45 rfl))
     LONGEST := He.int_ok X G (c.fact (f := .int "LONGEST" 24) (fa_mem 46 rfl))
     GREATEST_HOLD := He.int_ok X G (c.fact (f := .int "GREATEST_HOLD" 60) (fa_mem 47 rfl))
     MOST_SEEN := He.int_ok X G (c.fact (f := .int "MOST_SEEN" 200) (fa_mem 48 rfl))
     MOST_LETTERS := He.int_ok X G (c.fact (f := .int "MOST_LETTERS" 10) (fa_mem 49 rfl))
     DIGITS := He.str_ok X G (c.fact (f := .str "DIGITS" "0123456789") (fa_mem 50 rfl))
     LETTERS := He.str_ok X G (c.fact (f := .str "LETTERS" "abcdefghijklmnopqrstuvwxyz") (fa_mem 51 rfl))
     gRow := He.glo_ok X G (c.fact (f := .glo "Row") (fa_mem 53 rfl))
     gStand := He.glo_ok X G (c.fact (f := .glo "Stand") (fa_mem 52 rfl))
     clR := He.cls_ok (c.fact (f := .cls "Row") (fa_mem 55 rfl))
     clS := He.cls_ok (c.fact (f := .cls "Stand") (fa_mem 54 rfl))
     mkR := He.mkr_ok (c.fact (f := .mkr "Row") (fa_mem 57 rfl))
     mkS := He.mkr_ok (c.fact (f := .mkr "Stand") (fa_mem 56 rfl))
     n_own := He.noat_ok (c.fact (f := .noat "Stand" "own") (fa_mem 58 rfl))
     n_begin := He.noat_ok (c.fact (f := .noat "Stand" "begin") (fa_mem 59 rfl))
     n_coming := He.noat_ok (c.fact (f := .noat "Stand" "coming") (fa_mem 60 rfl))
     n_ins := He.noat_ok (c.fact (f := .noat "Stand" "ins") (fa_mem 61 rfl))
     n_outs := He.noat_ok (c.fact (f := .noat "Stand" "outs") (fa_mem 62 rfl))
     n_due := He.noat_ok (c.fact (f := .noat "Stand" "due") (fa_mem 63 rfl))
     n_cuts := He.noat_ok (c.fact (f := .noat "Stand" "cuts") (fa_mem 64 rfl))
     n_gone := He.noat_ok (c.fact (f := .noat "Stand" "gone") (fa_mem 65 rfl))
     n_many := He.noat_ok (c.fact (f := .noat "Stand" "many") (fa_mem 66 rfl))
     n_later := He.noat_ok (c.fact (f := .noat "Stand" "later") (fa_mem 67 rfl))
     n_stands := He.noat_ok (c.fact (f := .noat "Row" "stands") (fa_mem 68 rfl))
     d_is_integer := ⟨(c.def_ 0 (d := d_is_integer) rfl), He.glo_ok X G (c.fact (f := .glo "is_integer") (fa_mem 0 rfl))⟩
     d_is_between := ⟨(c.def_ 1 (d := d_is_between) rfl), He.glo_ok X G (c.fact (f := .glo "is_between") (fa_mem 1 rfl))⟩
     d_is_onto := ⟨(c.def_ 2 (d := d_is_onto) rfl), He.glo_ok X G (c.fact (f := .glo "is_onto") (fa_mem 2 rfl))⟩
     d_is_table := ⟨(c.def_ 3 (d := d_is_table) rfl), He.glo_ok X G (c.fact (f := .glo "is_table") (fa_mem 3 rfl))⟩
     d_need_table := ⟨(c.def_ 4 (d := d_need_table) rfl), He.glo_ok X G (c.fact (f := .glo "need_table") (fa_mem 4 rfl))⟩
     d_need_integer := ⟨(c.def_ 5 (d := d_need_integer) rfl), He.glo_ok X G (c.fact (f := .glo "need_integer") (fa_mem 5 rfl))⟩
     d_hold_of := ⟨(c.def_ 6 (d := d_hold_of) rfl), He.glo_ok X G (c.fact (f := .glo "hold_of") (fa_mem 6 rfl))⟩
     d_out_of := ⟨(c.def_ 7 (d := d_out_of) rfl), He.glo_ok X G (c.fact (f := .glo "out_of") (fa_mem 7 rfl))⟩
     d_shortened := ⟨(c.def_ 8 (d := d_shortened) rfl), He.glo_ok X G (c.fact (f := .glo "shortened") (fa_mem 8 rfl))⟩
     d_out_at := ⟨(c.def_ 9 (d := d_out_at) rfl), He.glo_ok X G (c.fact (f := .glo "out_at") (fa_mem 9 rfl))⟩
     d_delay := ⟨(c.def_ 10 (d := d_delay) rfl), He.glo_ok X G (c.fact (f := .glo "delay") (fa_mem 10 rfl))⟩
     d_shortest := ⟨(c.def_ 11 (d := d_shortest) rfl), He.glo_ok X G (c.fact (f := .glo "shortest") (fa_mem 11 rfl))⟩
     d_are_seen := ⟨(c.def_ 12 (d := d_are_seen) rfl), He.glo_ok X G (c.fact (f := .glo "are_seen") (fa_mem 12 rfl))⟩
     d_known_holds := ⟨(c.def_ 13 (d := d_known_holds) rfl), He.glo_ok X G (c.fact (f := .glo "known_holds") (fa_mem 13 rfl))⟩
     d_fitted := ⟨(c.def_ 14 (d := d_fitted) rfl), He.glo_ok X G (c.fact (f := .glo "fitted") (fa_mem 14 rfl))⟩
     d_fitting := ⟨(c.def_ 15 (d := d_fitting) rfl), He.glo_ok X G (c.fact (f := .glo "fitting") (fa_mem 15 rfl))⟩
     d_is_value := ⟨(c.def_ 16 (d := d_is_value) rfl), He.glo_ok X G (c.fact (f := .glo "is_value") (fa_mem 16 rfl))⟩
     d_need_value := ⟨(c.def_ 17 (d := d_need_value) rfl), He.glo_ok X G (c.fact (f := .glo "need_value") (fa_mem 17 rfl))⟩
     d_copied := ⟨(c.def_ 18 (d := d_copied) rfl), He.glo_ok X G (c.fact (f := .glo "copied") (fa_mem 18 rfl))⟩
     d_hold_ahead := ⟨(c.def_ 19 (d := d_hold_ahead) rfl), He.glo_ok X G (c.fact (f := .glo "hold_ahead") (fa_mem 19 rfl))⟩
     d_number_in := ⟨(c.def_ 20 (d := d_number_in) rfl), He.glo_ok X G (c.fact (f := .glo "number_in") (fa_mem 20 rfl))⟩
     d_value_in := ⟨(c.def_ 21 (d := d_value_in) rfl), He.glo_ok X G (c.fact (f := .glo "value_in") (fa_mem 21 rfl))⟩
     d_journal_text := ⟨(c.def_ 22 (d := d_journal_text) rfl), He.glo_ok X G (c.fact (f := .glo "journal_text") (fa_mem 22 rfl))⟩
     d_pair_in := ⟨(c.def_ 23 (d := d_pair_in) rfl), He.glo_ok X G (c.fact (f := .glo "pair_in") (fa_mem 23 rfl))⟩
     d_read_journal := ⟨(c.def_ 24 (d := d_read_journal) rfl), He.glo_ok X G (c.fact (f := .glo "read_journal") (fa_mem 24 rfl))⟩
     d_law_cell := ⟨(c.def_ 25 (d := d_law_cell) rfl), He.glo_ok X G (c.fact (f := .glo "_law_cell") (fa_mem 25 rfl))⟩
     d_law_pen := ⟨(c.def_ 26 (d := d_law_pen) rfl), He.glo_ok X G (c.fact (f := .glo "_law_pen") (fa_mem 26 rfl))⟩
     d_law_draw := ⟨(c.def_ 27 (d := d_law_draw) rfl), He.glo_ok X G (c.fact (f := .glo "_law_draw") (fa_mem 27 rfl))⟩
     d_law_table := ⟨(c.def_ 28 (d := d_law_table) rfl), He.glo_ok X G (c.fact (f := .glo "_law_table") (fa_mem 28 rfl))⟩
     d_law_some_right := ⟨(c.def_ 29 (d := d_law_some_right) rfl), He.glo_ok X G (c.fact (f := .glo "_law_some_right") (fa_mem 29 rfl))⟩
     d_law_right := ⟨(c.def_ 30 (d := d_law_right) rfl), He.glo_ok X G (c.fact (f := .glo "_law_right") (fa_mem 30 rfl))⟩
     d_law := ⟨(c.def_ 31 (d := d_law) rfl), He.glo_ok X G (c.fact (f := .glo "law") (fa_mem 31 rfl))⟩
     Stand_init := (c.def_ 32 (d := d_Stand_init) rfl)
     Row_init := (c.def_ 33 (d := d_Row_init) rfl)
     Row_put_out := ⟨(c.def_ 34 (d := d_Row_put_out) rfl), He.meth_ok (c.fact (f := .meth "Row" "put_out") (fa_mem 69 rfl))⟩
     Row_step := ⟨(c.def_ 35 (d := d_Row_step) rfl), He.meth_ok (c.fact (f := .meth "Row" "step") (fa_mem 70 rfl))⟩
     Row_push := ⟨(c.def_ 36 (d := d_Row_push) rfl), He.meth_ok (c.fact (f := .meth "Row" "push") (fa_mem 71 rfl))⟩
     Row_push_all := ⟨(c.def_ 37 (d := d_Row_push_all) rfl), He.meth_ok (c.fact (f := .meth "Row" "push_all") (fa_mem 72 rfl))⟩
     Row_getitem := ⟨(c.def_ 38 (d := d_Row_getitem) rfl), He.meth_ok (c.fact (f := .meth "Row" "__getitem__") (fa_mem 73 rfl))⟩
     Row_len := ⟨(c.def_ 39 (d := d_Row_len) rfl), He.meth_ok (c.fact (f := .meth "Row" "__len__") (fa_mem 74 rfl))⟩
     tick := (c.def_ 40 (d := d_Row_tick) rfl)
     tickP := E.1
     ownIx := E.2.1
     isRow := E.2.2 }
theorem law_binds {K : PySem.W.Frag} {f : Addr} {fd : FuncData} (F : Fun K "law" "law" s_law f fd) (s : Shared) (v : Value) : BindsTo s fd ⟨[v], []⟩ [("_law_script", v)] := by
  obtain ⟨oc, od, kV, doc, pm, an, cdv, ct, osl, rfl, lk, hcd⟩ := F.ex
  exact .of_eq rfl
theorem facts {P : Program} {w : World} {K : PySem.W.Frag} {h : Heap} {mg : Str → Option Value} {f : Addr} (X : K.In h) (G : h.Ns mainGlobals mg) (hfa : mg ("law" : Str) = some (.ref f)) (c : SaysK fa ex fn K) :
    ∃ fd : FuncData, (∀ (s : Shared) (v : Value), BindsTo s fd ⟨[v], []⟩ [("_law_script", v)]) ∧ ∀ base : Heap, K.In base → base.Ns mainGlobals mg → FnOk P w K mg base CX0 8 f fd ["_law_script"] (sp_law K) := by
  have T := txt_of X G c
  obtain ⟨⟨fd, F⟩, g⟩ := T.d_law
  have e := hfa.symm.trans g
  cases e
  exact ⟨fd, fun s v => law_binds F s v, fun base _ _ => law_ok T F⟩
end Ba
open PySem PySem.W PySem.Calls PyProof.Rows
theorem PySem.Challenge.cw_burstapart_k77_whole_tables_by_what_was_holds : PySem.Challenge.rw_burstapart_k77_whole_tables_by_what_was.Holds := by
  w_on; o_law
  refine HandSHeadRun.head_any (r := OpenLaw.row PySem.Challenge.rw_burstapart_k77_whole_tables_by_what_was) (q := view (OpenLaw.row PySem.Challenge.rw_burstapart_k77_whole_tables_by_what_was).prog [57]) (H := Ba.hk) (ob := Ba.ob) (M := 6000) (loose := Ba.names) (d := HandSHeadRun.topDef (OpenLaw.row PySem.Challenge.rw_burstapart_k77_whole_tables_by_what_was).prog 57) (kwd := []) Ba.ob_eq
    (by kernel_rfl) (fun s => by kernel_rfl) Ba.run (by kernel_rfl) (by kernel_rfl) (by kernel_rfl) (by rfl) (by first | assumption | decide +kernel) (by decide +kernel) ⟨rfl, rfl, rfl, rfl, rfl, by decide +kernel⟩ ?hw ?hc
  case hw => w_witness2
  case hc =>
    refine L2.walk_ofE (l := PySem.Challenge.rw_burstapart_k77_whole_tables_by_what_was) (n := 63) (k := 8) (x := "_law_script") (CX := L2.CX0) rfl (by decide) (by kernel_rfl) ⟨rfl, by decide, by decide⟩ ?F (fun _ _ _ _ z => z)
    intro w mg fa h Y G hmg0
    obtain ⟨K, KX, c⟩ := Y
    have hmg : mg ("law" : PySem.Str) = some (.ref fa) := by
      have e : (HandSHeadRun.topDef (OpenLaw.row PySem.Challenge.rw_burstapart_k77_whole_tables_by_what_was).prog 57).name = ("law" : PySem.Str) := by kernel_rfl
      rw [← e]
      exact hmg0
    obtain ⟨fd, hb, hF⟩ := Ba.facts (P := (PySem.Challenge.rw_burstapart_k77_whole_tables_by_what_was).prog) (w := w) KX G hmg c
    exact ⟨K, fd, Ba.sp_law K, KX, hb, fun H a ns hl _ hS => ⟨a, ns, rfl, hS, fun _ => rfl⟩, hF⟩
