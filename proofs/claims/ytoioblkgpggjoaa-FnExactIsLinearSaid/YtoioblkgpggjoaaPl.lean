/- The plain law of IsLinear; no conditions. -/
import Derived.Test.YtoioblkgpggjoaaPb
import Derived.Test.YtoioblkgpggjoaaFn
import Derived.Test.YtoioblkgpggjoaaV5
set_option linter.unusedVariables false
set_option linter.unusedSimpArgs false

open Go Go.Va
namespace T
def big : Nat := 4611686018427387904

theorem szIntS_ok {a : List Int} {left : Int} (h0 : 0 ≤ left) (h1 : left ≤ 4611686018427387904) (ha : a.length ≤ 9223372036854775807) : laws_szIntS a left = some (szR a.length left) := by
  unfold laws_szIntS szR
  rw [w64_id (by omega) (by omega)]
  by_cases h : (a.length : Int) ≤ left
  · rw [if_neg (by simp; omega), if_pos h]
  · rw [if_pos (by simp; omega), if_neg h]

/-- all numbers, and the rows -/
def totSS (a : List (List Int)) : Nat := a.length + (a.map List.length).sum
theorem szIntSS_ok {a : List (List Int)} {left : Int} (h0 : 0 ≤ left) (h1 : left ≤ 1099511627775) (ha : a.length ≤ 9223372036854775807) (hr : ∀ r ∈ a, r.length ≤ 9223372036854775807) : laws_szIntSS a left = some (szR (totSS a) left) := by
  unfold laws_szIntSS
  rw [w64_id (by omega) (by omega)]
  by_cases h : (a.length : Int) ≤ left
  · rw [if_neg (by simp; omega)]
    have key := loopX0 a (fun n s i => laws_szIntSS_L5 n (a, s, i)) (fun s r => (laws_szIntS r s).bind fun q => if q < 0 then some (.inr (.inr (-1))) else some (.inl q)) (fun s => some (.inl s)) ?_ ?_ (n := fuel) (by unfold fuel; omega) (left - a.length)
    · rw [key]
      have run : ∀ (l : List (List Int)) (s : Int), 0 ≤ s → s ≤ 1099511627775 → (∀ r ∈ l, r.length ≤ 9223372036854775807) →
          runX (fun s r => (laws_szIntS r s).bind fun q => if q < 0 then some (.inr (.inr (-1))) else some (.inl q)) (fun s => some (.inl s)) l s = some (if ((l.map List.length).sum : Int) ≤ s then (.inl (s - (l.map List.length).sum) : Int ⊕ Int) else .inr (-1)) := by
        intro l
        induction l with
        | nil => intro s h0 _ _; simp [runX, h0]
        | cons r l ih =>
          intro s h0 h1 hr
          simp only [runX]
          rw [szIntS_ok h0 (by omega) (hr r (by simp))]
          unfold szR
          by_cases h : (r.length : Int) ≤ s
          · rw [if_pos h]
            simp only [Option.bind_some]
            rw [if_neg (by omega)]
            dsimp only
            rw [ih (s - r.length) (by omega) (by omega) fun r hr' => hr r (List.mem_cons_of_mem _ hr')]
            simp only [List.map_cons, List.sum_cons]
            congr 1
            by_cases h2 : (((l.map List.length).sum : Nat) : Int) ≤ s - r.length
            · rw [if_pos h2, if_pos (by omega)]; congr 1; omega
            · rw [if_neg h2, if_neg (by omega)]
          · rw [if_neg h]
            simp only [List.map_cons, List.sum_cons]
            rw [if_neg (by omega)]
            rfl
      rw [run a _ (by omega) (by omega) hr]
      unfold szR totSS
      by_cases h2 : (((a.map List.length).sum : Nat) : Int) ≤ left - a.length
      · rw [if_pos h2, if_pos (by omega)]
        simp only [Option.bind_some, Option.some.injEq]; omega
      · rw [if_neg h2, if_neg (by omega)]; rfl
    · intro n s k hk
      simp only [laws_szIntSS_L5, inb_nat, gd_nat hk, w64_succ (show k < 4611686018427387904 by omega)]
      simp [hk]
      cases laws_szIntS a[k] s with
      | none => rfl
      | some q => by_cases hq : q < 0 <;> simp [hq]
    · intro n s
      simp [laws_szIntSS_L5]
  · rw [if_pos (by simp; omega)]
    unfold szR totSS
    rw [if_neg (by omega)]

theorem toIntS_ok {a : List Int} (ha : a.length ≤ 1099511627775) : laws_toIntS a = some a := by
  unfold laws_toIntS
  rw [if_pos (by unfold lim; omega)]
  have key := fillX0 a (fun n out i => laws_toIntS_L3 n (a, out, i)) id some ?_ ?_ (n := fuel) (out := List.replicate (Int.toNat (a.length : Int)) (0 : Int)) (by simp) (by unfold fuel; omega)
  · rw [key]; simp
  · intro n out k hk hl
    simp only [laws_toIntS_L3, inb_nat, gd_nat hk, stt_nat, w64_succ (show k < 4611686018427387904 by omega)]
    simp [hk, hl]
  · intro n out hl
    simp [laws_toIntS_L3]
theorem toIntSS_ok {a : List (List Int)} (ha : a.length ≤ 1099511627775) (hr : ∀ r ∈ a, r.length ≤ 1099511627775) : laws_toIntSS a = some a := by
  unfold laws_toIntSS
  rw [if_pos (by unfold lim; omega)]
  have key := fillX0 a (fun n out i => laws_toIntSS_L3 n (a, out, i)) id some ?_ ?_ (n := fuel) (out := List.replicate (Int.toNat (a.length : Int)) ([] : List Int)) (by simp) (by unfold fuel; omega)
  · rw [key]; simp
  · intro n out k hk hl
    simp only [laws_toIntSS_L3, inb_nat, gd_nat hk, stt_nat, w64_succ (show k < 4611686018427387904 by omega)]
    simp [hk, hl, toIntS_ok (hr _ (List.getElem_mem hk))]
  · intro n out hl
    simp [laws_toIntSS_L3]

theorem eqIntS_ok {a b : List Int} (ha : a.length ≤ 1099511627775) : laws_eqIntS a b = some (decide (a = b)) := by
  unfold laws_eqIntS
  by_cases hl : a.length = b.length
  · rw [if_neg (by simp [hl]), eqX a b hl (fun n i => laws_eqIntS_L4 n (a, b, i)) ?_ ?_ (by unfold fuel; omega)]
    · by_cases h : a = b <;> simp [h]
    · intro n k h1 h2
      simp only [laws_eqIntS_L4, inb_nat, gd_nat h1, gd_nat h2, w64_succ (show k < 4611686018427387904 by omega)]
      by_cases h : a[k] = b[k] <;> simp [h1, h2, h]
    · intro n
      simp [laws_eqIntS_L4]
  · rw [if_pos (by simp; omega), decide_eq_false (fun e => hl (by rw [e]))]
theorem eqIntSS_ok {a b : List (List Int)} (ha : a.length ≤ 1099511627775) (hr : ∀ r ∈ a, r.length ≤ 1099511627775) : laws_eqIntSS a b = some (decide (a = b)) := by
  unfold laws_eqIntSS
  by_cases hl : a.length = b.length
  · rw [if_neg (by simp [hl]), eqX a b hl (fun n i => laws_eqIntSS_L4 n (a, b, i)) ?_ ?_ (by unfold fuel; omega)]
    · by_cases h : a = b <;> simp [h]
    · intro n k h1 h2
      simp only [laws_eqIntSS_L4, inb_nat, gd_nat h1, gd_nat h2, w64_succ (show k < 4611686018427387904 by omega), eqIntS_ok (hr _ (List.getElem_mem h1))]
      by_cases h : a[k] = b[k] <;> simp [h1, h2, h]
    · intro n
      simp [laws_eqIntSS_L4]
  · rw [if_pos (by simp; omega), decide_eq_false (fun e => hl (by rw [e]))]

/- linears -/
abbrev Lin := Int × Int × List (List Int)
/-- a linear of a size that a machine holds -/
def linS (a : Lin) : Prop := a.2.2.length ≤ 1048576 ∧ ∀ r ∈ a.2.2, r.length ≤ 1048576
theorem mem_sum {l : List (List Int)} : ∀ {r : List Int}, r ∈ l → r.length ≤ (l.map List.length).sum := by
  induction l with
  | nil => intro r h; cases h
  | cons x l ih =>
    intro r h
    rw [List.map_cons, List.sum_cons]
    rcases List.mem_cons.1 h with rfl | h
    · omega
    · have := ih h; omega
theorem szLinear_ok {a : Lin} (ha : a.2.2.length ≤ 9223372036854775807) (hr : ∀ r ∈ a.2.2, r.length ≤ 9223372036854775807) : laws_szLinear a 1048576 = some (szR (totSS a.2.2) 1048576) := by
  unfold laws_szLinear
  rw [szIntSS_ok (by omega) (by omega) ha hr]
  unfold szR
  split
  · simp only [Option.bind_some]; rw [if_neg (by simp; omega)]
  · rfl
theorem szLinear_small {a : Lin} (h : ¬ szR (totSS a.2.2) 1048576 < 0) : linS a := by
  unfold szR totSS at h
  split at h
  · exact ⟨by omega, fun r hr => by have := mem_sum hr; omega⟩
  · omega
theorem toLinear_ok {a : Lin} (h : linS a) : laws_toLinear a = some a := by
  unfold laws_toLinear
  rw [toIntSS_ok (by have := h.1; omega) fun r hr => by have := h.2 r hr; omega]
  rfl
theorem eqLinear_ok {a b : Lin} (h : linS a) : laws_eqLinear a b = some (decide (a = b)) := by
  unfold laws_eqLinear
  rw [eqIntSS_ok (by have := h.1; omega) fun r hr => by have := h.2 r hr; omega]
  obtain ⟨a1, a2, a3⟩ := a
  obtain ⟨b1, b2, b3⟩ := b
  by_cases h1 : a1 = b1
  · by_cases h2 : a2 = b2
    · by_cases h3 : a3 = b3 <;> simp [h1, h2, h3]
    · simp [h1, h2]
  · simp [h1]

/- primes, sizes -/
def primeB (p : Int) : Bool := p == 2 || p == 3 || p == 5 || p == 7
theorem impl_isPrime_ok (p : Int) : impl_isPrime p = some (primeB p) := by
  unfold impl_isPrime primeB
  by_cases h2 : p = 2
  · simp [h2]
  · by_cases h3 : p = 3
    · simp [h3]
    · by_cases h5 : p = 5 <;> simp [h2, h3, h5]
theorem spec_l21Prime_ok (p : Int) : spec_l21Prime p = some (primeB p) := by
  unfold spec_l21Prime primeB
  by_cases h2 : p = 2
  · simp [h2]
  · by_cases h3 : p = 3
    · simp [h3]
    · by_cases h5 : p = 5 <;> simp [h2, h3, h5]
theorem spec_l1In_ok (x a b : Int) : spec_l1In x a b = some (decide (a ≤ x ∧ x ≤ b)) := by
  unfold spec_l1In
  by_cases h : a ≤ x <;> simp [h]
/-- all numbers are below n -/
def belowB (n : Int) (l : List Int) : Bool := l.all fun x => decide (0 ≤ x ∧ x < n)
theorem impl_inSize_ok {l : List Int} (n : Int) (hl : l.length ≤ 1099511627775) : impl_inSize l n = some (belowB n l) := by
  unfold impl_inSize
  rw [allX l (fun m i => impl_inSize_L2 m (n, l, (l.length : Int), i)) (fun x => decide (0 ≤ x ∧ x < n)) (.inr false) (.inl ()) ?_ ?_ (by unfold fuel; omega)]
  · unfold belowB; cases l.all (fun x => decide (0 ≤ x ∧ x < n)) <;> simp
  · intro m k hk
    simp only [impl_inSize_L2, inb_nat, gd_nat hk, w64_succ (show k < 4611686018427387904 by omega)]
    by_cases h1 : l[k] < 0
    · simp [hk, h1, show ¬ 0 ≤ l[k] by omega]
    · by_cases h2 : n ≤ l[k]
      · simp [hk, h1, h2, show ¬ l[k] < n by omega]
      · simp [hk, h1, h2, show 0 ≤ l[k] ∧ l[k] < n by omega]
  · intro m
    simp [impl_inSize_L2]
theorem spec_l2Elements_ok {l : List Int} {n : Int} (hn : -9223372036854775808 < n) (hn' : n ≤ 9223372036854775807) (hl : l.length ≤ 1099511627775) : spec_l2Elements n l = some (belowB n l) := by
  unfold spec_l2Elements
  rw [allX l (fun m i => spec_l2Elements_L2 m (n, l, i)) (fun x => decide (0 ≤ x ∧ x < n)) (.inr false) (.inl ()) ?_ ?_ (by unfold fuel; omega)]
  · unfold belowB; cases l.all (fun x => decide (0 ≤ x ∧ x < n)) <;> simp
  · intro m k hk
    simp only [spec_l2Elements_L2, inb_nat, gd_nat hk, w64_succ (show k < 4611686018427387904 by omega), spec_l1In_ok, w64_id (show -9223372036854775808 ≤ n - 1 by omega) (show n - 1 ≤ 9223372036854775807 by omega)]
    by_cases h1 : 0 ≤ l[k] ∧ l[k] < n
    · simp [hk, h1, show l[k] ≤ n - 1 by omega]
    · have : ¬ (0 ≤ l[k] ∧ l[k] ≤ n - 1) := by omega
      simp [hk, h1, this]
  · intro m
    simp [spec_l2Elements_L2]
theorem spec_l8Tuple_ok {l : List Int} {n : Int} (k : Int) (hn : -9223372036854775808 < n) (hn' : n ≤ 9223372036854775807) (hl : l.length ≤ 1099511627775) : spec_l8Tuple n k l = some (decide ((l.length : Int) = k) && belowB n l) := by
  unfold spec_l8Tuple
  rw [spec_l2Elements_ok hn hn' hl]
  by_cases h : (l.length : Int) = k <;> simp [h]

/-- a linear is valid -/
def goodB (a : Lin) : Bool := primeB a.1 && decide (0 ≤ a.2.1 ∧ a.2.1 ≤ 8) && decide (a.2.2.length ≤ 8) && a.2.2.all fun r => decide ((r.length : Int) = a.2.1 + 1) && belowB a.1 r
theorem primeB_bd {p : Int} (h : primeB p = true) : 2 ≤ p ∧ p ≤ 7 := by
  unfold primeB at h; simp at h; omega
theorem impl_IsLinear_ok {a : Lin} (h : linS a) : impl_IsLinear a = some (goodB a) := by
  obtain ⟨p, v, rows⟩ := a
  unfold impl_IsLinear goodB
  rw [impl_isPrime_ok]
  cases hp : primeB p with
  | false => simp [hp]
  | true =>
    by_cases h1 : v < 0
    · simp [hp, h1, show ¬ 0 ≤ v by omega]
    · by_cases h2 : v > 8
      · simp [hp, h1, h2, show ¬ v ≤ 8 by omega]
      · by_cases h3 : rows.length > 8
        · simp [hp, h1, h2, show ¬ rows.length ≤ 8 by omega, show (rows.length : Int) > 8 by omega]
        · have key := allX rows (fun m i => impl_IsLinear_L4 m ((p, (v, rows)), rows, (rows.length : Int), i)) (fun r => decide ((r.length : Int) = v + 1) && belowB p r) (.inr false) (.inl ()) ?_ ?_ (n := fuel) (by unfold fuel; omega)
          · simp only [Option.bind_some, hp, Bool.not_true, Bool.false_eq_true, if_false]
            rw [if_neg (by simpa using h1), if_neg (by simpa using h2), if_neg (by simp; omega), key]
            cases rows.all (fun r => decide ((r.length : Int) = v + 1) && belowB p r) <;> simp <;> omega
          · intro m k hk
            have hlen := h.2 rows[k] (List.getElem_mem hk)
            simp only [impl_IsLinear_L4, inb_nat, gd_nat hk, w64_succ (show k < 4611686018427387904 by omega), w64_id (show -9223372036854775808 ≤ v + 1 by omega) (show v + 1 ≤ 9223372036854775807 by omega), impl_inSize_ok p (show rows[k].length ≤ 1099511627775 by omega)]
            by_cases h4 : (rows[k].length : Int) = v + 1
            · cases hb : belowB p rows[k] <;> simp [hk, h4, hb]
            · simp [hk, h4]
          · intro m
            simp [impl_IsLinear_L4]
theorem spec_l21Rows_ok {rows : List (List Int)} {p v : Int} (hp : 2 ≤ p ∧ p ≤ 7) (hv : 0 ≤ v ∧ v ≤ 8) (hl : rows.length ≤ 8) (hr : ∀ r ∈ rows, r.length ≤ 1099511627775) : spec_l21Rows p v rows = some (rows.all fun r => decide ((r.length : Int) = v + 1) && belowB p r) := by
  unfold spec_l21Rows
  rw [allX rows (fun m i => spec_l21Rows_L2 m (p, v, rows, i)) (fun r => decide ((r.length : Int) = v + 1) && belowB p r) (.inr false) (.inl ()) ?_ ?_ (by unfold fuel; omega)]
  · cases rows.all (fun r => decide ((r.length : Int) = v + 1) && belowB p r) <;> simp
  · intro m k hk
    simp only [spec_l21Rows_L2, inb_nat, gd_nat hk, w64_succ (show k < 4611686018427387904 by omega), w64_id (show -9223372036854775808 ≤ v + 1 by omega) (show v + 1 ≤ 9223372036854775807 by omega), spec_l8Tuple_ok _ (by omega : -9223372036854775808 < p) (by omega) (hr _ (List.getElem_mem hk))]
    cases hb : (decide ((rows[k].length : Int) = v + 1) && belowB p rows[k]) <;> simp [hk]
  · intro m
    simp [spec_l21Rows_L2]
theorem spec_IsLinear_ok {a : Lin} (h : linS a) : spec_IsLinear a = some (goodB a) := by
  obtain ⟨p, v, rows⟩ := a
  unfold spec_IsLinear spec_l21Good goodB
  rw [spec_l21Prime_ok, spec_l1In_ok]
  cases hp : primeB p with
  | false => simp [hp]
  | true =>
    have hb := primeB_bd hp
    by_cases h1 : 0 ≤ v ∧ v ≤ 8
    · by_cases h3 : rows.length ≤ 8
      · rw [spec_l21Rows_ok hb h1 h3 fun r hr => by have := h.2 r hr; omega]
        simp [hp, h1, h3, show (rows.length : Int) ≤ 8 by omega]
      · simp [hp, h1, h3, show ¬ (rows.length : Int) ≤ 8 by omega]
    · simp [hp, h1]

theorem FnExactIsLinear_ok {a : Lin} (ha : a.2.2.length ≤ 9223372036854775807) (hr : ∀ r ∈ a.2.2, r.length ≤ 9223372036854775807) : laws_FnExactIsLinear a = some true := by
  unfold laws_FnExactIsLinear
  rw [szLinear_ok (a := (a.1, (a.2.1, a.2.2))) ha hr]
  simp only [Option.bind_some]
  by_cases h : szR (totSS a.2.2) 1048576 < 0
  · rw [if_pos (by simpa using h)]
  · have hs := szLinear_small h
    rw [if_neg (by simpa using h)]
    simp only [toLinear_ok hs, spec_IsLinear_ok hs, impl_IsLinear_ok hs, eqLinear_ok hs, Option.bind_some]
    simp

theorem FnExactIsLinear_law {a : Lin} (h : wfT (.pair .int (.pair .int (.slice (.slice .int)))) a) : laws_FnExactIsLinear a = some true :=
  FnExactIsLinear_ok h.2.2.1 fun r hr => (h.2.2.2 r hr).1
end T
