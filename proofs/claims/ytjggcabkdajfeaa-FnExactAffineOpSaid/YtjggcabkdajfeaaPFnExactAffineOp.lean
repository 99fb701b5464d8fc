/- Plain lemmas on the typed functions of the program, and the plain law of FnExactAffineOp; no conditions. -/
import Derived.Test.YtjggcabkdajfeaaV1
import Derived.Test.YtjggcabkdajfeaaV5
set_option linter.all false
namespace Go.Va
theorem w64_def (x : Int) : w64 x = (x + 9223372036854775808) % 18446744073709551616 - 9223372036854775808 := by
  simp [w64, IntKind.wrap, IntKind.bits, IntKind.signed]
  split <;> omega
theorem w64_id {x : Int} (h1 : -9223372036854775808 ≤ x) (h2 : x ≤ 9223372036854775807) : w64 x = x := by
  rw [w64_def]; omega
theorem w64_succ {k : Nat} (h : k < 4611686018427387904) : w64 ((k : Int) + 1) = ((k + 1 : Nat) : Int) := by
  rw [w64_id (by omega) (by omega)]; rfl
theorem inb_nat {α : Type} {k : Nat} {xs : List α} : inb (k : Int) xs ↔ k < xs.length := by
  unfold inb; omega
theorem gd_nat {α : Type} {k : Nat} {xs : List α} {d : α} (h : k < xs.length) : gd xs (k : Int) d = xs[k] := by
  unfold gd; simp [h]
theorem stt_nat {α : Type} {k : Nat} {xs : List α} {x : α} : stt xs (k : Int) x = xs.set k x := by
  unfold stt; simp
/-- a loop that holds two lists against each other -/
theorem eqX {α : Type} [DecidableEq α] (a b : List α) (hl : a.length = b.length) (L : Nat → Int → Option (Unit ⊕ Bool))
    (hs : ∀ n (k : Nat) (h1 : k < a.length) (h2 : k < b.length), L (n + 1) k = if a[k] = b[k] then L n ((k + 1 : Nat) : Int) else some (.inr false)) (he : ∀ n, L (n + 1) (a.length : Nat) = some (.inl ())) {n : Nat} (hn : a.length < n) :
    L n 0 = some (if a = b then .inl () else .inr false) := by
  have key : ∀ (n k : Nat), k ≤ a.length → a.length - k < n → L n k = some (if a.drop k = b.drop k then .inl () else .inr false) := by
    intro n
    induction n with
    | zero => intro k _ h; omega
    | succ n ih =>
      intro k hk hn
      rcases Nat.lt_or_ge k a.length with hlt | hge
      · have h2 : k < b.length := by omega
        have e : (a.drop k = b.drop k) ↔ (a[k] = b[k] ∧ a.drop (k + 1) = b.drop (k + 1)) := by
          rw [List.drop_eq_getElem_cons hlt, List.drop_eq_getElem_cons h2]; exact List.cons_eq_cons
        rw [hs n k hlt h2]
        by_cases h : a[k] = b[k]
        · rw [if_pos h, ih (k + 1) hlt (by omega)]
          by_cases h3 : a.drop (k + 1) = b.drop (k + 1)
          · rw [if_pos h3, if_pos (e.2 ⟨h, h3⟩)]
          · rw [if_neg h3, if_neg fun h' => h3 (e.1 h').2]
        · rw [if_neg h, if_neg fun h' => h (e.1 h').1]
      · have : k = a.length := by omega
        subst this
        rw [he, List.drop_length, hl, List.drop_length]; rfl
  have := key n 0 (Nat.zero_le _) (by omega)
  simpa using this
/-- a loop whose states are known -/
theorem forS {σ β : Type} (N : Nat) (L : Nat → σ → Int → Option β) (S : Nat → σ) {r : Option β}
    (hs : ∀ n (k : Nat), k < N → L (n + 1) (S k) k = L n (S (k + 1)) ((k + 1 : Nat) : Int)) (he : ∀ n, L (n + 1) (S N) (N : Nat) = r) {n : Nat} (hn : N < n) : L n (S 0) 0 = r := by
  have key : ∀ (n k : Nat), k ≤ N → N - k < n → L n (S k) k = r := by
    intro n
    induction n with
    | zero => intro k _ h; omega
    | succ n ih =>
      intro k hk hn
      rcases Nat.lt_or_ge k N with hlt | hge
      · rw [hs n k hlt]; exact ih (k + 1) hlt (by omega)
      · have : k = N := by omega
        subst this; exact he n
  exact key n 0 (Nat.zero_le _) (by omega)
end Go.Va
set_option linter.unusedVariables false
open Go Go.Va
namespace T
def fuel : Nat := 1099511627776
def spec_l1In (x : Int) (a : Int) (b : Int) : Option (Bool) :=
  if decide (x ≥ a) then
    some (decide (x ≤ b))
  else
    some false
def laws_eqIntS_L4 : Nat → ((List Int) × (List Int) × Int) → Option ((Unit) ⊕ (Bool))
  | 0, _ => none
  | n + 1, (a, b, i) =>
    if decide (i < (a.length : Int)) then
      if inb i a then
        if inb i b then
          if (gd a i 0) != (gd b i 0) then
            some (.inr false)
          else
            laws_eqIntS_L4 n (a, b, w64 (i + 1))
        else none
      else none
    else
      some (.inl ())
def laws_eqIntS (a : List Int) (b : List Int) : Option (Bool) :=
  if (a.length : Int) != (b.length : Int) then
    some false
  else
    (laws_eqIntS_L4 fuel (a, b, 0)).bind fun s1 =>
      match s1 with
      | .inl s2 =>
        some true
      | .inr s3 =>
        some s3
def spec_l6Size (n_ : Int) : Option (Bool) :=
  (spec_l1In n_ 1 8).bind fun r1 =>
    some r1
def impl_isSize (n_ : Int) : Option (Bool) :=
  if decide (n_ ≥ 1) then
    some (decide (n_ ≤ 8))
  else
    some false
end T
open Go Go.Va
namespace T
theorem eqIntS_ok {a b : List Int} (ha : a.length ≤ 1099511627775) : laws_eqIntS a b = some (decide (a = b)) := by
  unfold laws_eqIntS
  by_cases hl : a.length = b.length
  · rw [if_neg (by simp [hl]), eqX a b hl (fun n i => laws_eqIntS_L4 n (a, b, i)) ?_ ?_ (by unfold fuel; omega)]
    · by_cases h : a = b <;> simp [h]
    · intro n k h1 h2
      simp only [laws_eqIntS_L4, inb_nat, gd_nat h1, gd_nat h2, w64_succ (show k < 4611686018427387904 by omega)]
      by_cases h : a[k] = b[k] <;> simp [h1, h2, h]
    · intro n
      simp [laws_eqIntS_L4]
  · rw [if_pos (by simp; omega), decide_eq_false (fun e => hl (by rw [e]))]
theorem spec_l1In_ok (x a b : Int) : spec_l1In x a b = some (decide (a ≤ x ∧ x ≤ b)) := by
  unfold spec_l1In
  by_cases h : a ≤ x <;> simp [h]
end T
open Go Go.Va
namespace T
def sizeB (n : Int) : Bool := decide (1 ≤ n ∧ n ≤ 8)
theorem impl_isSize_ok (n : Int) : impl_isSize n = some (sizeB n) := by
  unfold impl_isSize sizeB
  by_cases h : 1 ≤ n <;> simp [h]
theorem spec_l6Size_ok (n : Int) : spec_l6Size n = some (sizeB n) := by
  unfold spec_l6Size sizeB
  rw [spec_l1In_ok]; simp
end T
set_option linter.unusedVariables false
open Go Go.Va
namespace T
def laws_markIntS_L2 : Nat → ((List Int) × Int × Int) → Option ((List Int) × Int)
  | 0, _ => none
  | n + 1, (a, k, i) =>
    if decide (i < (a.length : Int)) then
      if inb i a then
        laws_markIntS_L2 n (stt a i k, w64 (k + 1), w64 (i + 1))
      else none
    else
      some (a, k)
def laws_markIntS (a : List Int) (k : Int) : Option ((List Int) × Int) :=
  (laws_markIntS_L2 fuel (a, k, 0)).bind fun s1 =>
    some (s1.1, s1.2)
def laws_heldIntS_L2 : Nat → ((List Int) × Int × Int) → Option ((Int) ⊕ (Int))
  | 0, _ => none
  | n + 1, (a, k, i) =>
    if decide (i < (a.length : Int)) then
      if inb i a then
        if (gd a i 0) != k then
          some (.inr (-1))
        else
          laws_heldIntS_L2 n (a, w64 (k + 1), w64 (i + 1))
      else none
    else
      some (.inl k)
def laws_heldIntS (a : List Int) (k : Int) : Option (Int) :=
  (laws_heldIntS_L2 fuel (a, k, 0)).bind fun s1 =>
    match s1 with
    | .inl s2 =>
      some s2
    | .inr s3 =>
      some s3
end T
open Go Go.Va
namespace T
/- networks -/
abbrev Con := List Int × Int × List (List Int)
abbrev Net := Int × Int × List Con
end T
open Go Go.Va
namespace T
theorem getD_set_of {α : Type} {l : List α} {i j : Nat} {y d : α} : (l.set i y).getD j d = if i = j ∧ j < l.length then y else l.getD j d := by
  simp only [List.getD_eq_getElem?_getD, List.getElem?_set]
  by_cases h : i = j
  · subst h
    by_cases h2 : i < l.length
    · simp [h2]
    · simp [h2]
  · simp [h]
end T
open Go Go.Va
namespace T
/- marks: each place gets the next number -/
def mkL {α : Type} (f : α → Int → α × Int) : List α → Int → List α × Int
  | [], k => ([], k)
  | x :: l, k => ((f x k).1 :: (mkL f l (f x k).2).1, (mkL f l (f x k).2).2)
theorem mkL_snoc {α : Type} (f : α → Int → α × Int) : ∀ (l : List α) (x : α) (k : Int), mkL f (l ++ [x]) k = ((mkL f l k).1 ++ [(f x (mkL f l k).2).1], (f x (mkL f l k).2).2)
  | [], x, k => by simp [mkL]
  | y :: l, x, k => by
    simp only [List.cons_append, mkL]
    rw [mkL_snoc f l x]
theorem mkL_len {α : Type} (f : α → Int → α × Int) : ∀ (l : List α) (k : Int), (mkL f l k).1.length = l.length
  | [], _ => rfl
  | x :: l, k => by simp [mkL, mkL_len f l]
/-- how far the numbers go -/
theorem mkL_far {α : Type} {f : α → Int → α × Int} {w : α → Nat} : ∀ (l : List α) (k : Int), (∀ x ∈ l, ∀ k, (f x k).2 = k + w x) → (mkL f l k).2 = k + ((l.map w).sum : Nat)
  | [], k, _ => by simp [mkL]
  | x :: l, k, h => by
    simp only [mkL, List.map_cons, List.sum_cons]
    rw [mkL_far l _ fun y hy => h y (List.mem_cons_of_mem _ hy), h x (by simp)]; push_cast; omega
/-- a loop that marks -/
theorem markX {α β : Type} (N : Nat) (L : Nat → List α → Int → Int → Option β) (f : α → Int → α × Int) (w : α → Nat) (B : Int) (fin : List α → Int → Option β) (xs : List α) (k0 : Int) (hN : xs.length = N) (hw : ∀ x ∈ xs, ∀ k, (f x k).2 = k + w x)
    (h0 : 0 ≤ k0) (hB : k0 + ((xs.map w).sum : Nat) ≤ B)
    (hs : ∀ n (a : List α) (k : Int) (i : Nat) (hi : i < N) (hl : a.length = N), a[i]'(by omega) ∈ xs → 0 ≤ k → k + w (a[i]'(by omega)) ≤ B → L (n + 1) a k i = L n (a.set i (f (a[i]'(by omega)) k).1) (f (a[i]'(by omega)) k).2 ((i + 1 : Nat) : Int))
    (he : ∀ n a k, a.length = N → L (n + 1) a k (N : Nat) = fin a k) {n : Nat} (hn : N < n) : L n xs k0 0 = fin (mkL f xs k0).1 (mkL f xs k0).2 := by
  have far : ∀ i, i ≤ N → (mkL f (xs.take i) k0).2 = k0 + (((xs.take i).map w).sum : Nat) := fun i _ => mkL_far _ _ fun x hx => hw x (List.mem_of_mem_take hx)
  have := forS N (fun n (s : List α × Int) i => L n s.1 s.2 i) (fun i => ((mkL f (xs.take i) k0).1 ++ xs.drop i, (mkL f (xs.take i) k0).2)) (r := fin (mkL f xs k0).1 (mkL f xs k0).2) (fun n i hi => ?_) (fun n => ?_) hn
  · simpa [mkL] using this
  · have hix : i < xs.length := by omega
    have hlen : (mkL f (xs.take i) k0).1.length = i := by rw [mkL_len]; simp; omega
    have hl2 : ((mkL f (xs.take i) k0).1 ++ xs.drop i).length = N := by simp [hlen]; omega
    have hget : ((mkL f (xs.take i) k0).1 ++ xs.drop i)[i]'(by omega) = xs[i] := by
      rw [List.getElem_append_right (by omega)]; simp [hlen]
    have hsum : (((xs.take i).map w).sum : Nat) + w xs[i] ≤ (xs.map w).sum := by
      have h1 : xs = xs.take i ++ xs[i] :: xs.drop (i + 1) := by rw [← List.drop_eq_getElem_cons hix, List.take_append_drop]
      have h2 : (xs.map w).sum = ((xs.take i).map w).sum + (w xs[i] + ((xs.drop (i + 1)).map w).sum) := by
        conv => lhs; rw [h1]
        rw [List.map_append, List.sum_append, List.map_cons, List.sum_cons]
      omega
    have hf := far i (by omega)
    dsimp only
    rw [hs n _ _ i hi hl2 (by rw [hget]; exact List.getElem_mem hix) (by omega) (by rw [hget, hf]; omega), hget, List.take_succ_eq_append_getElem hix, mkL_snoc]
    congr 1
    rw [List.set_append_right _ _ (by omega), hlen, Nat.sub_self, List.drop_eq_getElem_cons hix, List.set_cons_zero, List.append_assoc]; rfl
  · dsimp only
    rw [List.take_of_length_le (by omega), List.drop_of_length_le (by omega), List.append_nil]
    exact he n _ _ (by rw [mkL_len]; exact hN)
/-- a loop that looks for the marks finds them -/
theorem heldX {α : Type} (f : α → Int → α × Int) (h : α → Int → Option Int) (w : α → Nat) (B : Int) : ∀ (xs : List α) (k0 : Int) (L : Nat → Int → Int → Option (Int ⊕ Int)) (j : Nat), (∀ x ∈ xs, ∀ k, (f x k).2 = k + w x) → 0 ≤ k0 → k0 + ((xs.map w).sum : Nat) ≤ B →
    (∀ x ∈ xs, ∀ k, 0 ≤ k → k + w x ≤ B → h (f x k).1 k = some (f x k).2) →
    (∀ n k (i : Nat) (hi : i < xs.length), 0 ≤ k → k + w xs[i] ≤ B → L (n + 1) k ((j + i : Nat) : Int) = (h ((mkL f xs k0).1[i]'(by rw [mkL_len]; exact hi)) k).bind fun q => if q < 0 then some (.inr (-1)) else L n q ((j + i + 1 : Nat) : Int)) →
    (∀ n k, L (n + 1) k ((j + xs.length : Nat) : Int) = some (.inl k)) → ∀ n, xs.length < n → L n k0 (j : Int) = some (.inl (mkL f xs k0).2)
  | [], k0, L, j, _, _, _, _, _, he, n, hn => by
    obtain ⟨n, rfl⟩ : ∃ m, n = m + 1 := ⟨n - 1, by simp at hn; omega⟩
    have := he n k0
    simpa [mkL] using this
  | x :: xs, k0, L, j, hw, h0, hB, hh, hs, he, n, hn => by
    obtain ⟨n, rfl⟩ : ∃ m, n = m + 1 := ⟨n - 1, by simp at hn; omega⟩
    rw [List.map_cons, List.sum_cons] at hB
    have hx := hw x (by simp) k0
    have h1 := hs n k0 0 (by simp) h0 (by simp only [List.getElem_cons_zero]; omega)
    simp only [Nat.add_zero, mkL, List.getElem_cons_zero] at h1
    rw [h1, hh x (by simp) k0 h0 (by omega)]
    simp only [Option.bind_some]
    rw [if_neg (by omega)]
    have := heldX f h w B xs (f x k0).2 L (j + 1) (fun y hy => hw y (List.mem_cons_of_mem _ hy)) (by omega) (by rw [hx]; omega) (fun y hy => hh y (List.mem_cons_of_mem _ hy))
      (fun n k i hi hk0 hkB => by
        have := hs n k (i + 1) (by simpa using hi) hk0 (by simpa using hkB)
        simp only [mkL, List.getElem_cons_succ] at this
        rw [show j + 1 + i = j + (i + 1) by omega]; exact this)
      (fun n k => by have := he n k; rw [List.length_cons] at this; rw [show j + 1 + xs.length = j + (xs.length + 1) by omega]; exact this) n (by simp at hn; omega)
    exact this
abbrev BM : Int := 1152921504606846976
def mInt (_ : Int) (k : Int) : Int × Int := (k, k + 1)
def mIntS (l : List Int) (k : Int) : List Int × Int := mkL mInt l k
theorem sum_one {α : Type} : ∀ (l : List α), (l.map fun _ => 1).sum = l.length
  | [] => rfl
  | _ :: l => by rw [List.map_cons, List.sum_cons, sum_one l, List.length_cons]; omega
theorem mIntS_far (l : List Int) (k : Int) : (mIntS l k).2 = k + (l.length : Nat) := by
  unfold mIntS
  rw [mkL_far (w := fun _ => 1) l k fun _ _ _ => rfl, sum_one]
theorem markIntS_ok {l : List Int} {k : Int} (hl : l.length ≤ 1048576) (h0 : 0 ≤ k) (hB : k + l.length ≤ BM) : laws_markIntS l k = some (mIntS l k) := by
  unfold laws_markIntS
  have := markX l.length (fun n a k i => laws_markIntS_L2 n (a, k, i)) mInt (fun _ => 1) BM (fun a k => some (a, k)) l k rfl (fun _ _ _ => rfl) h0 (by rw [sum_one]; exact hB) (fun n a k i hi hl' _ hk0 hkB => ?_) (fun n a k hl' => ?_) (n := fuel) (by unfold fuel; omega)
  · rw [this]; rfl
  · have hk1 : w64 (k + 1) = k + 1 := w64_id (by omega) (by unfold BM at hkB; omega)
    simp only [laws_markIntS_L2, inb_nat, stt_nat, w64_succ (show i < 4611686018427387904 by omega), hk1, mInt]
    simp [hl', hi]
  · simp [laws_markIntS_L2, hl']
theorem heldIntS_ok {l : List Int} {k : Int} (hl : l.length ≤ 1048576) (h0 : 0 ≤ k) (hB : k + l.length ≤ BM) : laws_heldIntS (mIntS l k).1 k = some (mIntS l k).2 := by
  unfold laws_heldIntS
  have hlen : (mIntS l k).1.length = l.length := mkL_len _ _ _
  have := heldX mInt (fun x k => if x = k then some (k + 1) else some (-1)) (fun _ => 1) BM l k (fun n k' i => laws_heldIntS_L2 n ((mIntS l k).1, k', i)) 0 (fun _ _ _ => rfl) h0 (by rw [sum_one]; exact hB) (fun x _ k' _ _ => by simp [mInt])
    (fun n k' i hi hk0 hkB => by
      have hi' : i < (mIntS l k).1.length := by omega
      have hk1 : w64 (k' + 1) = k' + 1 := w64_id (by omega) (by unfold BM at hkB; omega)
      rw [Nat.zero_add]
      simp only [laws_heldIntS_L2, inb_nat, gd_nat hi', w64_succ (show i < 4611686018427387904 by omega), hk1]
      have e : (mkL mInt l k).1[i]'(by rw [mkL_len]; exact hi) = (mIntS l k).1[i] := rfl
      rw [e]
      by_cases h : (mIntS l k).1[i] = k'
      · simp [hi', hi, h, hlen, show ¬ k' + 1 < 0 by omega]
      · simp [hi', hi, h, hlen])
    (fun n k' => by rw [Nat.zero_add]; simp [laws_heldIntS_L2, hlen]) fuel (by unfold fuel; omega)
  rw [show ((0 : Nat) : Int) = 0 from rfl] at this
  rw [this]; rfl
end T
set_option linter.unusedVariables false
open Go Go.Va
namespace T
def laws_eqOp (a : Int × (List Int)) (b : Int × (List Int)) : Option (Bool) :=
  if a.1 != b.1 then
    some false
  else
    (laws_eqIntS a.2 b.2).bind fun r1 =>
      if !r1 then
        some false
      else
        some true
def laws_markOp (a : Int × (List Int)) (k : Int) : Option ((Unit × (List Int)) × Int) :=
  (laws_markIntS a.2 k).bind fun r1 =>
    some (((), r1.1), r1.2)
end T
open Go Go.Va
namespace T
/- operations -/
abbrev Opn := Int × List Int
section
variable {n : Int} {f : Opn}
variable {a : Net}
theorem eqOp_ok {g : Opn} (h : f.2.length ≤ 1048576) : laws_eqOp f g = some (decide (f = g)) := by
  unfold laws_eqOp
  rw [eqIntS_ok (by omega)]
  obtain ⟨f1, f2⟩ := f
  obtain ⟨g1, g2⟩ := g
  by_cases h1 : f1 = g1
  · by_cases h2 : f2 = g2 <;> simp [h1, h2]
  · simp [h1]
end
end T
open Go Go.Va
namespace T
/- tables -/
abbrev T3 := List (List (List Bool))
abbrev T4 := List (List (List (List Bool)))
def Cell4 (s : Nat) (c : List (List Bool)) : Prop := c.length = s ∧ ∀ x, x < s → (c.getD x []).length = s
def Row4 (n s : Nat) (r : T3) : Prop := r.length = n ∧ ∀ j, j < n → Cell4 s (r.getD j [])
def Ok4 (n s : Nat) (t : T4) : Prop := t.length = n ∧ ∀ i, i < n → Row4 n s (t.getD i [])
def r4 (t : T4) (i j x y : Nat) : Bool := (((t.getD i []).getD j []).getD x []).getD y false
def s4 (t : T4) (i j x y : Nat) (b : Bool) : T4 := t.set i ((t.getD i []).set j (((t.getD i []).getD j []).set x ((((t.getD i []).getD j []).getD x []).set y b)))
def Ok3 (n m : Nat) (u : T3) : Prop := u.length = n ∧ ∀ i, i < n → (u.getD i []).length = n ∧ ∀ j, j < n → ((u.getD i []).getD j []).length = m
def r3 (u : T3) (i j p : Nat) : Bool := ((u.getD i []).getD j []).getD p false
def s3 (u : T3) (i j p : Nat) (b : Bool) : T3 := u.set i ((u.getD i []).set j (((u.getD i []).getD j []).set p b))
section
variable {n s m : Nat} {t : T4} {u : T3}
theorem Ok4.at (h : Ok4 n s t) {i j x : Nat} (hi : i < n) (hj : j < n) (hx : x < s) : i < t.length ∧ j < (t.getD i []).length ∧ x < ((t.getD i []).getD j []).length ∧ (((t.getD i []).getD j []).getD x []).length = s :=
  ⟨by rw [h.1]; exact hi, by rw [(h.2 i hi).1]; exact hj, by rw [((h.2 i hi).2 j hj).1]; exact hx, ((h.2 i hi).2 j hj).2 x hx⟩
theorem Ok3.at (h : Ok3 n m u) {i j : Nat} (hi : i < n) (hj : j < n) : i < u.length ∧ j < (u.getD i []).length ∧ ((u.getD i []).getD j []).length = m :=
  ⟨by rw [h.1]; exact hi, by rw [(h.2 i hi).1]; exact hj, (h.2 i hi).2 j hj⟩
theorem s4_ok (h : Ok4 n s t) {i j x y : Nat} {b : Bool} : Ok4 n s (s4 t i j x y b) := by
  unfold s4
  refine ⟨by rw [List.length_set]; exact h.1, fun i' hi' => ?_⟩
  rw [getD_set_of]
  split
  · rename_i hc
    obtain ⟨rfl, _⟩ := hc
    have hr := h.2 i hi'
    refine ⟨by rw [List.length_set]; exact hr.1, fun j' hj' => ?_⟩
    rw [getD_set_of]
    split
    · rename_i hc
      obtain ⟨rfl, _⟩ := hc
      have hcl := hr.2 j hj'
      refine ⟨by rw [List.length_set]; exact hcl.1, fun x' hx' => ?_⟩
      rw [getD_set_of]
      split
      · rename_i hc
        obtain ⟨rfl, _⟩ := hc
        rw [List.length_set]; exact hcl.2 x hx'
      · exact hcl.2 x' hx'
    · exact hr.2 j' hj'
  · exact h.2 i' hi'
theorem s3_ok (h : Ok3 n m u) {i j p : Nat} {b : Bool} : Ok3 n m (s3 u i j p b) := by
  unfold s3
  refine ⟨by rw [List.length_set]; exact h.1, fun i' hi' => ?_⟩
  rw [getD_set_of]
  split
  · rename_i hc
    obtain ⟨rfl, _⟩ := hc
    have hr := h.2 i hi'
    refine ⟨by rw [List.length_set]; exact hr.1, fun j' hj' => ?_⟩
    rw [getD_set_of]
    split
    · rename_i hc
      obtain ⟨rfl, _⟩ := hc
      rw [List.length_set]; exact hr.2 j hj'
    · exact hr.2 j' hj'
  · exact h.2 i' hi'
theorem r4_s4 (h : Ok4 n s t) {i j x y : Nat} {b : Bool} (hi : i < n) (hj : j < n) (hx : x < s) (hy : y < s) (i' j' x' y' : Nat) :
    r4 (s4 t i j x y b) i' j' x' y' = if i = i' ∧ j = j' ∧ x = x' ∧ y = y' then b else r4 t i' j' x' y' := by
  obtain ⟨h1, h2, h3, h4⟩ := h.at hi hj hx
  unfold r4 s4
  rw [getD_set_of]
  by_cases e1 : i = i'
  · subst e1
    rw [if_pos ⟨rfl, h1⟩, getD_set_of]
    by_cases e2 : j = j'
    · subst e2
      rw [if_pos ⟨rfl, h2⟩, getD_set_of]
      by_cases e3 : x = x'
      · subst e3
        rw [if_pos ⟨rfl, h3⟩, getD_set_of]
        by_cases e4 : y = y'
        · subst e4; rw [if_pos ⟨rfl, by omega⟩, if_pos ⟨rfl, rfl, rfl, rfl⟩]
        · rw [if_neg (by omega), if_neg (by omega)]
      · rw [if_neg (by omega), if_neg (by omega)]
    · rw [if_neg (by omega), if_neg (by omega)]
  · rw [if_neg (by omega), if_neg (by omega)]
theorem r3_s3 (h : Ok3 n m u) {i j p : Nat} {b : Bool} (hi : i < n) (hj : j < n) (hp : p < m) (i' j' p' : Nat) :
    r3 (s3 u i j p b) i' j' p' = if i = i' ∧ j = j' ∧ p = p' then b else r3 u i' j' p' := by
  obtain ⟨h1, h2, h3⟩ := h.at hi hj
  unfold r3 s3
  rw [getD_set_of]
  by_cases e1 : i = i'
  · subst e1
    rw [if_pos ⟨rfl, h1⟩, getD_set_of]
    by_cases e2 : j = j'
    · subst e2
      rw [if_pos ⟨rfl, h2⟩, getD_set_of]
      by_cases e3 : p = p'
      · subst e3; rw [if_pos ⟨rfl, by omega⟩, if_pos ⟨rfl, rfl, rfl⟩]
      · rw [if_neg (by omega), if_neg (by omega)]
    · rw [if_neg (by omega), if_neg (by omega)]
  · rw [if_neg (by omega), if_neg (by omega)]
end
/-- the two tables tell the same -/
structure Rel34 (n s : Nat) (t : T4) (u : T3) : Prop where
  o4 : Ok4 n s t
  o3 : Ok3 n (s * s) u
  eq : ∀ i j x y, i < j → j < n → x < s → y < s → r4 t i j x y = r3 u i j (x * s + y) ∧ r4 t j i y x = r3 u i j (x * s + y)
theorem cell_lt {s x y : Nat} (hx : x < s) (hy : y < s) : x * s + y < s * s := by
  have : (x + 1) * s ≤ s * s := Nat.mul_le_mul_right _ hx
  rw [Nat.succ_mul] at this; omega
theorem cell_inj {s x y x' y' : Nat} (hy : y < s) (hy' : y' < s) (h : x * s + y = x' * s + y') : x = x' ∧ y = y' := by
  have h1 : (x * s + y) / s = x := by rw [Nat.mul_comm, Nat.mul_add_div (by omega), Nat.div_eq_of_lt hy]; omega
  have h2 : (x' * s + y') / s = x' := by rw [Nat.mul_comm, Nat.mul_add_div (by omega), Nat.div_eq_of_lt hy']; omega
  have : x = x' := by rw [← h1, ← h2, h]
  subst this
  exact ⟨rfl, by omega⟩
theorem Rel34.drop {n s : Nat} {t : T4} {u : T3} (h : Rel34 n s t u) {i j x y : Nat} (hij : i < j) (hj : j < n) (hx : x < s) (hy : y < s) :
    Rel34 n s (s4 (s4 t i j x y false) j i y x false) (s3 u i j (x * s + y) false) := by
  refine ⟨s4_ok (s4_ok h.o4), s3_ok h.o3, fun i' j' x' y' h1 h2 h3 h4 => ?_⟩
  have hi : i < n := by omega
  rw [r4_s4 (s4_ok h.o4) hj hi hy hx, r4_s4 h.o4 hi hj hx hy, r4_s4 (s4_ok h.o4) hj hi hy hx, r4_s4 h.o4 hi hj hx hy, r3_s3 h.o3 hi hj (cell_lt hx hy)]
  obtain ⟨e1, e2⟩ := h.eq i' j' x' y' h1 h2 h3 h4
  by_cases e : i = i' ∧ j = j' ∧ x = x' ∧ y = y'
  · obtain ⟨rfl, rfl, rfl, rfl⟩ := e
    simp
  · have e3 : ¬ (i = i' ∧ j = j' ∧ x * s + y = x' * s + y') := fun ⟨q1, q2, q3⟩ => by
      have := cell_inj hy h4 q3
      exact e ⟨q1, q2, this.1, this.2⟩
    have e4 : ¬ (j = i' ∧ i = j' ∧ y = x' ∧ x = y') := by omega
    have e5 : ¬ (i = j' ∧ j = i' ∧ x = y' ∧ y = x') := by omega
    have e6 : ¬ (j = j' ∧ i = i' ∧ y = y' ∧ x = x') := by omega
    simp only [if_neg e, if_neg e3, if_neg e4, if_neg e5, if_neg e6]
    exact ⟨e1, e2⟩
end T
open Go Go.Va
namespace T
section
variable {a : Net} {n s : Nat} {t : T4} {u : T3}
/- the program's empty table -/
def PA (n s i : Nat) (t : T4) : Prop := t.length = n ∧ ∀ i', i' < i → Row4 n s (t.getD i' [])
def PB (n s i j : Nat) (t : T4) : Prop := PA n s i t ∧ (t.getD i []).length = n ∧ ∀ j', j' < j → Cell4 s ((t.getD i []).getD j' [])
theorem PA.set {i : Nat} (h : PA n s i t) (r : T3) : PA n s i (t.set i r) := by
  refine ⟨by rw [List.length_set]; exact h.1, fun i' hi' => ?_⟩
  rw [getD_set_of, if_neg (by omega)]; exact h.2 i' hi'
theorem PB.set {i j : Nat} (h : PB n s i j t) (hi : i < n) (c : List (List Bool)) : PB n s i j (t.set i ((t.getD i []).set j c)) := by
  have hl := h.1.1
  refine ⟨h.1.set _, ?_, fun j' hj' => ?_⟩
  · rw [getD_set_of, if_pos ⟨rfl, by omega⟩, List.length_set]; exact h.2.1
  · rw [getD_set_of, if_pos ⟨rfl, by omega⟩, getD_set_of, if_neg (by omega)]; exact h.2.2 j' hj'
end
end T
set_option linter.unusedVariables false
open Go Go.Va
namespace T
def spec_l2Affine_L3 : Nat → (Int × (Int × (List Int)) × (Int × (List Int)) × Int) → Option ((Int × (List Int)) × (Int × (List Int)))
  | 0, _ => none
  | n + 1, (n_, t2, op, at_) =>
    if decide (at_ < (w64 ((w64 (n_ * n_)) * n_))) then
      if (w64 (n_ * n_)) ≠ 0 then
        if n_ ≠ 0 then
          if n_ ≠ 0 then
            if n_ ≠ 0 then
              if n_ ≠ 0 then
                if op.2.length + [Int.tmod (w64 ((w64 ((w64 ((w64 (Int.tdiv at_ (w64 (n_ * n_)))) + n_)) - (Int.tmod (w64 (Int.tdiv at_ n_)) n_))) + (Int.tmod at_ n_))) n_].length ≤ lim then
                  spec_l2Affine_L3 n (n_, (t2.1, t2.2), (op.1, op.2 ++ [Int.tmod (w64 ((w64 ((w64 ((w64 (Int.tdiv at_ (w64 (n_ * n_)))) + n_)) - (Int.tmod (w64 (Int.tdiv at_ n_)) n_))) + (Int.tmod at_ n_))) n_]), w64 (at_ + 1))
                else none
              else none
            else none
          else none
        else none
      else none
    else
      some ((t2.1, t2.2), (op.1, op.2))
def spec_l2Affine (n_ : Int) : Option ((Int × (List Int))) :=
  (spec_l2Affine_L3 fuel (n_, (0, []), (3, []), 0)).bind fun s1 =>
    some (s1.2.1, s1.2.2)
def spec_AffineOp (n_ : Int) : Option ((Int × (List Int)) × Bool) :=
  (spec_l6Size n_).bind fun r1 =>
    if !r1 then
      some ((0, []), false)
    else
      (spec_l2Affine n_).bind fun r2 =>
        some ((r2.1, r2.2), true)
def laws_heldOp (a : Int × (List Int)) (k : Int) : Option (Int) :=
  (laws_heldIntS a.2 k).bind fun r1 =>
    if decide (r1 < 0) then
      some (-1)
    else
      some r1
end T
set_option linter.unusedVariables false
open Go Go.Va
namespace T
def impl_AffineOp_c1 (x : Int) (y : Int) (z : Int) (t3 : Int) : Option (Int × Int) :=
  if t3 ≠ 0 then
    some (t3, Int.tmod (w64 ((w64 ((w64 (x - y)) + z)) + t3)) t3)
  else none
def impl_ternary_impl_AffineOp_c1_L3 : Nat → (Int × Int × (Int × (List Int)) × (Int × (List Int)) × Int) → Option (Int × (Int × (List Int)) × (Int × (List Int)))
  | 0, _ => none
  | n + 1, (n_, value, t4, f, i) =>
    if decide (i < (w64 ((w64 (n_ * n_)) * n_))) then
      if n_ ≠ 0 then
        if n_ ≠ 0 then
          if n_ ≠ 0 then
            if n_ ≠ 0 then
              if n_ ≠ 0 then
                (impl_AffineOp_c1 (w64 (Int.tdiv (w64 (Int.tdiv i n_)) n_)) (Int.tmod (w64 (Int.tdiv i n_)) n_) (Int.tmod i n_) value).bind fun r1 =>
                  if f.2.length + [r1.2].length ≤ lim then
                    impl_ternary_impl_AffineOp_c1_L3 n (n_, r1.1, (t4.1, t4.2), (f.1, f.2 ++ [r1.2]), w64 (i + 1))
                  else none
              else none
            else none
          else none
        else none
      else none
    else
      some (value, (t4.1, t4.2), (f.1, f.2))
def impl_ternary_impl_AffineOp_c1 (n_ : Int) (value : Int) : Option (Int × (Int × (List Int))) :=
  (impl_ternary_impl_AffineOp_c1_L3 fuel (n_, value, (0, []), (3, []), 0)).bind fun s1 =>
    some (s1.1, (s1.2.2.1, s1.2.2.2))
def impl_AffineOp (n_ : Int) : Option ((Int × (List Int)) × Bool) :=
  (impl_isSize n_).bind fun r1 =>
    if !r1 then
      some ((0, []), false)
    else
      (impl_ternary_impl_AffineOp_c1 n_ n_).bind fun r2 =>
        some ((r2.2.1, r2.2.2), true)
def laws_FnExactAffineOp (aN : Int) : Option (Bool) :=
  (spec_AffineOp aN).bind fun r1 =>
    (impl_AffineOp aN).bind fun r2 =>
      (laws_eqOp (r2.1.1, r2.1.2) (r1.1.1, r1.1.2)).bind fun r3 =>
        if !r3 then
          some false
        else
          if r2.2 != r1.2 then
            some false
          else
            (laws_markOp (r2.1.1, r2.1.2) 1).bind fun r4 =>
              (laws_heldOp (r2.1.1, r4.1.2) 1).bind fun r5 =>
                if decide (r5 < 0) then
                  some false
                else
                  if r5 != r4.2 then
                    some false
                  else
                    (impl_AffineOp aN).bind fun r6 =>
                      (laws_eqOp (r6.1.1, r6.1.2) (r1.1.1, r1.1.2)).bind fun r7 =>
                        if !r7 then
                          some false
                        else
                          if r6.2 != r1.2 then
                            some false
                          else
                            (laws_heldOp (r2.1.1, r4.1.2) 1).bind fun r8 =>
                              if decide (r8 < 0) then
                                some false
                              else
                                if r8 != r4.2 then
                                  some false
                                else
                                  some true
end T
open Go Go.Va
namespace T
theorem tdivN {a b : Nat} (ha : a < 4611686018427387904) : w64 (Int.tdiv (a : Int) (b : Int)) = ((a / b : Nat) : Int) := by
  rw [Int.tdiv_eq_ediv_of_nonneg (by omega), ← Int.natCast_ediv]
  have := Nat.div_le_self a b
  generalize a / b = q at this
  exact w64_id (by omega) (by omega)
theorem tmodN {a b : Nat} : Int.tmod (a : Int) (b : Int) = ((a % b : Nat) : Int) := by
  rw [Int.tmod_eq_emod_of_nonneg (by omega), ← Int.natCast_emod]
/-- x - y + z at an index -/
def affAt (n i : Nat) : Int := ((((i / (n * n) + n) - (i / n) % n + i % n) % n : Nat) : Int)
section
variable {n : Nat}
theorem cube_le (h : 1 ≤ n ∧ n ≤ 8) : n * n ≤ 64 ∧ n * n * n ≤ 512 ∧ 1 ≤ n * n := by
  have h2 : n * n ≤ 8 * 8 := Nat.mul_le_mul h.2 h.2
  have h3 : n * n * n ≤ 64 * 8 := Nat.mul_le_mul h2 h.2
  have h4 : 1 * 1 ≤ n * n := Nat.mul_le_mul h.1 h.1
  omega
theorem w64N {a : Nat} (h : a < 4611686018427387904) : w64 (a : Int) = (a : Int) := w64_id (by omega) (by omega)
theorem spec_l2Affine_ok (h : 1 ≤ n ∧ n ≤ 8) : spec_l2Affine (n : Int) = some (3, (List.range (n * n * n)).map (affAt n)) := by
  obtain ⟨h2, h3, h4⟩ := cube_le h
  have e1 : w64 ((n : Int) * n) = ((n * n : Nat) : Int) := by rw [← Int.natCast_mul]; exact w64N (by omega)
  have e2 : w64 (((n * n : Nat) : Int) * n) = ((n * n * n : Nat) : Int) := by rw [← Int.natCast_mul]; exact w64N (by omega)
  unfold spec_l2Affine
  have := forS (n * n * n) (fun f o i => spec_l2Affine_L3 f ((n : Int), (0, []), (3, o), i)) (fun k => (List.range k).map (affAt n)) (r := some ((0, []), (3, (List.range (n * n * n)).map (affAt n)))) (fun f k hk => ?_) (fun f => ?_) (n := fuel) (by unfold fuel; omega)
  · have e0 : (List.range 0).map (affAt n) = [] := rfl
    rw [e0] at this
    have this : spec_l2Affine_L3 fuel ((n : Int), (0, []), (3, []), 0) = _ := this
    rw [this]; rfl
  · have hdiv : k / (n * n) < n := Nat.div_lt_of_lt_mul (by rw [Nat.mul_comm] at hk; rw [Nat.mul_comm]; exact hk)
    have hm1 : (k / n) % n < n := Nat.mod_lt _ (by omega)
    have hm2 : k % n < n := Nat.mod_lt _ (by omega)
    have e345 : w64 (w64 (w64 ((((k / (n * n) : Nat) : Int)) + (n : Int)) - (((k / n) % n : Nat) : Int)) + ((k % n : Nat) : Int)) = ((k / (n * n) + n - (k / n) % n + k % n : Nat) : Int) := by
      generalize k / (n * n) = q1 at hdiv ⊢
      generalize (k / n) % n = q2 at hm1 ⊢
      generalize k % n = q3 at hm2 ⊢
      rw [w64_id (x := (q1 : Int) + n) (by omega) (by omega), w64_id (x := (q1 : Int) + n - q2) (by omega) (by omega), w64_id (by omega) (by omega)]; omega
    have e6 : (List.range (k + 1)).map (affAt n) = (List.range k).map (affAt n) ++ [affAt n k] := by rw [List.range_succ, List.map_append]; rfl
    simp only [spec_l2Affine_L3, e1, e2, tdivN (show k < 4611686018427387904 by omega), tmodN, e345, e6, w64_succ (show k < 4611686018427387904 by omega)]
    have hne : ((n : Int)) ≠ 0 := by omega
    have hnn : ((n * n : Nat) : Int) ≠ 0 := Int.natCast_ne_zero.2 (by omega)
    rw [if_pos (decide_eq_true (show (k : Int) < ((n * n * n : Nat) : Int) from Int.ofNat_lt.2 hk)), if_pos hnn, if_pos hne, if_pos hne, if_pos hne, if_pos hne, if_pos (by unfold lim; simp; omega)]
    rfl
  · simp only [spec_l2Affine_L3, e1, e2]
    rw [if_neg (by simp)]
theorem impl_ternary_ok (h : 1 ≤ n ∧ n ≤ 8) : impl_ternary_impl_AffineOp_c1 (n : Int) (n : Int) = some ((n : Int), (3, (List.range (n * n * n)).map (affAt n))) := by
  obtain ⟨h2, h3, h4⟩ := cube_le h
  have e1 : w64 ((n : Int) * n) = ((n * n : Nat) : Int) := by rw [← Int.natCast_mul]; exact w64N (by omega)
  have e2 : w64 (((n * n : Nat) : Int) * n) = ((n * n * n : Nat) : Int) := by rw [← Int.natCast_mul]; exact w64N (by omega)
  unfold impl_ternary_impl_AffineOp_c1
  have := forS (n * n * n) (fun f o i => impl_ternary_impl_AffineOp_c1_L3 f ((n : Int), (n : Int), (0, []), (3, o), i)) (fun k => (List.range k).map (affAt n)) (r := some ((n : Int), (0, []), (3, (List.range (n * n * n)).map (affAt n)))) (fun f k hk => ?_) (fun f => ?_) (n := fuel) (by unfold fuel; omega)
  · have e0 : (List.range 0).map (affAt n) = [] := rfl
    rw [e0] at this
    have this : impl_ternary_impl_AffineOp_c1_L3 fuel ((n : Int), (n : Int), (0, []), (3, []), 0) = _ := this
    rw [this]; rfl
  · have hdiv : k / (n * n) < n := Nat.div_lt_of_lt_mul (by rw [Nat.mul_comm] at hk; rw [Nat.mul_comm]; exact hk)
    have hm1 : (k / n) % n < n := Nat.mod_lt _ (by omega)
    have hm2 : k % n < n := Nat.mod_lt _ (by omega)
    have hdd : k / n / n = k / (n * n) := Nat.div_div_eq_div_mul _ _ _
    have hkn : k / n ≤ k := Nat.div_le_self _ _
    have e345 : w64 (w64 (w64 (((k / (n * n) : Nat) : Int) - (((k / n) % n : Nat) : Int)) + ((k % n : Nat) : Int)) + (n : Int)) = ((k / (n * n) + n - (k / n) % n + k % n : Nat) : Int) := by
      generalize k / (n * n) = q1 at hdiv ⊢
      generalize (k / n) % n = q2 at hm1 ⊢
      generalize k % n = q3 at hm2 ⊢
      rw [w64_id (x := (q1 : Int) - q2) (by omega) (by omega), w64_id (x := (q1 : Int) - q2 + q3) (by omega) (by omega), w64_id (by omega) (by omega)]; omega
    have e6 : (List.range (k + 1)).map (affAt n) = (List.range k).map (affAt n) ++ [affAt n k] := by rw [List.range_succ, List.map_append]; rfl
    simp only [impl_ternary_impl_AffineOp_c1_L3, e1, e2, tdivN (show k < 4611686018427387904 by omega), tdivN (show k / n < 4611686018427387904 from Nat.lt_of_le_of_lt hkn (by omega)), tmodN, hdd, impl_AffineOp_c1, e345, e6, w64_succ (show k < 4611686018427387904 by omega)]
    have hne : ((n : Int)) ≠ 0 := by omega
    rw [if_pos (decide_eq_true (show (k : Int) < ((n * n * n : Nat) : Int) from Int.ofNat_lt.2 hk)), if_pos hne, if_pos hne, if_pos hne, if_pos hne, if_pos hne, if_pos hne]
    simp only [Option.bind_some]
    rw [if_pos (by unfold lim; simp; omega)]
    rfl
  · simp only [impl_ternary_impl_AffineOp_c1_L3, e1, e2]
    rw [if_neg (by simp)]
end
theorem AffineOp_ok (n : Int) : ∃ R : Opn × Bool, impl_AffineOp n = some R ∧ spec_AffineOp n = some R ∧ R.1.2.length ≤ 512 := by
  unfold impl_AffineOp spec_AffineOp
  rw [impl_isSize_ok, spec_l6Size_ok]
  cases hb : sizeB n with
  | false => exact ⟨((0, []), false), by simp, by simp, by simp⟩
  | true =>
    unfold sizeB at hb
    have hb := of_decide_eq_true hb
    obtain ⟨m, rfl⟩ : ∃ m : Nat, n = (m : Int) := ⟨n.toNat, by omega⟩
    have h : 1 ≤ m ∧ m ≤ 8 := by omega
    obtain ⟨_, h3, _⟩ := cube_le h
    exact ⟨((3, (List.range (m * m * m)).map (affAt m)), true), by simp [impl_ternary_ok h], by simp [spec_l2Affine_ok h], by simp; omega⟩
theorem FnExactAffineOp_law {n : Int} (h : wfT .int n) : laws_FnExactAffineOp n = some true := by
  unfold laws_FnExactAffineOp
  obtain ⟨R, e1, e2, hl⟩ := AffineOp_ok n
  have e3 := mIntS_far R.1.2 1
  have e4 : ¬ (mIntS R.1.2 1).2 < 0 := by omega
  have e5 := eqOp_ok (f := R.1) (g := R.1) (by omega)
  have e5 : laws_eqOp (R.1.1, R.1.2) (R.1.1, R.1.2) = _ := e5
  simp only [e1, e2, Option.bind_some, e5]
  unfold laws_markOp laws_heldOp
  simp only [markIntS_ok (l := R.1.2) (k := 1) (by omega) (by omega) (by unfold BM; omega), Option.bind_some, heldIntS_ok (l := R.1.2) (k := 1) (by omega) (by omega) (by unfold BM; omega)]
  simp [e4]
end T
