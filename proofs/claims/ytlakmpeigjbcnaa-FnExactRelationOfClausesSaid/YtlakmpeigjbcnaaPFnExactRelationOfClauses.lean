/- Plain lemmas on the typed functions of the program, and the plain law of FnExactRelationOfClauses; no conditions. -/
import Derived.Test.YtlakmpeigjbcnaaV1
import Derived.Test.YtlakmpeigjbcnaaV5
set_option linter.all false
namespace Go.Va
theorem w64_def (x : Int) : w64 x = (x + 9223372036854775808) % 18446744073709551616 - 9223372036854775808 := by
  simp [w64, IntKind.wrap, IntKind.bits, IntKind.signed]
  split <;> omega
theorem w64_id {x : Int} (h1 : -9223372036854775808 ≤ x) (h2 : x ≤ 9223372036854775807) : w64 x = x := by
  rw [w64_def]; omega
theorem w64_succ {k : Nat} (h : k < 4611686018427387904) : w64 ((k : Int) + 1) = ((k + 1 : Nat) : Int) := by
  rw [w64_id (by omega) (by omega)]; rfl
theorem inb_nat {α : Type} {k : Nat} {xs : List α} : inb (k : Int) xs ↔ k < xs.length := by
  unfold inb; omega
theorem gd_nat {α : Type} {k : Nat} {xs : List α} {d : α} (h : k < xs.length) : gd xs (k : Int) d = xs[k] := by
  unfold gd; simp [h]
theorem stt_nat {α : Type} {k : Nat} {xs : List α} {x : α} : stt xs (k : Int) x = xs.set k x := by
  unfold stt; simp
/-- a loop over a list, from one place on -/
def runX {α σ β : Type} (step : σ → α → Option (σ ⊕ β)) (fin : σ → Option β) : List α → σ → Option β
  | [], s => fin s
  | a :: l, s => match step s a with | some (.inl s') => runX step fin l s' | some (.inr r) => some r | none => none
theorem loopX {α σ β : Type} (xs : List α) (L : Nat → σ → Int → Option β) (step : σ → α → Option (σ ⊕ β)) (fin : σ → Option β)
    (hs : ∀ n s (k : Nat) (hk : k < xs.length), L (n + 1) s k = match step s xs[k] with | some (.inl s') => L n s' ((k + 1 : Nat) : Int) | some (.inr r) => some r | none => none)
    (he : ∀ n s, L (n + 1) s (xs.length : Nat) = fin s) : ∀ (n k : Nat) (s : σ), k ≤ xs.length → xs.length - k < n → L n s k = runX step fin (xs.drop k) s := by
  intro n
  induction n with
  | zero => intro k s _ h; omega
  | succ n ih =>
    intro k s hk hn
    rcases Nat.lt_or_ge k xs.length with hlt | hge
    · rw [hs n s k hlt, List.drop_eq_getElem_cons hlt]
      simp only [runX]
      cases step s xs[k] with
      | none => rfl
      | some q =>
        cases q with
        | inl s' => exact ih (k + 1) s' hlt (by omega)
        | inr r => rfl
    · have : k = xs.length := by omega
      subst this
      rw [he, List.drop_length]; rfl
/-- .. from its start on -/
theorem loopX0 {α σ β : Type} (xs : List α) (L : Nat → σ → Int → Option β) (step : σ → α → Option (σ ⊕ β)) (fin : σ → Option β)
    (hs : ∀ n s (k : Nat) (hk : k < xs.length), L (n + 1) s k = match step s xs[k] with | some (.inl s') => L n s' ((k + 1 : Nat) : Int) | some (.inr r) => some r | none => none)
    (he : ∀ n s, L (n + 1) s (xs.length : Nat) = fin s) {n : Nat} (hn : xs.length < n) (s : σ) : L n s 0 = runX step fin xs s := by
  have := loopX xs L step fin hs he n 0 s (Nat.zero_le _) (by omega)
  simpa using this
/-- a loop that leaves at the first that fails -/
theorem runX_all {α β : Type} {p : α → Bool} {step : Unit → α → Option (Unit ⊕ β)} {fin : Unit → Option β} {r : β} : ∀ {l : List α}, (∀ a ∈ l, step () a = if p a then some (.inl ()) else some (.inr r)) → runX step fin l () = if l.all p then fin () else some r
  | [], _ => rfl
  | a :: l, h => by
    simp only [runX]
    rw [h a (by simp)]
    cases hp : p a with
    | true => simp only [if_true, List.all_cons, hp, Bool.true_and]; exact runX_all fun b hb => h b (List.mem_cons_of_mem _ hb)
    | false => simp [List.all_cons, hp]
/-- a loop that fills a list of the same length -/
theorem fillX {α β γ : Type} (xs : List α) (L : Nat → List β → Int → Option γ) (g : α → β) (fin : List β → Option γ)
    (hs : ∀ n (out : List β) (k : Nat) (hk : k < xs.length), out.length = xs.length → L (n + 1) out k = L n (out.set k (g xs[k])) ((k + 1 : Nat) : Int))
    (he : ∀ n out, out.length = xs.length → L (n + 1) out (xs.length : Nat) = fin out) : ∀ (n k : Nat) (out : List β), out.length = xs.length → k ≤ xs.length → xs.length - k < n → L n out k = fin (out.take k ++ (xs.drop k).map g) := by
  intro n
  induction n with
  | zero => intro k out _ _ h; omega
  | succ n ih =>
    intro k out hl hk hn
    rcases Nat.lt_or_ge k xs.length with hlt | hge
    · have : (out.set k (g xs[k])).take (k + 1) = out.take k ++ [g xs[k]] := by
        rw [List.take_succ_eq_append_getElem (by simp; omega), List.take_set_of_le (Nat.le_refl _), List.getElem_set_self]
      rw [hs n out k hlt hl, ih (k + 1) _ (by simpa using hl) hlt (by omega), List.drop_eq_getElem_cons hlt, this, List.map_cons, List.append_assoc, List.singleton_append]
    · have : k = xs.length := by omega
      subst this
      rw [he _ _ hl, List.drop_length, List.take_of_length_le (by omega)]; simp
theorem fillX0 {α β γ : Type} (xs : List α) (L : Nat → List β → Int → Option γ) (g : α → β) (fin : List β → Option γ)
    (hs : ∀ n (out : List β) (k : Nat) (hk : k < xs.length), out.length = xs.length → L (n + 1) out k = L n (out.set k (g xs[k])) ((k + 1 : Nat) : Int))
    (he : ∀ n out, out.length = xs.length → L (n + 1) out (xs.length : Nat) = fin out) {n : Nat} {out : List β} (hl : out.length = xs.length) (hn : xs.length < n) : L n out 0 = fin (xs.map g) := by
  have := fillX xs L g fin hs he n 0 out hl (Nat.zero_le _) (by omega)
  simpa using this
/-- a loop that holds two lists against each other -/
theorem eqX {α : Type} [DecidableEq α] (a b : List α) (hl : a.length = b.length) (L : Nat → Int → Option (Unit ⊕ Bool))
    (hs : ∀ n (k : Nat) (h1 : k < a.length) (h2 : k < b.length), L (n + 1) k = if a[k] = b[k] then L n ((k + 1 : Nat) : Int) else some (.inr false)) (he : ∀ n, L (n + 1) (a.length : Nat) = some (.inl ())) {n : Nat} (hn : a.length < n) :
    L n 0 = some (if a = b then .inl () else .inr false) := by
  have key : ∀ (n k : Nat), k ≤ a.length → a.length - k < n → L n k = some (if a.drop k = b.drop k then .inl () else .inr false) := by
    intro n
    induction n with
    | zero => intro k _ h; omega
    | succ n ih =>
      intro k hk hn
      rcases Nat.lt_or_ge k a.length with hlt | hge
      · have h2 : k < b.length := by omega
        have e : (a.drop k = b.drop k) ↔ (a[k] = b[k] ∧ a.drop (k + 1) = b.drop (k + 1)) := by
          rw [List.drop_eq_getElem_cons hlt, List.drop_eq_getElem_cons h2]; exact List.cons_eq_cons
        rw [hs n k hlt h2]
        by_cases h : a[k] = b[k]
        · rw [if_pos h, ih (k + 1) hlt (by omega)]
          by_cases h3 : a.drop (k + 1) = b.drop (k + 1)
          · rw [if_pos h3, if_pos (e.2 ⟨h, h3⟩)]
          · rw [if_neg h3, if_neg fun h' => h3 (e.1 h').2]
        · rw [if_neg h, if_neg fun h' => h (e.1 h').1]
      · have : k = a.length := by omega
        subst this
        rw [he, List.drop_length, hl, List.drop_length]; rfl
  have := key n 0 (Nat.zero_le _) (by omega)
  simpa using this
/-- a loop that asks of each element -/
theorem allX {α β : Type} (xs : List α) (L : Nat → Int → Option β) (p : α → Bool) (r e : β)
    (hs : ∀ n (k : Nat) (hk : k < xs.length), L (n + 1) k = if p xs[k] then L n ((k + 1 : Nat) : Int) else some r) (he : ∀ n, L (n + 1) (xs.length : Nat) = some e) {n : Nat} (hn : xs.length < n) :
    L n 0 = some (if xs.all p then e else r) := by
  have := loopX0 xs (fun n (_ : Unit) i => L n i) (fun _ a => if p a then some (.inl ()) else some (.inr r)) (fun _ => some e) (fun n s k hk => by rw [hs n k hk]; cases p xs[k] <;> simp) (fun n s => he n) hn ()
  rw [this, runX_all (p := p) (r := r) fun a _ => by cases p a <;> simp]
  cases xs.all p <;> simp
/-- a loop whose states are known -/
theorem forS {σ β : Type} (N : Nat) (L : Nat → σ → Int → Option β) (S : Nat → σ) {r : Option β}
    (hs : ∀ n (k : Nat), k < N → L (n + 1) (S k) k = L n (S (k + 1)) ((k + 1 : Nat) : Int)) (he : ∀ n, L (n + 1) (S N) (N : Nat) = r) {n : Nat} (hn : N < n) : L n (S 0) 0 = r := by
  have key : ∀ (n k : Nat), k ≤ N → N - k < n → L n (S k) k = r := by
    intro n
    induction n with
    | zero => intro k _ h; omega
    | succ n ih =>
      intro k hk hn
      rcases Nat.lt_or_ge k N with hlt | hge
      · rw [hs n k hlt]; exact ih (k + 1) hlt (by omega)
      · have : k = N := by omega
        subst this; exact he n
  exact key n 0 (Nat.zero_le _) (by omega)
/-- sizes -/
def szR (t : Nat) (left : Int) : Int := if (t : Int) ≤ left then left - t else -1
end Go.Va
set_option linter.unusedVariables false
open Go Go.Va
namespace T
def fuel : Nat := 1099511627776
def laws_szIntS (a : List Int) (left : Int) : Option (Int) :=
  if decide ((w64 (left - (a.length : Int))) < 0) then
    some (-1)
  else
    some (w64 (left - (a.length : Int)))
def laws_szIntSS_L5 : Nat → ((List (List Int)) × Int × Int) → Option ((Int) ⊕ (Int))
  | 0, _ => none
  | n + 1, (a, left, i) =>
    if decide (i < (a.length : Int)) then
      if inb i a then
        (laws_szIntS (gd a i []) left).bind fun r1 =>
          if decide (r1 < 0) then
            some (.inr (-1))
          else
            laws_szIntSS_L5 n (a, r1, w64 (i + 1))
      else none
    else
      some (.inl left)
def laws_szIntSS (a : List (List Int)) (left : Int) : Option (Int) :=
  if decide ((w64 (left - (a.length : Int))) < 0) then
    some (-1)
  else
    (laws_szIntSS_L5 fuel (a, w64 (left - (a.length : Int)), 0)).bind fun s1 =>
      match s1 with
      | .inl s2 =>
        some s2
      | .inr s3 =>
        some s3
def laws_toIntS_L3 : Nat → ((List Int) × (List Int) × Int) → Option ((List Int))
  | 0, _ => none
  | n + 1, (a, out, i) =>
    if decide (i < (a.length : Int)) then
      if inb i a then
        if inb i out then
          laws_toIntS_L3 n (a, stt out i (gd a i 0), w64 (i + 1))
        else none
      else none
    else
      some out
def laws_toIntS (a : List Int) : Option ((List Int)) :=
  if 0 ≤ (a.length : Int) ∧ (a.length : Int) ≤ (a.length : Int) ∧ (a.length : Int) ≤ lim then
    (laws_toIntS_L3 fuel (a, List.replicate (Int.toNat (a.length : Int)) (0 : Int), 0)).bind fun s1 =>
      some s1
  else none
def laws_toIntSS_L3 : Nat → ((List (List Int)) × (List (List Int)) × Int) → Option ((List (List Int)))
  | 0, _ => none
  | n + 1, (a, out, i) =>
    if decide (i < (a.length : Int)) then
      if inb i a then
        (laws_toIntS (gd a i [])).bind fun r1 =>
          if inb i out then
            laws_toIntSS_L3 n (a, stt out i r1, w64 (i + 1))
          else none
      else none
    else
      some out
def laws_toIntSS (a : List (List Int)) : Option ((List (List Int))) :=
  if 0 ≤ (a.length : Int) ∧ (a.length : Int) ≤ (a.length : Int) ∧ (a.length : Int) ≤ lim then
    (laws_toIntSS_L3 fuel (a, List.replicate (Int.toNat (a.length : Int)) ([] : List Int), 0)).bind fun s1 =>
      some s1
  else none
def spec_l1In (x : Int) (a : Int) (b : Int) : Option (Bool) :=
  if decide (x ≥ a) then
    some (decide (x ≤ b))
  else
    some false
def laws_eqIntS_L4 : Nat → ((List Int) × (List Int) × Int) → Option ((Unit) ⊕ (Bool))
  | 0, _ => none
  | n + 1, (a, b, i) =>
    if decide (i < (a.length : Int)) then
      if inb i a then
        if inb i b then
          if (gd a i 0) != (gd b i 0) then
            some (.inr false)
          else
            laws_eqIntS_L4 n (a, b, w64 (i + 1))
        else none
      else none
    else
      some (.inl ())
def laws_eqIntS (a : List Int) (b : List Int) : Option (Bool) :=
  if (a.length : Int) != (b.length : Int) then
    some false
  else
    (laws_eqIntS_L4 fuel (a, b, 0)).bind fun s1 =>
      match s1 with
      | .inl s2 =>
        some true
      | .inr s3 =>
        some s3
def laws_eqIntSS_L4 : Nat → ((List (List Int)) × (List (List Int)) × Int) → Option ((Unit) ⊕ (Bool))
  | 0, _ => none
  | n + 1, (a, b, i) =>
    if decide (i < (a.length : Int)) then
      if inb i a then
        if inb i b then
          (laws_eqIntS (gd a i []) (gd b i [])).bind fun r1 =>
            if !r1 then
              some (.inr false)
            else
              laws_eqIntSS_L4 n (a, b, w64 (i + 1))
        else none
      else none
    else
      some (.inl ())
def laws_eqIntSS (a : List (List Int)) (b : List (List Int)) : Option (Bool) :=
  if (a.length : Int) != (b.length : Int) then
    some false
  else
    (laws_eqIntSS_L4 fuel (a, b, 0)).bind fun s1 =>
      match s1 with
      | .inl s2 =>
        some true
      | .inr s3 =>
        some s3
def spec_l2Pow_L2 : Nat → (Int × Int × Int) → Option (Int)
  | 0, _ => none
  | n + 1, (n_, k, out) =>
    if decide (k > 0) then
      spec_l2Pow_L2 n (n_, w64 (k - 1), w64 (out * n_))
    else
      some out
def spec_l2Pow (n_ : Int) (k : Int) : Option (Int) :=
  (spec_l2Pow_L2 fuel (n_, k, 1)).bind fun s1 =>
    some s1
def impl_isSize (n_ : Int) : Option (Bool) :=
  if decide (n_ ≥ 1) then
    some (decide (n_ ≤ 8))
  else
    some false
def impl_power_L2 : Nat → (Int × Int × Int) → Option (Int)
  | 0, _ => none
  | n + 1, (n_, k, p) =>
    if decide (k > 0) then
      impl_power_L2 n (n_, w64 (k - 1), w64 (p * n_))
    else
      some p
def impl_power (n_ : Int) (k : Int) : Option (Int) :=
  (impl_power_L2 fuel (n_, k, 1)).bind fun s1 =>
    some s1
end T
open Go Go.Va
namespace T
theorem szIntS_ok {a : List Int} {left : Int} (h0 : 0 ≤ left) (h1 : left ≤ 4611686018427387904) (ha : a.length ≤ 9223372036854775807) : laws_szIntS a left = some (szR a.length left) := by
  unfold laws_szIntS szR
  rw [w64_id (by omega) (by omega)]
  by_cases h : (a.length : Int) ≤ left
  · rw [if_neg (by simp; omega), if_pos h]
  · rw [if_pos (by simp; omega), if_neg h]
/-- all numbers, and the rows -/
def totSS (a : List (List Int)) : Nat := a.length + (a.map List.length).sum
theorem szIntSS_ok {a : List (List Int)} {left : Int} (h0 : 0 ≤ left) (h1 : left ≤ 1099511627775) (ha : a.length ≤ 9223372036854775807) (hr : ∀ r ∈ a, r.length ≤ 9223372036854775807) : laws_szIntSS a left = some (szR (totSS a) left) := by
  unfold laws_szIntSS
  rw [w64_id (by omega) (by omega)]
  by_cases h : (a.length : Int) ≤ left
  · rw [if_neg (by simp; omega)]
    have key := loopX0 a (fun n s i => laws_szIntSS_L5 n (a, s, i)) (fun s r => (laws_szIntS r s).bind fun q => if q < 0 then some (.inr (.inr (-1))) else some (.inl q)) (fun s => some (.inl s)) ?_ ?_ (n := fuel) (by unfold fuel; omega) (left - a.length)
    · rw [key]
      have run : ∀ (l : List (List Int)) (s : Int), 0 ≤ s → s ≤ 1099511627775 → (∀ r ∈ l, r.length ≤ 9223372036854775807) →
          runX (fun s r => (laws_szIntS r s).bind fun q => if q < 0 then some (.inr (.inr (-1))) else some (.inl q)) (fun s => some (.inl s)) l s = some (if ((l.map List.length).sum : Int) ≤ s then (.inl (s - (l.map List.length).sum) : Int ⊕ Int) else .inr (-1)) := by
        intro l
        induction l with
        | nil => intro s h0 _ _; simp [runX, h0]
        | cons r l ih =>
          intro s h0 h1 hr
          simp only [runX]
          rw [szIntS_ok h0 (by omega) (hr r (by simp))]
          unfold szR
          by_cases h : (r.length : Int) ≤ s
          · rw [if_pos h]
            simp only [Option.bind_some]
            rw [if_neg (by omega)]
            dsimp only
            rw [ih (s - r.length) (by omega) (by omega) fun r hr' => hr r (List.mem_cons_of_mem _ hr')]
            simp only [List.map_cons, List.sum_cons]
            congr 1
            by_cases h2 : (((l.map List.length).sum : Nat) : Int) ≤ s - r.length
            · rw [if_pos h2, if_pos (by omega)]; congr 1; omega
            · rw [if_neg h2, if_neg (by omega)]
          · rw [if_neg h]
            simp only [List.map_cons, List.sum_cons]
            rw [if_neg (by omega)]
            rfl
      rw [run a _ (by omega) (by omega) hr]
      unfold szR totSS
      by_cases h2 : (((a.map List.length).sum : Nat) : Int) ≤ left - a.length
      · rw [if_pos h2, if_pos (by omega)]
        simp only [Option.bind_some, Option.some.injEq]; omega
      · rw [if_neg h2, if_neg (by omega)]; rfl
    · intro n s k hk
      simp only [laws_szIntSS_L5, inb_nat, gd_nat hk, w64_succ (show k < 4611686018427387904 by omega)]
      simp [hk]
      cases laws_szIntS a[k] s with
      | none => rfl
      | some q => by_cases hq : q < 0 <;> simp [hq]
    · intro n s
      simp [laws_szIntSS_L5]
  · rw [if_pos (by simp; omega)]
    unfold szR totSS
    rw [if_neg (by omega)]
theorem toIntS_ok {a : List Int} (ha : a.length ≤ 1099511627775) : laws_toIntS a = some a := by
  unfold laws_toIntS
  rw [if_pos (by unfold lim; omega)]
  have key := fillX0 a (fun n out i => laws_toIntS_L3 n (a, out, i)) id some ?_ ?_ (n := fuel) (out := List.replicate (Int.toNat (a.length : Int)) (0 : Int)) (by simp) (by unfold fuel; omega)
  · rw [key]; simp
  · intro n out k hk hl
    simp only [laws_toIntS_L3, inb_nat, gd_nat hk, stt_nat, w64_succ (show k < 4611686018427387904 by omega)]
    simp [hk, hl]
  · intro n out hl
    simp [laws_toIntS_L3]
theorem toIntSS_ok {a : List (List Int)} (ha : a.length ≤ 1099511627775) (hr : ∀ r ∈ a, r.length ≤ 1099511627775) : laws_toIntSS a = some a := by
  unfold laws_toIntSS
  rw [if_pos (by unfold lim; omega)]
  have key := fillX0 a (fun n out i => laws_toIntSS_L3 n (a, out, i)) id some ?_ ?_ (n := fuel) (out := List.replicate (Int.toNat (a.length : Int)) ([] : List Int)) (by simp) (by unfold fuel; omega)
  · rw [key]; simp
  · intro n out k hk hl
    simp only [laws_toIntSS_L3, inb_nat, gd_nat hk, stt_nat, w64_succ (show k < 4611686018427387904 by omega)]
    simp [hk, hl, toIntS_ok (hr _ (List.getElem_mem hk))]
  · intro n out hl
    simp [laws_toIntSS_L3]
theorem eqIntS_ok {a b : List Int} (ha : a.length ≤ 1099511627775) : laws_eqIntS a b = some (decide (a = b)) := by
  unfold laws_eqIntS
  by_cases hl : a.length = b.length
  · rw [if_neg (by simp [hl]), eqX a b hl (fun n i => laws_eqIntS_L4 n (a, b, i)) ?_ ?_ (by unfold fuel; omega)]
    · by_cases h : a = b <;> simp [h]
    · intro n k h1 h2
      simp only [laws_eqIntS_L4, inb_nat, gd_nat h1, gd_nat h2, w64_succ (show k < 4611686018427387904 by omega)]
      by_cases h : a[k] = b[k] <;> simp [h1, h2, h]
    · intro n
      simp [laws_eqIntS_L4]
  · rw [if_pos (by simp; omega), decide_eq_false (fun e => hl (by rw [e]))]
theorem eqIntSS_ok {a b : List (List Int)} (ha : a.length ≤ 1099511627775) (hr : ∀ r ∈ a, r.length ≤ 1099511627775) : laws_eqIntSS a b = some (decide (a = b)) := by
  unfold laws_eqIntSS
  by_cases hl : a.length = b.length
  · rw [if_neg (by simp [hl]), eqX a b hl (fun n i => laws_eqIntSS_L4 n (a, b, i)) ?_ ?_ (by unfold fuel; omega)]
    · by_cases h : a = b <;> simp [h]
    · intro n k h1 h2
      simp only [laws_eqIntSS_L4, inb_nat, gd_nat h1, gd_nat h2, w64_succ (show k < 4611686018427387904 by omega), eqIntS_ok (hr _ (List.getElem_mem h1))]
      by_cases h : a[k] = b[k] <;> simp [h1, h2, h]
    · intro n
      simp [laws_eqIntSS_L4]
  · rw [if_pos (by simp; omega), decide_eq_false (fun e => hl (by rw [e]))]
/- linears -/
abbrev Lin := Int × Int × List (List Int)
/-- a linear of a size that a machine holds -/
def linS (a : Lin) : Prop := a.2.2.length ≤ 1048576 ∧ ∀ r ∈ a.2.2, r.length ≤ 1048576
theorem mem_sum {l : List (List Int)} : ∀ {r : List Int}, r ∈ l → r.length ≤ (l.map List.length).sum := by
  induction l with
  | nil => intro r h; cases h
  | cons x l ih =>
    intro r h
    rw [List.map_cons, List.sum_cons]
    rcases List.mem_cons.1 h with rfl | h
    · omega
    · have := ih h; omega
theorem szLinear_small {a : Lin} (h : ¬ szR (totSS a.2.2) 1048576 < 0) : linS a := by
  unfold szR totSS at h
  split at h
  · exact ⟨by omega, fun r hr => by have := mem_sum hr; omega⟩
  · omega
theorem spec_l1In_ok (x a b : Int) : spec_l1In x a b = some (decide (a ≤ x ∧ x ≤ b)) := by
  unfold spec_l1In
  by_cases h : a ≤ x <;> simp [h]
end T
open Go Go.Va
namespace T
/- powers and places -/
theorem pow_le_of {n : Int} (h0 : 0 ≤ n) (h8 : n ≤ 8) : ∀ k : Nat, 0 ≤ n ^ k ∧ n ^ k ≤ 8 ^ k
  | 0 => by simp
  | k + 1 => by
    obtain ⟨h1, h2⟩ := pow_le_of h0 h8 k
    rw [Int.pow_succ, Int.pow_succ]
    exact ⟨Int.mul_nonneg h1 h0, Int.mul_le_mul h2 h8 h0 (by have : (0 : Int) ≤ 8 ^ k := Int.le_trans h1 h2; exact this)⟩
theorem pow8_le : ∀ k : Nat, k ≤ 20 → (8 : Int) ^ k ≤ 8 ^ 20 := by
  intro k hk
  have : ((8 ^ k : Nat) : Int) ≤ ((8 ^ 20 : Nat) : Int) := Int.ofNat_le.2 (Nat.pow_le_pow_right (by omega) hk)
  simpa using this
theorem pow_bd {n : Int} (h0 : 0 ≤ n) (h8 : n ≤ 8) {k : Nat} (hk : k ≤ 20) : 0 ≤ n ^ k ∧ n ^ k ≤ 1152921504606846976 := by
  obtain ⟨h1, h2⟩ := pow_le_of h0 h8 k
  have := pow8_le k hk
  exact ⟨h1, by have e : (8 : Int) ^ 20 = 1152921504606846976 := by decide
                omega⟩
theorem power_L2 {n : Int} (h0 : 0 ≤ n) (h8 : n ≤ 8) : ∀ (m k j : Nat), j + k ≤ 20 → k < m → impl_power_L2 m (n, (k : Int), n ^ j) = some (n ^ (j + k)) := by
  intro m
  induction m with
  | zero => intro k j _ h; omega
  | succ m ih =>
    intro k j hj hk
    simp only [impl_power_L2]
    cases k with
    | zero => simp
    | succ k =>
      have e : w64 (((k + 1 : Nat) : Int) - 1) = (k : Int) := by rw [w64_id (by omega) (by omega)]; omega
      have hb := pow_bd h0 h8 (k := j + 1) (by omega)
      rw [Int.pow_succ] at hb
      rw [e, w64_id (by omega) (by omega), ← Int.pow_succ, if_pos (by simp), ih k (j + 1) (by omega) (by omega)]
      congr 2 <;> omega
theorem impl_power_ok {n : Int} (h0 : 0 ≤ n) (h8 : n ≤ 8) {k : Nat} (hk : k ≤ 20) : impl_power n (k : Int) = some (n ^ k) := by
  unfold impl_power
  have := power_L2 h0 h8 fuel k 0 (by omega) (by unfold fuel; omega)
  rw [Int.pow_zero] at this
  rw [this]; simp
theorem l2Pow_L2 {n : Int} (h0 : 0 ≤ n) (h8 : n ≤ 8) : ∀ (m k j : Nat), j + k ≤ 20 → k < m → spec_l2Pow_L2 m (n, (k : Int), n ^ j) = some (n ^ (j + k)) := by
  intro m
  induction m with
  | zero => intro k j _ h; omega
  | succ m ih =>
    intro k j hj hk
    simp only [spec_l2Pow_L2]
    cases k with
    | zero => simp
    | succ k =>
      have e : w64 (((k + 1 : Nat) : Int) - 1) = (k : Int) := by rw [w64_id (by omega) (by omega)]; omega
      have hb := pow_bd h0 h8 (k := j + 1) (by omega)
      rw [Int.pow_succ] at hb
      rw [e, w64_id (by omega) (by omega), ← Int.pow_succ, if_pos (by simp), ih k (j + 1) (by omega) (by omega)]
      congr 2 <;> omega
theorem spec_l2Pow_ok {n : Int} (h0 : 0 ≤ n) (h8 : n ≤ 8) {k : Nat} (hk : k ≤ 20) : spec_l2Pow n (k : Int) = some (n ^ k) := by
  unfold spec_l2Pow
  have := l2Pow_L2 h0 h8 fuel k 0 (by omega) (by unfold fuel; omega)
  rw [Int.pow_zero] at this
  rw [this]; simp
end T
open Go Go.Va
namespace T
def sizeB (n : Int) : Bool := decide (1 ≤ n ∧ n ≤ 8)
theorem impl_isSize_ok (n : Int) : impl_isSize n = some (sizeB n) := by
  unfold impl_isSize sizeB
  by_cases h : 1 ≤ n <;> simp [h]
end T
open Go Go.Va
namespace T
section
variable {p : Int} {k : Nat} {ts : List (List Int)}
end
theorem szR_small {a : List (List Int)} (h : ¬ szR (totSS a) 1048576 < 0) : a.length ≤ 1048576 ∧ ∀ r ∈ a, r.length ≤ 1048576 := szLinear_small (a := (0, 0, a)) h
end T
set_option linter.unusedVariables false
open Go Go.Va
namespace T
def laws_eqRelation (a : Int × (List (List Int))) (b : Int × (List (List Int))) : Option (Bool) :=
  if a.1 != b.1 then
    some false
  else
    (laws_eqIntSS a.2 b.2).bind fun r1 =>
      if !r1 then
        some false
      else
        some true
def laws_markIntS_L2 : Nat → ((List Int) × Int × Int) → Option ((List Int) × Int)
  | 0, _ => none
  | n + 1, (a, k, i) =>
    if decide (i < (a.length : Int)) then
      if inb i a then
        laws_markIntS_L2 n (stt a i k, w64 (k + 1), w64 (i + 1))
      else none
    else
      some (a, k)
def laws_markIntS (a : List Int) (k : Int) : Option ((List Int) × Int) :=
  (laws_markIntS_L2 fuel (a, k, 0)).bind fun s1 =>
    some (s1.1, s1.2)
def laws_markIntSS_L2 : Nat → ((List (List Int)) × Int × Int) → Option ((List (List Int)) × Int)
  | 0, _ => none
  | n + 1, (a, k, i) =>
    if decide (i < (a.length : Int)) then
      if inb i a then
        (laws_markIntS (gd a i []) k).bind fun r1 =>
          laws_markIntSS_L2 n (stt a i r1.1, r1.2, w64 (i + 1))
      else none
    else
      some (a, k)
def laws_markIntSS (a : List (List Int)) (k : Int) : Option ((List (List Int)) × Int) :=
  (laws_markIntSS_L2 fuel (a, k, 0)).bind fun s1 =>
    some (s1.1, s1.2)
def laws_heldIntS_L2 : Nat → ((List Int) × Int × Int) → Option ((Int) ⊕ (Int))
  | 0, _ => none
  | n + 1, (a, k, i) =>
    if decide (i < (a.length : Int)) then
      if inb i a then
        if (gd a i 0) != k then
          some (.inr (-1))
        else
          laws_heldIntS_L2 n (a, w64 (k + 1), w64 (i + 1))
      else none
    else
      some (.inl k)
def laws_heldIntS (a : List Int) (k : Int) : Option (Int) :=
  (laws_heldIntS_L2 fuel (a, k, 0)).bind fun s1 =>
    match s1 with
    | .inl s2 =>
      some s2
    | .inr s3 =>
      some s3
def laws_heldIntSS_L2 : Nat → ((List (List Int)) × Int × Int) → Option ((Int) ⊕ (Int))
  | 0, _ => none
  | n + 1, (a, k, i) =>
    if decide (i < (a.length : Int)) then
      if inb i a then
        (laws_heldIntS (gd a i []) k).bind fun r1 =>
          if decide (r1 < 0) then
            some (.inr (-1))
          else
            laws_heldIntSS_L2 n (a, r1, w64 (i + 1))
      else none
    else
      some (.inl k)
def laws_heldIntSS (a : List (List Int)) (k : Int) : Option (Int) :=
  (laws_heldIntSS_L2 fuel (a, k, 0)).bind fun s1 =>
    match s1 with
    | .inl s2 =>
      some s2
    | .inr s3 =>
      some s3
end T
open Go Go.Va
namespace T
/- networks -/
abbrev Con := List Int × Int × List (List Int)
abbrev Net := Int × Int × List Con
def rowsS (a : List (List Int)) : Prop := a.length ≤ 1048576 ∧ ∀ r ∈ a, r.length ≤ 1048576
end T
open Go Go.Va
namespace T
theorem getD_set_of {α : Type} {l : List α} {i j : Nat} {y d : α} : (l.set i y).getD j d = if i = j ∧ j < l.length then y else l.getD j d := by
  simp only [List.getD_eq_getElem?_getD, List.getElem?_set]
  by_cases h : i = j
  · subst h
    by_cases h2 : i < l.length
    · simp [h2]
    · simp [h2]
  · simp [h]
end T
open Go Go.Va
namespace T
/- marks: each place gets the next number -/
def mkL {α : Type} (f : α → Int → α × Int) : List α → Int → List α × Int
  | [], k => ([], k)
  | x :: l, k => ((f x k).1 :: (mkL f l (f x k).2).1, (mkL f l (f x k).2).2)
theorem mkL_snoc {α : Type} (f : α → Int → α × Int) : ∀ (l : List α) (x : α) (k : Int), mkL f (l ++ [x]) k = ((mkL f l k).1 ++ [(f x (mkL f l k).2).1], (f x (mkL f l k).2).2)
  | [], x, k => by simp [mkL]
  | y :: l, x, k => by
    simp only [List.cons_append, mkL]
    rw [mkL_snoc f l x]
theorem mkL_len {α : Type} (f : α → Int → α × Int) : ∀ (l : List α) (k : Int), (mkL f l k).1.length = l.length
  | [], _ => rfl
  | x :: l, k => by simp [mkL, mkL_len f l]
/-- how far the numbers go -/
theorem mkL_far {α : Type} {f : α → Int → α × Int} {w : α → Nat} : ∀ (l : List α) (k : Int), (∀ x ∈ l, ∀ k, (f x k).2 = k + w x) → (mkL f l k).2 = k + ((l.map w).sum : Nat)
  | [], k, _ => by simp [mkL]
  | x :: l, k, h => by
    simp only [mkL, List.map_cons, List.sum_cons]
    rw [mkL_far l _ fun y hy => h y (List.mem_cons_of_mem _ hy), h x (by simp)]; push_cast; omega
/-- a loop that marks -/
theorem markX {α β : Type} (N : Nat) (L : Nat → List α → Int → Int → Option β) (f : α → Int → α × Int) (w : α → Nat) (B : Int) (fin : List α → Int → Option β) (xs : List α) (k0 : Int) (hN : xs.length = N) (hw : ∀ x ∈ xs, ∀ k, (f x k).2 = k + w x)
    (h0 : 0 ≤ k0) (hB : k0 + ((xs.map w).sum : Nat) ≤ B)
    (hs : ∀ n (a : List α) (k : Int) (i : Nat) (hi : i < N) (hl : a.length = N), a[i]'(by omega) ∈ xs → 0 ≤ k → k + w (a[i]'(by omega)) ≤ B → L (n + 1) a k i = L n (a.set i (f (a[i]'(by omega)) k).1) (f (a[i]'(by omega)) k).2 ((i + 1 : Nat) : Int))
    (he : ∀ n a k, a.length = N → L (n + 1) a k (N : Nat) = fin a k) {n : Nat} (hn : N < n) : L n xs k0 0 = fin (mkL f xs k0).1 (mkL f xs k0).2 := by
  have far : ∀ i, i ≤ N → (mkL f (xs.take i) k0).2 = k0 + (((xs.take i).map w).sum : Nat) := fun i _ => mkL_far _ _ fun x hx => hw x (List.mem_of_mem_take hx)
  have := forS N (fun n (s : List α × Int) i => L n s.1 s.2 i) (fun i => ((mkL f (xs.take i) k0).1 ++ xs.drop i, (mkL f (xs.take i) k0).2)) (r := fin (mkL f xs k0).1 (mkL f xs k0).2) (fun n i hi => ?_) (fun n => ?_) hn
  · simpa [mkL] using this
  · have hix : i < xs.length := by omega
    have hlen : (mkL f (xs.take i) k0).1.length = i := by rw [mkL_len]; simp; omega
    have hl2 : ((mkL f (xs.take i) k0).1 ++ xs.drop i).length = N := by simp [hlen]; omega
    have hget : ((mkL f (xs.take i) k0).1 ++ xs.drop i)[i]'(by omega) = xs[i] := by
      rw [List.getElem_append_right (by omega)]; simp [hlen]
    have hsum : (((xs.take i).map w).sum : Nat) + w xs[i] ≤ (xs.map w).sum := by
      have h1 : xs = xs.take i ++ xs[i] :: xs.drop (i + 1) := by rw [← List.drop_eq_getElem_cons hix, List.take_append_drop]
      have h2 : (xs.map w).sum = ((xs.take i).map w).sum + (w xs[i] + ((xs.drop (i + 1)).map w).sum) := by
        conv => lhs; rw [h1]
        rw [List.map_append, List.sum_append, List.map_cons, List.sum_cons]
      omega
    have hf := far i (by omega)
    dsimp only
    rw [hs n _ _ i hi hl2 (by rw [hget]; exact List.getElem_mem hix) (by omega) (by rw [hget, hf]; omega), hget, List.take_succ_eq_append_getElem hix, mkL_snoc]
    congr 1
    rw [List.set_append_right _ _ (by omega), hlen, Nat.sub_self, List.drop_eq_getElem_cons hix, List.set_cons_zero, List.append_assoc]; rfl
  · dsimp only
    rw [List.take_of_length_le (by omega), List.drop_of_length_le (by omega), List.append_nil]
    exact he n _ _ (by rw [mkL_len]; exact hN)
/-- a loop that looks for the marks finds them -/
theorem heldX {α : Type} (f : α → Int → α × Int) (h : α → Int → Option Int) (w : α → Nat) (B : Int) : ∀ (xs : List α) (k0 : Int) (L : Nat → Int → Int → Option (Int ⊕ Int)) (j : Nat), (∀ x ∈ xs, ∀ k, (f x k).2 = k + w x) → 0 ≤ k0 → k0 + ((xs.map w).sum : Nat) ≤ B →
    (∀ x ∈ xs, ∀ k, 0 ≤ k → k + w x ≤ B → h (f x k).1 k = some (f x k).2) →
    (∀ n k (i : Nat) (hi : i < xs.length), 0 ≤ k → k + w xs[i] ≤ B → L (n + 1) k ((j + i : Nat) : Int) = (h ((mkL f xs k0).1[i]'(by rw [mkL_len]; exact hi)) k).bind fun q => if q < 0 then some (.inr (-1)) else L n q ((j + i + 1 : Nat) : Int)) →
    (∀ n k, L (n + 1) k ((j + xs.length : Nat) : Int) = some (.inl k)) → ∀ n, xs.length < n → L n k0 (j : Int) = some (.inl (mkL f xs k0).2)
  | [], k0, L, j, _, _, _, _, _, he, n, hn => by
    obtain ⟨n, rfl⟩ : ∃ m, n = m + 1 := ⟨n - 1, by simp at hn; omega⟩
    have := he n k0
    simpa [mkL] using this
  | x :: xs, k0, L, j, hw, h0, hB, hh, hs, he, n, hn => by
    obtain ⟨n, rfl⟩ : ∃ m, n = m + 1 := ⟨n - 1, by simp at hn; omega⟩
    rw [List.map_cons, List.sum_cons] at hB
    have hx := hw x (by simp) k0
    have h1 := hs n k0 0 (by simp) h0 (by simp only [List.getElem_cons_zero]; omega)
    simp only [Nat.add_zero, mkL, List.getElem_cons_zero] at h1
    rw [h1, hh x (by simp) k0 h0 (by omega)]
    simp only [Option.bind_some]
    rw [if_neg (by omega)]
    have := heldX f h w B xs (f x k0).2 L (j + 1) (fun y hy => hw y (List.mem_cons_of_mem _ hy)) (by omega) (by rw [hx]; omega) (fun y hy => hh y (List.mem_cons_of_mem _ hy))
      (fun n k i hi hk0 hkB => by
        have := hs n k (i + 1) (by simpa using hi) hk0 (by simpa using hkB)
        simp only [mkL, List.getElem_cons_succ] at this
        rw [show j + 1 + i = j + (i + 1) by omega]; exact this)
      (fun n k => by have := he n k; rw [List.length_cons] at this; rw [show j + 1 + xs.length = j + (xs.length + 1) by omega]; exact this) n (by simp at hn; omega)
    exact this
abbrev BM : Int := 1152921504606846976
def mInt (_ : Int) (k : Int) : Int × Int := (k, k + 1)
def mIntS (l : List Int) (k : Int) : List Int × Int := mkL mInt l k
def mIntSS (l : List (List Int)) (k : Int) : List (List Int) × Int := mkL mIntS l k
theorem sum_one {α : Type} : ∀ (l : List α), (l.map fun _ => 1).sum = l.length
  | [] => rfl
  | _ :: l => by rw [List.map_cons, List.sum_cons, sum_one l, List.length_cons]; omega
theorem mIntS_far (l : List Int) (k : Int) : (mIntS l k).2 = k + (l.length : Nat) := by
  unfold mIntS
  rw [mkL_far (w := fun _ => 1) l k fun _ _ _ => rfl, sum_one]
theorem mIntSS_far (l : List (List Int)) (k : Int) : (mIntSS l k).2 = k + ((l.map List.length).sum : Nat) := by
  unfold mIntSS
  rw [mkL_far (w := List.length) l k fun x _ k => mIntS_far x k]
theorem markIntS_ok {l : List Int} {k : Int} (hl : l.length ≤ 1048576) (h0 : 0 ≤ k) (hB : k + l.length ≤ BM) : laws_markIntS l k = some (mIntS l k) := by
  unfold laws_markIntS
  have := markX l.length (fun n a k i => laws_markIntS_L2 n (a, k, i)) mInt (fun _ => 1) BM (fun a k => some (a, k)) l k rfl (fun _ _ _ => rfl) h0 (by rw [sum_one]; exact hB) (fun n a k i hi hl' _ hk0 hkB => ?_) (fun n a k hl' => ?_) (n := fuel) (by unfold fuel; omega)
  · rw [this]; rfl
  · have hk1 : w64 (k + 1) = k + 1 := w64_id (by omega) (by unfold BM at hkB; omega)
    simp only [laws_markIntS_L2, inb_nat, stt_nat, w64_succ (show i < 4611686018427387904 by omega), hk1, mInt]
    simp [hl', hi]
  · simp [laws_markIntS_L2, hl']
theorem heldIntS_ok {l : List Int} {k : Int} (hl : l.length ≤ 1048576) (h0 : 0 ≤ k) (hB : k + l.length ≤ BM) : laws_heldIntS (mIntS l k).1 k = some (mIntS l k).2 := by
  unfold laws_heldIntS
  have hlen : (mIntS l k).1.length = l.length := mkL_len _ _ _
  have := heldX mInt (fun x k => if x = k then some (k + 1) else some (-1)) (fun _ => 1) BM l k (fun n k' i => laws_heldIntS_L2 n ((mIntS l k).1, k', i)) 0 (fun _ _ _ => rfl) h0 (by rw [sum_one]; exact hB) (fun x _ k' _ _ => by simp [mInt])
    (fun n k' i hi hk0 hkB => by
      have hi' : i < (mIntS l k).1.length := by omega
      have hk1 : w64 (k' + 1) = k' + 1 := w64_id (by omega) (by unfold BM at hkB; omega)
      rw [Nat.zero_add]
      simp only [laws_heldIntS_L2, inb_nat, gd_nat hi', w64_succ (show i < 4611686018427387904 by omega), hk1]
      have e : (mkL mInt l k).1[i]'(by rw [mkL_len]; exact hi) = (mIntS l k).1[i] := rfl
      rw [e]
      by_cases h : (mIntS l k).1[i] = k'
      · simp [hi', hi, h, hlen, show ¬ k' + 1 < 0 by omega]
      · simp [hi', hi, h, hlen])
    (fun n k' => by rw [Nat.zero_add]; simp [laws_heldIntS_L2, hlen]) fuel (by unfold fuel; omega)
  rw [show ((0 : Nat) : Int) = 0 from rfl] at this
  rw [this]; rfl
theorem markIntSS_ok {l : List (List Int)} {k : Int} (hl : l.length ≤ 1048576) (hr : ∀ r ∈ l, r.length ≤ 1048576) (h0 : 0 ≤ k) (hB : k + ((l.map List.length).sum : Nat) ≤ BM) : laws_markIntSS l k = some (mIntSS l k) := by
  unfold laws_markIntSS
  have := markX l.length (fun n a k i => laws_markIntSS_L2 n (a, k, i)) mIntS List.length BM (fun a k => some (a, k)) l k rfl (fun x _ k => mIntS_far x k) h0 hB (fun n a k i hi hl' hm hk0 hkB => ?_) (fun n a k hl' => ?_) (n := fuel) (by unfold fuel; omega)
  · rw [this]; rfl
  · have hia : i < a.length := by omega
    simp only [laws_markIntSS_L2, inb_nat, stt_nat, gd_nat hia, w64_succ (show i < 4611686018427387904 by omega), markIntS_ok (hr _ hm) hk0 hkB, Option.bind_some]
    simp [hl', hi]
  · simp [laws_markIntSS_L2, hl']
theorem heldIntSS_ok {l : List (List Int)} {k : Int} (hl : l.length ≤ 1048576) (hr : ∀ r ∈ l, r.length ≤ 1048576) (h0 : 0 ≤ k) (hB : k + ((l.map List.length).sum : Nat) ≤ BM) : laws_heldIntSS (mIntSS l k).1 k = some (mIntSS l k).2 := by
  unfold laws_heldIntSS
  have hlen : (mIntSS l k).1.length = l.length := mkL_len _ _ _
  have := heldX mIntS laws_heldIntS List.length BM l k (fun n k' i => laws_heldIntSS_L2 n ((mIntSS l k).1, k', i)) 0 (fun x _ k => mIntS_far x k) h0 hB (fun x hx k' hk0 hkB => heldIntS_ok (hr x hx) hk0 hkB)
    (fun n k' i hi hk0 hkB => by
      have hi' : i < (mIntSS l k).1.length := by omega
      rw [Nat.zero_add]
      simp only [laws_heldIntSS_L2, inb_nat, gd_nat hi', w64_succ (show i < 4611686018427387904 by omega)]
      have e : (mkL mIntS l k).1[i]'(by rw [mkL_len]; exact hi) = (mIntSS l k).1[i] := rfl
      rw [e]
      simp [hlen, hi])
    (fun n k' => by rw [Nat.zero_add]; simp [laws_heldIntSS_L2, hlen]) fuel (by unfold fuel; omega)
  rw [show ((0 : Nat) : Int) = 0 from rfl] at this
  rw [this]; rfl
end T
open Go Go.Va
namespace T
theorem w1 : w64 1 = 1 := by rw [w64_def]; rfl
theorem w2 : w64 2 = 2 := by rw [w64_def]; rfl
theorem w3 : w64 3 = 3 := by rw [w64_def]; rfl
section
variable {a : Net}
end
end T
open Go Go.Va
namespace T
/- tables -/
abbrev T3 := List (List (List Bool))
abbrev T4 := List (List (List (List Bool)))
def Cell4 (s : Nat) (c : List (List Bool)) : Prop := c.length = s ∧ ∀ x, x < s → (c.getD x []).length = s
def Row4 (n s : Nat) (r : T3) : Prop := r.length = n ∧ ∀ j, j < n → Cell4 s (r.getD j [])
def Ok4 (n s : Nat) (t : T4) : Prop := t.length = n ∧ ∀ i, i < n → Row4 n s (t.getD i [])
def r4 (t : T4) (i j x y : Nat) : Bool := (((t.getD i []).getD j []).getD x []).getD y false
def s4 (t : T4) (i j x y : Nat) (b : Bool) : T4 := t.set i ((t.getD i []).set j (((t.getD i []).getD j []).set x ((((t.getD i []).getD j []).getD x []).set y b)))
def Ok3 (n m : Nat) (u : T3) : Prop := u.length = n ∧ ∀ i, i < n → (u.getD i []).length = n ∧ ∀ j, j < n → ((u.getD i []).getD j []).length = m
def r3 (u : T3) (i j p : Nat) : Bool := ((u.getD i []).getD j []).getD p false
def s3 (u : T3) (i j p : Nat) (b : Bool) : T3 := u.set i ((u.getD i []).set j (((u.getD i []).getD j []).set p b))
section
variable {n s m : Nat} {t : T4} {u : T3}
theorem Ok4.at (h : Ok4 n s t) {i j x : Nat} (hi : i < n) (hj : j < n) (hx : x < s) : i < t.length ∧ j < (t.getD i []).length ∧ x < ((t.getD i []).getD j []).length ∧ (((t.getD i []).getD j []).getD x []).length = s :=
  ⟨by rw [h.1]; exact hi, by rw [(h.2 i hi).1]; exact hj, by rw [((h.2 i hi).2 j hj).1]; exact hx, ((h.2 i hi).2 j hj).2 x hx⟩
theorem Ok3.at (h : Ok3 n m u) {i j : Nat} (hi : i < n) (hj : j < n) : i < u.length ∧ j < (u.getD i []).length ∧ ((u.getD i []).getD j []).length = m :=
  ⟨by rw [h.1]; exact hi, by rw [(h.2 i hi).1]; exact hj, (h.2 i hi).2 j hj⟩
theorem s4_ok (h : Ok4 n s t) {i j x y : Nat} {b : Bool} : Ok4 n s (s4 t i j x y b) := by
  unfold s4
  refine ⟨by rw [List.length_set]; exact h.1, fun i' hi' => ?_⟩
  rw [getD_set_of]
  split
  · rename_i hc
    obtain ⟨rfl, _⟩ := hc
    have hr := h.2 i hi'
    refine ⟨by rw [List.length_set]; exact hr.1, fun j' hj' => ?_⟩
    rw [getD_set_of]
    split
    · rename_i hc
      obtain ⟨rfl, _⟩ := hc
      have hcl := hr.2 j hj'
      refine ⟨by rw [List.length_set]; exact hcl.1, fun x' hx' => ?_⟩
      rw [getD_set_of]
      split
      · rename_i hc
        obtain ⟨rfl, _⟩ := hc
        rw [List.length_set]; exact hcl.2 x hx'
      · exact hcl.2 x' hx'
    · exact hr.2 j' hj'
  · exact h.2 i' hi'
theorem s3_ok (h : Ok3 n m u) {i j p : Nat} {b : Bool} : Ok3 n m (s3 u i j p b) := by
  unfold s3
  refine ⟨by rw [List.length_set]; exact h.1, fun i' hi' => ?_⟩
  rw [getD_set_of]
  split
  · rename_i hc
    obtain ⟨rfl, _⟩ := hc
    have hr := h.2 i hi'
    refine ⟨by rw [List.length_set]; exact hr.1, fun j' hj' => ?_⟩
    rw [getD_set_of]
    split
    · rename_i hc
      obtain ⟨rfl, _⟩ := hc
      rw [List.length_set]; exact hr.2 j hj'
    · exact hr.2 j' hj'
  · exact h.2 i' hi'
theorem r4_s4 (h : Ok4 n s t) {i j x y : Nat} {b : Bool} (hi : i < n) (hj : j < n) (hx : x < s) (hy : y < s) (i' j' x' y' : Nat) :
    r4 (s4 t i j x y b) i' j' x' y' = if i = i' ∧ j = j' ∧ x = x' ∧ y = y' then b else r4 t i' j' x' y' := by
  obtain ⟨h1, h2, h3, h4⟩ := h.at hi hj hx
  unfold r4 s4
  rw [getD_set_of]
  by_cases e1 : i = i'
  · subst e1
    rw [if_pos ⟨rfl, h1⟩, getD_set_of]
    by_cases e2 : j = j'
    · subst e2
      rw [if_pos ⟨rfl, h2⟩, getD_set_of]
      by_cases e3 : x = x'
      · subst e3
        rw [if_pos ⟨rfl, h3⟩, getD_set_of]
        by_cases e4 : y = y'
        · subst e4; rw [if_pos ⟨rfl, by omega⟩, if_pos ⟨rfl, rfl, rfl, rfl⟩]
        · rw [if_neg (by omega), if_neg (by omega)]
      · rw [if_neg (by omega), if_neg (by omega)]
    · rw [if_neg (by omega), if_neg (by omega)]
  · rw [if_neg (by omega), if_neg (by omega)]
theorem r3_s3 (h : Ok3 n m u) {i j p : Nat} {b : Bool} (hi : i < n) (hj : j < n) (hp : p < m) (i' j' p' : Nat) :
    r3 (s3 u i j p b) i' j' p' = if i = i' ∧ j = j' ∧ p = p' then b else r3 u i' j' p' := by
  obtain ⟨h1, h2, h3⟩ := h.at hi hj
  unfold r3 s3
  rw [getD_set_of]
  by_cases e1 : i = i'
  · subst e1
    rw [if_pos ⟨rfl, h1⟩, getD_set_of]
    by_cases e2 : j = j'
    · subst e2
      rw [if_pos ⟨rfl, h2⟩, getD_set_of]
      by_cases e3 : p = p'
      · subst e3; rw [if_pos ⟨rfl, by omega⟩, if_pos ⟨rfl, rfl, rfl⟩]
      · rw [if_neg (by omega), if_neg (by omega)]
    · rw [if_neg (by omega), if_neg (by omega)]
  · rw [if_neg (by omega), if_neg (by omega)]
end
/-- the two tables tell the same -/
structure Rel34 (n s : Nat) (t : T4) (u : T3) : Prop where
  o4 : Ok4 n s t
  o3 : Ok3 n (s * s) u
  eq : ∀ i j x y, i < j → j < n → x < s → y < s → r4 t i j x y = r3 u i j (x * s + y) ∧ r4 t j i y x = r3 u i j (x * s + y)
theorem cell_lt {s x y : Nat} (hx : x < s) (hy : y < s) : x * s + y < s * s := by
  have : (x + 1) * s ≤ s * s := Nat.mul_le_mul_right _ hx
  rw [Nat.succ_mul] at this; omega
theorem cell_inj {s x y x' y' : Nat} (hy : y < s) (hy' : y' < s) (h : x * s + y = x' * s + y') : x = x' ∧ y = y' := by
  have h1 : (x * s + y) / s = x := by rw [Nat.mul_comm, Nat.mul_add_div (by omega), Nat.div_eq_of_lt hy]; omega
  have h2 : (x' * s + y') / s = x' := by rw [Nat.mul_comm, Nat.mul_add_div (by omega), Nat.div_eq_of_lt hy']; omega
  have : x = x' := by rw [← h1, ← h2, h]
  subst this
  exact ⟨rfl, by omega⟩
theorem Rel34.drop {n s : Nat} {t : T4} {u : T3} (h : Rel34 n s t u) {i j x y : Nat} (hij : i < j) (hj : j < n) (hx : x < s) (hy : y < s) :
    Rel34 n s (s4 (s4 t i j x y false) j i y x false) (s3 u i j (x * s + y) false) := by
  refine ⟨s4_ok (s4_ok h.o4), s3_ok h.o3, fun i' j' x' y' h1 h2 h3 h4 => ?_⟩
  have hi : i < n := by omega
  rw [r4_s4 (s4_ok h.o4) hj hi hy hx, r4_s4 h.o4 hi hj hx hy, r4_s4 (s4_ok h.o4) hj hi hy hx, r4_s4 h.o4 hi hj hx hy, r3_s3 h.o3 hi hj (cell_lt hx hy)]
  obtain ⟨e1, e2⟩ := h.eq i' j' x' y' h1 h2 h3 h4
  by_cases e : i = i' ∧ j = j' ∧ x = x' ∧ y = y'
  · obtain ⟨rfl, rfl, rfl, rfl⟩ := e
    simp
  · have e3 : ¬ (i = i' ∧ j = j' ∧ x * s + y = x' * s + y') := fun ⟨q1, q2, q3⟩ => by
      have := cell_inj hy h4 q3
      exact e ⟨q1, q2, this.1, this.2⟩
    have e4 : ¬ (j = i' ∧ i = j' ∧ y = x' ∧ x = y') := by omega
    have e5 : ¬ (i = j' ∧ j = i' ∧ x = y' ∧ y = x') := by omega
    have e6 : ¬ (j = j' ∧ i = i' ∧ y = y' ∧ x = x') := by omega
    simp only [if_neg e, if_neg e3, if_neg e4, if_neg e5, if_neg e6]
    exact ⟨e1, e2⟩
end T
open Go Go.Va
namespace T
section
variable {a : Net} {n s : Nat} {t : T4} {u : T3}
/- the program's empty table -/
def PA (n s i : Nat) (t : T4) : Prop := t.length = n ∧ ∀ i', i' < i → Row4 n s (t.getD i' [])
def PB (n s i j : Nat) (t : T4) : Prop := PA n s i t ∧ (t.getD i []).length = n ∧ ∀ j', j' < j → Cell4 s ((t.getD i []).getD j' [])
theorem PA.set {i : Nat} (h : PA n s i t) (r : T3) : PA n s i (t.set i r) := by
  refine ⟨by rw [List.length_set]; exact h.1, fun i' hi' => ?_⟩
  rw [getD_set_of, if_neg (by omega)]; exact h.2 i' hi'
theorem PB.set {i j : Nat} (h : PB n s i j t) (hi : i < n) (c : List (List Bool)) : PB n s i j (t.set i ((t.getD i []).set j c)) := by
  have hl := h.1.1
  refine ⟨h.1.set _, ?_, fun j' hj' => ?_⟩
  · rw [getD_set_of, if_pos ⟨rfl, by omega⟩, List.length_set]; exact h.2.1
  · rw [getD_set_of, if_pos ⟨rfl, by omega⟩, getD_set_of, if_neg (by omega)]; exact h.2.2 j' hj'
end
end T
open Go Go.Va
namespace T
section
variable {a : Net} {n s : Nat} {t : T4} {u : T3}
def cI (o : List Nat) : List Int := o.map fun x : Nat => (x : Int)
end
end T
open Go Go.Va
namespace T
/- digits -/
def dg (b : Nat) : Nat → Nat → List Nat
  | 0, _ => []
  | k + 1, i => dg b k (i / b) ++ [i % b]
theorem cI_len {o : List Nat} : (cI o).length = o.length := by unfold cI; simp
end T
set_option linter.unusedVariables false
open Go Go.Va
namespace T
def spec_l2Args_L3 : Nat → (Int × Int × (List Int) × Int) → Option ((List Int))
  | 0, _ => none
  | n + 1, (n_, at_, out, i) =>
    if decide (i ≥ 0) then
      if n_ ≠ 0 then
        if inb i out then
          if n_ ≠ 0 then
            spec_l2Args_L3 n (n_, w64 (Int.tdiv at_ n_), stt out i (Int.tmod at_ n_), w64 (i - 1))
          else none
        else none
      else none
    else
      some out
def spec_l2Args (n_ : Int) (arity : Int) (at_ : Int) : Option ((List Int)) :=
  if 0 ≤ arity ∧ arity ≤ arity ∧ arity ≤ lim then
    (spec_l2Args_L3 fuel (n_, at_, List.replicate (Int.toNat arity) (0 : Int), w64 (arity - 1))).bind fun s1 =>
      some s1
  else none
def spec_l1Most (a : Int) (b : Int) : Option (Int) :=
  if decide (a > b) then
    some a
  else
    some b
def impl_argsAt_L3 : Nat → (Int × Int × (List Int) × Int) → Option ((List Int))
  | 0, _ => none
  | n + 1, (i, n_, args, j) =>
    if decide (j ≥ 0) then
      if n_ ≠ 0 then
        if inb j args then
          if n_ ≠ 0 then
            impl_argsAt_L3 n (w64 (Int.tdiv i n_), n_, stt args j (Int.tmod i n_), w64 (j - 1))
          else none
        else none
      else none
    else
      some args
def impl_argsAt (i : Int) (k : Int) (n_ : Int) : Option ((List Int)) :=
  if 0 ≤ k ∧ k ≤ k ∧ k ≤ lim then
    (impl_argsAt_L3 fuel (i, n_, List.replicate (Int.toNat k) (0 : Int), w64 (k - 1))).bind fun s1 =>
      some s1
  else none
end T
open Go Go.Va
namespace T
theorem tdivN {a b : Nat} (ha : a < 4611686018427387904) : w64 (Int.tdiv (a : Int) (b : Int)) = ((a / b : Nat) : Int) := by
  rw [Int.tdiv_eq_ediv_of_nonneg (by omega), ← Int.natCast_ediv]
  have := Nat.div_le_self a b
  generalize a / b = q at this
  exact w64_id (by omega) (by omega)
theorem tmodN {a b : Nat} : Int.tmod (a : Int) (b : Int) = ((a % b : Nat) : Int) := by
  rw [Int.tmod_eq_emod_of_nonneg (by omega), ← Int.natCast_emod]
section
variable {n : Nat}
end
end T
open Go Go.Va
namespace T
abbrev RelT := Int × List (List Int)
theorem cI_set {l : List Nat} {s : List Nat} {x y : Nat} : (cI (l ++ x :: s)).set l.length (y : Int) = cI (l ++ y :: s) := by
  unfold cI
  rw [List.map_append, List.map_append, List.map_cons, List.map_cons, List.set_append_right _ _ (by simp)]
  simp
theorem args_L3 {b : Nat} (hb : 0 < b) : ∀ (j i f : Nat) (s : List Nat), j < f → i < 4611686018427387904 → j ≤ 1000 →
    impl_argsAt_L3 f ((i : Int), (b : Int), cI (List.replicate j 0 ++ s), (j : Int) - 1) = some (cI (dg b j i ++ s)) := by
  intro j
  induction j with
  | zero =>
    intro i f s hf hi hj
    obtain ⟨f, rfl⟩ : ∃ z, f = z + 1 := ⟨f - 1, by omega⟩
    simp only [impl_argsAt_L3]
    rw [if_neg (by simp)]; rfl
  | succ j ih =>
    intro i f s hf hi hj
    obtain ⟨f, rfl⟩ : ∃ z, f = z + 1 := ⟨f - 1, by omega⟩
    have e1 : ((j + 1 : Nat) : Int) - 1 = (j : Int) := by omega
    have hz : List.replicate (j + 1) 0 ++ s = List.replicate j 0 ++ 0 :: s := by rw [List.replicate_succ']; simp
    have hlen : j < (cI (List.replicate j 0 ++ 0 :: s)).length := by rw [cI_len]; simp
    have hset := cI_set (l := List.replicate j 0) (s := s) (x := 0) (y := i % b)
    rw [List.length_replicate] at hset
    have w2 : w64 ((j : Int) - 1) = (j : Int) - 1 := w64_id (by omega) (by omega)
    have hle := Nat.div_le_self i b
    rw [e1, hz]
    simp only [impl_argsAt_L3, tdivN hi, tmodN, inb_nat, hlen, stt_nat, hset, w2]
    rw [if_pos (by simp), if_pos (by omega), if_pos trivial, if_pos (by omega), ih (i / b) f _ (by omega) (by omega) (by omega)]
    simp [dg]
theorem impl_argsAt_ok {b k i : Nat} (hb : 0 < b) (hk : k ≤ 1000) (hi : i < 4611686018427387904) : impl_argsAt (i : Int) (k : Int) (b : Int) = some (cI (dg b k i)) := by
  have h := args_L3 hb k i fuel [] (by unfold fuel; omega) hi hk
  have e : cI (List.replicate k 0 ++ []) = List.replicate (Int.toNat (k : Int)) (0 : Int) := by unfold cI; simp
  rw [e, List.append_nil] at h
  unfold impl_argsAt
  rw [w64_id (x := (k : Int) - 1) (by omega) (by omega), h, if_pos (by unfold lim; omega)]; rfl
theorem l2Args_L3 {b : Nat} (hb : 0 < b) : ∀ (j i f : Nat) (s : List Nat), j < f → i < 4611686018427387904 → j ≤ 1000 →
    spec_l2Args_L3 f ((b : Int), (i : Int), cI (List.replicate j 0 ++ s), (j : Int) - 1) = some (cI (dg b j i ++ s)) := by
  intro j
  induction j with
  | zero =>
    intro i f s hf hi hj
    obtain ⟨f, rfl⟩ : ∃ z, f = z + 1 := ⟨f - 1, by omega⟩
    simp only [spec_l2Args_L3]
    rw [if_neg (by simp)]; rfl
  | succ j ih =>
    intro i f s hf hi hj
    obtain ⟨f, rfl⟩ : ∃ z, f = z + 1 := ⟨f - 1, by omega⟩
    have e1 : ((j + 1 : Nat) : Int) - 1 = (j : Int) := by omega
    have hz : List.replicate (j + 1) 0 ++ s = List.replicate j 0 ++ 0 :: s := by rw [List.replicate_succ']; simp
    have hlen : j < (cI (List.replicate j 0 ++ 0 :: s)).length := by rw [cI_len]; simp
    have hset := cI_set (l := List.replicate j 0) (s := s) (x := 0) (y := i % b)
    rw [List.length_replicate] at hset
    have w2 : w64 ((j : Int) - 1) = (j : Int) - 1 := w64_id (by omega) (by omega)
    have hle := Nat.div_le_self i b
    rw [e1, hz]
    simp only [spec_l2Args_L3, tdivN hi, tmodN, inb_nat, hlen, stt_nat, hset, w2]
    rw [if_pos (by simp), if_pos (by omega), if_pos trivial, if_pos (by omega), ih (i / b) f _ (by omega) (by omega) (by omega)]
    simp [dg]
theorem spec_l2Args_ok {b k i : Nat} (hb : 0 < b) (hk : k ≤ 1000) (hi : i < 4611686018427387904) : spec_l2Args (b : Int) (k : Int) (i : Int) = some (cI (dg b k i)) := by
  have h := l2Args_L3 hb k i fuel [] (by unfold fuel; omega) hi hk
  have e : cI (List.replicate k 0 ++ []) = List.replicate (Int.toNat (k : Int)) (0 : Int) := by unfold cI; simp
  rw [e, List.append_nil] at h
  unfold spec_l2Args
  rw [w64_id (x := (k : Int) - 1) (by omega) (by omega), h, if_pos (by unfold lim; omega)]; rfl
section
variable {n k m : Nat} {r : RelT}
end
end T
open Go Go.Va
namespace T
theorem eqRelation_ok {a b : RelT} (h : rowsS a.2) : laws_eqRelation a b = some (decide (a = b)) := by
  unfold laws_eqRelation
  rw [eqIntSS_ok (by have := h.1; omega) fun r hr => by have := h.2 r hr; omega]
  obtain ⟨a1, a2⟩ := a
  obtain ⟨b1, b2⟩ := b
  by_cases h1 : a1 = b1
  · by_cases h2 : a2 = b2 <;> simp [h1, h2]
  · simp [h1]
end T
open Go Go.Va
namespace T
section
variable {α : Type} {nw old : Nat → α} {N i : Nat}
end
section
variable {p : Int} {W : Nat} {r row : List Int}
theorem w64_small {x : Int} (h0 : -1000000 ≤ x) (h1 : x ≤ 1000000) : w64 x = x := w64_id (by omega) (by omega)
end
section
variable {p : Int} {W N : Nat}
end
end T
open Go Go.Va
namespace T
section
variable {a : Lin}
theorem tot_le {t : Nat} (h : ¬ szR t 1048576 < 0) : t ≤ 1048576 := by
  unfold szR at h; split at h <;> omega
end
end T
open Go Go.Va
namespace T
section
variable {a : Lin} {p : Int} {W N V : Nat}
theorem filter_snoc {α : Type} {q : α → Bool} {l : List α} {x : α} : (l ++ [x]).filter q = l.filter q ++ (if q x then [x] else []) := by
  rw [List.filter_append]; congr 1; cases h : q x <;> simp [h]
theorem sum_le16 : ∀ {l : List (List Int)}, (∀ r ∈ l, r.length ≤ 16) → (l.map List.length).sum ≤ 16 * l.length
  | [], _ => by simp
  | r :: l, h => by
    have := sum_le16 (l := l) fun q hq => h q (List.mem_cons_of_mem _ hq)
    have := h r (by simp)
    rw [List.map_cons, List.sum_cons, List.length_cons]; omega
end
end T
open Go Go.Va
namespace T
section
variable {p : Int} {k W N V : Nat} {ts : List (List Int)}
theorem neg2 (x : Int) : -1 - (-1 - x) = x := by omega
end
end T
set_option linter.unusedVariables false
open Go Go.Va
namespace T
def spec_l22Clause_L3 : Nat → (Int × (List Int) × Int × Int) → Option ((Unit) ⊕ (Bool))
  | 0, _ => none
  | n + 1, (arity, clause, last, i) =>
    if decide (i < (clause.length : Int)) then
      if inb i clause then
        (spec_l1In (gd clause i 0) (w64 (0 - arity)) arity).bind fun r1 =>
          if !r1 then
            some (.inr false)
          else
            if inb i clause then
              if (gd clause i 0) == 0 then
                some (.inr false)
              else
                if inb i clause then
                  if inb i clause then
                    (spec_l1Most (gd clause i 0) (w64 (0 - (gd clause i 0)))).bind fun r2 =>
                      if decide (r2 ≤ last) then
                        some (.inr false)
                      else
                        if inb i clause then
                          if inb i clause then
                            (spec_l1Most (gd clause i 0) (w64 (0 - (gd clause i 0)))).bind fun r3 =>
                              spec_l22Clause_L3 n (arity, clause, r3, w64 (i + 1))
                          else none
                        else none
                  else none
                else none
            else none
      else none
    else
      some (.inl ())
def spec_l22Clause (arity : Int) (clause : List Int) : Option (Bool) :=
  (spec_l22Clause_L3 fuel (arity, clause, 0, 0)).bind fun s1 =>
    match s1 with
    | .inl s2 =>
      some true
    | .inr s3 =>
      some s3
def spec_l22Obeys_L2 : Nat → ((List Int) × (List Int) × Int) → Option ((Unit) ⊕ (Bool))
  | 0, _ => none
  | n + 1, (t, clause, i) =>
    if decide (i < (clause.length : Int)) then
      if inb i clause then
        if decide ((gd clause i 0) > 0) then
          if inb i clause then
            if inb (w64 ((gd clause i 0) - 1)) t then
              if (gd t (w64 ((gd clause i 0) - 1)) 0) == 1 then
                some (.inr true)
              else
                if inb i clause then
                  if decide ((gd clause i 0) < 0) then
                    if inb i clause then
                      if inb (w64 ((w64 (0 - (gd clause i 0))) - 1)) t then
                        if (gd t (w64 ((w64 (0 - (gd clause i 0))) - 1)) 0) == 0 then
                          some (.inr true)
                        else
                          spec_l22Obeys_L2 n (t, clause, w64 (i + 1))
                      else none
                    else none
                  else
                    spec_l22Obeys_L2 n (t, clause, w64 (i + 1))
                else none
            else none
          else none
        else
          if inb i clause then
            if decide ((gd clause i 0) < 0) then
              if inb i clause then
                if inb (w64 ((w64 (0 - (gd clause i 0))) - 1)) t then
                  if (gd t (w64 ((w64 (0 - (gd clause i 0))) - 1)) 0) == 0 then
                    some (.inr true)
                  else
                    spec_l22Obeys_L2 n (t, clause, w64 (i + 1))
                else none
              else none
            else
              spec_l22Obeys_L2 n (t, clause, w64 (i + 1))
          else none
      else none
    else
      some (.inl ())
def spec_l22Obeys (t : List Int) (clause : List Int) : Option (Bool) :=
  (spec_l22Obeys_L2 fuel (t, clause, 0)).bind fun s1 =>
    match s1 with
    | .inl s2 =>
      some false
    | .inr s3 =>
      some s3
def spec_RelationOfClauses_L4 : Nat → (Int × (List (List Int)) × (Int × (List (List Int))) × Int) → Option ((Int × (List (List Int)) × (Int × (List (List Int)))) ⊕ ((Int × (List (List Int))) × Bool))
  | 0, _ => none
  | n + 1, (t0, t1, t4, t6) =>
    if decide (t6 < (t1.length : Int)) then
      if inb t6 t1 then
        (spec_l22Clause t0 (gd t1 t6 [])).bind fun r2 =>
          if !r2 then
            some (.inr ((0, []), false))
          else
            spec_RelationOfClauses_L4 n (t0, t1, (t4.1, t4.2), w64 (t6 + 1))
      else none
    else
      some (.inl (t0, t1, (t4.1, t4.2)))
def spec_RelationOfClauses_L14 : Nat → (Int × (List (List Int)) × (Int × (List (List Int))) × (Int × (List (List Int))) × Int × (List Int) × Bool × Int) → Option (Int × (List (List Int)) × (Int × (List (List Int))) × (Int × (List (List Int))) × Int × (List Int) × Bool)
  | 0, _ => none
  | n + 1, (t0, t1, t4, t7, t8, t9, t10, t11) =>
    if decide (t11 < (t1.length : Int)) then
      if t10 then
        if inb t11 t1 then
          (spec_l22Obeys t9 (gd t1 t11 [])).bind fun r8 =>
            spec_RelationOfClauses_L14 n (t0, t1, (t4.1, t4.2), (t7.1, t7.2), t8, t9, r8, w64 (t11 + 1))
        else none
      else
        spec_RelationOfClauses_L14 n (t0, t1, (t4.1, t4.2), (t7.1, t7.2), t8, t9, false, w64 (t11 + 1))
    else
      some (t0, t1, (t4.1, t4.2), (t7.1, t7.2), t8, t9, t10)
def spec_RelationOfClauses_L10 : Nat → (Int × (List (List Int)) × (Int × (List (List Int))) × (Int × (List (List Int))) × Int) → Option ((Int × (List (List Int))) × (Int × (List (List Int))))
  | 0, _ => none
  | n + 1, (t0, t1, t4, t7, t8) =>
    (spec_l2Pow 2 t0).bind fun r6 =>
      if decide (t8 < r6) then
        (spec_l2Args 2 t0 t8).bind fun r7 =>
          (spec_RelationOfClauses_L14 fuel (t0, t1, (t4.1, t4.2), (t7.1, t7.2), t8, r7, true, 0)).bind fun s8 =>
            if s8.2.2.2.2.2.2 then
              if s8.2.2.2.1.2.length + [s8.2.2.2.2.2.1].length ≤ lim then
                spec_RelationOfClauses_L10 n (s8.1, s8.2.1, (s8.2.2.1.1, s8.2.2.1.2), (s8.2.2.2.1.1, s8.2.2.2.1.2 ++ [s8.2.2.2.2.2.1]), w64 (s8.2.2.2.2.1 + 1))
              else none
            else
              spec_RelationOfClauses_L10 n (s8.1, s8.2.1, (s8.2.2.1.1, s8.2.2.1.2), (s8.2.2.2.1.1, s8.2.2.2.1.2), w64 (s8.2.2.2.2.1 + 1))
      else
        some ((t4.1, t4.2), (t7.1, t7.2))
def spec_RelationOfClauses (t0 : Int) (t1 : List (List Int)) : Option ((Int × (List (List Int))) × Bool) :=
  (spec_l1In t0 1 3).bind fun r1 =>
    if !r1 then
      some ((0, []), false)
    else
      if decide ((t1.length : Int) > 30) then
        some ((0, []), false)
      else
        (spec_RelationOfClauses_L4 fuel (t0, t1, (0, []), 0)).bind fun s2 =>
          match s2 with
          | .inl s3 =>
            (spec_RelationOfClauses_L10 fuel (s3.1, s3.2.1, (s3.2.2.1, s3.2.2.2), (s3.1, []), 0)).bind fun s5 =>
              some ((s5.2.1, s5.2.2), true)
          | .inr s4 =>
            some ((s4.1.1, s4.1.2), s4.2)
def impl_FullRelation_L5 : Nat → (Int × Int × (Int × (List (List Int))) × (Int × (List (List Int))) × Int) → Option ((Int × (List (List Int))) × (Int × (List (List Int))))
  | 0, _ => none
  | n + 1, (n_, arity, t4, r, i) =>
    (impl_power n_ arity).bind fun r2 =>
      if decide (i < r2) then
        (impl_argsAt i arity n_).bind fun r3 =>
          if r.2.length + [r3].length ≤ lim then
            impl_FullRelation_L5 n (n_, arity, (t4.1, t4.2), (r.1, r.2 ++ [r3]), w64 (i + 1))
          else none
      else
        some ((t4.1, t4.2), (r.1, r.2))
def impl_FullRelation (n_ : Int) (arity : Int) : Option ((Int × (List (List Int))) × Bool) :=
  (impl_isSize n_).bind fun r1 =>
    if !r1 then
      some ((0, []), false)
    else
      if decide (arity < 1) then
        some ((0, []), false)
      else
        if decide (arity > 3) then
          some ((0, []), false)
        else
          (impl_FullRelation_L5 fuel (n_, arity, (0, []), (arity, []), 0)).bind fun s2 =>
            some ((s2.2.1, s2.2.2), true)
def impl_isClause_L3 : Nat → (Int × Int × (List Int) × Int × Int) → Option ((Unit) ⊕ (Bool))
  | 0, _ => none
  | n + 1, (arity, last, t9, t10, t11) =>
    if decide (t11 < t10) then
      if inb t11 t9 then
        if decide ((maxI (gd t9 t11 0) (w64 (0 - (gd t9 t11 0)))) ≤ last) then
          some (.inr false)
        else
          if decide ((maxI (gd t9 t11 0) (w64 (0 - (gd t9 t11 0)))) > arity) then
            some (.inr false)
          else
            impl_isClause_L3 n (arity, maxI (gd t9 t11 0) (w64 (0 - (gd t9 t11 0))), t9, t10, w64 (t11 + 1))
      else none
    else
      some (.inl ())
def impl_isClause (arity : Int) (clause : List Int) : Option (Bool) :=
  (impl_isClause_L3 fuel (arity, 0, clause, (clause.length : Int), 0)).bind fun s1 =>
    match s1 with
    | .inl s2 =>
      some true
    | .inr s3 =>
      some s3
def impl_obeysClause_L2 : Nat → ((List Int) × (List Int) × Int × Int) → Option ((Unit) ⊕ (Bool))
  | 0, _ => none
  | n + 1, (t, t7, t8, t9) =>
    if decide (t9 < t8) then
      if inb t9 t7 then
        if decide ((gd t7 t9 0) > 0) then
          if inb (w64 ((gd t7 t9 0) - 1)) t then
            if (gd t (w64 ((gd t7 t9 0) - 1)) 0) == 1 then
              some (.inr true)
            else
              if decide ((gd t7 t9 0) < 0) then
                if inb (w64 ((w64 (0 - (gd t7 t9 0))) - 1)) t then
                  if (gd t (w64 ((w64 (0 - (gd t7 t9 0))) - 1)) 0) == 0 then
                    some (.inr true)
                  else
                    impl_obeysClause_L2 n (t, t7, t8, w64 (t9 + 1))
                else none
              else
                impl_obeysClause_L2 n (t, t7, t8, w64 (t9 + 1))
          else none
        else
          if decide ((gd t7 t9 0) < 0) then
            if inb (w64 ((w64 (0 - (gd t7 t9 0))) - 1)) t then
              if (gd t (w64 ((w64 (0 - (gd t7 t9 0))) - 1)) 0) == 0 then
                some (.inr true)
              else
                impl_obeysClause_L2 n (t, t7, t8, w64 (t9 + 1))
            else none
          else
            impl_obeysClause_L2 n (t, t7, t8, w64 (t9 + 1))
      else none
    else
      some (.inl ())
def impl_obeysClause (t : List Int) (clause : List Int) : Option (Bool) :=
  (impl_obeysClause_L2 fuel (t, clause, (clause.length : Int), 0)).bind fun s1 =>
    match s1 with
    | .inl s2 =>
      some false
    | .inr s3 =>
      some s3
def impl_RelationOfClauses_L6 : Nat → (Int × (List (List Int)) × (Int × (List (List Int))) × (Int × (List (List Int))) × (Int × (List (List Int))) × (List (List Int)) × Int × Int) → Option (((List (List Int)) × (Int × (List (List Int))) × (Int × (List (List Int))) × (Int × (List (List Int)))) ⊕ ((Int × (List (List Int))) × Bool))
  | 0, _ => none
  | n + 1, (t0, t1, t4, t6, t8, t31, t32, t33) =>
    if decide (t33 < t32) then
      if inb t33 t31 then
        (impl_isClause t0 (gd t31 t33 [])).bind fun r2 =>
          if !r2 then
            some (.inr ((0, []), false))
          else
            impl_RelationOfClauses_L6 n (t0, t1, (t4.1, t4.2), (t6.1, t6.2), (t8.1, t8.2), t31, t32, w64 (t33 + 1))
      else none
    else
      some (.inl (t1, (t4.1, t4.2), (t6.1, t6.2), (t8.1, t8.2)))
def impl_RelationOfClauses_L16 : Nat → ((List (List Int)) × (Int × (List (List Int))) × (Int × (List (List Int))) × (List Int) × Bool × ((List (List Int)) × Int) × Int × Int × (List (List Int)) × Int × Int) → Option ((List (List Int)) × (Int × (List (List Int))) × (Int × (List (List Int))) × (List Int) × Bool × ((List (List Int)) × Int) × Int × Int)
  | 0, _ => none
  | n + 1, (t1, t4, t8, t12, t13, t44, t45, t46, t50, t51, t52) =>
    if decide (t52 < t51) then
      if inb t52 t50 then
        if t13 then
          (impl_obeysClause t12 (gd t50 t52 [])).bind fun r6 =>
            impl_RelationOfClauses_L16 n (t1, (t4.1, t4.2), (t8.1, t8.2), t12, r6, (t44.1, -1 - (-1 - t44.2)), t45, t46, t50, t51, w64 (t52 + 1))
        else
          impl_RelationOfClauses_L16 n (t1, (t4.1, t4.2), (t8.1, t8.2), t12, false, (t44.1, -1 - (-1 - t44.2)), t45, t46, t50, t51, w64 (t52 + 1))
      else none
    else
      some (t1, (t4.1, t4.2), (t8.1, t8.2), t12, t13, (t44.1, -1 - (-1 - t44.2)), t45, t46)
def impl_RelationOfClauses_L12 : Nat → ((List (List Int)) × (Int × (List (List Int))) × (Int × (List (List Int))) × ((List (List Int)) × Int) × Int × Int) → Option ((Int × (List (List Int))) × (Int × (List (List Int))))
  | 0, _ => none
  | n + 1, (t1, t4, t8, t44, t45, t46) =>
    if decide (t46 < t45) then
      if inb t46 t44.1 then
        if (-1 - t44.2) < 0 ∧ -1 - (-1 - t44.2) ≤ t46 then
          (impl_RelationOfClauses_L16 fuel (t1, (t4.1, t4.2), (t8.1, t8.2), gd t44.1 t46 [], true, (t44.1, -1 - (-1 - (t46 + 1))), t45, t46, t1, (t1.length : Int), 0)).bind fun s6 =>
            if s6.2.2.2.2.1 then
              if s6.2.2.1.2.length + [s6.2.2.2.1].length ≤ lim then
                impl_RelationOfClauses_L12 n (s6.1, (s6.2.1.1, s6.2.1.2), (s6.2.2.1.1, s6.2.2.1.2 ++ [s6.2.2.2.1]), (s6.2.2.2.2.2.1.1, -1 - (-1 - s6.2.2.2.2.2.1.2)), s6.2.2.2.2.2.2.1, w64 (s6.2.2.2.2.2.2.2 + 1))
              else none
            else
              impl_RelationOfClauses_L12 n (s6.1, (s6.2.1.1, s6.2.1.2), (s6.2.2.1.1, s6.2.2.1.2), (s6.2.2.2.2.2.1.1, -1 - (-1 - s6.2.2.2.2.2.1.2)), s6.2.2.2.2.2.2.1, w64 (s6.2.2.2.2.2.2.2 + 1))
        else none
      else none
    else
      some ((t4.1, t4.2), (t8.1, t8.2))
def impl_RelationOfClauses (t0 : Int) (t1 : List (List Int)) : Option ((Int × (List (List Int))) × Bool) :=
  (impl_FullRelation 2 t0).bind fun r1 =>
    if !r1.2 then
      some ((0, []), false)
    else
      if decide ((t1.length : Int) > 30) then
        some ((0, []), false)
      else
        (impl_RelationOfClauses_L6 fuel (t0, t1, (0, []), (r1.1.1, r1.1.2), (t0, []), t1, (t1.length : Int), 0)).bind fun s2 =>
          match s2 with
          | .inl s3 =>
            (impl_RelationOfClauses_L12 fuel (s3.1, (s3.2.1.1, s3.2.1.2), (s3.2.2.2.1, s3.2.2.2.2), (s3.2.2.1.2, 0), (s3.2.2.1.2.length : Int), 0)).bind fun s5 =>
              some ((s5.2.1, s5.2.2), true)
          | .inr s4 =>
            some ((s4.1.1, s4.1.2), s4.2)
def laws_markRelation (a : Int × (List (List Int))) (k : Int) : Option ((Unit × (List (List Int))) × Int) :=
  (laws_markIntSS a.2 k).bind fun r1 =>
    some (((), r1.1), r1.2)
def laws_heldRelation (a : Int × (List (List Int))) (k : Int) : Option (Int) :=
  (laws_heldIntSS a.2 k).bind fun r1 =>
    if decide (r1 < 0) then
      some (-1)
    else
      some r1
def laws_FnExactRelationOfClauses (t0 : Int) (t1 : List (List Int)) : Option (Bool) :=
  (laws_szIntSS t1 1048576).bind fun r1 =>
    if decide (r1 < 0) then
      some true
    else
      (laws_toIntSS t1).bind fun r2 =>
        (spec_RelationOfClauses t0 r2).bind fun r3 =>
          (laws_toIntSS t1).bind fun r4 =>
            (impl_RelationOfClauses t0 r4).bind fun r5 =>
              (laws_eqRelation (r5.1.1, r5.1.2) (r3.1.1, r3.1.2)).bind fun r6 =>
                if !r6 then
                  some false
                else
                  if r5.2 != r3.2 then
                    some false
                  else
                    (laws_toIntSS t1).bind fun r7 =>
                      (laws_eqIntSS r4 r7).bind fun r8 =>
                        if !r8 then
                          some false
                        else
                          (laws_markIntSS r4 1).bind fun r9 =>
                            if decide (r9.2 < 0) then
                              some false
                            else
                              (laws_eqRelation (r5.1.1, r5.1.2) (r3.1.1, r3.1.2)).bind fun r10 =>
                                if !r10 then
                                  some false
                                else
                                  if r5.2 != r3.2 then
                                    some false
                                  else
                                    (laws_markRelation (r5.1.1, r5.1.2) 1).bind fun r11 =>
                                      (laws_heldRelation (r5.1.1, r11.1.2) 1).bind fun r12 =>
                                        if decide (r12 < 0) then
                                          some false
                                        else
                                          if r12 != r11.2 then
                                            some false
                                          else
                                            (laws_toIntSS t1).bind fun r13 =>
                                              (impl_RelationOfClauses t0 r13).bind fun r14 =>
                                                (laws_eqRelation (r14.1.1, r14.1.2) (r3.1.1, r3.1.2)).bind fun r15 =>
                                                  if !r15 then
                                                    some false
                                                  else
                                                    if r14.2 != r3.2 then
                                                      some false
                                                    else
                                                      (laws_heldRelation (r5.1.1, r11.1.2) 1).bind fun r16 =>
                                                        if decide (r16 < 0) then
                                                          some false
                                                        else
                                                          if r16 != r11.2 then
                                                            some false
                                                          else
                                                            some true
end T
open Go Go.Va
namespace T
abbrev RelC := Int × List (List Int)
/-- a list of literals is a clause -/
def clB (ar : Int) : Int → List Int → Bool
  | _, [] => true
  | last, x :: l => decide (-ar ≤ x ∧ x ≤ ar ∧ x ≠ 0 ∧ last < maxI x (-x)) && clB ar (maxI x (-x)) l
def i64 (x : Int) : Prop := -9223372036854775808 ≤ x ∧ x ≤ 9223372036854775807
theorem neg64 {x : Int} (h : i64 x) : w64 (0 - x) = if x = -9223372036854775808 then x else -x := by
  unfold i64 at h
  by_cases c : x = -9223372036854775808
  · rw [if_pos c, c]; decide
  · rw [if_neg c, w64_id (by omega) (by omega)]; omega
section
variable {c : List Int} {ar : Int}
theorem impl_cl (hc : ∀ x ∈ c, i64 x) (ha : 1 ≤ ar ∧ ar ≤ 3) (hl : c.length ≤ 1099511627775) : ∀ (m k n : Nat) (last : Int), k + m = c.length → m < n → 0 ≤ last → impl_isClause_L3 n (ar, last, c, (c.length : Int), (k : Int)) = some (if clB ar last (c.drop k) then .inl () else .inr false) := by
  intro m
  induction m with
  | zero =>
    intro k n last hk hn _
    obtain ⟨n, rfl⟩ : ∃ z, n = z + 1 := ⟨n - 1, by omega⟩
    have : k = c.length := by omega
    subst this
    rw [List.drop_length]
    simp [impl_isClause_L3, clB]
  | succ m ih =>
    intro k n last hk hn h0
    obtain ⟨n, rfl⟩ : ∃ z, n = z + 1 := ⟨n - 1, by omega⟩
    have hkl : k < c.length := by omega
    have hx := hc _ (List.getElem_mem hkl)
    have hw := neg64 hx
    rw [List.drop_eq_getElem_cons hkl]
    generalize hgx : c[k] = x at hx hw
    simp only [impl_isClause_L3, inb_nat, hkl, gd_nat hkl, hgx, if_true, hw, w64_succ (show k < 4611686018427387904 by omega)]
    have hf : ¬ (-ar ≤ x ∧ x ≤ ar ∧ x ≠ 0 ∧ last < maxI x (-x)) → (some (.inr false) : Option (Unit ⊕ Bool)) = some (if clB ar last (x :: c.drop (k + 1)) then .inl () else .inr false) := fun h => by
      have e : clB ar last (x :: c.drop (k + 1)) = (decide (-ar ≤ x ∧ x ≤ ar ∧ x ≠ 0 ∧ last < maxI x (-x)) && clB ar (maxI x (-x)) (c.drop (k + 1))) := rfl
      rw [e, decide_eq_false h]; rfl
    have ht : (-ar ≤ x ∧ x ≤ ar ∧ x ≠ 0 ∧ last < maxI x (-x)) → clB ar last (x :: c.drop (k + 1)) = clB ar (maxI x (-x)) (c.drop (k + 1)) := fun h => by
      have e : clB ar last (x :: c.drop (k + 1)) = (decide (-ar ≤ x ∧ x ≤ ar ∧ x ≠ 0 ∧ last < maxI x (-x)) && clB ar (maxI x (-x)) (c.drop (k + 1))) := rfl
      rw [e, decide_eq_true h, Bool.true_and]
    rw [if_pos (by simp; omega)]
    unfold i64 at hx
    by_cases cm : x = -9223372036854775808
    · have e1 : maxI x x = x := by unfold maxI; split <;> rfl
      rw [if_pos cm, e1, if_pos (by simp; omega)]
      exact hf (by omega)
    · rw [if_neg cm]
      have hM : maxI x (-x) = if -x > x then -x else x := rfl
      by_cases c1 : maxI x (-x) ≤ last
      · rw [if_pos (by simpa using c1)]
        exact hf (by omega)
      · rw [if_neg (by simpa using c1)]
        by_cases c2 : maxI x (-x) > ar
        · rw [if_pos (by simpa using c2)]
          exact hf (by rw [hM] at c2; split at c2 <;> omega)
        · rw [if_neg (by simpa using c2), ih (k + 1) n _ (by omega) (by omega) (by omega)]
          rw [ht (by
            rw [hM] at c1 c2 ⊢
            by_cases c5 : -x > x
            · rw [if_pos c5] at c1 c2 ⊢; omega
            · rw [if_neg c5] at c1 c2 ⊢; omega)]
theorem spec_cl (hc : ∀ x ∈ c, i64 x) (ha : 1 ≤ ar ∧ ar ≤ 3) (hl : c.length ≤ 1099511627775) : ∀ (m k n : Nat) (last : Int), k + m = c.length → m < n → 0 ≤ last → spec_l22Clause_L3 n (ar, c, last, (k : Int)) = some (if clB ar last (c.drop k) then .inl () else .inr false) := by
  intro m
  induction m with
  | zero =>
    intro k n last hk hn _
    obtain ⟨n, rfl⟩ : ∃ z, n = z + 1 := ⟨n - 1, by omega⟩
    have : k = c.length := by omega
    subst this
    rw [List.drop_length]
    simp [spec_l22Clause_L3, clB]
  | succ m ih =>
    intro k n last hk hn h0
    obtain ⟨n, rfl⟩ : ∃ z, n = z + 1 := ⟨n - 1, by omega⟩
    have hkl : k < c.length := by omega
    have hx := hc _ (List.getElem_mem hkl)
    have hw := neg64 hx
    rw [List.drop_eq_getElem_cons hkl]
    generalize hgx : c[k] = x at hx hw
    have hwa : w64 (0 - ar) = -ar := by rw [w64_id (by omega) (by omega)]; omega
    simp only [spec_l22Clause_L3, inb_nat, hkl, gd_nat hkl, hgx, if_true, hw, hwa, spec_l1In_ok, Option.bind_some, w64_succ (show k < 4611686018427387904 by omega)]
    have hf : ¬ (-ar ≤ x ∧ x ≤ ar ∧ x ≠ 0 ∧ last < maxI x (-x)) → (some (.inr false) : Option (Unit ⊕ Bool)) = some (if clB ar last (x :: c.drop (k + 1)) then .inl () else .inr false) := fun h => by
      have e : clB ar last (x :: c.drop (k + 1)) = (decide (-ar ≤ x ∧ x ≤ ar ∧ x ≠ 0 ∧ last < maxI x (-x)) && clB ar (maxI x (-x)) (c.drop (k + 1))) := rfl
      rw [e, decide_eq_false h]; rfl
    have ht : (-ar ≤ x ∧ x ≤ ar ∧ x ≠ 0 ∧ last < maxI x (-x)) → clB ar last (x :: c.drop (k + 1)) = clB ar (maxI x (-x)) (c.drop (k + 1)) := fun h => by
      have e : clB ar last (x :: c.drop (k + 1)) = (decide (-ar ≤ x ∧ x ≤ ar ∧ x ≠ 0 ∧ last < maxI x (-x)) && clB ar (maxI x (-x)) (c.drop (k + 1))) := rfl
      rw [e, decide_eq_true h, Bool.true_and]
    rw [if_pos (by simp; omega)]
    by_cases c0 : -ar ≤ x ∧ x ≤ ar
    · have ed : decide (-ar ≤ x ∧ x ≤ ar) = true := decide_eq_true c0
      simp only [ed, Bool.not_true, Bool.false_eq_true, if_false]
      have hne : ¬ x = -9223372036854775808 := by omega
      simp only [if_neg hne]
      have hM : spec_l1Most x (-x) = some (maxI x (-x)) := by
        unfold spec_l1Most maxI
        by_cases c3 : x > -x
        · rw [if_pos (by simpa using c3), if_neg (by omega)]
        · rw [if_neg (by simpa using c3)]
          by_cases c4 : -x > x
          · rw [if_pos c4]
          · rw [if_neg c4]; congr 1; omega
      rw [hM]
      simp only [Option.bind_some]
      by_cases c1 : x = 0
      · rw [if_pos (by simpa using c1)]
        exact hf (by omega)
      · rw [if_neg (by simpa using c1)]
        by_cases c2 : maxI x (-x) ≤ last
        · rw [if_pos (by simpa using c2)]
          exact hf (by omega)
        · rw [if_neg (by simpa using c2), ih (k + 1) n _ (by omega) (by omega) (by omega)]
          rw [ht ⟨c0.1, c0.2, c1, by omega⟩]
    · have ed : decide (-ar ≤ x ∧ x ≤ ar) = false := decide_eq_false c0
      simp only [ed, Bool.not_false, if_true]
      exact hf (by omega)
theorem impl_clause_ok (hc : ∀ x ∈ c, i64 x) (ha : 1 ≤ ar ∧ ar ≤ 3) (hl : c.length ≤ 1099511627775) : impl_isClause ar c = some (clB ar 0 c) := by
  unfold impl_isClause
  have := impl_cl hc ha hl c.length 0 fuel 0 (by omega) (by unfold fuel; omega) (by omega)
  rw [List.drop_zero] at this
  have this : impl_isClause_L3 fuel (ar, 0, c, (c.length : Int), 0) = _ := this
  rw [this]
  cases clB ar 0 c <;> rfl
theorem spec_clause_ok (hc : ∀ x ∈ c, i64 x) (ha : 1 ≤ ar ∧ ar ≤ 3) (hl : c.length ≤ 1099511627775) : spec_l22Clause ar c = some (clB ar 0 c) := by
  unfold spec_l22Clause
  have := spec_cl hc ha hl c.length 0 fuel 0 (by omega) (by unfold fuel; omega) (by omega)
  rw [List.drop_zero] at this
  have this : spec_l22Clause_L3 fuel (ar, c, 0, 0) = _ := this
  rw [this]
  cases clB ar 0 c <;> rfl
theorem clB_mem : ∀ {c : List Int} {last : Int}, clB ar last c = true → ∀ x ∈ c, -ar ≤ x ∧ x ≤ ar ∧ x ≠ 0
  | [], _, _, x, hx => by cases hx
  | y :: l, last, h, x, hx => by
    simp only [clB, Bool.and_eq_true, decide_eq_true_eq] at h
    rcases List.mem_cons.1 hx with rfl | hx
    · exact ⟨h.1.1, h.1.2.1, h.1.2.2.1⟩
    · exact clB_mem h.2 x hx
/-- a literal holds -/
def litB (t : List Int) (x : Int) : Bool := if x > 0 then gd t (x - 1) 0 == 1 else gd t (-x - 1) 0 == 0
theorem impl_obey {t : List Int} (ha : 1 ≤ ar ∧ ar ≤ 3) (ht : (t.length : Int) = ar) (hc : ∀ x ∈ c, -ar ≤ x ∧ x ≤ ar ∧ x ≠ 0) (hl : c.length ≤ 1099511627775) : impl_obeysClause t c = some (c.any (litB t)) := by
  unfold impl_obeysClause
  have key := allX c (fun m i => impl_obeysClause_L2 m (t, c, (c.length : Int), i)) (fun x => !litB t x) (.inr true) (.inl ()) (fun m k hk => ?_) (fun m => ?_) (n := fuel) (by unfold fuel; omega)
  · rw [key]
    have e : (c.all fun r => !litB t r) = !(c.any (litB t)) := by rw [List.not_any_eq_all_not]
    rw [e]
    cases c.any (litB t) <;> simp
  · have hx := hc _ (List.getElem_mem hk)
    generalize hgx : c[k] = x at hx
    have w1 : w64 (x - 1) = x - 1 := w64_small (by omega) (by omega)
    have w2 : w64 (0 - x) = -x := by rw [w64_small (by omega) (by omega)]; omega
    have w3 : w64 (-x - 1) = -x - 1 := w64_small (by omega) (by omega)
    simp only [impl_obeysClause_L2, inb_nat, hk, gd_nat hk, hgx, if_true, w1, w2, w3, w64_succ (show k < 4611686018427387904 by omega)]
    rw [if_pos (by simp; omega)]
    unfold litB
    by_cases cx : x > 0
    · rw [if_pos (by simpa using cx), if_pos cx, if_pos (show inb (x - 1) t by unfold inb; omega), if_neg (show ¬ decide (x < 0) = true by simp; omega)]
      cases (gd t (x - 1) 0 == 1) <;> rfl
    · rw [if_neg (by simpa using cx), if_neg cx, if_pos (show decide (x < 0) = true by simp; omega), if_pos (show inb (-x - 1) t by unfold inb; omega)]
      cases (gd t (-x - 1) 0 == 0) <;> rfl
  · simp only [impl_obeysClause_L2]
    rw [if_neg (by simp)]
theorem spec_obey {t : List Int} (ha : 1 ≤ ar ∧ ar ≤ 3) (ht : (t.length : Int) = ar) (hc : ∀ x ∈ c, -ar ≤ x ∧ x ≤ ar ∧ x ≠ 0) (hl : c.length ≤ 1099511627775) : spec_l22Obeys t c = some (c.any (litB t)) := by
  unfold spec_l22Obeys
  have key := allX c (fun m i => spec_l22Obeys_L2 m (t, c, i)) (fun x => !litB t x) (.inr true) (.inl ()) (fun m k hk => ?_) (fun m => ?_) (n := fuel) (by unfold fuel; omega)
  · rw [key]
    have e : (c.all fun r => !litB t r) = !(c.any (litB t)) := by rw [List.not_any_eq_all_not]
    rw [e]
    cases c.any (litB t) <;> simp
  · have hx := hc _ (List.getElem_mem hk)
    generalize hgx : c[k] = x at hx
    have w1 : w64 (x - 1) = x - 1 := w64_small (by omega) (by omega)
    have w2 : w64 (0 - x) = -x := by rw [w64_small (by omega) (by omega)]; omega
    have w3 : w64 (-x - 1) = -x - 1 := w64_small (by omega) (by omega)
    simp only [spec_l22Obeys_L2, inb_nat, hk, gd_nat hk, hgx, if_true, w1, w2, w3, w64_succ (show k < 4611686018427387904 by omega)]
    rw [if_pos (by simp; omega)]
    unfold litB
    by_cases cx : x > 0
    · rw [if_pos (by simpa using cx), if_pos cx, if_pos (show inb (x - 1) t by unfold inb; omega), if_neg (show ¬ decide (x < 0) = true by simp; omega)]
      cases (gd t (x - 1) 0 == 1) <;> rfl
    · rw [if_neg (by simpa using cx), if_neg cx, if_pos (show decide (x < 0) = true by simp; omega), if_pos (show inb (-x - 1) t by unfold inb; omega)]
      cases (gd t (-x - 1) 0 == 0) <;> rfl
  · simp only [spec_l22Obeys_L2]
    rw [if_neg (by simp)]
end
end T
open Go Go.Va
namespace T
def fullL (a : Nat) : List (List Int) := (List.range (2 ^ a)).map fun i => cI (dg 2 a i)
theorem row_tab : ∀ a : Fin 4, ∀ i : Fin 8, (cI (dg 2 a.val i.val)).length = a.val := by decide +kernel
theorem pow_tab : ∀ a : Fin 4, (2 : Int) ^ a.val = ((2 ^ a.val : Nat) : Int) ∧ 2 ^ a.val ≤ 8 := by decide
def okCl (cl : List (List Int)) (t : List Int) : Bool := cl.all fun c => c.any (litB t)
section
variable {a : Nat} {cl : List (List Int)}
theorem row_len (ha : 1 ≤ a ∧ a ≤ 3) {i : Nat} (hi : i < 2 ^ a) : (cI (dg 2 a i)).length = a := by
  have h := (pow_tab ⟨a, by omega⟩).2
  exact row_tab ⟨a, by omega⟩ ⟨i, by dsimp only at h; omega⟩
theorem impl_full_ok (ha : 1 ≤ a ∧ a ≤ 3) : impl_FullRelation 2 (a : Int) = some (((a : Int), fullL a), true) := by
  obtain ⟨hp1, hp2⟩ := pow_tab ⟨a, by omega⟩
  dsimp only at hp1 hp2
  have := forS (2 ^ a) (fun f o i => impl_FullRelation_L5 f (2, (a : Int), (0, []), ((a : Int), o), i)) (fun k => (List.range k).map fun i => cI (dg 2 a i)) (r := some ((0, []), ((a : Int), fullL a))) (fun f k hk => ?_) (fun f => ?_) (n := fuel) (by unfold fuel; omega)
  · have this : impl_FullRelation_L5 fuel (2, (a : Int), (0, []), ((a : Int), []), 0) = _ := this
    unfold impl_FullRelation
    have h2 : impl_isSize 2 = some true := by rw [impl_isSize_ok]; rfl
    rw [h2]
    simp only [Option.bind_some, Bool.not_true, Bool.false_eq_true, if_false]
    rw [if_neg (by simp; omega), if_neg (by simp; omega), this]; rfl
  · have h1 := impl_power_ok (n := 2) (by omega) (by omega) (k := a) (by omega)
    have h2 := impl_argsAt_ok (b := 2) (k := a) (i := k) (by omega) (by omega) (by omega)
    have h2 : impl_argsAt (k : Int) (a : Int) 2 = _ := h2
    simp only [impl_FullRelation_L5, h1, hp1, Option.bind_some, h2, List.range_succ, List.map_append, List.map_cons, List.map_nil, w64_succ (show k < 4611686018427387904 by omega)]
    rw [if_pos (by simp only [decide_eq_true_eq]; exact_mod_cast hk), if_pos (by simp; unfold lim; omega)]
  · have h1 := impl_power_ok (n := 2) (by omega) (by omega) (k := a) (by omega)
    simp only [impl_FullRelation_L5, h1, hp1, Option.bind_some]
    rw [if_neg (by simp)]; rfl
theorem impl_all (ha : 1 ≤ a ∧ a ≤ 3) {t : List Int} (ht : t.length = a) (hc : ∀ c ∈ cl, ∀ x ∈ c, -(a : Int) ≤ x ∧ x ≤ (a : Int) ∧ x ≠ 0) (hl : cl.length ≤ 30) (hr : ∀ c ∈ cl, c.length ≤ 1099511627775) (t4 t8 : RelC) (F : List (List Int)) (q t45 t46 : Int) :
    impl_RelationOfClauses_L16 fuel (cl, (t4.1, t4.2), (t8.1, t8.2), t, true, (F, q), t45, t46, cl, (cl.length : Int), 0) = some (cl, (t4.1, t4.2), (t8.1, t8.2), t, okCl cl t, (F, q), t45, t46) := by
  have := forS cl.length (fun f b i => impl_RelationOfClauses_L16 f (cl, (t4.1, t4.2), (t8.1, t8.2), t, b, (F, q), t45, t46, cl, (cl.length : Int), i)) (fun j => (cl.take j).all fun c => c.any (litB t)) (r := some (cl, (t4.1, t4.2), (t8.1, t8.2), t, okCl cl t, (F, q), t45, t46)) (fun f j hj => ?_) (fun f => ?_) (n := fuel) (by unfold fuel; omega)
  · exact this
  · have hob := impl_obey (ar := (a : Int)) (t := t) (by omega) (by omega) (hc _ (List.getElem_mem hj)) (hr _ (List.getElem_mem hj))
    simp only [impl_RelationOfClauses_L16, inb_nat, hj, gd_nat hj, neg2, hob, Option.bind_some, if_true, List.take_succ_eq_append_getElem hj, List.all_append, List.all_cons, List.all_nil, Bool.and_true, w64_succ (show j < 4611686018427387904 by omega)]
    rw [if_pos (by simp; omega)]
    cases hb : (cl.take j).all fun c => c.any (litB t) <;> simp [hb]
  · simp only [impl_RelationOfClauses_L16, neg2, List.take_length]
    rw [if_neg (by simp)]; rfl
theorem spec_all (ha : 1 ≤ a ∧ a ≤ 3) {t : List Int} (ht : t.length = a) (hc : ∀ c ∈ cl, ∀ x ∈ c, -(a : Int) ≤ x ∧ x ≤ (a : Int) ∧ x ≠ 0) (hl : cl.length ≤ 30) (hr : ∀ c ∈ cl, c.length ≤ 1099511627775) (t4 t7 : RelC) (t8 : Int) :
    spec_RelationOfClauses_L14 fuel ((a : Int), cl, (t4.1, t4.2), (t7.1, t7.2), t8, t, true, 0) = some ((a : Int), cl, (t4.1, t4.2), (t7.1, t7.2), t8, t, okCl cl t) := by
  have := forS cl.length (fun f b i => spec_RelationOfClauses_L14 f ((a : Int), cl, (t4.1, t4.2), (t7.1, t7.2), t8, t, b, i)) (fun j => (cl.take j).all fun c => c.any (litB t)) (r := some ((a : Int), cl, (t4.1, t4.2), (t7.1, t7.2), t8, t, okCl cl t)) (fun f j hj => ?_) (fun f => ?_) (n := fuel) (by unfold fuel; omega)
  · exact this
  · have hob := spec_obey (ar := (a : Int)) (t := t) (by omega) (by omega) (hc _ (List.getElem_mem hj)) (hr _ (List.getElem_mem hj))
    simp only [spec_RelationOfClauses_L14, inb_nat, hj, gd_nat hj, hob, Option.bind_some, if_true, List.take_succ_eq_append_getElem hj, List.all_append, List.all_cons, List.all_nil, Bool.and_true, w64_succ (show j < 4611686018427387904 by omega)]
    rw [if_pos (by simp; omega)]
    cases hb : (cl.take j).all fun c => c.any (litB t) <;> simp [hb]
  · simp only [spec_RelationOfClauses_L14, List.take_length]
    rw [if_neg (by simp)]; rfl
theorem impl_sel (ha : 1 ≤ a ∧ a ≤ 3) (hc : ∀ c ∈ cl, ∀ x ∈ c, -(a : Int) ≤ x ∧ x ≤ (a : Int) ∧ x ≠ 0) (hl : cl.length ≤ 30) (hr : ∀ c ∈ cl, c.length ≤ 1099511627775) :
    impl_RelationOfClauses_L12 fuel (cl, ((0 : Int), ([] : List (List Int))), ((a : Int), []), (fullL a, 0), ((fullL a).length : Int), 0) = some (((0 : Int), ([] : List (List Int))), ((a : Int), (fullL a).filter (okCl cl))) := by
  have hfl : (fullL a).length = 2 ^ a := by simp [fullL]
  obtain ⟨_, hp2⟩ := pow_tab ⟨a, by omega⟩
  dsimp only at hp2
  have := forS (fullL a).length (fun f (s : List (List Int) × Int) i => impl_RelationOfClauses_L12 f (cl, ((0 : Int), ([] : List (List Int))), ((a : Int), s.1), (fullL a, s.2), ((fullL a).length : Int), i)) (fun j => (((fullL a).take j).filter (okCl cl), (j : Int))) (r := some (((0 : Int), ([] : List (List Int))), ((a : Int), (fullL a).filter (okCl cl)))) (fun f j hj => ?_) (fun f => ?_) (n := fuel) (by unfold fuel; omega)
  · exact this
  · have hgl : (fullL a)[j].length = a := by
      have hj2 : j < 2 ^ a := by omega
      have := row_len ha hj2
      simp only [fullL, List.getElem_map, List.getElem_range]
      exact this
    have h16 := impl_all ha hgl hc hl hr (0, []) ((a : Int), ((fullL a).take j).filter (okCl cl)) (fullL a) ((j : Int) + 1) ((fullL a).length : Int) (j : Int)
    have e : ((j + 1 : Nat) : Int) = (j : Int) + 1 := by push_cast; rfl
    have hle := List.length_filter_le (okCl cl) ((fullL a).take j)
    rw [List.length_take] at hle
    simp only [impl_RelationOfClauses_L12, neg2, inb_nat, hj, gd_nat hj, h16, Option.bind_some, if_true, List.take_succ_eq_append_getElem hj, filter_snoc, w64_succ (show j < 4611686018427387904 by omega)]
    rw [if_pos (by simp; omega), if_pos (by omega), e]
    cases hb : okCl cl (fullL a)[j]
    · simp
    · simp only [if_true]
      rw [if_pos (by simp only [List.length_singleton]; unfold lim; omega)]
  · simp only [impl_RelationOfClauses_L12, List.take_length]
    rw [if_neg (by simp)]
theorem spec_sel (ha : 1 ≤ a ∧ a ≤ 3) (hc : ∀ c ∈ cl, ∀ x ∈ c, -(a : Int) ≤ x ∧ x ≤ (a : Int) ∧ x ≠ 0) (hl : cl.length ≤ 30) (hr : ∀ c ∈ cl, c.length ≤ 1099511627775) :
    spec_RelationOfClauses_L10 fuel ((a : Int), cl, ((0 : Int), ([] : List (List Int))), ((a : Int), []), 0) = some (((0 : Int), ([] : List (List Int))), ((a : Int), (fullL a).filter (okCl cl))) := by
  obtain ⟨hp1, hp2⟩ := pow_tab ⟨a, by omega⟩
  dsimp only at hp1 hp2
  have hpw := spec_l2Pow_ok (n := 2) (by omega) (by omega) (k := a) (by omega)
  have := forS (2 ^ a) (fun f o i => spec_RelationOfClauses_L10 f ((a : Int), cl, ((0 : Int), ([] : List (List Int))), ((a : Int), o), i)) (fun j => ((List.range j).map fun i => cI (dg 2 a i)).filter (okCl cl)) (r := some (((0 : Int), ([] : List (List Int))), ((a : Int), (fullL a).filter (okCl cl)))) (fun f j hj => ?_) (fun f => ?_) (n := fuel) (by unfold fuel; omega)
  · exact this
  · have h2 := spec_l2Args_ok (b := 2) (k := a) (i := j) (by omega) (by omega) (by omega)
    have h2 : spec_l2Args 2 (a : Int) (j : Int) = _ := h2
    have h14 := spec_all ha (row_len ha hj) hc hl hr (0, []) ((a : Int), ((List.range j).map fun i => cI (dg 2 a i)).filter (okCl cl)) (j : Int)
    have hle := List.length_filter_le (okCl cl) ((List.range j).map fun i => cI (dg 2 a i))
    rw [List.length_map, List.length_range] at hle
    simp only [spec_RelationOfClauses_L10, hpw, hp1, Option.bind_some, h2, h14, List.range_succ, List.map_append, List.map_cons, List.map_nil, filter_snoc, w64_succ (show j < 4611686018427387904 by omega)]
    rw [if_pos (by simp only [decide_eq_true_eq]; exact_mod_cast hj)]
    cases hb : okCl cl (cI (dg 2 a j))
    · simp
    · simp only [if_true]
      rw [if_pos (by simp only [List.length_singleton]; unfold lim; omega)]
  · simp only [spec_RelationOfClauses_L10, hpw, hp1, Option.bind_some]
    rw [if_neg (by simp)]; rfl
theorem Rel_ok {k : Int} (hr : ∀ c ∈ cl, c.length ≤ 1099511627775 ∧ ∀ x ∈ c, i64 x) (hln : cl.length ≤ 1099511627775) : ∃ R : RelC × Bool, impl_RelationOfClauses k cl = some R ∧ spec_RelationOfClauses k cl = some R ∧ R.1.2.length ≤ 8 ∧ ∀ t ∈ R.1.2, t.length ≤ 8 := by
  unfold spec_RelationOfClauses
  rw [spec_l1In_ok]
  by_cases hk : 1 ≤ k ∧ k ≤ 3
  · obtain ⟨a, rfl⟩ : ∃ a : Nat, k = (a : Int) := ⟨k.toNat, by omega⟩
    have ha : 1 ≤ a ∧ a ≤ 3 := by omega
    unfold impl_RelationOfClauses
    rw [impl_full_ok ha, decide_eq_true hk]
    simp only [Option.bind_some, Bool.not_true, Bool.false_eq_true, if_false]
    by_cases hl : cl.length ≤ 30
    · rw [if_neg (by simp; omega), if_neg (by simp; omega)]
      have l6 := allX cl (fun m i => impl_RelationOfClauses_L6 m ((a : Int), cl, ((0 : Int), ([] : List (List Int))), ((a : Int), fullL a), ((a : Int), []), cl, (cl.length : Int), i)) (clB (a : Int) 0) (.inr ((0, []), false)) (.inl (cl, ((0 : Int), ([] : List (List Int))), ((a : Int), fullL a), ((a : Int), []))) (fun m j hj => by
        have hcj := hr _ (List.getElem_mem hj)
        simp only [impl_RelationOfClauses_L6, inb_nat, hj, gd_nat hj, impl_clause_ok hcj.2 hk hcj.1, Option.bind_some, if_true, w64_succ (show j < 4611686018427387904 by omega)]
        rw [if_pos (by simp; omega)]
        cases clB (a : Int) 0 cl[j] <;> rfl) (fun m => by
        simp only [impl_RelationOfClauses_L6]
        rw [if_neg (by simp)]) (n := fuel) (by unfold fuel; omega)
      have l4 := allX cl (fun m i => spec_RelationOfClauses_L4 m ((a : Int), cl, ((0 : Int), ([] : List (List Int))), i)) (clB (a : Int) 0) (.inr ((0, []), false)) (.inl ((a : Int), cl, ((0 : Int), ([] : List (List Int))))) (fun m j hj => by
        have hcj := hr _ (List.getElem_mem hj)
        simp only [spec_RelationOfClauses_L4, inb_nat, hj, gd_nat hj, spec_clause_ok hcj.2 hk hcj.1, Option.bind_some, if_true, w64_succ (show j < 4611686018427387904 by omega)]
        rw [if_pos (by simp; omega)]
        cases clB (a : Int) 0 cl[j] <;> rfl) (fun m => by
        simp only [spec_RelationOfClauses_L4]
        rw [if_neg (by simp)]) (n := fuel) (by unfold fuel; omega)
      rw [l6, l4]
      cases hb : cl.all (clB (a : Int) 0) with
      | false => exact ⟨((0, []), false), rfl, rfl, by simp, by simp⟩
      | true =>
        have hc : ∀ c ∈ cl, ∀ x ∈ c, -(a : Int) ≤ x ∧ x ≤ (a : Int) ∧ x ≠ 0 := fun c hcm => clB_mem (List.all_eq_true.1 hb c hcm)
        have e1 := impl_sel ha hc hl fun c h => (hr c h).1
        have e2 := spec_sel ha hc hl fun c h => (hr c h).1
        simp only [if_true, Option.bind_some, e1, e2]
        obtain ⟨_, hp2⟩ := pow_tab ⟨a, by omega⟩
        dsimp only at hp2
        refine ⟨_, rfl, rfl, ?_, fun t ht => ?_⟩
        · have := List.length_filter_le (okCl cl) (fullL a)
          have hfl : (fullL a).length = 2 ^ a := by simp [fullL]
          dsimp only; omega
        · have ht := (List.mem_filter.1 ht).1
          unfold fullL at ht
          obtain ⟨i, hi, rfl⟩ := List.mem_map.1 ht
          rw [row_len ha (List.mem_range.1 hi)]; omega
    · rw [if_pos (by simp; omega), if_pos (by simp; omega)]
      exact ⟨_, rfl, rfl, by simp, by simp⟩
  · rw [decide_eq_false hk]
    refine ⟨((0, []), false), ?_, rfl, by simp, by simp⟩
    unfold impl_RelationOfClauses impl_FullRelation
    have h2 : impl_isSize 2 = some true := by rw [impl_isSize_ok]; rfl
    rw [h2]
    simp only [Option.bind_some, Bool.not_true, Bool.false_eq_true, if_false]
    by_cases h1 : k < 1
    · rw [if_pos (by simpa using h1)]; rfl
    · rw [if_neg (by simpa using h1), if_pos (by simp; omega)]; rfl
theorem FnExactRelationOfClauses_law {k : Int} (_ : wfT .int k) (h : wfT (.slice (.slice .int)) cl) : laws_FnExactRelationOfClauses k cl = some true := by
  unfold laws_FnExactRelationOfClauses
  rw [szIntSS_ok (by omega) (by omega) h.1 fun r hr => (h.2 r hr).1]
  simp only [Option.bind_some]
  by_cases hz : szR (totSS cl) 1048576 < 0
  · rw [if_pos (by simpa using hz)]
  · obtain ⟨h1, h2⟩ := szR_small hz
    have h2' : ∀ r ∈ cl, r.length ≤ 1099511627775 := fun r hr => by have := h2 r hr; omega
    rw [if_neg (by simpa using hz)]
    have hi : ∀ c ∈ cl, c.length ≤ 1099511627775 ∧ ∀ x ∈ c, i64 x := fun c hc => ⟨h2' c hc, fun x hx => by
      have := (h.2 c hc).2 x hx
      exact this⟩
    obtain ⟨R, e1, e2, hR1, hR2⟩ := Rel_ok (k := k) hi (by omega)
    have htot := tot_le hz
    have hm := markIntSS_ok (k := 1) h1 h2 (by omega) (by unfold BM; unfold totSS at htot; omega)
    have hmf := mIntSS_far cl 1
    have hR16 : ∀ r ∈ R.1.2, r.length ≤ 16 := fun r hr => by have := hR2 r hr; omega
    have hR3 : ∀ r ∈ R.1.2, r.length ≤ 1048576 := fun r hr => by have := hR2 r hr; omega
    have hq : laws_eqRelation (R.1.1, R.1.2) (R.1.1, R.1.2) = some true := by
      have := eqRelation_ok (a := R.1) (b := R.1) ⟨by omega, hR3⟩
      rw [decide_eq_true rfl] at this
      exact this
    have hsum := sum_le16 hR16
    have e3 := mIntSS_far R.1.2 1
    have e4 : ¬ (mIntSS R.1.2 1).2 < 0 := by omega
    have hmR : laws_markRelation (R.1.1, R.1.2) 1 = some (((), (mIntSS R.1.2 1).1), (mIntSS R.1.2 1).2) := by
      unfold laws_markRelation
      rw [markIntSS_ok (k := 1) (by omega) hR3 (by omega) (by unfold BM; omega)]; rfl
    have hhR : laws_heldRelation (R.1.1, (mIntSS R.1.2 1).1) 1 = some (mIntSS R.1.2 1).2 := by
      unfold laws_heldRelation
      rw [heldIntSS_ok (k := 1) (by omega) hR3 (by omega) (by unfold BM; omega)]
      simp only [Option.bind_some]
      rw [if_neg (by simpa using e4)]
    simp only [toIntSS_ok (show cl.length ≤ 1099511627775 by omega) h2', e1, e2, eqIntSS_ok (show cl.length ≤ 1099511627775 by omega) h2', hm, Option.bind_some, hq, hmR, hhR]
    simp [e4, show ¬ (mIntSS cl 1).2 < 0 by omega]
end
end T
