/- Plain lemmas on the typed functions of the program, the first part; no conditions. -/
import Derived.Test.YtomjicgdecgapaaV1
import Derived.Test.YtomjicgdecgapaaV5
set_option linter.all false
namespace Go.Va
theorem w64_def (x : Int) : w64 x = (x + 9223372036854775808) % 18446744073709551616 - 9223372036854775808 := by
  simp [w64, IntKind.wrap, IntKind.bits, IntKind.signed]
  split <;> omega
theorem w64_id {x : Int} (h1 : -9223372036854775808 ≤ x) (h2 : x ≤ 9223372036854775807) : w64 x = x := by
  rw [w64_def]; omega
theorem w64_succ {k : Nat} (h : k < 4611686018427387904) : w64 ((k : Int) + 1) = ((k + 1 : Nat) : Int) := by
  rw [w64_id (by omega) (by omega)]; rfl
theorem w64_succ' {k : Nat} (h : k < 4611686018427387904) : w64 ((k : Int) + 1) = (k : Int) + 1 := w64_id (by omega) (by omega)
theorem inb_nat {α : Type} {k : Nat} {xs : List α} : inb (k : Int) xs ↔ k < xs.length := by
  unfold inb; omega
theorem gd_nat {α : Type} {k : Nat} {xs : List α} {d : α} (h : k < xs.length) : gd xs (k : Int) d = xs[k] := by
  unfold gd; simp [h]
theorem stt_nat {α : Type} {k : Nat} {xs : List α} {x : α} : stt xs (k : Int) x = xs.set k x := by
  unfold stt; simp
/-- a loop over a list, from one place on -/
def runX {α σ β : Type} (step : σ → α → Option (σ ⊕ β)) (fin : σ → Option β) : List α → σ → Option β
  | [], s => fin s
  | a :: l, s => match step s a with | some (.inl s') => runX step fin l s' | some (.inr r) => some r | none => none
theorem loopX {α σ β : Type} (xs : List α) (L : Nat → σ → Int → Option β) (step : σ → α → Option (σ ⊕ β)) (fin : σ → Option β)
    (hs : ∀ n s (k : Nat) (hk : k < xs.length), L (n + 1) s k = match step s xs[k] with | some (.inl s') => L n s' ((k + 1 : Nat) : Int) | some (.inr r) => some r | none => none)
    (he : ∀ n s, L (n + 1) s (xs.length : Nat) = fin s) : ∀ (n k : Nat) (s : σ), k ≤ xs.length → xs.length - k < n → L n s k = runX step fin (xs.drop k) s := by
  intro n
  induction n with
  | zero => intro k s _ h; omega
  | succ n ih =>
    intro k s hk hn
    rcases Nat.lt_or_ge k xs.length with hlt | hge
    · rw [hs n s k hlt, List.drop_eq_getElem_cons hlt]
      simp only [runX]
      cases step s xs[k] with
      | none => rfl
      | some q =>
        cases q with
        | inl s' => exact ih (k + 1) s' hlt (by omega)
        | inr r => rfl
    · have : k = xs.length := by omega
      subst this
      rw [he, List.drop_length]; rfl
/-- .. from its start on -/
theorem loopX0 {α σ β : Type} (xs : List α) (L : Nat → σ → Int → Option β) (step : σ → α → Option (σ ⊕ β)) (fin : σ → Option β)
    (hs : ∀ n s (k : Nat) (hk : k < xs.length), L (n + 1) s k = match step s xs[k] with | some (.inl s') => L n s' ((k + 1 : Nat) : Int) | some (.inr r) => some r | none => none)
    (he : ∀ n s, L (n + 1) s (xs.length : Nat) = fin s) {n : Nat} (hn : xs.length < n) (s : σ) : L n s 0 = runX step fin xs s := by
  have := loopX xs L step fin hs he n 0 s (Nat.zero_le _) (by omega)
  simpa using this
/-- a loop that leaves at the first that fails -/
theorem runX_all {α β : Type} {p : α → Bool} {step : Unit → α → Option (Unit ⊕ β)} {fin : Unit → Option β} {r : β} : ∀ {l : List α}, (∀ a ∈ l, step () a = if p a then some (.inl ()) else some (.inr r)) → runX step fin l () = if l.all p then fin () else some r
  | [], _ => rfl
  | a :: l, h => by
    simp only [runX]
    rw [h a (by simp)]
    cases hp : p a with
    | true => simp only [if_true, List.all_cons, hp, Bool.true_and]; exact runX_all fun b hb => h b (List.mem_cons_of_mem _ hb)
    | false => simp [List.all_cons, hp]
/-- a loop that fills a list of the same length -/
theorem fillX {α β γ : Type} (xs : List α) (L : Nat → List β → Int → Option γ) (g : α → β) (fin : List β → Option γ)
    (hs : ∀ n (out : List β) (k : Nat) (hk : k < xs.length), out.length = xs.length → L (n + 1) out k = L n (out.set k (g xs[k])) ((k + 1 : Nat) : Int))
    (he : ∀ n out, out.length = xs.length → L (n + 1) out (xs.length : Nat) = fin out) : ∀ (n k : Nat) (out : List β), out.length = xs.length → k ≤ xs.length → xs.length - k < n → L n out k = fin (out.take k ++ (xs.drop k).map g) := by
  intro n
  induction n with
  | zero => intro k out _ _ h; omega
  | succ n ih =>
    intro k out hl hk hn
    rcases Nat.lt_or_ge k xs.length with hlt | hge
    · have : (out.set k (g xs[k])).take (k + 1) = out.take k ++ [g xs[k]] := by
        rw [List.take_succ_eq_append_getElem (by simp; omega), List.take_set_of_le (Nat.le_refl _), List.getElem_set_self]
      rw [hs n out k hlt hl, ih (k + 1) _ (by simpa using hl) hlt (by omega), List.drop_eq_getElem_cons hlt, this, List.map_cons, List.append_assoc, List.singleton_append]
    · have : k = xs.length := by omega
      subst this
      rw [he _ _ hl, List.drop_length, List.take_of_length_le (by omega)]; simp
theorem fillX0 {α β γ : Type} (xs : List α) (L : Nat → List β → Int → Option γ) (g : α → β) (fin : List β → Option γ)
    (hs : ∀ n (out : List β) (k : Nat) (hk : k < xs.length), out.length = xs.length → L (n + 1) out k = L n (out.set k (g xs[k])) ((k + 1 : Nat) : Int))
    (he : ∀ n out, out.length = xs.length → L (n + 1) out (xs.length : Nat) = fin out) {n : Nat} {out : List β} (hl : out.length = xs.length) (hn : xs.length < n) : L n out 0 = fin (xs.map g) := by
  have := fillX xs L g fin hs he n 0 out hl (Nat.zero_le _) (by omega)
  simpa using this
/-- a loop that holds two lists against each other -/
theorem eqX {α : Type} [DecidableEq α] (a b : List α) (hl : a.length = b.length) (L : Nat → Int → Option (Unit ⊕ Bool))
    (hs : ∀ n (k : Nat) (h1 : k < a.length) (h2 : k < b.length), L (n + 1) k = if a[k] = b[k] then L n ((k + 1 : Nat) : Int) else some (.inr false)) (he : ∀ n, L (n + 1) (a.length : Nat) = some (.inl ())) {n : Nat} (hn : a.length < n) :
    L n 0 = some (if a = b then .inl () else .inr false) := by
  have key : ∀ (n k : Nat), k ≤ a.length → a.length - k < n → L n k = some (if a.drop k = b.drop k then .inl () else .inr false) := by
    intro n
    induction n with
    | zero => intro k _ h; omega
    | succ n ih =>
      intro k hk hn
      rcases Nat.lt_or_ge k a.length with hlt | hge
      · have h2 : k < b.length := by omega
        have e : (a.drop k = b.drop k) ↔ (a[k] = b[k] ∧ a.drop (k + 1) = b.drop (k + 1)) := by
          rw [List.drop_eq_getElem_cons hlt, List.drop_eq_getElem_cons h2]; exact List.cons_eq_cons
        rw [hs n k hlt h2]
        by_cases h : a[k] = b[k]
        · rw [if_pos h, ih (k + 1) hlt (by omega)]
          by_cases h3 : a.drop (k + 1) = b.drop (k + 1)
          · rw [if_pos h3, if_pos (e.2 ⟨h, h3⟩)]
          · rw [if_neg h3, if_neg fun h' => h3 (e.1 h').2]
        · rw [if_neg h, if_neg fun h' => h (e.1 h').1]
      · have : k = a.length := by omega
        subst this
        rw [he, List.drop_length, hl, List.drop_length]; rfl
  have := key n 0 (Nat.zero_le _) (by omega)
  simpa using this
/-- a loop that asks of each element -/
theorem allX {α β : Type} (xs : List α) (L : Nat → Int → Option β) (p : α → Bool) (r e : β)
    (hs : ∀ n (k : Nat) (hk : k < xs.length), L (n + 1) k = if p xs[k] then L n ((k + 1 : Nat) : Int) else some r) (he : ∀ n, L (n + 1) (xs.length : Nat) = some e) {n : Nat} (hn : xs.length < n) :
    L n 0 = some (if xs.all p then e else r) := by
  have := loopX0 xs (fun n (_ : Unit) i => L n i) (fun _ a => if p a then some (.inl ()) else some (.inr r)) (fun _ => some e) (fun n s k hk => by rw [hs n k hk]; cases p xs[k] <;> simp) (fun n s => he n) hn ()
  rw [this, runX_all (p := p) (r := r) fun a _ => by cases p a <;> simp]
  cases xs.all p <;> simp
/-- a loop whose states are known -/
theorem forS {σ β : Type} (N : Nat) (L : Nat → σ → Int → Option β) (S : Nat → σ) {r : Option β}
    (hs : ∀ n (k : Nat), k < N → L (n + 1) (S k) k = L n (S (k + 1)) ((k + 1 : Nat) : Int)) (he : ∀ n, L (n + 1) (S N) (N : Nat) = r) {n : Nat} (hn : N < n) : L n (S 0) 0 = r := by
  have key : ∀ (n k : Nat), k ≤ N → N - k < n → L n (S k) k = r := by
    intro n
    induction n with
    | zero => intro k _ h; omega
    | succ n ih =>
      intro k hk hn
      rcases Nat.lt_or_ge k N with hlt | hge
      · rw [hs n k hlt]; exact ih (k + 1) hlt (by omega)
      · have : k = N := by omega
        subst this; exact he n
  exact key n 0 (Nat.zero_le _) (by omega)
/-- .. that leaves where p fails -/
theorem forA {σ β : Type} (N : Nat) (L : Nat → σ → Int → Option β) (S : Nat → σ) (p : Nat → Bool) {r e : Option β}
    (hs : ∀ n (k : Nat), k < N → L (n + 1) (S k) k = if p k then L n (S (k + 1)) ((k + 1 : Nat) : Int) else r) (he : ∀ n, L (n + 1) (S N) (N : Nat) = e) {n : Nat} (hn : N < n) :
    L n (S 0) 0 = if (List.range N).all p then e else r := by
  have key : ∀ (n k : Nat), k ≤ N → N - k < n → L n (S k) k = if (List.range' k (N - k)).all p then e else r := by
    intro n
    induction n with
    | zero => intro k _ h; omega
    | succ n ih =>
      intro k hk hn
      rcases Nat.lt_or_ge k N with hlt | hge
      · rw [hs n k hlt, show N - k = (N - (k + 1)) + 1 by omega, List.range'_succ, List.all_cons]
        cases hp : p k with
        | false => simp
        | true => simp only [if_true, Bool.true_and]; exact ih (k + 1) hlt (by omega)
      · have : k = N := by omega
        subst this; rw [he]; simp
  have := key n 0 (Nat.zero_le _) (by omega)
  rw [List.range_eq_range']
  simpa using this
/-- .. that leaves at the first place where q tells what with -/
theorem forF {σ β : Type} (N : Nat) (L : Nat → σ → Int → Option β) (S : Nat → σ) (q : Nat → Option (Option β)) {e : Option β}
    (hs : ∀ n (k : Nat), k < N → (∀ j, j < k → q j = none) → L (n + 1) (S k) k = match q k with | none => L n (S (k + 1)) ((k + 1 : Nat) : Int) | some r => r) (he : ∀ n, L (n + 1) (S N) (N : Nat) = e) {n : Nat} (hn : N < n) :
    L n (S 0) 0 = ((List.range N).findSome? q).getD e := by
  have key : ∀ (n k : Nat), k ≤ N → N - k < n → (∀ j, j < k → q j = none) → L n (S k) k = ((List.range' k (N - k)).findSome? q).getD e := by
    intro n
    induction n with
    | zero => intro k _ h; omega
    | succ n ih =>
      intro k hk hn hq
      rcases Nat.lt_or_ge k N with hlt | hge
      · rw [hs n k hlt hq, show N - k = (N - (k + 1)) + 1 by omega, List.range'_succ, List.findSome?_cons]
        cases hp : q k with
        | some r => simp
        | none =>
          refine ih (k + 1) hlt (by omega) fun j hj => ?_
          rcases Nat.lt_or_ge j k with h | h
          · exact hq j h
          · have : j = k := by omega
            rw [this]; exact hp
      · have : k = N := by omega
        subst this; rw [he]; simp
  have := key n 0 (Nat.zero_le _) (by omega) (fun j h => by omega)
  rw [List.range_eq_range']
  simpa using this
/-- sizes -/
def szR (t : Nat) (left : Int) : Int := if (t : Int) ≤ left then left - t else -1
end Go.Va
set_option linter.unusedVariables false
open Go Go.Va
namespace T
def fuel : Nat := 1099511627776
def laws_szIntS (a : List Int) (left : Int) : Option (Int) :=
  if decide ((w64 (left - (a.length : Int))) < 0) then
    some (-1)
  else
    some (w64 (left - (a.length : Int)))
def laws_szIntSS_L5 : Nat → ((List (List Int)) × Int × Int) → Option ((Int) ⊕ (Int))
  | 0, _ => none
  | n + 1, (a, left, i) =>
    if decide (i < (a.length : Int)) then
      if inb i a then
        (laws_szIntS (gd a i []) left).bind fun r1 =>
          if decide (r1 < 0) then
            some (.inr (-1))
          else
            laws_szIntSS_L5 n (a, r1, w64 (i + 1))
      else none
    else
      some (.inl left)
def laws_szIntSS (a : List (List Int)) (left : Int) : Option (Int) :=
  if decide ((w64 (left - (a.length : Int))) < 0) then
    some (-1)
  else
    (laws_szIntSS_L5 fuel (a, w64 (left - (a.length : Int)), 0)).bind fun s1 =>
      match s1 with
      | .inl s2 =>
        some s2
      | .inr s3 =>
        some s3
def laws_toIntS_L3 : Nat → ((List Int) × (List Int) × Int) → Option ((List Int))
  | 0, _ => none
  | n + 1, (a, out, i) =>
    if decide (i < (a.length : Int)) then
      if inb i a then
        if inb i out then
          laws_toIntS_L3 n (a, stt out i (gd a i 0), w64 (i + 1))
        else none
      else none
    else
      some out
def laws_toIntS (a : List Int) : Option ((List Int)) :=
  if 0 ≤ (a.length : Int) ∧ (a.length : Int) ≤ (a.length : Int) ∧ (a.length : Int) ≤ lim then
    (laws_toIntS_L3 fuel (a, List.replicate (Int.toNat (a.length : Int)) (0 : Int), 0)).bind fun s1 =>
      some s1
  else none
def laws_toIntSS_L3 : Nat → ((List (List Int)) × (List (List Int)) × Int) → Option ((List (List Int)))
  | 0, _ => none
  | n + 1, (a, out, i) =>
    if decide (i < (a.length : Int)) then
      if inb i a then
        (laws_toIntS (gd a i [])).bind fun r1 =>
          if inb i out then
            laws_toIntSS_L3 n (a, stt out i r1, w64 (i + 1))
          else none
      else none
    else
      some out
def laws_toIntSS (a : List (List Int)) : Option ((List (List Int))) :=
  if 0 ≤ (a.length : Int) ∧ (a.length : Int) ≤ (a.length : Int) ∧ (a.length : Int) ≤ lim then
    (laws_toIntSS_L3 fuel (a, List.replicate (Int.toNat (a.length : Int)) ([] : List Int), 0)).bind fun s1 =>
      some s1
  else none
def spec_l21Prime (p : Int) : Option (Bool) :=
  if p == 2 then
    some true
  else
    if p == 3 then
      some true
    else
      if p == 5 then
        some true
      else
        some (p == 7)
def spec_l1In (x : Int) (a : Int) (b : Int) : Option (Bool) :=
  if decide (x ≥ a) then
    some (decide (x ≤ b))
  else
    some false
def spec_l2Elements_L2 : Nat → (Int × (List Int) × Int) → Option ((Unit) ⊕ (Bool))
  | 0, _ => none
  | n + 1, (n_, list, i) =>
    if decide (i < (list.length : Int)) then
      if inb i list then
        (spec_l1In (gd list i 0) 0 (w64 (n_ - 1))).bind fun r1 =>
          if !r1 then
            some (.inr false)
          else
            spec_l2Elements_L2 n (n_, list, w64 (i + 1))
      else none
    else
      some (.inl ())
def spec_l2Elements (n_ : Int) (list : List Int) : Option (Bool) :=
  (spec_l2Elements_L2 fuel (n_, list, 0)).bind fun s1 =>
    match s1 with
    | .inl s2 =>
      some true
    | .inr s3 =>
      some s3
def spec_l8Tuple (n_ : Int) (k : Int) (t : List Int) : Option (Bool) :=
  if (t.length : Int) == k then
    (spec_l2Elements n_ t).bind fun r1 =>
      some r1
  else
    some false
def impl_isPrime (p : Int) : Option (Bool) :=
  if p == 2 then
    some true
  else
    if p == 3 then
      some true
    else
      if p == 5 then
        some true
      else
        some (p == 7)
def impl_inSize_L2 : Nat → (Int × (List Int) × Int × Int) → Option ((Unit) ⊕ (Bool))
  | 0, _ => none
  | n + 1, (n_, t7, t8, t9) =>
    if decide (t9 < t8) then
      if inb t9 t7 then
        if decide ((gd t7 t9 0) < 0) then
          some (.inr false)
        else
          if decide ((gd t7 t9 0) ≥ n_) then
            some (.inr false)
          else
            impl_inSize_L2 n (n_, t7, t8, w64 (t9 + 1))
      else none
    else
      some (.inl ())
def impl_inSize (list : List Int) (n_ : Int) : Option (Bool) :=
  (impl_inSize_L2 fuel (n_, list, (list.length : Int), 0)).bind fun s1 =>
    match s1 with
    | .inl s2 =>
      some true
    | .inr s3 =>
      some s3
def laws_eqIntS_L4 : Nat → ((List Int) × (List Int) × Int) → Option ((Unit) ⊕ (Bool))
  | 0, _ => none
  | n + 1, (a, b, i) =>
    if decide (i < (a.length : Int)) then
      if inb i a then
        if inb i b then
          if (gd a i 0) != (gd b i 0) then
            some (.inr false)
          else
            laws_eqIntS_L4 n (a, b, w64 (i + 1))
        else none
      else none
    else
      some (.inl ())
def laws_eqIntS (a : List Int) (b : List Int) : Option (Bool) :=
  if (a.length : Int) != (b.length : Int) then
    some false
  else
    (laws_eqIntS_L4 fuel (a, b, 0)).bind fun s1 =>
      match s1 with
      | .inl s2 =>
        some true
      | .inr s3 =>
        some s3
def laws_eqIntSS_L4 : Nat → ((List (List Int)) × (List (List Int)) × Int) → Option ((Unit) ⊕ (Bool))
  | 0, _ => none
  | n + 1, (a, b, i) =>
    if decide (i < (a.length : Int)) then
      if inb i a then
        if inb i b then
          (laws_eqIntS (gd a i []) (gd b i [])).bind fun r1 =>
            if !r1 then
              some (.inr false)
            else
              laws_eqIntSS_L4 n (a, b, w64 (i + 1))
        else none
      else none
    else
      some (.inl ())
def laws_eqIntSS (a : List (List Int)) (b : List (List Int)) : Option (Bool) :=
  if (a.length : Int) != (b.length : Int) then
    some false
  else
    (laws_eqIntSS_L4 fuel (a, b, 0)).bind fun s1 =>
      match s1 with
      | .inl s2 =>
        some true
      | .inr s3 =>
        some s3
def laws_eqLinear (a : Int × Int × (List (List Int))) (b : Int × Int × (List (List Int))) : Option (Bool) :=
  if a.1 != b.1 then
    some false
  else
    if a.2.1 != b.2.1 then
      some false
    else
      (laws_eqIntSS a.2.2 b.2.2).bind fun r1 =>
        if !r1 then
          some false
        else
          some true
def spec_l6Size (n_ : Int) : Option (Bool) :=
  (spec_l1In n_ 1 8).bind fun r1 =>
    some r1
def spec_l2Pow_L2 : Nat → (Int × Int × Int) → Option (Int)
  | 0, _ => none
  | n + 1, (n_, k, out) =>
    if decide (k > 0) then
      spec_l2Pow_L2 n (n_, w64 (k - 1), w64 (out * n_))
    else
      some out
def spec_l2Pow (n_ : Int) (k : Int) : Option (Int) :=
  (spec_l2Pow_L2 fuel (n_, k, 1)).bind fun s1 =>
    some s1
def spec_l3Less_L2 : Nat → ((List Int) × (List Int) × Int) → Option ((Unit) ⊕ (Bool))
  | 0, _ => none
  | n + 1, (a, b, i) =>
    if decide (i < (a.length : Int)) then
      if inb i a then
        if inb i b then
          if (gd a i 0) != (gd b i 0) then
            if inb i a then
              if inb i b then
                some (.inr (decide ((gd a i 0) < (gd b i 0))))
              else none
            else none
          else
            spec_l3Less_L2 n (a, b, w64 (i + 1))
        else none
      else none
    else
      some (.inl ())
def spec_l3Less (a : List Int) (b : List Int) : Option (Bool) :=
  (spec_l3Less_L2 fuel (a, b, 0)).bind fun s1 =>
    match s1 with
    | .inl s2 =>
      some false
    | .inr s3 =>
      some s3
def spec_l21Set_L4 : Nat → (Int × Int × (List (List Int)) × Int) → Option ((Unit) ⊕ (Bool))
  | 0, _ => none
  | n + 1, (n_, k, tuples, i) =>
    if decide (i < (tuples.length : Int)) then
      if inb i tuples then
        (spec_l8Tuple n_ k (gd tuples i [])).bind fun r4 =>
          if !r4 then
            some (.inr false)
          else
            if decide (i > 0) then
              if inb (w64 (i - 1)) tuples then
                if inb i tuples then
                  (spec_l3Less (gd tuples (w64 (i - 1)) []) (gd tuples i [])).bind fun r5 =>
                    if !r5 then
                      some (.inr false)
                    else
                      spec_l21Set_L4 n (n_, k, tuples, w64 (i + 1))
                else none
              else none
            else
              spec_l21Set_L4 n (n_, k, tuples, w64 (i + 1))
      else none
    else
      some (.inl ())
def spec_l21Set (n_ : Int) (k : Int) (tuples : List (List Int)) : Option (Bool) :=
  (spec_l6Size n_).bind fun r1 =>
    if !r1 then
      some false
    else
      (spec_l1In k 1 4).bind fun r2 =>
        if !r2 then
          some false
        else
          (spec_l2Pow n_ k).bind fun r3 =>
            if decide ((tuples.length : Int) > r3) then
              some false
            else
              (spec_l21Set_L4 fuel (n_, k, tuples, 0)).bind fun s4 =>
                match s4 with
                | .inl s5 =>
                  some true
                | .inr s6 =>
                  some s6
def spec_l21Less_L3 : Nat → (Int × (List Int) × (List Int) × Int × (List Int) × Int) → Option ((List Int))
  | 0, _ => none
  | n + 1, (p, row, other, by_, out, i) =>
    if decide (i < (row.length : Int)) then
      if inb i row then
        if inb i other then
          if p ≠ 0 then
            if out.length + [Int.tmod (w64 ((gd row i 0) + (w64 ((w64 (p - by_)) * (gd other i 0))))) p].length ≤ lim then
              spec_l21Less_L3 n (p, row, other, by_, out ++ [Int.tmod (w64 ((gd row i 0) + (w64 ((w64 (p - by_)) * (gd other i 0))))) p], w64 (i + 1))
            else none
          else none
        else none
      else none
    else
      some out
def spec_l21Less (p : Int) (row : List Int) (other : List Int) (by_ : Int) : Option ((List Int)) :=
  (spec_l21Less_L3 fuel (p, row, other, by_, [], 0)).bind fun s1 =>
    some s1
def spec_l1Same_L4 : Nat → ((List Int) × (List Int) × Int) → Option ((Unit) ⊕ (Bool))
  | 0, _ => none
  | n + 1, (a, b, i) =>
    if decide (i < (a.length : Int)) then
      if inb i a then
        if inb i b then
          if (gd a i 0) != (gd b i 0) then
            some (.inr false)
          else
            spec_l1Same_L4 n (a, b, w64 (i + 1))
        else none
      else none
    else
      some (.inl ())
def spec_l1Same (a : List Int) (b : List Int) : Option (Bool) :=
  if (a.length : Int) != (b.length : Int) then
    some false
  else
    (spec_l1Same_L4 fuel (a, b, 0)).bind fun s1 =>
      match s1 with
      | .inl s2 =>
        some true
      | .inr s3 =>
        some s3
def spec_l8Find_L2 : Nat → ((List (List Int)) × (List Int) × Int × Int) → Option ((List (List Int)) × (List Int) × Int)
  | 0, _ => none
  | n + 1, (list, t, from_, to) =>
    if decide (from_ < to) then
      if (2 : Int) ≠ 0 then
        if inb (w64 (Int.tdiv (w64 (from_ + to)) 2)) list then
          (spec_l3Less (gd list (w64 (Int.tdiv (w64 (from_ + to)) 2)) []) t).bind fun r1 =>
            if r1 then
              spec_l8Find_L2 n (list, t, w64 ((w64 (Int.tdiv (w64 (from_ + to)) 2)) + 1), to)
            else
              spec_l8Find_L2 n (list, t, from_, w64 (Int.tdiv (w64 (from_ + to)) 2))
        else none
      else none
    else
      some (list, t, from_)
def spec_l8Find (list : List (List Int)) (t : List Int) : Option (Int × Bool) :=
  (spec_l8Find_L2 fuel (list, t, 0, (list.length : Int))).bind fun s1 =>
    if decide (s1.2.2 < (s1.1.length : Int)) then
      if inb s1.2.2 s1.1 then
        (spec_l1Same (gd s1.1 s1.2.2 []) s1.2.1).bind fun r2 =>
          some (s1.2.2, r2)
      else none
    else
      some (s1.2.2, false)
def spec_l21Affine_L9 : Nat → (Int × (List (List Int)) × Int × Int × (List Int) × Int) → Option (Int × (List (List Int)) × Int × Int × (List Int))
  | 0, _ => none
  | n + 1, (p, tuples, i, k, t, place) =>
    if decide (place < (t.length : Int)) then
      if inb place t then
        if inb k tuples then
          if inb place (gd tuples k []) then
            if p ≠ 0 then
              if inb place t then
                spec_l21Affine_L9 n (p, tuples, i, k, stt t place (Int.tmod (w64 ((gd t place 0) + (gd (gd tuples k []) place 0))) p), w64 (place + 1))
              else none
            else none
          else none
        else none
      else none
    else
      some (p, tuples, i, k, t)
def spec_l21Affine_L5 : Nat → (Int × (List (List Int)) × Int × Int) → Option ((Int × (List (List Int)) × Int) ⊕ (Bool))
  | 0, _ => none
  | n + 1, (p, tuples, i, k) =>
    if decide (k < (tuples.length : Int)) then
      if inb i tuples then
        if inb 0 tuples then
          (spec_l21Less p (gd tuples i []) (gd tuples 0 []) 1).bind fun r1 =>
            (spec_l21Affine_L9 fuel (p, tuples, i, k, r1, 0)).bind fun s2 =>
              (spec_l8Find s2.2.1 s2.2.2.2.2).bind fun r3 =>
                if !r3.2 then
                  some (.inr false)
                else
                  spec_l21Affine_L5 n (s2.1, s2.2.1, s2.2.2.1, w64 (s2.2.2.2.1 + 1))
        else none
      else none
    else
      some (.inl (p, tuples, i))
def spec_l21Affine_L2 : Nat → (Int × (List (List Int)) × Int) → Option ((Unit) ⊕ (Bool))
  | 0, _ => none
  | n + 1, (p, tuples, i) =>
    if decide (i < (tuples.length : Int)) then
      (spec_l21Affine_L5 fuel (p, tuples, i, 0)).bind fun s1 =>
        match s1 with
        | .inl s2 =>
          spec_l21Affine_L2 n (s2.1, s2.2.1, w64 (s2.2.2 + 1))
        | .inr s3 =>
          some (.inr s3)
    else
      some (.inl ())
def spec_l21Affine (p : Int) (tuples : List (List Int)) : Option (Bool) :=
  (spec_l21Affine_L2 fuel (p, tuples, 0)).bind fun s1 =>
    match s1 with
    | .inl s2 =>
      some true
    | .inr s3 =>
      some s3
def impl_isSize (n_ : Int) : Option (Bool) :=
  if decide (n_ ≥ 1) then
    some (decide (n_ ≤ 8))
  else
    some false
def impl_compareLists_L2 : Nat → ((List Int) × (List Int) × Int) → Option (((List Int) × (List Int)) ⊕ (Int))
  | 0, _ => none
  | n + 1, (s, t, i) =>
    if decide (i < (s.length : Int)) then
      if decide (i < (t.length : Int)) then
        if inb i s then
          if inb i t then
            if (gd s i 0) != (gd t i 0) then
              if inb i s then
                if inb i t then
                  if decide ((gd s i 0) < (gd t i 0)) then
                    some (.inr (-1))
                  else
                    some (.inr 1)
                else none
              else none
            else
              impl_compareLists_L2 n (s, t, w64 (i + 1))
          else none
        else none
      else
        some (.inl (s, t))
    else
      some (.inl (s, t))
def impl_compareLists (s : List Int) (t : List Int) : Option (Int) :=
  (impl_compareLists_L2 fuel (s, t, 0)).bind fun s1 =>
    match s1 with
    | .inl s2 =>
      if decide ((s2.1.length : Int) < (s2.2.length : Int)) then
        some (-1)
      else
        if decide ((s2.1.length : Int) > (s2.2.length : Int)) then
          some 1
        else
          some 0
    | .inr s3 =>
      some s3
def impl_isTupleSet_L4 : Nat → (Int × Int × (List (List Int)) × (List (List Int)) × Int × Int) → Option ((Unit) ⊕ (Bool))
  | 0, _ => none
  | n + 1, (n_, k, tuples, t20, t21, t22) =>
    if decide (t22 < t21) then
      if inb t22 t20 then
        if ((gd t20 t22 []).length : Int) != k then
          some (.inr false)
        else
          (impl_inSize (gd t20 t22 []) n_).bind fun r2 =>
            if !r2 then
              some (.inr false)
            else
              if decide (t22 > 0) then
                if inb (w64 (t22 - 1)) tuples then
                  (impl_compareLists (gd tuples (w64 (t22 - 1)) []) (gd t20 t22 [])).bind fun r3 =>
                    if decide (r3 ≥ 0) then
                      some (.inr false)
                    else
                      impl_isTupleSet_L4 n (n_, k, tuples, t20, t21, w64 (t22 + 1))
                else none
              else
                impl_isTupleSet_L4 n (n_, k, tuples, t20, t21, w64 (t22 + 1))
      else none
    else
      some (.inl ())
def impl_isTupleSet (n_ : Int) (k : Int) (tuples : List (List Int)) : Option (Bool) :=
  (impl_isSize n_).bind fun r1 =>
    if !r1 then
      some false
    else
      if decide (k < 1) then
        some false
      else
        if decide (k > 4) then
          some false
        else
          (impl_isTupleSet_L4 fuel (n_, k, tuples, tuples, (tuples.length : Int), 0)).bind fun s2 =>
            match s2 with
            | .inl s3 =>
              some true
            | .inr s4 =>
              some s4
def impl_power_L2 : Nat → (Int × Int × Int) → Option (Int)
  | 0, _ => none
  | n + 1, (n_, k, p) =>
    if decide (k > 0) then
      impl_power_L2 n (n_, w64 (k - 1), w64 (p * n_))
    else
      some p
def impl_power (n_ : Int) (k : Int) : Option (Int) :=
  (impl_power_L2 fuel (n_, k, 1)).bind fun s1 =>
    some s1
def impl_indexOf_L3 : Nat → (Int × Int × (List Int) × Int × Int) → Option (Int)
  | 0, _ => none
  | n + 1, (n_, i, t8, t9, t10) =>
    if decide (t10 < t9) then
      if inb t10 t8 then
        impl_indexOf_L3 n (n_, w64 ((w64 (i * n_)) + (gd t8 t10 0)), t8, t9, w64 (t10 + 1))
      else none
    else
      some i
def impl_indexOf (args : List Int) (n_ : Int) : Option (Int) :=
  (impl_indexOf_L3 fuel (n_, 0, args, (args.length : Int), 0)).bind fun s1 =>
    some s1
def impl_isAffine_L6 : Nat → (Int × (List (List Int)) × (List Int) × (List Bool) × (List (List Int)) × Int × Int) → Option (Int × (List (List Int)) × (List Int) × (List Bool))
  | 0, _ => none
  | n + 1, (t0, t1, t5, t6, t27, t28, t29) =>
    if decide (t29 < t28) then
      if inb t29 t27 then
        (impl_indexOf (gd t27 t29 []) t0).bind fun r2 =>
          if inb r2 t6 then
            impl_isAffine_L6 n (t0, t1, t5, stt t6 r2 true, t27, t28, w64 (t29 + 1))
          else none
      else none
    else
      some (t0, t1, t5, t6)
def impl_isAffine_L18 : Nat → (Int × (List (List Int)) × (List Int) × (List Bool) × (List Int) × (List Int) × Int × (List (List Int)) × Int × Int × (List (List Int)) × Int × Int × (List Int) × Int × Int) → Option (Int × (List (List Int)) × (List Int) × (List Bool) × (List Int) × Int × (List (List Int)) × Int × Int × (List (List Int)) × Int × Int)
  | 0, _ => none
  | n + 1, (t0, t1, t5, t6, t10, t12, t13, t39, t40, t41, t45, t46, t47, t51, t52, t53) =>
    if decide (t53 < t52) then
      if inb t53 t51 then
        if inb t53 t12 then
          if inb t53 t5 then
            if t0 ≠ 0 then
              impl_isAffine_L18 n (t0, t1, t5, t6, t10, t12, w64 ((w64 (t13 * t0)) + (Int.tmod (w64 ((w64 ((w64 ((gd t51 t53 0) + (gd t12 t53 0))) - (gd t5 t53 0))) + t0)) t0)), t39, t40, t41, t45, t46, t47, t51, t52, w64 (t53 + 1))
            else none
          else none
        else none
      else none
    else
      some (t0, t1, t5, t6, t10, t13, t39, t40, t41, t45, t46, t47)
def impl_isAffine_L14 : Nat → (Int × (List (List Int)) × (List Int) × (List Bool) × (List Int) × (List (List Int)) × Int × Int × (List (List Int)) × Int × Int) → Option ((Int × (List (List Int)) × (List Int) × (List Bool) × (List (List Int)) × Int × Int) ⊕ (Bool))
  | 0, _ => none
  | n + 1, (t0, t1, t5, t6, t10, t39, t40, t41, t45, t46, t47) =>
    if decide (t47 < t46) then
      if inb t47 t45 then
        (impl_isAffine_L18 fuel (t0, t1, t5, t6, t10, gd t45 t47 [], 0, t39, t40, t41, t45, t46, t47, t10, (t10.length : Int), 0)).bind fun s4 =>
          if inb s4.2.2.2.2.2.1 s4.2.2.2.1 then
            if !(gd s4.2.2.2.1 s4.2.2.2.2.2.1 false) then
              some (.inr false)
            else
              impl_isAffine_L14 n (s4.1, s4.2.1, s4.2.2.1, s4.2.2.2.1, s4.2.2.2.2.1, s4.2.2.2.2.2.2.1, s4.2.2.2.2.2.2.2.1, s4.2.2.2.2.2.2.2.2.1, s4.2.2.2.2.2.2.2.2.2.1, s4.2.2.2.2.2.2.2.2.2.2.1, w64 (s4.2.2.2.2.2.2.2.2.2.2.2 + 1))
          else none
      else none
    else
      some (.inl (t0, t1, t5, t6, t39, t40, t41))
def impl_isAffine_L11 : Nat → (Int × (List (List Int)) × (List Int) × (List Bool) × (List (List Int)) × Int × Int) → Option ((Unit) ⊕ (Bool))
  | 0, _ => none
  | n + 1, (t0, t1, t5, t6, t39, t40, t41) =>
    if decide (t41 < t40) then
      if inb t41 t39 then
        (impl_isAffine_L14 fuel (t0, t1, t5, t6, gd t39 t41 [], t39, t40, t41, t1, (t1.length : Int), 0)).bind fun s4 =>
          match s4 with
          | .inl s5 =>
            impl_isAffine_L11 n (s5.1, s5.2.1, s5.2.2.1, s5.2.2.2.1, s5.2.2.2.2.1, s5.2.2.2.2.2.1, w64 (s5.2.2.2.2.2.2 + 1))
          | .inr s6 =>
            some (.inr s6)
      else none
    else
      some (.inl ())
def impl_isAffine (t0 : Int) (t1 : List (List Int)) : Option (Bool) :=
  if (t1.length : Int) == 0 then
    some true
  else
    if inb 0 t1 then
      (impl_power t0 ((gd t1 0 []).length : Int)).bind fun r1 =>
        if 0 ≤ r1 ∧ r1 ≤ r1 ∧ r1 ≤ lim then
          (impl_isAffine_L6 fuel (t0, t1, gd t1 0 [], List.replicate (Int.toNat r1) (false : Bool), t1, (t1.length : Int), 0)).bind fun s2 =>
            (impl_isAffine_L11 fuel (s2.1, s2.2.1, s2.2.2.1, s2.2.2.2, s2.2.1, (s2.2.1.length : Int), 0)).bind fun s3 =>
              match s3 with
              | .inl s4 =>
                some true
              | .inr s5 =>
                some s5
        else none
    else none
def impl_IsAffineSet (p : Int) (k : Int) (tuples : List (List Int)) : Option (Bool × Bool) :=
  (impl_isPrime p).bind fun r1 =>
    if !r1 then
      some (false, false)
    else
      (impl_isTupleSet p k tuples).bind fun r2 =>
        if !r2 then
          some (false, false)
        else
          (impl_isAffine p tuples).bind fun r3 =>
            some (r3, true)
end T
open Go Go.Va
namespace T
theorem szIntS_ok {a : List Int} {left : Int} (h0 : 0 ≤ left) (h1 : left ≤ 4611686018427387904) (ha : a.length ≤ 9223372036854775807) : laws_szIntS a left = some (szR a.length left) := by
  unfold laws_szIntS szR
  rw [w64_id (by omega) (by omega)]
  by_cases h : (a.length : Int) ≤ left
  · rw [if_neg (by simp; omega), if_pos h]
  · rw [if_pos (by simp; omega), if_neg h]
/-- all numbers, and the rows -/
def totSS (a : List (List Int)) : Nat := a.length + (a.map List.length).sum
theorem szIntSS_ok {a : List (List Int)} {left : Int} (h0 : 0 ≤ left) (h1 : left ≤ 1099511627775) (ha : a.length ≤ 9223372036854775807) (hr : ∀ r ∈ a, r.length ≤ 9223372036854775807) : laws_szIntSS a left = some (szR (totSS a) left) := by
  unfold laws_szIntSS
  rw [w64_id (by omega) (by omega)]
  by_cases h : (a.length : Int) ≤ left
  · rw [if_neg (by simp; omega)]
    have key := loopX0 a (fun n s i => laws_szIntSS_L5 n (a, s, i)) (fun s r => (laws_szIntS r s).bind fun q => if q < 0 then some (.inr (.inr (-1))) else some (.inl q)) (fun s => some (.inl s)) ?_ ?_ (n := fuel) (by unfold fuel; omega) (left - a.length)
    · rw [key]
      have run : ∀ (l : List (List Int)) (s : Int), 0 ≤ s → s ≤ 1099511627775 → (∀ r ∈ l, r.length ≤ 9223372036854775807) →
          runX (fun s r => (laws_szIntS r s).bind fun q => if q < 0 then some (.inr (.inr (-1))) else some (.inl q)) (fun s => some (.inl s)) l s = some (if ((l.map List.length).sum : Int) ≤ s then (.inl (s - (l.map List.length).sum) : Int ⊕ Int) else .inr (-1)) := by
        intro l
        induction l with
        | nil => intro s h0 _ _; simp [runX, h0]
        | cons r l ih =>
          intro s h0 h1 hr
          simp only [runX]
          rw [szIntS_ok h0 (by omega) (hr r (by simp))]
          unfold szR
          by_cases h : (r.length : Int) ≤ s
          · rw [if_pos h]
            simp only [Option.bind_some]
            rw [if_neg (by omega)]
            dsimp only
            rw [ih (s - r.length) (by omega) (by omega) fun r hr' => hr r (List.mem_cons_of_mem _ hr')]
            simp only [List.map_cons, List.sum_cons]
            congr 1
            by_cases h2 : (((l.map List.length).sum : Nat) : Int) ≤ s - r.length
            · rw [if_pos h2, if_pos (by omega)]; congr 1; omega
            · rw [if_neg h2, if_neg (by omega)]
          · rw [if_neg h]
            simp only [List.map_cons, List.sum_cons]
            rw [if_neg (by omega)]
            rfl
      rw [run a _ (by omega) (by omega) hr]
      unfold szR totSS
      by_cases h2 : (((a.map List.length).sum : Nat) : Int) ≤ left - a.length
      · rw [if_pos h2, if_pos (by omega)]
        simp only [Option.bind_some, Option.some.injEq]; omega
      · rw [if_neg h2, if_neg (by omega)]; rfl
    · intro n s k hk
      simp only [laws_szIntSS_L5, inb_nat, gd_nat hk, w64_succ (show k < 4611686018427387904 by omega)]
      simp [hk]
      cases laws_szIntS a[k] s with
      | none => rfl
      | some q => by_cases hq : q < 0 <;> simp [hq]
    · intro n s
      simp [laws_szIntSS_L5]
  · rw [if_pos (by simp; omega)]
    unfold szR totSS
    rw [if_neg (by omega)]
theorem toIntS_ok {a : List Int} (ha : a.length ≤ 1099511627775) : laws_toIntS a = some a := by
  unfold laws_toIntS
  rw [if_pos (by unfold lim; omega)]
  have key := fillX0 a (fun n out i => laws_toIntS_L3 n (a, out, i)) id some ?_ ?_ (n := fuel) (out := List.replicate (Int.toNat (a.length : Int)) (0 : Int)) (by simp) (by unfold fuel; omega)
  · rw [key]; simp
  · intro n out k hk hl
    simp only [laws_toIntS_L3, inb_nat, gd_nat hk, stt_nat, w64_succ (show k < 4611686018427387904 by omega)]
    simp [hk, hl]
  · intro n out hl
    simp [laws_toIntS_L3]
theorem toIntSS_ok {a : List (List Int)} (ha : a.length ≤ 1099511627775) (hr : ∀ r ∈ a, r.length ≤ 1099511627775) : laws_toIntSS a = some a := by
  unfold laws_toIntSS
  rw [if_pos (by unfold lim; omega)]
  have key := fillX0 a (fun n out i => laws_toIntSS_L3 n (a, out, i)) id some ?_ ?_ (n := fuel) (out := List.replicate (Int.toNat (a.length : Int)) ([] : List Int)) (by simp) (by unfold fuel; omega)
  · rw [key]; simp
  · intro n out k hk hl
    simp only [laws_toIntSS_L3, inb_nat, gd_nat hk, stt_nat, w64_succ (show k < 4611686018427387904 by omega)]
    simp [hk, hl, toIntS_ok (hr _ (List.getElem_mem hk))]
  · intro n out hl
    simp [laws_toIntSS_L3]
theorem eqIntS_ok {a b : List Int} (ha : a.length ≤ 1099511627775) : laws_eqIntS a b = some (decide (a = b)) := by
  unfold laws_eqIntS
  by_cases hl : a.length = b.length
  · rw [if_neg (by simp [hl]), eqX a b hl (fun n i => laws_eqIntS_L4 n (a, b, i)) ?_ ?_ (by unfold fuel; omega)]
    · by_cases h : a = b <;> simp [h]
    · intro n k h1 h2
      simp only [laws_eqIntS_L4, inb_nat, gd_nat h1, gd_nat h2, w64_succ (show k < 4611686018427387904 by omega)]
      by_cases h : a[k] = b[k] <;> simp [h1, h2, h]
    · intro n
      simp [laws_eqIntS_L4]
  · rw [if_pos (by simp; omega), decide_eq_false (fun e => hl (by rw [e]))]
theorem eqIntSS_ok {a b : List (List Int)} (ha : a.length ≤ 1099511627775) (hr : ∀ r ∈ a, r.length ≤ 1099511627775) : laws_eqIntSS a b = some (decide (a = b)) := by
  unfold laws_eqIntSS
  by_cases hl : a.length = b.length
  · rw [if_neg (by simp [hl]), eqX a b hl (fun n i => laws_eqIntSS_L4 n (a, b, i)) ?_ ?_ (by unfold fuel; omega)]
    · by_cases h : a = b <;> simp [h]
    · intro n k h1 h2
      simp only [laws_eqIntSS_L4, inb_nat, gd_nat h1, gd_nat h2, w64_succ (show k < 4611686018427387904 by omega), eqIntS_ok (hr _ (List.getElem_mem h1))]
      by_cases h : a[k] = b[k] <;> simp [h1, h2, h]
    · intro n
      simp [laws_eqIntSS_L4]
  · rw [if_pos (by simp; omega), decide_eq_false (fun e => hl (by rw [e]))]
/- linears -/
abbrev Lin := Int × Int × List (List Int)
/-- a linear of a size that a machine holds -/
def linS (a : Lin) : Prop := a.2.2.length ≤ 1048576 ∧ ∀ r ∈ a.2.2, r.length ≤ 1048576
theorem mem_sum {l : List (List Int)} : ∀ {r : List Int}, r ∈ l → r.length ≤ (l.map List.length).sum := by
  induction l with
  | nil => intro r h; cases h
  | cons x l ih =>
    intro r h
    rw [List.map_cons, List.sum_cons]
    rcases List.mem_cons.1 h with rfl | h
    · omega
    · have := ih h; omega
theorem szLinear_small {a : Lin} (h : ¬ szR (totSS a.2.2) 1048576 < 0) : linS a := by
  unfold szR totSS at h
  split at h
  · exact ⟨by omega, fun r hr => by have := mem_sum hr; omega⟩
  · omega
theorem eqLinear_ok {a b : Lin} (h : linS a) : laws_eqLinear a b = some (decide (a = b)) := by
  unfold laws_eqLinear
  rw [eqIntSS_ok (by have := h.1; omega) fun r hr => by have := h.2 r hr; omega]
  obtain ⟨a1, a2, a3⟩ := a
  obtain ⟨b1, b2, b3⟩ := b
  by_cases h1 : a1 = b1
  · by_cases h2 : a2 = b2
    · by_cases h3 : a3 = b3 <;> simp [h1, h2, h3]
    · simp [h1, h2]
  · simp [h1]
/- primes, sizes -/
def primeB (p : Int) : Bool := p == 2 || p == 3 || p == 5 || p == 7
theorem impl_isPrime_ok (p : Int) : impl_isPrime p = some (primeB p) := by
  unfold impl_isPrime primeB
  by_cases h2 : p = 2
  · simp [h2]
  · by_cases h3 : p = 3
    · simp [h3]
    · by_cases h5 : p = 5 <;> simp [h2, h3, h5]
theorem spec_l21Prime_ok (p : Int) : spec_l21Prime p = some (primeB p) := by
  unfold spec_l21Prime primeB
  by_cases h2 : p = 2
  · simp [h2]
  · by_cases h3 : p = 3
    · simp [h3]
    · by_cases h5 : p = 5 <;> simp [h2, h3, h5]
theorem spec_l1In_ok (x a b : Int) : spec_l1In x a b = some (decide (a ≤ x ∧ x ≤ b)) := by
  unfold spec_l1In
  by_cases h : a ≤ x <;> simp [h]
/-- all numbers are below n -/
def belowB (n : Int) (l : List Int) : Bool := l.all fun x => decide (0 ≤ x ∧ x < n)
theorem impl_inSize_ok {l : List Int} (n : Int) (hl : l.length ≤ 1099511627775) : impl_inSize l n = some (belowB n l) := by
  unfold impl_inSize
  rw [allX l (fun m i => impl_inSize_L2 m (n, l, (l.length : Int), i)) (fun x => decide (0 ≤ x ∧ x < n)) (.inr false) (.inl ()) ?_ ?_ (by unfold fuel; omega)]
  · unfold belowB; cases l.all (fun x => decide (0 ≤ x ∧ x < n)) <;> simp
  · intro m k hk
    simp only [impl_inSize_L2, inb_nat, gd_nat hk, w64_succ (show k < 4611686018427387904 by omega)]
    by_cases h1 : l[k] < 0
    · simp [hk, h1, show ¬ 0 ≤ l[k] by omega]
    · by_cases h2 : n ≤ l[k]
      · simp [hk, h1, h2, show ¬ l[k] < n by omega]
      · simp [hk, h1, h2, show 0 ≤ l[k] ∧ l[k] < n by omega]
  · intro m
    simp [impl_inSize_L2]
theorem spec_l2Elements_ok {l : List Int} {n : Int} (hn : -9223372036854775808 < n) (hn' : n ≤ 9223372036854775807) (hl : l.length ≤ 1099511627775) : spec_l2Elements n l = some (belowB n l) := by
  unfold spec_l2Elements
  rw [allX l (fun m i => spec_l2Elements_L2 m (n, l, i)) (fun x => decide (0 ≤ x ∧ x < n)) (.inr false) (.inl ()) ?_ ?_ (by unfold fuel; omega)]
  · unfold belowB; cases l.all (fun x => decide (0 ≤ x ∧ x < n)) <;> simp
  · intro m k hk
    simp only [spec_l2Elements_L2, inb_nat, gd_nat hk, w64_succ (show k < 4611686018427387904 by omega), spec_l1In_ok, w64_id (show -9223372036854775808 ≤ n - 1 by omega) (show n - 1 ≤ 9223372036854775807 by omega)]
    by_cases h1 : 0 ≤ l[k] ∧ l[k] < n
    · simp [hk, h1, show l[k] ≤ n - 1 by omega]
    · have : ¬ (0 ≤ l[k] ∧ l[k] ≤ n - 1) := by omega
      simp [hk, h1, this]
  · intro m
    simp [spec_l2Elements_L2]
theorem spec_l8Tuple_ok {l : List Int} {n : Int} (k : Int) (hn : -9223372036854775808 < n) (hn' : n ≤ 9223372036854775807) (hl : l.length ≤ 1099511627775) : spec_l8Tuple n k l = some (decide ((l.length : Int) = k) && belowB n l) := by
  unfold spec_l8Tuple
  rw [spec_l2Elements_ok hn hn' hl]
  by_cases h : (l.length : Int) = k <;> simp [h]
theorem primeB_bd {p : Int} (h : primeB p = true) : 2 ≤ p ∧ p ≤ 7 := by
  unfold primeB at h; simp at h; omega
end T
open Go Go.Va
namespace T
theorem belowB_get {n : Int} {l : List Int} (h : belowB n l = true) (k : Nat) (hk : k < l.length) : 0 ≤ l[k] ∧ l[k] < n := by
  have := (List.all_eq_true.1 h) l[k] (List.getElem_mem hk)
  simpa using this
section
variable {p v : Int} {rows : List (List Int)} {y : List Int}
end
end T
open Go Go.Va
namespace T
/- lists in order -/
/-- -1, 0 or 1 by the first place where two lists part -/
def cmpL : List Int → List Int → Int
  | [], [] => 0
  | [], _ :: _ => -1
  | _ :: _, [] => 1
  | a :: s, b :: t => if a = b then cmpL s t else if a < b then -1 else 1
theorem compare_L2 {s t : List Int} (hs : s.length ≤ 1099511627775) : ∀ (n k : Nat), k ≤ s.length → k ≤ t.length → s.length - k < n →
    (impl_compareLists_L2 n (s, t, (k : Int))).bind (fun s1 => match s1 with
      | .inl s2 => if decide ((s2.1.length : Int) < (s2.2.length : Int)) then some (-1) else if decide ((s2.1.length : Int) > (s2.2.length : Int)) then some 1 else some 0
      | .inr s3 => some s3) = some (cmpL (s.drop k) (t.drop k)) := by
  intro n
  induction n with
  | zero => intro k _ _ h; omega
  | succ n ih =>
    intro k h1 h2 hn
    by_cases k1 : k < s.length
    · by_cases k2 : k < t.length
      · rw [List.drop_eq_getElem_cons k1, List.drop_eq_getElem_cons k2]
        simp only [impl_compareLists_L2, inb_nat, gd_nat k1, gd_nat k2, w64_succ (show k < 4611686018427387904 by omega), cmpL]
        by_cases he : s[k] = t[k]
        · have := ih (k + 1) k1 k2 (by omega)
          simp [k1, k2, he]
          simpa using this
        · by_cases hl : s[k] < t[k] <;> simp [k1, k2, he, hl]
      · rw [List.drop_eq_getElem_cons k1, List.drop_of_length_le (show t.length ≤ k by omega)]
        have e : k = t.length := by omega
        simp only [impl_compareLists_L2, cmpL]
        simp [k1, k2, show ¬ s.length < t.length by omega, show t.length < s.length by omega]
    · rw [List.drop_of_length_le (show s.length ≤ k by omega)]
      simp only [impl_compareLists_L2]
      by_cases k2 : k < t.length
      · rw [List.drop_eq_getElem_cons k2]
        simp [k1, cmpL, show s.length < t.length by omega]
      · rw [List.drop_of_length_le (show t.length ≤ k by omega)]
        simp [k1, cmpL, show ¬ s.length < t.length by omega, show ¬ t.length < s.length by omega]
theorem impl_compareLists_ok {s t : List Int} (hs : s.length ≤ 1099511627775) : impl_compareLists s t = some (cmpL s t) := by
  have := compare_L2 (t := t) hs fuel 0 (Nat.zero_le _) (Nat.zero_le _) (by unfold fuel; omega)
  rw [List.drop_zero, List.drop_zero] at this
  exact this
theorem spec_l3Less_ok {s t : List Int} (hs : s.length ≤ 1099511627775) (hl : s.length = t.length) : spec_l3Less s t = some (decide (cmpL s t < 0)) := by
  have key : ∀ (n k : Nat), k ≤ s.length → s.length - k < n → (spec_l3Less_L2 n (s, t, (k : Int))).bind (fun s1 => match s1 with | .inl _ => some false | .inr s3 => some s3) = some (decide (cmpL (s.drop k) (t.drop k) < 0)) := by
    intro n
    induction n with
    | zero => intro k _ h; omega
    | succ n ih =>
      intro k h1 hn
      by_cases k1 : k < s.length
      · have k2 : k < t.length := by omega
        rw [List.drop_eq_getElem_cons k1, List.drop_eq_getElem_cons k2]
        simp only [spec_l3Less_L2, inb_nat, gd_nat k1, gd_nat k2, w64_succ (show k < 4611686018427387904 by omega), cmpL]
        by_cases he : s[k] = t[k]
        · have := ih (k + 1) k1 (by omega)
          simp [k1, k2, he]
          simpa using this
        · by_cases hl : s[k] < t[k] <;> simp [k1, k2, he, hl]
      · rw [List.drop_of_length_le (show s.length ≤ k by omega), List.drop_of_length_le (show t.length ≤ k by omega)]
        simp [spec_l3Less_L2, k1, cmpL]
  have := key fuel 0 (Nat.zero_le _) (by unfold fuel; omega)
  rw [List.drop_zero, List.drop_zero] at this
  exact this
theorem spec_l1Same_ok {a b : List Int} (ha : a.length ≤ 1099511627775) : spec_l1Same a b = some (decide (a = b)) := by
  unfold spec_l1Same
  by_cases hl : a.length = b.length
  · rw [if_neg (by simp [hl]), eqX a b hl (fun n i => spec_l1Same_L4 n (a, b, i)) ?_ ?_ (by unfold fuel; omega)]
    · by_cases h : a = b <;> simp [h]
    · intro n k h1 h2
      simp only [spec_l1Same_L4, inb_nat, gd_nat h1, gd_nat h2, w64_succ (show k < 4611686018427387904 by omega)]
      by_cases h : a[k] = b[k] <;> simp [h1, h2, h]
    · intro n
      simp [spec_l1Same_L4]
  · rw [if_pos (by simp; omega), decide_eq_false (fun e => hl (by rw [e]))]
theorem cmpL_refl : ∀ s, cmpL s s = 0
  | [] => rfl
  | a :: s => by simp [cmpL, cmpL_refl s]
theorem cmpL_eq : ∀ {s t}, cmpL s t = 0 ↔ s = t
  | [], [] => by simp [cmpL]
  | [], _ :: _ => by simp [cmpL]
  | _ :: _, [] => by simp [cmpL]
  | a :: s, b :: t => by
    simp only [cmpL]
    by_cases h : a = b
    · rw [if_pos h, cmpL_eq]; simp [h]
    · rw [if_neg h]; split <;> simp [h]
theorem cmpL_trans : ∀ {s t u}, cmpL s t < 0 → cmpL t u < 0 → cmpL s u < 0
  | [], [], _, h, _ => by simp [cmpL] at h
  | [], _ :: _, [], _, h => by simp [cmpL] at h
  | [], _ :: _, _ :: _, _, _ => by simp [cmpL]
  | _ :: _, [], _, h, _ => by simp [cmpL] at h
  | _ :: _, _ :: _, [], _, h => by simp [cmpL] at h
  | a :: s, b :: t, c :: u, h1, h2 => by
    simp only [cmpL] at *
    by_cases e1 : a = b
    · rw [if_pos e1] at h1
      by_cases e2 : b = c
      · rw [if_pos e2] at h2; rw [if_pos (e1.trans e2)]; exact cmpL_trans h1 h2
      · rw [if_neg e2] at h2; rw [e1, if_neg e2]; exact h2
    · rw [if_neg e1] at h1
      have l1 : a < b := by
        by_cases h : a < b
        · exact h
        · rw [if_neg h] at h1; omega
      by_cases e2 : b = c
      · rw [← e2, if_neg e1, if_pos l1]; omega
      · rw [if_neg e2] at h2
        have l2 : b < c := by
          by_cases h : b < c
          · exact h
          · rw [if_neg h] at h2; omega
        rw [if_neg (by omega), if_pos (by omega)]; omega
/-- each is less than the next -/
def incB : List (List Int) → Bool
  | a :: b :: l => decide (cmpL a b < 0) && incB (b :: l)
  | _ => true
theorem incB_tail {a : List Int} {l : List (List Int)} (h : incB (a :: l) = true) : incB l = true := by
  cases l with
  | nil => rfl
  | cons b l => simp only [incB, Bool.and_eq_true] at h; exact h.2
theorem incB_head : ∀ {a : List Int} {l : List (List Int)}, incB (a :: l) = true → ∀ b ∈ l, cmpL a b < 0
  | a, [], _, b, hb => by cases hb
  | a, c :: l, h, b, hb => by
    simp only [incB, Bool.and_eq_true, decide_eq_true_eq] at h
    rcases List.mem_cons.1 hb with rfl | hb
    · exact h.1
    · exact cmpL_trans h.1 (incB_head h.2 b hb)
theorem incB_lt : ∀ {l : List (List Int)}, incB l = true → ∀ (i j : Nat) (hi : i < j) (hj : j < l.length), cmpL (l[i]'(by omega)) l[j] < 0
  | [], _, i, j, _, hj => by simp at hj
  | a :: l, h, 0, j + 1, _, hj => by
    simp only [List.getElem_cons_zero, List.getElem_cons_succ]
    exact incB_head h _ (List.getElem_mem _)
  | a :: l, h, i + 1, j + 1, hi, hj => by
    simp only [List.getElem_cons_succ]
    exact incB_lt (incB_tail h) i j (by omega) (by simpa using hj)
theorem incB_iff {l : List (List Int)} : incB l = true ↔ ∀ (i : Nat) (hi : i + 1 < l.length), cmpL (l[i]'(by omega)) l[i + 1] < 0 := by
  constructor
  · exact fun h i hi => incB_lt h i (i + 1) (by omega) hi
  · induction l with
    | nil => intro _; rfl
    | cons a l ih =>
      intro h
      cases l with
      | nil => rfl
      | cons b l =>
        simp only [incB, Bool.and_eq_true, decide_eq_true_eq]
        exact ⟨h 0 (by simp), ih fun i hi => by have := h (i + 1) (by simpa using hi); simpa using this⟩
end T
open Go Go.Va
namespace T
/- powers and places -/
theorem pow_le_of {n : Int} (h0 : 0 ≤ n) (h8 : n ≤ 8) : ∀ k : Nat, 0 ≤ n ^ k ∧ n ^ k ≤ 8 ^ k
  | 0 => by simp
  | k + 1 => by
    obtain ⟨h1, h2⟩ := pow_le_of h0 h8 k
    rw [Int.pow_succ, Int.pow_succ]
    exact ⟨Int.mul_nonneg h1 h0, Int.mul_le_mul h2 h8 h0 (by have : (0 : Int) ≤ 8 ^ k := Int.le_trans h1 h2; exact this)⟩
theorem pow8_le : ∀ k : Nat, k ≤ 20 → (8 : Int) ^ k ≤ 8 ^ 20 := by
  intro k hk
  have : ((8 ^ k : Nat) : Int) ≤ ((8 ^ 20 : Nat) : Int) := Int.ofNat_le.2 (Nat.pow_le_pow_right (by omega) hk)
  simpa using this
theorem pow_bd {n : Int} (h0 : 0 ≤ n) (h8 : n ≤ 8) {k : Nat} (hk : k ≤ 20) : 0 ≤ n ^ k ∧ n ^ k ≤ 1152921504606846976 := by
  obtain ⟨h1, h2⟩ := pow_le_of h0 h8 k
  have := pow8_le k hk
  exact ⟨h1, by have e : (8 : Int) ^ 20 = 1152921504606846976 := by decide
                omega⟩
theorem power_L2 {n : Int} (h0 : 0 ≤ n) (h8 : n ≤ 8) : ∀ (m k j : Nat), j + k ≤ 20 → k < m → impl_power_L2 m (n, (k : Int), n ^ j) = some (n ^ (j + k)) := by
  intro m
  induction m with
  | zero => intro k j _ h; omega
  | succ m ih =>
    intro k j hj hk
    simp only [impl_power_L2]
    cases k with
    | zero => simp
    | succ k =>
      have e : w64 (((k + 1 : Nat) : Int) - 1) = (k : Int) := by rw [w64_id (by omega) (by omega)]; omega
      have hb := pow_bd h0 h8 (k := j + 1) (by omega)
      rw [Int.pow_succ] at hb
      rw [e, w64_id (by omega) (by omega), ← Int.pow_succ, if_pos (by simp), ih k (j + 1) (by omega) (by omega)]
      congr 2 <;> omega
theorem impl_power_ok {n : Int} (h0 : 0 ≤ n) (h8 : n ≤ 8) {k : Nat} (hk : k ≤ 20) : impl_power n (k : Int) = some (n ^ k) := by
  unfold impl_power
  have := power_L2 h0 h8 fuel k 0 (by omega) (by unfold fuel; omega)
  rw [Int.pow_zero] at this
  rw [this]; simp
theorem l2Pow_L2 {n : Int} (h0 : 0 ≤ n) (h8 : n ≤ 8) : ∀ (m k j : Nat), j + k ≤ 20 → k < m → spec_l2Pow_L2 m (n, (k : Int), n ^ j) = some (n ^ (j + k)) := by
  intro m
  induction m with
  | zero => intro k j _ h; omega
  | succ m ih =>
    intro k j hj hk
    simp only [spec_l2Pow_L2]
    cases k with
    | zero => simp
    | succ k =>
      have e : w64 (((k + 1 : Nat) : Int) - 1) = (k : Int) := by rw [w64_id (by omega) (by omega)]; omega
      have hb := pow_bd h0 h8 (k := j + 1) (by omega)
      rw [Int.pow_succ] at hb
      rw [e, w64_id (by omega) (by omega), ← Int.pow_succ, if_pos (by simp), ih k (j + 1) (by omega) (by omega)]
      congr 2 <;> omega
theorem spec_l2Pow_ok {n : Int} (h0 : 0 ≤ n) (h8 : n ≤ 8) {k : Nat} (hk : k ≤ 20) : spec_l2Pow n (k : Int) = some (n ^ k) := by
  unfold spec_l2Pow
  have := l2Pow_L2 h0 h8 fuel k 0 (by omega) (by unfold fuel; omega)
  rw [Int.pow_zero] at this
  rw [this]; simp
/-- the place of a list among all lists of its length -/
def idxA (n : Int) : Int → List Int → Int
  | i, [] => i
  | i, a :: l => idxA n (i * n + a) l
def idx (n : Int) (l : List Int) : Int := idxA n 0 l
theorem idxA_eq (n : Int) : ∀ (l : List Int) (i : Int), idxA n i l = i * n ^ l.length + idxA n 0 l
  | [], i => by simp [idxA]
  | a :: l, i => by
    simp only [idxA, List.length_cons]
    rw [idxA_eq n l (i * n + a), idxA_eq n l (0 * n + a), Int.pow_succ]
    simp only [Int.zero_mul, Int.zero_add]
    rw [Int.add_mul, Int.mul_assoc, Int.mul_comm n (n ^ l.length)]
    omega
theorem idx_cons (n a : Int) (l : List Int) : idx n (a :: l) = a * n ^ l.length + idx n l := by
  unfold idx
  simp only [idxA]
  rw [idxA_eq]; simp
theorem belowB_cons {n a : Int} {l : List Int} : belowB n (a :: l) = true ↔ (0 ≤ a ∧ a < n) ∧ belowB n l = true := by
  unfold belowB; simp [List.all_cons]
theorem idx_bd {n : Int} : ∀ {l : List Int}, belowB n l = true → 0 ≤ idx n l ∧ idx n l < n ^ l.length
  | [], _ => by simp [idx, idxA]
  | a :: l, h => by
    obtain ⟨h1, h2⟩ := belowB_cons.1 h
    obtain ⟨h3, h4⟩ := idx_bd h2
    rw [idx_cons, List.length_cons, Int.pow_succ]
    have hp : 0 ≤ n ^ l.length := by omega
    have k1 := Int.mul_nonneg h1.1 hp
    have k2 := Int.mul_le_mul_of_nonneg_right (show a + 1 ≤ n by omega) hp
    rw [Int.add_mul, Int.one_mul, Int.mul_comm n] at k2
    exact ⟨by omega, by omega⟩
theorem idx_cmp {n : Int} : ∀ {s t : List Int}, belowB n s = true → belowB n t = true → s.length = t.length → (cmpL s t < 0 ↔ idx n s < idx n t) ∧ (cmpL s t = 0 ↔ idx n s = idx n t)
  | [], [], _, _, _ => by simp [cmpL, idx, idxA]
  | [], _ :: _, _, _, h => by simp at h
  | _ :: _, [], _, _, h => by simp at h
  | a :: s, b :: t, hs, ht, hl => by
    obtain ⟨s1, s2⟩ := belowB_cons.1 hs
    obtain ⟨t1, t2⟩ := belowB_cons.1 ht
    have hl' : s.length = t.length := by simpa using hl
    have ih := idx_cmp s2 t2 hl'
    obtain ⟨b1, b2⟩ := idx_bd s2
    obtain ⟨c1, c2⟩ := idx_bd t2
    rw [idx_cons, idx_cons, hl']
    rw [hl'] at b2
    simp only [cmpL]
    have hp : 0 ≤ n ^ t.length := by omega
    rcases Int.lt_trichotomy a b with h | h | h
    · have := Int.mul_le_mul_of_nonneg_right (show a + 1 ≤ b by omega) hp
      rw [Int.add_mul, Int.one_mul] at this
      rw [if_neg (by omega), if_pos h]
      exact ⟨by constructor <;> intro <;> omega, by constructor <;> intro <;> omega⟩
    · subst h
      rw [if_pos rfl]
      exact ⟨by rw [ih.1]; constructor <;> intro <;> omega, by rw [ih.2]; constructor <;> intro <;> omega⟩
    · have := Int.mul_le_mul_of_nonneg_right (show b + 1 ≤ a by omega) hp
      rw [Int.add_mul, Int.one_mul] at this
      rw [if_neg (by omega), if_neg (by omega)]
      exact ⟨by constructor <;> intro <;> omega, by constructor <;> intro <;> omega⟩
theorem idx_inj {n : Int} {s t : List Int} (hs : belowB n s = true) (ht : belowB n t = true) (hl : s.length = t.length) (h : idx n s = idx n t) : s = t := cmpL_eq.1 ((idx_cmp hs ht hl).2.2 h)
theorem indexOf_L3 {n : Int} {t : List Int} (h0 : 1 ≤ n) (h8 : n ≤ 8) (hl : t.length ≤ 20) (hb : belowB n t = true) : impl_indexOf t n = some (idx n t) := by
  unfold impl_indexOf
  have hpre : ∀ k, k ≤ t.length → belowB n (t.take k) = true := fun k _ => by
    unfold belowB at *
    rw [List.all_eq_true] at *
    exact fun x hx => hb x (List.mem_of_mem_take hx)
  have hstep : ∀ k (hk : k < t.length), idx n (t.take (k + 1)) = idx n (t.take k) * n + t[k] := fun k hk => by
    have : ∀ (l : List Int) (i a : Int), idxA n i (l ++ [a]) = idxA n i l * n + a := by
      intro l
      induction l with
      | nil => intro i a; simp [idxA]
      | cons b l ih => intro i a; simp only [List.cons_append, idxA]; exact ih _ _
    unfold idx
    rw [List.take_succ_eq_append_getElem hk]; exact this _ _ _
  have := forS t.length (fun m s i => impl_indexOf_L3 m (n, s, t, (t.length : Int), i)) (fun k => idx n (t.take k)) (r := some (idx n t)) (fun m k hk => ?_) (fun m => ?_) (n := fuel) (by unfold fuel; omega)
  · simp only [List.take_zero] at this
    have e : idx n [] = 0 := rfl
    rw [e] at this
    rw [this]; rfl
  · have b1 := idx_bd (hpre k (by omega))
    have b2 := idx_bd (hpre (k + 1) hk)
    have p1 := pow_bd (n := n) (by omega) h8 (k := k + 1) (by omega)
    have e1 : (t.take (k + 1)).length = k + 1 := by simp; omega
    rw [e1, hstep k hk] at b2
    have hx := belowB_get hb k hk
    have hm := Int.mul_nonneg b1.1 (show 0 ≤ n by omega)
    simp only [impl_indexOf_L3, inb_nat, gd_nat hk, w64_succ (show k < 4611686018427387904 by omega), w64_id (show -9223372036854775808 ≤ idx n (t.take k) * n by omega) (by omega), w64_id (show -9223372036854775808 ≤ idx n (t.take k) * n + t[k] by omega) (by omega)]
    rw [← hstep k hk]; simp [hk]
  · simp [impl_indexOf_L3]
/-- lists in order are no more than there are -/
theorem inc_count {n : Int} {k : Nat} {l : List (List Int)} (hi : incB l = true) (hv : ∀ t ∈ l, t.length = k ∧ belowB n t = true) : (l.length : Int) ≤ n ^ k ∨ l = [] := by
  have key : ∀ (i : Nat) (h : i < l.length), (i : Int) ≤ idx n l[i] := by
    intro i
    induction i with
    | zero => intro h; exact (idx_bd (hv _ (List.getElem_mem h)).2).1
    | succ i ih =>
      intro h
      have h1 := ih (by omega)
      obtain ⟨l1, b1⟩ := hv _ (List.getElem_mem (show i < l.length by omega))
      obtain ⟨l2, b2⟩ := hv _ (List.getElem_mem h)
      have := (idx_cmp b1 b2 (l1.trans l2.symm)).1.1 (incB_lt hi i (i + 1) (by omega) h)
      omega
  cases hn : l.length with
  | zero => exact .inr (List.length_eq_zero_iff.1 hn)
  | succ m =>
    left
    have h := key m (by omega)
    obtain ⟨l1, b1⟩ := hv _ (List.getElem_mem (show m < l.length by omega))
    have := (idx_bd b1).2
    rw [l1] at this
    omega
/- finding in a list in order -/
theorem find_L2 {list : List (List Int)} {t : List Int} {k : Nat} (hl : list.length ≤ 1099511627775) (hk : k ≤ 1099511627775) (hv : ∀ u ∈ list, u.length = k) (ht : t.length = k) (hi : incB list = true) : ∀ (m a b : Nat), a ≤ b → b ≤ list.length → b - a < m →
    (∀ i (h : i < list.length), i < a → cmpL list[i] t < 0) → (∀ i (h : i < list.length), b ≤ i → ¬ cmpL list[i] t < 0) →
    ∃ c : Nat, spec_l8Find_L2 m (list, t, (a : Int), (b : Int)) = some (list, t, (c : Int)) ∧ c ≤ list.length ∧ (∀ i (h : i < list.length), i < c → cmpL list[i] t < 0) ∧ (∀ i (h : i < list.length), c ≤ i → ¬ cmpL list[i] t < 0) := by
  intro m
  induction m with
  | zero => intro a b _ _ h; omega
  | succ m ih =>
    intro a b hab hb hm h1 h2
    simp only [spec_l8Find_L2]
    by_cases hlt : a < b
    · have emid : w64 (Int.tdiv (w64 ((a : Int) + b)) 2) = (((a + b) / 2 : Nat) : Int) := by
        rw [w64_id (x := (a : Int) + b) (by omega) (by omega), Int.tdiv_eq_ediv_of_nonneg (by omega), w64_id (by omega) (by omega)]; omega
      have hmid : (a + b) / 2 < list.length := by omega
      rw [emid]
      have hless := spec_l3Less_ok (s := list[(a + b) / 2]) (t := t) (by rw [hv _ (List.getElem_mem hmid)]; omega) (by rw [hv _ (List.getElem_mem hmid), ht])
      simp only [inb_nat, gd_nat hmid, hless, Option.bind_some, w64_succ (show (a + b) / 2 < 4611686018427387904 by omega)]
      by_cases hc : cmpL list[(a + b) / 2] t < 0
      · obtain ⟨c, e, k1, k2, k3⟩ := ih ((a + b) / 2 + 1) b (by omega) hb (by omega) (fun i h hi' => by
          rcases Nat.lt_or_ge i ((a + b) / 2) with h' | h'
          · exact cmpL_trans (incB_lt hi i ((a + b) / 2) h' hmid) hc
          · have : i = (a + b) / 2 := by omega
            subst this; exact hc) h2
        exact ⟨c, by simpa [hlt, hmid, hc] using e, k1, k2, k3⟩
      · obtain ⟨c, e, k1, k2, k3⟩ := ih a ((a + b) / 2) (by omega) (by omega) (by omega) h1 (fun i h hi' hneg => by
          rcases Nat.lt_or_ge ((a + b) / 2) i with h' | h'
          · exact hc (cmpL_trans (incB_lt hi ((a + b) / 2) i h' h) hneg)
          · have : i = (a + b) / 2 := by omega
            subst this; exact hc hneg)
        exact ⟨c, by simpa [hlt, hmid, hc] using e, k1, k2, k3⟩
    · have : a = b := by omega
      subst this
      exact ⟨a, by simp, hb, h1, h2⟩
theorem spec_l8Find_ok {list : List (List Int)} {t : List Int} {k : Nat} (hl : list.length ≤ 1099511627774) (hk : k ≤ 1099511627775) (hv : ∀ u ∈ list, u.length = k) (ht : t.length = k) (hi : incB list = true) :
    ∃ c : Nat, spec_l8Find list t = some ((c : Int), decide (t ∈ list)) ∧ c ≤ list.length ∧ (∀ i (h : i < list.length), i < c → cmpL list[i] t < 0) ∧ (∀ i (h : i < list.length), c ≤ i → ¬ cmpL list[i] t < 0) := by
  obtain ⟨c, e, k1, k2, k3⟩ := find_L2 (by omega) hk hv ht hi fuel 0 list.length (Nat.zero_le _) (Nat.le_refl _) (by unfold fuel; omega) (fun i _ h => by omega) (fun i h h' => by omega)
  refine ⟨c, ?_, k1, k2, k3⟩
  unfold spec_l8Find
  have e' : spec_l8Find_L2 fuel (list, t, 0, (list.length : Int)) = some (list, t, (c : Int)) := e
  rw [e']
  simp only [Option.bind_some]
  by_cases hc : c < list.length
  · have hs := spec_l1Same_ok (a := list[c]) (b := t) (by rw [hv _ (List.getElem_mem hc)]; omega)
    simp only [inb_nat, gd_nat hc, hs, Option.bind_some]
    have : decide (list[c] = t) = decide (t ∈ list) := by
      by_cases h : list[c] = t
      · rw [decide_eq_true h, decide_eq_true (h ▸ List.getElem_mem hc)]
      · rw [decide_eq_false h]
        symm; rw [decide_eq_false_iff_not]
        intro hm
        obtain ⟨j, hj, rfl⟩ := List.mem_iff_getElem.1 hm
        have hne : j ≠ c := fun e => h (by subst e; rfl)
        rcases Nat.lt_or_ge j c with hlt | hge
        · have := k2 j hj hlt; rw [cmpL_refl] at this; omega
        · exact k3 c hc (Nat.le_refl _) (incB_lt hi c j (by omega) hj)
    simp [hc, this]
  · have : decide (t ∈ list) = false := by
      rw [decide_eq_false_iff_not]
      intro hm
      obtain ⟨j, hj, rfl⟩ := List.mem_iff_getElem.1 hm
      have := k2 j hj (by omega); rw [cmpL_refl] at this; omega
    rw [if_neg (by simp; omega), this]
end T
open Go Go.Va
namespace T
def sizeB (n : Int) : Bool := decide (1 ≤ n ∧ n ≤ 8)
theorem impl_isSize_ok (n : Int) : impl_isSize n = some (sizeB n) := by
  unfold impl_isSize sizeB
  by_cases h : 1 ≤ n <;> simp [h]
theorem spec_l6Size_ok (n : Int) : spec_l6Size n = some (sizeB n) := by
  unfold spec_l6Size sizeB
  rw [spec_l1In_ok]; simp
/-- a tuple of the length k of numbers below n -/
def tupB (n k : Int) (t : List Int) : Bool := decide ((t.length : Int) = k) && belowB n t
/-- a set of tuples -/
def setB (n k : Int) (ts : List (List Int)) : Bool := sizeB n && decide (1 ≤ k ∧ k ≤ 4) && ts.all (tupB n k) && incB ts
def stepB (n k : Int) (ts : List (List Int)) (i : Nat) : Bool := tupB n k (ts.getD i []) && (decide (i = 0) || decide (cmpL (ts.getD (i - 1) []) (ts.getD i []) < 0))
theorem getD_get {α : Type} {l : List α} {i : Nat} {d : α} (h : i < l.length) : l.getD i d = l[i] := by simp [h]
theorem step_all (n k : Int) (ts : List (List Int)) : (List.range ts.length).all (stepB n k ts) = (ts.all (tupB n k) && incB ts) := by
  rw [Bool.eq_iff_iff, Bool.and_eq_true, List.all_eq_true, List.all_eq_true, incB_iff]
  constructor
  · intro h
    refine ⟨fun t ht => ?_, fun i hi => ?_⟩
    · obtain ⟨i, hi, rfl⟩ := List.mem_iff_getElem.1 ht
      have := h i (by simpa using hi)
      unfold stepB at this
      rw [getD_get hi] at this
      simp at this; exact this.1
    · have := h (i + 1) (by simpa using hi)
      unfold stepB at this
      rw [getD_get hi, Nat.add_sub_cancel, getD_get (show i < ts.length by omega)] at this
      simp only [Bool.and_eq_true, Bool.or_eq_true, decide_eq_true_eq] at this
      exact this.2.resolve_left (by omega)
  · rintro ⟨h1, h2⟩ i hi
    have hi : i < ts.length := by simpa using hi
    unfold stepB
    rw [getD_get hi]
    simp only [Bool.and_eq_true, Bool.or_eq_true, decide_eq_true_eq]
    refine ⟨h1 _ (List.getElem_mem hi), ?_⟩
    cases i with
    | zero => exact .inl rfl
    | succ i => right; rw [Nat.add_sub_cancel, getD_get (show i < ts.length by omega)]; exact h2 i hi
theorem w64_pred {k : Nat} (h : k < 4611686018427387904) (h0 : 0 < k) : w64 ((k : Int) - 1) = ((k - 1 : Nat) : Int) := by
  rw [w64_id (by omega) (by omega)]; omega
theorem impl_isTupleSet_ok {n k : Int} {ts : List (List Int)} (hl : ts.length ≤ 1099511627774) (hr : ∀ t ∈ ts, t.length ≤ 1099511627775) : impl_isTupleSet n k ts = some (setB n k ts) := by
  unfold impl_isTupleSet setB
  rw [impl_isSize_ok, Bool.and_assoc, ← step_all]
  cases hs : sizeB n with
  | false => simp
  | true =>
    by_cases h1 : k < 1
    · simp [h1, show ¬ 1 ≤ k by omega]
    · by_cases h4 : k > 4
      · simp [h1, h4, show ¬ k ≤ 4 by omega]
      · simp only [Option.bind_some, Bool.not_true, Bool.false_eq_true, if_false]
        rw [if_neg (by simpa using h1), if_neg (by simpa using h4)]
        have key := forA ts.length (fun m (_ : Unit) i => impl_isTupleSet_L4 m (n, k, ts, ts, (ts.length : Int), i)) (fun _ => ()) (stepB n k ts) (r := some (.inr false)) (e := some (.inl ())) (fun m i hi => ?_) (fun m => ?_) (n := fuel) (by unfold fuel; omega)
        · rw [key]
          cases (List.range ts.length).all (stepB n k ts) <;> simp <;> omega
        · have hlen := hr ts[i] (List.getElem_mem hi)
          unfold stepB tupB
          rw [getD_get hi]
          simp only [impl_isTupleSet_L4, inb_nat, gd_nat hi, w64_succ (show i < 4611686018427387904 by omega), impl_inSize_ok n hlen, Option.bind_some]
          by_cases hk : (ts[i].length : Int) = k
          · cases hb : belowB n ts[i] with
            | false => simp [hi, hk]
            | true =>
              cases i with
              | zero => simp [hi, hk]
              | succ i =>
                have hi' : i < ts.length := by omega
                rw [w64_pred (by omega) (by omega), Nat.add_sub_cancel, getD_get hi']
                simp only [gd_nat hi', impl_compareLists_ok (t := ts[i + 1]) (hr ts[i] (List.getElem_mem hi')), inb_nat, Option.bind_some]
                by_cases hc : cmpL ts[i] ts[i + 1] < 0
                · simp [hi, hi', hk, show ¬ 0 ≤ cmpL ts[i] ts[i + 1] by omega, show (0 : Int) < (i : Int) + 1 by omega, show (i : Int) + 1 < ts.length by omega, hc]
                · simp [hi, hi', hk, hc, show (0 : Int) < (i : Int) + 1 by omega, show (i : Int) + 1 < ts.length by omega, show 0 ≤ cmpL ts[i] ts[i + 1] by omega]
          · simp [hi, hk]
        · simp [impl_isTupleSet_L4]
theorem setB_count {n k : Int} {ts : List (List Int)} (h : setB n k ts = true) : (ts.length : Int) ≤ n ^ k.toNat := by
  unfold setB sizeB at h
  simp only [Bool.and_eq_true, decide_eq_true_eq, List.all_eq_true] at h
  obtain ⟨⟨⟨h1, h2⟩, h3⟩, h4⟩ := h
  rcases inc_count (n := n) (k := k.toNat) h4 fun t ht => by
    have := h3 t ht
    unfold tupB at this
    simp only [Bool.and_eq_true, decide_eq_true_eq] at this
    exact ⟨by omega, this.2⟩ with h | h
  · exact h
  · rw [h]; exact (pow_le_of (by omega) h1.2 k.toNat).1
theorem spec_l21Set_ok {n k : Int} {ts : List (List Int)} (hl : ts.length ≤ 1099511627774) (hr : ∀ t ∈ ts, t.length ≤ 1099511627775) : spec_l21Set n k ts = some (setB n k ts) := by
  unfold spec_l21Set
  rw [spec_l6Size_ok, spec_l1In_ok]
  cases hs : sizeB n with
  | false => simp [setB, hs]
  | true =>
    by_cases h1 : 1 ≤ k ∧ k ≤ 4
    · have hsz : 1 ≤ n ∧ n ≤ 8 := by unfold sizeB at hs; simpa using hs
      have hp := spec_l2Pow_ok (n := n) (by omega) hsz.2 (k := k.toNat) (by omega)
      rw [show ((k.toNat : Nat) : Int) = k by omega] at hp
      simp only [Option.bind_some, Bool.not_true, Bool.false_eq_true, if_false, h1, and_self, decide_true, hp]
      by_cases hc : (ts.length : Int) > n ^ k.toNat
      · rw [if_pos (by simpa using hc)]
        cases h : setB n k ts with
        | false => rfl
        | true => have := setB_count h; omega
      · rw [if_neg (by simpa using hc)]
        have key := forF ts.length (fun m (_ : Unit) i => spec_l21Set_L4 m (n, k, ts, i)) (fun _ => ()) (fun i => if stepB n k ts i then none else some (some (.inr false))) (e := some (.inl ())) (fun m i hi hprev => ?_) (fun m => ?_) (n := fuel) (by unfold fuel; omega)
        · rw [key]
          unfold setB
          rw [hs, Bool.and_assoc, ← step_all]
          have : ∀ l : List Nat, (l.findSome? fun i => if stepB n k ts i then none else some (some (.inr false : Unit ⊕ Bool))).getD (some (.inl ())) = if l.all (stepB n k ts) then some (.inl ()) else some (.inr false) := by
            intro l
            induction l with
            | nil => rfl
            | cons a l ih =>
              rw [List.findSome?_cons, List.all_cons]
              cases stepB n k ts a with
              | true => simpa using ih
              | false => simp
          rw [this]
          cases (List.range ts.length).all (stepB n k ts) <;> simp [h1]
        · have hlen := hr ts[i] (List.getElem_mem hi)
          have htup := spec_l8Tuple_ok (l := ts[i]) (n := n) k (by omega) (by omega) hlen
          simp only [spec_l21Set_L4, inb_nat, gd_nat hi, w64_succ (show i < 4611686018427387904 by omega), htup, Option.bind_some]
          have hst : stepB n k ts i = ((decide ((ts[i].length : Int) = k) && belowB n ts[i]) && (decide (i = 0) || decide (cmpL (ts.getD (i - 1) []) ts[i] < 0))) := by unfold stepB tupB; rw [getD_get hi]
          rw [hst]
          cases hb : (decide ((ts[i].length : Int) = k) && belowB n ts[i]) with
          | false => simp [hi]
          | true =>
            cases i with
            | zero => simp [hi]
            | succ i =>
              have hi' : i < ts.length := by omega
              have hpv := hprev i (by omega)
              have hpv : stepB n k ts i = true := by
                cases h : stepB n k ts i with
                | true => rfl
                | false => rw [h] at hpv; simp at hpv
              unfold stepB tupB at hpv
              rw [getD_get hi'] at hpv
              simp only [Bool.and_eq_true, decide_eq_true_eq] at hpv hb
              have hless := spec_l3Less_ok (s := ts[i]) (t := ts[i + 1]) (hr ts[i] (List.getElem_mem hi')) (by omega)
              rw [w64_pred (by omega) (by omega), Nat.add_sub_cancel, getD_get hi']
              simp only [gd_nat hi', hless, inb_nat, Option.bind_some]
              by_cases hc : cmpL ts[i] ts[i + 1] < 0
              · simp [hi, hi', hc, show (0 : Int) < (i : Int) + 1 by omega, show (i : Int) + 1 < ts.length by omega]
              · simp [hi, hi', hc, show (0 : Int) < (i : Int) + 1 by omega, show (i : Int) + 1 < ts.length by omega]
        · simp [spec_l21Set_L4]
    · unfold setB; rw [hs]; simp [h1]
end T
open Go Go.Va
namespace T
/-- t + u - b, place by place -/
def comb (p : Int) (t u b : List Int) : List Int := (List.range t.length).map fun i => (t.getD i 0 + u.getD i 0 - b.getD i 0) % p
theorem comb_len {p : Int} {t u b : List Int} : (comb p t u b).length = t.length := by simp [comb]
theorem comb_get {p : Int} {t u b : List Int} {i : Nat} (hi : i < t.length) : (comb p t u b)[i]'(by rw [comb_len]; exact hi) = (t.getD i 0 + u.getD i 0 - b.getD i 0) % p := by simp [comb]
theorem comb_below {p : Int} (hp : 0 < p) {t u b : List Int} : belowB p (comb p t u b) = true := by
  unfold belowB comb
  rw [List.all_eq_true]
  intro x hx
  obtain ⟨i, _, rfl⟩ := List.mem_map.1 hx
  simp only [decide_eq_true_eq]
  exact ⟨Int.emod_nonneg _ (by omega), Int.emod_lt_of_pos _ hp⟩
/-- a set of tuples has, with any two, their sum less the first -/
def affB (p : Int) (ts : List (List Int)) : Bool := ts.all fun t => ts.all fun u => decide (comb p t u (ts.headD []) ∈ ts)
/-- a valid set -/
structure SetOk (p : Int) (k : Nat) (ts : List (List Int)) : Prop where
  hp : 2 ≤ p ∧ p ≤ 7
  hk : k ≤ 4
  len : ∀ t ∈ ts, t.length = k
  el : ∀ t ∈ ts, belowB p t = true
  inc : incB ts = true
theorem setOk_of {p k : Int} {ts : List (List Int)} (hp : primeB p = true) (h : setB p k ts = true) : SetOk p k.toNat ts := by
  unfold setB at h
  simp only [Bool.and_eq_true, decide_eq_true_eq, List.all_eq_true] at h
  obtain ⟨⟨⟨h1, h2⟩, h3⟩, h4⟩ := h
  refine ⟨primeB_bd hp, by omega, fun t ht => ?_, fun t ht => ?_, h4⟩
  · have := h3 t ht; unfold tupB at this; simp at this; omega
  · have := h3 t ht; unfold tupB at this; simp at this; exact this.2
theorem SetOk.count {p : Int} {k : Nat} {ts : List (List Int)} (h : SetOk p k ts) : ts.length ≤ 2401 := by
  rcases inc_count (n := p) (k := k) h.inc fun t ht => ⟨h.len t ht, h.el t ht⟩ with h' | h'
  · have hp := h.hp
    have e : p ^ k ≤ 7 ^ 4 := by
      have : (p.toNat ^ k : Nat) ≤ 7 ^ 4 := Nat.le_trans (Nat.pow_le_pow_left (show p.toNat ≤ 7 by omega) k) (Nat.pow_le_pow_right (by omega) h.hk)
      have e2 : ((p.toNat ^ k : Nat) : Int) = p ^ k := by
        rw [Int.natCast_pow]; congr 1; omega
      rw [← e2]; exact_mod_cast this
    have : (7 : Int) ^ 4 = 2401 := by decide
    omega
  · rw [h']; simp
section
variable {p : Int} {k : Nat} {ts : List (List Int)}
theorem SetOk.get (h : SetOk p k ts) {t : List Int} (ht : t ∈ ts) {i : Nat} (hi : i < k) : i < t.length ∧ 0 ≤ t.getD i 0 ∧ t.getD i 0 < p := by
  have hl := h.len t ht
  have := belowB_get (h.el t ht) i (by omega)
  rw [getD_get (by omega)]
  exact ⟨by omega, this⟩
theorem mod_add1 {p a b c : Int} (hp : 0 < p) : ((a + (p - 1) * b) % p + c) % p = (a + c - b) % p := by
  rw [Int.emod_add_emod]
  have : a + (p - 1) * b + c = (a + c - b) + p * b := by rw [Int.sub_mul]; omega
  rw [this, Int.add_mul_emod_self_left]
theorem mod_add2 {p a b c : Int} : (a + c - b + p) % p = (a + c - b) % p := by have := Int.add_mul_emod_self_left (a + c - b) p 1; simpa using this
theorem spec_less (h : SetOk p k ts) {t b : List Int} (ht : t ∈ ts) (hb : b ∈ ts) : spec_l21Less p t b 1 = some ((List.range k).map fun i => (t.getD i 0 + (p - 1) * b.getD i 0) % p) := by
  have hp := h.hp
  have hk := h.hk
  have hl := h.len t ht
  unfold spec_l21Less
  have := forS k (fun m s i => spec_l21Less_L3 m (p, t, b, 1, s, i)) (fun j => (List.range j).map fun i => (t.getD i 0 + (p - 1) * b.getD i 0) % p) (r := some ((List.range k).map fun i => (t.getD i 0 + (p - 1) * b.getD i 0) % p)) (fun m j hj => ?_) (fun m => ?_) (n := fuel) (by unfold fuel; omega)
  · have this : spec_l21Less_L3 fuel (p, t, b, 1, [], 0) = _ := this
    rw [this]; rfl
  · obtain ⟨t1, t2, t3⟩ := h.get ht hj
    obtain ⟨b1, b2, b3⟩ := h.get hb hj
    rw [getD_get t1] at t2 t3
    rw [getD_get b1] at b2 b3
    have hm := Int.mul_nonneg (show 0 ≤ p - 1 by omega) b2
    have hm2 := Int.mul_le_mul (show p - 1 ≤ 6 by omega) (show b[j] ≤ 6 by omega) b2 (by omega)
    simp only [spec_l21Less_L3, inb_nat, gd_nat t1, gd_nat b1, w64_succ (show j < 4611686018427387904 by omega), w64_id (show -9223372036854775808 ≤ p - 1 by omega) (by omega), w64_id (show -9223372036854775808 ≤ (p - 1) * b[j] by omega) (by omega), w64_id (show -9223372036854775808 ≤ t[j] + (p - 1) * b[j] by omega) (by omega)]
    rw [Int.tmod_eq_emod_of_nonneg (by omega), List.range_succ, List.map_append]
    simp [hl, hj, t1, b1, show p ≠ 0 by omega, lim]
    omega
  · simp [spec_l21Less_L3, hl]
theorem spec_comb (h : SetOk p k ts) {i j : Nat} (hi : i < ts.length) (hj : j < ts.length) (h0 : 0 < ts.length) :
    spec_l21Affine_L9 fuel (p, ts, (i : Int), (j : Int), (List.range k).map (fun x : Nat => (ts[i].getD x 0 + (p - (1 : Int)) * ts[0].getD x 0) % p), 0) = some (p, ts, (i : Int), (j : Int), comb p ts[i] ts[j] ts[0]) := by
  have hp := h.hp
  have hk := h.hk
  have hl := h.len _ (List.getElem_mem hi)
  let f := fun x : Nat => (ts[i].getD x 0 + (p - (1 : Int)) * ts[0].getD x 0) % p
  let g := fun x : Nat => (ts[i].getD x 0 + ts[j].getD x 0 - ts[0].getD x 0) % p
  have e0 : (List.range k).map f = (List.range 0).map g ++ (List.range' 0 k).map f := by rw [List.range_eq_range' (n := k)]; rfl
  have hS : ∀ x, x ≤ k → ((List.range x).map g ++ (List.range' x (k - x)).map f).length = k := fun x hx => by simp; omega
  have := forS k (fun m s y => spec_l21Affine_L9 m (p, ts, (i : Int), (j : Int), s, y)) (fun x => (List.range x).map g ++ (List.range' x (k - x)).map f) (r := some (p, ts, (i : Int), (j : Int), comb p ts[i] ts[j] ts[0])) (fun m x hx => ?_) (fun m => ?_) (n := fuel) (by unfold fuel; omega)
  · rw [Nat.sub_zero, ← e0] at this
    exact this
  · obtain ⟨t1, t2, t3⟩ := h.get (List.getElem_mem hj) hx
    rw [getD_get t1] at t2 t3
    have hlen := hS x (by omega)
    have hx' : x < ((List.range x).map g ++ (List.range' x (k - x)).map f).length := by rw [hlen]; exact hx
    have hget : ((List.range x).map g ++ (List.range' x (k - x)).map f)[x] = f x := by
      rw [List.getElem_append_right (by simp)]; simp
    have hf : 0 ≤ f x ∧ f x < p := ⟨Int.emod_nonneg _ (by omega), Int.emod_lt_of_pos _ (by omega)⟩
    simp only [spec_l21Affine_L9, inb_nat, gd_nat hx', gd_nat hj, gd_nat t1, stt_nat, w64_succ (show x < 4611686018427387904 by omega), hget, w64_id (show -9223372036854775808 ≤ f x + ts[j][x] by omega) (by omega)]
    rw [Int.tmod_eq_emod_of_nonneg (by omega)]
    have hset : ((List.range x).map g ++ (List.range' x (k - x)).map f).set x ((f x + ts[j][x]) % p) = (List.range (x + 1)).map g ++ (List.range' (x + 1) (k - (x + 1))).map f := by
      rw [List.set_append_right _ _ (by simp), show k - x = (k - (x + 1)) + 1 by omega, List.range'_succ, List.range_succ, List.map_append]
      simp only [List.length_map, List.length_range, Nat.sub_self, List.map_cons, List.set_cons_zero, List.append_assoc, List.map_nil, List.singleton_append]
      congr 2
      have := mod_add1 (p := p) (a := ts[i].getD x 0) (b := ts[0].getD x 0) (c := ts[j].getD x 0) (by omega)
      show (f x + ts[j][x]) % p = g x
      rw [← getD_get (d := 0) t1]; exact this
    rw [hset]
    simp [hlen, hx, hj, t1, show p ≠ 0 by omega, hx']
  · have hlen := hS k (Nat.le_refl _)
    simp only [spec_l21Affine_L9]
    rw [if_neg (by simp)]
    simp only [Nat.sub_self, List.range'_zero, List.map_nil, List.append_nil, comb, hl]
    rfl
theorem spec_aff (h : SetOk p k ts) : spec_l21Affine p ts = some (affB p ts) := by
  have hp := h.hp
  have hk := h.hk
  have hc := h.count
  unfold spec_l21Affine
  by_cases h0 : 0 < ts.length
  · have hin : ∀ i, i < ts.length → (spec_l21Affine_L5 fuel (p, ts, (i : Int), 0)) = (if (List.range ts.length).all (fun j => decide (comb p (ts.getD i []) (ts.getD j []) ts[0] ∈ ts)) then some (.inl (p, ts, (i : Int))) else some (.inr false)) := fun i hi => by
      refine forA ts.length (fun m (_ : Unit) j => spec_l21Affine_L5 m (p, ts, (i : Int), j)) (fun _ => ()) (fun j => decide (comb p (ts.getD i []) (ts.getD j []) ts[0] ∈ ts)) (fun m j hj => ?_) (fun m => ?_) (by unfold fuel; omega)
      · obtain ⟨c, hf, _⟩ := spec_l8Find_ok (list := ts) (t := comb p ts[i] ts[j] ts[0]) (k := k) (by omega) (by omega) h.len (by rw [comb_len, h.len _ (List.getElem_mem hi)]) h.inc
        have h00 : inb (0 : Int) ts := by unfold inb; omega
        have g00 : gd ts 0 [] = ts[0] := by have := gd_nat (d := []) h0; exact this
        simp only [spec_l21Affine_L5, inb_nat, gd_nat hi, w64_succ (show j < 4611686018427387904 by omega), g00, spec_less h (List.getElem_mem hi) (List.getElem_mem h0), Option.bind_some]
        rw [spec_comb h hi hj h0]
        simp only [Option.bind_some, hf]
        rw [getD_get hi, getD_get hj]
        by_cases hm : comb p ts[i] ts[j] ts[0] ∈ ts <;> simp [hj, hi, h00, hm, w64_succ' (show j < 4611686018427387904 by omega)]
      · simp [spec_l21Affine_L5]
    have key := forA ts.length (fun m (_ : Unit) i => spec_l21Affine_L2 m (p, ts, i)) (fun _ => ()) (fun i => (List.range ts.length).all (fun j => decide (comb p (ts.getD i []) (ts.getD j []) ts[0] ∈ ts))) (r := some (.inr false)) (e := some (.inl ())) (fun m i hi => ?_) (fun m => ?_) (n := fuel) (by unfold fuel; omega)
    · rw [key]
      have : (List.range ts.length).all (fun i => (List.range ts.length).all (fun j => decide (comb p (ts.getD i []) (ts.getD j []) ts[0] ∈ ts))) = affB p ts := by
        have hd : ts.headD [] = ts[0] := by cases ts with | nil => simp at h0 | cons => rfl
        unfold affB
        rw [hd, Bool.eq_iff_iff, List.all_eq_true, List.all_eq_true]
        constructor
        · intro hh t ht
          obtain ⟨i, hi, rfl⟩ := List.mem_iff_getElem.1 ht
          rw [List.all_eq_true]
          intro u hu
          obtain ⟨j, hj, rfl⟩ := List.mem_iff_getElem.1 hu
          have := (List.all_eq_true.1 (hh i (by simpa using hi))) j (by simpa using hj)
          rw [getD_get hi, getD_get hj] at this
          exact this
        · intro hh i hi
          rw [List.all_eq_true]
          intro j hj
          have hi : i < ts.length := by simpa using hi
          have hj : j < ts.length := by simpa using hj
          rw [getD_get hi, getD_get hj]
          exact (List.all_eq_true.1 (hh _ (List.getElem_mem hi))) _ (List.getElem_mem hj)
      rw [this]
      cases affB p ts <;> simp
    · simp only [spec_l21Affine_L2, hin i hi, w64_succ (show i < 4611686018427387904 by omega)]
      cases (List.range ts.length).all (fun j => decide (comb p (ts.getD i []) (ts.getD j []) ts[0] ∈ ts)) <;> simp [hi, w64_succ' (show i < 4611686018427387904 by omega)]
    · simp [spec_l21Affine_L2]
  · have : ts = [] := List.length_eq_zero_iff.1 (by omega)
    subst this
    have e : spec_l21Affine_L2 fuel (p, [], 0) = some (.inl ()) := by
      have := forA 0 (fun m (_ : Unit) i => spec_l21Affine_L2 m (p, [], i)) (fun _ => ()) (fun _ => true) (r := some (.inl ())) (e := some (.inl ())) (fun m i hi => by omega) (fun m => by simp [spec_l21Affine_L2]) (n := fuel) (by unfold fuel; omega)
      simpa using this
    rw [e]; rfl
end
end T
open Go Go.Va
namespace T
section
variable {p : Int} {k : Nat} {ts : List (List Int)}
theorem idxA_snoc (n : Int) : ∀ (l : List Int) (i a : Int), idxA n i (l ++ [a]) = idxA n i l * n + a
  | [], i, a => by simp [idxA]
  | b :: l, i, a => by simp only [List.cons_append, idxA]; exact idxA_snoc n l _ _
theorem below_take {n : Int} {l : List Int} (h : belowB n l = true) (j : Nat) : belowB n (l.take j) = true := by
  unfold belowB at *
  rw [List.all_eq_true] at *
  exact fun x hx => h x (List.mem_of_mem_take hx)
/-- which places are taken -/
def haveL (p : Int) (N : Nat) (l : List (List Int)) : List Bool := (List.range N).map fun i : Nat => decide (∃ t ∈ l, idx p t = (i : Int))
theorem have_get {p : Int} {N : Nat} {l : List (List Int)} {i : Nat} (h : i < (haveL p N l).length) : (haveL p N l)[i] = decide (∃ t ∈ l, idx p t = (i : Int)) := by simp [haveL]
theorem impl_have (h : SetOk p k ts) (h0 : 0 < ts.length) : impl_isAffine_L6 fuel (p, ts, ts[0], List.replicate (p ^ k).toNat false, ts, (ts.length : Int), 0) = some (p, ts, ts[0], haveL p (p ^ k).toNat ts) := by
  have hp := h.hp
  have hc := h.count
  have hpw := pow_bd (n := p) (by omega) (by omega) (k := k) (by have := h.hk; omega)
  have := forS ts.length (fun m s i => impl_isAffine_L6 m (p, ts, ts[0], s, ts, (ts.length : Int), i)) (fun j => haveL p (p ^ k).toNat (ts.take j)) (r := some (p, ts, ts[0], haveL p (p ^ k).toNat ts)) (fun m j hj => ?_) (fun m => ?_) (n := fuel) (by unfold fuel; omega)
  · have e : haveL p (p ^ k).toNat (ts.take 0) = List.replicate (p ^ k).toNat false := by
      simp only [haveL, List.take_zero]
      refine List.ext_getElem (by simp) fun i h1 h2 => by simp
    rw [e] at this; exact this
  · have hb := h.el _ (List.getElem_mem hj)
    have hl := h.len _ (List.getElem_mem hj)
    have hi := idx_bd hb
    rw [hl] at hi
    have hidx := indexOf_L3 (n := p) (t := ts[j]) (by omega) (by omega) (by have := h.hk; omega) hb
    have hin : inb (idx p ts[j]) (haveL p (p ^ k).toNat (ts.take j)) := by unfold inb haveL; simp; omega
    have hset : stt (haveL p (p ^ k).toNat (ts.take j)) (idx p ts[j]) true = haveL p (p ^ k).toNat (ts.take (j + 1)) := by
      unfold stt
      refine List.ext_getElem (by simp [haveL]) fun i h1 h2 => ?_
      rw [List.getElem_set]
      split
      · rename_i he
        rw [have_get, eq_comm, decide_eq_true_eq]
        exact ⟨ts[j], by rw [List.take_succ_eq_append_getElem hj]; exact List.mem_append_right _ (List.mem_singleton.2 rfl), by omega⟩
      · rename_i he
        rw [have_get, have_get]
        congr 1
        rw [List.take_succ_eq_append_getElem hj]
        refine propext ⟨fun ⟨t, h1, h2⟩ => ⟨t, List.mem_append_left _ h1, h2⟩, fun ⟨t, h1, h2⟩ => ?_⟩
        rcases List.mem_append.1 h1 with h1 | h1
        · exact ⟨t, h1, h2⟩
        · rw [List.mem_singleton] at h1; subst h1; omega
    simp only [impl_isAffine_L6, inb_nat, gd_nat hj, hidx, Option.bind_some, w64_succ (show j < 4611686018427387904 by omega), hset]
    simp [hj, hin]
  · simp [impl_isAffine_L6]
theorem impl_at (h : SetOk p k ts) {t u : List Int} (ht : t ∈ ts) (hu : u ∈ ts) (h0 : 0 < ts.length) {hv : List Bool} {a b : Nat} :
    impl_isAffine_L18 fuel (p, ts, ts[0], hv, t, u, 0, ts, (ts.length : Int), (a : Int), ts, (ts.length : Int), (b : Int), t, (t.length : Int), 0) = some (p, ts, ts[0], hv, t, idx p (comb p t u ts[0]), ts, (ts.length : Int), (a : Int), ts, (ts.length : Int), (b : Int)) := by
  have hp := h.hp
  have hk := h.hk
  have hl := h.len _ ht
  have hcl : (comb p t u ts[0]).length = k := comb_len.trans hl
  have hcb := comb_below (p := p) (t := t) (u := u) (b := ts[0]) (by omega)
  have := forS k (fun m s i => impl_isAffine_L18 m (p, ts, ts[0], hv, t, u, s, ts, (ts.length : Int), (a : Int), ts, (ts.length : Int), (b : Int), t, (t.length : Int), i)) (fun j => idx p ((comb p t u ts[0]).take j)) (r := some (p, ts, ts[0], hv, t, idx p (comb p t u ts[0]), ts, (ts.length : Int), (a : Int), ts, (ts.length : Int), (b : Int))) (fun m j hj => ?_) (fun m => ?_) (n := fuel) (by unfold fuel; omega)
  · exact this
  · obtain ⟨t1, t2, t3⟩ := h.get ht hj
    obtain ⟨u1, u2, u3⟩ := h.get hu hj
    obtain ⟨b1, b2, b3⟩ := h.get (List.getElem_mem h0) hj
    have hcg : (comb p t u ts[0])[j]'(by omega) = (t.getD j 0 + u.getD j 0 - ts[0].getD j 0) % p := comb_get t1
    rw [getD_get t1] at t2 t3 hcg
    rw [getD_get u1] at u2 u3 hcg
    rw [getD_get b1] at b2 b3 hcg
    have i1 := idx_bd (below_take hcb j)
    have i2 := idx_bd (below_take hcb (j + 1))
    have p1 := pow_bd (n := p) (by omega) (by omega) (k := j + 1) (by omega)
    have e1 : ((comb p t u ts[0]).take (j + 1)).length = j + 1 := by simp; omega
    have hstep : idx p ((comb p t u ts[0]).take (j + 1)) = idx p ((comb p t u ts[0]).take j) * p + (t[j] + u[j] - ts[0][j]) % p := by
      rw [List.take_succ_eq_append_getElem (by omega), hcg]
      exact idxA_snoc _ _ _ _
    rw [e1, hstep] at i2
    have hm := Int.mul_nonneg i1.1 (show 0 ≤ p by omega)
    have hmod : 0 ≤ (t[j] + u[j] - ts[0][j]) % p ∧ (t[j] + u[j] - ts[0][j]) % p < p := ⟨Int.emod_nonneg _ (by omega), Int.emod_lt_of_pos _ (by omega)⟩
    have w1 : w64 (w64 (w64 (t[j] + u[j]) - ts[0][j]) + p) = t[j] + u[j] - ts[0][j] + p := by
      rw [w64_id (x := t[j] + u[j]) (by omega) (by omega), w64_id (x := t[j] + u[j] - ts[0][j]) (by omega) (by omega), w64_id (by omega) (by omega)]
    have w2 : Int.tmod (t[j] + u[j] - ts[0][j] + p) p = (t[j] + u[j] - ts[0][j]) % p := by
      rw [Int.tmod_eq_emod_of_nonneg (by omega)]; exact mod_add2
    have w3 : w64 (w64 (idx p ((comb p t u ts[0]).take j) * p) + (t[j] + u[j] - ts[0][j]) % p) = idx p ((comb p t u ts[0]).take (j + 1)) := by
      rw [w64_id (x := idx p ((comb p t u ts[0]).take j) * p) (by omega) (by omega), w64_id (by omega) (by omega), hstep]
    simp only [impl_isAffine_L18, inb_nat, gd_nat t1, gd_nat u1, gd_nat b1, w1, w2, w3, w64_succ (show j < 4611686018427387904 by omega)]
    simp [t1, u1, b1, show p ≠ 0 by omega]
  · have : (comb p t u ts[0]).take k = comb p t u ts[0] := List.take_of_length_le (by omega)
    simp only [impl_isAffine_L18, this]
    rw [if_neg (by simp; omega)]
theorem have_mem (h : SetOk p k ts) {c : List Int} (hc : belowB p c = true) (hl : c.length = k) : inb (idx p c) (haveL p (p ^ k).toNat ts) ∧ gd (haveL p (p ^ k).toNat ts) (idx p c) false = decide (c ∈ ts) := by
  have hi := idx_bd hc
  rw [hl] at hi
  have hin : inb (idx p c) (haveL p (p ^ k).toNat ts) := by unfold inb haveL; simp; omega
  refine ⟨hin, ?_⟩
  have hlt : (idx p c).toNat < (haveL p (p ^ k).toNat ts).length := by unfold inb at hin; omega
  unfold gd
  rw [getD_get hlt, have_get]
  congr 1
  refine propext ⟨fun ⟨t, h1, h2⟩ => ?_, fun h => ⟨c, h, by omega⟩⟩
  have := idx_inj (h.el t h1) hc ((h.len t h1).trans hl.symm) (by omega)
  rw [← this]; exact h1
theorem impl_aff (h : SetOk p k ts) : impl_isAffine p ts = some (affB p ts) := by
  have hp := h.hp
  have hk := h.hk
  have hc := h.count
  unfold impl_isAffine
  by_cases h0 : 0 < ts.length
  · have hpw := pow_bd (n := p) (by omega) (by omega) (k := k) (by omega)
    have hl0 := h.len _ (List.getElem_mem h0)
    have g00 : gd ts 0 [] = ts[0] := by have := gd_nat (d := []) h0; exact this
    have h00 : inb (0 : Int) ts := by unfold inb; omega
    have hpow := impl_power_ok (n := p) (by omega) (by omega) (k := k) (by omega)
    rw [if_neg (by simp only [beq_iff_eq]; omega), if_pos h00, g00, hl0, hpow]
    simp only [Option.bind_some]
    have hp7 : p ^ k ≤ 7 ^ 4 := by
      have : (p.toNat ^ k : Nat) ≤ 7 ^ 4 := Nat.le_trans (Nat.pow_le_pow_left (show p.toNat ≤ 7 by omega) k) (Nat.pow_le_pow_right (by omega) h.hk)
      have e2 : ((p.toNat ^ k : Nat) : Int) = p ^ k := by rw [Int.natCast_pow]; congr 1; omega
      rw [← e2]; exact_mod_cast this
    have h74 : (7 : Int) ^ 4 = 2401 := by decide
    rw [if_pos ⟨hpw.1, Int.le_refl _, by unfold lim; omega⟩, impl_have h h0]
    simp only [Option.bind_some]
    have hin : ∀ i, i < ts.length → impl_isAffine_L14 fuel (p, ts, ts[0], haveL p (p ^ k).toNat ts, ts.getD i [], ts, (ts.length : Int), (i : Int), ts, (ts.length : Int), 0) = (if (List.range ts.length).all (fun j => decide (comb p (ts.getD i []) (ts.getD j []) ts[0] ∈ ts)) then some (.inl (p, ts, ts[0], haveL p (p ^ k).toNat ts, ts, (ts.length : Int), (i : Int))) else some (.inr false)) := fun i hi => by
      refine forA ts.length (fun m (_ : Unit) j => impl_isAffine_L14 m (p, ts, ts[0], haveL p (p ^ k).toNat ts, ts.getD i [], ts, (ts.length : Int), (i : Int), ts, (ts.length : Int), j)) (fun _ => ()) (fun j => decide (comb p (ts.getD i []) (ts.getD j []) ts[0] ∈ ts)) (fun m j hj => ?_) (fun m => ?_) (by unfold fuel; omega)
      · have hat := impl_at h (List.getElem_mem hi) (List.getElem_mem hj) h0 (hv := haveL p (p ^ k).toNat ts) (a := i) (b := j)
        obtain ⟨m1, m2⟩ := have_mem h (c := comb p ts[i] ts[j] ts[0]) (comb_below (by omega)) (by rw [comb_len, h.len _ (List.getElem_mem hi)])
        rw [getD_get hi, getD_get hj]
        simp only [impl_isAffine_L14, inb_nat, gd_nat hj, hat, Option.bind_some, m2, w64_succ (show j < 4611686018427387904 by omega)]
        by_cases hm : comb p ts[i] ts[j] ts[0] ∈ ts <;> simp [hj, m1, hm]
      · simp [impl_isAffine_L14]
    have key := forA ts.length (fun m (_ : Unit) i => impl_isAffine_L11 m (p, ts, ts[0], haveL p (p ^ k).toNat ts, ts, (ts.length : Int), i)) (fun _ => ()) (fun i => (List.range ts.length).all (fun j => decide (comb p (ts.getD i []) (ts.getD j []) ts[0] ∈ ts))) (r := some (.inr false)) (e := some (.inl ())) (fun m i hi => ?_) (fun m => ?_) (n := fuel) (by unfold fuel; omega)
    · rw [key]
      have : (List.range ts.length).all (fun i => (List.range ts.length).all (fun j => decide (comb p (ts.getD i []) (ts.getD j []) ts[0] ∈ ts))) = affB p ts := by
        have hd : ts.headD [] = ts[0] := by cases ts with | nil => simp at h0 | cons => rfl
        unfold affB
        rw [hd, Bool.eq_iff_iff, List.all_eq_true, List.all_eq_true]
        constructor
        · intro hh t ht
          obtain ⟨i, hi, rfl⟩ := List.mem_iff_getElem.1 ht
          rw [List.all_eq_true]
          intro u hu
          obtain ⟨j, hj, rfl⟩ := List.mem_iff_getElem.1 hu
          have := (List.all_eq_true.1 (hh i (by simpa using hi))) j (by simpa using hj)
          rw [getD_get hi, getD_get hj] at this
          exact this
        · intro hh i hi
          rw [List.all_eq_true]
          intro j hj
          have hi : i < ts.length := by simpa using hi
          have hj : j < ts.length := by simpa using hj
          rw [getD_get hi, getD_get hj]
          exact (List.all_eq_true.1 (hh _ (List.getElem_mem hi))) _ (List.getElem_mem hj)
      rw [this]
      cases affB p ts <;> simp
    · have := hin i hi
      rw [getD_get hi] at this
      simp only [impl_isAffine_L11, inb_nat, gd_nat hi, this]
      rw [getD_get hi]
      cases (List.range ts.length).all (fun j => decide (comb p ts[i] (ts.getD j []) ts[0] ∈ ts)) <;> simp [hi, w64_succ' (show i < 4611686018427387904 by omega)]
    · simp [impl_isAffine_L11]
  · have : ts = [] := List.length_eq_zero_iff.1 (by omega)
    subst this
    rfl
end
def isAff (p k : Int) (ts : List (List Int)) : Bool × Bool := if primeB p && setB p k ts then (affB p ts, true) else (false, false)
theorem impl_IsAffineSet_ok {p k : Int} {ts : List (List Int)} (hl : ts.length ≤ 1099511627774) (hr : ∀ t ∈ ts, t.length ≤ 1099511627775) : impl_IsAffineSet p k ts = some (isAff p k ts) := by
  unfold impl_IsAffineSet isAff
  rw [impl_isPrime_ok, impl_isTupleSet_ok hl hr]
  cases hp : primeB p with
  | false => simp
  | true =>
    cases hs : setB p k ts with
    | false => simp
    | true => simp [impl_aff (setOk_of hp hs)]
theorem szR_small {a : List (List Int)} (h : ¬ szR (totSS a) 1048576 < 0) : a.length ≤ 1048576 ∧ ∀ r ∈ a, r.length ≤ 1048576 := szLinear_small (a := (0, 0, a)) h
end T
set_option linter.unusedVariables false
open Go Go.Va
namespace T
def spec_l1Own (l : List Int) : Option ((List Int)) :=
  if ([] : List Int).length + l.length ≤ lim then
    some ([] ++ l)
  else none
def spec_l1Has_L2 : Nat → ((List Int) × Int × Int) → Option ((Unit) ⊕ (Bool))
  | 0, _ => none
  | n + 1, (l, n_, i) =>
    if decide (i < (l.length : Int)) then
      if inb i l then
        if (gd l i 0) == n_ then
          some (.inr true)
        else
          spec_l1Has_L2 n (l, n_, w64 (i + 1))
      else none
    else
      some (.inl ())
def spec_l1Has (l : List Int) (n_ : Int) : Option (Bool) :=
  (spec_l1Has_L2 fuel (l, n_, 0)).bind fun s1 =>
    match s1 with
    | .inl s2 =>
      some false
    | .inr s3 =>
      some s3
def laws_markIntS_L2 : Nat → ((List Int) × Int × Int) → Option ((List Int) × Int)
  | 0, _ => none
  | n + 1, (a, k, i) =>
    if decide (i < (a.length : Int)) then
      if inb i a then
        laws_markIntS_L2 n (stt a i k, w64 (k + 1), w64 (i + 1))
      else none
    else
      some (a, k)
def laws_markIntS (a : List Int) (k : Int) : Option ((List Int) × Int) :=
  (laws_markIntS_L2 fuel (a, k, 0)).bind fun s1 =>
    some (s1.1, s1.2)
def laws_markIntSS_L2 : Nat → ((List (List Int)) × Int × Int) → Option ((List (List Int)) × Int)
  | 0, _ => none
  | n + 1, (a, k, i) =>
    if decide (i < (a.length : Int)) then
      if inb i a then
        (laws_markIntS (gd a i []) k).bind fun r1 =>
          laws_markIntSS_L2 n (stt a i r1.1, r1.2, w64 (i + 1))
      else none
    else
      some (a, k)
def laws_markIntSS (a : List (List Int)) (k : Int) : Option ((List (List Int)) × Int) :=
  (laws_markIntSS_L2 fuel (a, k, 0)).bind fun s1 =>
    some (s1.1, s1.2)
def laws_heldIntS_L2 : Nat → ((List Int) × Int × Int) → Option ((Int) ⊕ (Int))
  | 0, _ => none
  | n + 1, (a, k, i) =>
    if decide (i < (a.length : Int)) then
      if inb i a then
        if (gd a i 0) != k then
          some (.inr (-1))
        else
          laws_heldIntS_L2 n (a, w64 (k + 1), w64 (i + 1))
      else none
    else
      some (.inl k)
def laws_heldIntS (a : List Int) (k : Int) : Option (Int) :=
  (laws_heldIntS_L2 fuel (a, k, 0)).bind fun s1 =>
    match s1 with
    | .inl s2 =>
      some s2
    | .inr s3 =>
      some s3
def laws_heldIntSS_L2 : Nat → ((List (List Int)) × Int × Int) → Option ((Int) ⊕ (Int))
  | 0, _ => none
  | n + 1, (a, k, i) =>
    if decide (i < (a.length : Int)) then
      if inb i a then
        (laws_heldIntS (gd a i []) k).bind fun r1 =>
          if decide (r1 < 0) then
            some (.inr (-1))
          else
            laws_heldIntSS_L2 n (a, r1, w64 (i + 1))
      else none
    else
      some (.inl k)
def laws_heldIntSS (a : List (List Int)) (k : Int) : Option (Int) :=
  (laws_heldIntSS_L2 fuel (a, k, 0)).bind fun s1 =>
    match s1 with
    | .inl s2 =>
      some s2
    | .inr s3 =>
      some s3
end T
open Go Go.Va
namespace T
/- networks -/
abbrev Con := List Int × Int × List (List Int)
abbrev Net := Int × Int × List Con
theorem getD_of {α : Type} {l : List α} {k : Nat} {d : α} (h : k < l.length) : l.getD k d = l[k] := by simp [List.getD_eq_getElem?_getD, h]
end T
open Go Go.Va
namespace T
/- a constraint is taken -/
def g0 (l : List Int) (i : Nat) : Int := l.getD i 0
section
variable {v n up : Int} {c : Con} {vals : List Int}
theorem spec_l1Own_ok {l : List Int} (h : l.length ≤ 1099511627775) : spec_l1Own l = some l := by
  unfold spec_l1Own
  rw [if_pos (by unfold lim; simp; omega)]; simp
end
end T
open Go Go.Va
namespace T
/-- the places that are true -/
def mk (bs : List Bool) : List Int := ((List.range bs.length).filter fun i => bs.getD i false).map fun i : Nat => (i : Int)
theorem getD_set_of {α : Type} {l : List α} {i j : Nat} {y d : α} : (l.set i y).getD j d = if i = j ∧ j < l.length then y else l.getD j d := by
  simp only [List.getD_eq_getElem?_getD, List.getElem?_set]
  by_cases h : i = j
  · subst h
    by_cases h2 : i < l.length
    · simp [h2]
    · simp [h2]
  · simp [h]
/- the reference's lists -/
theorem spec_l1Has_ok {l : List Int} {x : Int} (h : l.length ≤ 1048576) : spec_l1Has l x = some (decide (x ∈ l)) := by
  unfold spec_l1Has
  rw [allX l (fun n i => spec_l1Has_L2 n (l, x, i)) (fun y => !decide (y = x)) (.inr true) (.inl ()) ?_ ?_ (by unfold fuel; omega)]
  · by_cases hx : x ∈ l
    · rw [if_neg]
      · simp [hx]
      · rw [List.all_eq_true]; intro h; have := h x hx; simp at this
    · rw [if_pos]
      · simp [hx]
      · rw [List.all_eq_true]; intro y hy; have : y ≠ x := fun e => hx (e ▸ hy)
        simp [this]
  · intro n k hk
    simp only [spec_l1Has_L2, inb_nat, gd_nat hk, w64_succ (show k < 4611686018427387904 by omega)]
    by_cases e : l[k] = x <;> simp [hk, e]
  · intro n; simp [spec_l1Has_L2]
end T
open Go Go.Va
namespace T
/- marks: each place gets the next number -/
def mkL {α : Type} (f : α → Int → α × Int) : List α → Int → List α × Int
  | [], k => ([], k)
  | x :: l, k => ((f x k).1 :: (mkL f l (f x k).2).1, (mkL f l (f x k).2).2)
theorem mkL_snoc {α : Type} (f : α → Int → α × Int) : ∀ (l : List α) (x : α) (k : Int), mkL f (l ++ [x]) k = ((mkL f l k).1 ++ [(f x (mkL f l k).2).1], (f x (mkL f l k).2).2)
  | [], x, k => by simp [mkL]
  | y :: l, x, k => by
    simp only [List.cons_append, mkL]
    rw [mkL_snoc f l x]
theorem mkL_len {α : Type} (f : α → Int → α × Int) : ∀ (l : List α) (k : Int), (mkL f l k).1.length = l.length
  | [], _ => rfl
  | x :: l, k => by simp [mkL, mkL_len f l]
/-- how far the numbers go -/
theorem mkL_far {α : Type} {f : α → Int → α × Int} {w : α → Nat} : ∀ (l : List α) (k : Int), (∀ x ∈ l, ∀ k, (f x k).2 = k + w x) → (mkL f l k).2 = k + ((l.map w).sum : Nat)
  | [], k, _ => by simp [mkL]
  | x :: l, k, h => by
    simp only [mkL, List.map_cons, List.sum_cons]
    rw [mkL_far l _ fun y hy => h y (List.mem_cons_of_mem _ hy), h x (by simp)]; push_cast; omega
/-- a loop that marks -/
theorem markX {α β : Type} (N : Nat) (L : Nat → List α → Int → Int → Option β) (f : α → Int → α × Int) (w : α → Nat) (B : Int) (fin : List α → Int → Option β) (xs : List α) (k0 : Int) (hN : xs.length = N) (hw : ∀ x ∈ xs, ∀ k, (f x k).2 = k + w x)
    (h0 : 0 ≤ k0) (hB : k0 + ((xs.map w).sum : Nat) ≤ B)
    (hs : ∀ n (a : List α) (k : Int) (i : Nat) (hi : i < N) (hl : a.length = N), a[i]'(by omega) ∈ xs → 0 ≤ k → k + w (a[i]'(by omega)) ≤ B → L (n + 1) a k i = L n (a.set i (f (a[i]'(by omega)) k).1) (f (a[i]'(by omega)) k).2 ((i + 1 : Nat) : Int))
    (he : ∀ n a k, a.length = N → L (n + 1) a k (N : Nat) = fin a k) {n : Nat} (hn : N < n) : L n xs k0 0 = fin (mkL f xs k0).1 (mkL f xs k0).2 := by
  have far : ∀ i, i ≤ N → (mkL f (xs.take i) k0).2 = k0 + (((xs.take i).map w).sum : Nat) := fun i _ => mkL_far _ _ fun x hx => hw x (List.mem_of_mem_take hx)
  have := forS N (fun n (s : List α × Int) i => L n s.1 s.2 i) (fun i => ((mkL f (xs.take i) k0).1 ++ xs.drop i, (mkL f (xs.take i) k0).2)) (r := fin (mkL f xs k0).1 (mkL f xs k0).2) (fun n i hi => ?_) (fun n => ?_) hn
  · simpa [mkL] using this
  · have hix : i < xs.length := by omega
    have hlen : (mkL f (xs.take i) k0).1.length = i := by rw [mkL_len]; simp; omega
    have hl2 : ((mkL f (xs.take i) k0).1 ++ xs.drop i).length = N := by simp [hlen]; omega
    have hget : ((mkL f (xs.take i) k0).1 ++ xs.drop i)[i]'(by omega) = xs[i] := by
      rw [List.getElem_append_right (by omega)]; simp [hlen]
    have hsum : (((xs.take i).map w).sum : Nat) + w xs[i] ≤ (xs.map w).sum := by
      have h1 : xs = xs.take i ++ xs[i] :: xs.drop (i + 1) := by rw [← List.drop_eq_getElem_cons hix, List.take_append_drop]
      have h2 : (xs.map w).sum = ((xs.take i).map w).sum + (w xs[i] + ((xs.drop (i + 1)).map w).sum) := by
        conv => lhs; rw [h1]
        rw [List.map_append, List.sum_append, List.map_cons, List.sum_cons]
      omega
    have hf := far i (by omega)
    dsimp only
    rw [hs n _ _ i hi hl2 (by rw [hget]; exact List.getElem_mem hix) (by omega) (by rw [hget, hf]; omega), hget, List.take_succ_eq_append_getElem hix, mkL_snoc]
    congr 1
    rw [List.set_append_right _ _ (by omega), hlen, Nat.sub_self, List.drop_eq_getElem_cons hix, List.set_cons_zero, List.append_assoc]; rfl
  · dsimp only
    rw [List.take_of_length_le (by omega), List.drop_of_length_le (by omega), List.append_nil]
    exact he n _ _ (by rw [mkL_len]; exact hN)
/-- a loop that looks for the marks finds them -/
theorem heldX {α : Type} (f : α → Int → α × Int) (h : α → Int → Option Int) (w : α → Nat) (B : Int) : ∀ (xs : List α) (k0 : Int) (L : Nat → Int → Int → Option (Int ⊕ Int)) (j : Nat), (∀ x ∈ xs, ∀ k, (f x k).2 = k + w x) → 0 ≤ k0 → k0 + ((xs.map w).sum : Nat) ≤ B →
    (∀ x ∈ xs, ∀ k, 0 ≤ k → k + w x ≤ B → h (f x k).1 k = some (f x k).2) →
    (∀ n k (i : Nat) (hi : i < xs.length), 0 ≤ k → k + w xs[i] ≤ B → L (n + 1) k ((j + i : Nat) : Int) = (h ((mkL f xs k0).1[i]'(by rw [mkL_len]; exact hi)) k).bind fun q => if q < 0 then some (.inr (-1)) else L n q ((j + i + 1 : Nat) : Int)) →
    (∀ n k, L (n + 1) k ((j + xs.length : Nat) : Int) = some (.inl k)) → ∀ n, xs.length < n → L n k0 (j : Int) = some (.inl (mkL f xs k0).2)
  | [], k0, L, j, _, _, _, _, _, he, n, hn => by
    obtain ⟨n, rfl⟩ : ∃ m, n = m + 1 := ⟨n - 1, by simp at hn; omega⟩
    have := he n k0
    simpa [mkL] using this
  | x :: xs, k0, L, j, hw, h0, hB, hh, hs, he, n, hn => by
    obtain ⟨n, rfl⟩ : ∃ m, n = m + 1 := ⟨n - 1, by simp at hn; omega⟩
    rw [List.map_cons, List.sum_cons] at hB
    have hx := hw x (by simp) k0
    have h1 := hs n k0 0 (by simp) h0 (by simp only [List.getElem_cons_zero]; omega)
    simp only [Nat.add_zero, mkL, List.getElem_cons_zero] at h1
    rw [h1, hh x (by simp) k0 h0 (by omega)]
    simp only [Option.bind_some]
    rw [if_neg (by omega)]
    have := heldX f h w B xs (f x k0).2 L (j + 1) (fun y hy => hw y (List.mem_cons_of_mem _ hy)) (by omega) (by rw [hx]; omega) (fun y hy => hh y (List.mem_cons_of_mem _ hy))
      (fun n k i hi hk0 hkB => by
        have := hs n k (i + 1) (by simpa using hi) hk0 (by simpa using hkB)
        simp only [mkL, List.getElem_cons_succ] at this
        rw [show j + 1 + i = j + (i + 1) by omega]; exact this)
      (fun n k => by have := he n k; rw [List.length_cons] at this; rw [show j + 1 + xs.length = j + (xs.length + 1) by omega]; exact this) n (by simp at hn; omega)
    exact this
abbrev BM : Int := 1152921504606846976
def mInt (_ : Int) (k : Int) : Int × Int := (k, k + 1)
def mIntS (l : List Int) (k : Int) : List Int × Int := mkL mInt l k
def mIntSS (l : List (List Int)) (k : Int) : List (List Int) × Int := mkL mIntS l k
theorem sum_one {α : Type} : ∀ (l : List α), (l.map fun _ => 1).sum = l.length
  | [] => rfl
  | _ :: l => by rw [List.map_cons, List.sum_cons, sum_one l, List.length_cons]; omega
theorem mIntS_far (l : List Int) (k : Int) : (mIntS l k).2 = k + (l.length : Nat) := by
  unfold mIntS
  rw [mkL_far (w := fun _ => 1) l k fun _ _ _ => rfl, sum_one]
theorem mIntSS_far (l : List (List Int)) (k : Int) : (mIntSS l k).2 = k + ((l.map List.length).sum : Nat) := by
  unfold mIntSS
  rw [mkL_far (w := List.length) l k fun x _ k => mIntS_far x k]
theorem markIntS_ok {l : List Int} {k : Int} (hl : l.length ≤ 1048576) (h0 : 0 ≤ k) (hB : k + l.length ≤ BM) : laws_markIntS l k = some (mIntS l k) := by
  unfold laws_markIntS
  have := markX l.length (fun n a k i => laws_markIntS_L2 n (a, k, i)) mInt (fun _ => 1) BM (fun a k => some (a, k)) l k rfl (fun _ _ _ => rfl) h0 (by rw [sum_one]; exact hB) (fun n a k i hi hl' _ hk0 hkB => ?_) (fun n a k hl' => ?_) (n := fuel) (by unfold fuel; omega)
  · rw [this]; rfl
  · have hk1 : w64 (k + 1) = k + 1 := w64_id (by omega) (by unfold BM at hkB; omega)
    simp only [laws_markIntS_L2, inb_nat, stt_nat, w64_succ (show i < 4611686018427387904 by omega), hk1, mInt]
    simp [hl', hi]
  · simp [laws_markIntS_L2, hl']
theorem heldIntS_ok {l : List Int} {k : Int} (hl : l.length ≤ 1048576) (h0 : 0 ≤ k) (hB : k + l.length ≤ BM) : laws_heldIntS (mIntS l k).1 k = some (mIntS l k).2 := by
  unfold laws_heldIntS
  have hlen : (mIntS l k).1.length = l.length := mkL_len _ _ _
  have := heldX mInt (fun x k => if x = k then some (k + 1) else some (-1)) (fun _ => 1) BM l k (fun n k' i => laws_heldIntS_L2 n ((mIntS l k).1, k', i)) 0 (fun _ _ _ => rfl) h0 (by rw [sum_one]; exact hB) (fun x _ k' _ _ => by simp [mInt])
    (fun n k' i hi hk0 hkB => by
      have hi' : i < (mIntS l k).1.length := by omega
      have hk1 : w64 (k' + 1) = k' + 1 := w64_id (by omega) (by unfold BM at hkB; omega)
      rw [Nat.zero_add]
      simp only [laws_heldIntS_L2, inb_nat, gd_nat hi', w64_succ (show i < 4611686018427387904 by omega), hk1]
      have e : (mkL mInt l k).1[i]'(by rw [mkL_len]; exact hi) = (mIntS l k).1[i] := rfl
      rw [e]
      by_cases h : (mIntS l k).1[i] = k'
      · simp [hi', hi, h, hlen, show ¬ k' + 1 < 0 by omega]
      · simp [hi', hi, h, hlen])
    (fun n k' => by rw [Nat.zero_add]; simp [laws_heldIntS_L2, hlen]) fuel (by unfold fuel; omega)
  rw [show ((0 : Nat) : Int) = 0 from rfl] at this
  rw [this]; rfl
theorem markIntSS_ok {l : List (List Int)} {k : Int} (hl : l.length ≤ 1048576) (hr : ∀ r ∈ l, r.length ≤ 1048576) (h0 : 0 ≤ k) (hB : k + ((l.map List.length).sum : Nat) ≤ BM) : laws_markIntSS l k = some (mIntSS l k) := by
  unfold laws_markIntSS
  have := markX l.length (fun n a k i => laws_markIntSS_L2 n (a, k, i)) mIntS List.length BM (fun a k => some (a, k)) l k rfl (fun x _ k => mIntS_far x k) h0 hB (fun n a k i hi hl' hm hk0 hkB => ?_) (fun n a k hl' => ?_) (n := fuel) (by unfold fuel; omega)
  · rw [this]; rfl
  · have hia : i < a.length := by omega
    simp only [laws_markIntSS_L2, inb_nat, stt_nat, gd_nat hia, w64_succ (show i < 4611686018427387904 by omega), markIntS_ok (hr _ hm) hk0 hkB, Option.bind_some]
    simp [hl', hi]
  · simp [laws_markIntSS_L2, hl']
theorem heldIntSS_ok {l : List (List Int)} {k : Int} (hl : l.length ≤ 1048576) (hr : ∀ r ∈ l, r.length ≤ 1048576) (h0 : 0 ≤ k) (hB : k + ((l.map List.length).sum : Nat) ≤ BM) : laws_heldIntSS (mIntSS l k).1 k = some (mIntSS l k).2 := by
  unfold laws_heldIntSS
  have hlen : (mIntSS l k).1.length = l.length := mkL_len _ _ _
  have := heldX mIntS laws_heldIntS List.length BM l k (fun n k' i => laws_heldIntSS_L2 n ((mIntSS l k).1, k', i)) 0 (fun x _ k => mIntS_far x k) h0 hB (fun x hx k' hk0 hkB => heldIntS_ok (hr x hx) hk0 hkB)
    (fun n k' i hi hk0 hkB => by
      have hi' : i < (mIntSS l k).1.length := by omega
      rw [Nat.zero_add]
      simp only [laws_heldIntSS_L2, inb_nat, gd_nat hi', w64_succ (show i < 4611686018427387904 by omega)]
      have e : (mkL mIntS l k).1[i]'(by rw [mkL_len]; exact hi) = (mIntSS l k).1[i] := rfl
      rw [e]
      simp [hlen, hi])
    (fun n k' => by rw [Nat.zero_add]; simp [laws_heldIntSS_L2, hlen]) fuel (by unfold fuel; omega)
  rw [show ((0 : Nat) : Int) = 0 from rfl] at this
  rw [this]; rfl
end T
open Go Go.Va
namespace T
theorem w1 : w64 1 = 1 := by rw [w64_def]; rfl
theorem w2 : w64 2 = 2 := by rw [w64_def]; rfl
theorem w3 : w64 3 = 3 := by rw [w64_def]; rfl
section
variable {a : Net}
end
end T
open Go Go.Va
namespace T
/- which tuples constraints ask for, at values of all variables -/
def valI (vs : List Int) (v : Int) : Int := vs.getD v.toNat 0
def conH (vs : List Int) (c : Con) : Bool := decide (c.1.map (valI vs) ∈ c.2.2)
def satB (l : List Con) (vs : List Int) : Bool := l.all (conH vs)
def insB (vars : List Int) (c : Con) : Bool := c.1.all fun v => decide (v ∈ vars)
def insL (a : Net) (vars : List Int) : List Con := a.2.2.filter (insB vars)
section
variable {a : Net}
end
end T
open Go Go.Va
namespace T
theorem gd_D {α : Type} {k : Nat} {xs : List α} {d : α} : gd xs (k : Int) d = xs.getD k d := rfl
/- tables -/
abbrev T3 := List (List (List Bool))
abbrev T4 := List (List (List (List Bool)))
def Cell4 (s : Nat) (c : List (List Bool)) : Prop := c.length = s ∧ ∀ x, x < s → (c.getD x []).length = s
def Row4 (n s : Nat) (r : T3) : Prop := r.length = n ∧ ∀ j, j < n → Cell4 s (r.getD j [])
def Ok4 (n s : Nat) (t : T4) : Prop := t.length = n ∧ ∀ i, i < n → Row4 n s (t.getD i [])
def r4 (t : T4) (i j x y : Nat) : Bool := (((t.getD i []).getD j []).getD x []).getD y false
def s4 (t : T4) (i j x y : Nat) (b : Bool) : T4 := t.set i ((t.getD i []).set j (((t.getD i []).getD j []).set x ((((t.getD i []).getD j []).getD x []).set y b)))
def Ok3 (n m : Nat) (u : T3) : Prop := u.length = n ∧ ∀ i, i < n → (u.getD i []).length = n ∧ ∀ j, j < n → ((u.getD i []).getD j []).length = m
def r3 (u : T3) (i j p : Nat) : Bool := ((u.getD i []).getD j []).getD p false
def s3 (u : T3) (i j p : Nat) (b : Bool) : T3 := u.set i ((u.getD i []).set j (((u.getD i []).getD j []).set p b))
section
variable {n s m : Nat} {t : T4} {u : T3}
theorem Ok4.at (h : Ok4 n s t) {i j x : Nat} (hi : i < n) (hj : j < n) (hx : x < s) : i < t.length ∧ j < (t.getD i []).length ∧ x < ((t.getD i []).getD j []).length ∧ (((t.getD i []).getD j []).getD x []).length = s :=
  ⟨by rw [h.1]; exact hi, by rw [(h.2 i hi).1]; exact hj, by rw [((h.2 i hi).2 j hj).1]; exact hx, ((h.2 i hi).2 j hj).2 x hx⟩
theorem Ok3.at (h : Ok3 n m u) {i j : Nat} (hi : i < n) (hj : j < n) : i < u.length ∧ j < (u.getD i []).length ∧ ((u.getD i []).getD j []).length = m :=
  ⟨by rw [h.1]; exact hi, by rw [(h.2 i hi).1]; exact hj, (h.2 i hi).2 j hj⟩
theorem s4_ok (h : Ok4 n s t) {i j x y : Nat} {b : Bool} : Ok4 n s (s4 t i j x y b) := by
  unfold s4
  refine ⟨by rw [List.length_set]; exact h.1, fun i' hi' => ?_⟩
  rw [getD_set_of]
  split
  · rename_i hc
    obtain ⟨rfl, _⟩ := hc
    have hr := h.2 i hi'
    refine ⟨by rw [List.length_set]; exact hr.1, fun j' hj' => ?_⟩
    rw [getD_set_of]
    split
    · rename_i hc
      obtain ⟨rfl, _⟩ := hc
      have hcl := hr.2 j hj'
      refine ⟨by rw [List.length_set]; exact hcl.1, fun x' hx' => ?_⟩
      rw [getD_set_of]
      split
      · rename_i hc
        obtain ⟨rfl, _⟩ := hc
        rw [List.length_set]; exact hcl.2 x hx'
      · exact hcl.2 x' hx'
    · exact hr.2 j' hj'
  · exact h.2 i' hi'
theorem s3_ok (h : Ok3 n m u) {i j p : Nat} {b : Bool} : Ok3 n m (s3 u i j p b) := by
  unfold s3
  refine ⟨by rw [List.length_set]; exact h.1, fun i' hi' => ?_⟩
  rw [getD_set_of]
  split
  · rename_i hc
    obtain ⟨rfl, _⟩ := hc
    have hr := h.2 i hi'
    refine ⟨by rw [List.length_set]; exact hr.1, fun j' hj' => ?_⟩
    rw [getD_set_of]
    split
    · rename_i hc
      obtain ⟨rfl, _⟩ := hc
      rw [List.length_set]; exact hr.2 j hj'
    · exact hr.2 j' hj'
  · exact h.2 i' hi'
theorem r4_s4 (h : Ok4 n s t) {i j x y : Nat} {b : Bool} (hi : i < n) (hj : j < n) (hx : x < s) (hy : y < s) (i' j' x' y' : Nat) :
    r4 (s4 t i j x y b) i' j' x' y' = if i = i' ∧ j = j' ∧ x = x' ∧ y = y' then b else r4 t i' j' x' y' := by
  obtain ⟨h1, h2, h3, h4⟩ := h.at hi hj hx
  unfold r4 s4
  rw [getD_set_of]
  by_cases e1 : i = i'
  · subst e1
    rw [if_pos ⟨rfl, h1⟩, getD_set_of]
    by_cases e2 : j = j'
    · subst e2
      rw [if_pos ⟨rfl, h2⟩, getD_set_of]
      by_cases e3 : x = x'
      · subst e3
        rw [if_pos ⟨rfl, h3⟩, getD_set_of]
        by_cases e4 : y = y'
        · subst e4; rw [if_pos ⟨rfl, by omega⟩, if_pos ⟨rfl, rfl, rfl, rfl⟩]
        · rw [if_neg (by omega), if_neg (by omega)]
      · rw [if_neg (by omega), if_neg (by omega)]
    · rw [if_neg (by omega), if_neg (by omega)]
  · rw [if_neg (by omega), if_neg (by omega)]
theorem r3_s3 (h : Ok3 n m u) {i j p : Nat} {b : Bool} (hi : i < n) (hj : j < n) (hp : p < m) (i' j' p' : Nat) :
    r3 (s3 u i j p b) i' j' p' = if i = i' ∧ j = j' ∧ p = p' then b else r3 u i' j' p' := by
  obtain ⟨h1, h2, h3⟩ := h.at hi hj
  unfold r3 s3
  rw [getD_set_of]
  by_cases e1 : i = i'
  · subst e1
    rw [if_pos ⟨rfl, h1⟩, getD_set_of]
    by_cases e2 : j = j'
    · subst e2
      rw [if_pos ⟨rfl, h2⟩, getD_set_of]
      by_cases e3 : p = p'
      · subst e3; rw [if_pos ⟨rfl, by omega⟩, if_pos ⟨rfl, rfl, rfl⟩]
      · rw [if_neg (by omega), if_neg (by omega)]
    · rw [if_neg (by omega), if_neg (by omega)]
  · rw [if_neg (by omega), if_neg (by omega)]
end
/-- the two tables tell the same -/
structure Rel34 (n s : Nat) (t : T4) (u : T3) : Prop where
  o4 : Ok4 n s t
  o3 : Ok3 n (s * s) u
  eq : ∀ i j x y, i < j → j < n → x < s → y < s → r4 t i j x y = r3 u i j (x * s + y) ∧ r4 t j i y x = r3 u i j (x * s + y)
theorem cell_lt {s x y : Nat} (hx : x < s) (hy : y < s) : x * s + y < s * s := by
  have : (x + 1) * s ≤ s * s := Nat.mul_le_mul_right _ hx
  rw [Nat.succ_mul] at this; omega
theorem cell_inj {s x y x' y' : Nat} (hy : y < s) (hy' : y' < s) (h : x * s + y = x' * s + y') : x = x' ∧ y = y' := by
  have h1 : (x * s + y) / s = x := by rw [Nat.mul_comm, Nat.mul_add_div (by omega), Nat.div_eq_of_lt hy]; omega
  have h2 : (x' * s + y') / s = x' := by rw [Nat.mul_comm, Nat.mul_add_div (by omega), Nat.div_eq_of_lt hy']; omega
  have : x = x' := by rw [← h1, ← h2, h]
  subst this
  exact ⟨rfl, by omega⟩
theorem Rel34.drop {n s : Nat} {t : T4} {u : T3} (h : Rel34 n s t u) {i j x y : Nat} (hij : i < j) (hj : j < n) (hx : x < s) (hy : y < s) :
    Rel34 n s (s4 (s4 t i j x y false) j i y x false) (s3 u i j (x * s + y) false) := by
  refine ⟨s4_ok (s4_ok h.o4), s3_ok h.o3, fun i' j' x' y' h1 h2 h3 h4 => ?_⟩
  have hi : i < n := by omega
  rw [r4_s4 (s4_ok h.o4) hj hi hy hx, r4_s4 h.o4 hi hj hx hy, r4_s4 (s4_ok h.o4) hj hi hy hx, r4_s4 h.o4 hi hj hx hy, r3_s3 h.o3 hi hj (cell_lt hx hy)]
  obtain ⟨e1, e2⟩ := h.eq i' j' x' y' h1 h2 h3 h4
  by_cases e : i = i' ∧ j = j' ∧ x = x' ∧ y = y'
  · obtain ⟨rfl, rfl, rfl, rfl⟩ := e
    simp
  · have e3 : ¬ (i = i' ∧ j = j' ∧ x * s + y = x' * s + y') := fun ⟨q1, q2, q3⟩ => by
      have := cell_inj hy h4 q3
      exact e ⟨q1, q2, this.1, this.2⟩
    have e4 : ¬ (j = i' ∧ i = j' ∧ y = x' ∧ x = y') := by omega
    have e5 : ¬ (i = j' ∧ j = i' ∧ x = y' ∧ y = x') := by omega
    have e6 : ¬ (j = j' ∧ i = i' ∧ y = y' ∧ x = x') := by omega
    simp only [if_neg e, if_neg e3, if_neg e4, if_neg e5, if_neg e6]
    exact ⟨e1, e2⟩
end T
open Go Go.Va
namespace T
def V3 (n i j k x y z : Nat) : List Int := (((List.replicate n (0 : Int)).set i (x : Int)).set j (y : Int)).set k (z : Int)
section
variable {a : Net} {n s : Nat} {t : T4} {u : T3}
def hP (a : Net) (n : Nat) (t : T4) (i j k x y z : Nat) : Bool := r4 t i k x z && r4 t j k y z && satB (insL a [(i : Int), (j : Int), (k : Int)]) (V3 n i j k x y z)
end
end T
open Go Go.Va
namespace T
section
variable {a : Net} {n s : Nat} {t : T4} {u : T3}
/- the program's empty table -/
def PA (n s i : Nat) (t : T4) : Prop := t.length = n ∧ ∀ i', i' < i → Row4 n s (t.getD i' [])
def PB (n s i j : Nat) (t : T4) : Prop := PA n s i t ∧ (t.getD i []).length = n ∧ ∀ j', j' < j → Cell4 s ((t.getD i []).getD j' [])
theorem PA.set {i : Nat} (h : PA n s i t) (r : T3) : PA n s i (t.set i r) := by
  refine ⟨by rw [List.length_set]; exact h.1, fun i' hi' => ?_⟩
  rw [getD_set_of, if_neg (by omega)]; exact h.2 i' hi'
theorem PB.set {i j : Nat} (h : PB n s i j t) (hi : i < n) (c : List (List Bool)) : PB n s i j (t.set i ((t.getD i []).set j c)) := by
  have hl := h.1.1
  refine ⟨h.1.set _, ?_, fun j' hj' => ?_⟩
  · rw [getD_set_of, if_pos ⟨rfl, by omega⟩, List.length_set]; exact h.2.1
  · rw [getD_set_of, if_pos ⟨rfl, by omega⟩, getD_set_of, if_neg (by omega)]; exact h.2.2 j' hj'
end
end T
set_option linter.unusedVariables false
open Go Go.Va
namespace T
def impl_freeTable_L3 : Nat → ((List Int) × Int × Int) → Option ((List Int))
  | 0, _ => none
  | n + 1, (list, t8, t9) =>
    if decide (t9 < t8) then
      if inb t9 list then
        impl_freeTable_L3 n (stt list t9 (-1), t8, w64 (t9 + 1))
      else none
    else
      some list
def impl_freeTable (many : Int) : Option ((List Int)) :=
  if 0 ≤ many ∧ many ≤ many ∧ many ≤ lim then
    (impl_freeTable_L3 fuel (List.replicate (Int.toNat many) (0 : Int), ((List.replicate (Int.toNat many) (0 : Int)).length : Int), 0)).bind fun s1 =>
      some s1
  else none
def impl_clone (list : List Int) : Option ((List Int)) :=
  if ([] : List Int).length + list.length ≤ lim then
    some ([] ++ list)
  else none
end T
open Go Go.Va
namespace T
abbrev RelT := Int × List (List Int)
section
variable {n k m : Nat} {r : RelT}
end
end T
open Go Go.Va
namespace T
section
variable {n k m : Nat} {r : RelT}
theorem range_fold {α : Type} {f : α → Nat → α} {a : α} {i : Nat} : (List.range (i + 1)).foldl f a = f ((List.range i).foldl f a) i := by rw [List.range_succ, List.foldl_append]; rfl
end
end T
open Go Go.Va
namespace T
theorem freeI_ok {N : Nat} (h : N ≤ 1000) : impl_freeTable (N : Int) = some (List.replicate N (-1)) := by
  unfold impl_freeTable
  rw [Int.toNat_natCast, if_pos (by unfold lim; omega)]
  have := forS N (fun f o i => impl_freeTable_L3 f (o, ((List.replicate N (0 : Int)).length : Int), i)) (fun j => List.replicate j (-1) ++ List.replicate (N - j) (0 : Int)) (r := some (List.replicate N (-1))) (fun f j hj => ?_) (fun f => ?_) (n := fuel) (by unfold fuel; omega)
  · have this : impl_freeTable_L3 fuel (List.replicate N (0 : Int), ((List.replicate N (0 : Int)).length : Int), 0) = _ := this
    rw [this]; rfl
  · have hin : j < (List.replicate j (-1) ++ List.replicate (N - j) (0 : Int)).length := by simp; omega
    have e : (List.replicate j (-1) ++ List.replicate (N - j) (0 : Int)).set j (-1) = List.replicate (j + 1) (-1) ++ List.replicate (N - (j + 1)) (0 : Int) := by
      rw [show N - j = (N - (j + 1)) + 1 by omega, List.replicate_succ, List.set_append_right _ _ (by simp), List.replicate_succ']
      simp
    simp only [impl_freeTable_L3, inb_nat, hin, stt_nat, e, if_true, w64_succ (show j < 4611686018427387904 by omega)]
    rw [if_pos (by simp; omega)]
  · simp only [impl_freeTable_L3]
    rw [if_neg (by simp)]; simp
end T
open Go Go.Va
namespace T
section
variable {n : Int} {rels : List RelT}
end
def posL (V : List Int) (x : Nat) : Int := match V.findIdx? (fun y => y == (x : Int)) with | some i => (i : Int) | none => -1
section
variable {n : Nat} {t : List Int}
end
section
variable {n m : Nat} {t : List Int} {r : RelT} {rels : List RelT}
end
end T
set_option linter.unusedVariables false
open Go Go.Va
namespace T
def spec_l21Inverse_L2 : Nat → (Int × Int × Int) → Option (Int)
  | 0, _ => none
  | n + 1, (p, x, y) =>
    if p ≠ 0 then
      if (Int.tmod (w64 (x * y)) p) != 1 then
        spec_l21Inverse_L2 n (p, x, w64 (y + 1))
      else
        some y
    else none
def spec_l21Inverse (p : Int) (x : Int) : Option (Int) :=
  (spec_l21Inverse_L2 fuel (p, x, 1)).bind fun s1 =>
    some s1
def spec_l21Scale_L3 : Nat → (Int × (List Int) × Int × (List Int) × Int) → Option ((List Int))
  | 0, _ => none
  | n + 1, (p, row, by_, out, i) =>
    if decide (i < (row.length : Int)) then
      if inb i row then
        if p ≠ 0 then
          if out.length + [Int.tmod (w64 ((gd row i 0) * by_)) p].length ≤ lim then
            spec_l21Scale_L3 n (p, row, by_, out ++ [Int.tmod (w64 ((gd row i 0) * by_)) p], w64 (i + 1))
          else none
        else none
      else none
    else
      some out
def spec_l21Scale (p : Int) (row : List Int) (by_ : Int) : Option ((List Int)) :=
  (spec_l21Scale_L3 fuel (p, row, by_, [], 0)).bind fun s1 =>
    some s1
def spec_l21Eliminate_L3 : Nat → (Int × Int × (List (List Int)) × ((List (List Int)) × ((List Int) × (List (List Int)))) × ((List (List Int)) × ((List Int) × (List (List Int)))) × Int) → Option (Int × Int × ((List (List Int)) × ((List Int) × (List (List Int)))) × ((List (List Int)) × ((List Int) × (List (List Int)))))
  | 0, _ => none
  | n + 1, (t0, t1, t2, t6, t7, t8) =>
    if decide (t8 < (t2.length : Int)) then
      if inb t8 t2 then
        (spec_l1Own (gd t2 t8 [])).bind fun r1 =>
          if t7.2.2.length + [r1].length ≤ lim then
            spec_l21Eliminate_L3 n (t0, t1, t2, (t6.1, (t6.2.1, t6.2.2)), (t7.1, (t7.2.1, t7.2.2 ++ [r1])), w64 (t8 + 1))
          else none
      else none
    else
      some (t0, t1, (t6.1, (t6.2.1, t6.2.2)), (t7.1, (t7.2.1, t7.2.2)))
def spec_l21Eliminate_L10 : Nat → (Int × Int × ((List (List Int)) × ((List Int) × (List (List Int)))) × ((List (List Int)) × ((List Int) × (List (List Int)))) × Int × Int) → Option (Int × Int × ((List (List Int)) × ((List Int) × (List (List Int)))) × ((List (List Int)) × ((List Int) × (List (List Int)))) × Int × Int)
  | 0, _ => none
  | n + 1, (t0, t1, t6, t7, t9, t10) =>
    if decide (t10 < (t7.2.2.length : Int)) then
      if inb t10 t7.2.2 then
        if inb t9 (gd t7.2.2 t10 []) then
          if (gd (gd t7.2.2 t10 []) t9 0) == 0 then
            spec_l21Eliminate_L10 n (t0, t1, (t6.1, (t6.2.1, t6.2.2)), (t7.1, (t7.2.1, t7.2.2)), t9, w64 (t10 + 1))
          else
            some (t0, t1, (t6.1, (t6.2.1, t6.2.2)), (t7.1, (t7.2.1, t7.2.2)), t9, t10)
        else none
      else none
    else
      some (t0, t1, (t6.1, (t6.2.1, t6.2.2)), (t7.1, (t7.2.1, t7.2.2)), t9, t10)
def spec_l21Eliminate_L16 : Nat → (Int × Int × ((List (List Int)) × ((List Int) × (List (List Int)))) × ((List (List Int)) × ((List Int) × (List (List Int)))) × Int × (List Int) × (List (List Int)) × Int) → Option (Int × Int × ((List (List Int)) × ((List Int) × (List (List Int)))) × ((List (List Int)) × ((List Int) × (List (List Int)))) × Int × (List Int) × (List (List Int)))
  | 0, _ => none
  | n + 1, (t0, t1, t6, t7, t9, t11, t12, t13) =>
    if decide (t13 < (t12.length : Int)) then
      if inb t13 t12 then
        if inb t13 t12 then
          if inb t9 (gd t12 t13 []) then
            (spec_l21Less t0 (gd t12 t13 []) t11 (gd (gd t12 t13 []) t9 0)).bind fun r6 =>
              if inb t13 t12 then
                spec_l21Eliminate_L16 n (t0, t1, (t6.1, (t6.2.1, t6.2.2)), (t7.1, (t7.2.1, t7.2.2)), t9, t11, stt t12 t13 r6, w64 (t13 + 1))
              else none
          else none
        else none
      else none
    else
      some (t0, t1, (t6.1, (t6.2.1, t6.2.2)), (t7.1, (t7.2.1, t7.2.2)), t9, t11, t12)
def spec_l21Eliminate_L20 : Nat → (Int × Int × ((List (List Int)) × ((List Int) × (List (List Int)))) × ((List (List Int)) × ((List Int) × (List (List Int)))) × Int × (List Int) × (List (List Int)) × Int) → Option (Int × Int × ((List (List Int)) × ((List Int) × (List (List Int)))) × ((List (List Int)) × ((List Int) × (List (List Int)))) × Int × (List Int) × (List (List Int)))
  | 0, _ => none
  | n + 1, (t0, t1, t6, t7, t9, t11, t12, t14) =>
    if decide (t14 < (t7.1.length : Int)) then
      if inb t14 t7.1 then
        if inb t14 t7.1 then
          if inb t9 (gd t7.1 t14 []) then
            (spec_l21Less t0 (gd t7.1 t14 []) t11 (gd (gd t7.1 t14 []) t9 0)).bind fun r8 =>
              if inb t14 t7.1 then
                spec_l21Eliminate_L20 n (t0, t1, (t6.1, (t6.2.1, t6.2.2)), (stt t7.1 t14 r8, (t7.2.1, t7.2.2)), t9, t11, t12, w64 (t14 + 1))
              else none
          else none
        else none
      else none
    else
      some (t0, t1, (t6.1, (t6.2.1, t6.2.2)), (t7.1, (t7.2.1, t7.2.2)), t9, t11, t12)
def spec_l21Eliminate_L7 : Nat → (Int × Int × ((List (List Int)) × ((List Int) × (List (List Int)))) × ((List (List Int)) × ((List Int) × (List (List Int)))) × Int) → Option (((List (List Int)) × ((List Int) × (List (List Int)))) × ((List (List Int)) × ((List Int) × (List (List Int)))))
  | 0, _ => none
  | n + 1, (t0, t1, t6, t7, t9) =>
    if decide (t9 < t1) then
      (spec_l21Eliminate_L10 fuel (t0, t1, (t6.1, (t6.2.1, t6.2.2)), (t7.1, (t7.2.1, t7.2.2)), t9, 0)).bind fun s3 =>
        if s3.2.2.2.2.2 == (s3.2.2.2.1.2.2.length : Int) then
          spec_l21Eliminate_L7 n (s3.1, s3.2.1, (s3.2.2.1.1, (s3.2.2.1.2.1, s3.2.2.1.2.2)), (s3.2.2.2.1.1, (s3.2.2.2.1.2.1, s3.2.2.2.1.2.2)), w64 (s3.2.2.2.2.1 + 1))
        else
          if inb s3.2.2.2.2.2 s3.2.2.2.1.2.2 then
            if inb s3.2.2.2.2.2 s3.2.2.2.1.2.2 then
              if inb s3.2.2.2.2.1 (gd s3.2.2.2.1.2.2 s3.2.2.2.2.2 []) then
                (spec_l21Inverse s3.1 (gd (gd s3.2.2.2.1.2.2 s3.2.2.2.2.2 []) s3.2.2.2.2.1 0)).bind fun r4 =>
                  (spec_l21Scale s3.1 (gd s3.2.2.2.1.2.2 s3.2.2.2.2.2 []) r4).bind fun r5 =>
                    if (0 : Int) ≤ 0 ∧ 0 ≤ s3.2.2.2.2.2 ∧ s3.2.2.2.2.2 ≤ (s3.2.2.2.1.2.2.length : Int) then
                      if ([] : List (List Int)).length + ((s3.2.2.2.1.2.2.take (Int.toNat s3.2.2.2.2.2)).drop (Int.toNat 0)).length ≤ lim then
                        if (0 : Int) ≤ (w64 (s3.2.2.2.2.2 + 1)) ∧ (w64 (s3.2.2.2.2.2 + 1)) ≤ (s3.2.2.2.1.2.2.length : Int) ∧ (s3.2.2.2.1.2.2.length : Int) ≤ (s3.2.2.2.1.2.2.length : Int) then
                          if ([] ++ ((s3.2.2.2.1.2.2.take (Int.toNat s3.2.2.2.2.2)).drop (Int.toNat 0))).length + ((s3.2.2.2.1.2.2.take (Int.toNat (s3.2.2.2.1.2.2.length : Int))).drop (Int.toNat (w64 (s3.2.2.2.2.2 + 1)))).length ≤ lim then
                            (spec_l21Eliminate_L16 fuel (s3.1, s3.2.1, (s3.2.2.1.1, (s3.2.2.1.2.1, s3.2.2.1.2.2)), (s3.2.2.2.1.1, (s3.2.2.2.1.2.1, s3.2.2.2.1.2.2)), s3.2.2.2.2.1, r5, ([] ++ ((s3.2.2.2.1.2.2.take (Int.toNat s3.2.2.2.2.2)).drop (Int.toNat 0))) ++ ((s3.2.2.2.1.2.2.take (Int.toNat (s3.2.2.2.1.2.2.length : Int))).drop (Int.toNat (w64 (s3.2.2.2.2.2 + 1)))), 0)).bind fun s6 =>
                              (spec_l21Eliminate_L20 fuel (s6.1, s6.2.1, (s6.2.2.1.1, (s6.2.2.1.2.1, s6.2.2.1.2.2)), (s6.2.2.2.1.1, (s6.2.2.2.1.2.1, s6.2.2.2.1.2.2)), s6.2.2.2.2.1, s6.2.2.2.2.2.1, s6.2.2.2.2.2.2, 0)).bind fun s7 =>
                                if s7.2.2.2.1.1.length + [s7.2.2.2.2.2.1].length ≤ lim then
                                  if s7.2.2.2.1.2.1.length + [s7.2.2.2.2.1].length ≤ lim then
                                    spec_l21Eliminate_L7 n (s7.1, s7.2.1, (s7.2.2.1.1, (s7.2.2.1.2.1, s7.2.2.1.2.2)), (s7.2.2.2.1.1 ++ [s7.2.2.2.2.2.1], (s7.2.2.2.1.2.1 ++ [s7.2.2.2.2.1], s7.2.2.2.2.2.2)), w64 (s7.2.2.2.2.1 + 1))
                                  else none
                                else none
                          else none
                        else none
                      else none
                    else none
              else none
            else none
          else none
    else
      some ((t6.1, (t6.2.1, t6.2.2)), (t7.1, (t7.2.1, t7.2.2)))
def spec_l21Eliminate (t0 : Int) (t1 : Int) (t2 : List (List Int)) : Option (((List (List Int)) × ((List Int) × (List (List Int))))) :=
  (spec_l21Eliminate_L3 fuel (t0, t1, t2, ([], ([], [])), ([], ([], [])), 0)).bind fun s1 =>
    (spec_l21Eliminate_L7 fuel (s1.1, s1.2.1, (s1.2.2.1.1, (s1.2.2.1.2.1, s1.2.2.1.2.2)), (s1.2.2.2.1, (s1.2.2.2.2.1, s1.2.2.2.2.2)), 0)).bind fun s2 =>
      some (s2.2.1, (s2.2.2.1, s2.2.2.2))
def impl_cloneRows_L3 : Nat → ((List (List Int)) × (List (List Int)) × Int × Int) → Option ((List (List Int)))
  | 0, _ => none
  | n + 1, (list, t7, t8, t9) =>
    if decide (t9 < t8) then
      if inb t9 t7 then
        (impl_clone (gd t7 t9 [])).bind fun r1 =>
          if list.length + [r1].length ≤ lim then
            impl_cloneRows_L3 n (list ++ [r1], t7, t8, w64 (t9 + 1))
          else none
      else none
    else
      some list
def impl_cloneRows (rows : List (List Int)) : Option ((List (List Int))) :=
  (impl_cloneRows_L3 fuel ([], rows, (rows.length : Int), 0)).bind fun s1 =>
    some s1
def impl_inverseOf_L2 : Nat → (Int × Int × Int) → Option ((Unit) ⊕ (Int))
  | 0, _ => none
  | n + 1, (x, p, y) =>
    if decide (y < p) then
      if p ≠ 0 then
        if (Int.tmod (w64 (x * y)) p) == 1 then
          some (.inr y)
        else
          impl_inverseOf_L2 n (x, p, w64 (y + 1))
      else none
    else
      some (.inl ())
def impl_inverseOf (x : Int) (p : Int) : Option (Int) :=
  (impl_inverseOf_L2 fuel (x, p, 1)).bind fun s1 =>
    match s1 with
    | .inl s2 =>
      some 0
    | .inr s3 =>
      some s3
def impl_eliminate_L6 : Nat → (Int × Int × (Int × (Int × ((List (List Int)) × (Int × (List Int))))) × Int × Int) → Option (Int × Int × (Int × (Int × ((List (List Int)) × (Int × (List Int))))) × Int × Int)
  | 0, _ => none
  | n + 1, (t0, t1, t7, t8, t9) =>
    if decide (t9 < (t7.2.2.1.length : Int)) then
      if inb t9 t7.2.2.1 then
        if inb t8 (gd t7.2.2.1 t9 []) then
          if (gd (gd t7.2.2.1 t9 []) t8 0) == 0 then
            impl_eliminate_L6 n (t0, t1, (t7.1, (t7.2.1, (t7.2.2.1, (t7.2.2.2.1, t7.2.2.2.2)))), t8, w64 (t9 + 1))
          else
            some (t0, t1, (t7.1, (t7.2.1, (t7.2.2.1, (t7.2.2.2.1, t7.2.2.2.2)))), t8, t9)
        else none
      else none
    else
      some (t0, t1, (t7.1, (t7.2.1, (t7.2.2.1, (t7.2.2.2.1, t7.2.2.2.2)))), t8, t9)
def impl_eliminate_L14 : Nat → (Int × Int × Int × (Int × (Int × ((List (List Int)) × (Int × (List Int))))) × Int × Int × Int × Int) → Option (Int × Int × Int × (Int × (Int × ((List (List Int)) × (Int × (List Int))))) × Int)
  | 0, _ => none
  | n + 1, (row10, t0, t1, t7, t8, t11, t110, t111) =>
    if decide (t111 < t110) then
      if inb t111 (gd t7.2.2.1 row10 []) then
        if t0 ≠ 0 then
          if inb t111 (gd t7.2.2.1 row10 []) then
            impl_eliminate_L14 n (row10, t0, t1, (t7.1, (t7.2.1, (stt t7.2.2.1 row10 (stt (gd t7.2.2.1 row10 []) t111 (Int.tmod (w64 ((gd (gd t7.2.2.1 row10 []) t111 0) * t11)) t0)), (t7.2.2.2.1, t7.2.2.2.2)))), t8, t11, t110, w64 (t111 + 1))
          else none
        else none
      else none
    else
      some (row10, t0, t1, (t7.1, (t7.2.1, (t7.2.2.1, (t7.2.2.2.1, t7.2.2.2.2)))), t8)
def impl_eliminate_L24 : Nat → (Int × Int × Unit × Int × Int × (Int × (Int × ((List (List Int)) × (Int × (List Int))))) × Int × Int × Int × Int × Int × Int) → Option (Int × Unit × Int × Int × (Int × (Int × ((List (List Int)) × (Int × (List Int))))) × Int × Int × Int)
  | 0, _ => none
  | n + 1, (row10, row14, al129, t0, t1, t7, t8, t15, t130, t131, t151, t152) =>
    if decide (t152 < t151) then
      if inb t152 (gd t7.2.2.1 row14 []) then
        if inb t152 (gd t7.2.2.1 row10 []) then
          if t0 ≠ 0 then
            if inb t152 (gd t7.2.2.1 row14 []) then
              impl_eliminate_L24 n (row10, row14, (), t0, t1, (t7.1, (t7.2.1, (stt t7.2.2.1 row14 (stt (gd t7.2.2.1 row14 []) t152 (Int.tmod (w64 ((gd (gd t7.2.2.1 row14 []) t152 0) + (w64 ((w64 (t0 - t15)) * (gd (gd t7.2.2.1 row10 []) t152 0))))) t0)), (t7.2.2.2.1, t7.2.2.2.2)))), t8, t15, t130, t131, t151, w64 (t152 + 1))
            else none
          else none
        else none
      else none
    else
      some (row10, (), t0, t1, (t7.1, (t7.2.1, (t7.2.2.1, (t7.2.2.2.1, t7.2.2.2.2)))), t8, t130, t131)
def impl_eliminate_L19 : Nat → (Int × Unit × Int × Int × (Int × (Int × ((List (List Int)) × (Int × (List Int))))) × Int × Int × Int) → Option (Int × Int × (Int × (Int × ((List (List Int)) × (Int × (List Int))))) × Int)
  | 0, _ => none
  | n + 1, (row10, al129, t0, t1, t7, t8, t130, t131) =>
    if decide (t131 < t130) then
      if inb t131 t7.2.2.1 then
        if inb t8 (gd t7.2.2.1 t131 []) then
          if t131 != t7.2.2.2.1 then
            if (gd (gd t7.2.2.1 t131 []) t8 0) != 0 then
              (impl_eliminate_L24 fuel (row10, t131, (), t0, t1, (t7.1, (t7.2.1, (t7.2.2.1, (t7.2.2.2.1, t7.2.2.2.2)))), t8, gd (gd t7.2.2.1 t131 []) t8 0, t130, t131, ((gd t7.2.2.1 t131 []).length : Int), 0)).bind fun s6 =>
                impl_eliminate_L19 n (s6.1, (), s6.2.2.1, s6.2.2.2.1, (s6.2.2.2.2.1.1, (s6.2.2.2.2.1.2.1, (s6.2.2.2.2.1.2.2.1, (s6.2.2.2.2.1.2.2.2.1, s6.2.2.2.2.1.2.2.2.2)))), s6.2.2.2.2.2.1, s6.2.2.2.2.2.2.1, w64 (s6.2.2.2.2.2.2.2 + 1))
            else
              impl_eliminate_L19 n (row10, (), t0, t1, (t7.1, (t7.2.1, (t7.2.2.1, (t7.2.2.2.1, t7.2.2.2.2)))), t8, t130, w64 (t131 + 1))
          else
            impl_eliminate_L19 n (row10, (), t0, t1, (t7.1, (t7.2.1, (t7.2.2.1, (t7.2.2.2.1, t7.2.2.2.2)))), t8, t130, w64 (t131 + 1))
        else none
      else none
    else
      some (t0, t1, (t7.1, (t7.2.1, (t7.2.2.1, (t7.2.2.2.1, t7.2.2.2.2)))), t8)
def impl_eliminate_L3 : Nat → (Int × Int × (Int × (Int × ((List (List Int)) × (Int × (List Int))))) × Int) → Option ((Int × (Int × ((List (List Int)) × (Int × (List Int))))))
  | 0, _ => none
  | n + 1, (t0, t1, t7, t8) =>
    if decide (t8 < t1) then
      (impl_eliminate_L6 fuel (t0, t1, (t7.1, (t7.2.1, (t7.2.2.1, (t7.2.2.2.1, t7.2.2.2.2)))), t8, t7.2.2.2.1)).bind fun s3 =>
        if s3.2.2.2.2 == (s3.2.2.1.2.2.1.length : Int) then
          impl_eliminate_L3 n (s3.1, s3.2.1, (s3.2.2.1.1, (s3.2.2.1.2.1, (s3.2.2.1.2.2.1, (s3.2.2.1.2.2.2.1, s3.2.2.1.2.2.2.2)))), w64 (s3.2.2.2.1 + 1))
        else
          if inb s3.2.2.2.2 s3.2.2.1.2.2.1 then
            if (0 : Int) ≤ (w64 (s3.2.2.1.2.2.2.1 + 1)) ∧ (w64 (s3.2.2.1.2.2.2.1 + 1)) ≤ (w64 (s3.2.2.2.2 + 1)) ∧ (w64 (s3.2.2.2.2 + 1)) ≤ (s3.2.2.1.2.2.1.length : Int) then
              if (0 : Int) ≤ s3.2.2.1.2.2.2.1 ∧ s3.2.2.1.2.2.2.1 ≤ s3.2.2.2.2 ∧ s3.2.2.2.2 ≤ (s3.2.2.1.2.2.1.length : Int) then
                if (w64 (s3.2.2.1.2.2.2.1 + 1)) = s3.2.2.1.2.2.2.1 + 1 ∧ (w64 (s3.2.2.2.2 + 1)) = s3.2.2.2.2 + 1 ∧ s3.2.2.2.2 = s3.2.2.2.2 then
                  if inb s3.2.2.1.2.2.2.1 (upL s3.2.2.1.2.2.1 (Int.toNat s3.2.2.1.2.2.2.1) (Int.toNat s3.2.2.2.2) []) then
                    if s3.2.2.1.2.2.2.1 = s3.2.2.1.2.2.2.1 then
                      if inb s3.2.2.2.1 (gd (stt (upL s3.2.2.1.2.2.1 (Int.toNat s3.2.2.1.2.2.2.1) (Int.toNat s3.2.2.2.2) []) s3.2.2.1.2.2.2.1 (gd s3.2.2.1.2.2.1 s3.2.2.2.2 [])) s3.2.2.1.2.2.2.1 []) then
                        (impl_inverseOf (gd (gd (stt (upL s3.2.2.1.2.2.1 (Int.toNat s3.2.2.1.2.2.2.1) (Int.toNat s3.2.2.2.2) []) s3.2.2.1.2.2.2.1 (gd s3.2.2.1.2.2.1 s3.2.2.2.2 [])) s3.2.2.1.2.2.2.1 []) s3.2.2.2.1 0) s3.1).bind fun r4 =>
                          (impl_eliminate_L14 fuel (s3.2.2.1.2.2.2.1, s3.1, s3.2.1, (s3.2.2.1.1, (s3.2.2.1.2.1, (stt (upL s3.2.2.1.2.2.1 (Int.toNat s3.2.2.1.2.2.2.1) (Int.toNat s3.2.2.2.2) []) s3.2.2.1.2.2.2.1 (gd s3.2.2.1.2.2.1 s3.2.2.2.2 []), (s3.2.2.1.2.2.2.1, s3.2.2.1.2.2.2.2)))), s3.2.2.2.1, r4, ((gd (stt (upL s3.2.2.1.2.2.1 (Int.toNat s3.2.2.1.2.2.2.1) (Int.toNat s3.2.2.2.2) []) s3.2.2.1.2.2.2.1 (gd s3.2.2.1.2.2.1 s3.2.2.2.2 [])) s3.2.2.1.2.2.2.1 []).length : Int), 0)).bind fun s5 =>
                            (impl_eliminate_L19 fuel (s5.1, (), s5.2.1, s5.2.2.1, (s5.2.2.2.1.1, (s5.2.2.2.1.2.1, (s5.2.2.2.1.2.2.1, (s5.2.2.2.1.2.2.2.1, s5.2.2.2.1.2.2.2.2)))), s5.2.2.2.2, (s5.2.2.2.1.2.2.1.length : Int), 0)).bind fun s6 =>
                              if inb s6.2.2.2 s6.2.2.1.2.2.2.2 then
                                impl_eliminate_L3 n (s6.1, s6.2.1, (s6.2.2.1.1, (s6.2.2.1.2.1, (s6.2.2.1.2.2.1, (w64 (s6.2.2.1.2.2.2.1 + 1), stt s6.2.2.1.2.2.2.2 s6.2.2.2 s6.2.2.1.2.2.2.1)))), w64 (s6.2.2.2 + 1))
                              else none
                      else none
                    else none
                  else none
                else none
              else none
            else none
          else none
    else
      some (t7.1, (t7.2.1, (t7.2.2.1, (t7.2.2.2.1, t7.2.2.2.2))))
def impl_eliminate (t0 : Int) (t1 : Int) (t2 : List (List Int)) : Option ((Bool × Int × Int × (List (List Int)) × Int × (List Int))) :=
  (impl_cloneRows t2).bind fun r1 =>
    (impl_freeTable t1).bind fun r2 =>
      (impl_eliminate_L3 fuel (t0, t1, (t0, (t1, (r1, (0, r2)))), 0)).bind fun s3 =>
        some (true, (s3.1, (s3.2.1, (s3.2.2.1, (s3.2.2.2.1, s3.2.2.2.2)))))
def impl_eliminated_freeVars_L3 : Nat → (Unit × (Int × (Int × ((List (List Int)) × (Int × (List Int))))) × (List Int) × Int × Int) → Option ((Int × (Int × ((List (List Int)) × (Int × (List Int))))) × (List Int))
  | 0, _ => none
  | n + 1, (al10, e, list, t11, t12) =>
    if decide (t12 < t11) then
      if inb t12 e.2.2.2.2 then
        if decide ((gd e.2.2.2.2 t12 0) < 0) then
          if list.length + [t12].length ≤ lim then
            impl_eliminated_freeVars_L3 n ((), (e.1, (e.2.1, (e.2.2.1, (e.2.2.2.1, e.2.2.2.2)))), list ++ [t12], t11, w64 (t12 + 1))
          else none
        else
          impl_eliminated_freeVars_L3 n ((), (e.1, (e.2.1, (e.2.2.1, (e.2.2.2.1, e.2.2.2.2)))), list, t11, w64 (t12 + 1))
      else none
    else
      some ((e.1, (e.2.1, (e.2.2.1, (e.2.2.2.1, e.2.2.2.2)))), list)
def impl_eliminated_freeVars (e : Int × (Int × ((List (List Int)) × (Int × (List Int))))) : Option ((Int × (Int × ((List (List Int)) × (Int × (List Int))))) × (List Int)) :=
  (impl_eliminated_freeVars_L3 fuel ((), (e.1, (e.2.1, (e.2.2.1, (e.2.2.2.1, e.2.2.2.2)))), [], (e.2.2.2.2.length : Int), 0)).bind fun s1 =>
    some ((s1.1.1, (s1.1.2.1, (s1.1.2.2.1, (s1.1.2.2.2.1, s1.1.2.2.2.2)))), s1.2)
def spec_l21Free_L3 : Nat → (Int × ((List (List Int)) × (List Int) × (List (List Int))) × (List Int) × Int) → Option ((List Int))
  | 0, _ => none
  | n + 1, (vars, w, out, v) =>
    if decide (v < vars) then
      (spec_l1Has w.2.1 v).bind fun r1 =>
        if !r1 then
          if out.length + [v].length ≤ lim then
            spec_l21Free_L3 n (vars, (w.1, (w.2.1, w.2.2)), out ++ [v], w64 (v + 1))
          else none
        else
          spec_l21Free_L3 n (vars, (w.1, (w.2.1, w.2.2)), out, w64 (v + 1))
    else
      some out
def spec_l21Free (w : (List (List Int)) × (List Int) × (List (List Int))) (vars : Int) : Option ((List Int)) :=
  (spec_l21Free_L3 fuel (vars, (w.1, (w.2.1, w.2.2)), [], 0)).bind fun s1 =>
    some s1
def laws_markLinear (a : Int × (Int × (List (List Int)))) (k : Int) : Option ((Unit × (Unit × (List (List Int)))) × Int) :=
  (laws_markIntSS a.2.2 k).bind fun r1 =>
    some (((), ((), r1.1)), r1.2)
def impl_eliminated_solution_L4 : Nat → (Unit × (Int × (Int × ((List (List Int)) × (Int × (List Int))))) × (List Int) × (List Int) × (List Int) × Int × Int) → Option ((Int × (Int × ((List (List Int)) × (Int × (List Int))))) × (List Int) × (List Int) × (List Int))
  | 0, _ => none
  | n + 1, (al21, t0, t1, t5, t6, t22, t23) =>
    if decide (t23 < t22) then
      if inb t23 t6 then
        if inb t23 t1 then
          if inb (gd t6 t23 0) t5 then
            impl_eliminated_solution_L4 n ((), (t0.1, (t0.2.1, (t0.2.2.1, (t0.2.2.2.1, t0.2.2.2.2)))), t1, stt t5 (gd t6 t23 0) (gd t1 t23 0), t6, t22, w64 (t23 + 1))
          else none
        else none
      else none
    else
      some ((t0.1, (t0.2.1, (t0.2.2.1, (t0.2.2.2.1, t0.2.2.2.2)))), t1, t5, t6)
def impl_eliminated_solution_L14 : Nat → (Unit × Unit × (Int × (Int × ((List (List Int)) × (Int × (List Int))))) × (List Int) × (List Int) × (List Int) × Int × Int × Int × Int × Int × Int × Int) → Option (Unit × (Int × (Int × ((List (List Int)) × (Int × (List Int))))) × (List Int) × (List Int) × (List Int) × Int × Int × Int × Int)
  | 0, _ => none
  | n + 1, (al39, al61, t0, t1, t5, t6, t9, t10, t11, t40, t41, t62, t63) =>
    if decide (t63 < t62) then
      if inb t63 t6 then
        if inb t10 t0.2.2.1 then
          if inb (gd t6 t63 0) (gd t0.2.2.1 t10 []) then
            if inb t63 t1 then
              impl_eliminated_solution_L14 n ((), (), (t0.1, (t0.2.1, (t0.2.2.1, (t0.2.2.2.1, t0.2.2.2.2)))), t1, t5, t6, t9, t10, w64 (t11 + (w64 ((w64 (t0.1 - (gd (gd t0.2.2.1 t10 []) (gd t6 t63 0) 0))) * (gd t1 t63 0)))), t40, t41, t62, w64 (t63 + 1))
            else none
          else none
        else none
      else none
    else
      some ((), (t0.1, (t0.2.1, (t0.2.2.1, (t0.2.2.2.1, t0.2.2.2.2)))), t1, t5, t6, t9, t11, t40, t41)
def impl_eliminated_solution_L9 : Nat → (Unit × (Int × (Int × ((List (List Int)) × (Int × (List Int))))) × (List Int) × (List Int) × (List Int) × Int × Int) → Option ((Int × (Int × ((List (List Int)) × (Int × (List Int))))) × (List Int))
  | 0, _ => none
  | n + 1, (al39, t0, t1, t5, t6, t40, t41) =>
    if decide (t41 < t40) then
      if inb t41 t0.2.2.2.2 then
        if decide ((gd t0.2.2.2.2 t41 0) < 0) then
          impl_eliminated_solution_L9 n ((), (t0.1, (t0.2.1, (t0.2.2.1, (t0.2.2.2.1, t0.2.2.2.2)))), t1, t5, t6, t40, w64 (t41 + 1))
        else
          if inb (gd t0.2.2.2.2 t41 0) t0.2.2.1 then
            if inb t0.2.1 (gd t0.2.2.1 (gd t0.2.2.2.2 t41 0) []) then
              (impl_eliminated_solution_L14 fuel ((), (), (t0.1, (t0.2.1, (t0.2.2.1, (t0.2.2.2.1, t0.2.2.2.2)))), t1, t5, t6, t41, gd t0.2.2.2.2 t41 0, gd (gd t0.2.2.1 (gd t0.2.2.2.2 t41 0) []) t0.2.1 0, t40, t41, (t6.length : Int), 0)).bind fun s3 =>
                if s3.2.1.1 ≠ 0 then
                  if inb s3.2.2.2.2.2.1 s3.2.2.2.1 then
                    impl_eliminated_solution_L9 n ((), (s3.2.1.1, (s3.2.1.2.1, (s3.2.1.2.2.1, (s3.2.1.2.2.2.1, s3.2.1.2.2.2.2)))), s3.2.2.1, stt s3.2.2.2.1 s3.2.2.2.2.2.1 (Int.tmod s3.2.2.2.2.2.2.1 s3.2.1.1), s3.2.2.2.2.1, s3.2.2.2.2.2.2.2.1, w64 (s3.2.2.2.2.2.2.2.2 + 1))
                  else none
                else none
            else none
          else none
      else none
    else
      some ((t0.1, (t0.2.1, (t0.2.2.1, (t0.2.2.2.1, t0.2.2.2.2)))), t5)
def impl_eliminated_solution (t0 : Int × (Int × ((List (List Int)) × (Int × (List Int))))) (t1 : List Int) : Option ((Int × (Int × ((List (List Int)) × (Int × (List Int))))) × (List Int)) :=
  if 0 ≤ t0.2.1 ∧ t0.2.1 ≤ t0.2.1 ∧ t0.2.1 ≤ lim then
    (impl_eliminated_freeVars (t0.1, (t0.2.1, (t0.2.2.1, (t0.2.2.2.1, t0.2.2.2.2))))).bind fun r1 =>
      (impl_eliminated_solution_L4 fuel ((), (r1.1.1, (r1.1.2.1, (r1.1.2.2.1, (r1.1.2.2.2.1, r1.1.2.2.2.2)))), t1, List.replicate (Int.toNat t0.2.1) (0 : Int), r1.2, (r1.2.length : Int), 0)).bind fun s2 =>
        (impl_eliminated_solution_L9 fuel ((), (s2.1.1, (s2.1.2.1, (s2.1.2.2.1, (s2.1.2.2.2.1, s2.1.2.2.2.2)))), s2.2.1, s2.2.2.1, s2.2.2.2, (s2.1.2.2.2.2.length : Int), 0)).bind fun s3 =>
          some ((s3.1.1, (s3.1.2.1, (s3.1.2.2.1, (s3.1.2.2.2.1, s3.1.2.2.2.2)))), s3.2)
  else none
end T
open Go Go.Va
namespace T
/- lists that are turned place by place -/
def mix {α : Type} (nw old : Nat → α) (N i : Nat) : List α := (List.range N).map fun q => if q < i then nw q else old q
section
variable {α : Type} {nw old : Nat → α} {N i : Nat}
theorem mix_len : (mix nw old N i).length = N := by simp [mix]
theorem mix_get {q : Nat} {d : α} (h : q < N) : (mix nw old N i).getD q d = if q < i then nw q else old q := by
  rw [getD_of (by rw [mix_len]; exact h)]; simp [mix]
theorem mix_set (h : i < N) : (mix nw old N i).set i (nw i) = mix nw old N (i + 1) := by
  unfold mix
  apply List.ext_getElem
  · simp
  · intro q h1 h2
    rw [List.getElem_set]
    simp only [List.getElem_map, List.getElem_range]
    by_cases e : i = q
    · subst e; rw [if_pos rfl, if_pos (by omega)]
    · rw [if_neg e]
      by_cases e2 : q < i
      · rw [if_pos e2, if_pos (by omega)]
      · rw [if_neg e2, if_neg (by omega)]
theorem mix_same (h : i < N) (he : nw i = old i) : mix nw old N (i + 1) = mix nw old N i := by
  unfold mix
  refine List.map_congr_left fun q hq => ?_
  by_cases e : q = i
  · subst e; rw [if_pos (by omega), if_neg (by omega), he]
  · by_cases e2 : q < i
    · rw [if_pos e2, if_pos (by omega)]
    · rw [if_neg e2, if_neg (by omega)]
theorem mix_zero {l : List α} {d : α} (h : l.length = N) : mix nw (fun q => l.getD q d) N 0 = l := by
  apply List.ext_getElem
  · rw [mix_len, h]
  · intro q h1 h2
    simp only [mix, List.getElem_map, List.getElem_range]
    rw [if_neg (by omega), getD_of h2]
theorem mix_full : mix nw old N N = (List.range N).map nw := by
  unfold mix
  refine List.map_congr_left fun q hq => ?_
  rw [if_pos (List.mem_range.1 hq)]
end
def pr4 (p : Int) : Prop := p = 2 ∨ p = 3 ∨ p = 5 ∨ p = 7
def okRow (p : Int) (W : Nat) (r : List Int) : Prop := r.length = W ∧ ∀ x ∈ r, 0 ≤ x ∧ x < p
def invP (p x : Int) : Int := (impl_inverseOf x p).getD 0
theorem inv_tab : ∀ p : Fin 8, ∀ x : Fin 8, (p.val = 2 ∨ p.val = 3 ∨ p.val = 5 ∨ p.val = 7) → 0 < x.val → x.val < p.val →
    impl_inverseOf (x.val : Int) (p.val : Int) = some (invP (p.val : Int) (x.val : Int)) ∧ spec_l21Inverse (p.val : Int) (x.val : Int) = some (invP (p.val : Int) (x.val : Int)) ∧ 1 ≤ invP (p.val : Int) (x.val : Int) ∧ invP (p.val : Int) (x.val : Int) < (p.val : Int) := by decide +kernel
theorem inv_ok {p x : Int} (hp : pr4 p) (h0 : 0 < x) (h1 : x < p) : impl_inverseOf x p = some (invP p x) ∧ spec_l21Inverse p x = some (invP p x) ∧ 1 ≤ invP p x ∧ invP p x < p := by
  unfold pr4 at hp
  have := inv_tab ⟨p.toNat, by omega⟩ ⟨x.toNat, by omega⟩ (by simp; omega) (by simp; omega) (by simp; omega)
  simp only [Int.toNat_of_nonneg (show 0 ≤ p by omega), Int.toNat_of_nonneg (show 0 ≤ x by omega)] at this
  exact this
def scaleR (p b : Int) (r : List Int) : List Int := (List.range r.length).map fun i => Int.tmod (r.getD i 0 * b) p
def lessR (p : Int) (row : List Int) (v : Nat) (r : List Int) : List Int := (List.range r.length).map fun i => Int.tmod (r.getD i 0 + (p - r.getD v 0) * row.getD i 0) p
section
variable {p : Int} {W : Nat} {r row : List Int}
theorem ok_get (h : okRow p W r) {i : Nat} (hi : i < W) : 0 ≤ r.getD i 0 ∧ r.getD i 0 < p := by
  have : i < r.length := by rw [h.1]; exact hi
  rw [getD_of this]; exact h.2 _ (List.getElem_mem this)
theorem mod_in (hp : pr4 p) {x : Int} (h : 0 ≤ x) : 0 ≤ Int.tmod x p ∧ Int.tmod x p < p := by
  unfold pr4 at hp
  rw [Int.tmod_eq_emod_of_nonneg h]
  exact ⟨Int.emod_nonneg _ (by omega), Int.emod_lt_of_pos _ (by omega)⟩
theorem prod_le {a b : Int} (h0 : 0 ≤ a) (h1 : a ≤ 8) (g0 : 0 ≤ b) (g1 : b ≤ 8) : 0 ≤ a * b ∧ a * b ≤ 64 := by
  have h2 := Int.mul_nonneg h0 g0
  have h3 := Int.mul_le_mul h1 g1 g0 (by omega)
  exact ⟨h2, by omega⟩
theorem scale_ok (hp : pr4 p) (h : okRow p W r) {b : Int} (hb : 0 ≤ b ∧ b < p) : okRow p W (scaleR p b r) := by
  refine ⟨by unfold scaleR; simp; exact h.1, fun x hx => ?_⟩
  unfold scaleR at hx
  obtain ⟨i, hi, rfl⟩ := List.mem_map.1 hx
  have hi := List.mem_range.1 hi
  have := ok_get h (i := i) (by rw [← h.1]; exact hi)
  exact mod_in hp (Int.mul_nonneg this.1 hb.1)
theorem less_ok (hp : pr4 p) (h : okRow p W r) (hr : okRow p W row) {v : Nat} (hv : v < W) : okRow p W (lessR p row v r) := by
  refine ⟨by unfold lessR; simp; exact h.1, fun x hx => ?_⟩
  unfold lessR at hx
  obtain ⟨i, hi, rfl⟩ := List.mem_map.1 hx
  have hi := List.mem_range.1 hi
  have h1 := ok_get h (i := i) (by rw [← h.1]; exact hi)
  have h2 := ok_get hr (i := i) (by rw [← h.1]; exact hi)
  have h3 := ok_get h hv
  exact mod_in hp (by have := Int.mul_nonneg (show 0 ≤ p - r.getD v 0 by omega) h2.1; omega)
theorem less_zero (hp : pr4 p) (h : okRow p W r) (hr : okRow p W row) {v : Nat} (h0 : r.getD v 0 = 0) : lessR p row v r = r := by
  unfold lessR
  apply List.ext_getElem
  · simp
  · intro i h1 h2
    simp only [List.getElem_map, List.getElem_range]
    have g := h.2 _ (List.getElem_mem h2)
    have g2 := ok_get hr (i := i) (by rw [← h.1]; exact h2)
    rw [h0, Int.sub_zero, getD_of h2]
    have hnn := Int.mul_nonneg (show 0 ≤ p by unfold pr4 at hp; omega) g2.1
    rw [Int.tmod_eq_emod_of_nonneg (by omega), Int.add_mul_emod_self_left]
    exact Int.emod_eq_of_lt g.1 g.2
theorem w64_small {x : Int} (h0 : -1000000 ≤ x) (h1 : x ≤ 1000000) : w64 x = x := w64_id (by omega) (by omega)
theorem less_w (hp : pr4 p) (h : okRow p W r) (hr : okRow p W row) {v i : Nat} (hv : v < W) (hi : i < W) :
    Int.tmod (w64 (r.getD i 0 + w64 (w64 (p - r.getD v 0) * row.getD i 0))) p = Int.tmod (r.getD i 0 + (p - r.getD v 0) * row.getD i 0) p := by
  have h1 := ok_get h hi
  have h2 := ok_get hr hi
  have h3 := ok_get h hv
  unfold pr4 at hp
  have h4 := prod_le (a := p - r.getD v 0) (b := row.getD i 0) (by omega) (by omega) (by omega) (by omega)
  rw [w64_small (x := p - r.getD v 0) (by omega) (by omega), w64_small (x := (p - r.getD v 0) * row.getD i 0) (by omega) (by omega), w64_small (by omega) (by omega)]
theorem spec_less_ok (hp : pr4 p) (hW : W ≤ 1000) (h : okRow p W r) (hr : okRow p W row) {v : Nat} (hv : v < W) : spec_l21Less p r row (r.getD v 0) = some (lessR p row v r) := by
  unfold spec_l21Less
  have hlr := h.1
  have hlo := hr.1
  have hp0 : p ≠ 0 := by unfold pr4 at hp; omega
  have := forS r.length (fun f o i => spec_l21Less_L3 f (p, r, row, r.getD v 0, o, i)) (fun j => (List.range j).map fun i => Int.tmod (r.getD i 0 + (p - r.getD v 0) * row.getD i 0) p) (r := some (lessR p row v r)) (fun f j hj => ?_) (fun f => ?_) (n := fuel) (by unfold fuel; omega)
  · have this : spec_l21Less_L3 fuel (p, r, row, r.getD v 0, [], 0) = _ := this
    rw [this]; rfl
  · have e : (List.range (j + 1)).map (fun i => Int.tmod (r.getD i 0 + (p - r.getD v 0) * row.getD i 0) p) = (List.range j).map (fun i => Int.tmod (r.getD i 0 + (p - r.getD v 0) * row.getD i 0) p) ++ [Int.tmod (r.getD j 0 + (p - r.getD v 0) * row.getD j 0) p] := by rw [List.range_succ, List.map_append]; rfl
    have hjo : j < row.length := by omega
    simp only [spec_l21Less_L3, inb_nat, hj, hjo, gd_D, less_w hp h hr hv (show j < W by omega), e, if_true, w64_succ (show j < 4611686018427387904 by omega)]
    rw [if_pos (by simp; omega), if_pos hp0, if_pos (by simp; unfold lim; omega)]
  · simp only [spec_l21Less_L3]
    rw [if_neg (by simp)]; rfl
theorem spec_scale_ok (hp : pr4 p) (hW : W ≤ 1000) (h : okRow p W r) {b : Int} (hb : 0 ≤ b ∧ b < p) : spec_l21Scale p r b = some (scaleR p b r) := by
  unfold spec_l21Scale
  have hlr := h.1
  have hp0 : p ≠ 0 := by unfold pr4 at hp; omega
  have := forS r.length (fun f o i => spec_l21Scale_L3 f (p, r, b, o, i)) (fun j => (List.range j).map fun i => Int.tmod (r.getD i 0 * b) p) (r := some (scaleR p b r)) (fun f j hj => ?_) (fun f => ?_) (n := fuel) (by unfold fuel; omega)
  · have this : spec_l21Scale_L3 fuel (p, r, b, [], 0) = _ := this
    rw [this]; rfl
  · have e : (List.range (j + 1)).map (fun i => Int.tmod (r.getD i 0 * b) p) = (List.range j).map (fun i => Int.tmod (r.getD i 0 * b) p) ++ [Int.tmod (r.getD j 0 * b) p] := by rw [List.range_succ, List.map_append]; rfl
    have h1 := ok_get h (i := j) (by omega)
    unfold pr4 at hp
    have h4 := prod_le (a := r.getD j 0) (b := b) (by omega) (by omega) (by omega) (by omega)
    simp only [spec_l21Scale_L3, inb_nat, hj, gd_D, w64_small (x := r.getD j 0 * b) (by omega) (by omega), e, if_true, w64_succ (show j < 4611686018427387904 by omega)]
    rw [if_pos (by simp; omega), if_pos hp0, if_pos (by simp; unfold lim; omega)]
  · simp only [spec_l21Scale_L3]
    rw [if_neg (by simp)]; rfl
end
/- one step of elimination -/
abbrev ES := List (List Int) × List Int × List (List Int)
def nzB (v : Nat) (r : List Int) : Bool := r.getD v 0 != 0
def elimS (p : Int) (s : ES) (v : Nat) : ES :=
  let at' := s.2.2.findIdx (nzB v)
  if at' < s.2.2.length then
    let row := scaleR p (invP p ((s.2.2.getD at' []).getD v 0)) (s.2.2.getD at' [])
    (s.1.map (lessR p row v) ++ [row], s.2.1 ++ [(v : Int)], (s.2.2.eraseIdx at').map (lessR p row v))
  else s
def elimF (p : Int) (rows : List (List Int)) (V : Nat) : ES := (List.range V).foldl (elimS p) ([], [], rows)
structure ESok (p : Int) (W N v : Nat) (s : ES) : Prop where
  t : ∀ r ∈ s.1, okRow p W r
  l : ∀ r ∈ s.2.2, okRow p W r
  bl : s.2.1.length = s.1.length
  n : s.1.length + s.2.2.length = N
  bv : ∀ x ∈ s.2.1, 0 ≤ x ∧ x < (v : Int)
  bn : s.2.1.Nodup
section
variable {p : Int} {W N : Nat}
theorem find_nz {l : List (List Int)} {v : Nat} (h : l.findIdx (nzB v) < l.length) (hl : ∀ r ∈ l, okRow p W r) (hv : v < W) : 0 < (l.getD (l.findIdx (nzB v)) []).getD v 0 ∧ (l.getD (l.findIdx (nzB v)) []).getD v 0 < p ∧ okRow p W (l.getD (l.findIdx (nzB v)) []) := by
  have h1 := List.findIdx_getElem (p := nzB v) (xs := l) (w := h)
  have h2 := hl _ (List.getElem_mem h)
  rw [getD_of h]
  generalize l[l.findIdx (nzB v)]'h = r at h1 h2 ⊢
  have h3 := ok_get h2 hv
  have h4 : r.getD v 0 ≠ 0 := by unfold nzB at h1; exact bne_iff_ne.1 h1
  exact ⟨by omega, h3.2, h2⟩
theorem elimS_ok (hp : pr4 p) {s : ES} {v : Nat} (h : ESok p W N v s) (hv : v < W) : ESok p W N (v + 1) (elimS p s v) := by
  unfold elimS
  by_cases hc : s.2.2.findIdx (nzB v) < s.2.2.length
  · obtain ⟨h1, h2, h3⟩ := find_nz hc h.l hv
    obtain ⟨_, _, i1, i2⟩ := inv_ok hp h1 h2
    have hrow := scale_ok hp h3 (b := invP p ((s.2.2.getD (s.2.2.findIdx (nzB v)) []).getD v 0)) ⟨by omega, i2⟩
    dsimp only
    rw [if_pos hc]
    refine ⟨fun r hr => ?_, fun r hr => ?_, by simp; exact h.bl, ?_, fun x hx => ?_, ?_⟩
    · rcases List.mem_append.1 hr with hr | hr
      · obtain ⟨q, hq, rfl⟩ := List.mem_map.1 hr
        exact less_ok hp (h.t q hq) hrow hv
      · rw [List.mem_singleton.1 hr]; exact hrow
    · obtain ⟨q, hq, rfl⟩ := List.mem_map.1 hr
      exact less_ok hp (h.l q (List.mem_of_mem_eraseIdx hq)) hrow hv
    · have := h.n
      have h9 : (s.2.2.eraseIdx (s.2.2.findIdx (nzB v))).length = s.2.2.length - 1 := List.length_eraseIdx_of_lt hc
      simp only [List.length_append, List.length_map, List.length_singleton]
      omega
    · rcases List.mem_append.1 hx with hx | hx
      · have := h.bv x hx; omega
      · rw [List.mem_singleton.1 hx]; omega
    · refine List.nodup_append.2 ⟨h.bn, by simp, fun a ha b hb => ?_⟩
      rw [List.mem_singleton.1 hb]
      have := h.bv a ha
      omega
  · dsimp only
    rw [if_neg hc]
    exact ⟨h.t, h.l, h.bl, h.n, fun x hx => by have := h.bv x hx; omega, h.bn⟩
theorem elimF_ok (hp : pr4 p) {rows : List (List Int)} (hr : ∀ r ∈ rows, okRow p W r) : ∀ v, v ≤ W → ESok p W rows.length v (elimF p rows v) := by
  intro v
  induction v with
  | zero => intro _; exact ⟨fun r h => by simp [elimF] at h, hr, rfl, by simp [elimF], fun x h => by simp [elimF] at h, by simp [elimF]⟩
  | succ v ih =>
    intro hv
    unfold elimF
    rw [range_fold]
    exact elimS_ok hp (ih (by omega)) (by omega)
end
end T
