/- Plain lemmas on the typed functions of the program, and the plain law of FnExactForksOf; no conditions. -/
import Derived.Test.YtcdjlpcapanibaaV1
import Derived.Test.YtcdjlpcapanibaaV5
import Derived.KernelRfl
set_option linter.all false
namespace Go.Va
theorem w64_def (x : Int) : w64 x = (x + 9223372036854775808) % 18446744073709551616 - 9223372036854775808 := by
 simp [w64, IntKind.wrap, IntKind.bits, IntKind.signed]
 split <;> omega
theorem w64_id {x : Int} (h1 : -9223372036854775808 ≤ x) (h2 : x ≤ 9223372036854775807) : w64 x = x := by
 rw [w64_def]; omega
theorem w64_succ {k : Nat} (h : k < 4611686018427387904) : w64 ((k : Int) + 1) = ((k + 1 : Nat) : Int) := by
 rw [w64_id (by omega) (by omega)]; rfl
theorem inb_nat {α : Type} {k : Nat} {xs : List α} : inb (k : Int) xs ↔ k < xs.length := by
 unfold inb; omega
theorem gd_nat {α : Type} {k : Nat} {xs : List α} {d : α} (h : k < xs.length) : gd xs (k : Int) d = xs[k] := by
 unfold gd; simp [h]
theorem stt_nat {α : Type} {k : Nat} {xs : List α} {x : α} : stt xs (k : Int) x = xs.set k x := by
 unfold stt; simp
def runX {α σ β : Type} (step : σ → α → Option (σ ⊕ β)) (fin : σ → Option β) : List α → σ → Option β
 | [], s => fin s
 | a :: l, s => match step s a with | some (.inl s') => runX step fin l s' | some (.inr r) => some r | none => none
theorem loopX {α σ β : Type} (xs : List α) (L : Nat → σ → Int → Option β) (step : σ → α → Option (σ ⊕ β)) (fin : σ → Option β)
    (hs : ∀ n s (k : Nat) (hk : k < xs.length), L (n + 1) s k = match step s xs[k] with | some (.inl s') => L n s' ((k + 1 : Nat) : Int) | some (.inr r) => some r | none => none)
    (he : ∀ n s, L (n + 1) s (xs.length : Nat) = fin s) : ∀ (n k : Nat) (s : σ), k ≤ xs.length → xs.length - k < n → L n s k = runX step fin (xs.drop k) s := by
  intro n
  induction n with
  | zero => intro k s _ h; omega
  | succ n ih =>
    intro k s hk hn
    rcases Nat.lt_or_ge k xs.length with hlt | hge
    · rw [hs n s k hlt, List.drop_eq_getElem_cons hlt]
      simp only [runX]
      cases step s xs[k] with
      | none => rfl
      | some q =>
        cases q with
        | inl s' => exact ih (k + 1) s' hlt (by omega)
        | inr r => rfl
    · have : k = xs.length := by omega
      subst this
      rw [he, List.drop_length]; rfl
theorem loopX0 {α σ β : Type} (xs : List α) (L : Nat → σ → Int → Option β) (step : σ → α → Option (σ ⊕ β)) (fin : σ → Option β)
    (hs : ∀ n s (k : Nat) (hk : k < xs.length), L (n + 1) s k = match step s xs[k] with | some (.inl s') => L n s' ((k + 1 : Nat) : Int) | some (.inr r) => some r | none => none)
    (he : ∀ n s, L (n + 1) s (xs.length : Nat) = fin s) {n : Nat} (hn : xs.length < n) (s : σ) : L n s 0 = runX step fin xs s := by
  have := loopX xs L step fin hs he n 0 s (Nat.zero_le _) (by omega)
  simpa using this
theorem runX_all {α β : Type} {p : α → Bool} {step : Unit → α → Option (Unit ⊕ β)} {fin : Unit → Option β} {r : β} : ∀ {l : List α}, (∀ a ∈ l, step () a = if p a then some (.inl ()) else some (.inr r)) → runX step fin l () = if l.all p then fin () else some r
 | [], _ => rfl
 | a :: l, h => by
  simp only [runX]
  rw [h a (by simp)]
  cases hp : p a with
  | true => simp only [if_true, List.all_cons, hp, Bool.true_and]; exact runX_all fun b hb => h b (List.mem_cons_of_mem _ hb)
  | false => simp [List.all_cons, hp]
theorem fillX {α β γ : Type} (xs : List α) (L : Nat → List β → Int → Option γ) (g : α → β) (fin : List β → Option γ)
    (hs : ∀ n (out : List β) (k : Nat) (hk : k < xs.length), out.length = xs.length → L (n + 1) out k = L n (out.set k (g xs[k])) ((k + 1 : Nat) : Int))
    (he : ∀ n out, out.length = xs.length → L (n + 1) out (xs.length : Nat) = fin out) : ∀ (n k : Nat) (out : List β), out.length = xs.length → k ≤ xs.length → xs.length - k < n → L n out k = fin (out.take k ++ (xs.drop k).map g) := by
  intro n
  induction n with
  | zero => intro k out _ _ h; omega
  | succ n ih =>
    intro k out hl hk hn
    rcases Nat.lt_or_ge k xs.length with hlt | hge
    · have : (out.set k (g xs[k])).take (k + 1) = out.take k ++ [g xs[k]] := by
        rw [List.take_succ_eq_append_getElem (by simp; omega), List.take_set_of_le (Nat.le_refl _), List.getElem_set_self]
      rw [hs n out k hlt hl, ih (k + 1) _ (by simpa using hl) hlt (by omega), List.drop_eq_getElem_cons hlt, this, List.map_cons, List.append_assoc, List.singleton_append]
    · have : k = xs.length := by omega
      subst this
      rw [he _ _ hl, List.drop_length, List.take_of_length_le (by omega)]; simp
theorem fillX0 {α β γ : Type} (xs : List α) (L : Nat → List β → Int → Option γ) (g : α → β) (fin : List β → Option γ)
    (hs : ∀ n (out : List β) (k : Nat) (hk : k < xs.length), out.length = xs.length → L (n + 1) out k = L n (out.set k (g xs[k])) ((k + 1 : Nat) : Int))
    (he : ∀ n out, out.length = xs.length → L (n + 1) out (xs.length : Nat) = fin out) {n : Nat} {out : List β} (hl : out.length = xs.length) (hn : xs.length < n) : L n out 0 = fin (xs.map g) := by
  have := fillX xs L g fin hs he n 0 out hl (Nat.zero_le _) (by omega)
  simpa using this
theorem eqX {α : Type} [DecidableEq α] (a b : List α) (hl : a.length = b.length) (L : Nat → Int → Option (Unit ⊕ Bool))
    (hs : ∀ n (k : Nat) (h1 : k < a.length) (h2 : k < b.length), L (n + 1) k = if a[k] = b[k] then L n ((k + 1 : Nat) : Int) else some (.inr false)) (he : ∀ n, L (n + 1) (a.length : Nat) = some (.inl ())) {n : Nat} (hn : a.length < n) :
    L n 0 = some (if a = b then .inl () else .inr false) := by
  have key : ∀ (n k : Nat), k ≤ a.length → a.length - k < n → L n k = some (if a.drop k = b.drop k then .inl () else .inr false) := by
    intro n
    induction n with
    | zero => intro k _ h; omega
    | succ n ih =>
      intro k hk hn
      rcases Nat.lt_or_ge k a.length with hlt | hge
      · have h2 : k < b.length := by omega
        have e : (a.drop k = b.drop k) ↔ (a[k] = b[k] ∧ a.drop (k + 1) = b.drop (k + 1)) := by
          rw [List.drop_eq_getElem_cons hlt, List.drop_eq_getElem_cons h2]; exact List.cons_eq_cons
        rw [hs n k hlt h2]
        by_cases h : a[k] = b[k]
        · rw [if_pos h, ih (k + 1) hlt (by omega)]
          by_cases h3 : a.drop (k + 1) = b.drop (k + 1)
          · rw [if_pos h3, if_pos (e.2 ⟨h, h3⟩)]
          · rw [if_neg h3, if_neg fun h' => h3 (e.1 h').2]
        · rw [if_neg h, if_neg fun h' => h (e.1 h').1]
      · have : k = a.length := by omega
        subst this
        rw [he, List.drop_length, hl, List.drop_length]; rfl
  have := key n 0 (Nat.zero_le _) (by omega)
  simpa using this
theorem allX {α β : Type} (xs : List α) (L : Nat → Int → Option β) (p : α → Bool) (r e : β)
    (hs : ∀ n (k : Nat) (hk : k < xs.length), L (n + 1) k = if p xs[k] then L n ((k + 1 : Nat) : Int) else some r) (he : ∀ n, L (n + 1) (xs.length : Nat) = some e) {n : Nat} (hn : xs.length < n) :
    L n 0 = some (if xs.all p then e else r) := by
  have := loopX0 xs (fun n (_ : Unit) i => L n i) (fun _ a => if p a then some (.inl ()) else some (.inr r)) (fun _ => some e) (fun n s k hk => by rw [hs n k hk]; cases p xs[k] <;> simp) (fun n s => he n) hn ()
  rw [this, runX_all (p := p) (r := r) fun a _ => by cases p a <;> simp]
  cases xs.all p <;> simp
theorem forS {σ β : Type} (N : Nat) (L : Nat → σ → Int → Option β) (S : Nat → σ) {r : Option β}
    (hs : ∀ n (k : Nat), k < N → L (n + 1) (S k) k = L n (S (k + 1)) ((k + 1 : Nat) : Int)) (he : ∀ n, L (n + 1) (S N) (N : Nat) = r) {n : Nat} (hn : N < n) : L n (S 0) 0 = r := by
  have key : ∀ (n k : Nat), k ≤ N → N - k < n → L n (S k) k = r := by
    intro n
    induction n with
    | zero => intro k _ h; omega
    | succ n ih =>
      intro k hk hn
      rcases Nat.lt_or_ge k N with hlt | hge
      · rw [hs n k hlt]; exact ih (k + 1) hlt (by omega)
      · have : k = N := by omega
        subst this; exact he n
  exact key n 0 (Nat.zero_le _) (by omega)
theorem forA {σ β : Type} (N : Nat) (L : Nat → σ → Int → Option β) (S : Nat → σ) (p : Nat → Bool) {r e : Option β}
    (hs : ∀ n (k : Nat), k < N → L (n + 1) (S k) k = if p k then L n (S (k + 1)) ((k + 1 : Nat) : Int) else r) (he : ∀ n, L (n + 1) (S N) (N : Nat) = e) {n : Nat} (hn : N < n) :
    L n (S 0) 0 = if (List.range N).all p then e else r := by
  have key : ∀ (n k : Nat), k ≤ N → N - k < n → L n (S k) k = if (List.range' k (N - k)).all p then e else r := by
    intro n
    induction n with
    | zero => intro k _ h; omega
    | succ n ih =>
      intro k hk hn
      rcases Nat.lt_or_ge k N with hlt | hge
      · rw [hs n k hlt, show N - k = (N - (k + 1)) + 1 by omega, List.range'_succ, List.all_cons]
        cases hp : p k with
        | false => simp
        | true => simp only [if_true, Bool.true_and]; exact ih (k + 1) hlt (by omega)
      · have : k = N := by omega
        subst this; rw [he]; simp
  have := key n 0 (Nat.zero_le _) (by omega)
  rw [List.range_eq_range']
  simpa using this
theorem forF {σ β : Type} (N : Nat) (L : Nat → σ → Int → Option β) (S : Nat → σ) (q : Nat → Option (Option β)) {e : Option β}
    (hs : ∀ n (k : Nat), k < N → (∀ j, j < k → q j = none) → L (n + 1) (S k) k = match q k with | none => L n (S (k + 1)) ((k + 1 : Nat) : Int) | some r => r) (he : ∀ n, L (n + 1) (S N) (N : Nat) = e) {n : Nat} (hn : N < n) :
    L n (S 0) 0 = ((List.range N).findSome? q).getD e := by
  have key : ∀ (n k : Nat), k ≤ N → N - k < n → (∀ j, j < k → q j = none) → L n (S k) k = ((List.range' k (N - k)).findSome? q).getD e := by
    intro n
    induction n with
    | zero => intro k _ h; omega
    | succ n ih =>
      intro k hk hn hq
      rcases Nat.lt_or_ge k N with hlt | hge
      · rw [hs n k hlt hq, show N - k = (N - (k + 1)) + 1 by omega, List.range'_succ, List.findSome?_cons]
        cases hp : q k with
        | some r => simp
        | none =>
          refine ih (k + 1) hlt (by omega) fun j hj => ?_
          rcases Nat.lt_or_ge j k with h | h
          · exact hq j h
          · have : j = k := by omega
            rw [this]; exact hp
      · have : k = N := by omega
        subst this; rw [he]; simp
  have := key n 0 (Nat.zero_le _) (by omega) (fun j h => by omega)
  rw [List.range_eq_range']
  simpa using this
def szR (t : Nat) (left : Int) : Int := if (t : Int) ≤ left then left - t else -1
end Go.Va
set_option linter.unusedVariables false
open Go Go.Va
namespace T
def fuel : Nat := 1099511627776
def laws_szIntS (a : List Int) (left : Int) : Option (Int) :=
 if decide ((w64 (left - (a.length : Int))) < 0) then
  some (-1)
 else
  some (w64 (left - (a.length : Int)))
def laws_szIntSS_L5 : Nat → ((List (List Int)) × Int × Int) → Option ((Int) ⊕ (Int))
 | 0, _ => none
 | n + 1, (a, left, i) =>
  if decide (i < (a.length : Int)) then
   if inb i a then
    (laws_szIntS (gd a i []) left).bind fun r1 =>
     if decide (r1 < 0) then
      some (.inr (-1))
     else
      laws_szIntSS_L5 n (a, r1, w64 (i + 1))
   else none
  else
   some (.inl left)
def laws_szIntSS (a : List (List Int)) (left : Int) : Option (Int) :=
 if decide ((w64 (left - (a.length : Int))) < 0) then
  some (-1)
 else
  (laws_szIntSS_L5 fuel (a, w64 (left - (a.length : Int)), 0)).bind fun s1 =>
   match s1 with
   | .inl s2 =>
    some s2
   | .inr s3 =>
    some s3
def laws_toIntS_L3 : Nat → ((List Int) × (List Int) × Int) → Option ((List Int))
 | 0, _ => none
 | n + 1, (a, out, i) =>
  if decide (i < (a.length : Int)) then
   if inb i a then
    if inb i out then
     laws_toIntS_L3 n (a, stt out i (gd a i 0), w64 (i + 1))
    else none
   else none
  else
   some out
def laws_toIntS (a : List Int) : Option ((List Int)) :=
 if 0 ≤ (a.length : Int) ∧ (a.length : Int) ≤ (a.length : Int) ∧ (a.length : Int) ≤ lim then
  (laws_toIntS_L3 fuel (a, List.replicate (Int.toNat (a.length : Int)) (0 : Int), 0)).bind fun s1 =>
   some s1
 else none
def laws_toIntSS_L3 : Nat → ((List (List Int)) × (List (List Int)) × Int) → Option ((List (List Int)))
 | 0, _ => none
 | n + 1, (a, out, i) =>
  if decide (i < (a.length : Int)) then
   if inb i a then
    (laws_toIntS (gd a i [])).bind fun r1 =>
     if inb i out then
      laws_toIntSS_L3 n (a, stt out i r1, w64 (i + 1))
     else none
   else none
  else
   some out
def laws_toIntSS (a : List (List Int)) : Option ((List (List Int))) :=
 if 0 ≤ (a.length : Int) ∧ (a.length : Int) ≤ (a.length : Int) ∧ (a.length : Int) ≤ lim then
  (laws_toIntSS_L3 fuel (a, List.replicate (Int.toNat (a.length : Int)) ([] : List Int), 0)).bind fun s1 =>
   some s1
 else none
def spec_l1In (x : Int) (a : Int) (b : Int) : Option (Bool) :=
 if decide (x ≥ a) then
  some (decide (x ≤ b))
 else
  some false
def spec_l2Elements_L2 : Nat → (Int × (List Int) × Int) → Option ((Unit) ⊕ (Bool))
 | 0, _ => none
 | n + 1, (n_, list, i) =>
  if decide (i < (list.length : Int)) then
   if inb i list then
    (spec_l1In (gd list i 0) 0 (w64 (n_ - 1))).bind fun r1 =>
     if !r1 then
      some (.inr false)
     else
      spec_l2Elements_L2 n (n_, list, w64 (i + 1))
   else none
  else
   some (.inl ())
def spec_l2Elements (n_ : Int) (list : List Int) : Option (Bool) :=
 (spec_l2Elements_L2 fuel (n_, list, 0)).bind fun s1 =>
  match s1 with
  | .inl s2 =>
   some true
  | .inr s3 =>
   some s3
def spec_l8Tuple (n_ : Int) (k : Int) (t : List Int) : Option (Bool) :=
 if (t.length : Int) == k then
  (spec_l2Elements n_ t).bind fun r1 =>
   some r1
 else
  some false
def impl_inSize_L2 : Nat → (Int × (List Int) × Int × Int) → Option ((Unit) ⊕ (Bool))
 | 0, _ => none
 | n + 1, (n_, t7, t8, t9) =>
  if decide (t9 < t8) then
   if inb t9 t7 then
    if decide ((gd t7 t9 0) < 0) then
     some (.inr false)
    else
     if decide ((gd t7 t9 0) ≥ n_) then
      some (.inr false)
     else
      impl_inSize_L2 n (n_, t7, t8, w64 (t9 + 1))
   else none
  else
   some (.inl ())
def impl_inSize (list : List Int) (n_ : Int) : Option (Bool) :=
 (impl_inSize_L2 fuel (n_, list, (list.length : Int), 0)).bind fun s1 =>
  match s1 with
  | .inl s2 =>
   some true
  | .inr s3 =>
   some s3
def laws_eqIntS_L4 : Nat → ((List Int) × (List Int) × Int) → Option ((Unit) ⊕ (Bool))
 | 0, _ => none
 | n + 1, (a, b, i) =>
  if decide (i < (a.length : Int)) then
   if inb i a then
    if inb i b then
     if (gd a i 0) != (gd b i 0) then
      some (.inr false)
     else
      laws_eqIntS_L4 n (a, b, w64 (i + 1))
    else none
   else none
  else
   some (.inl ())
def laws_eqIntS (a : List Int) (b : List Int) : Option (Bool) :=
 if (a.length : Int) != (b.length : Int) then
  some false
 else
  (laws_eqIntS_L4 fuel (a, b, 0)).bind fun s1 =>
   match s1 with
   | .inl s2 =>
    some true
   | .inr s3 =>
    some s3
def laws_eqIntSS_L4 : Nat → ((List (List Int)) × (List (List Int)) × Int) → Option ((Unit) ⊕ (Bool))
 | 0, _ => none
 | n + 1, (a, b, i) =>
  if decide (i < (a.length : Int)) then
   if inb i a then
    if inb i b then
     (laws_eqIntS (gd a i []) (gd b i [])).bind fun r1 =>
      if !r1 then
       some (.inr false)
      else
       laws_eqIntSS_L4 n (a, b, w64 (i + 1))
    else none
   else none
  else
   some (.inl ())
def laws_eqIntSS (a : List (List Int)) (b : List (List Int)) : Option (Bool) :=
 if (a.length : Int) != (b.length : Int) then
  some false
 else
  (laws_eqIntSS_L4 fuel (a, b, 0)).bind fun s1 =>
   match s1 with
   | .inl s2 =>
    some true
   | .inr s3 =>
    some s3
def spec_l6Size (n_ : Int) : Option (Bool) :=
 (spec_l1In n_ 1 8).bind fun r1 =>
  some r1
def spec_l2Pow_L2 : Nat → (Int × Int × Int) → Option (Int)
 | 0, _ => none
 | n + 1, (n_, k, out) =>
  if decide (k > 0) then
   spec_l2Pow_L2 n (n_, w64 (k - 1), w64 (out * n_))
  else
   some out
def spec_l2Pow (n_ : Int) (k : Int) : Option (Int) :=
 (spec_l2Pow_L2 fuel (n_, k, 1)).bind fun s1 =>
  some s1
def spec_l3Less_L2 : Nat → ((List Int) × (List Int) × Int) → Option ((Unit) ⊕ (Bool))
 | 0, _ => none
 | n + 1, (a, b, i) =>
  if decide (i < (a.length : Int)) then
   if inb i a then
    if inb i b then
     if (gd a i 0) != (gd b i 0) then
      if inb i a then
       if inb i b then
        some (.inr (decide ((gd a i 0) < (gd b i 0))))
       else none
      else none
     else
      spec_l3Less_L2 n (a, b, w64 (i + 1))
    else none
   else none
  else
   some (.inl ())
def spec_l3Less (a : List Int) (b : List Int) : Option (Bool) :=
 (spec_l3Less_L2 fuel (a, b, 0)).bind fun s1 =>
  match s1 with
  | .inl s2 =>
   some false
  | .inr s3 =>
   some s3
def spec_l21Set_L4 : Nat → (Int × Int × (List (List Int)) × Int) → Option ((Unit) ⊕ (Bool))
 | 0, _ => none
 | n + 1, (n_, k, tuples, i) =>
  if decide (i < (tuples.length : Int)) then
   if inb i tuples then
    (spec_l8Tuple n_ k (gd tuples i [])).bind fun r4 =>
     if !r4 then
      some (.inr false)
     else
      if decide (i > 0) then
       if inb (w64 (i - 1)) tuples then
        if inb i tuples then
         (spec_l3Less (gd tuples (w64 (i - 1)) []) (gd tuples i [])).bind fun r5 =>
          if !r5 then
           some (.inr false)
          else
           spec_l21Set_L4 n (n_, k, tuples, w64 (i + 1))
        else none
       else none
      else
       spec_l21Set_L4 n (n_, k, tuples, w64 (i + 1))
   else none
  else
   some (.inl ())
def spec_l21Set (n_ : Int) (k : Int) (tuples : List (List Int)) : Option (Bool) :=
 (spec_l6Size n_).bind fun r1 =>
  if !r1 then
   some false
  else
   (spec_l1In k 1 4).bind fun r2 =>
    if !r2 then
     some false
    else
     (spec_l2Pow n_ k).bind fun r3 =>
      if decide ((tuples.length : Int) > r3) then
       some false
      else
       (spec_l21Set_L4 fuel (n_, k, tuples, 0)).bind fun s4 =>
        match s4 with
        | .inl s5 =>
         some true
        | .inr s6 =>
         some s6
def spec_l1Same_L4 : Nat → ((List Int) × (List Int) × Int) → Option ((Unit) ⊕ (Bool))
 | 0, _ => none
 | n + 1, (a, b, i) =>
  if decide (i < (a.length : Int)) then
   if inb i a then
    if inb i b then
     if (gd a i 0) != (gd b i 0) then
      some (.inr false)
     else
      spec_l1Same_L4 n (a, b, w64 (i + 1))
    else none
   else none
  else
   some (.inl ())
def spec_l1Same (a : List Int) (b : List Int) : Option (Bool) :=
 if (a.length : Int) != (b.length : Int) then
  some false
 else
  (spec_l1Same_L4 fuel (a, b, 0)).bind fun s1 =>
   match s1 with
   | .inl s2 =>
    some true
   | .inr s3 =>
    some s3
def spec_l8Find_L2 : Nat → ((List (List Int)) × (List Int) × Int × Int) → Option ((List (List Int)) × (List Int) × Int)
 | 0, _ => none
 | n + 1, (list, t, from_, to) =>
  if decide (from_ < to) then
   if (2 : Int) ≠ 0 then
    if inb (w64 (Int.tdiv (w64 (from_ + to)) 2)) list then
     (spec_l3Less (gd list (w64 (Int.tdiv (w64 (from_ + to)) 2)) []) t).bind fun r1 =>
      if r1 then
       spec_l8Find_L2 n (list, t, w64 ((w64 (Int.tdiv (w64 (from_ + to)) 2)) + 1), to)
      else
       spec_l8Find_L2 n (list, t, from_, w64 (Int.tdiv (w64 (from_ + to)) 2))
    else none
   else none
  else
   some (list, t, from_)
def spec_l8Find (list : List (List Int)) (t : List Int) : Option (Int × Bool) :=
 (spec_l8Find_L2 fuel (list, t, 0, (list.length : Int))).bind fun s1 =>
  if decide (s1.2.2 < (s1.1.length : Int)) then
   if inb s1.2.2 s1.1 then
    (spec_l1Same (gd s1.1 s1.2.2 []) s1.2.1).bind fun r2 =>
     some (s1.2.2, r2)
   else none
  else
   some (s1.2.2, false)
def impl_isSize (n_ : Int) : Option (Bool) :=
 if decide (n_ ≥ 1) then
  some (decide (n_ ≤ 8))
 else
  some false
def impl_compareLists_L2 : Nat → ((List Int) × (List Int) × Int) → Option (((List Int) × (List Int)) ⊕ (Int))
 | 0, _ => none
 | n + 1, (s, t, i) =>
  if decide (i < (s.length : Int)) then
   if decide (i < (t.length : Int)) then
    if inb i s then
     if inb i t then
      if (gd s i 0) != (gd t i 0) then
       if inb i s then
        if inb i t then
         if decide ((gd s i 0) < (gd t i 0)) then
          some (.inr (-1))
         else
          some (.inr 1)
        else none
       else none
      else
       impl_compareLists_L2 n (s, t, w64 (i + 1))
     else none
    else none
   else
    some (.inl (s, t))
  else
   some (.inl (s, t))
def impl_compareLists (s : List Int) (t : List Int) : Option (Int) :=
 (impl_compareLists_L2 fuel (s, t, 0)).bind fun s1 =>
  match s1 with
  | .inl s2 =>
   if decide ((s2.1.length : Int) < (s2.2.length : Int)) then
    some (-1)
   else
    if decide ((s2.1.length : Int) > (s2.2.length : Int)) then
     some 1
    else
     some 0
  | .inr s3 =>
   some s3
def impl_isTupleSet_L4 : Nat → (Int × Int × (List (List Int)) × (List (List Int)) × Int × Int) → Option ((Unit) ⊕ (Bool))
 | 0, _ => none
 | n + 1, (n_, k, tuples, t20, t21, t22) =>
  if decide (t22 < t21) then
   if inb t22 t20 then
    if ((gd t20 t22 []).length : Int) != k then
     some (.inr false)
    else
     (impl_inSize (gd t20 t22 []) n_).bind fun r2 =>
      if !r2 then
       some (.inr false)
      else
       if decide (t22 > 0) then
        if inb (w64 (t22 - 1)) tuples then
         (impl_compareLists (gd tuples (w64 (t22 - 1)) []) (gd t20 t22 [])).bind fun r3 =>
          if decide (r3 ≥ 0) then
           some (.inr false)
          else
           impl_isTupleSet_L4 n (n_, k, tuples, t20, t21, w64 (t22 + 1))
        else none
       else
        impl_isTupleSet_L4 n (n_, k, tuples, t20, t21, w64 (t22 + 1))
   else none
  else
   some (.inl ())
def impl_isTupleSet (n_ : Int) (k : Int) (tuples : List (List Int)) : Option (Bool) :=
 (impl_isSize n_).bind fun r1 =>
  if !r1 then
   some false
  else
   if decide (k < 1) then
    some false
   else
    if decide (k > 4) then
     some false
    else
     (impl_isTupleSet_L4 fuel (n_, k, tuples, tuples, (tuples.length : Int), 0)).bind fun s2 =>
      match s2 with
      | .inl s3 =>
       some true
      | .inr s4 =>
       some s4
end T
open Go Go.Va
namespace T
theorem szIntS_ok {a : List Int} {left : Int} (h0 : 0 ≤ left) (h1 : left ≤ 4611686018427387904) (ha : a.length ≤ 9223372036854775807) : laws_szIntS a left = some (szR a.length left) := by
 unfold laws_szIntS szR
 rw [w64_id (by omega) (by omega)]
 by_cases h : (a.length : Int) ≤ left
 ·rw [if_neg (by simp; omega), if_pos h]
 ·rw [if_pos (by simp; omega), if_neg h]
def totSS (a : List (List Int)) : Nat := a.length + (a.map List.length).sum
theorem szIntSS_ok {a : List (List Int)} {left : Int} (h0 : 0 ≤ left) (h1 : left ≤ 1099511627775) (ha : a.length ≤ 9223372036854775807) (hr : ∀ r ∈ a, r.length ≤ 9223372036854775807) : laws_szIntSS a left = some (szR (totSS a) left) := by
  unfold laws_szIntSS
  rw [w64_id (by omega) (by omega)]
  by_cases h : (a.length : Int) ≤ left
  · rw [if_neg (by simp; omega)]
    have key := loopX0 a (fun n s i => laws_szIntSS_L5 n (a, s, i)) (fun s r => (laws_szIntS r s).bind fun q => if q < 0 then some (.inr (.inr (-1))) else some (.inl q)) (fun s => some (.inl s)) ?_ ?_ (n := fuel) (by unfold fuel; omega) (left - a.length)
    · rw [key]
      have run : ∀ (l : List (List Int)) (s : Int), 0 ≤ s → s ≤ 1099511627775 → (∀ r ∈ l, r.length ≤ 9223372036854775807) →
          runX (fun s r => (laws_szIntS r s).bind fun q => if q < 0 then some (.inr (.inr (-1))) else some (.inl q)) (fun s => some (.inl s)) l s = some (if ((l.map List.length).sum : Int) ≤ s then (.inl (s - (l.map List.length).sum) : Int ⊕ Int) else .inr (-1)) := by
        intro l
        induction l with
        | nil => intro s h0 _ _; simp [runX, h0]
        | cons r l ih =>
          intro s h0 h1 hr
          simp only [runX]
          rw [szIntS_ok h0 (by omega) (hr r (by simp))]
          unfold szR
          by_cases h : (r.length : Int) ≤ s
          · rw [if_pos h]
            simp only [Option.bind_some]
            rw [if_neg (by omega)]
            dsimp only
            rw [ih (s - r.length) (by omega) (by omega) fun r hr' => hr r (List.mem_cons_of_mem _ hr')]
            simp only [List.map_cons, List.sum_cons]
            congr 1
            by_cases h2 : (((l.map List.length).sum : Nat) : Int) ≤ s - r.length
            · rw [if_pos h2, if_pos (by omega)]; congr 1; omega
            · rw [if_neg h2, if_neg (by omega)]
          · rw [if_neg h]
            simp only [List.map_cons, List.sum_cons]
            rw [if_neg (by omega)]
            rfl
      rw [run a _ (by omega) (by omega) hr]
      unfold szR totSS
      by_cases h2 : (((a.map List.length).sum : Nat) : Int) ≤ left - a.length
      · rw [if_pos h2, if_pos (by omega)]
        simp only [Option.bind_some, Option.some.injEq]; omega
      · rw [if_neg h2, if_neg (by omega)]; rfl
    · intro n s k hk
      simp only [laws_szIntSS_L5, inb_nat, gd_nat hk, w64_succ (show k < 4611686018427387904 by omega)]
      simp [hk]
      cases laws_szIntS a[k] s with
      | none => rfl
      | some q => by_cases hq : q < 0 <;> simp [hq]
    · intro n s
      simp [laws_szIntSS_L5]
  · rw [if_pos (by simp; omega)]
    unfold szR totSS
    rw [if_neg (by omega)]
theorem toIntS_ok {a : List Int} (ha : a.length ≤ 1099511627775) : laws_toIntS a = some a := by
 unfold laws_toIntS
 rw [if_pos (by unfold lim; omega)]
 have key := fillX0 a (fun n out i => laws_toIntS_L3 n (a, out, i)) id some ?_ ?_ (n := fuel) (out := List.replicate (Int.toNat (a.length : Int)) (0 : Int)) (by simp) (by unfold fuel; omega)
 ·rw [key]; simp
 ·intro n out k hk hl
  simp only [laws_toIntS_L3, inb_nat, gd_nat hk, stt_nat, w64_succ (show k < 4611686018427387904 by omega)]
  simp [hk, hl]
 ·intro n out hl
  simp [laws_toIntS_L3]
theorem toIntSS_ok {a : List (List Int)} (ha : a.length ≤ 1099511627775) (hr : ∀ r ∈ a, r.length ≤ 1099511627775) : laws_toIntSS a = some a := by
 unfold laws_toIntSS
 rw [if_pos (by unfold lim; omega)]
 have key := fillX0 a (fun n out i => laws_toIntSS_L3 n (a, out, i)) id some ?_ ?_ (n := fuel) (out := List.replicate (Int.toNat (a.length : Int)) ([] : List Int)) (by simp) (by unfold fuel; omega)
 ·rw [key]; simp
 ·intro n out k hk hl
  simp only [laws_toIntSS_L3, inb_nat, gd_nat hk, stt_nat, w64_succ (show k < 4611686018427387904 by omega)]
  simp [hk, hl, toIntS_ok (hr _ (List.getElem_mem hk))]
 ·intro n out hl
  simp [laws_toIntSS_L3]
theorem eqIntS_ok {a b : List Int} (ha : a.length ≤ 1099511627775) : laws_eqIntS a b = some (decide (a = b)) := by
 unfold laws_eqIntS
 by_cases hl : a.length = b.length
 ·rw [if_neg (by simp [hl]), eqX a b hl (fun n i => laws_eqIntS_L4 n (a, b, i)) ?_ ?_ (by unfold fuel; omega)]
  ·by_cases h : a = b <;> simp [h]
  ·intro n k h1 h2
   simp only [laws_eqIntS_L4, inb_nat, gd_nat h1, gd_nat h2, w64_succ (show k < 4611686018427387904 by omega)]
   by_cases h : a[k] = b[k] <;> simp [h1, h2, h]
  ·intro n
   simp [laws_eqIntS_L4]
 ·rw [if_pos (by simp; omega), decide_eq_false (fun e => hl (by rw [e]))]
theorem eqIntSS_ok {a b : List (List Int)} (ha : a.length ≤ 1099511627775) (hr : ∀ r ∈ a, r.length ≤ 1099511627775) : laws_eqIntSS a b = some (decide (a = b)) := by
 unfold laws_eqIntSS
 by_cases hl : a.length = b.length
 ·rw [if_neg (by simp [hl]), eqX a b hl (fun n i => laws_eqIntSS_L4 n (a, b, i)) ?_ ?_ (by unfold fuel; omega)]
  ·by_cases h : a = b <;> simp [h]
  ·intro n k h1 h2
   simp only [laws_eqIntSS_L4, inb_nat, gd_nat h1, gd_nat h2, w64_succ (show k < 4611686018427387904 by omega), eqIntS_ok (hr _ (List.getElem_mem h1))]
   by_cases h : a[k] = b[k] <;> simp [h1, h2, h]
  ·intro n
   simp [laws_eqIntSS_L4]
 ·rw [if_pos (by simp; omega), decide_eq_false (fun e => hl (by rw [e]))]
abbrev Lin := Int × Int × List (List Int)
def linS (a : Lin) : Prop := a.2.2.length ≤ 1048576 ∧ ∀ r ∈ a.2.2, r.length ≤ 1048576
theorem mem_sum {l : List (List Int)} : ∀ {r : List Int}, r ∈ l → r.length ≤ (l.map List.length).sum := by
 induction l with
 | nil => intro r h; cases h
 | cons x l ih =>
  intro r h
  rw [List.map_cons, List.sum_cons]
  rcases List.mem_cons.1 h with rfl | h
  ·omega
  ·have := ih h; omega
theorem szLinear_small {a : Lin} (h : ¬ szR (totSS a.2.2) 1048576 < 0) : linS a := by
 unfold szR totSS at h
 split at h
 ·exact ⟨by omega, fun r hr => by have := mem_sum hr; omega⟩
 ·omega
theorem spec_l1In_ok (x a b : Int) : spec_l1In x a b = some (decide (a ≤ x ∧ x ≤ b)) := by
 unfold spec_l1In
 by_cases h : a ≤ x <;> simp [h]
def belowB (n : Int) (l : List Int) : Bool := l.all fun x => decide (0 ≤ x ∧ x < n)
theorem impl_inSize_ok {l : List Int} (n : Int) (hl : l.length ≤ 1099511627775) : impl_inSize l n = some (belowB n l) := by
 unfold impl_inSize
 rw [allX l (fun m i => impl_inSize_L2 m (n, l, (l.length : Int), i)) (fun x => decide (0 ≤ x ∧ x < n)) (.inr false) (.inl ()) ?_ ?_ (by unfold fuel; omega)]
 ·unfold belowB; cases l.all (fun x => decide (0 ≤ x ∧ x < n)) <;> simp
 ·intro m k hk
  simp only [impl_inSize_L2, inb_nat, gd_nat hk, w64_succ (show k < 4611686018427387904 by omega)]
  by_cases h1 : l[k] < 0
  ·simp [hk, h1, show ¬ 0 ≤ l[k] by omega]
  ·by_cases h2 : n ≤ l[k]
   ·simp [hk, h1, h2, show ¬ l[k] < n by omega]
   ·simp [hk, h1, h2, show 0 ≤ l[k] ∧ l[k] < n by omega]
 ·intro m
  simp [impl_inSize_L2]
theorem spec_l2Elements_ok {l : List Int} {n : Int} (hn : -9223372036854775808 < n) (hn' : n ≤ 9223372036854775807) (hl : l.length ≤ 1099511627775) : spec_l2Elements n l = some (belowB n l) := by
 unfold spec_l2Elements
 rw [allX l (fun m i => spec_l2Elements_L2 m (n, l, i)) (fun x => decide (0 ≤ x ∧ x < n)) (.inr false) (.inl ()) ?_ ?_ (by unfold fuel; omega)]
 ·unfold belowB; cases l.all (fun x => decide (0 ≤ x ∧ x < n)) <;> simp
 ·intro m k hk
  simp only [spec_l2Elements_L2, inb_nat, gd_nat hk, w64_succ (show k < 4611686018427387904 by omega), spec_l1In_ok, w64_id (show -9223372036854775808 ≤ n - 1 by omega) (show n - 1 ≤ 9223372036854775807 by omega)]
  by_cases h1 : 0 ≤ l[k] ∧ l[k] < n
  ·simp [hk, h1, show l[k] ≤ n - 1 by omega]
  ·have : ¬ (0 ≤ l[k] ∧ l[k] ≤ n - 1) := by omega
   simp [hk, h1, this]
 ·intro m
  simp [spec_l2Elements_L2]
theorem spec_l8Tuple_ok {l : List Int} {n : Int} (k : Int) (hn : -9223372036854775808 < n) (hn' : n ≤ 9223372036854775807) (hl : l.length ≤ 1099511627775) : spec_l8Tuple n k l = some (decide ((l.length : Int) = k) && belowB n l) := by
 unfold spec_l8Tuple
 rw [spec_l2Elements_ok hn hn' hl]
 by_cases h : (l.length : Int) = k <;> simp [h]
end T
open Go Go.Va
namespace T
theorem belowB_get {n : Int} {l : List Int} (h : belowB n l = true) (k : Nat) (hk : k < l.length) : 0 ≤ l[k] ∧ l[k] < n := by
 have := (List.all_eq_true.1 h) l[k] (List.getElem_mem hk)
 simpa using this
section
variable {p v : Int} {rows : List (List Int)} {y : List Int}
end
end T
open Go Go.Va
namespace T
def cmpL : List Int → List Int → Int
 | [], [] => 0
 | [], _ :: _ => -1
 | _ :: _, [] => 1
 | a :: s, b :: t => if a = b then cmpL s t else if a < b then -1 else 1
theorem compare_L2 {s t : List Int} (hs : s.length ≤ 1099511627775) : ∀ (n k : Nat), k ≤ s.length → k ≤ t.length → s.length - k < n →
    (impl_compareLists_L2 n (s, t, (k : Int))).bind (fun s1 => match s1 with
      | .inl s2 => if decide ((s2.1.length : Int) < (s2.2.length : Int)) then some (-1) else if decide ((s2.1.length : Int) > (s2.2.length : Int)) then some 1 else some 0
      | .inr s3 => some s3) = some (cmpL (s.drop k) (t.drop k)) := by
  intro n
  induction n with
  | zero => intro k _ _ h; omega
  | succ n ih =>
    intro k h1 h2 hn
    by_cases k1 : k < s.length
    · by_cases k2 : k < t.length
      · rw [List.drop_eq_getElem_cons k1, List.drop_eq_getElem_cons k2]
        simp only [impl_compareLists_L2, inb_nat, gd_nat k1, gd_nat k2, w64_succ (show k < 4611686018427387904 by omega), cmpL]
        by_cases he : s[k] = t[k]
        · have := ih (k + 1) k1 k2 (by omega)
          simp [k1, k2, he]
          simpa using this
        · by_cases hl : s[k] < t[k] <;> simp [k1, k2, he, hl]
      · rw [List.drop_eq_getElem_cons k1, List.drop_of_length_le (show t.length ≤ k by omega)]
        have e : k = t.length := by omega
        simp only [impl_compareLists_L2, cmpL]
        simp [k1, k2, show ¬ s.length < t.length by omega, show t.length < s.length by omega]
    · rw [List.drop_of_length_le (show s.length ≤ k by omega)]
      simp only [impl_compareLists_L2]
      by_cases k2 : k < t.length
      · rw [List.drop_eq_getElem_cons k2]
        simp [k1, cmpL, show s.length < t.length by omega]
      · rw [List.drop_of_length_le (show t.length ≤ k by omega)]
        simp [k1, cmpL, show ¬ s.length < t.length by omega, show ¬ t.length < s.length by omega]
theorem impl_compareLists_ok {s t : List Int} (hs : s.length ≤ 1099511627775) : impl_compareLists s t = some (cmpL s t) := by
 have := compare_L2 (t := t) hs fuel 0 (Nat.zero_le _) (Nat.zero_le _) (by unfold fuel; omega)
 rw [List.drop_zero, List.drop_zero] at this
 exact this
theorem spec_l3Less_ok {s t : List Int} (hs : s.length ≤ 1099511627775) (hl : s.length = t.length) : spec_l3Less s t = some (decide (cmpL s t < 0)) := by
 have key : ∀ (n k : Nat), k ≤ s.length → s.length - k < n → (spec_l3Less_L2 n (s, t, (k : Int))).bind (fun s1 => match s1 with | .inl _ => some false | .inr s3 => some s3) = some (decide (cmpL (s.drop k) (t.drop k) < 0)) := by
  intro n
  induction n with
  | zero => intro k _ h; omega
  | succ n ih =>
   intro k h1 hn
   by_cases k1 : k < s.length
   ·have k2 : k < t.length := by omega
    rw [List.drop_eq_getElem_cons k1, List.drop_eq_getElem_cons k2]
    simp only [spec_l3Less_L2, inb_nat, gd_nat k1, gd_nat k2, w64_succ (show k < 4611686018427387904 by omega), cmpL]
    by_cases he : s[k] = t[k]
    ·have := ih (k + 1) k1 (by omega)
     simp [k1, k2, he]
     simpa using this
    ·by_cases hl : s[k] < t[k] <;> simp [k1, k2, he, hl]
   ·rw [List.drop_of_length_le (show s.length ≤ k by omega), List.drop_of_length_le (show t.length ≤ k by omega)]
    simp [spec_l3Less_L2, k1, cmpL]
 have := key fuel 0 (Nat.zero_le _) (by unfold fuel; omega)
 rw [List.drop_zero, List.drop_zero] at this
 exact this
theorem spec_l1Same_ok {a b : List Int} (ha : a.length ≤ 1099511627775) : spec_l1Same a b = some (decide (a = b)) := by
 unfold spec_l1Same
 by_cases hl : a.length = b.length
 ·rw [if_neg (by simp [hl]), eqX a b hl (fun n i => spec_l1Same_L4 n (a, b, i)) ?_ ?_ (by unfold fuel; omega)]
  ·by_cases h : a = b <;> simp [h]
  ·intro n k h1 h2
   simp only [spec_l1Same_L4, inb_nat, gd_nat h1, gd_nat h2, w64_succ (show k < 4611686018427387904 by omega)]
   by_cases h : a[k] = b[k] <;> simp [h1, h2, h]
  ·intro n
   simp [spec_l1Same_L4]
 ·rw [if_pos (by simp; omega), decide_eq_false (fun e => hl (by rw [e]))]
theorem cmpL_refl : ∀ s, cmpL s s = 0
 | [] => rfl
 | a :: s => by simp [cmpL, cmpL_refl s]
theorem cmpL_eq : ∀ {s t}, cmpL s t = 0 ↔ s = t
 | [], [] => by simp [cmpL]
 | [], _ :: _ => by simp [cmpL]
 | _ :: _, [] => by simp [cmpL]
 | a :: s, b :: t => by
  simp only [cmpL]
  by_cases h : a = b
  ·rw [if_pos h, cmpL_eq]; simp [h]
  ·rw [if_neg h]; split <;> simp [h]
theorem cmpL_symm : ∀ s t, cmpL t s = - cmpL s t
 | [], [] => by simp [cmpL]
 | [], _ :: _ => by simp [cmpL]
 | _ :: _, [] => by simp [cmpL]
 | a :: s, b :: t => by
  simp only [cmpL]
  by_cases h : a = b
  ·rw [if_pos h, if_pos h.symm, cmpL_symm s t]
  ·rw [if_neg h, if_neg (Ne.symm h)]
   by_cases h2 : a < b
   ·rw [if_pos h2, if_neg (by omega)]; rfl
   ·rw [if_neg h2, if_pos (by omega)]
theorem cmpL_trans : ∀ {s t u}, cmpL s t < 0 → cmpL t u < 0 → cmpL s u < 0
 | [], [], _, h, _ => by simp [cmpL] at h
 | [], _ :: _, [], _, h => by simp [cmpL] at h
 | [], _ :: _, _ :: _, _, _ => by simp [cmpL]
 | _ :: _, [], _, h, _ => by simp [cmpL] at h
 | _ :: _, _ :: _, [], _, h => by simp [cmpL] at h
 | a :: s, b :: t, c :: u, h1, h2 => by
  simp only [cmpL] at *
  by_cases e1 : a = b
  ·rw [if_pos e1] at h1
   by_cases e2 : b = c
   ·rw [if_pos e2] at h2; rw [if_pos (e1.trans e2)]; exact cmpL_trans h1 h2
   ·rw [if_neg e2] at h2; rw [e1, if_neg e2]; exact h2
  ·rw [if_neg e1] at h1
   have l1 : a < b := by
    by_cases h : a < b
    ·exact h
    ·rw [if_neg h] at h1; omega
   by_cases e2 : b = c
   ·rw [← e2, if_neg e1, if_pos l1]; omega
   ·rw [if_neg e2] at h2
    have l2 : b < c := by
     by_cases h : b < c
     ·exact h
     ·rw [if_neg h] at h2; omega
    rw [if_neg (by omega), if_pos (by omega)]; omega
def incB : List (List Int) → Bool
 | a :: b :: l => decide (cmpL a b < 0) && incB (b :: l)
 | _ => true
theorem incB_tail {a : List Int} {l : List (List Int)} (h : incB (a :: l) = true) : incB l = true := by
 cases l with
 | nil => rfl
 | cons b l => simp only [incB, Bool.and_eq_true] at h; exact h.2
theorem incB_head : ∀ {a : List Int} {l : List (List Int)}, incB (a :: l) = true → ∀ b ∈ l, cmpL a b < 0
 | a, [], _, b, hb => by cases hb
 | a, c :: l, h, b, hb => by
  simp only [incB, Bool.and_eq_true, decide_eq_true_eq] at h
  rcases List.mem_cons.1 hb with rfl | hb
  ·exact h.1
  ·exact cmpL_trans h.1 (incB_head h.2 b hb)
theorem incB_lt : ∀ {l : List (List Int)}, incB l = true → ∀ (i j : Nat) (hi : i < j) (hj : j < l.length), cmpL (l[i]'(by omega)) l[j] < 0
 | [], _, i, j, _, hj => by simp at hj
 | a :: l, h, 0, j + 1, _, hj => by
  simp only [List.getElem_cons_zero, List.getElem_cons_succ]
  exact incB_head h _ (List.getElem_mem _)
 | a :: l, h, i + 1, j + 1, hi, hj => by
  simp only [List.getElem_cons_succ]
  exact incB_lt (incB_tail h) i j (by omega) (by simpa using hj)
theorem incB_iff {l : List (List Int)} : incB l = true ↔ ∀ (i : Nat) (hi : i + 1 < l.length), cmpL (l[i]'(by omega)) l[i + 1] < 0 := by
 constructor
 ·exact fun h i hi => incB_lt h i (i + 1) (by omega) hi
 ·induction l with
  | nil => intro _; rfl
  | cons a l ih =>
   intro h
   cases l with
   | nil => rfl
   | cons b l =>
    simp only [incB, Bool.and_eq_true, decide_eq_true_eq]
    exact ⟨h 0 (by simp), ih fun i hi => by have := h (i + 1) (by simpa using hi); simpa using this⟩
end T
open Go Go.Va
namespace T
theorem pow_le_of {n : Int} (h0 : 0 ≤ n) (h8 : n ≤ 8) : ∀ k : Nat, 0 ≤ n ^ k ∧ n ^ k ≤ 8 ^ k
 | 0 => by simp
 | k + 1 => by
  obtain ⟨h1, h2⟩ := pow_le_of h0 h8 k
  rw [Int.pow_succ, Int.pow_succ]
  exact ⟨Int.mul_nonneg h1 h0, Int.mul_le_mul h2 h8 h0 (by have : (0 : Int) ≤ 8 ^ k := Int.le_trans h1 h2; exact this)⟩
theorem pow8_le : ∀ k : Nat, k ≤ 20 → (8 : Int) ^ k ≤ 8 ^ 20 := by
 intro k hk
 have : ((8 ^ k : Nat) : Int) ≤ ((8 ^ 20 : Nat) : Int) := Int.ofNat_le.2 (Nat.pow_le_pow_right (by omega) hk)
 simpa using this
theorem pow_bd {n : Int} (h0 : 0 ≤ n) (h8 : n ≤ 8) {k : Nat} (hk : k ≤ 20) : 0 ≤ n ^ k ∧ n ^ k ≤ 1152921504606846976 := by
  obtain ⟨h1, h2⟩ := pow_le_of h0 h8 k
  have := pow8_le k hk
  exact ⟨h1, by have e : (8 : Int) ^ 20 = 1152921504606846976 := by decide
                omega⟩
theorem l2Pow_L2 {n : Int} (h0 : 0 ≤ n) (h8 : n ≤ 8) : ∀ (m k j : Nat), j + k ≤ 20 → k < m → spec_l2Pow_L2 m (n, (k : Int), n ^ j) = some (n ^ (j + k)) := by
 intro m
 induction m with
 | zero => intro k j _ h; omega
 | succ m ih =>
  intro k j hj hk
  simp only [spec_l2Pow_L2]
  cases k with
  | zero => simp
  | succ k =>
   have e : w64 (((k + 1 : Nat) : Int) - 1) = (k : Int) := by rw [w64_id (by omega) (by omega)]; omega
   have hb := pow_bd h0 h8 (k := j + 1) (by omega)
   rw [Int.pow_succ] at hb
   rw [e, w64_id (by omega) (by omega), ← Int.pow_succ, if_pos (by simp), ih k (j + 1) (by omega) (by omega)]
   congr 2 <;> omega
theorem spec_l2Pow_ok {n : Int} (h0 : 0 ≤ n) (h8 : n ≤ 8) {k : Nat} (hk : k ≤ 20) : spec_l2Pow n (k : Int) = some (n ^ k) := by
 unfold spec_l2Pow
 have := l2Pow_L2 h0 h8 fuel k 0 (by omega) (by unfold fuel; omega)
 rw [Int.pow_zero] at this
 rw [this]; simp
def idxA (n : Int) : Int → List Int → Int
 | i, [] => i
 | i, a :: l => idxA n (i * n + a) l
def idx (n : Int) (l : List Int) : Int := idxA n 0 l
theorem idxA_eq (n : Int) : ∀ (l : List Int) (i : Int), idxA n i l = i * n ^ l.length + idxA n 0 l
 | [], i => by simp [idxA]
 | a :: l, i => by
  simp only [idxA, List.length_cons]
  rw [idxA_eq n l (i * n + a), idxA_eq n l (0 * n + a), Int.pow_succ]
  simp only [Int.zero_mul, Int.zero_add]
  rw [Int.add_mul, Int.mul_assoc, Int.mul_comm n (n ^ l.length)]
  omega
theorem idx_cons (n a : Int) (l : List Int) : idx n (a :: l) = a * n ^ l.length + idx n l := by
 unfold idx
 simp only [idxA]
 rw [idxA_eq]; simp
theorem belowB_cons {n a : Int} {l : List Int} : belowB n (a :: l) = true ↔ (0 ≤ a ∧ a < n) ∧ belowB n l = true := by
 unfold belowB; simp [List.all_cons]
theorem idx_bd {n : Int} : ∀ {l : List Int}, belowB n l = true → 0 ≤ idx n l ∧ idx n l < n ^ l.length
 | [], _ => by simp [idx, idxA]
 | a :: l, h => by
  obtain ⟨h1, h2⟩ := belowB_cons.1 h
  obtain ⟨h3, h4⟩ := idx_bd h2
  rw [idx_cons, List.length_cons, Int.pow_succ]
  have hp : 0 ≤ n ^ l.length := by omega
  have k1 := Int.mul_nonneg h1.1 hp
  have k2 := Int.mul_le_mul_of_nonneg_right (show a + 1 ≤ n by omega) hp
  rw [Int.add_mul, Int.one_mul, Int.mul_comm n] at k2
  exact ⟨by omega, by omega⟩
theorem idx_cmp {n : Int} : ∀ {s t : List Int}, belowB n s = true → belowB n t = true → s.length = t.length → (cmpL s t < 0 ↔ idx n s < idx n t) ∧ (cmpL s t = 0 ↔ idx n s = idx n t)
 | [], [], _, _, _ => by simp [cmpL, idx, idxA]
 | [], _ :: _, _, _, h => by simp at h
 | _ :: _, [], _, _, h => by simp at h
 | a :: s, b :: t, hs, ht, hl => by
  obtain ⟨s1, s2⟩ := belowB_cons.1 hs
  obtain ⟨t1, t2⟩ := belowB_cons.1 ht
  have hl' : s.length = t.length := by simpa using hl
  have ih := idx_cmp s2 t2 hl'
  obtain ⟨b1, b2⟩ := idx_bd s2
  obtain ⟨c1, c2⟩ := idx_bd t2
  rw [idx_cons, idx_cons, hl']
  rw [hl'] at b2
  simp only [cmpL]
  have hp : 0 ≤ n ^ t.length := by omega
  rcases Int.lt_trichotomy a b with h | h | h
  ·have := Int.mul_le_mul_of_nonneg_right (show a + 1 ≤ b by omega) hp
   rw [Int.add_mul, Int.one_mul] at this
   rw [if_neg (by omega), if_pos h]
   exact ⟨by constructor <;> intro <;> omega, by constructor <;> intro <;> omega⟩
  ·subst h
   rw [if_pos rfl]
   exact ⟨by rw [ih.1]; constructor <;> intro <;> omega, by rw [ih.2]; constructor <;> intro <;> omega⟩
  ·have := Int.mul_le_mul_of_nonneg_right (show b + 1 ≤ a by omega) hp
   rw [Int.add_mul, Int.one_mul] at this
   rw [if_neg (by omega), if_neg (by omega)]
   exact ⟨by constructor <;> intro <;> omega, by constructor <;> intro <;> omega⟩
theorem inc_count {n : Int} {k : Nat} {l : List (List Int)} (hi : incB l = true) (hv : ∀ t ∈ l, t.length = k ∧ belowB n t = true) : (l.length : Int) ≤ n ^ k ∨ l = [] := by
 have key : ∀ (i : Nat) (h : i < l.length), (i : Int) ≤ idx n l[i] := by
  intro i
  induction i with
  | zero => intro h; exact (idx_bd (hv _ (List.getElem_mem h)).2).1
  | succ i ih =>
   intro h
   have h1 := ih (by omega)
   obtain ⟨l1, b1⟩ := hv _ (List.getElem_mem (show i < l.length by omega))
   obtain ⟨l2, b2⟩ := hv _ (List.getElem_mem h)
   have := (idx_cmp b1 b2 (l1.trans l2.symm)).1.1 (incB_lt hi i (i + 1) (by omega) h)
   omega
 cases hn : l.length with
 | zero => exact .inr (List.length_eq_zero_iff.1 hn)
 | succ m =>
  left
  have h := key m (by omega)
  obtain ⟨l1, b1⟩ := hv _ (List.getElem_mem (show m < l.length by omega))
  have := (idx_bd b1).2
  rw [l1] at this
  omega
theorem find_L2 {list : List (List Int)} {t : List Int} {k : Nat} (hl : list.length ≤ 1099511627775) (hk : k ≤ 1099511627775) (hv : ∀ u ∈ list, u.length = k) (ht : t.length = k) (hi : incB list = true) : ∀ (m a b : Nat), a ≤ b → b ≤ list.length → b - a < m →
    (∀ i (h : i < list.length), i < a → cmpL list[i] t < 0) → (∀ i (h : i < list.length), b ≤ i → ¬ cmpL list[i] t < 0) →
    ∃ c : Nat, spec_l8Find_L2 m (list, t, (a : Int), (b : Int)) = some (list, t, (c : Int)) ∧ c ≤ list.length ∧ (∀ i (h : i < list.length), i < c → cmpL list[i] t < 0) ∧ (∀ i (h : i < list.length), c ≤ i → ¬ cmpL list[i] t < 0) := by
  intro m
  induction m with
  | zero => intro a b _ _ h; omega
  | succ m ih =>
    intro a b hab hb hm h1 h2
    simp only [spec_l8Find_L2]
    by_cases hlt : a < b
    · have emid : w64 (Int.tdiv (w64 ((a : Int) + b)) 2) = (((a + b) / 2 : Nat) : Int) := by
        rw [w64_id (x := (a : Int) + b) (by omega) (by omega), Int.tdiv_eq_ediv_of_nonneg (by omega), w64_id (by omega) (by omega)]; omega
      have hmid : (a + b) / 2 < list.length := by omega
      rw [emid]
      have hless := spec_l3Less_ok (s := list[(a + b) / 2]) (t := t) (by rw [hv _ (List.getElem_mem hmid)]; omega) (by rw [hv _ (List.getElem_mem hmid), ht])
      simp only [inb_nat, gd_nat hmid, hless, Option.bind_some, w64_succ (show (a + b) / 2 < 4611686018427387904 by omega)]
      by_cases hc : cmpL list[(a + b) / 2] t < 0
      · obtain ⟨c, e, k1, k2, k3⟩ := ih ((a + b) / 2 + 1) b (by omega) hb (by omega) (fun i h hi' => by
          rcases Nat.lt_or_ge i ((a + b) / 2) with h' | h'
          · exact cmpL_trans (incB_lt hi i ((a + b) / 2) h' hmid) hc
          · have : i = (a + b) / 2 := by omega
            subst this; exact hc) h2
        exact ⟨c, by simpa [hlt, hmid, hc] using e, k1, k2, k3⟩
      · obtain ⟨c, e, k1, k2, k3⟩ := ih a ((a + b) / 2) (by omega) (by omega) (by omega) h1 (fun i h hi' hneg => by
          rcases Nat.lt_or_ge ((a + b) / 2) i with h' | h'
          · exact hc (cmpL_trans (incB_lt hi ((a + b) / 2) i h' h) hneg)
          · have : i = (a + b) / 2 := by omega
            subst this; exact hc hneg)
        exact ⟨c, by simpa [hlt, hmid, hc] using e, k1, k2, k3⟩
    · have : a = b := by omega
      subst this
      exact ⟨a, by simp, hb, h1, h2⟩
theorem spec_l8Find_ok {list : List (List Int)} {t : List Int} {k : Nat} (hl : list.length ≤ 1099511627774) (hk : k ≤ 1099511627775) (hv : ∀ u ∈ list, u.length = k) (ht : t.length = k) (hi : incB list = true) :
    ∃ c : Nat, spec_l8Find list t = some ((c : Int), decide (t ∈ list)) ∧ c ≤ list.length ∧ (∀ i (h : i < list.length), i < c → cmpL list[i] t < 0) ∧ (∀ i (h : i < list.length), c ≤ i → ¬ cmpL list[i] t < 0) := by
  obtain ⟨c, e, k1, k2, k3⟩ := find_L2 (by omega) hk hv ht hi fuel 0 list.length (Nat.zero_le _) (Nat.le_refl _) (by unfold fuel; omega) (fun i _ h => by omega) (fun i h h' => by omega)
  refine ⟨c, ?_, k1, k2, k3⟩
  unfold spec_l8Find
  have e' : spec_l8Find_L2 fuel (list, t, 0, (list.length : Int)) = some (list, t, (c : Int)) := e
  rw [e']
  simp only [Option.bind_some]
  by_cases hc : c < list.length
  · have hs := spec_l1Same_ok (a := list[c]) (b := t) (by rw [hv _ (List.getElem_mem hc)]; omega)
    simp only [inb_nat, gd_nat hc, hs, Option.bind_some]
    have : decide (list[c] = t) = decide (t ∈ list) := by
      by_cases h : list[c] = t
      · rw [decide_eq_true h, decide_eq_true (h ▸ List.getElem_mem hc)]
      · rw [decide_eq_false h]
        symm; rw [decide_eq_false_iff_not]
        intro hm
        obtain ⟨j, hj, rfl⟩ := List.mem_iff_getElem.1 hm
        have hne : j ≠ c := fun e => h (by subst e; rfl)
        rcases Nat.lt_or_ge j c with hlt | hge
        · have := k2 j hj hlt; rw [cmpL_refl] at this; omega
        · exact k3 c hc (Nat.le_refl _) (incB_lt hi c j (by omega) hj)
    simp [hc, this]
  · have : decide (t ∈ list) = false := by
      rw [decide_eq_false_iff_not]
      intro hm
      obtain ⟨j, hj, rfl⟩ := List.mem_iff_getElem.1 hm
      have := k2 j hj (by omega); rw [cmpL_refl] at this; omega
    rw [if_neg (by simp; omega), this]
end T
open Go Go.Va
namespace T
def sizeB (n : Int) : Bool := decide (1 ≤ n ∧ n ≤ 8)
theorem impl_isSize_ok (n : Int) : impl_isSize n = some (sizeB n) := by
 unfold impl_isSize sizeB
 by_cases h : 1 ≤ n <;> simp [h]
theorem spec_l6Size_ok (n : Int) : spec_l6Size n = some (sizeB n) := by
 unfold spec_l6Size sizeB
 rw [spec_l1In_ok]; simp
def tupB (n k : Int) (t : List Int) : Bool := decide ((t.length : Int) = k) && belowB n t
def setB (n k : Int) (ts : List (List Int)) : Bool := sizeB n && decide (1 ≤ k ∧ k ≤ 4) && ts.all (tupB n k) && incB ts
def stepB (n k : Int) (ts : List (List Int)) (i : Nat) : Bool := tupB n k (ts.getD i []) && (decide (i = 0) || decide (cmpL (ts.getD (i - 1) []) (ts.getD i []) < 0))
theorem getD_get {α : Type} {l : List α} {i : Nat} {d : α} (h : i < l.length) : l.getD i d = l[i] := by simp [h]
theorem step_all (n k : Int) (ts : List (List Int)) : (List.range ts.length).all (stepB n k ts) = (ts.all (tupB n k) && incB ts) := by
 rw [Bool.eq_iff_iff, Bool.and_eq_true, List.all_eq_true, List.all_eq_true, incB_iff]
 constructor
 ·intro h
  refine ⟨fun t ht => ?_, fun i hi => ?_⟩
  ·obtain ⟨i, hi, rfl⟩ := List.mem_iff_getElem.1 ht
   have := h i (by simpa using hi)
   unfold stepB at this
   rw [getD_get hi] at this
   simp at this; exact this.1
  ·have := h (i + 1) (by simpa using hi)
   unfold stepB at this
   rw [getD_get hi, Nat.add_sub_cancel, getD_get (show i < ts.length by omega)] at this
   simp only [Bool.and_eq_true, Bool.or_eq_true, decide_eq_true_eq] at this
   exact this.2.resolve_left (by omega)
 ·rintro ⟨h1, h2⟩ i hi
  have hi : i < ts.length := by simpa using hi
  unfold stepB
  rw [getD_get hi]
  simp only [Bool.and_eq_true, Bool.or_eq_true, decide_eq_true_eq]
  refine ⟨h1 _ (List.getElem_mem hi), ?_⟩
  cases i with
  | zero => exact .inl rfl
  | succ i => right; rw [Nat.add_sub_cancel, getD_get (show i < ts.length by omega)]; exact h2 i hi
theorem w64_pred {k : Nat} (h : k < 4611686018427387904) (h0 : 0 < k) : w64 ((k : Int) - 1) = ((k - 1 : Nat) : Int) := by
 rw [w64_id (by omega) (by omega)]; omega
theorem impl_isTupleSet_ok {n k : Int} {ts : List (List Int)} (hl : ts.length ≤ 1099511627774) (hr : ∀ t ∈ ts, t.length ≤ 1099511627775) : impl_isTupleSet n k ts = some (setB n k ts) := by
 unfold impl_isTupleSet setB
 rw [impl_isSize_ok, Bool.and_assoc, ← step_all]
 cases hs : sizeB n with
 | false => simp
 | true =>
  by_cases h1 : k < 1
  ·simp [h1, show ¬ 1 ≤ k by omega]
  ·by_cases h4 : k > 4
   ·simp [h1, h4, show ¬ k ≤ 4 by omega]
   ·simp only [Option.bind_some, Bool.not_true, Bool.false_eq_true, if_false]
    rw [if_neg (by simpa using h1), if_neg (by simpa using h4)]
    have key := forA ts.length (fun m (_ : Unit) i => impl_isTupleSet_L4 m (n, k, ts, ts, (ts.length : Int), i)) (fun _ => ()) (stepB n k ts) (r := some (.inr false)) (e := some (.inl ())) (fun m i hi => ?_) (fun m => ?_) (n := fuel) (by unfold fuel; omega)
    ·rw [key]
     cases (List.range ts.length).all (stepB n k ts) <;> simp <;> omega
    ·have hlen := hr ts[i] (List.getElem_mem hi)
     unfold stepB tupB
     rw [getD_get hi]
     simp only [impl_isTupleSet_L4, inb_nat, gd_nat hi, w64_succ (show i < 4611686018427387904 by omega), impl_inSize_ok n hlen, Option.bind_some]
     by_cases hk : (ts[i].length : Int) = k
     ·cases hb : belowB n ts[i] with
      | false => simp [hi, hk]
      | true =>
       cases i with
       | zero => simp [hi, hk]
       | succ i =>
        have hi' : i < ts.length := by omega
        rw [w64_pred (by omega) (by omega), Nat.add_sub_cancel, getD_get hi']
        simp only [gd_nat hi', impl_compareLists_ok (t := ts[i + 1]) (hr ts[i] (List.getElem_mem hi')), inb_nat, Option.bind_some]
        by_cases hc : cmpL ts[i] ts[i + 1] < 0
        ·simp [hi, hi', hk, show ¬ 0 ≤ cmpL ts[i] ts[i + 1] by omega, show (0 : Int) < (i : Int) + 1 by omega, show (i : Int) + 1 < ts.length by omega, hc]
        ·simp [hi, hi', hk, hc, show (0 : Int) < (i : Int) + 1 by omega, show (i : Int) + 1 < ts.length by omega, show 0 ≤ cmpL ts[i] ts[i + 1] by omega]
     ·simp [hi, hk]
    ·simp [impl_isTupleSet_L4]
theorem setB_count {n k : Int} {ts : List (List Int)} (h : setB n k ts = true) : (ts.length : Int) ≤ n ^ k.toNat := by
 unfold setB sizeB at h
 simp only [Bool.and_eq_true, decide_eq_true_eq, List.all_eq_true] at h
 obtain ⟨⟨⟨h1, h2⟩, h3⟩, h4⟩ := h
 rcases inc_count (n := n) (k := k.toNat) h4 fun t ht => by
  have := h3 t ht
  unfold tupB at this
  simp only [Bool.and_eq_true, decide_eq_true_eq] at this
  exact ⟨by omega, this.2⟩ with h | h
 ·exact h
 ·rw [h]; exact (pow_le_of (by omega) h1.2 k.toNat).1
theorem spec_l21Set_ok {n k : Int} {ts : List (List Int)} (hl : ts.length ≤ 1099511627774) (hr : ∀ t ∈ ts, t.length ≤ 1099511627775) : spec_l21Set n k ts = some (setB n k ts) := by
 unfold spec_l21Set
 rw [spec_l6Size_ok, spec_l1In_ok]
 cases hs : sizeB n with
 | false => simp [setB, hs]
 | true =>
  by_cases h1 : 1 ≤ k ∧ k ≤ 4
  ·have hsz : 1 ≤ n ∧ n ≤ 8 := by unfold sizeB at hs; simpa using hs
   have hp := spec_l2Pow_ok (n := n) (by omega) hsz.2 (k := k.toNat) (by omega)
   rw [show ((k.toNat : Nat) : Int) = k by omega] at hp
   simp only [Option.bind_some, Bool.not_true, Bool.false_eq_true, if_false, h1, and_self, decide_true, hp]
   by_cases hc : (ts.length : Int) > n ^ k.toNat
   ·rw [if_pos (by simpa using hc)]
    cases h : setB n k ts with
    | false => rfl
    | true => have := setB_count h; omega
   ·rw [if_neg (by simpa using hc)]
    have key := forF ts.length (fun m (_ : Unit) i => spec_l21Set_L4 m (n, k, ts, i)) (fun _ => ()) (fun i => if stepB n k ts i then none else some (some (.inr false))) (e := some (.inl ())) (fun m i hi hprev => ?_) (fun m => ?_) (n := fuel) (by unfold fuel; omega)
    ·rw [key]
     unfold setB
     rw [hs, Bool.and_assoc, ← step_all]
     have : ∀ l : List Nat, (l.findSome? fun i => if stepB n k ts i then none else some (some (.inr false : Unit ⊕ Bool))).getD (some (.inl ())) = if l.all (stepB n k ts) then some (.inl ()) else some (.inr false) := by
      intro l
      induction l with
      | nil => rfl
      | cons a l ih =>
       rw [List.findSome?_cons, List.all_cons]
       cases stepB n k ts a with
       | true => simpa using ih
       | false => simp
     rw [this]
     cases (List.range ts.length).all (stepB n k ts) <;> simp [h1]
    ·have hlen := hr ts[i] (List.getElem_mem hi)
     have htup := spec_l8Tuple_ok (l := ts[i]) (n := n) k (by omega) (by omega) hlen
     simp only [spec_l21Set_L4, inb_nat, gd_nat hi, w64_succ (show i < 4611686018427387904 by omega), htup, Option.bind_some]
     have hst : stepB n k ts i = ((decide ((ts[i].length : Int) = k) && belowB n ts[i]) && (decide (i = 0) || decide (cmpL (ts.getD (i - 1) []) ts[i] < 0))) := by unfold stepB tupB; rw [getD_get hi]
     rw [hst]
     cases hb : (decide ((ts[i].length : Int) = k) && belowB n ts[i]) with
     | false => simp [hi]
     | true =>
      cases i with
      | zero => simp [hi]
      | succ i =>
       have hi' : i < ts.length := by omega
       have hpv := hprev i (by omega)
       have hpv : stepB n k ts i = true := by
        cases h : stepB n k ts i with
        | true => rfl
        | false => rw [h] at hpv; simp at hpv
       unfold stepB tupB at hpv
       rw [getD_get hi'] at hpv
       simp only [Bool.and_eq_true, decide_eq_true_eq] at hpv hb
       have hless := spec_l3Less_ok (s := ts[i]) (t := ts[i + 1]) (hr ts[i] (List.getElem_mem hi')) (by omega)
       rw [w64_pred (by omega) (by omega), Nat.add_sub_cancel, getD_get hi']
       simp only [gd_nat hi', hless, inb_nat, Option.bind_some]
       by_cases hc : cmpL ts[i] ts[i + 1] < 0
       ·simp [hi, hi', hc, show (0 : Int) < (i : Int) + 1 by omega, show (i : Int) + 1 < ts.length by omega]
       ·simp [hi, hi', hc, show (0 : Int) < (i : Int) + 1 by omega, show (i : Int) + 1 < ts.length by omega]
    ·simp [spec_l21Set_L4]
  ·unfold setB; rw [hs]; simp [h1]
end T
open Go Go.Va
namespace T
structure SetOk (p : Int) (k : Nat) (ts : List (List Int)) : Prop where
 hp : 2 ≤ p ∧ p ≤ 7
 hk : k ≤ 4
 len : ∀ t ∈ ts, t.length = k
 el : ∀ t ∈ ts, belowB p t = true
 inc : incB ts = true
theorem SetOk.count {p : Int} {k : Nat} {ts : List (List Int)} (h : SetOk p k ts) : ts.length ≤ 2401 := by
 rcases inc_count (n := p) (k := k) h.inc fun t ht => ⟨h.len t ht, h.el t ht⟩ with h' | h'
 ·have hp := h.hp
  have e : p ^ k ≤ 7 ^ 4 := by
   have : (p.toNat ^ k : Nat) ≤ 7 ^ 4 := Nat.le_trans (Nat.pow_le_pow_left (show p.toNat ≤ 7 by omega) k) (Nat.pow_le_pow_right (by omega) h.hk)
   have e2 : ((p.toNat ^ k : Nat) : Int) = p ^ k := by
    rw [Int.natCast_pow]; congr 1; omega
   rw [← e2]; exact_mod_cast this
  have : (7 : Int) ^ 4 = 2401 := by decide
  omega
 ·rw [h']; simp
section
variable {p : Int} {k : Nat} {ts : List (List Int)}
end
end T
open Go Go.Va
namespace T
section
variable {p : Int} {k : Nat} {ts : List (List Int)}
end
theorem szR_small {a : List (List Int)} (h : ¬ szR (totSS a) 1048576 < 0) : a.length ≤ 1048576 ∧ ∀ r ∈ a, r.length ≤ 1048576 := szLinear_small (a := (0, 0, a)) h
end T
set_option linter.unusedVariables false
open Go Go.Va
namespace T
def spec_l1Own (l : List Int) : Option ((List Int)) :=
 if ([] : List Int).length + l.length ≤ lim then
  some ([] ++ l)
 else none
def laws_markIntS_L2 : Nat → ((List Int) × Int × Int) → Option ((List Int) × Int)
 | 0, _ => none
 | n + 1, (a, k, i) =>
  if decide (i < (a.length : Int)) then
   if inb i a then
    laws_markIntS_L2 n (stt a i k, w64 (k + 1), w64 (i + 1))
   else none
  else
   some (a, k)
def laws_markIntS (a : List Int) (k : Int) : Option ((List Int) × Int) :=
 (laws_markIntS_L2 fuel (a, k, 0)).bind fun s1 =>
  some (s1.1, s1.2)
def laws_markIntSS_L2 : Nat → ((List (List Int)) × Int × Int) → Option ((List (List Int)) × Int)
 | 0, _ => none
 | n + 1, (a, k, i) =>
  if decide (i < (a.length : Int)) then
   if inb i a then
    (laws_markIntS (gd a i []) k).bind fun r1 =>
     laws_markIntSS_L2 n (stt a i r1.1, r1.2, w64 (i + 1))
   else none
  else
   some (a, k)
def laws_markIntSS (a : List (List Int)) (k : Int) : Option ((List (List Int)) × Int) :=
 (laws_markIntSS_L2 fuel (a, k, 0)).bind fun s1 =>
  some (s1.1, s1.2)
def laws_heldIntS_L2 : Nat → ((List Int) × Int × Int) → Option ((Int) ⊕ (Int))
 | 0, _ => none
 | n + 1, (a, k, i) =>
  if decide (i < (a.length : Int)) then
   if inb i a then
    if (gd a i 0) != k then
     some (.inr (-1))
    else
     laws_heldIntS_L2 n (a, w64 (k + 1), w64 (i + 1))
   else none
  else
   some (.inl k)
def laws_heldIntS (a : List Int) (k : Int) : Option (Int) :=
 (laws_heldIntS_L2 fuel (a, k, 0)).bind fun s1 =>
  match s1 with
  | .inl s2 =>
   some s2
  | .inr s3 =>
   some s3
def laws_heldIntSS_L2 : Nat → ((List (List Int)) × Int × Int) → Option ((Int) ⊕ (Int))
 | 0, _ => none
 | n + 1, (a, k, i) =>
  if decide (i < (a.length : Int)) then
   if inb i a then
    (laws_heldIntS (gd a i []) k).bind fun r1 =>
     if decide (r1 < 0) then
      some (.inr (-1))
     else
      laws_heldIntSS_L2 n (a, r1, w64 (i + 1))
   else none
  else
   some (.inl k)
def laws_heldIntSS (a : List (List Int)) (k : Int) : Option (Int) :=
 (laws_heldIntSS_L2 fuel (a, k, 0)).bind fun s1 =>
  match s1 with
  | .inl s2 =>
   some s2
  | .inr s3 =>
   some s3
end T
open Go Go.Va
namespace T
abbrev Con := List Int × Int × List (List Int)
abbrev Net := Int × Int × List Con
theorem getD_of {α : Type} {l : List α} {k : Nat} {d : α} (h : k < l.length) : l.getD k d = l[k] := by simp [List.getD_eq_getElem?_getD, h]
end T
open Go Go.Va
namespace T
section
variable {v n up : Int} {c : Con} {vals : List Int}
theorem spec_l1Own_ok {l : List Int} (h : l.length ≤ 1099511627775) : spec_l1Own l = some l := by
 unfold spec_l1Own
 rw [if_pos (by unfold lim; simp; omega)]; simp
end
end T
open Go Go.Va
namespace T
def mk (bs : List Bool) : List Int := ((List.range bs.length).filter fun i => bs.getD i false).map fun i : Nat => (i : Int)
theorem getD_set_of {α : Type} {l : List α} {i j : Nat} {y d : α} : (l.set i y).getD j d = if i = j ∧ j < l.length then y else l.getD j d := by
 simp only [List.getD_eq_getElem?_getD, List.getElem?_set]
 by_cases h : i = j
 ·subst h
  by_cases h2 : i < l.length
  ·simp [h2]
  ·simp [h2]
 ·simp [h]
end T
open Go Go.Va
namespace T
def mkL {α : Type} (f : α → Int → α × Int) : List α → Int → List α × Int
 | [], k => ([], k)
 | x :: l, k => ((f x k).1 :: (mkL f l (f x k).2).1, (mkL f l (f x k).2).2)
theorem mkL_snoc {α : Type} (f : α → Int → α × Int) : ∀ (l : List α) (x : α) (k : Int), mkL f (l ++ [x]) k = ((mkL f l k).1 ++ [(f x (mkL f l k).2).1], (f x (mkL f l k).2).2)
 | [], x, k => by simp [mkL]
 | y :: l, x, k => by
  simp only [List.cons_append, mkL]
  rw [mkL_snoc f l x]
theorem mkL_len {α : Type} (f : α → Int → α × Int) : ∀ (l : List α) (k : Int), (mkL f l k).1.length = l.length
 | [], _ => rfl
 | x :: l, k => by simp [mkL, mkL_len f l]
theorem mkL_far {α : Type} {f : α → Int → α × Int} {w : α → Nat} : ∀ (l : List α) (k : Int), (∀ x ∈ l, ∀ k, (f x k).2 = k + w x) → (mkL f l k).2 = k + ((l.map w).sum : Nat)
 | [], k, _ => by simp [mkL]
 | x :: l, k, h => by
  simp only [mkL, List.map_cons, List.sum_cons]
  rw [mkL_far l _ fun y hy => h y (List.mem_cons_of_mem _ hy), h x (by simp)]; push_cast; omega
theorem markX {α β : Type} (N : Nat) (L : Nat → List α → Int → Int → Option β) (f : α → Int → α × Int) (w : α → Nat) (B : Int) (fin : List α → Int → Option β) (xs : List α) (k0 : Int) (hN : xs.length = N) (hw : ∀ x ∈ xs, ∀ k, (f x k).2 = k + w x)
    (h0 : 0 ≤ k0) (hB : k0 + ((xs.map w).sum : Nat) ≤ B)
    (hs : ∀ n (a : List α) (k : Int) (i : Nat) (hi : i < N) (hl : a.length = N), a[i]'(by omega) ∈ xs → 0 ≤ k → k + w (a[i]'(by omega)) ≤ B → L (n + 1) a k i = L n (a.set i (f (a[i]'(by omega)) k).1) (f (a[i]'(by omega)) k).2 ((i + 1 : Nat) : Int))
    (he : ∀ n a k, a.length = N → L (n + 1) a k (N : Nat) = fin a k) {n : Nat} (hn : N < n) : L n xs k0 0 = fin (mkL f xs k0).1 (mkL f xs k0).2 := by
  have far : ∀ i, i ≤ N → (mkL f (xs.take i) k0).2 = k0 + (((xs.take i).map w).sum : Nat) := fun i _ => mkL_far _ _ fun x hx => hw x (List.mem_of_mem_take hx)
  have := forS N (fun n (s : List α × Int) i => L n s.1 s.2 i) (fun i => ((mkL f (xs.take i) k0).1 ++ xs.drop i, (mkL f (xs.take i) k0).2)) (r := fin (mkL f xs k0).1 (mkL f xs k0).2) (fun n i hi => ?_) (fun n => ?_) hn
  · simpa [mkL] using this
  · have hix : i < xs.length := by omega
    have hlen : (mkL f (xs.take i) k0).1.length = i := by rw [mkL_len]; simp; omega
    have hl2 : ((mkL f (xs.take i) k0).1 ++ xs.drop i).length = N := by simp [hlen]; omega
    have hget : ((mkL f (xs.take i) k0).1 ++ xs.drop i)[i]'(by omega) = xs[i] := by
      rw [List.getElem_append_right (by omega)]; simp [hlen]
    have hsum : (((xs.take i).map w).sum : Nat) + w xs[i] ≤ (xs.map w).sum := by
      have h1 : xs = xs.take i ++ xs[i] :: xs.drop (i + 1) := by rw [← List.drop_eq_getElem_cons hix, List.take_append_drop]
      have h2 : (xs.map w).sum = ((xs.take i).map w).sum + (w xs[i] + ((xs.drop (i + 1)).map w).sum) := by
        conv => lhs; rw [h1]
        rw [List.map_append, List.sum_append, List.map_cons, List.sum_cons]
      omega
    have hf := far i (by omega)
    dsimp only
    rw [hs n _ _ i hi hl2 (by rw [hget]; exact List.getElem_mem hix) (by omega) (by rw [hget, hf]; omega), hget, List.take_succ_eq_append_getElem hix, mkL_snoc]
    congr 1
    rw [List.set_append_right _ _ (by omega), hlen, Nat.sub_self, List.drop_eq_getElem_cons hix, List.set_cons_zero, List.append_assoc]; rfl
  · dsimp only
    rw [List.take_of_length_le (by omega), List.drop_of_length_le (by omega), List.append_nil]
    exact he n _ _ (by rw [mkL_len]; exact hN)
theorem heldX {α : Type} (f : α → Int → α × Int) (h : α → Int → Option Int) (w : α → Nat) (B : Int) : ∀ (xs : List α) (k0 : Int) (L : Nat → Int → Int → Option (Int ⊕ Int)) (j : Nat), (∀ x ∈ xs, ∀ k, (f x k).2 = k + w x) → 0 ≤ k0 → k0 + ((xs.map w).sum : Nat) ≤ B →
    (∀ x ∈ xs, ∀ k, 0 ≤ k → k + w x ≤ B → h (f x k).1 k = some (f x k).2) →
    (∀ n k (i : Nat) (hi : i < xs.length), 0 ≤ k → k + w xs[i] ≤ B → L (n + 1) k ((j + i : Nat) : Int) = (h ((mkL f xs k0).1[i]'(by rw [mkL_len]; exact hi)) k).bind fun q => if q < 0 then some (.inr (-1)) else L n q ((j + i + 1 : Nat) : Int)) →
    (∀ n k, L (n + 1) k ((j + xs.length : Nat) : Int) = some (.inl k)) → ∀ n, xs.length < n → L n k0 (j : Int) = some (.inl (mkL f xs k0).2)
  | [], k0, L, j, _, _, _, _, _, he, n, hn => by
    obtain ⟨n, rfl⟩ : ∃ m, n = m + 1 := ⟨n - 1, by simp at hn; omega⟩
    have := he n k0
    simpa [mkL] using this
  | x :: xs, k0, L, j, hw, h0, hB, hh, hs, he, n, hn => by
    obtain ⟨n, rfl⟩ : ∃ m, n = m + 1 := ⟨n - 1, by simp at hn; omega⟩
    rw [List.map_cons, List.sum_cons] at hB
    have hx := hw x (by simp) k0
    have h1 := hs n k0 0 (by simp) h0 (by simp only [List.getElem_cons_zero]; omega)
    simp only [Nat.add_zero, mkL, List.getElem_cons_zero] at h1
    rw [h1, hh x (by simp) k0 h0 (by omega)]
    simp only [Option.bind_some]
    rw [if_neg (by omega)]
    have := heldX f h w B xs (f x k0).2 L (j + 1) (fun y hy => hw y (List.mem_cons_of_mem _ hy)) (by omega) (by rw [hx]; omega) (fun y hy => hh y (List.mem_cons_of_mem _ hy))
      (fun n k i hi hk0 hkB => by
        have := hs n k (i + 1) (by simpa using hi) hk0 (by simpa using hkB)
        simp only [mkL, List.getElem_cons_succ] at this
        rw [show j + 1 + i = j + (i + 1) by omega]; exact this)
      (fun n k => by have := he n k; rw [List.length_cons] at this; rw [show j + 1 + xs.length = j + (xs.length + 1) by omega]; exact this) n (by simp at hn; omega)
    exact this
abbrev BM : Int := 1152921504606846976
def mInt (_ : Int) (k : Int) : Int × Int := (k, k + 1)
def mIntS (l : List Int) (k : Int) : List Int × Int := mkL mInt l k
def mIntSS (l : List (List Int)) (k : Int) : List (List Int) × Int := mkL mIntS l k
theorem sum_one {α : Type} : ∀ (l : List α), (l.map fun _ => 1).sum = l.length
 | [] => rfl
 | _ :: l => by rw [List.map_cons, List.sum_cons, sum_one l, List.length_cons]; omega
theorem mIntS_far (l : List Int) (k : Int) : (mIntS l k).2 = k + (l.length : Nat) := by
 unfold mIntS
 rw [mkL_far (w := fun _ => 1) l k fun _ _ _ => rfl, sum_one]
theorem mIntSS_far (l : List (List Int)) (k : Int) : (mIntSS l k).2 = k + ((l.map List.length).sum : Nat) := by
 unfold mIntSS
 rw [mkL_far (w := List.length) l k fun x _ k => mIntS_far x k]
theorem markIntS_ok {l : List Int} {k : Int} (hl : l.length ≤ 1048576) (h0 : 0 ≤ k) (hB : k + l.length ≤ BM) : laws_markIntS l k = some (mIntS l k) := by
 unfold laws_markIntS
 have := markX l.length (fun n a k i => laws_markIntS_L2 n (a, k, i)) mInt (fun _ => 1) BM (fun a k => some (a, k)) l k rfl (fun _ _ _ => rfl) h0 (by rw [sum_one]; exact hB) (fun n a k i hi hl' _ hk0 hkB => ?_) (fun n a k hl' => ?_) (n := fuel) (by unfold fuel; omega)
 ·rw [this]; rfl
 ·have hk1 : w64 (k + 1) = k + 1 := w64_id (by omega) (by unfold BM at hkB; omega)
  simp only [laws_markIntS_L2, inb_nat, stt_nat, w64_succ (show i < 4611686018427387904 by omega), hk1, mInt]
  simp [hl', hi]
 ·simp [laws_markIntS_L2, hl']
theorem heldIntS_ok {l : List Int} {k : Int} (hl : l.length ≤ 1048576) (h0 : 0 ≤ k) (hB : k + l.length ≤ BM) : laws_heldIntS (mIntS l k).1 k = some (mIntS l k).2 := by
 unfold laws_heldIntS
 have hlen : (mIntS l k).1.length = l.length := mkL_len _ _ _
 have := heldX mInt (fun x k => if x = k then some (k + 1) else some (-1)) (fun _ => 1) BM l k (fun n k' i => laws_heldIntS_L2 n ((mIntS l k).1, k', i)) 0 (fun _ _ _ => rfl) h0 (by rw [sum_one]; exact hB) (fun x _ k' _ _ => by simp [mInt])
  (fun n k' i hi hk0 hkB => by
   have hi' : i < (mIntS l k).1.length := by omega
   have hk1 : w64 (k' + 1) = k' + 1 := w64_id (by omega) (by unfold BM at hkB; omega)
   rw [Nat.zero_add]
   simp only [laws_heldIntS_L2, inb_nat, gd_nat hi', w64_succ (show i < 4611686018427387904 by omega), hk1]
   have e : (mkL mInt l k).1[i]'(by rw [mkL_len]; exact hi) = (mIntS l k).1[i] := rfl
   rw [e]
   by_cases h : (mIntS l k).1[i] = k'
   ·simp [hi', hi, h, hlen, show ¬ k' + 1 < 0 by omega]
   ·simp [hi', hi, h, hlen])
  (fun n k' => by rw [Nat.zero_add]; simp [laws_heldIntS_L2, hlen]) fuel (by unfold fuel; omega)
 rw [show ((0 : Nat) : Int) = 0 from rfl] at this
 rw [this]; rfl
theorem markIntSS_ok {l : List (List Int)} {k : Int} (hl : l.length ≤ 1048576) (hr : ∀ r ∈ l, r.length ≤ 1048576) (h0 : 0 ≤ k) (hB : k + ((l.map List.length).sum : Nat) ≤ BM) : laws_markIntSS l k = some (mIntSS l k) := by
 unfold laws_markIntSS
 have := markX l.length (fun n a k i => laws_markIntSS_L2 n (a, k, i)) mIntS List.length BM (fun a k => some (a, k)) l k rfl (fun x _ k => mIntS_far x k) h0 hB (fun n a k i hi hl' hm hk0 hkB => ?_) (fun n a k hl' => ?_) (n := fuel) (by unfold fuel; omega)
 ·rw [this]; rfl
 ·have hia : i < a.length := by omega
  simp only [laws_markIntSS_L2, inb_nat, stt_nat, gd_nat hia, w64_succ (show i < 4611686018427387904 by omega), markIntS_ok (hr _ hm) hk0 hkB, Option.bind_some]
  simp [hl', hi]
 ·simp [laws_markIntSS_L2, hl']
theorem heldIntSS_ok {l : List (List Int)} {k : Int} (hl : l.length ≤ 1048576) (hr : ∀ r ∈ l, r.length ≤ 1048576) (h0 : 0 ≤ k) (hB : k + ((l.map List.length).sum : Nat) ≤ BM) : laws_heldIntSS (mIntSS l k).1 k = some (mIntSS l k).2 := by
 unfold laws_heldIntSS
 have hlen : (mIntSS l k).1.length = l.length := mkL_len _ _ _
 have := heldX mIntS laws_heldIntS List.length BM l k (fun n k' i => laws_heldIntSS_L2 n ((mIntSS l k).1, k', i)) 0 (fun x _ k => mIntS_far x k) h0 hB (fun x hx k' hk0 hkB => heldIntS_ok (hr x hx) hk0 hkB)
  (fun n k' i hi hk0 hkB => by
   have hi' : i < (mIntSS l k).1.length := by omega
   rw [Nat.zero_add]
   simp only [laws_heldIntSS_L2, inb_nat, gd_nat hi', w64_succ (show i < 4611686018427387904 by omega)]
   have e : (mkL mIntS l k).1[i]'(by rw [mkL_len]; exact hi) = (mIntSS l k).1[i] := rfl
   rw [e]
   simp [hlen, hi])
  (fun n k' => by rw [Nat.zero_add]; simp [laws_heldIntSS_L2, hlen]) fuel (by unfold fuel; omega)
 rw [show ((0 : Nat) : Int) = 0 from rfl] at this
 rw [this]; rfl
end T
set_option linter.unusedVariables false
open Go Go.Va
namespace T
def impl_compose_L3 : Nat → ((List Int) × (List Int) × (List Int) × Int × Int) → Option ((List Int))
 | 0, _ => none
 | n + 1, (g, h, t11, t12, t13) =>
  if decide (t13 < t12) then
   if inb t13 t11 then
    if inb (gd t11 t13 0) g then
     if inb t13 h then
      impl_compose_L3 n (g, stt h t13 (gd g (gd t11 t13 0) 0), t11, t12, w64 (t13 + 1))
     else none
    else none
   else none
  else
   some h
def impl_compose (f : List Int) (g : List Int) : Option ((List Int)) :=
 if 0 ≤ (f.length : Int) ∧ (f.length : Int) ≤ (f.length : Int) ∧ (f.length : Int) ≤ lim then
  (impl_compose_L3 fuel (g, List.replicate (Int.toNat (f.length : Int)) (0 : Int), f, (f.length : Int), 0)).bind fun s1 =>
   some s1
 else none
def impl_sameList_L4 : Nat → ((List Int) × (List Int) × Int × Int) → Option ((Unit) ⊕ (Bool))
 | 0, _ => none
 | n + 1, (b, t12, t13, t14) =>
  if decide (t14 < t13) then
   if inb t14 t12 then
    if inb t14 b then
     if (gd b t14 0) != (gd t12 t14 0) then
      some (.inr false)
     else
      impl_sameList_L4 n (b, t12, t13, w64 (t14 + 1))
    else none
   else none
  else
   some (.inl ())
def impl_sameList (a : List Int) (b : List Int) : Option (Bool) :=
 if (a.length : Int) != (b.length : Int) then
  some false
 else
  (impl_sameList_L4 fuel (b, a, (a.length : Int), 0)).bind fun s1 =>
   match s1 with
   | .inl s2 =>
    some true
   | .inr s3 =>
    some s3
end T
open Go Go.Va
namespace T
section
variable {a : Net}
theorem impl_sameList_ok {x y : List Int} (h : x.length ≤ 1048576) : impl_sameList x y = some (decide (x = y)) := by
 unfold impl_sameList
 by_cases hl : x.length = y.length
 ·rw [if_neg (by simp [hl])]
  rw [eqX x y hl (fun n i => impl_sameList_L4 n (y, x, (x.length : Int), i)) (fun n k h1 h2 => ?_) (fun n => ?_) (n := fuel) (by unfold fuel; omega)]
  ·by_cases e : x = y <;> simp [e]
  ·simp only [impl_sameList_L4, inb_nat, gd_nat h1, gd_nat h2, w64_succ (show k < 4611686018427387904 by omega)]
   by_cases e : x[k] = y[k]
   ·simp [h1, h2, e]
   ·have e' : y[k] ≠ x[k] := fun h => e h.symm
    simp [h1, h2, e, e']
  ·simp [impl_sameList_L4]
 ·have : x ≠ y := fun e => hl (by rw [e])
  rw [if_pos (by simp; omega)]; simp [this]
end
end T
open Go Go.Va
namespace T
theorem gd_D {α : Type} {k : Nat} {xs : List α} {d : α} : gd xs (k : Int) d = xs.getD k d := rfl
abbrev T3 := List (List (List Bool))
abbrev T4 := List (List (List (List Bool)))
def Cell4 (s : Nat) (c : List (List Bool)) : Prop := c.length = s ∧ ∀ x, x < s → (c.getD x []).length = s
def Row4 (n s : Nat) (r : T3) : Prop := r.length = n ∧ ∀ j, j < n → Cell4 s (r.getD j [])
def Ok4 (n s : Nat) (t : T4) : Prop := t.length = n ∧ ∀ i, i < n → Row4 n s (t.getD i [])
def r4 (t : T4) (i j x y : Nat) : Bool := (((t.getD i []).getD j []).getD x []).getD y false
def s4 (t : T4) (i j x y : Nat) (b : Bool) : T4 := t.set i ((t.getD i []).set j (((t.getD i []).getD j []).set x ((((t.getD i []).getD j []).getD x []).set y b)))
def Ok3 (n m : Nat) (u : T3) : Prop := u.length = n ∧ ∀ i, i < n → (u.getD i []).length = n ∧ ∀ j, j < n → ((u.getD i []).getD j []).length = m
def r3 (u : T3) (i j p : Nat) : Bool := ((u.getD i []).getD j []).getD p false
def s3 (u : T3) (i j p : Nat) (b : Bool) : T3 := u.set i ((u.getD i []).set j (((u.getD i []).getD j []).set p b))
section
variable {n s m : Nat} {t : T4} {u : T3}
theorem Ok4.at (h : Ok4 n s t) {i j x : Nat} (hi : i < n) (hj : j < n) (hx : x < s) : i < t.length ∧ j < (t.getD i []).length ∧ x < ((t.getD i []).getD j []).length ∧ (((t.getD i []).getD j []).getD x []).length = s :=
 ⟨by rw [h.1]; exact hi, by rw [(h.2 i hi).1]; exact hj, by rw [((h.2 i hi).2 j hj).1]; exact hx, ((h.2 i hi).2 j hj).2 x hx⟩
theorem Ok3.at (h : Ok3 n m u) {i j : Nat} (hi : i < n) (hj : j < n) : i < u.length ∧ j < (u.getD i []).length ∧ ((u.getD i []).getD j []).length = m :=
 ⟨by rw [h.1]; exact hi, by rw [(h.2 i hi).1]; exact hj, (h.2 i hi).2 j hj⟩
theorem s4_ok (h : Ok4 n s t) {i j x y : Nat} {b : Bool} : Ok4 n s (s4 t i j x y b) := by
 unfold s4
 refine ⟨by rw [List.length_set]; exact h.1, fun i' hi' => ?_⟩
 rw [getD_set_of]
 split
 ·rename_i hc
  obtain ⟨rfl, _⟩ := hc
  have hr := h.2 i hi'
  refine ⟨by rw [List.length_set]; exact hr.1, fun j' hj' => ?_⟩
  rw [getD_set_of]
  split
  ·rename_i hc
   obtain ⟨rfl, _⟩ := hc
   have hcl := hr.2 j hj'
   refine ⟨by rw [List.length_set]; exact hcl.1, fun x' hx' => ?_⟩
   rw [getD_set_of]
   split
   ·rename_i hc
    obtain ⟨rfl, _⟩ := hc
    rw [List.length_set]; exact hcl.2 x hx'
   ·exact hcl.2 x' hx'
  ·exact hr.2 j' hj'
 ·exact h.2 i' hi'
theorem s3_ok (h : Ok3 n m u) {i j p : Nat} {b : Bool} : Ok3 n m (s3 u i j p b) := by
 unfold s3
 refine ⟨by rw [List.length_set]; exact h.1, fun i' hi' => ?_⟩
 rw [getD_set_of]
 split
 ·rename_i hc
  obtain ⟨rfl, _⟩ := hc
  have hr := h.2 i hi'
  refine ⟨by rw [List.length_set]; exact hr.1, fun j' hj' => ?_⟩
  rw [getD_set_of]
  split
  ·rename_i hc
   obtain ⟨rfl, _⟩ := hc
   rw [List.length_set]; exact hr.2 j hj'
  ·exact hr.2 j' hj'
 ·exact h.2 i' hi'
theorem r4_s4 (h : Ok4 n s t) {i j x y : Nat} {b : Bool} (hi : i < n) (hj : j < n) (hx : x < s) (hy : y < s) (i' j' x' y' : Nat) :
    r4 (s4 t i j x y b) i' j' x' y' = if i = i' ∧ j = j' ∧ x = x' ∧ y = y' then b else r4 t i' j' x' y' := by
  obtain ⟨h1, h2, h3, h4⟩ := h.at hi hj hx
  unfold r4 s4
  rw [getD_set_of]
  by_cases e1 : i = i'
  · subst e1
    rw [if_pos ⟨rfl, h1⟩, getD_set_of]
    by_cases e2 : j = j'
    · subst e2
      rw [if_pos ⟨rfl, h2⟩, getD_set_of]
      by_cases e3 : x = x'
      · subst e3
        rw [if_pos ⟨rfl, h3⟩, getD_set_of]
        by_cases e4 : y = y'
        · subst e4; rw [if_pos ⟨rfl, by omega⟩, if_pos ⟨rfl, rfl, rfl, rfl⟩]
        · rw [if_neg (by omega), if_neg (by omega)]
      · rw [if_neg (by omega), if_neg (by omega)]
    · rw [if_neg (by omega), if_neg (by omega)]
  · rw [if_neg (by omega), if_neg (by omega)]
theorem r3_s3 (h : Ok3 n m u) {i j p : Nat} {b : Bool} (hi : i < n) (hj : j < n) (hp : p < m) (i' j' p' : Nat) :
    r3 (s3 u i j p b) i' j' p' = if i = i' ∧ j = j' ∧ p = p' then b else r3 u i' j' p' := by
  obtain ⟨h1, h2, h3⟩ := h.at hi hj
  unfold r3 s3
  rw [getD_set_of]
  by_cases e1 : i = i'
  · subst e1
    rw [if_pos ⟨rfl, h1⟩, getD_set_of]
    by_cases e2 : j = j'
    · subst e2
      rw [if_pos ⟨rfl, h2⟩, getD_set_of]
      by_cases e3 : p = p'
      · subst e3; rw [if_pos ⟨rfl, by omega⟩, if_pos ⟨rfl, rfl, rfl⟩]
      · rw [if_neg (by omega), if_neg (by omega)]
    · rw [if_neg (by omega), if_neg (by omega)]
  · rw [if_neg (by omega), if_neg (by omega)]
end
structure Rel34 (n s : Nat) (t : T4) (u : T3) : Prop where
 o4 : Ok4 n s t
 o3 : Ok3 n (s * s) u
 eq : ∀ i j x y, i < j → j < n → x < s → y < s → r4 t i j x y = r3 u i j (x * s + y) ∧ r4 t j i y x = r3 u i j (x * s + y)
theorem cell_lt {s x y : Nat} (hx : x < s) (hy : y < s) : x * s + y < s * s := by
 have : (x + 1) * s ≤ s * s := Nat.mul_le_mul_right _ hx
 rw [Nat.succ_mul] at this; omega
theorem cell_inj {s x y x' y' : Nat} (hy : y < s) (hy' : y' < s) (h : x * s + y = x' * s + y') : x = x' ∧ y = y' := by
 have h1 : (x * s + y) / s = x := by rw [Nat.mul_comm, Nat.mul_add_div (by omega), Nat.div_eq_of_lt hy]; omega
 have h2 : (x' * s + y') / s = x' := by rw [Nat.mul_comm, Nat.mul_add_div (by omega), Nat.div_eq_of_lt hy']; omega
 have : x = x' := by rw [← h1, ← h2, h]
 subst this
 exact ⟨rfl, by omega⟩
theorem Rel34.drop {n s : Nat} {t : T4} {u : T3} (h : Rel34 n s t u) {i j x y : Nat} (hij : i < j) (hj : j < n) (hx : x < s) (hy : y < s) :
    Rel34 n s (s4 (s4 t i j x y false) j i y x false) (s3 u i j (x * s + y) false) := by
  refine ⟨s4_ok (s4_ok h.o4), s3_ok h.o3, fun i' j' x' y' h1 h2 h3 h4 => ?_⟩
  have hi : i < n := by omega
  rw [r4_s4 (s4_ok h.o4) hj hi hy hx, r4_s4 h.o4 hi hj hx hy, r4_s4 (s4_ok h.o4) hj hi hy hx, r4_s4 h.o4 hi hj hx hy, r3_s3 h.o3 hi hj (cell_lt hx hy)]
  obtain ⟨e1, e2⟩ := h.eq i' j' x' y' h1 h2 h3 h4
  by_cases e : i = i' ∧ j = j' ∧ x = x' ∧ y = y'
  · obtain ⟨rfl, rfl, rfl, rfl⟩ := e
    simp
  · have e3 : ¬ (i = i' ∧ j = j' ∧ x * s + y = x' * s + y') := fun ⟨q1, q2, q3⟩ => by
      have := cell_inj hy h4 q3
      exact e ⟨q1, q2, this.1, this.2⟩
    have e4 : ¬ (j = i' ∧ i = j' ∧ y = x' ∧ x = y') := by omega
    have e5 : ¬ (i = j' ∧ j = i' ∧ x = y' ∧ y = x') := by omega
    have e6 : ¬ (j = j' ∧ i = i' ∧ y = y' ∧ x = x') := by omega
    simp only [if_neg e, if_neg e3, if_neg e4, if_neg e5, if_neg e6]
    exact ⟨e1, e2⟩
end T
open Go Go.Va
namespace T
section
variable {a : Net} {n s : Nat} {t : T4} {u : T3}
def PA (n s i : Nat) (t : T4) : Prop := t.length = n ∧ ∀ i', i' < i → Row4 n s (t.getD i' [])
def PB (n s i j : Nat) (t : T4) : Prop := PA n s i t ∧ (t.getD i []).length = n ∧ ∀ j', j' < j → Cell4 s ((t.getD i []).getD j' [])
theorem PA.set {i : Nat} (h : PA n s i t) (r : T3) : PA n s i (t.set i r) := by
 refine ⟨by rw [List.length_set]; exact h.1, fun i' hi' => ?_⟩
 rw [getD_set_of, if_neg (by omega)]; exact h.2 i' hi'
theorem PB.set {i j : Nat} (h : PB n s i j t) (hi : i < n) (c : List (List Bool)) : PB n s i j (t.set i ((t.getD i []).set j c)) := by
 have hl := h.1.1
 refine ⟨h.1.set _, ?_, fun j' hj' => ?_⟩
 ·rw [getD_set_of, if_pos ⟨rfl, by omega⟩, List.length_set]; exact h.2.1
 ·rw [getD_set_of, if_pos ⟨rfl, by omega⟩, getD_set_of, if_neg (by omega)]; exact h.2.2 j' hj'
end
end T
set_option linter.unusedVariables false
open Go Go.Va
namespace T
def impl_keyOf_L3 : Nat → ((List Int) × (List Int) × Int × Int) → Option ((List Int))
 | 0, _ => none
 | n + 1, (b, t10, t11, t12) =>
  if decide (t12 < t11) then
   if inb t12 t10 then
    if (0 : Int) ≤ 8 then
     if b.length + [IntKind.wrap .u8 (shrI .i64 (gd t10 t12 0) 8), IntKind.wrap .u8 (gd t10 t12 0)].length ≤ lim then
      impl_keyOf_L3 n (b ++ [IntKind.wrap .u8 (shrI .i64 (gd t10 t12 0) 8), IntKind.wrap .u8 (gd t10 t12 0)], t10, t11, w64 (t12 + 1))
     else none
    else none
   else none
  else
   some b
def impl_keyOf (list : List Int) : Option (ByteArray) :=
 if (0 : Int) ≤ 0 ∧ (0 : Int) ≤ (w64 (2 * (list.length : Int))) ∧ (w64 (2 * (list.length : Int))) ≤ lim then
  (impl_keyOf_L3 fuel (List.replicate (Int.toNat 0) (0 : Int), list, (list.length : Int), 0)).bind fun s1 =>
   some (bytesOf s1)
 else none
end T
open Go Go.Va
namespace T
abbrev RelT := Int × List (List Int)
section
variable {n k m : Nat} {r : RelT}
end
end T
open Go Go.Va
namespace T
section
variable {n : Int} {rels : List RelT}
end
def posL (V : List Int) (x : Nat) : Int := match V.findIdx? (fun y => y == (x : Int)) with | some i => (i : Int) | none => -1
section
variable {n : Nat} {t : List Int}
end
section
variable {n m : Nat} {t : List Int} {r : RelT} {rels : List RelT}
end
end T
open Go Go.Va
namespace T
section
variable {α : Type} {nw old : Nat → α} {N i : Nat}
end
def pr4 (p : Int) : Prop := p = 2 ∨ p = 3 ∨ p = 5 ∨ p = 7
def okRow (p : Int) (W : Nat) (r : List Int) : Prop := r.length = W ∧ ∀ x ∈ r, 0 ≤ x ∧ x < p
section
variable {p : Int} {W : Nat} {r row : List Int}
theorem ok_get (h : okRow p W r) {i : Nat} (hi : i < W) : 0 ≤ r.getD i 0 ∧ r.getD i 0 < p := by
 have : i < r.length := by rw [h.1]; exact hi
 rw [getD_of this]; exact h.2 _ (List.getElem_mem this)
end
abbrev ES := List (List Int) × List Int × List (List Int)
structure ESok (p : Int) (W N v : Nat) (s : ES) : Prop where
 t : ∀ r ∈ s.1, okRow p W r
 l : ∀ r ∈ s.2.2, okRow p W r
 bl : s.2.1.length = s.1.length
 n : s.1.length + s.2.2.length = N
 bv : ∀ x ∈ s.2.1, 0 ≤ x ∧ x < (v : Int)
 bn : s.2.1.Nodup
section
variable {p : Int} {W N : Nat}
end
end T
open Go Go.Va
namespace T
section
variable {p : Int} {W N V : Nat}
theorem posL_none {b : List Int} {u : Nat} (h : (u : Int) ∉ b) : posL b u = -1 := by
 unfold posL
 have h1 : (b.findIdx? fun y => y == (u : Int)) = none := by
  rw [List.findIdx?_eq_none_iff]
  intro y hy
  simp only [beq_eq_false_iff_ne]
  intro e; exact h (e ▸ hy)
 rw [h1]
theorem posL_at {b : List Int} {u : Nat} (h : (u : Int) ∈ b) : ∃ i, ∃ hi : i < b.length, posL b u = (i : Int) ∧ b[i] = (u : Int) := by
 unfold posL
 have h1 : (b.findIdx? fun y => y == (u : Int)).isSome = true := by
  rw [List.findIdx?_isSome, List.any_eq_true]
  exact ⟨_, h, by simp⟩
 obtain ⟨i, hi⟩ := Option.isSome_iff_exists.1 h1
 rw [hi]
 obtain ⟨g1, g2, _⟩ := List.findIdx?_eq_some_iff_getElem.1 hi
 exact ⟨i, g1, rfl, by simpa using g2⟩
end
end T
open Go Go.Va
namespace T
def freeL (N : Nat) (b : List Int) : List Int := ((List.range N).filter fun v : Nat => !decide ((v : Int) ∈ b)).map fun v : Nat => (v : Int)
section
variable {p : Int} {W N V : Nat}
theorem posL_neg {b : List Int} {u : Nat} : posL b u < 0 ↔ (u : Int) ∉ b := by
 by_cases h : (u : Int) ∈ b
 ·obtain ⟨i, hi, h1, _⟩ := posL_at h
  rw [h1]; simp [h]
 ·rw [posL_none h]; simp [h]
def solV (V : Nat) (s : ES) (u : Nat) : Int := if posL s.2.1 u < 0 then 0 else (s.1.getD (posL s.2.1 u).toNat []).getD V 0
def solL (V : Nat) (s : ES) : List Int := (List.range V).map (solV V s)
end
end T
open Go Go.Va
namespace T
section
variable {a : Lin}
theorem tot_le {t : Nat} (h : ¬ szR t 1048576 < 0) : t ≤ 1048576 := by
 unfold szR at h; split at h <;> omega
end
end T
open Go Go.Va
namespace T
section
variable {a : Lin} {p : Int} {W N V : Nat}
theorem sum_le16 : ∀ {l : List (List Int)}, (∀ r ∈ l, r.length ≤ 16) → (l.map List.length).sum ≤ 16 * l.length
 | [], _ => by simp
 | r :: l, h => by
  have := sum_le16 (l := l) fun q hq => h q (List.mem_cons_of_mem _ hq)
  have := h r (by simp)
  rw [List.map_cons, List.sum_cons, List.length_cons]; omega
end
end T
open Go Go.Va
namespace T
def cg (p a b : Int) : Prop := ∃ k, a = b + p * k
section
variable {p a b c d : Int}
theorem cg_of (h : a = b) : cg p a b := ⟨0, by rw [h]; simp⟩
end
inductive Sp (p : Int) (V : Nat) (A : List (List Int)) : (Nat → Int) → Prop
 | zero : Sp p V A fun _ => 0
 | add {f : Nat → Int} (r : List Int) (c : Int) : r ∈ A → Sp p V A f → Sp p V A fun i => f i + c * r.getD i 0
 | cgr {f g : Nat → Int} : Sp p V A f → (∀ i, i < V → cg p (g i) (f i)) → Sp p V A g
section
variable {p : Int} {V W N : Nat} {A B : List (List Int)} {f g : Nat → Int}
theorem Sp.mem {r : List Int} (h : r ∈ A) : Sp p V A fun i => r.getD i 0 := (Sp.add r 1 h .zero).cgr fun i _ => cg_of (by simp)
def eqSp (p : Int) (V : Nat) (A B : List (List Int)) : Prop := ∀ f, Sp p V A f ↔ Sp p V B f
end
end T
open Go Go.Va
namespace T
section
variable {p : Int} {V W N : Nat} {A B : List (List Int)} {f g : Nat → Int}
theorem getD_mem {α : Type} {l : List α} {i : Nat} {d : α} (hi : i < l.length) : l.getD i d ∈ l := by rw [getD_of hi]; exact List.getElem_mem hi
end
end T
open Go Go.Va
namespace T
section
variable {p : Int} {V W N : Nat} {A B C D : List (List Int)} {f g : Nat → Int}
theorem eqSp.symm (h : eqSp p V A B) : eqSp p V B A := fun f => (h f).symm
theorem eqSp.trans (h : eqSp p V A B) (g : eqSp p V B C) : eqSp p V A C := fun f => (h f).trans (g f)
end
end T
open Go Go.Va
namespace T
def i64 (x : Int) : Prop := -9223372036854775808 ≤ x ∧ x ≤ 9223372036854775807
section
variable {c : List Int} {ar : Int}
end
end T
open Go Go.Va
namespace T
abbrev NS := Bool × Int × List (List (List Int)) × List (List (List ByteArray))
abbrev NIn (σ : Type) := Int × List Int × σ × NS × List Int × Unit
abbrev NOut (σ : Type) := List Int × σ × NS × List Int × Bool
def hM {σ : Type} : Nat → (Int × List Int × σ × NS × List Int × Unit × Int × Bool × List (List Int) × Int × Int) → Option (Int × List Int × σ × NS × List Int × Unit × Int × Bool)
 | 0, _ => none
 | n + 1, (t0, t1, t2, t3, t4, t5, t8, t9, t50, t51, t52) =>
  if decide (t52 < t51) then
   if inb t52 t50 then
    if t9 then
     if t3.1 = true then
      if inb t0 t3.2.2.2 then
       if inb t52 (gd t3.2.2.2 t0 []) then
        (impl_compose (gd t50 t52 []) t1).bind fun r2 =>
         (impl_keyOf r2).bind fun r3 =>
          hM n (t0, t1, t2, t3, t4, (), t8, mhas (gd (gd t3.2.2.2 t0 []) t52 []) r3, t50, t51, w64 (t52 + 1))
       else none
      else none
     else none
    else
     hM n (t0, t1, t2, t3, t4, (), t8, false, t50, t51, w64 (t52 + 1))
   else none
  else
   some (t0, t1, t2, t3, t4, (), t8, t9)
def hL {σ : Type} (rec : NIn σ → Option (NOut σ)) : Nat → (Int × List Int × σ × NS × List Int × Unit × Int) → Option ((List Int × σ × NS × List Int × Unit) ⊕ (List Int × σ × NS × List Int × Unit × Bool))
 | 0, _ => none
 | n + 1, (t0, t1, t2, t3, t4, t5, t8) =>
  if t3.1 = true then
   if decide (t8 < t3.2.1) then
    if inb t0 t4 then
     if decide ((gd t4 t0 0) ≥ 0) then
      if inb t0 t4 then
       if (gd t4 t0 0) != t8 then
        hL rec n (t0, t1, t2, t3, t4, (), w64 (t8 + 1))
       else
        if inb t0 t1 then
         if t3.1 = true then
          if inb t0 t3.2.2.1 then
           (hM fuel (t0, stt t1 t0 t8, t2, t3, t4, (), t8, true, gd t3.2.2.1 t0 [], ((gd t3.2.2.1 t0 []).length : Int), 0)).bind fun s2 =>
            if s2.2.2.2.2.2.2.2 then
             (rec (w64 (s2.1 + 1), s2.2.1, s2.2.2.1, s2.2.2.2.1, s2.2.2.2.2.1, ())).bind fun r3 =>
              if !r3.2.2.2.2 then
               some (.inr (r3.1, r3.2.1, r3.2.2.1, r3.2.2.2.1, (), false))
              else
               hL rec n (s2.1, r3.1, r3.2.1, r3.2.2.1, r3.2.2.2.1, (), w64 (s2.2.2.2.2.2.2.1 + 1))
            else
             hL rec n (s2.1, s2.2.1, s2.2.2.1, s2.2.2.2.1, s2.2.2.2.2.1, (), w64 (s2.2.2.2.2.2.2.1 + 1))
          else none
         else none
        else none
      else none
     else
      if inb t0 t1 then
       if t3.1 = true then
        if inb t0 t3.2.2.1 then
         (hM fuel (t0, stt t1 t0 t8, t2, t3, t4, (), t8, true, gd t3.2.2.1 t0 [], ((gd t3.2.2.1 t0 []).length : Int), 0)).bind fun s4 =>
          if s4.2.2.2.2.2.2.2 then
           (rec (w64 (s4.1 + 1), s4.2.1, s4.2.2.1, s4.2.2.2.1, s4.2.2.2.2.1, ())).bind fun r5 =>
            if !r5.2.2.2.2 then
             some (.inr (r5.1, r5.2.1, r5.2.2.1, r5.2.2.2.1, (), false))
            else
             hL rec n (s4.1, r5.1, r5.2.1, r5.2.2.1, r5.2.2.2.1, (), w64 (s4.2.2.2.2.2.2.1 + 1))
          else
           hL rec n (s4.1, s4.2.1, s4.2.2.1, s4.2.2.2.1, s4.2.2.2.2.1, (), w64 (s4.2.2.2.2.2.2.1 + 1))
        else none
       else none
      else none
    else none
   else
    some (.inl (t1, t2, t3, t4, ()))
  else none
def hBody {σ : Type} (cb : List Int → σ → Option (σ × Bool)) (rec : NIn σ → Option (NOut σ)) (x : NIn σ) : Option (NOut σ) :=
 if x.1 == (x.2.1.length : Int) then
  (cb x.2.1 x.2.2.1).bind fun r1 => some (x.2.1, r1.1, x.2.2.2.1, x.2.2.2.2.1, r1.2)
 else
  (hL rec fuel (x.1, x.2.1, x.2.2.1, x.2.2.2.1, x.2.2.2.2.1, (), 0)).bind fun s2 =>
   match s2 with
   | .inl s3 => some (s3.1, s3.2.1, s3.2.2.1, s3.2.2.2.1, true)
   | .inr s4 => some (s4.1, s4.2.1, s4.2.2.1, s4.2.2.2.1, s4.2.2.2.2.2)
def hF {σ : Type} (cb : List Int → σ → Option (σ × Bool)) : Nat → NIn σ → Option (NOut σ)
 | 0, _ => none
 | d + 1, x => hBody cb (hF cb d) x
section
variable {V n : Nat} {cs : List Con} {given : List Int}
end
end T
set_option linter.unusedVariables false
open Go Go.Va
namespace T
def spec_l8Put (list : List (List Int)) (t : List Int) : Option ((List (List Int))) :=
 (spec_l8Find list t).bind fun r1 =>
  if r1.2 then
   some list
  else
   if (0 : Int) ≤ 0 ∧ 0 ≤ r1.1 ∧ r1.1 ≤ (list.length : Int) then
    if ([] : List (List Int)).length + ((list.take (Int.toNat r1.1)).drop (Int.toNat 0)).length ≤ lim then
     if ([] ++ ((list.take (Int.toNat r1.1)).drop (Int.toNat 0))).length + [t].length ≤ lim then
      if (0 : Int) ≤ r1.1 ∧ r1.1 ≤ (list.length : Int) ∧ (list.length : Int) ≤ (list.length : Int) then
       if (([] ++ ((list.take (Int.toNat r1.1)).drop (Int.toNat 0))) ++ [t]).length + ((list.take (Int.toNat (list.length : Int))).drop (Int.toNat r1.1)).length ≤ lim then
        some ((([] ++ ((list.take (Int.toNat r1.1)).drop (Int.toNat 0))) ++ [t]) ++ ((list.take (Int.toNat (list.length : Int))).drop (Int.toNat r1.1)))
       else none
      else none
     else none
    else none
   else none
end T
open Go Go.Va
namespace T
def sortL (cmp : List Int → List Int → Int) (rows : List (List Int)) : List (List Int) := rows.mergeSort (fun x y => !decide (cmp y x < 0))
def cmpT (s t : List Int) : Int := if s.length < t.length then -1 else if t.length < s.length then 1 else cmpL s t
theorem cmpT_refl (s : List Int) : cmpT s s = 0 := by unfold cmpT; rw [if_neg (by omega), if_neg (by omega), cmpL_refl]
theorem cmpT_symm (s t : List Int) : cmpT t s = - cmpT s t := by
 unfold cmpT
 by_cases h1 : s.length < t.length
 ·rw [if_neg (by omega), if_pos h1, if_pos h1]; rfl
 ·by_cases h2 : t.length < s.length
  ·rw [if_pos h2, if_neg h1, if_pos h2]
  ·rw [if_neg h2, if_neg h1, if_neg h1, if_neg h2, cmpL_symm]
theorem cmpT_eq {s t : List Int} (h : cmpT s t = 0) : s = t := by
 unfold cmpT at h
 by_cases h1 : s.length < t.length
 ·rw [if_pos h1] at h; exact absurd h (by decide)
 ·rw [if_neg h1] at h
  by_cases h2 : t.length < s.length
  ·rw [if_pos h2] at h; exact absurd h (by decide)
  ·rw [if_neg h2] at h; exact cmpL_eq.1 h
theorem cmpT_trans {s t u : List Int} (h1 : cmpT s t < 0) (h2 : cmpT t u < 0) : cmpT s u < 0 := by
 unfold cmpT at *
 by_cases a1 : s.length < u.length
 ·rw [if_pos a1]; decide
 ·rw [if_neg a1]
  by_cases b1 : s.length < t.length
  ·have b2 : u.length < t.length := by omega
   rw [if_neg (by omega), if_pos b2] at h2; exact absurd h2 (by decide)
  ·rw [if_neg b1] at h1
   by_cases b3 : t.length < s.length
   ·rw [if_pos b3] at h1; exact absurd h1 (by decide)
   ·rw [if_neg b3] at h1
    by_cases c1 : t.length < u.length
    ·omega
    ·rw [if_neg c1] at h2
     by_cases c2 : u.length < t.length
     ·rw [if_pos c2] at h2; exact absurd h2 (by decide)
     ·rw [if_neg c2] at h2
      rw [if_neg (by omega)]
      exact cmpL_trans h1 h2
end T
open Go Go.Va
namespace T
theorem incB_pair {l : List (List Int)} : incB l = true ↔ l.Pairwise (fun a b => cmpL a b < 0) := by
 constructor
 ·intro h
  rw [List.pairwise_iff_getElem]
  exact fun i j hi hj hij => incB_lt h i j hij hj
 ·intro h
  rw [incB_iff]
  rw [List.pairwise_iff_getElem] at h
  exact fun i hi => h i (i + 1) (by omega) hi (by omega)
theorem spec_l8Put_ok {list : List (List Int)} {t : List Int} {k : Nat} (hl : list.length ≤ 1000000) (hk : k ≤ 1000000) (hv : ∀ u ∈ list, u.length = k) (ht : t.length = k) (hi : incB list = true) :
    ∃ out, spec_l8Put list t = some out ∧ incB out = true ∧ (∀ u, u ∈ out ↔ u = t ∨ u ∈ list) ∧ (t ∉ list → out.Perm (t :: list)) := by
  obtain ⟨c, e, k1, k2, k3⟩ := spec_l8Find_ok (by omega) (by omega) hv ht hi
  unfold spec_l8Put
  rw [e]
  simp only [Option.bind_some]
  by_cases hm : t ∈ list
  · rw [decide_eq_true hm, if_pos rfl]
    exact ⟨list, rfl, hi, fun u => ⟨Or.inr, fun h => h.elim (fun h => h ▸ hm) id⟩, fun h => absurd hm h⟩
  · rw [decide_eq_false hm, if_neg (by simp)]
    have e1 : (list.take (Int.toNat (c : Int))).drop (Int.toNat 0) = list.take c := by simp
    have e2 : (list.take (Int.toNat (list.length : Int))).drop (Int.toNat (c : Int)) = list.drop c := by simp
    have hlim : lim = 1099511627776 := rfl
    have t1 : (list.take c).length = c := by rw [List.length_take]; omega
    rw [e1, e2, if_pos (by omega), if_pos (by simp; omega), if_pos (by simp; omega), if_pos (by omega), if_pos (by simp; omega)]
    refine ⟨_, rfl, ?_, fun u => ?_, fun _ => ?_⟩
    · rw [incB_pair] at hi ⊢
      simp only [List.nil_append]
      have hsp : list = list.take c ++ list.drop c := (List.take_append_drop c list).symm
      rw [hsp, List.pairwise_append] at hi
      have h4 : ∀ u ∈ list.take c, cmpL u t < 0 := fun u hu => by
        obtain ⟨i, hi', rfl⟩ := List.mem_iff_getElem.1 hu
        rw [List.getElem_take]
        exact k2 i _ (by omega)
      have h5 : ∀ u ∈ list.drop c, cmpL t u < 0 := fun u hu => by
        obtain ⟨i, hi', rfl⟩ := List.mem_iff_getElem.1 hu
        rw [List.length_drop] at hi'
        rw [List.getElem_drop]
        have h6 := k3 (c + i) (by omega) (by omega)
        have h7 := cmpL_symm (list[c + i]'(by omega)) t
        have h8 : cmpL (list[c + i]'(by omega)) t ≠ 0 := fun h => hm (by rw [← cmpL_eq.1 h]; exact List.getElem_mem _)
        omega
      rw [List.pairwise_append, List.pairwise_append]
      refine ⟨⟨hi.1, List.pairwise_singleton _ _, fun a ha b hb => by rw [List.mem_singleton.1 hb]; exact h4 a ha⟩, hi.2.1, fun a ha b hb => ?_⟩
      rcases List.mem_append.1 ha with ha | ha
      · exact hi.2.2 a ha b hb
      · rw [List.mem_singleton.1 ha]; exact h5 b hb
    · have hsp : u ∈ list ↔ u ∈ list.take c ∨ u ∈ list.drop c := by rw [← List.mem_append, List.take_append_drop]
      simp only [List.nil_append, List.mem_append, List.mem_singleton, hsp]
      constructor
      · rintro ((h | h) | h)
        · exact Or.inr (Or.inl h)
        · exact Or.inl h
        · exact Or.inr (Or.inr h)
      · rintro (h | h | h)
        · exact Or.inl (Or.inr h)
        · exact Or.inl (Or.inl h)
        · exact Or.inr h
    · simp only [List.nil_append]
      refine (List.Perm.append_right _ (List.perm_append_comm)).trans ?_
      rw [List.append_assoc, List.take_append_drop]
      exact List.Perm.refl _
theorem cmpL_anti {x y : List Int} (h1 : ¬ cmpL y x < 0) (h2 : ¬ cmpL x y < 0) : x = y := by
 have := cmpL_symm x y
 exact cmpL_eq.1 (by omega)
theorem sortL_of {out l : List (List Int)} (hi : incB out = true) (hp : out.Perm l) : sortL cmpL l = out := by
 have hs : (sortL cmpL l).Pairwise fun x y => (!decide (cmpL y x < 0)) = true := by
  unfold sortL
  refine List.pairwise_mergeSort (fun a b c h1 h2 => ?_) (fun a b => ?_) l
  ·simp only [Bool.not_eq_true', decide_eq_false_iff_not] at *
   intro h3
   have q1 := cmpL_symm a b
   have q2 := cmpL_symm b c
   by_cases e : cmpL a b = 0
   ·rw [cmpL_eq.1 e] at h3; exact h2 h3
   ·exact h2 (cmpL_trans h3 (by omega))
  ·simp only [Bool.or_eq_true, Bool.not_eq_true', decide_eq_false_iff_not]
   have q1 := cmpL_symm a b
   omega
 have ho : out.Pairwise fun x y => (!decide (cmpL y x < 0)) = true := by
  refine (incB_pair.1 hi).imp ?_
  intro a b h
  simp only [Bool.not_eq_true', decide_eq_false_iff_not]
  have q1 := cmpL_symm a b
  omega
 have hpp : (sortL cmpL l).Perm out := (List.mergeSort_perm l _).trans hp.symm
 refine List.Perm.eq_of_pairwise (fun a b _ _ h1 h2 => ?_) hs ho hpp
 simp only [Bool.not_eq_true', decide_eq_false_iff_not] at h1 h2
 exact cmpL_anti h1 h2
end T
set_option linter.unusedVariables false
open Go Go.Va
namespace T
def impl_sortRows_impl_compareLists (a0 : List (List Int)) (a1 : Unit) : Option (List (List Int)) :=
 if List.length a0 ≤ lim ∧ List.all a0 (fun x => decide (List.length x ≤ lim)) = true then some (sortL cmpL a0) else none
end T
open Go Go.Va
namespace T
section
variable {p : Int} {W N V : Nat}
def coG (p : Int) (s : ES) (u : Nat) (f : Int) : Int := if posL s.2.1 u < 0 then (if f = (u : Int) then 1 else 0) else p - (s.1.getD (posL s.2.1 u).toNat []).getD f.toNat 0
def sumG (p : Int) (V : Nat) (s : ES) (F x : List Int) (u : Nat) : Nat → Int
 | 0 => solV V s u
 | k + 1 => sumG p V s F x u k + coG p s u (F.getD k 0) * x.getD k 0
def vecG (p : Int) (V : Nat) (s : ES) (F x : List Int) (k : Nat) : List Int := (List.range V).map fun u => sumG p V s F x u k % p
structure GenOk (p : Int) (W N V : Nat) (s : ES) (F x : List Int) : Prop where
 hp : pr4 p
 hs : ESok p W N V s
 hV : V < W
 hW : W ≤ 1000
 hN : N ≤ 100000
 hF : F = freeL V s.2.1
 hx : x.length = F.length
 xb : ∀ v ∈ x, 0 ≤ v ∧ v < p
variable {s : ES} {F x : List Int}
theorem GenOk.pb (g : GenOk p W N V s F x) : 2 ≤ p ∧ p ≤ 7 := by have := g.hp; unfold pr4 at this; omega
theorem GenOk.row (g : GenOk p W N V s F x) {u : Nat} (hu : ¬ posL s.2.1 u < 0) : (posL s.2.1 u).toNat < s.1.length ∧ okRow p W (s.1.getD (posL s.2.1 u).toNat []) := by
 have hm : (u : Int) ∈ s.2.1 := by
  rcases Decidable.em ((u : Int) ∈ s.2.1) with h | h
  ·exact h
  ·exact absurd (posL_neg.2 h) hu
 obtain ⟨i, hi, g1, _⟩ := posL_at hm
 rw [g1, Int.toNat_natCast]
 have := g.hs.bl
 exact ⟨by omega, by rw [getD_of (by omega)]; exact g.hs.t _ (List.getElem_mem _)⟩
theorem GenOk.base (g : GenOk p W N V s F x) (u : Nat) : 0 ≤ solV V s u ∧ solV V s u < p := by
 have := g.pb
 unfold solV
 split
 ·omega
 ·rename_i h
  exact ok_get (g.row h).2 g.hV
end
end T
open Go Go.Va
namespace T
section
variable {p : Int} {W N V : Nat} {s : ES} {F x : List Int}
theorem GenOk.zero (g : GenOk p W N V s F x) : vecG p V s F x 0 = solL V s := by
 unfold vecG solL
 refine List.map_congr_left fun u _ => ?_
 have := g.base u
 simp only [sumG]
 exact Int.emod_eq_of_lt this.1 this.2
end
end T
open Go Go.Va
namespace T
section
variable {a : Lin} {p : Int} {W N V : Nat} {s : ES} {F : List Int}
theorem sortL_perm (l : List (List Int)) : (sortL cmpL l).Perm l := List.mergeSort_perm l _
end
end T
open Go Go.Va
namespace T
def keepI (xs : List (List Int)) : List Nat := (List.range xs.length).filter fun i => i == 0 || xs.getD (i - 1) [] != xs.getD i []
def diffL (xs : List (List Int)) : List (List Int) := (keepI xs).map fun i => xs.getD i []
def dgP : List Int → List (List Int) → List (List Int)
 | _, [] => []
 | p, x :: l => if p = x then dgP x l else x :: dgP x l
theorem diff_from : ∀ (l pre : List (List Int)) (p : List Int), ((List.range' (pre ++ [p]).length l.length).filter fun i => i == 0 || (pre ++ [p] ++ l).getD (i - 1) [] != (pre ++ [p] ++ l).getD i []).map (fun i => (pre ++ [p] ++ l).getD i []) = dgP p l
 | [], _, _ => rfl
 | x :: l, pre, p => by
  have ih := diff_from l (pre ++ [p]) x
  have e : pre ++ [p] ++ [x] ++ l = pre ++ [p] ++ (x :: l) := by simp
  rw [e] at ih
  have e2 : (pre ++ [p] ++ [x]).length = (pre ++ [p]).length + 1 := by simp
  rw [e2] at ih
  have g1 : (pre ++ [p] ++ (x :: l)).getD ((pre ++ [p]).length - 1) [] = p := by
   rw [List.getD_eq_getElem?_getD, List.getElem?_append_left (by simp), List.length_append, List.length_singleton, Nat.add_sub_cancel, List.getElem?_append_right (Nat.le_refl _), Nat.sub_self]; rfl
  have g2 : (pre ++ [p] ++ (x :: l)).getD (pre ++ [p]).length [] = x := by
   rw [List.getD_eq_getElem?_getD, List.getElem?_append_right (Nat.le_refl _), Nat.sub_self]; rfl
  have g3 : ((pre ++ [p]).length == 0) = false := by simp
  rw [List.length_cons, List.range'_succ, List.filter_cons, g1, g2, g3, dgP]
  by_cases h : p = x
  ·rw [if_neg (by simp [h]), if_pos h]; exact ih
  ·rw [if_pos (by simp [h]), if_neg h, List.map_cons, g2]; exact congrArg _ ih
theorem diffL_cons {x : List Int} {l : List (List Int)} : diffL (x :: l) = x :: dgP x l := by
 have h := diff_from l [] x
 unfold diffL keepI
 rw [List.range_eq_range', List.length_cons, List.range'_succ, List.filter_cons, if_pos (by simp), List.map_cons]
 exact congrArg _ h
theorem dgP_mem : ∀ {l : List (List Int)} {p u : List Int}, (u ∈ dgP p l ∨ u = p) ↔ (u ∈ l ∨ u = p)
 | [], _, _ => Iff.rfl
 | x :: l, p, u => by
  have ih := dgP_mem (l := l) (p := x) (u := u)
  unfold dgP
  by_cases h : p = x
  ·subst h
   rw [if_pos rfl, ih, List.mem_cons]
   exact ⟨fun h => h.elim (fun h => Or.inl (Or.inr h)) Or.inr, fun h => h.elim (fun h => h.elim Or.inr Or.inl) Or.inr⟩
  ·rw [if_neg h, List.mem_cons, List.mem_cons]
   constructor
   ·rintro ((h | h) | h)
    ·exact Or.inl (Or.inl h)
    ·exact Or.inl ((ih.1 (Or.inl h)).elim Or.inr Or.inl)
    ·exact Or.inr h
   ·rintro ((h | h) | h)
    ·exact Or.inl (Or.inl h)
    ·exact Or.inl ((ih.2 (Or.inl h)).elim Or.inr Or.inl)
    ·exact Or.inr h
theorem diffL_mem {l : List (List Int)} {u : List Int} : u ∈ diffL l ↔ u ∈ l := by
 cases l with
 | nil => exact Iff.rfl
 | cons x l =>
  rw [diffL_cons, List.mem_cons, List.mem_cons]
  have := dgP_mem (l := l) (p := x) (u := u)
  exact ⟨fun h => (this.1 h.symm).symm, fun h => (this.2 h.symm).symm⟩
theorem dgP_inc : ∀ {l : List (List Int)} {p : List Int}, (p :: l).Pairwise (fun a b => ¬ cmpL b a < 0) → (p :: dgP p l).Pairwise fun a b => cmpL a b < 0
 | [], _, _ => List.pairwise_singleton _ _
 | x :: l, p, h => by
  have h1 := List.pairwise_cons.1 h
  have ih := dgP_inc (l := l) (p := x) h1.2
  unfold dgP
  by_cases e : p = x
  ·subst e; rw [if_pos rfl]; exact ih
  ·rw [if_neg e]
   refine List.pairwise_cons.2 ⟨fun b hb => ?_, ih⟩
   have hlt : cmpL p x < 0 := by
    have h2 := h1.1 x (List.mem_cons_self ..)
    have h3 := cmpL_symm p x
    have h4 : cmpL p x ≠ 0 := fun h => e (cmpL_eq.1 h)
    omega
   rcases List.mem_cons.1 hb with rfl | hb
   ·exact hlt
   ·exact cmpL_trans hlt ((List.pairwise_cons.1 ih).1 b hb)
theorem sortL_le (l : List (List Int)) : (sortL cmpL l).Pairwise fun a b => ¬ cmpL b a < 0 := by
 have hs : (sortL cmpL l).Pairwise fun x y => (!decide (cmpL y x < 0)) = true := by
  unfold sortL
  refine List.pairwise_mergeSort (fun a b c h1 h2 => ?_) (fun a b => ?_) l
  ·simp only [Bool.not_eq_true', decide_eq_false_iff_not] at *
   intro h3
   have q1 := cmpL_symm a b
   have q2 := cmpL_symm b c
   by_cases e : cmpL a b = 0
   ·rw [cmpL_eq.1 e] at h3; exact h2 h3
   ·exact h2 (cmpL_trans h3 (by omega))
  ·simp only [Bool.or_eq_true, Bool.not_eq_true', decide_eq_false_iff_not]
   have q1 := cmpL_symm a b
   omega
 exact hs.imp fun {a b} h => by simpa using h
def setL (l : List (List Int)) : List (List Int) := diffL (sortL cmpL l)
theorem setL_mem {l : List (List Int)} {u : List Int} : u ∈ setL l ↔ u ∈ l := by
 unfold setL; rw [diffL_mem]; exact (List.mergeSort_perm l _).mem_iff
theorem setL_inc (l : List (List Int)) : incB (setL l) = true := by
 rw [incB_pair]
 unfold setL
 have h := sortL_le l
 generalize sortL cmpL l = s at h
 cases s with
 | nil => exact List.Pairwise.nil
 | cons x s => rw [diffL_cons]; exact dgP_inc h
theorem inc_uniq : ∀ {a b : List (List Int)}, incB a = true → incB b = true → (∀ u, u ∈ a ↔ u ∈ b) → a = b := by
 intro a b ha hb h
 have pa := incB_pair.1 ha
 have pb := incB_pair.1 hb
 have na : a.Nodup := pa.imp fun {x y} h e => by rw [e, cmpL_refl] at h; omega
 have nb : b.Nodup := pb.imp fun {x y} h e => by rw [e, cmpL_refl] at h; omega
 have hp : a.Perm b := (List.perm_ext_iff_of_nodup na nb).2 h
 rw [← sortL_of ha (List.Perm.refl _), ← sortL_of hb (List.Perm.refl _)]
 have h1 := sortL_of ha hp
 have h2 := sortL_of hb (List.Perm.refl b)
 have h3 := sortL_of ha (List.Perm.refl a)
 rw [h2, h3, ← h1, h2]
theorem setL_of {out l : List (List Int)} (hi : incB out = true) (hm : ∀ u, u ∈ out ↔ u ∈ l) : setL l = out :=
 inc_uniq (setL_inc l) hi fun u => setL_mem.trans (hm u).symm
end T
set_option linter.unusedVariables false
open Go Go.Va
namespace T
def spec_l21Pair_L5 : Nat → ((List (List Int)) × Int × Int × Int × Int × Int) → Option (((List (List Int)) × Int × Int × Int × Int) ⊕ (Int × Int × Bool))
 | 0, _ => none
 | n + 1, (tuples, i, x, y, a, b) =>
  if decide (b < (tuples.length : Int)) then
   if inb a tuples then
    if inb i (gd tuples a []) then
     if (gd (gd tuples a []) i 0) == x then
      if inb b tuples then
       if inb i (gd tuples b []) then
        if (gd (gd tuples b []) i 0) == y then
         if inb a tuples then
          if (0 : Int) ≤ 0 ∧ 0 ≤ i ∧ i ≤ ((gd tuples a []).length : Int) then
           if inb b tuples then
            if (0 : Int) ≤ 0 ∧ 0 ≤ i ∧ i ≤ ((gd tuples b []).length : Int) then
             (spec_l1Same (((gd tuples a []).take (Int.toNat i)).drop (Int.toNat 0)) (((gd tuples b []).take (Int.toNat i)).drop (Int.toNat 0))).bind fun r1 =>
              if r1 then
               some (.inr (a, b, true))
              else
               spec_l21Pair_L5 n (tuples, i, x, y, a, w64 (b + 1))
            else none
           else none
          else none
         else none
        else
         spec_l21Pair_L5 n (tuples, i, x, y, a, w64 (b + 1))
       else none
      else none
     else
      spec_l21Pair_L5 n (tuples, i, x, y, a, w64 (b + 1))
    else none
   else none
  else
   some (.inl (tuples, i, x, y, a))
def spec_l21Pair_L2 : Nat → ((List (List Int)) × Int × Int × Int × Int) → Option ((Unit) ⊕ (Int × Int × Bool))
 | 0, _ => none
 | n + 1, (tuples, i, x, y, a) =>
  if decide (a < (tuples.length : Int)) then
   (spec_l21Pair_L5 fuel (tuples, i, x, y, a, 0)).bind fun s1 =>
    match s1 with
    | .inl s2 =>
     spec_l21Pair_L2 n (s2.1, s2.2.1, s2.2.2.1, s2.2.2.2.1, w64 (s2.2.2.2.2 + 1))
    | .inr s3 =>
     some (.inr (s3.1, s3.2.1, s3.2.2))
  else
   some (.inl ())
def spec_l21Pair (tuples : List (List Int)) (i : Int) (x : Int) (y : Int) : Option (Int × Int × Bool) :=
 (spec_l21Pair_L2 fuel (tuples, i, x, y, 0)).bind fun s1 =>
  match s1 with
  | .inl s2 =>
   some (0, 0, false)
  | .inr s3 =>
   some (s3.1, s3.2.1, s3.2.2)
def spec_l21Forks_L9 : Nat → (Int × Int × (List (List Int)) × (List (List Int)) × (List (List Int)) × Int × Int × Int) → Option (Int × Int × (List (List Int)) × (List (List Int)) × (List (List Int)) × Int × Int)
 | 0, _ => none
 | n + 1, (t0, t1, t2, t8, t9, t10, t11, t12) =>
  if decide (t12 < t0) then
   (spec_l21Pair t2 t10 t11 t12).bind fun r1 =>
    if r1.2.2 then
     if t8.length + [[t10, t11, t12]].length ≤ lim then
      if inb r1.1 t2 then
       (spec_l1Own (gd t2 r1.1 [])).bind fun r2 =>
        (spec_l8Put t9 r2).bind fun r3 =>
         if inb r1.2.1 t2 then
          (spec_l1Own (gd t2 r1.2.1 [])).bind fun r4 =>
           (spec_l8Put r3 r4).bind fun r5 =>
            spec_l21Forks_L9 n (t0, t1, t2, t8 ++ [[t10, t11, t12]], r5, t10, t11, w64 (t12 + 1))
         else none
      else none
     else none
    else
     spec_l21Forks_L9 n (t0, t1, t2, t8, t9, t10, t11, w64 (t12 + 1))
  else
   some (t0, t1, t2, t8, t9, t10, t11)
def spec_l21Forks_L6 : Nat → (Int × Int × (List (List Int)) × (List (List Int)) × (List (List Int)) × Int × Int) → Option (Int × Int × (List (List Int)) × (List (List Int)) × (List (List Int)) × Int)
 | 0, _ => none
 | n + 1, (t0, t1, t2, t8, t9, t10, t11) =>
  if decide (t11 < t0) then
   (spec_l21Forks_L9 fuel (t0, t1, t2, t8, t9, t10, t11, 0)).bind fun s1 =>
    spec_l21Forks_L6 n (s1.1, s1.2.1, s1.2.2.1, s1.2.2.2.1, s1.2.2.2.2.1, s1.2.2.2.2.2.1, w64 (s1.2.2.2.2.2.2 + 1))
  else
   some (t0, t1, t2, t8, t9, t10)
def spec_l21Forks_L3 : Nat → (Int × Int × (List (List Int)) × (List (List Int)) × (List (List Int)) × Int) → Option ((List (List Int)) × (List (List Int)))
 | 0, _ => none
 | n + 1, (t0, t1, t2, t8, t9, t10) =>
  if decide (t10 < t1) then
   (spec_l21Forks_L6 fuel (t0, t1, t2, t8, t9, t10, 0)).bind fun s1 =>
    spec_l21Forks_L3 n (s1.1, s1.2.1, s1.2.2.1, s1.2.2.2.1, s1.2.2.2.2.1, w64 (s1.2.2.2.2.2 + 1))
  else
   some (t8, t9)
def spec_l21Forks (t0 : Int) (t1 : Int) (t2 : List (List Int)) : Option ((List (List Int)) × (List (List Int))) :=
 (spec_l21Forks_L3 fuel (t0, t1, t2, [], [], 0)).bind fun s1 =>
  some (s1.1, s1.2)
def spec_ForksOf (n_ : Int) (k : Int) (tuples : List (List Int)) : Option ((List (List Int)) × Bool) :=
 (spec_l21Set n_ k tuples).bind fun r1 =>
  if !r1 then
   some ([], false)
  else
   (spec_l21Forks n_ k tuples).bind fun r2 =>
    some (r2.1, true)
def impl_different (a0 : List (List Int)) : Option (List (List Int)) :=
 if List.length a0 ≤ lim ∧ List.all a0 (fun x => decide (List.length x ≤ lim)) = true then some (diffL a0) else none
def impl_ForksOf_c1 (i : Int) (t : List Int) (u : List Int) (t3 : List (List Int)) : Option ((List (List Int))) :=
 if inb i t then
  if inb i u then
   if t3.length + [[i, gd t i 0, gd u i 0]].length ≤ lim then
    some (t3 ++ [[i, gd t i 0, gd u i 0]])
   else none
  else none
 else none
def impl_forksOf_impl_ForksOf_c1_L7 : Nat → (Int × (List (List Int)) × (List (List Int)) × Int × Int × Int × (List (List Int))) → Option (Int × (List (List Int)) × (List (List Int)) × Int × Int × (List (List Int)))
 | 0, _ => none
 | n + 1, (t0, t1, t2, t6, t7, t8, t9) =>
  if decide (t8 < (t1.length : Int)) then
   if inb t7 t1 then
    if (0 : Int) ≤ 0 ∧ 0 ≤ t6 ∧ t6 ≤ ((gd t1 t7 []).length : Int) then
     if inb t8 t1 then
      if (0 : Int) ≤ 0 ∧ 0 ≤ t6 ∧ t6 ≤ ((gd t1 t8 []).length : Int) then
       (impl_sameList (((gd t1 t7 []).take (Int.toNat t6)).drop (Int.toNat 0)) (((gd t1 t8 []).take (Int.toNat t6)).drop (Int.toNat 0))).bind fun r1 =>
        if r1 then
         if t8 == t7 then
          if inb t8 t1 then
           if t9.length + [gd t1 t8 []].length ≤ lim then
            impl_forksOf_impl_ForksOf_c1_L7 n (t0, t1, t2, t6, t7, w64 (t8 + 1), t9 ++ [gd t1 t8 []])
           else none
          else none
         else
          if inb t8 t1 then
           if inb t6 (gd t1 t8 []) then
            if inb (w64 (t8 - 1)) t1 then
             if inb t6 (gd t1 (w64 (t8 - 1)) []) then
              if (gd (gd t1 t8 []) t6 0) != (gd (gd t1 (w64 (t8 - 1)) []) t6 0) then
               if inb t8 t1 then
                if t9.length + [gd t1 t8 []].length ≤ lim then
                 impl_forksOf_impl_ForksOf_c1_L7 n (t0, t1, t2, t6, t7, w64 (t8 + 1), t9 ++ [gd t1 t8 []])
                else none
               else none
              else
               impl_forksOf_impl_ForksOf_c1_L7 n (t0, t1, t2, t6, t7, w64 (t8 + 1), t9)
             else none
            else none
           else none
          else none
        else
         some (t0, t1, t2, t6, t8, t9)
      else none
     else none
    else none
   else none
  else
   some (t0, t1, t2, t6, t8, t9)
def impl_forksOf_impl_ForksOf_c1_L15 : Nat → (Unit × Unit × Int × (List (List Int)) × (List (List Int)) × Int × Int × (List (List Int)) × (List Int) × Int × Int × Int × Int) → Option (Unit × Int × (List (List Int)) × (List (List Int)) × Int × Int × (List (List Int)) × Int × Int)
 | 0, _ => none
 | n + 1, (al74, al80, t0, t1, t2, t6, t8, t9, t11, t75, t76, t81, t82) =>
  if decide (t82 < t81) then
   if inb t82 t9 then
    (impl_ForksOf_c1 t6 t11 (gd t9 t82 []) t2).bind fun r3 =>
     impl_forksOf_impl_ForksOf_c1_L15 n ((), (), t0, t1, r3, t6, t8, t9, t11, t75, t76, t81, w64 (t82 + 1))
   else none
  else
   some ((), t0, t1, t2, t6, t8, t9, t75, t76)
def impl_forksOf_impl_ForksOf_c1_L12 : Nat → (Unit × Int × (List (List Int)) × (List (List Int)) × Int × Int × (List (List Int)) × Int × Int) → Option (Int × (List (List Int)) × (List (List Int)) × Int × Int)
 | 0, _ => none
 | n + 1, (al74, t0, t1, t2, t6, t8, t9, t75, t76) =>
  if decide (t76 < t75) then
   if inb t76 t9 then
    (impl_forksOf_impl_ForksOf_c1_L15 fuel ((), (), t0, t1, t2, t6, t8, t9, gd t9 t76 [], t75, t76, (t9.length : Int), 0)).bind fun s3 =>
     impl_forksOf_impl_ForksOf_c1_L12 n ((), s3.2.1, s3.2.2.1, s3.2.2.2.1, s3.2.2.2.2.1, s3.2.2.2.2.2.1, s3.2.2.2.2.2.2.1, s3.2.2.2.2.2.2.2.1, w64 (s3.2.2.2.2.2.2.2.2 + 1))
   else none
  else
   some (t0, t1, t2, t6, t8)
def impl_forksOf_impl_ForksOf_c1_L4 : Nat → (Int × (List (List Int)) × (List (List Int)) × Int × Int) → Option (Int × (List (List Int)) × (List (List Int)) × Int)
 | 0, _ => none
 | n + 1, (t0, t1, t2, t6, t7) =>
  if decide (t7 < (t1.length : Int)) then
   (impl_forksOf_impl_ForksOf_c1_L7 fuel (t0, t1, t2, t6, t7, t7, [])).bind fun s1 =>
    (impl_forksOf_impl_ForksOf_c1_L12 fuel ((), s1.1, s1.2.1, s1.2.2.1, s1.2.2.2.1, s1.2.2.2.2.1, s1.2.2.2.2.2, (s1.2.2.2.2.2.length : Int), 0)).bind fun s2 =>
     impl_forksOf_impl_ForksOf_c1_L4 n (s2.1, s2.2.1, s2.2.2.1, s2.2.2.2.1, s2.2.2.2.2)
  else
   some (t0, t1, t2, t6)
def impl_forksOf_impl_ForksOf_c1_L1 : Nat → (Int × (List (List Int)) × (List (List Int)) × Int) → Option ((List (List Int)))
 | 0, _ => none
 | n + 1, (t0, t1, t2, t6) =>
  if decide (t6 < t0) then
   (impl_forksOf_impl_ForksOf_c1_L4 fuel (t0, t1, t2, t6, 0)).bind fun s1 =>
    impl_forksOf_impl_ForksOf_c1_L1 n (s1.1, s1.2.1, s1.2.2.1, w64 (s1.2.2.2 + 1))
  else
   some t2
def impl_forksOf_impl_ForksOf_c1 (t0 : Int) (t1 : List (List Int)) (t2 : List (List Int)) : Option ((List (List Int))) :=
 (impl_forksOf_impl_ForksOf_c1_L1 fuel (t0, t1, t2, 0)).bind fun s1 =>
  some s1
def impl_ForksOf (n_ : Int) (k : Int) (tuples : List (List Int)) : Option ((List (List Int)) × Bool) :=
 (impl_isTupleSet n_ k tuples).bind fun r1 =>
  if !r1 then
   some ([], false)
  else
   (impl_forksOf_impl_ForksOf_c1 k tuples []).bind fun r2 =>
    (impl_sortRows_impl_compareLists r2 ()).bind fun r3 =>
     (impl_different r3).bind fun r4 =>
      some (r4, true)
def laws_FnExactForksOf (t0 : Int) (t1 : Int) (t2 : List (List Int)) : Option (Bool) :=
 (laws_szIntSS t2 1048576).bind fun r1 =>
  if decide (r1 < 0) then
   some true
  else
   (laws_toIntSS t2).bind fun r2 =>
    (spec_ForksOf t0 t1 r2).bind fun r3 =>
     (laws_toIntSS t2).bind fun r4 =>
      (impl_ForksOf t0 t1 r4).bind fun r5 =>
       (laws_eqIntSS r5.1 r3.1).bind fun r6 =>
        if !r6 then
         some false
        else
         if r5.2 != r3.2 then
          some false
         else
          (laws_toIntSS t2).bind fun r7 =>
           (laws_eqIntSS r4 r7).bind fun r8 =>
            if !r8 then
             some false
            else
             (laws_markIntSS r4 1).bind fun r9 =>
              if decide (r9.2 < 0) then
               some false
              else
               (laws_eqIntSS r5.1 r3.1).bind fun r10 =>
                if !r10 then
                 some false
                else
                 if r5.2 != r3.2 then
                  some false
                 else
                  (laws_markIntSS r5.1 1).bind fun r11 =>
                   (laws_heldIntSS r11.1 1).bind fun r12 =>
                    if decide (r12 < 0) then
                     some false
                    else
                     if r12 != r11.2 then
                      some false
                     else
                      (laws_toIntSS t2).bind fun r13 =>
                       (impl_ForksOf t0 t1 r13).bind fun r14 =>
                        (laws_eqIntSS r14.1 r3.1).bind fun r15 =>
                         if !r15 then
                          some false
                         else
                          if r14.2 != r3.2 then
                           some false
                          else
                           (laws_heldIntSS r11.1 1).bind fun r16 =>
                            if decide (r16 < 0) then
                             some false
                            else
                             if r16 != r11.2 then
                              some false
                             else
                              some true
end T
open Go Go.Va
namespace T
structure TupS (n : Int) (k : Nat) (ts : List (List Int)) : Prop where
 hn : 1 ≤ n ∧ n ≤ 8
 hk : 1 ≤ k ∧ k ≤ 4
 len : ∀ t ∈ ts, t.length = k
 el : ∀ t ∈ ts, belowB n t = true
 inc : incB ts = true
theorem tupS_of {n k : Int} {ts : List (List Int)} (h : setB n k ts = true) : TupS n k.toNat ts ∧ (k.toNat : Int) = k := by
 unfold setB at h
 simp only [Bool.and_eq_true, decide_eq_true_eq, List.all_eq_true] at h
 obtain ⟨⟨⟨h1, h2⟩, h3⟩, h4⟩ := h
 unfold sizeB at h1
 simp only [decide_eq_true_eq] at h1
 refine ⟨⟨h1, by omega, fun t ht => ?_, fun t ht => ?_, h4⟩, by omega⟩
 ·have := h3 t ht; unfold tupB at this; simp at this; omega
 ·have := h3 t ht; unfold tupB at this; simp at this; exact this.2
theorem TupS.count {n : Int} {k : Nat} {ts : List (List Int)} (h : TupS n k ts) : ts.length ≤ 4096 := by
 rcases inc_count (n := n) (k := k) h.inc fun t ht => ⟨h.len t ht, h.el t ht⟩ with h' | h'
 ·have hp := h.hn
  have e : n ^ k ≤ 8 ^ 4 := by
   have : (n.toNat ^ k : Nat) ≤ 8 ^ 4 := Nat.le_trans (Nat.pow_le_pow_left (show n.toNat ≤ 8 by omega) k) (Nat.pow_le_pow_right (by omega) h.hk.2)
   have e2 : ((n.toNat ^ k : Nat) : Int) = n ^ k := by
    rw [Int.natCast_pow]; congr 1; omega
   rw [← e2]; exact_mod_cast this
  have : (8 : Int) ^ 4 = 4096 := by decide
  omega
 ·rw [h']; simp
theorem pre_conv : ∀ {s t u : List Int} {i : Nat}, s.length = t.length → t.length = u.length → cmpL s t ≤ 0 → cmpL t u ≤ 0 → s.take i = u.take i → t.take i = s.take i
 | _, _, _, 0, _, _, _, _, _ => rfl
 | [], [], _, i + 1, _, _, _, _, _ => rfl
 | a :: s, b :: t, c :: u, i + 1, h1, h2, h3, h4, h5 => by
  rw [List.take_succ_cons, List.take_succ_cons] at h5
  obtain ⟨e, h6⟩ := List.cons.inj h5
  subst e
  simp only [cmpL] at h3 h4
  have eb : a = b := by
   by_cases h : a = b
   ·exact h
   ·rw [if_neg h] at h3; rw [if_neg (fun e => h e.symm)] at h4
    by_cases hlt : a < b
    ·rw [if_neg (by omega)] at h4; exact absurd h4 (by decide)
    ·rw [if_neg hlt] at h3; exact absurd h3 (by decide)
  subst eb
  rw [if_pos rfl] at h3 h4
  rw [List.take_succ_cons, List.take_succ_cons, pre_conv (by simpa using h1) (by simpa using h2) h3 h4 h6]
section
variable {n : Int} {k : Nat} {ts : List (List Int)}
def preT (ts : List (List Int)) (i j : Nat) : List Int := (ts.getD j []).take i
def valT (ts : List (List Int)) (i j : Nat) : Int := (ts.getD j []).getD i 0
theorem TupS.le (h : TupS n k ts) {a b : Nat} (hab : a ≤ b) (hb : b < ts.length) : cmpL (ts.getD a []) (ts.getD b []) ≤ 0 := by
 rcases Nat.lt_or_ge a b with hlt | hge
 ·have := incB_lt h.inc a b hlt hb
  rw [getD_of hb, getD_of (show a < ts.length by omega)]; omega
 ·have : a = b := by omega
  subst this; rw [cmpL_refl]; omega
theorem TupS.conv (h : TupS n k ts) {i a b c : Nat} (hab : a ≤ b) (hbc : b ≤ c) (hc : c < ts.length) (he : preT ts i a = preT ts i c) : preT ts i b = preT ts i a := by
 have hl : ∀ j, j < ts.length → (ts.getD j []).length = k := fun j hj => h.len _ (getD_mem hj)
 exact pre_conv ((hl a (by omega)).trans (hl b (by omega)).symm) ((hl b (by omega)).trans (hl c hc).symm) (h.le hab (by omega)) (h.le hbc hc) he
theorem TupS.lenj (h : TupS n k ts) {j : Nat} (hj : j < ts.length) : (ts.getD j []).length = k := h.len _ (getD_mem hj)
def Fir (ts : List (List Int)) (i a b : Nat) (fs : List (List Int)) : Prop := (∀ r ∈ fs, ∃ j, a ≤ j ∧ j < b ∧ r = ts.getD j []) ∧ (∀ j, a ≤ j → j < b → ∃ r ∈ fs, r.getD i 0 = valT ts i j) ∧ fs.length ≤ b - a
theorem take0 {l : List Int} {i : Nat} : (l.take (Int.toNat (i : Int))).drop (Int.toNat 0) = l.take i := by simp
theorem fork_L7 (h : TupS n k ts) {i : Nat} (hi : i < k) {a : Nat} (ha : a < ts.length) (t2 : List (List Int)) : ∀ (d f b : Nat) (fs : List (List Int)), b + d = ts.length → d < f → a ≤ b → (∀ j, a ≤ j → j < b → preT ts i j = preT ts i a) → Fir ts i a b fs →
    ∃ (b' : Nat) (fs' : List (List Int)), impl_forksOf_impl_ForksOf_c1_L7 f ((k : Int), ts, t2, (i : Int), (a : Int), (b : Int), fs) = some ((k : Int), ts, t2, (i : Int), (b' : Int), fs') ∧ b ≤ b' ∧ b' ≤ ts.length ∧ (∀ j, a ≤ j → j < b' → preT ts i j = preT ts i a) ∧ (b' < ts.length → preT ts i b' ≠ preT ts i a) ∧ Fir ts i a b' fs' := by
  have hc := h.count
  have hlim : lim = 1099511627776 := rfl
  intro d
  induction d with
  | zero =>
    intro f b fs hb hf hab hp hF
    obtain ⟨f, rfl⟩ : ∃ z, f = z + 1 := ⟨f - 1, by omega⟩
    refine ⟨b, fs, ?_, Nat.le_refl _, by omega, hp, fun hh => by omega, hF⟩
    simp only [impl_forksOf_impl_ForksOf_c1_L7]
    rw [if_neg (by simp; omega)]
  | succ d ih =>
    intro f b fs hb hf hab hp hF
    obtain ⟨f, rfl⟩ : ∃ z, f = z + 1 := ⟨f - 1, by omega⟩
    have hbl : b < ts.length := by omega
    have la := h.lenj ha
    have lb := h.lenj hbl
    have ga : gd ts (a : Int) [] = ts.getD a [] := by unfold gd; simp
    have gb : gd ts (b : Int) [] = ts.getD b [] := by unfold gd; simp
    have hs := impl_sameList_ok (x := (ts.getD a []).take i) (y := (ts.getD b []).take i) (by have := h.hk; rw [List.length_take]; omega)
    have e0 : (impl_forksOf_impl_ForksOf_c1_L7 (f + 1) ((k : Int), ts, t2, (i : Int), (a : Int), (b : Int), fs)) = if preT ts i a = preT ts i b then (if (b : Int) == (a : Int) then impl_forksOf_impl_ForksOf_c1_L7 f ((k : Int), ts, t2, (i : Int), (a : Int), ((b + 1 : Nat) : Int), fs ++ [ts.getD b []]) else if valT ts i b != valT ts i (b - 1) then impl_forksOf_impl_ForksOf_c1_L7 f ((k : Int), ts, t2, (i : Int), (a : Int), ((b + 1 : Nat) : Int), fs ++ [ts.getD b []]) else impl_forksOf_impl_ForksOf_c1_L7 f ((k : Int), ts, t2, (i : Int), (a : Int), ((b + 1 : Nat) : Int), fs)) else some ((k : Int), ts, t2, (i : Int), (b : Int), fs) := by
      have hFl := hF.2.2
      simp only [impl_forksOf_impl_ForksOf_c1_L7, inb_nat, ha, hbl, if_true, ga, gb, take0, hs, Option.bind_some, w64_succ (show b < 4611686018427387904 by omega)]
      rw [if_pos (by simp; omega), if_pos (by omega), if_pos (by omega)]
      unfold preT
      by_cases hpe : (ts.getD a []).take i = (ts.getD b []).take i
      · rw [if_pos (by simpa using hpe), if_pos hpe]
        by_cases hba : (b : Int) == (a : Int)
        · rw [if_pos hba, if_pos hba, if_pos (by simp; omega)]
        · rw [if_neg hba, if_neg hba]
          have hb0 : 0 < b := by simp at hba; omega
          have hb1 : b - 1 < ts.length := by omega
          have lb1 := h.lenj hb1
          have gb1 : gd ts ((b - 1 : Nat) : Int) [] = ts.getD (b - 1) [] := by unfold gd; simp
          have q1 : i < (ts.getD b []).length := by omega
          have q2 : i < (ts.getD (b - 1) []).length := by omega
          simp only [w64_pred (show b < 4611686018427387904 by omega) hb0, inb_nat, hb1, gb1, q1, q2, if_true, gd_D]
          unfold valT
          by_cases hv : (ts.getD b []).getD i 0 = (ts.getD (b - 1) []).getD i 0
          · rw [if_neg (by simp only [hv]; simp), if_neg (by simp only [hv]; simp)]
          · rw [if_pos (by simpa using hv), if_pos (by simp; omega), if_pos (by simpa using hv)]
      · rw [if_neg (by simpa using hpe), if_neg hpe]
    rw [e0]
    by_cases hpe : preT ts i a = preT ts i b
    · rw [if_pos hpe]
      have hp' : ∀ j, a ≤ j → j < b + 1 → preT ts i j = preT ts i a := fun j h1 h2 => by
        rcases Nat.lt_or_ge j b with hlt | hge
        · exact hp j h1 hlt
        · have : j = b := by omega
          rw [this, hpe]
      have add : Fir ts i a (b + 1) (fs ++ [ts.getD b []]) := by
        refine ⟨fun r hr => ?_, fun j h1 h2 => ?_, ?_⟩
        · rcases List.mem_append.1 hr with hr | hr
          · obtain ⟨j, q1, q2, q3⟩ := hF.1 r hr
            exact ⟨j, q1, by omega, q3⟩
          · exact ⟨b, hab, by omega, List.mem_singleton.1 hr⟩
        · rcases Nat.lt_or_ge j b with hlt | hge
          · obtain ⟨r, q1, q2⟩ := hF.2.1 j h1 hlt
            exact ⟨r, List.mem_append_left _ q1, q2⟩
          · have : j = b := by omega
            subst this
            exact ⟨_, List.mem_append_right _ (List.mem_singleton.2 rfl), rfl⟩
        · have := hF.2.2
          rw [List.length_append, List.length_singleton]; omega
      have nx : ∀ fs', Fir ts i a (b + 1) fs' → ∃ (b' : Nat) (fs'' : List (List Int)), impl_forksOf_impl_ForksOf_c1_L7 f ((k : Int), ts, t2, (i : Int), (a : Int), ((b + 1 : Nat) : Int), fs') = some ((k : Int), ts, t2, (i : Int), (b' : Int), fs'') ∧ b ≤ b' ∧ b' ≤ ts.length ∧ (∀ j, a ≤ j → j < b' → preT ts i j = preT ts i a) ∧ (b' < ts.length → preT ts i b' ≠ preT ts i a) ∧ Fir ts i a b' fs'' := fun fs' hF' => by
        obtain ⟨b', fs'', q1, q2, q3⟩ := ih f (b + 1) fs' (by omega) (by omega) (by omega) hp' hF'
        exact ⟨b', fs'', q1, by omega, q3⟩
      by_cases hba : (b : Int) == (a : Int)
      · rw [if_pos hba]; exact nx _ add
      · rw [if_neg hba]
        by_cases hv : valT ts i b = valT ts i (b - 1)
        · rw [if_neg (by simp [hv])]
          have hb0 : a < b := by simp at hba; omega
          refine nx _ ⟨fun r hr => ?_, fun j h1 h2 => ?_, ?_⟩
          · obtain ⟨j, q1, q2, q3⟩ := hF.1 r hr
            exact ⟨j, q1, by omega, q3⟩
          · rcases Nat.lt_or_ge j b with hlt | hge
            · exact hF.2.1 j h1 hlt
            · have : j = b := by omega
              subst this
              rw [hv]
              exact hF.2.1 (j - 1) (by omega) (by omega)
          · have := hF.2.2; omega
        · rw [if_pos (by simpa using hv)]; exact nx _ add
    · rw [if_neg hpe]
      exact ⟨b, fs, rfl, Nat.le_refl _, by omega, hp, fun _ e => hpe e.symm, hF⟩
theorem fork_c1 {i : Nat} {t u : List Int} {o : List (List Int)} (ht : i < t.length) (hu : i < u.length) (ho : o.length ≤ 1000000000) : impl_ForksOf_c1 (i : Int) t u o = some (o ++ [[(i : Int), t.getD i 0, u.getD i 0]]) := by
 unfold impl_ForksOf_c1
 rw [if_pos (inb_nat.2 ht), if_pos (inb_nat.2 hu), if_pos (by simp; unfold lim; omega)]
 simp only [gd_D]
def pairsF (i : Nat) (fs : List (List Int)) (t : List Int) : List (List Int) := fs.map fun u => [(i : Int), t.getD i 0, u.getD i 0]
theorem fork_L15 {i : Nat} {t0 : Int} {fs : List (List Int)} {t : List Int} (ht : i < t.length) (hfs : ∀ u ∈ fs, i < u.length) (hl : fs.length ≤ 4096) (o : List (List Int)) (ho : o.length ≤ 900000000) (t8 t75 t76 : Int) :
    impl_forksOf_impl_ForksOf_c1_L15 fuel ((), (), t0, ts, o, (i : Int), t8, fs, t, t75, t76, (fs.length : Int), 0) = some ((), t0, ts, o ++ pairsF i fs t, (i : Int), t8, fs, t75, t76) := by
  have := forS fs.length (fun f o v => impl_forksOf_impl_ForksOf_c1_L15 f ((), (), t0, ts, o, (i : Int), t8, fs, t, t75, t76, (fs.length : Int), v)) (fun c => o ++ pairsF i (fs.take c) t) (r := some ((), t0, ts, o ++ pairsF i fs t, (i : Int), t8, fs, t75, t76)) (fun f c hc => ?_) (fun f => ?_) (n := fuel) (by unfold fuel; omega)
  · rw [List.take_zero, pairsF, List.map_nil, List.append_nil] at this; exact this
  · have hcl : (o ++ pairsF i (fs.take c) t).length ≤ 1000000000 := by simp [pairsF]; omega
    have hu := hfs _ (List.getElem_mem hc)
    simp only [impl_forksOf_impl_ForksOf_c1_L15, inb_nat, hc, gd_nat hc, if_true, fork_c1 ht hu hcl, Option.bind_some, w64_succ (show c < 4611686018427387904 by omega)]
    rw [if_pos (by simp; omega), List.take_succ_eq_append_getElem hc, pairsF, pairsF, List.map_append, List.append_assoc]
    rfl
  · simp only [impl_forksOf_impl_ForksOf_c1_L15, List.take_length]
    rw [if_neg (by simp)]
def allP' (i : Nat) (fs : List (List Int)) : List (List Int) := fs.flatMap (pairsF i fs)
theorem flat_le {i : Nat} {fs gs : List (List Int)} : (gs.flatMap (pairsF i fs)).length = gs.length * fs.length := by
 induction gs with
 | nil => simp
 | cons g gs ih => rw [List.flatMap_cons, List.length_append, ih, List.length_cons, pairsF, List.length_map, Nat.succ_mul]; omega
theorem fork_L12 {i : Nat} {t0 : Int} {fs : List (List Int)} (hfs : ∀ u ∈ fs, i < u.length) (hl : fs.length ≤ 4096) (o : List (List Int)) (ho : o.length ≤ 800000000) (t8 : Int) :
    impl_forksOf_impl_ForksOf_c1_L12 fuel ((), t0, ts, o, (i : Int), t8, fs, (fs.length : Int), 0) = some (t0, ts, o ++ allP' i fs, (i : Int), t8) := by
  have := forS fs.length (fun f o v => impl_forksOf_impl_ForksOf_c1_L12 f ((), t0, ts, o, (i : Int), t8, fs, (fs.length : Int), v)) (fun c => o ++ (fs.take c).flatMap (pairsF i fs)) (r := some (t0, ts, o ++ allP' i fs, (i : Int), t8)) (fun f c hc => ?_) (fun f => ?_) (n := fuel) (by unfold fuel; omega)
  · rw [List.take_zero, List.flatMap_nil, List.append_nil] at this; exact this
  · have hcl : (o ++ (fs.take c).flatMap (pairsF i fs)).length ≤ 900000000 := by
      rw [List.length_append, flat_le, List.length_take]
      have : min c fs.length * fs.length ≤ 4096 * 4096 := Nat.mul_le_mul (by omega) hl
      omega
    have hu := hfs _ (List.getElem_mem hc)
    have e := fork_L15 (ts := ts) (t0 := t0) hu hfs hl _ hcl t8 (fs.length : Int) (c : Int)
    simp only [impl_forksOf_impl_ForksOf_c1_L12, inb_nat, hc, gd_nat hc, if_true, e, Option.bind_some, w64_succ (show c < 4611686018427387904 by omega)]
    rw [if_pos (by simp; omega), List.take_succ_eq_append_getElem hc, List.flatMap_append, List.append_assoc]
    simp
  · simp only [impl_forksOf_impl_ForksOf_c1_L12, List.take_length]
    rw [if_neg (by simp)]; rfl
def ForkE (ts : List (List Int)) (i a : Nat) (E : List (List Int)) : Prop :=
 (∀ r ∈ E, ∃ j l, j < ts.length ∧ l < ts.length ∧ preT ts i j = preT ts i l ∧ r = [(i : Int), valT ts i j, valT ts i l]) ∧
 (∀ j l, a ≤ j → a ≤ l → j < ts.length → l < ts.length → preT ts i j = preT ts i l → [(i : Int), valT ts i j, valT ts i l] ∈ E)
theorem fork_L4 (h : TupS n k ts) {i : Nat} (hi : i < k) : ∀ (d f a : Nat) (o : List (List Int)), a + d = ts.length → d < f → o.length + 4096 * d ≤ 700000000 →
    ∃ E, impl_forksOf_impl_ForksOf_c1_L4 f ((k : Int), ts, o, (i : Int), (a : Int)) = some ((k : Int), ts, o ++ E, (i : Int)) ∧ ForkE ts i a E ∧ E.length ≤ 4096 * d := by
  have hc := h.count
  intro d
  induction d using Nat.strongRecOn with
  | _ d ih =>
    intro f a o ha hf ho
    obtain ⟨f, rfl⟩ : ∃ z, f = z + 1 := ⟨f - 1, by omega⟩
    rcases Nat.eq_zero_or_pos d with h0 | h0
    · refine ⟨[], ?_, ⟨fun r hr => (by cases hr), fun j l h1 h2 h3 => by omega⟩, by simp⟩
      simp only [impl_forksOf_impl_ForksOf_c1_L4]
      rw [if_neg (by simp; omega), List.append_nil]
    · have hal : a < ts.length := by omega
      obtain ⟨b, fs, e1, hb1, hb2, hp, hq, hF⟩ := fork_L7 h hi hal o d fuel a [] ha (by unfold fuel; omega) (Nat.le_refl _) (fun j h1 h2 => by omega) ⟨fun r hr => (by cases hr), fun j h1 h2 => (by omega), by simp⟩
      have hab : a < b := by
        rcases Nat.lt_or_ge a b with h1 | h1
        · exact h1
        · have : b = a := by omega
          subst this
          exact absurd rfl (hq hal)
      have hfl := hF.2.2
      have hfs : ∀ u ∈ fs, i < u.length := fun u hu => by
        obtain ⟨j, q1, q2, rfl⟩ := hF.1 u hu
        have := h.lenj (show j < ts.length by omega); omega
      have e2 := fork_L12 (ts := ts) (t0 := (k : Int)) hfs (by omega) o (by omega) (b : Int)
      have hal2 : (allP' i fs).length ≤ 4096 * (b - a) := by
        unfold allP'; rw [flat_le]
        exact Nat.mul_le_mul (by omega) hfl
      obtain ⟨E, e3, hE, hEl⟩ := ih (ts.length - b) (by omega) f b (o ++ allP' i fs) (by omega) (by omega) (by rw [List.length_append]; omega)
      refine ⟨allP' i fs ++ E, ?_, ⟨fun r hr => ?_, fun j l h1 h2 h3 h4 h5 => ?_⟩, by rw [List.length_append]; omega⟩
      · simp only [impl_forksOf_impl_ForksOf_c1_L4, e1, Option.bind_some, e2, e3]
        rw [if_pos (by simp; omega), List.append_assoc]
      · rcases List.mem_append.1 hr with hr | hr
        · obtain ⟨t, ht, hr⟩ := List.mem_flatMap.1 hr
          obtain ⟨u, hu, rfl⟩ := List.mem_map.1 hr
          obtain ⟨j, q1, q2, rfl⟩ := hF.1 t ht
          obtain ⟨l, q3, q4, rfl⟩ := hF.1 u hu
          exact ⟨j, l, by omega, by omega, (hp j q1 q2).trans (hp l q3 q4).symm, rfl⟩
        · exact hE.1 r hr
      · rw [List.mem_append]
        have apart : ∀ j l, a ≤ j → j < b → b ≤ l → l < ts.length → preT ts i j = preT ts i l → False := fun j l h1 h2 h3 h4 h5 => by
          have h6 := h.conv (i := i) (show j ≤ b by omega) h3 h4 h5
          exact hq (by omega) (h6.trans (hp j h1 h2))
        rcases Nat.lt_or_ge j b with hj | hj
        · rcases Nat.lt_or_ge l b with hl | hl
          · left
            obtain ⟨t, ht, et⟩ := hF.2.1 j h1 hj
            obtain ⟨u, hu, eu⟩ := hF.2.1 l h2 hl
            exact List.mem_flatMap.2 ⟨t, ht, List.mem_map.2 ⟨u, hu, by rw [et, eu]⟩⟩
          · exact (apart j l h1 hj hl h4 h5).elim
        · rcases Nat.lt_or_ge l b with hl | hl
          · exact (apart l j h2 hl hj h3 h5.symm).elim
          · right; exact hE.2 j l hj hl h3 h4 h5
def isFork (ts : List (List Int)) (k : Nat) (r : List Int) : Prop := ∃ i j l, i < k ∧ j < ts.length ∧ l < ts.length ∧ preT ts i j = preT ts i l ∧ r = [(i : Int), valT ts i j, valT ts i l]
theorem impl_forks_ok (h : TupS n k ts) : ∃ E, impl_forksOf_impl_ForksOf_c1 (k : Int) ts [] = some E ∧ (∀ r, r ∈ E ↔ isFork ts k r) ∧ E.length ≤ 100000000 := by
  have hc := h.count
  have hk := h.hk
  have key : ∀ (d f i : Nat) (o : List (List Int)), i + d = k → d < f → o.length ≤ 16777216 * i → (∀ r, r ∈ o ↔ isFork ts i r) →
      ∃ E, impl_forksOf_impl_ForksOf_c1_L1 f ((k : Int), ts, o, (i : Int)) = some E ∧ (∀ r, r ∈ E ↔ isFork ts k r) ∧ E.length ≤ 16777216 * k := by
    intro d
    induction d with
    | zero =>
      intro f i o hi hf ho hm
      obtain ⟨f, rfl⟩ : ∃ z, f = z + 1 := ⟨f - 1, by omega⟩
      have : i = k := by omega
      subst this
      refine ⟨o, ?_, hm, ho⟩
      simp only [impl_forksOf_impl_ForksOf_c1_L1]
      rw [if_neg (by simp)]
    | succ d ih =>
      intro f i o hi hf ho hm
      obtain ⟨f, rfl⟩ : ∃ z, f = z + 1 := ⟨f - 1, by omega⟩
      obtain ⟨E, e1, hE, hEl⟩ := fork_L4 h (i := i) (by omega) ts.length fuel 0 o (by omega) (by unfold fuel; omega) (by omega)
      have e1 : impl_forksOf_impl_ForksOf_c1_L4 fuel ((k : Int), ts, o, (i : Int), 0) = _ := e1
      obtain ⟨E', e2, hE', hl'⟩ := ih f (i + 1) (o ++ E) (by omega) (by omega) (by rw [List.length_append]; omega) (fun r => by
        rw [List.mem_append, hm]
        constructor
        · rintro (⟨i', j, l, q1, q2⟩ | hr)
          · exact ⟨i', j, l, by omega, q2⟩
          · obtain ⟨j, l, q1, q2, q3, q4⟩ := hE.1 r hr
            exact ⟨i, j, l, by omega, q1, q2, q3, q4⟩
        · rintro ⟨i', j, l, q1, q2, q3, q4, rfl⟩
          rcases Nat.lt_or_ge i' i with hlt | hge
          · exact Or.inl ⟨i', j, l, hlt, q2, q3, q4, rfl⟩
          · have : i' = i := by omega
            subst this
            exact Or.inr (hE.2 j l (Nat.zero_le _) (Nat.zero_le _) q2 q3 q4))
      refine ⟨E', ?_, hE', hl'⟩
      simp only [impl_forksOf_impl_ForksOf_c1_L1, e1, Option.bind_some, w64_succ (show i < 4611686018427387904 by omega), e2]
      rw [if_pos (by simp; omega)]
  obtain ⟨E, e, hm, hl⟩ := key k fuel 0 [] (by omega) (by unfold fuel; omega) (by simp) (fun r => ⟨fun h => (by cases h), fun ⟨i, _, _, q, _⟩ => by omega⟩)
  refine ⟨E, ?_, hm, by omega⟩
  unfold impl_forksOf_impl_ForksOf_c1
  have e : impl_forksOf_impl_ForksOf_c1_L1 fuel ((k : Int), ts, [], 0) = _ := e
  rw [e]; rfl
end
end T
open Go Go.Va
namespace T
theorem findSome_if {α β : Type} {p : α → Bool} {g : α → β} : ∀ {l : List α}, l.findSome? (fun a => if p a then some (g a) else none) = (l.find? p).map g
 | [] => rfl
 | a :: l => by
  rw [List.findSome?_cons, List.find?_cons]
  cases h : p a with
  | true => rfl
  | false => exact findSome_if
section
variable {n : Int} {k : Nat} {ts : List (List Int)}
def condB (ts : List (List Int)) (i : Nat) (x y : Int) (a b : Nat) : Bool := valT ts i a == x && (valT ts i b == y && decide (preT ts i a = preT ts i b))
def bO (ts : List (List Int)) (i : Nat) (x y : Int) (a : Nat) : Option Nat := (List.range ts.length).find? (condB ts i x y a)
def pairO (ts : List (List Int)) (i : Nat) (x y : Int) : Option (Nat × Nat) := (List.range ts.length).findSome? fun a => (bO ts i x y a).map fun b => (a, b)
theorem pairO_some {i : Nat} {x y : Int} {a b : Nat} (h : pairO ts i x y = some (a, b)) : a < ts.length ∧ b < ts.length ∧ valT ts i a = x ∧ valT ts i b = y ∧ preT ts i a = preT ts i b := by
 unfold pairO at h
 obtain ⟨a', ha, h⟩ := List.exists_of_findSome?_eq_some h
 obtain ⟨b', hb, h⟩ := Option.map_eq_some_iff.1 h
 obtain ⟨rfl, rfl⟩ := Prod.mk.inj h
 have h1 := List.find?_some hb
 have h2 := List.mem_of_find?_eq_some hb
 unfold condB at h1
 simp only [Bool.and_eq_true, beq_iff_eq, decide_eq_true_eq] at h1
 exact ⟨List.mem_range.1 ha, List.mem_range.1 h2, h1.1, h1.2.1, h1.2.2⟩
theorem pairO_none {i : Nat} {x y : Int} (h : pairO ts i x y = none) {a b : Nat} (ha : a < ts.length) (hb : b < ts.length) (h1 : valT ts i a = x) (h2 : valT ts i b = y) (h3 : preT ts i a = preT ts i b) : False := by
 unfold pairO at h
 rw [List.findSome?_eq_none_iff] at h
 have h := h a (List.mem_range.2 ha)
 rw [Option.map_eq_none_iff] at h
 unfold bO at h
 rw [List.find?_eq_none] at h
 have h := h b (List.mem_range.2 hb)
 unfold condB at h
 simp [h1, h2, h3] at h
theorem pair_L5 (h : TupS n k ts) {i : Nat} (hi : i < k) (x y : Int) {a : Nat} (ha : a < ts.length) : spec_l21Pair_L5 fuel (ts, (i : Int), x, y, (a : Int), 0) = some (match bO ts i x y a with | some b => .inr ((a : Int), (b : Int), true) | none => .inl (ts, (i : Int), x, y, (a : Int))) := by
 have hc := h.count
 have hk := h.hk
 have := forF ts.length (fun f (_ : Unit) b => spec_l21Pair_L5 f (ts, (i : Int), x, y, (a : Int), b)) (fun _ => ()) (fun b => if condB ts i x y a b then some (some (.inr ((a : Int), (b : Int), true))) else none) (e := some (.inl (ts, (i : Int), x, y, (a : Int)))) (fun f b hb _ => ?_) (fun f => ?_) (n := fuel) (by unfold fuel; omega)
 ·have this : spec_l21Pair_L5 fuel (ts, (i : Int), x, y, (a : Int), 0) = _ := this
  rw [this, findSome_if]
  unfold bO
  cases (List.range ts.length).find? (condB ts i x y a) <;> rfl
 ·have la := h.lenj ha
  have lb := h.lenj hb
  have ga : gd ts (a : Int) [] = ts.getD a [] := by unfold gd; simp
  have gb : gd ts (b : Int) [] = ts.getD b [] := by unfold gd; simp
  have q1 : i < (ts.getD a []).length := by omega
  have q2 : i < (ts.getD b []).length := by omega
  have hs := spec_l1Same_ok (a := (ts.getD a []).take i) (b := (ts.getD b []).take i) (by rw [List.length_take]; omega)
  simp only [spec_l21Pair_L5, inb_nat, ha, hb, q1, q2, ga, gb, gd_D, if_true, take0, hs, Option.bind_some, w64_succ (show b < 4611686018427387904 by omega)]
  rw [if_pos (by simp; omega)]
  unfold condB valT preT
  generalize (ts.getD a []).getD i 0 = u
  generalize (ts.getD b []).getD i 0 = v
  by_cases e1 : u = x
  ·subst e1
   rw [if_pos (by simp)]
   by_cases e2 : v = y
   ·subst e2
    rw [if_pos (by simp), if_pos (by omega), if_pos (by omega)]
    by_cases e3 : (ts.getD a []).take i = (ts.getD b []).take i
    ·rw [e3]; simp
    ·rw [if_neg (by simpa using e3)]
     have e4 : ((u == u) && ((v == v) && decide ((ts.getD a []).take i = (ts.getD b []).take i))) = false := by simpa using e3
     rw [e4]; rfl
   ·have e4 : ((u == u) && ((v == y) && decide ((ts.getD a []).take i = (ts.getD b []).take i))) = false := by simp [e2]
    rw [if_neg (by simpa using e2), e4]; rfl
  ·have e4 : ((u == x) && ((v == y) && decide ((ts.getD a []).take i = (ts.getD b []).take i))) = false := by simp [e1]
   rw [if_neg (by simpa using e1), e4]; rfl
 ·simp only [spec_l21Pair_L5]
  rw [if_neg (by simp)]
theorem pair_ok (h : TupS n k ts) {i : Nat} (hi : i < k) (x y : Int) : spec_l21Pair ts (i : Int) x y = some (match pairO ts i x y with | some q => ((q.1 : Int), (q.2 : Int), true) | none => (0, 0, false)) := by
 have hc := h.count
 have := forF ts.length (fun f (_ : Unit) a => spec_l21Pair_L2 f (ts, (i : Int), x, y, a)) (fun _ => ()) (fun a => (bO ts i x y a).map fun (b : Nat) => (some (.inr ((a : Int), (b : Int), true)) : Option (Unit ⊕ (Int × Int × Bool)))) (e := some (.inl ())) (fun f a ha _ => ?_) (fun f => ?_) (n := fuel) (by unfold fuel; omega)
 ·have this : spec_l21Pair_L2 fuel (ts, (i : Int), x, y, 0) = _ := this
  unfold spec_l21Pair
  rw [this]
  have e : (List.range ts.length).findSome? (fun a => (bO ts i x y a).map fun (b : Nat) => (some (.inr ((a : Int), (b : Int), true)) : Option (Unit ⊕ (Int × Int × Bool)))) = (pairO ts i x y).map fun q => some (.inr ((q.1 : Int), (q.2 : Int), true)) := by
   unfold pairO
   generalize List.range ts.length = l
   induction l with
   | nil => rfl
   | cons a l ih =>
    rw [List.findSome?_cons, List.findSome?_cons]
    cases bO ts i x y a with
    | none => exact ih
    | some b => rfl
  rw [e]
  cases pairO ts i x y <;> rfl
 ·have e := pair_L5 h hi x y ha
  simp only [spec_l21Pair_L2, e, Option.bind_some]
  rw [if_pos (by simp; omega)]
  cases bO ts i x y a with
  | none =>
   simp only [Option.map_none]
   rw [w64_succ (show a < 4611686018427387904 by omega)]
  | some b => rfl
 ·simp only [spec_l21Pair_L2]
  rw [if_neg (by simp)]
def lex3 (i' x' y' i x y : Nat) : Prop := i' < i ∨ (i' = i ∧ (x' < x ∨ (x' = x ∧ y' < y)))
theorem lex3_cmp {i' x' y' i x y : Nat} (h : lex3 i' x' y' i x y) : cmpL [(i' : Int), (x' : Int), (y' : Int)] [(i : Int), (x : Int), (y : Int)] < 0 := by
 unfold lex3 at h
 simp only [cmpL]
 by_cases h1 : i' = i
 ·by_cases h2 : x' = x
  ·have h3 : y' < y := by omega
   rw [if_pos (by omega), if_pos (by omega), if_neg (by omega), if_pos (by omega)]; decide
  ·rw [if_pos (by omega), if_neg (by omega), if_pos (by omega)]; decide
 ·rw [if_neg (by omega), if_pos (by omega)]; decide
structure FA (n : Nat) (ts : List (List Int)) (i x y : Nat) (F A : List (List Int)) : Prop where
 inc : incB F = true
 mem : ∀ r, r ∈ F ↔ ∃ i' x' y' : Nat, x' < n ∧ y' < n ∧ lex3 i' x' y' i x y ∧ (pairO ts i' (x' : Int) (y' : Int)).isSome ∧ r = [(i' : Int), (x' : Int), (y' : Int)]
 len : F.length ≤ (i * n + x) * n + y
 incA : incB A = true
 memA : ∀ t, t ∈ A ↔ ∃ i' x' y' a b : Nat, x' < n ∧ y' < n ∧ lex3 i' x' y' i x y ∧ pairO ts i' (x' : Int) (y' : Int) = some (a, b) ∧ (t = ts.getD a [] ∨ t = ts.getD b [])
 lenA : A.length ≤ 2 * ((i * n + x) * n + y)
theorem FA.cast {n i x y i' x' y' : Nat} {F A : List (List Int)} (h : FA n ts i x y F A) (hl : (i * n + x) * n + y = (i' * n + x') * n + y') (hx : ∀ a b c, b < n → c < n → (lex3 a b c i x y ↔ lex3 a b c i' x' y')) : FA n ts i' x' y' F A where
 inc := h.inc
 mem r := (h.mem r).trans ⟨fun ⟨a, b, c, q1, q2, q3, q4⟩ => ⟨a, b, c, q1, q2, (hx a b c q1 q2).1 q3, q4⟩, fun ⟨a, b, c, q1, q2, q3, q4⟩ => ⟨a, b, c, q1, q2, (hx a b c q1 q2).2 q3, q4⟩⟩
 len := hl ▸ h.len
 incA := h.incA
 memA t := (h.memA t).trans ⟨fun ⟨a, b, c, d, e, q1, q2, q3, q4⟩ => ⟨a, b, c, d, e, q1, q2, (hx a b c q1 q2).1 q3, q4⟩, fun ⟨a, b, c, d, e, q1, q2, q3, q4⟩ => ⟨a, b, c, d, e, q1, q2, (hx a b c q1 q2).2 q3, q4⟩⟩
 lenA := hl ▸ h.lenA
theorem put_len {out list : List (List Int)} {t : List Int} (h1 : incB out = true) (h0 : incB list = true) (h2 : ∀ u, u ∈ out ↔ u = t ∨ u ∈ list) (h3 : t ∉ list → out.Perm (t :: list)) : out.length ≤ list.length + 1 := by
 by_cases hm : t ∈ list
 ·have : out = list := inc_uniq h1 h0 fun u => (h2 u).trans ⟨fun h => h.elim (fun h => h ▸ hm) id, Or.inr⟩
  rw [this]; omega
 ·rw [(h3 hm).length_eq]; simp
theorem lex3_next {a b c i x y : Nat} : lex3 a b c i x (y + 1) ↔ lex3 a b c i x y ∨ (a = i ∧ b = x ∧ c = y) := by unfold lex3; omega
theorem fork_L9 {N : Nat} (h : TupS (N : Int) k ts) {i : Nat} (hi : i < k) {x : Nat} (hx : x < N) : ∀ (d f y : Nat) (F A : List (List Int)), y + d = N → d < f → FA N ts i x y F A →
    ∃ F' A', spec_l21Forks_L9 f ((N : Int), (k : Int), ts, F, A, (i : Int), (x : Int), (y : Int)) = some ((N : Int), (k : Int), ts, F', A', (i : Int), (x : Int)) ∧ FA N ts i x N F' A' := by
  have hk := h.hk
  have hn := h.hn
  intro d
  induction d with
  | zero =>
    intro f y F A hy hf hFA
    obtain ⟨f, rfl⟩ : ∃ z, f = z + 1 := ⟨f - 1, by omega⟩
    have : y = N := by omega
    subst this
    refine ⟨F, A, ?_, hFA⟩
    simp only [spec_l21Forks_L9]
    rw [if_neg (by simp)]
  | succ d ih =>
    intro f y F A hy hf hFA
    obtain ⟨f, rfl⟩ : ∃ z, f = z + 1 := ⟨f - 1, by omega⟩
    have e := pair_ok h hi (x : Int) (y : Int)
    have hcode : (i * N + x) * N + y ≤ 512 := by
      have h1 : i * N ≤ 3 * 8 := Nat.mul_le_mul (by omega) (by omega)
      have h2 : (i * N + x) * N ≤ 32 * 8 := Nat.mul_le_mul (by omega) (by omega)
      omega
    have hFl := hFA.len
    have hAl := hFA.lenA
    cases hp : pairO ts i (x : Int) (y : Int) with
    | none =>
      have hnx : FA N ts i x (y + 1) F A := by
        refine ⟨hFA.inc, fun r => (hFA.mem r).trans ⟨fun ⟨a, b, c, q1, q2, q3, q4⟩ => ⟨a, b, c, q1, q2, lex3_next.2 (Or.inl q3), q4⟩, fun ⟨a, b, c, q1, q2, q3, q4, q5⟩ => ?_⟩, by omega, hFA.incA, fun t => (hFA.memA t).trans ⟨fun ⟨a, b, c, d, e, q1, q2, q3, q4⟩ => ⟨a, b, c, d, e, q1, q2, lex3_next.2 (Or.inl q3), q4⟩, fun ⟨a, b, c, d, e, q1, q2, q3, q4, q5⟩ => ?_⟩, by omega⟩
        · rcases lex3_next.1 q3 with h | ⟨rfl, rfl, rfl⟩
          · exact ⟨a, b, c, q1, q2, h, q4, q5⟩
          · rw [hp] at q4; simp at q4
        · rcases lex3_next.1 q3 with h | ⟨rfl, rfl, rfl⟩
          · exact ⟨a, b, c, d, e, q1, q2, h, q4, q5⟩
          · rw [hp] at q4; simp at q4
      obtain ⟨F', A', e2, hF'⟩ := ih f (y + 1) F A (by omega) (by omega) hnx
      refine ⟨F', A', ?_, hF'⟩
      rw [hp] at e
      simp only [spec_l21Forks_L9, e, Option.bind_some, w64_succ (show y < 4611686018427387904 by omega)]
      rw [if_pos (by simp; omega), if_neg (by simp)]
      exact e2
    | some q =>
      obtain ⟨a, b⟩ := q
      obtain ⟨ha, hb, hva, hvb, hpre⟩ := pairO_some hp
      have la := h.lenj ha
      have lb := h.lenj hb
      have ga : gd ts (a : Int) [] = ts.getD a [] := by unfold gd; simp
      have gb : gd ts (b : Int) [] = ts.getD b [] := by unfold gd; simp
      have hlA : ∀ u ∈ A, u.length = k := fun u hu => by
        obtain ⟨i', x', y', a', b', _, _, _, q4, q5⟩ := (hFA.memA u).1 hu
        obtain ⟨r1, r2, _⟩ := pairO_some q4
        rcases q5 with rfl | rfl
        · exact h.lenj r1
        · exact h.lenj r2
      obtain ⟨A1, p1, p2, p3, p4⟩ := spec_l8Put_ok (by omega) (show k ≤ 1000000 by omega) hlA la hFA.incA
      have z1 := put_len p2 hFA.incA p3 p4
      obtain ⟨A2, r1, r2, r3, r4⟩ := spec_l8Put_ok (list := A1) (t := ts.getD b []) (by omega) (show k ≤ 1000000 by omega) (fun u hu => ((p3 u).1 hu).elim (fun h => by rw [h]; exact la) (hlA u)) lb p2
      have z2 := put_len r2 p2 r3 r4
      have hnx : FA N ts i x (y + 1) (F ++ [[(i : Int), (x : Int), (y : Int)]]) A2 := by
        refine ⟨?_, fun r => ?_, by rw [List.length_append, List.length_singleton]; omega, r2, fun t => ?_, by omega⟩
        · rw [incB_pair, List.pairwise_append]
          refine ⟨incB_pair.1 hFA.inc, List.pairwise_singleton _ _, fun u hu v hv => ?_⟩
          rw [List.mem_singleton.1 hv]
          obtain ⟨a', b', c', _, _, q3, _, rfl⟩ := (hFA.mem u).1 hu
          exact lex3_cmp q3
        · rw [List.mem_append, hFA.mem]
          constructor
          · rintro (⟨a', b', c', q1, q2, q3, q4⟩ | hr)
            · exact ⟨a', b', c', q1, q2, lex3_next.2 (Or.inl q3), q4⟩
            · exact ⟨i, x, y, hx, by omega, lex3_next.2 (Or.inr ⟨rfl, rfl, rfl⟩), by rw [hp]; rfl, List.mem_singleton.1 hr⟩
          · rintro ⟨a', b', c', q1, q2, q3, q4, q5⟩
            rcases lex3_next.1 q3 with h | ⟨rfl, rfl, rfl⟩
            · exact Or.inl ⟨a', b', c', q1, q2, h, q4, q5⟩
            · exact Or.inr (List.mem_singleton.2 q5)
        · rw [r3, p3, hFA.memA]
          constructor
          · rintro (rfl | rfl | ⟨a', b', c', d', e', q1, q2, q3, q4⟩)
            · exact ⟨i, x, y, a, b, hx, by omega, lex3_next.2 (Or.inr ⟨rfl, rfl, rfl⟩), hp, Or.inr rfl⟩
            · exact ⟨i, x, y, a, b, hx, by omega, lex3_next.2 (Or.inr ⟨rfl, rfl, rfl⟩), hp, Or.inl rfl⟩
            · exact ⟨a', b', c', d', e', q1, q2, lex3_next.2 (Or.inl q3), q4⟩
          · rintro ⟨a', b', c', d', e', q1, q2, q3, q4, q5⟩
            rcases lex3_next.1 q3 with h | ⟨rfl, rfl, rfl⟩
            · exact Or.inr (Or.inr ⟨a', b', c', d', e', q1, q2, h, q4, q5⟩)
            · rw [hp] at q4
              obtain ⟨rfl, rfl⟩ := Prod.mk.inj (Option.some.inj q4)
              rcases q5 with rfl | rfl
              · exact Or.inr (Or.inl rfl)
              · exact Or.inl rfl
      obtain ⟨F', A', e2, hF'⟩ := ih f (y + 1) _ A2 (by omega) (by omega) hnx
      refine ⟨F', A', ?_, hF'⟩
      rw [hp] at e
      have o1 := spec_l1Own_ok (l := ts.getD a []) (by omega)
      have o2 := spec_l1Own_ok (l := ts.getD b []) (by omega)
      simp only [spec_l21Forks_L9, e, Option.bind_some, w64_succ (show y < 4611686018427387904 by omega), if_true, inb_nat, ha, hb, ga, gb, o1, o2, p1, r1]
      rw [if_pos (by simp; omega), if_pos (by simp; unfold lim; omega)]
      exact e2
theorem fork_L6 {N : Nat} (h : TupS (N : Int) k ts) {i : Nat} (hi : i < k) : ∀ (d f x : Nat) (F A : List (List Int)), x + d = N → d < f → FA N ts i x 0 F A →
    ∃ F' A', spec_l21Forks_L6 f ((N : Int), (k : Int), ts, F, A, (i : Int), (x : Int)) = some ((N : Int), (k : Int), ts, F', A', (i : Int)) ∧ FA N ts i N 0 F' A' := by
  have hn := h.hn
  intro d
  induction d with
  | zero =>
    intro f x F A hx hf hFA
    obtain ⟨f, rfl⟩ : ∃ z, f = z + 1 := ⟨f - 1, by omega⟩
    have : x = N := by omega
    subst this
    refine ⟨F, A, ?_, hFA⟩
    simp only [spec_l21Forks_L6]
    rw [if_neg (by simp)]
  | succ d ih =>
    intro f x F A hx hf hFA
    obtain ⟨f, rfl⟩ : ∃ z, f = z + 1 := ⟨f - 1, by omega⟩
    obtain ⟨F1, A1, e1, h1⟩ := fork_L9 h hi (x := x) (by omega) N fuel 0 F A (by omega) (by unfold fuel; omega) hFA
    have e1 : spec_l21Forks_L9 fuel ((N : Int), (k : Int), ts, F, A, (i : Int), (x : Int), 0) = _ := e1
    have h2 : FA N ts i (x + 1) 0 F1 A1 := h1.cast (by rw [Nat.add_zero, ← Nat.add_assoc, Nat.succ_mul]) (fun a b c hb hc => by unfold lex3; omega)
    obtain ⟨F', A', e2, hF'⟩ := ih f (x + 1) F1 A1 (by omega) (by omega) h2
    refine ⟨F', A', ?_, hF'⟩
    simp only [spec_l21Forks_L6, e1, Option.bind_some, w64_succ (show x < 4611686018427387904 by omega), e2]
    rw [if_pos (by simp; omega)]
theorem fork_L3 {N : Nat} (h : TupS (N : Int) k ts) : ∀ (d f i : Nat) (F A : List (List Int)), i + d = k → d < f → FA N ts i 0 0 F A →
    ∃ F' A', spec_l21Forks_L3 f ((N : Int), (k : Int), ts, F, A, (i : Int)) = some (F', A') ∧ FA N ts k 0 0 F' A' := by
  have hn := h.hn
  have hk := h.hk
  intro d
  induction d with
  | zero =>
    intro f i F A hx hf hFA
    obtain ⟨f, rfl⟩ : ∃ z, f = z + 1 := ⟨f - 1, by omega⟩
    have : i = k := by omega
    subst this
    refine ⟨F, A, ?_, hFA⟩
    simp only [spec_l21Forks_L3]
    rw [if_neg (by simp)]
  | succ d ih =>
    intro f i F A hx hf hFA
    obtain ⟨f, rfl⟩ : ∃ z, f = z + 1 := ⟨f - 1, by omega⟩
    obtain ⟨F1, A1, e1, h1⟩ := fork_L6 h (i := i) (by omega) N fuel 0 F A (by omega) (by unfold fuel; omega) hFA
    have e1 : spec_l21Forks_L6 fuel ((N : Int), (k : Int), ts, F, A, (i : Int), 0) = _ := e1
    have h2 : FA N ts (i + 1) 0 0 F1 A1 := h1.cast (by rw [Nat.add_zero, Nat.add_zero, Nat.succ_mul]; rfl) (fun a b c hb hc => by unfold lex3; omega)
    obtain ⟨F', A', e2, hF'⟩ := ih f (i + 1) F1 A1 (by omega) (by omega) h2
    refine ⟨F', A', ?_, hF'⟩
    simp only [spec_l21Forks_L3, e1, Option.bind_some, w64_succ (show i < 4611686018427387904 by omega), e2]
    rw [if_pos (by simp; omega)]
theorem spec_forks_ok {N : Nat} (h : TupS (N : Int) k ts) : ∃ F A, spec_l21Forks (N : Int) (k : Int) ts = some (F, A) ∧ FA N ts k 0 0 F A := by
 have hk := h.hk
 obtain ⟨F, A, e, hFA⟩ := fork_L3 h k fuel 0 [] [] (by omega) (by unfold fuel; omega) ⟨rfl, fun r => ⟨fun h => (by cases h), fun ⟨a, b, c, _, _, q, _⟩ => (by unfold lex3 at q; omega)⟩, by simp, rfl, fun t => ⟨fun h => (by cases h), fun ⟨a, b, c, _, _, _, _, q, _⟩ => (by unfold lex3 at q; omega)⟩, by simp⟩
 refine ⟨F, A, ?_, hFA⟩
 unfold spec_l21Forks
 have e : spec_l21Forks_L3 fuel ((N : Int), (k : Int), ts, [], [], 0) = _ := e
 rw [e]; rfl
theorem FA.fork {N : Nat} (h : TupS (N : Int) k ts) {F A : List (List Int)} (hF : FA N ts k 0 0 F A) (r : List Int) : r ∈ F ↔ isFork ts k r := by
 rw [hF.mem]
 constructor
 ·rintro ⟨i, x, y, q1, q2, q3, q4, rfl⟩
  obtain ⟨⟨a, b⟩, hp⟩ := Option.isSome_iff_exists.1 q4
  obtain ⟨ha, hb, hva, hvb, hpre⟩ := pairO_some hp
  exact ⟨i, a, b, by unfold lex3 at q3; omega, ha, hb, hpre, by rw [hva, hvb]⟩
 ·rintro ⟨i, j, l, q1, q2, q3, q4, rfl⟩
  have hval : ∀ j, j < ts.length → ∃ x : Nat, x < N ∧ valT ts i j = (x : Int) := fun j hj => by
   have h1 := h.lenj hj
   have h2 := belowB_get (h.el _ (getD_mem (d := []) hj)) i (by omega)
   unfold valT
   rw [getD_of (show i < (ts.getD j []).length by omega)]
   exact ⟨((ts.getD j [])[i]'(by omega)).toNat, by omega, by omega⟩
  obtain ⟨x, hx, ex⟩ := hval j q2
  obtain ⟨y, hy, ey⟩ := hval l q3
  refine ⟨i, x, y, hx, hy, by unfold lex3; omega, ?_, by rw [ex, ey]⟩
  cases hp : pairO ts i (x : Int) (y : Int) with
  | some q => rfl
  | none => exact (pairO_none hp q2 q3 ex ey q4).elim
theorem ForksOf_ok {n kk : Int} (hl : ts.length ≤ 1099511627774) (hr : ∀ t ∈ ts, t.length ≤ 1099511627775) : ∃ R : List (List Int) × Bool, impl_ForksOf n kk ts = some R ∧ spec_ForksOf n kk ts = some R ∧ R.1.length ≤ 256 ∧ ∀ r ∈ R.1, r.length ≤ 3 := by
 unfold impl_ForksOf spec_ForksOf
 rw [impl_isTupleSet_ok hl hr, spec_l21Set_ok hl hr]
 simp only [Option.bind_some]
 cases hs : setB n kk ts with
 | false => exact ⟨([], false), rfl, rfl, by simp, by simp⟩
 | true =>
  obtain ⟨h, hk⟩ := tupS_of hs
  have hn := h.hn
  have hk' := h.hk
  obtain ⟨N, rfl⟩ : ∃ N : Nat, n = (N : Int) := ⟨n.toNat, by omega⟩
  obtain ⟨K, hK⟩ : ∃ K, K = kk.toNat := ⟨_, rfl⟩
  rw [← hK] at h hk hk'
  subst hk
  obtain ⟨E, e1, hE, hEl⟩ := impl_forks_ok h
  obtain ⟨F, A, e2, hFA⟩ := spec_forks_ok h
  have hlim : lim = 1099511627776 := rfl
  have hEr : ∀ r ∈ E, r.length = 3 := fun r hr => by obtain ⟨i, j, l, _, _, _, _, rfl⟩ := (hE r).1 hr; rfl
  have e3 : impl_sortRows_impl_compareLists E () = some (sortL cmpL E) := by
   unfold impl_sortRows_impl_compareLists
   rw [if_pos]
   refine ⟨by omega, ?_⟩
   rw [List.all_eq_true]
   intro r hr
   rw [decide_eq_true_iff, hEr r hr]; omega
  have hp := sortL_perm E
  have e4 : impl_different (sortL cmpL E) = some F := by
   unfold impl_different
   rw [if_pos]
   ·exact congrArg some (setL_of hFA.inc fun u => (hFA.fork h u).trans (hE u).symm)
   ·refine ⟨by rw [hp.length_eq]; omega, ?_⟩
    rw [List.all_eq_true]
    intro r hr
    rw [decide_eq_true_iff, hEr r (hp.mem_iff.1 hr)]; omega
  have hcode : (K * N + 0) * N + 0 ≤ 256 := by
   have h1 : K * N ≤ 4 * 8 := Nat.mul_le_mul (by omega) (by omega)
   have h2 : (K * N + 0) * N ≤ 32 * 8 := Nat.mul_le_mul (by omega) (by omega)
   omega
  have := hFA.len
  simp only [e1, e2, e3, e4, Option.bind_some, Bool.not_true, Bool.false_eq_true, if_false]
  refine ⟨(F, true), rfl, rfl, by dsimp only; omega, fun r hr => ?_⟩
  obtain ⟨i, j, l, _, _, _, _, rfl⟩ := (hFA.fork h r).1 hr
  simp
theorem FnExactForksOf_law {n kk : Int} (_ : wfT .int n) (_ : wfT .int kk) (h : wfT (.slice (.slice .int)) ts) : laws_FnExactForksOf n kk ts = some true := by
 unfold laws_FnExactForksOf
 rw [szIntSS_ok (by omega) (by omega) h.1 fun r hr => (h.2 r hr).1]
 simp only [Option.bind_some]
 by_cases hz : szR (totSS ts) 1048576 < 0
 ·rw [if_pos (by simpa using hz)]
 ·obtain ⟨h1, h2⟩ := szR_small hz
  have h2' : ∀ r ∈ ts, r.length ≤ 1099511627775 := fun r hr => by have := h2 r hr; omega
  rw [if_neg (by simpa using hz)]
  obtain ⟨R, e1, e2, hR1, hR2⟩ := ForksOf_ok (n := n) (kk := kk) (show ts.length ≤ 1099511627774 by omega) h2'
  have htot := tot_le hz
  have hm := markIntSS_ok (k := 1) h1 h2 (by omega) (by unfold BM; unfold totSS at htot; omega)
  have hmf := mIntSS_far ts 1
  have hR3 : ∀ r ∈ R.1, r.length ≤ 1048576 := fun r hr => by have := hR2 r hr; omega
  have hsum := sum_le16 (fun r hr => (by have := hR2 r hr; omega : r.length ≤ 16))
  have e3 := mIntSS_far R.1 1
  have e4 : ¬ (mIntSS R.1 1).2 < 0 := by omega
  simp only [toIntSS_ok (show ts.length ≤ 1099511627775 by omega) h2', e1, e2, eqIntSS_ok (show ts.length ≤ 1099511627775 by omega) h2', eqIntSS_ok (a := R.1) (b := R.1) (by omega) (fun r hr => by have := hR2 r hr; omega), hm, Option.bind_some, markIntSS_ok (l := R.1) (k := 1) (by omega) hR3 (by omega) (by unfold BM; omega), heldIntSS_ok (l := R.1) (k := 1) (by omega) hR3 (by omega) (by unfold BM; omega)]
  simp [e4, show ¬ (mIntSS ts 1).2 < 0 by omega]
end
end T
