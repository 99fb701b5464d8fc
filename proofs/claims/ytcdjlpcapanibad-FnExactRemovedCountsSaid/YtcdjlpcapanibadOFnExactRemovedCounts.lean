/- Plain lemmas on the typed functions of the program, the first part; no conditions. -/
import Derived.Test.YtcdjlpcapanibadV1
import Derived.Test.YtcdjlpcapanibadV5
import Derived.KernelRfl
set_option linter.all false
namespace Go.Va
theorem w64_def (x : Int) : w64 x = (x + 9223372036854775808) % 18446744073709551616 - 9223372036854775808 := by
 simp [w64, IntKind.wrap, IntKind.bits, IntKind.signed]
 split <;> omega
theorem w64_id {x : Int} (h1 : -9223372036854775808 ≤ x) (h2 : x ≤ 9223372036854775807) : w64 x = x := by
 rw [w64_def]; omega
theorem w64_succ {k : Nat} (h : k < 4611686018427387904) : w64 ((k : Int) + 1) = ((k + 1 : Nat) : Int) := by
 rw [w64_id (by omega) (by omega)]; rfl
theorem w64_succ' {k : Nat} (h : k < 4611686018427387904) : w64 ((k : Int) + 1) = (k : Int) + 1 := w64_id (by omega) (by omega)
theorem inb_nat {α : Type} {k : Nat} {xs : List α} : inb (k : Int) xs ↔ k < xs.length := by
 unfold inb; omega
theorem gd_nat {α : Type} {k : Nat} {xs : List α} {d : α} (h : k < xs.length) : gd xs (k : Int) d = xs[k] := by
 unfold gd; simp [h]
theorem stt_nat {α : Type} {k : Nat} {xs : List α} {x : α} : stt xs (k : Int) x = xs.set k x := by
 unfold stt; simp
def runX {α σ β : Type} (step : σ → α → Option (σ ⊕ β)) (fin : σ → Option β) : List α → σ → Option β
 | [], s => fin s
 | a :: l, s => match step s a with | some (.inl s') => runX step fin l s' | some (.inr r) => some r | none => none
theorem loopX {α σ β : Type} (xs : List α) (L : Nat → σ → Int → Option β) (step : σ → α → Option (σ ⊕ β)) (fin : σ → Option β)
    (hs : ∀ n s (k : Nat) (hk : k < xs.length), L (n + 1) s k = match step s xs[k] with | some (.inl s') => L n s' ((k + 1 : Nat) : Int) | some (.inr r) => some r | none => none)
    (he : ∀ n s, L (n + 1) s (xs.length : Nat) = fin s) : ∀ (n k : Nat) (s : σ), k ≤ xs.length → xs.length - k < n → L n s k = runX step fin (xs.drop k) s := by
  intro n
  induction n with
  | zero => intro k s _ h; omega
  | succ n ih =>
    intro k s hk hn
    rcases Nat.lt_or_ge k xs.length with hlt | hge
    · rw [hs n s k hlt, List.drop_eq_getElem_cons hlt]
      simp only [runX]
      cases step s xs[k] with
      | none => rfl
      | some q =>
        cases q with
        | inl s' => exact ih (k + 1) s' hlt (by omega)
        | inr r => rfl
    · have : k = xs.length := by omega
      subst this
      rw [he, List.drop_length]; rfl
theorem loopX0 {α σ β : Type} (xs : List α) (L : Nat → σ → Int → Option β) (step : σ → α → Option (σ ⊕ β)) (fin : σ → Option β)
    (hs : ∀ n s (k : Nat) (hk : k < xs.length), L (n + 1) s k = match step s xs[k] with | some (.inl s') => L n s' ((k + 1 : Nat) : Int) | some (.inr r) => some r | none => none)
    (he : ∀ n s, L (n + 1) s (xs.length : Nat) = fin s) {n : Nat} (hn : xs.length < n) (s : σ) : L n s 0 = runX step fin xs s := by
  have := loopX xs L step fin hs he n 0 s (Nat.zero_le _) (by omega)
  simpa using this
theorem runX_all {α β : Type} {p : α → Bool} {step : Unit → α → Option (Unit ⊕ β)} {fin : Unit → Option β} {r : β} : ∀ {l : List α}, (∀ a ∈ l, step () a = if p a then some (.inl ()) else some (.inr r)) → runX step fin l () = if l.all p then fin () else some r
 | [], _ => rfl
 | a :: l, h => by
  simp only [runX]
  rw [h a (by simp)]
  cases hp : p a with
  | true => simp only [if_true, List.all_cons, hp, Bool.true_and]; exact runX_all fun b hb => h b (List.mem_cons_of_mem _ hb)
  | false => simp [List.all_cons, hp]
theorem fillX {α β γ : Type} (xs : List α) (L : Nat → List β → Int → Option γ) (g : α → β) (fin : List β → Option γ)
    (hs : ∀ n (out : List β) (k : Nat) (hk : k < xs.length), out.length = xs.length → L (n + 1) out k = L n (out.set k (g xs[k])) ((k + 1 : Nat) : Int))
    (he : ∀ n out, out.length = xs.length → L (n + 1) out (xs.length : Nat) = fin out) : ∀ (n k : Nat) (out : List β), out.length = xs.length → k ≤ xs.length → xs.length - k < n → L n out k = fin (out.take k ++ (xs.drop k).map g) := by
  intro n
  induction n with
  | zero => intro k out _ _ h; omega
  | succ n ih =>
    intro k out hl hk hn
    rcases Nat.lt_or_ge k xs.length with hlt | hge
    · have : (out.set k (g xs[k])).take (k + 1) = out.take k ++ [g xs[k]] := by
        rw [List.take_succ_eq_append_getElem (by simp; omega), List.take_set_of_le (Nat.le_refl _), List.getElem_set_self]
      rw [hs n out k hlt hl, ih (k + 1) _ (by simpa using hl) hlt (by omega), List.drop_eq_getElem_cons hlt, this, List.map_cons, List.append_assoc, List.singleton_append]
    · have : k = xs.length := by omega
      subst this
      rw [he _ _ hl, List.drop_length, List.take_of_length_le (by omega)]; simp
theorem fillX0 {α β γ : Type} (xs : List α) (L : Nat → List β → Int → Option γ) (g : α → β) (fin : List β → Option γ)
    (hs : ∀ n (out : List β) (k : Nat) (hk : k < xs.length), out.length = xs.length → L (n + 1) out k = L n (out.set k (g xs[k])) ((k + 1 : Nat) : Int))
    (he : ∀ n out, out.length = xs.length → L (n + 1) out (xs.length : Nat) = fin out) {n : Nat} {out : List β} (hl : out.length = xs.length) (hn : xs.length < n) : L n out 0 = fin (xs.map g) := by
  have := fillX xs L g fin hs he n 0 out hl (Nat.zero_le _) (by omega)
  simpa using this
theorem eqX {α : Type} [DecidableEq α] (a b : List α) (hl : a.length = b.length) (L : Nat → Int → Option (Unit ⊕ Bool))
    (hs : ∀ n (k : Nat) (h1 : k < a.length) (h2 : k < b.length), L (n + 1) k = if a[k] = b[k] then L n ((k + 1 : Nat) : Int) else some (.inr false)) (he : ∀ n, L (n + 1) (a.length : Nat) = some (.inl ())) {n : Nat} (hn : a.length < n) :
    L n 0 = some (if a = b then .inl () else .inr false) := by
  have key : ∀ (n k : Nat), k ≤ a.length → a.length - k < n → L n k = some (if a.drop k = b.drop k then .inl () else .inr false) := by
    intro n
    induction n with
    | zero => intro k _ h; omega
    | succ n ih =>
      intro k hk hn
      rcases Nat.lt_or_ge k a.length with hlt | hge
      · have h2 : k < b.length := by omega
        have e : (a.drop k = b.drop k) ↔ (a[k] = b[k] ∧ a.drop (k + 1) = b.drop (k + 1)) := by
          rw [List.drop_eq_getElem_cons hlt, List.drop_eq_getElem_cons h2]; exact List.cons_eq_cons
        rw [hs n k hlt h2]
        by_cases h : a[k] = b[k]
        · rw [if_pos h, ih (k + 1) hlt (by omega)]
          by_cases h3 : a.drop (k + 1) = b.drop (k + 1)
          · rw [if_pos h3, if_pos (e.2 ⟨h, h3⟩)]
          · rw [if_neg h3, if_neg fun h' => h3 (e.1 h').2]
        · rw [if_neg h, if_neg fun h' => h (e.1 h').1]
      · have : k = a.length := by omega
        subst this
        rw [he, List.drop_length, hl, List.drop_length]; rfl
  have := key n 0 (Nat.zero_le _) (by omega)
  simpa using this
theorem allX {α β : Type} (xs : List α) (L : Nat → Int → Option β) (p : α → Bool) (r e : β)
    (hs : ∀ n (k : Nat) (hk : k < xs.length), L (n + 1) k = if p xs[k] then L n ((k + 1 : Nat) : Int) else some r) (he : ∀ n, L (n + 1) (xs.length : Nat) = some e) {n : Nat} (hn : xs.length < n) :
    L n 0 = some (if xs.all p then e else r) := by
  have := loopX0 xs (fun n (_ : Unit) i => L n i) (fun _ a => if p a then some (.inl ()) else some (.inr r)) (fun _ => some e) (fun n s k hk => by rw [hs n k hk]; cases p xs[k] <;> simp) (fun n s => he n) hn ()
  rw [this, runX_all (p := p) (r := r) fun a _ => by cases p a <;> simp]
  cases xs.all p <;> simp
theorem forS {σ β : Type} (N : Nat) (L : Nat → σ → Int → Option β) (S : Nat → σ) {r : Option β}
    (hs : ∀ n (k : Nat), k < N → L (n + 1) (S k) k = L n (S (k + 1)) ((k + 1 : Nat) : Int)) (he : ∀ n, L (n + 1) (S N) (N : Nat) = r) {n : Nat} (hn : N < n) : L n (S 0) 0 = r := by
  have key : ∀ (n k : Nat), k ≤ N → N - k < n → L n (S k) k = r := by
    intro n
    induction n with
    | zero => intro k _ h; omega
    | succ n ih =>
      intro k hk hn
      rcases Nat.lt_or_ge k N with hlt | hge
      · rw [hs n k hlt]; exact ih (k + 1) hlt (by omega)
      · have : k = N := by omega
        subst this; exact he n
  exact key n 0 (Nat.zero_le _) (by omega)
theorem forA {σ β : Type} (N : Nat) (L : Nat → σ → Int → Option β) (S : Nat → σ) (p : Nat → Bool) {r e : Option β}
    (hs : ∀ n (k : Nat), k < N → L (n + 1) (S k) k = if p k then L n (S (k + 1)) ((k + 1 : Nat) : Int) else r) (he : ∀ n, L (n + 1) (S N) (N : Nat) = e) {n : Nat} (hn : N < n) :
    L n (S 0) 0 = if (List.range N).all p then e else r := by
  have key : ∀ (n k : Nat), k ≤ N → N - k < n → L n (S k) k = if (List.range' k (N - k)).all p then e else r := by
    intro n
    induction n with
    | zero => intro k _ h; omega
    | succ n ih =>
      intro k hk hn
      rcases Nat.lt_or_ge k N with hlt | hge
      · rw [hs n k hlt, show N - k = (N - (k + 1)) + 1 by omega, List.range'_succ, List.all_cons]
        cases hp : p k with
        | false => simp
        | true => simp only [if_true, Bool.true_and]; exact ih (k + 1) hlt (by omega)
      · have : k = N := by omega
        subst this; rw [he]; simp
  have := key n 0 (Nat.zero_le _) (by omega)
  rw [List.range_eq_range']
  simpa using this
theorem forB {σ β : Type} (N : Nat) (L : Nat → σ → Int → Option β) (S : Nat → σ) (p : Nat → Bool) {r e : Option β}
    (hs : ∀ n (k : Nat), k < N → (∀ j, j < k → p j = true) → L (n + 1) (S k) k = if p k then L n (S (k + 1)) ((k + 1 : Nat) : Int) else r) (he : ∀ n, (∀ j, j < N → p j = true) → L (n + 1) (S N) (N : Nat) = e) {n : Nat} (hn : N < n) :
    L n (S 0) 0 = if (List.range N).all p then e else r := by
  have key : ∀ (n k : Nat), k ≤ N → N - k < n → (∀ j, j < k → p j = true) → L n (S k) k = if (List.range' k (N - k)).all p then e else r := by
    intro n
    induction n with
    | zero => intro k _ h; omega
    | succ n ih =>
      intro k hk hn hb
      rcases Nat.lt_or_ge k N with hlt | hge
      · rw [hs n k hlt hb, show N - k = (N - (k + 1)) + 1 by omega, List.range'_succ, List.all_cons]
        cases hp : p k with
        | false => simp
        | true =>
          simp only [if_true, Bool.true_and]
          refine ih (k + 1) hlt (by omega) fun j hj => ?_
          rcases Nat.lt_or_ge j k with h | h
          · exact hb j h
          · have : j = k := by omega
            rw [this]; exact hp
      · have : k = N := by omega
        subst this; rw [he n hb]; simp
  have := key n 0 (Nat.zero_le _) (by omega) (fun j h => by omega)
  rw [List.range_eq_range']
  simpa using this
def szR (t : Nat) (left : Int) : Int := if (t : Int) ≤ left then left - t else -1
end Go.Va
set_option linter.unusedVariables false
open Go Go.Va
namespace T
def fuel : Nat := 1099511627776
def laws_szIntS (a : List Int) (left : Int) : Option (Int) :=
 if decide ((w64 (left - (a.length : Int))) < 0) then
  some (-1)
 else
  some (w64 (left - (a.length : Int)))
def laws_szIntSS_L5 : Nat → ((List (List Int)) × Int × Int) → Option ((Int) ⊕ (Int))
 | 0, _ => none
 | n + 1, (a, left, i) =>
  if decide (i < (a.length : Int)) then
   if inb i a then
    (laws_szIntS (gd a i []) left).bind fun r1 =>
     if decide (r1 < 0) then
      some (.inr (-1))
     else
      laws_szIntSS_L5 n (a, r1, w64 (i + 1))
   else none
  else
   some (.inl left)
def laws_szIntSS (a : List (List Int)) (left : Int) : Option (Int) :=
 if decide ((w64 (left - (a.length : Int))) < 0) then
  some (-1)
 else
  (laws_szIntSS_L5 fuel (a, w64 (left - (a.length : Int)), 0)).bind fun s1 =>
   match s1 with
   | .inl s2 =>
    some s2
   | .inr s3 =>
    some s3
def laws_toIntS_L3 : Nat → ((List Int) × (List Int) × Int) → Option ((List Int))
 | 0, _ => none
 | n + 1, (a, out, i) =>
  if decide (i < (a.length : Int)) then
   if inb i a then
    if inb i out then
     laws_toIntS_L3 n (a, stt out i (gd a i 0), w64 (i + 1))
    else none
   else none
  else
   some out
def laws_toIntS (a : List Int) : Option ((List Int)) :=
 if 0 ≤ (a.length : Int) ∧ (a.length : Int) ≤ (a.length : Int) ∧ (a.length : Int) ≤ lim then
  (laws_toIntS_L3 fuel (a, List.replicate (Int.toNat (a.length : Int)) (0 : Int), 0)).bind fun s1 =>
   some s1
 else none
def laws_toIntSS_L3 : Nat → ((List (List Int)) × (List (List Int)) × Int) → Option ((List (List Int)))
 | 0, _ => none
 | n + 1, (a, out, i) =>
  if decide (i < (a.length : Int)) then
   if inb i a then
    (laws_toIntS (gd a i [])).bind fun r1 =>
     if inb i out then
      laws_toIntSS_L3 n (a, stt out i r1, w64 (i + 1))
     else none
   else none
  else
   some out
def laws_toIntSS (a : List (List Int)) : Option ((List (List Int))) :=
 if 0 ≤ (a.length : Int) ∧ (a.length : Int) ≤ (a.length : Int) ∧ (a.length : Int) ≤ lim then
  (laws_toIntSS_L3 fuel (a, List.replicate (Int.toNat (a.length : Int)) ([] : List Int), 0)).bind fun s1 =>
   some s1
 else none
def spec_l1In (x : Int) (a : Int) (b : Int) : Option (Bool) :=
 if decide (x ≥ a) then
  some (decide (x ≤ b))
 else
  some false
def spec_l2Elements_L2 : Nat → (Int × (List Int) × Int) → Option ((Unit) ⊕ (Bool))
 | 0, _ => none
 | n + 1, (n_, list, i) =>
  if decide (i < (list.length : Int)) then
   if inb i list then
    (spec_l1In (gd list i 0) 0 (w64 (n_ - 1))).bind fun r1 =>
     if !r1 then
      some (.inr false)
     else
      spec_l2Elements_L2 n (n_, list, w64 (i + 1))
   else none
  else
   some (.inl ())
def spec_l2Elements (n_ : Int) (list : List Int) : Option (Bool) :=
 (spec_l2Elements_L2 fuel (n_, list, 0)).bind fun s1 =>
  match s1 with
  | .inl s2 =>
   some true
  | .inr s3 =>
   some s3
def spec_l8Tuple (n_ : Int) (k : Int) (t : List Int) : Option (Bool) :=
 if (t.length : Int) == k then
  (spec_l2Elements n_ t).bind fun r1 =>
   some r1
 else
  some false
def impl_inSize_L2 : Nat → (Int × (List Int) × Int × Int) → Option ((Unit) ⊕ (Bool))
 | 0, _ => none
 | n + 1, (n_, t7, t8, t9) =>
  if decide (t9 < t8) then
   if inb t9 t7 then
    if decide ((gd t7 t9 0) < 0) then
     some (.inr false)
    else
     if decide ((gd t7 t9 0) ≥ n_) then
      some (.inr false)
     else
      impl_inSize_L2 n (n_, t7, t8, w64 (t9 + 1))
   else none
  else
   some (.inl ())
def impl_inSize (list : List Int) (n_ : Int) : Option (Bool) :=
 (impl_inSize_L2 fuel (n_, list, (list.length : Int), 0)).bind fun s1 =>
  match s1 with
  | .inl s2 =>
   some true
  | .inr s3 =>
   some s3
def laws_eqIntS_L4 : Nat → ((List Int) × (List Int) × Int) → Option ((Unit) ⊕ (Bool))
 | 0, _ => none
 | n + 1, (a, b, i) =>
  if decide (i < (a.length : Int)) then
   if inb i a then
    if inb i b then
     if (gd a i 0) != (gd b i 0) then
      some (.inr false)
     else
      laws_eqIntS_L4 n (a, b, w64 (i + 1))
    else none
   else none
  else
   some (.inl ())
def laws_eqIntS (a : List Int) (b : List Int) : Option (Bool) :=
 if (a.length : Int) != (b.length : Int) then
  some false
 else
  (laws_eqIntS_L4 fuel (a, b, 0)).bind fun s1 =>
   match s1 with
   | .inl s2 =>
    some true
   | .inr s3 =>
    some s3
def laws_eqIntSS_L4 : Nat → ((List (List Int)) × (List (List Int)) × Int) → Option ((Unit) ⊕ (Bool))
 | 0, _ => none
 | n + 1, (a, b, i) =>
  if decide (i < (a.length : Int)) then
   if inb i a then
    if inb i b then
     (laws_eqIntS (gd a i []) (gd b i [])).bind fun r1 =>
      if !r1 then
       some (.inr false)
      else
       laws_eqIntSS_L4 n (a, b, w64 (i + 1))
    else none
   else none
  else
   some (.inl ())
def laws_eqIntSS (a : List (List Int)) (b : List (List Int)) : Option (Bool) :=
 if (a.length : Int) != (b.length : Int) then
  some false
 else
  (laws_eqIntSS_L4 fuel (a, b, 0)).bind fun s1 =>
   match s1 with
   | .inl s2 =>
    some true
   | .inr s3 =>
    some s3
def spec_l2Pow_L2 : Nat → (Int × Int × Int) → Option (Int)
 | 0, _ => none
 | n + 1, (n_, k, out) =>
  if decide (k > 0) then
   spec_l2Pow_L2 n (n_, w64 (k - 1), w64 (out * n_))
  else
   some out
def spec_l2Pow (n_ : Int) (k : Int) : Option (Int) :=
 (spec_l2Pow_L2 fuel (n_, k, 1)).bind fun s1 =>
  some s1
def spec_l3Less_L2 : Nat → ((List Int) × (List Int) × Int) → Option ((Unit) ⊕ (Bool))
 | 0, _ => none
 | n + 1, (a, b, i) =>
  if decide (i < (a.length : Int)) then
   if inb i a then
    if inb i b then
     if (gd a i 0) != (gd b i 0) then
      if inb i a then
       if inb i b then
        some (.inr (decide ((gd a i 0) < (gd b i 0))))
       else none
      else none
     else
      spec_l3Less_L2 n (a, b, w64 (i + 1))
    else none
   else none
  else
   some (.inl ())
def spec_l3Less (a : List Int) (b : List Int) : Option (Bool) :=
 (spec_l3Less_L2 fuel (a, b, 0)).bind fun s1 =>
  match s1 with
  | .inl s2 =>
   some false
  | .inr s3 =>
   some s3
def spec_l1Same_L4 : Nat → ((List Int) × (List Int) × Int) → Option ((Unit) ⊕ (Bool))
 | 0, _ => none
 | n + 1, (a, b, i) =>
  if decide (i < (a.length : Int)) then
   if inb i a then
    if inb i b then
     if (gd a i 0) != (gd b i 0) then
      some (.inr false)
     else
      spec_l1Same_L4 n (a, b, w64 (i + 1))
    else none
   else none
  else
   some (.inl ())
def spec_l1Same (a : List Int) (b : List Int) : Option (Bool) :=
 if (a.length : Int) != (b.length : Int) then
  some false
 else
  (spec_l1Same_L4 fuel (a, b, 0)).bind fun s1 =>
   match s1 with
   | .inl s2 =>
    some true
   | .inr s3 =>
    some s3
def spec_l8Find_L2 : Nat → ((List (List Int)) × (List Int) × Int × Int) → Option ((List (List Int)) × (List Int) × Int)
 | 0, _ => none
 | n + 1, (list, t, from_, to) =>
  if decide (from_ < to) then
   if (2 : Int) ≠ 0 then
    if inb (w64 (Int.tdiv (w64 (from_ + to)) 2)) list then
     (spec_l3Less (gd list (w64 (Int.tdiv (w64 (from_ + to)) 2)) []) t).bind fun r1 =>
      if r1 then
       spec_l8Find_L2 n (list, t, w64 ((w64 (Int.tdiv (w64 (from_ + to)) 2)) + 1), to)
      else
       spec_l8Find_L2 n (list, t, from_, w64 (Int.tdiv (w64 (from_ + to)) 2))
    else none
   else none
  else
   some (list, t, from_)
def spec_l8Find (list : List (List Int)) (t : List Int) : Option (Int × Bool) :=
 (spec_l8Find_L2 fuel (list, t, 0, (list.length : Int))).bind fun s1 =>
  if decide (s1.2.2 < (s1.1.length : Int)) then
   if inb s1.2.2 s1.1 then
    (spec_l1Same (gd s1.1 s1.2.2 []) s1.2.1).bind fun r2 =>
     some (s1.2.2, r2)
   else none
  else
   some (s1.2.2, false)
def impl_compareLists_L2 : Nat → ((List Int) × (List Int) × Int) → Option (((List Int) × (List Int)) ⊕ (Int))
 | 0, _ => none
 | n + 1, (s, t, i) =>
  if decide (i < (s.length : Int)) then
   if decide (i < (t.length : Int)) then
    if inb i s then
     if inb i t then
      if (gd s i 0) != (gd t i 0) then
       if inb i s then
        if inb i t then
         if decide ((gd s i 0) < (gd t i 0)) then
          some (.inr (-1))
         else
          some (.inr 1)
        else none
       else none
      else
       impl_compareLists_L2 n (s, t, w64 (i + 1))
     else none
    else none
   else
    some (.inl (s, t))
  else
   some (.inl (s, t))
def impl_compareLists (s : List Int) (t : List Int) : Option (Int) :=
 (impl_compareLists_L2 fuel (s, t, 0)).bind fun s1 =>
  match s1 with
  | .inl s2 =>
   if decide ((s2.1.length : Int) < (s2.2.length : Int)) then
    some (-1)
   else
    if decide ((s2.1.length : Int) > (s2.2.length : Int)) then
     some 1
    else
     some 0
  | .inr s3 =>
   some s3
end T
open Go Go.Va
namespace T
theorem szIntS_ok {a : List Int} {left : Int} (h0 : 0 ≤ left) (h1 : left ≤ 4611686018427387904) (ha : a.length ≤ 9223372036854775807) : laws_szIntS a left = some (szR a.length left) := by
 unfold laws_szIntS szR
 rw [w64_id (by omega) (by omega)]
 by_cases h : (a.length : Int) ≤ left
 ·rw [if_neg (by simp; omega), if_pos h]
 ·rw [if_pos (by simp; omega), if_neg h]
def totSS (a : List (List Int)) : Nat := a.length + (a.map List.length).sum
theorem szIntSS_ok {a : List (List Int)} {left : Int} (h0 : 0 ≤ left) (h1 : left ≤ 1099511627775) (ha : a.length ≤ 9223372036854775807) (hr : ∀ r ∈ a, r.length ≤ 9223372036854775807) : laws_szIntSS a left = some (szR (totSS a) left) := by
  unfold laws_szIntSS
  rw [w64_id (by omega) (by omega)]
  by_cases h : (a.length : Int) ≤ left
  · rw [if_neg (by simp; omega)]
    have key := loopX0 a (fun n s i => laws_szIntSS_L5 n (a, s, i)) (fun s r => (laws_szIntS r s).bind fun q => if q < 0 then some (.inr (.inr (-1))) else some (.inl q)) (fun s => some (.inl s)) ?_ ?_ (n := fuel) (by unfold fuel; omega) (left - a.length)
    · rw [key]
      have run : ∀ (l : List (List Int)) (s : Int), 0 ≤ s → s ≤ 1099511627775 → (∀ r ∈ l, r.length ≤ 9223372036854775807) →
          runX (fun s r => (laws_szIntS r s).bind fun q => if q < 0 then some (.inr (.inr (-1))) else some (.inl q)) (fun s => some (.inl s)) l s = some (if ((l.map List.length).sum : Int) ≤ s then (.inl (s - (l.map List.length).sum) : Int ⊕ Int) else .inr (-1)) := by
        intro l
        induction l with
        | nil => intro s h0 _ _; simp [runX, h0]
        | cons r l ih =>
          intro s h0 h1 hr
          simp only [runX]
          rw [szIntS_ok h0 (by omega) (hr r (by simp))]
          unfold szR
          by_cases h : (r.length : Int) ≤ s
          · rw [if_pos h]
            simp only [Option.bind_some]
            rw [if_neg (by omega)]
            dsimp only
            rw [ih (s - r.length) (by omega) (by omega) fun r hr' => hr r (List.mem_cons_of_mem _ hr')]
            simp only [List.map_cons, List.sum_cons]
            congr 1
            by_cases h2 : (((l.map List.length).sum : Nat) : Int) ≤ s - r.length
            · rw [if_pos h2, if_pos (by omega)]; congr 1; omega
            · rw [if_neg h2, if_neg (by omega)]
          · rw [if_neg h]
            simp only [List.map_cons, List.sum_cons]
            rw [if_neg (by omega)]
            rfl
      rw [run a _ (by omega) (by omega) hr]
      unfold szR totSS
      by_cases h2 : (((a.map List.length).sum : Nat) : Int) ≤ left - a.length
      · rw [if_pos h2, if_pos (by omega)]
        simp only [Option.bind_some, Option.some.injEq]; omega
      · rw [if_neg h2, if_neg (by omega)]; rfl
    · intro n s k hk
      simp only [laws_szIntSS_L5, inb_nat, gd_nat hk, w64_succ (show k < 4611686018427387904 by omega)]
      simp [hk]
      cases laws_szIntS a[k] s with
      | none => rfl
      | some q => by_cases hq : q < 0 <;> simp [hq]
    · intro n s
      simp [laws_szIntSS_L5]
  · rw [if_pos (by simp; omega)]
    unfold szR totSS
    rw [if_neg (by omega)]
theorem toIntS_ok {a : List Int} (ha : a.length ≤ 1099511627775) : laws_toIntS a = some a := by
 unfold laws_toIntS
 rw [if_pos (by unfold lim; omega)]
 have key := fillX0 a (fun n out i => laws_toIntS_L3 n (a, out, i)) id some ?_ ?_ (n := fuel) (out := List.replicate (Int.toNat (a.length : Int)) (0 : Int)) (by simp) (by unfold fuel; omega)
 ·rw [key]; simp
 ·intro n out k hk hl
  simp only [laws_toIntS_L3, inb_nat, gd_nat hk, stt_nat, w64_succ (show k < 4611686018427387904 by omega)]
  simp [hk, hl]
 ·intro n out hl
  simp [laws_toIntS_L3]
theorem toIntSS_ok {a : List (List Int)} (ha : a.length ≤ 1099511627775) (hr : ∀ r ∈ a, r.length ≤ 1099511627775) : laws_toIntSS a = some a := by
 unfold laws_toIntSS
 rw [if_pos (by unfold lim; omega)]
 have key := fillX0 a (fun n out i => laws_toIntSS_L3 n (a, out, i)) id some ?_ ?_ (n := fuel) (out := List.replicate (Int.toNat (a.length : Int)) ([] : List Int)) (by simp) (by unfold fuel; omega)
 ·rw [key]; simp
 ·intro n out k hk hl
  simp only [laws_toIntSS_L3, inb_nat, gd_nat hk, stt_nat, w64_succ (show k < 4611686018427387904 by omega)]
  simp [hk, hl, toIntS_ok (hr _ (List.getElem_mem hk))]
 ·intro n out hl
  simp [laws_toIntSS_L3]
theorem eqIntS_ok {a b : List Int} (ha : a.length ≤ 1099511627775) : laws_eqIntS a b = some (decide (a = b)) := by
 unfold laws_eqIntS
 by_cases hl : a.length = b.length
 ·rw [if_neg (by simp [hl]), eqX a b hl (fun n i => laws_eqIntS_L4 n (a, b, i)) ?_ ?_ (by unfold fuel; omega)]
  ·by_cases h : a = b <;> simp [h]
  ·intro n k h1 h2
   simp only [laws_eqIntS_L4, inb_nat, gd_nat h1, gd_nat h2, w64_succ (show k < 4611686018427387904 by omega)]
   by_cases h : a[k] = b[k] <;> simp [h1, h2, h]
  ·intro n
   simp [laws_eqIntS_L4]
 ·rw [if_pos (by simp; omega), decide_eq_false (fun e => hl (by rw [e]))]
theorem eqIntSS_ok {a b : List (List Int)} (ha : a.length ≤ 1099511627775) (hr : ∀ r ∈ a, r.length ≤ 1099511627775) : laws_eqIntSS a b = some (decide (a = b)) := by
 unfold laws_eqIntSS
 by_cases hl : a.length = b.length
 ·rw [if_neg (by simp [hl]), eqX a b hl (fun n i => laws_eqIntSS_L4 n (a, b, i)) ?_ ?_ (by unfold fuel; omega)]
  ·by_cases h : a = b <;> simp [h]
  ·intro n k h1 h2
   simp only [laws_eqIntSS_L4, inb_nat, gd_nat h1, gd_nat h2, w64_succ (show k < 4611686018427387904 by omega), eqIntS_ok (hr _ (List.getElem_mem h1))]
   by_cases h : a[k] = b[k] <;> simp [h1, h2, h]
  ·intro n
   simp [laws_eqIntSS_L4]
 ·rw [if_pos (by simp; omega), decide_eq_false (fun e => hl (by rw [e]))]
theorem mem_sum {l : List (List Int)} : ∀ {r : List Int}, r ∈ l → r.length ≤ (l.map List.length).sum := by
 induction l with
 | nil => intro r h; cases h
 | cons x l ih =>
  intro r h
  rw [List.map_cons, List.sum_cons]
  rcases List.mem_cons.1 h with rfl | h
  ·omega
  ·have := ih h; omega
theorem spec_l1In_ok (x a b : Int) : spec_l1In x a b = some (decide (a ≤ x ∧ x ≤ b)) := by
 unfold spec_l1In
 by_cases h : a ≤ x <;> simp [h]
def belowB (n : Int) (l : List Int) : Bool := l.all fun x => decide (0 ≤ x ∧ x < n)
theorem impl_inSize_ok {l : List Int} (n : Int) (hl : l.length ≤ 1099511627775) : impl_inSize l n = some (belowB n l) := by
 unfold impl_inSize
 rw [allX l (fun m i => impl_inSize_L2 m (n, l, (l.length : Int), i)) (fun x => decide (0 ≤ x ∧ x < n)) (.inr false) (.inl ()) ?_ ?_ (by unfold fuel; omega)]
 ·unfold belowB; cases l.all (fun x => decide (0 ≤ x ∧ x < n)) <;> simp
 ·intro m k hk
  simp only [impl_inSize_L2, inb_nat, gd_nat hk, w64_succ (show k < 4611686018427387904 by omega)]
  by_cases h1 : l[k] < 0
  ·simp [hk, h1, show ¬ 0 ≤ l[k] by omega]
  ·by_cases h2 : n ≤ l[k]
   ·simp [hk, h1, h2, show ¬ l[k] < n by omega]
   ·simp [hk, h1, h2, show 0 ≤ l[k] ∧ l[k] < n by omega]
 ·intro m
  simp [impl_inSize_L2]
theorem spec_l2Elements_ok {l : List Int} {n : Int} (hn : -9223372036854775808 < n) (hn' : n ≤ 9223372036854775807) (hl : l.length ≤ 1099511627775) : spec_l2Elements n l = some (belowB n l) := by
 unfold spec_l2Elements
 rw [allX l (fun m i => spec_l2Elements_L2 m (n, l, i)) (fun x => decide (0 ≤ x ∧ x < n)) (.inr false) (.inl ()) ?_ ?_ (by unfold fuel; omega)]
 ·unfold belowB; cases l.all (fun x => decide (0 ≤ x ∧ x < n)) <;> simp
 ·intro m k hk
  simp only [spec_l2Elements_L2, inb_nat, gd_nat hk, w64_succ (show k < 4611686018427387904 by omega), spec_l1In_ok, w64_id (show -9223372036854775808 ≤ n - 1 by omega) (show n - 1 ≤ 9223372036854775807 by omega)]
  by_cases h1 : 0 ≤ l[k] ∧ l[k] < n
  ·simp [hk, h1, show l[k] ≤ n - 1 by omega]
  ·have : ¬ (0 ≤ l[k] ∧ l[k] ≤ n - 1) := by omega
   simp [hk, h1, this]
 ·intro m
  simp [spec_l2Elements_L2]
theorem spec_l8Tuple_ok {l : List Int} {n : Int} (k : Int) (hn : -9223372036854775808 < n) (hn' : n ≤ 9223372036854775807) (hl : l.length ≤ 1099511627775) : spec_l8Tuple n k l = some (decide ((l.length : Int) = k) && belowB n l) := by
 unfold spec_l8Tuple
 rw [spec_l2Elements_ok hn hn' hl]
 by_cases h : (l.length : Int) = k <;> simp [h]
end T
open Go Go.Va
namespace T
theorem belowB_get {n : Int} {l : List Int} (h : belowB n l = true) (k : Nat) (hk : k < l.length) : 0 ≤ l[k] ∧ l[k] < n := by
 have := (List.all_eq_true.1 h) l[k] (List.getElem_mem hk)
 simpa using this
section
variable {p v : Int} {rows : List (List Int)} {y : List Int}
end
end T
open Go Go.Va
namespace T
def cmpL : List Int → List Int → Int
 | [], [] => 0
 | [], _ :: _ => -1
 | _ :: _, [] => 1
 | a :: s, b :: t => if a = b then cmpL s t else if a < b then -1 else 1
theorem compare_L2 {s t : List Int} (hs : s.length ≤ 1099511627775) : ∀ (n k : Nat), k ≤ s.length → k ≤ t.length → s.length - k < n →
    (impl_compareLists_L2 n (s, t, (k : Int))).bind (fun s1 => match s1 with
      | .inl s2 => if decide ((s2.1.length : Int) < (s2.2.length : Int)) then some (-1) else if decide ((s2.1.length : Int) > (s2.2.length : Int)) then some 1 else some 0
      | .inr s3 => some s3) = some (cmpL (s.drop k) (t.drop k)) := by
  intro n
  induction n with
  | zero => intro k _ _ h; omega
  | succ n ih =>
    intro k h1 h2 hn
    by_cases k1 : k < s.length
    · by_cases k2 : k < t.length
      · rw [List.drop_eq_getElem_cons k1, List.drop_eq_getElem_cons k2]
        simp only [impl_compareLists_L2, inb_nat, gd_nat k1, gd_nat k2, w64_succ (show k < 4611686018427387904 by omega), cmpL]
        by_cases he : s[k] = t[k]
        · have := ih (k + 1) k1 k2 (by omega)
          simp [k1, k2, he]
          simpa using this
        · by_cases hl : s[k] < t[k] <;> simp [k1, k2, he, hl]
      · rw [List.drop_eq_getElem_cons k1, List.drop_of_length_le (show t.length ≤ k by omega)]
        have e : k = t.length := by omega
        simp only [impl_compareLists_L2, cmpL]
        simp [k1, k2, show ¬ s.length < t.length by omega, show t.length < s.length by omega]
    · rw [List.drop_of_length_le (show s.length ≤ k by omega)]
      simp only [impl_compareLists_L2]
      by_cases k2 : k < t.length
      · rw [List.drop_eq_getElem_cons k2]
        simp [k1, cmpL, show s.length < t.length by omega]
      · rw [List.drop_of_length_le (show t.length ≤ k by omega)]
        simp [k1, cmpL, show ¬ s.length < t.length by omega, show ¬ t.length < s.length by omega]
theorem impl_compareLists_ok {s t : List Int} (hs : s.length ≤ 1099511627775) : impl_compareLists s t = some (cmpL s t) := by
 have := compare_L2 (t := t) hs fuel 0 (Nat.zero_le _) (Nat.zero_le _) (by unfold fuel; omega)
 rw [List.drop_zero, List.drop_zero] at this
 exact this
theorem spec_l3Less_ok {s t : List Int} (hs : s.length ≤ 1099511627775) (hl : s.length = t.length) : spec_l3Less s t = some (decide (cmpL s t < 0)) := by
 have key : ∀ (n k : Nat), k ≤ s.length → s.length - k < n → (spec_l3Less_L2 n (s, t, (k : Int))).bind (fun s1 => match s1 with | .inl _ => some false | .inr s3 => some s3) = some (decide (cmpL (s.drop k) (t.drop k) < 0)) := by
  intro n
  induction n with
  | zero => intro k _ h; omega
  | succ n ih =>
   intro k h1 hn
   by_cases k1 : k < s.length
   ·have k2 : k < t.length := by omega
    rw [List.drop_eq_getElem_cons k1, List.drop_eq_getElem_cons k2]
    simp only [spec_l3Less_L2, inb_nat, gd_nat k1, gd_nat k2, w64_succ (show k < 4611686018427387904 by omega), cmpL]
    by_cases he : s[k] = t[k]
    ·have := ih (k + 1) k1 (by omega)
     simp [k1, k2, he]
     simpa using this
    ·by_cases hl : s[k] < t[k] <;> simp [k1, k2, he, hl]
   ·rw [List.drop_of_length_le (show s.length ≤ k by omega), List.drop_of_length_le (show t.length ≤ k by omega)]
    simp [spec_l3Less_L2, k1, cmpL]
 have := key fuel 0 (Nat.zero_le _) (by unfold fuel; omega)
 rw [List.drop_zero, List.drop_zero] at this
 exact this
theorem spec_l1Same_ok {a b : List Int} (ha : a.length ≤ 1099511627775) : spec_l1Same a b = some (decide (a = b)) := by
 unfold spec_l1Same
 by_cases hl : a.length = b.length
 ·rw [if_neg (by simp [hl]), eqX a b hl (fun n i => spec_l1Same_L4 n (a, b, i)) ?_ ?_ (by unfold fuel; omega)]
  ·by_cases h : a = b <;> simp [h]
  ·intro n k h1 h2
   simp only [spec_l1Same_L4, inb_nat, gd_nat h1, gd_nat h2, w64_succ (show k < 4611686018427387904 by omega)]
   by_cases h : a[k] = b[k] <;> simp [h1, h2, h]
  ·intro n
   simp [spec_l1Same_L4]
 ·rw [if_pos (by simp; omega), decide_eq_false (fun e => hl (by rw [e]))]
theorem cmpL_refl : ∀ s, cmpL s s = 0
 | [] => rfl
 | a :: s => by simp [cmpL, cmpL_refl s]
theorem cmpL_trans : ∀ {s t u}, cmpL s t < 0 → cmpL t u < 0 → cmpL s u < 0
 | [], [], _, h, _ => by simp [cmpL] at h
 | [], _ :: _, [], _, h => by simp [cmpL] at h
 | [], _ :: _, _ :: _, _, _ => by simp [cmpL]
 | _ :: _, [], _, h, _ => by simp [cmpL] at h
 | _ :: _, _ :: _, [], _, h => by simp [cmpL] at h
 | a :: s, b :: t, c :: u, h1, h2 => by
  simp only [cmpL] at *
  by_cases e1 : a = b
  ·rw [if_pos e1] at h1
   by_cases e2 : b = c
   ·rw [if_pos e2] at h2; rw [if_pos (e1.trans e2)]; exact cmpL_trans h1 h2
   ·rw [if_neg e2] at h2; rw [e1, if_neg e2]; exact h2
  ·rw [if_neg e1] at h1
   have l1 : a < b := by
    by_cases h : a < b
    ·exact h
    ·rw [if_neg h] at h1; omega
   by_cases e2 : b = c
   ·rw [← e2, if_neg e1, if_pos l1]; omega
   ·rw [if_neg e2] at h2
    have l2 : b < c := by
     by_cases h : b < c
     ·exact h
     ·rw [if_neg h] at h2; omega
    rw [if_neg (by omega), if_pos (by omega)]; omega
def incB : List (List Int) → Bool
 | a :: b :: l => decide (cmpL a b < 0) && incB (b :: l)
 | _ => true
theorem incB_tail {a : List Int} {l : List (List Int)} (h : incB (a :: l) = true) : incB l = true := by
 cases l with
 | nil => rfl
 | cons b l => simp only [incB, Bool.and_eq_true] at h; exact h.2
theorem incB_head : ∀ {a : List Int} {l : List (List Int)}, incB (a :: l) = true → ∀ b ∈ l, cmpL a b < 0
 | a, [], _, b, hb => by cases hb
 | a, c :: l, h, b, hb => by
  simp only [incB, Bool.and_eq_true, decide_eq_true_eq] at h
  rcases List.mem_cons.1 hb with rfl | hb
  ·exact h.1
  ·exact cmpL_trans h.1 (incB_head h.2 b hb)
theorem incB_lt : ∀ {l : List (List Int)}, incB l = true → ∀ (i j : Nat) (hi : i < j) (hj : j < l.length), cmpL (l[i]'(by omega)) l[j] < 0
 | [], _, i, j, _, hj => by simp at hj
 | a :: l, h, 0, j + 1, _, hj => by
  simp only [List.getElem_cons_zero, List.getElem_cons_succ]
  exact incB_head h _ (List.getElem_mem _)
 | a :: l, h, i + 1, j + 1, hi, hj => by
  simp only [List.getElem_cons_succ]
  exact incB_lt (incB_tail h) i j (by omega) (by simpa using hj)
theorem incB_iff {l : List (List Int)} : incB l = true ↔ ∀ (i : Nat) (hi : i + 1 < l.length), cmpL (l[i]'(by omega)) l[i + 1] < 0 := by
 constructor
 ·exact fun h i hi => incB_lt h i (i + 1) (by omega) hi
 ·induction l with
  | nil => intro _; rfl
  | cons a l ih =>
   intro h
   cases l with
   | nil => rfl
   | cons b l =>
    simp only [incB, Bool.and_eq_true, decide_eq_true_eq]
    exact ⟨h 0 (by simp), ih fun i hi => by have := h (i + 1) (by simpa using hi); simpa using this⟩
end T
open Go Go.Va
namespace T
theorem pow_le_of {n : Int} (h0 : 0 ≤ n) (h8 : n ≤ 8) : ∀ k : Nat, 0 ≤ n ^ k ∧ n ^ k ≤ 8 ^ k
 | 0 => by simp
 | k + 1 => by
  obtain ⟨h1, h2⟩ := pow_le_of h0 h8 k
  rw [Int.pow_succ, Int.pow_succ]
  exact ⟨Int.mul_nonneg h1 h0, Int.mul_le_mul h2 h8 h0 (by have : (0 : Int) ≤ 8 ^ k := Int.le_trans h1 h2; exact this)⟩
theorem pow8_le : ∀ k : Nat, k ≤ 20 → (8 : Int) ^ k ≤ 8 ^ 20 := by
 intro k hk
 have : ((8 ^ k : Nat) : Int) ≤ ((8 ^ 20 : Nat) : Int) := Int.ofNat_le.2 (Nat.pow_le_pow_right (by omega) hk)
 simpa using this
theorem pow_bd {n : Int} (h0 : 0 ≤ n) (h8 : n ≤ 8) {k : Nat} (hk : k ≤ 20) : 0 ≤ n ^ k ∧ n ^ k ≤ 1152921504606846976 := by
  obtain ⟨h1, h2⟩ := pow_le_of h0 h8 k
  have := pow8_le k hk
  exact ⟨h1, by have e : (8 : Int) ^ 20 = 1152921504606846976 := by decide
                omega⟩
theorem l2Pow_L2 {n : Int} (h0 : 0 ≤ n) (h8 : n ≤ 8) : ∀ (m k j : Nat), j + k ≤ 20 → k < m → spec_l2Pow_L2 m (n, (k : Int), n ^ j) = some (n ^ (j + k)) := by
 intro m
 induction m with
 | zero => intro k j _ h; omega
 | succ m ih =>
  intro k j hj hk
  simp only [spec_l2Pow_L2]
  cases k with
  | zero => simp
  | succ k =>
   have e : w64 (((k + 1 : Nat) : Int) - 1) = (k : Int) := by rw [w64_id (by omega) (by omega)]; omega
   have hb := pow_bd h0 h8 (k := j + 1) (by omega)
   rw [Int.pow_succ] at hb
   rw [e, w64_id (by omega) (by omega), ← Int.pow_succ, if_pos (by simp), ih k (j + 1) (by omega) (by omega)]
   congr 2 <;> omega
theorem spec_l2Pow_ok {n : Int} (h0 : 0 ≤ n) (h8 : n ≤ 8) {k : Nat} (hk : k ≤ 20) : spec_l2Pow n (k : Int) = some (n ^ k) := by
 unfold spec_l2Pow
 have := l2Pow_L2 h0 h8 fuel k 0 (by omega) (by unfold fuel; omega)
 rw [Int.pow_zero] at this
 rw [this]; simp
def idxA (n : Int) : Int → List Int → Int
 | i, [] => i
 | i, a :: l => idxA n (i * n + a) l
def idx (n : Int) (l : List Int) : Int := idxA n 0 l
theorem idxA_eq (n : Int) : ∀ (l : List Int) (i : Int), idxA n i l = i * n ^ l.length + idxA n 0 l
 | [], i => by simp [idxA]
 | a :: l, i => by
  simp only [idxA, List.length_cons]
  rw [idxA_eq n l (i * n + a), idxA_eq n l (0 * n + a), Int.pow_succ]
  simp only [Int.zero_mul, Int.zero_add]
  rw [Int.add_mul, Int.mul_assoc, Int.mul_comm n (n ^ l.length)]
  omega
theorem idx_cons (n a : Int) (l : List Int) : idx n (a :: l) = a * n ^ l.length + idx n l := by
 unfold idx
 simp only [idxA]
 rw [idxA_eq]; simp
theorem belowB_cons {n a : Int} {l : List Int} : belowB n (a :: l) = true ↔ (0 ≤ a ∧ a < n) ∧ belowB n l = true := by
 unfold belowB; simp [List.all_cons]
theorem idx_bd {n : Int} : ∀ {l : List Int}, belowB n l = true → 0 ≤ idx n l ∧ idx n l < n ^ l.length
 | [], _ => by simp [idx, idxA]
 | a :: l, h => by
  obtain ⟨h1, h2⟩ := belowB_cons.1 h
  obtain ⟨h3, h4⟩ := idx_bd h2
  rw [idx_cons, List.length_cons, Int.pow_succ]
  have hp : 0 ≤ n ^ l.length := by omega
  have k1 := Int.mul_nonneg h1.1 hp
  have k2 := Int.mul_le_mul_of_nonneg_right (show a + 1 ≤ n by omega) hp
  rw [Int.add_mul, Int.one_mul, Int.mul_comm n] at k2
  exact ⟨by omega, by omega⟩
theorem idx_cmp {n : Int} : ∀ {s t : List Int}, belowB n s = true → belowB n t = true → s.length = t.length → (cmpL s t < 0 ↔ idx n s < idx n t) ∧ (cmpL s t = 0 ↔ idx n s = idx n t)
 | [], [], _, _, _ => by simp [cmpL, idx, idxA]
 | [], _ :: _, _, _, h => by simp at h
 | _ :: _, [], _, _, h => by simp at h
 | a :: s, b :: t, hs, ht, hl => by
  obtain ⟨s1, s2⟩ := belowB_cons.1 hs
  obtain ⟨t1, t2⟩ := belowB_cons.1 ht
  have hl' : s.length = t.length := by simpa using hl
  have ih := idx_cmp s2 t2 hl'
  obtain ⟨b1, b2⟩ := idx_bd s2
  obtain ⟨c1, c2⟩ := idx_bd t2
  rw [idx_cons, idx_cons, hl']
  rw [hl'] at b2
  simp only [cmpL]
  have hp : 0 ≤ n ^ t.length := by omega
  rcases Int.lt_trichotomy a b with h | h | h
  ·have := Int.mul_le_mul_of_nonneg_right (show a + 1 ≤ b by omega) hp
   rw [Int.add_mul, Int.one_mul] at this
   rw [if_neg (by omega), if_pos h]
   exact ⟨by constructor <;> intro <;> omega, by constructor <;> intro <;> omega⟩
  ·subst h
   rw [if_pos rfl]
   exact ⟨by rw [ih.1]; constructor <;> intro <;> omega, by rw [ih.2]; constructor <;> intro <;> omega⟩
  ·have := Int.mul_le_mul_of_nonneg_right (show b + 1 ≤ a by omega) hp
   rw [Int.add_mul, Int.one_mul] at this
   rw [if_neg (by omega), if_neg (by omega)]
   exact ⟨by constructor <;> intro <;> omega, by constructor <;> intro <;> omega⟩
theorem inc_count {n : Int} {k : Nat} {l : List (List Int)} (hi : incB l = true) (hv : ∀ t ∈ l, t.length = k ∧ belowB n t = true) : (l.length : Int) ≤ n ^ k ∨ l = [] := by
 have key : ∀ (i : Nat) (h : i < l.length), (i : Int) ≤ idx n l[i] := by
  intro i
  induction i with
  | zero => intro h; exact (idx_bd (hv _ (List.getElem_mem h)).2).1
  | succ i ih =>
   intro h
   have h1 := ih (by omega)
   obtain ⟨l1, b1⟩ := hv _ (List.getElem_mem (show i < l.length by omega))
   obtain ⟨l2, b2⟩ := hv _ (List.getElem_mem h)
   have := (idx_cmp b1 b2 (l1.trans l2.symm)).1.1 (incB_lt hi i (i + 1) (by omega) h)
   omega
 cases hn : l.length with
 | zero => exact .inr (List.length_eq_zero_iff.1 hn)
 | succ m =>
  left
  have h := key m (by omega)
  obtain ⟨l1, b1⟩ := hv _ (List.getElem_mem (show m < l.length by omega))
  have := (idx_bd b1).2
  rw [l1] at this
  omega
theorem find_L2 {list : List (List Int)} {t : List Int} {k : Nat} (hl : list.length ≤ 1099511627775) (hk : k ≤ 1099511627775) (hv : ∀ u ∈ list, u.length = k) (ht : t.length = k) (hi : incB list = true) : ∀ (m a b : Nat), a ≤ b → b ≤ list.length → b - a < m →
    (∀ i (h : i < list.length), i < a → cmpL list[i] t < 0) → (∀ i (h : i < list.length), b ≤ i → ¬ cmpL list[i] t < 0) →
    ∃ c : Nat, spec_l8Find_L2 m (list, t, (a : Int), (b : Int)) = some (list, t, (c : Int)) ∧ c ≤ list.length ∧ (∀ i (h : i < list.length), i < c → cmpL list[i] t < 0) ∧ (∀ i (h : i < list.length), c ≤ i → ¬ cmpL list[i] t < 0) := by
  intro m
  induction m with
  | zero => intro a b _ _ h; omega
  | succ m ih =>
    intro a b hab hb hm h1 h2
    simp only [spec_l8Find_L2]
    by_cases hlt : a < b
    · have emid : w64 (Int.tdiv (w64 ((a : Int) + b)) 2) = (((a + b) / 2 : Nat) : Int) := by
        rw [w64_id (x := (a : Int) + b) (by omega) (by omega), Int.tdiv_eq_ediv_of_nonneg (by omega), w64_id (by omega) (by omega)]; omega
      have hmid : (a + b) / 2 < list.length := by omega
      rw [emid]
      have hless := spec_l3Less_ok (s := list[(a + b) / 2]) (t := t) (by rw [hv _ (List.getElem_mem hmid)]; omega) (by rw [hv _ (List.getElem_mem hmid), ht])
      simp only [inb_nat, gd_nat hmid, hless, Option.bind_some, w64_succ (show (a + b) / 2 < 4611686018427387904 by omega)]
      by_cases hc : cmpL list[(a + b) / 2] t < 0
      · obtain ⟨c, e, k1, k2, k3⟩ := ih ((a + b) / 2 + 1) b (by omega) hb (by omega) (fun i h hi' => by
          rcases Nat.lt_or_ge i ((a + b) / 2) with h' | h'
          · exact cmpL_trans (incB_lt hi i ((a + b) / 2) h' hmid) hc
          · have : i = (a + b) / 2 := by omega
            subst this; exact hc) h2
        exact ⟨c, by simpa [hlt, hmid, hc] using e, k1, k2, k3⟩
      · obtain ⟨c, e, k1, k2, k3⟩ := ih a ((a + b) / 2) (by omega) (by omega) (by omega) h1 (fun i h hi' hneg => by
          rcases Nat.lt_or_ge ((a + b) / 2) i with h' | h'
          · exact hc (cmpL_trans (incB_lt hi ((a + b) / 2) i h' h) hneg)
          · have : i = (a + b) / 2 := by omega
            subst this; exact hc hneg)
        exact ⟨c, by simpa [hlt, hmid, hc] using e, k1, k2, k3⟩
    · have : a = b := by omega
      subst this
      exact ⟨a, by simp, hb, h1, h2⟩
theorem spec_l8Find_ok {list : List (List Int)} {t : List Int} {k : Nat} (hl : list.length ≤ 1099511627774) (hk : k ≤ 1099511627775) (hv : ∀ u ∈ list, u.length = k) (ht : t.length = k) (hi : incB list = true) :
    ∃ c : Nat, spec_l8Find list t = some ((c : Int), decide (t ∈ list)) ∧ c ≤ list.length ∧ (∀ i (h : i < list.length), i < c → cmpL list[i] t < 0) ∧ (∀ i (h : i < list.length), c ≤ i → ¬ cmpL list[i] t < 0) := by
  obtain ⟨c, e, k1, k2, k3⟩ := find_L2 (by omega) hk hv ht hi fuel 0 list.length (Nat.zero_le _) (Nat.le_refl _) (by unfold fuel; omega) (fun i _ h => by omega) (fun i h h' => by omega)
  refine ⟨c, ?_, k1, k2, k3⟩
  unfold spec_l8Find
  have e' : spec_l8Find_L2 fuel (list, t, 0, (list.length : Int)) = some (list, t, (c : Int)) := e
  rw [e']
  simp only [Option.bind_some]
  by_cases hc : c < list.length
  · have hs := spec_l1Same_ok (a := list[c]) (b := t) (by rw [hv _ (List.getElem_mem hc)]; omega)
    simp only [inb_nat, gd_nat hc, hs, Option.bind_some]
    have : decide (list[c] = t) = decide (t ∈ list) := by
      by_cases h : list[c] = t
      · rw [decide_eq_true h, decide_eq_true (h ▸ List.getElem_mem hc)]
      · rw [decide_eq_false h]
        symm; rw [decide_eq_false_iff_not]
        intro hm
        obtain ⟨j, hj, rfl⟩ := List.mem_iff_getElem.1 hm
        have hne : j ≠ c := fun e => h (by subst e; rfl)
        rcases Nat.lt_or_ge j c with hlt | hge
        · have := k2 j hj hlt; rw [cmpL_refl] at this; omega
        · exact k3 c hc (Nat.le_refl _) (incB_lt hi c j (by omega) hj)
    simp [hc, this]
  · have : decide (t ∈ list) = false := by
      rw [decide_eq_false_iff_not]
      intro hm
      obtain ⟨j, hj, rfl⟩ := List.mem_iff_getElem.1 hm
      have := k2 j hj (by omega); rw [cmpL_refl] at this; omega
    rw [if_neg (by simp; omega), this]
end T
open Go Go.Va
namespace T
structure SetOk (p : Int) (k : Nat) (ts : List (List Int)) : Prop where
 hp : 2 ≤ p ∧ p ≤ 7
 hk : k ≤ 4
 len : ∀ t ∈ ts, t.length = k
 el : ∀ t ∈ ts, belowB p t = true
 inc : incB ts = true
theorem SetOk.count {p : Int} {k : Nat} {ts : List (List Int)} (h : SetOk p k ts) : ts.length ≤ 2401 := by
 rcases inc_count (n := p) (k := k) h.inc fun t ht => ⟨h.len t ht, h.el t ht⟩ with h' | h'
 ·have hp := h.hp
  have e : p ^ k ≤ 7 ^ 4 := by
   have : (p.toNat ^ k : Nat) ≤ 7 ^ 4 := Nat.le_trans (Nat.pow_le_pow_left (show p.toNat ≤ 7 by omega) k) (Nat.pow_le_pow_right (by omega) h.hk)
   have e2 : ((p.toNat ^ k : Nat) : Int) = p ^ k := by
    rw [Int.natCast_pow]; congr 1; omega
   rw [← e2]; exact_mod_cast this
  have : (7 : Int) ^ 4 = 2401 := by decide
  omega
 ·rw [h']; simp
section
variable {p : Int} {k : Nat} {ts : List (List Int)}
end
end T
set_option linter.unusedVariables false
open Go Go.Va
namespace T
def laws_szRelation (a : Int × (List (List Int))) (left : Int) : Option (Int) :=
 (laws_szIntSS a.2 left).bind fun r1 =>
  if decide (r1 < 0) then
   some (-1)
  else
   some r1
def laws_szConstraint (a : (List Int) × Int × (List (List Int))) (left : Int) : Option (Int) :=
 (laws_szIntS a.1 left).bind fun r1 =>
  if decide (r1 < 0) then
   some (-1)
  else
   (laws_szRelation (a.2.1, a.2.2) r1).bind fun r2 =>
    if decide (r2 < 0) then
     some (-1)
    else
     some r2
def laws_szConstraintS_L5 : Nat → ((List ((List Int) × Int × (List (List Int)))) × Int × Int) → Option ((Int) ⊕ (Int))
 | 0, _ => none
 | n + 1, (a, left, i) =>
  if decide (i < (a.length : Int)) then
   if inb i a then
    (laws_szConstraint (gd a i ([], (0, []))) left).bind fun r1 =>
     if decide (r1 < 0) then
      some (.inr (-1))
     else
      laws_szConstraintS_L5 n (a, r1, w64 (i + 1))
   else none
  else
   some (.inl left)
def laws_szConstraintS (a : List ((List Int) × Int × (List (List Int)))) (left : Int) : Option (Int) :=
 if decide ((w64 (left - (a.length : Int))) < 0) then
  some (-1)
 else
  (laws_szConstraintS_L5 fuel (a, w64 (left - (a.length : Int)), 0)).bind fun s1 =>
   match s1 with
   | .inl s2 =>
    some s2
   | .inr s3 =>
    some s3
def laws_szNetwork (a : Int × Int × (List ((List Int) × Int × (List (List Int))))) (left : Int) : Option (Int) :=
 (laws_szConstraintS a.2.2 left).bind fun r1 =>
  if decide (r1 < 0) then
   some (-1)
  else
   some r1
def laws_toRelation (a : Int × (List (List Int))) : Option ((Int × (List (List Int)))) :=
 (laws_toIntSS a.2).bind fun r1 =>
  some (a.1, r1)
def laws_toConstraint (a : (List Int) × Int × (List (List Int))) : Option (((List Int) × (Int × (List (List Int))))) :=
 (laws_toIntS a.1).bind fun r1 =>
  (laws_toRelation (a.2.1, a.2.2)).bind fun r2 =>
   some (r1, (r2.1, r2.2))
def laws_toConstraintS_L3 : Nat → ((List ((List Int) × Int × (List (List Int)))) × (List ((List Int) × Int × (List (List Int)))) × Int) → Option ((List ((List Int) × Int × (List (List Int)))))
 | 0, _ => none
 | n + 1, (a, out, i) =>
  if decide (i < (a.length : Int)) then
   if inb i a then
    (laws_toConstraint (gd a i ([], (0, [])))).bind fun r1 =>
     if inb i out then
      laws_toConstraintS_L3 n (a, stt out i (r1.1, (r1.2.1, r1.2.2)), w64 (i + 1))
     else none
   else none
  else
   some out
def laws_toConstraintS (a : List ((List Int) × Int × (List (List Int)))) : Option ((List ((List Int) × Int × (List (List Int))))) :=
 if 0 ≤ (a.length : Int) ∧ (a.length : Int) ≤ (a.length : Int) ∧ (a.length : Int) ≤ lim then
  (laws_toConstraintS_L3 fuel (a, List.replicate (Int.toNat (a.length : Int)) (([], (0, [])) : (List Int) × Int × (List (List Int))), 0)).bind fun s1 =>
   some s1
 else none
def laws_toNetwork (a : Int × Int × (List ((List Int) × Int × (List (List Int))))) : Option ((Int × (Int × (List ((List Int) × Int × (List (List Int))))))) :=
 (laws_toConstraintS a.2.2).bind fun r1 =>
  some (a.1, (a.2.1, r1))
def spec_l13Good_L4 : Nat → (Int × (Int × (List (List Int))) × Int) → Option ((Unit) ⊕ (Bool))
 | 0, _ => none
 | n + 1, (n_, r, i) =>
  if decide (i < (r.2.length : Int)) then
   if inb i r.2 then
    (spec_l8Tuple n_ r.1 (gd r.2 i [])).bind fun r3 =>
     if !r3 then
      some (.inr false)
     else
      if decide (i > 0) then
       if inb (w64 (i - 1)) r.2 then
        if inb i r.2 then
         (spec_l3Less (gd r.2 (w64 (i - 1)) []) (gd r.2 i [])).bind fun r4 =>
          if !r4 then
           some (.inr false)
          else
           spec_l13Good_L4 n (n_, (r.1, r.2), w64 (i + 1))
        else none
       else none
      else
       spec_l13Good_L4 n (n_, (r.1, r.2), w64 (i + 1))
   else none
  else
   some (.inl ())
def spec_l13Good (n_ : Int) (r : Int × (List (List Int))) : Option (Bool) :=
 (spec_l1In r.1 1 3).bind fun r1 =>
  if !r1 then
   some false
  else
   (spec_l2Pow n_ r.1).bind fun r2 =>
    if decide ((r.2.length : Int) > r2) then
     some false
    else
     (spec_l13Good_L4 fuel (n_, (r.1, r.2), 0)).bind fun s3 =>
      match s3 with
      | .inl s4 =>
       some true
      | .inr s5 =>
       some s5
def spec_l19Is (vars : Int) (size : Int) (c : (List Int) × Int × (List (List Int))) : Option (Bool) :=
 (spec_l13Good size (c.2.1, c.2.2)).bind fun r1 =>
  if r1 then
   if (c.1.length : Int) == c.2.1 then
    (spec_l2Elements vars c.1).bind fun r2 =>
     some r2
   else
    some false
  else
   some false
def spec_l19Good_L4 : Nat → ((Int × Int × (List ((List Int) × Int × (List (List Int))))) × Int) → Option ((Unit) ⊕ (Bool))
 | 0, _ => none
 | n + 1, (net, i) =>
  if decide (i < (net.2.2.length : Int)) then
   if inb i net.2.2 then
    (spec_l19Is net.1 net.2.1 (gd net.2.2 i ([], (0, [])))).bind fun r3 =>
     if !r3 then
      some (.inr false)
     else
      spec_l19Good_L4 n ((net.1, (net.2.1, net.2.2)), w64 (i + 1))
   else none
  else
   some (.inl ())
def spec_l19Good (net : Int × Int × (List ((List Int) × Int × (List (List Int))))) : Option (Bool) :=
 (spec_l1In net.1 0 9).bind fun r1 =>
  if !r1 then
   some false
  else
   (spec_l1In net.2.1 1 4).bind fun r2 =>
    if !r2 then
     some false
    else
     if decide ((net.2.2.length : Int) > 40) then
      some false
     else
      (spec_l19Good_L4 fuel ((net.1, (net.2.1, net.2.2)), 0)).bind fun s3 =>
       match s3 with
       | .inl s4 =>
        some true
       | .inr s5 =>
        some s5
def spec_l1Own (l : List Int) : Option ((List Int)) :=
 if ([] : List Int).length + l.length ≤ lim then
  some ([] ++ l)
 else none
def impl_isTemplateSize (n_ : Int) : Option (Bool) :=
 if decide (n_ ≥ 1) then
  some (decide (n_ ≤ 4))
 else
  some false
def impl_isRelation_L4 : Nat → (Int × (Int × (List (List Int))) × (List (List Int)) × Int × Int) → Option ((Unit) ⊕ (Bool))
 | 0, _ => none
 | n + 1, (n_, r, t16, t17, t18) =>
  if decide (t18 < t17) then
   if inb t18 t16 then
    if ((gd t16 t18 []).length : Int) != r.1 then
     some (.inr false)
    else
     (impl_inSize (gd t16 t18 []) n_).bind fun r1 =>
      if !r1 then
       some (.inr false)
      else
       if decide (t18 > 0) then
        if inb (w64 (t18 - 1)) r.2 then
         (impl_compareLists (gd r.2 (w64 (t18 - 1)) []) (gd t16 t18 [])).bind fun r2 =>
          if decide (r2 ≥ 0) then
           some (.inr false)
          else
           impl_isRelation_L4 n (n_, (r.1, r.2), t16, t17, w64 (t18 + 1))
        else none
       else
        impl_isRelation_L4 n (n_, (r.1, r.2), t16, t17, w64 (t18 + 1))
   else none
  else
   some (.inl ())
def impl_isRelation (n_ : Int) (r : Int × (List (List Int))) : Option (Bool) :=
 if decide (r.1 < 1) then
  some false
 else
  if decide (r.1 > 3) then
   some false
  else
   (impl_isRelation_L4 fuel (n_, (r.1, r.2), r.2, (r.2.length : Int), 0)).bind fun s1 =>
    match s1 with
    | .inl s2 =>
     some true
    | .inr s3 =>
     some s3
def impl_isConstraint (vars : Int) (size : Int) (c : (List Int) × Int × (List (List Int))) : Option (Bool) :=
 (impl_isRelation size (c.2.1, c.2.2)).bind fun r1 =>
  if r1 then
   if (c.1.length : Int) == c.2.1 then
    (impl_inSize c.1 vars).bind fun r2 =>
     some r2
   else
    some false
  else
   some false
def impl_IsNetwork_L4 : Nat → ((Int × Int × (List ((List Int) × Int × (List (List Int))))) × (List ((List Int) × Int × (List (List Int)))) × Int × Int) → Option ((Unit) ⊕ (Bool))
 | 0, _ => none
 | n + 1, (net, t26, t27, t28) =>
  if decide (t28 < t27) then
   if inb t28 t26 then
    (impl_isConstraint net.1 net.2.1 ((gd t26 t28 ([], (0, []))).1, (((gd t26 t28 ([], (0, []))).2).1, ((gd t26 t28 ([], (0, []))).2).2))).bind fun r2 =>
     if !r2 then
      some (.inr false)
     else
      impl_IsNetwork_L4 n ((net.1, (net.2.1, net.2.2)), t26, t27, w64 (t28 + 1))
   else none
  else
   some (.inl ())
def impl_IsNetwork (net : Int × Int × (List ((List Int) × Int × (List (List Int))))) : Option (Bool) :=
 if decide (net.1 < 0) then
  some false
 else
  if decide (net.1 > 9) then
   some false
  else
   (impl_isTemplateSize net.2.1).bind fun r1 =>
    if !r1 then
     some false
    else
     if decide ((net.2.2.length : Int) > 40) then
      some false
     else
      (impl_IsNetwork_L4 fuel ((net.1, (net.2.1, net.2.2)), net.2.2, (net.2.2.length : Int), 0)).bind fun s2 =>
       match s2 with
       | .inl s3 =>
        some true
       | .inr s4 =>
        some s4
def impl_agrees_L5 : Nat → ((List Int) × (List Int) × Int × Int × (List Int) × Int × Int × (List Int) × Int × Int) → Option (((List Int) × (List Int) × (List Int) × Int × Int) ⊕ (Bool))
 | 0, _ => none
 | n + 1, (scope, t, i, v, t9, t10, t11, t18, t19, t20) =>
  if decide (t20 < t19) then
   if inb t20 t18 then
    if v == (gd t18 t20 0) then
     if inb i t then
      if inb t20 t then
       if (gd t i 0) != (gd t t20 0) then
        some (.inr false)
       else
        impl_agrees_L5 n (scope, t, i, v, t9, t10, t11, t18, t19, w64 (t20 + 1))
      else none
     else none
    else
     impl_agrees_L5 n (scope, t, i, v, t9, t10, t11, t18, t19, w64 (t20 + 1))
   else none
  else
   some (.inl (scope, t, t9, t10, t11))
def impl_agrees_L2 : Nat → ((List Int) × (List Int) × (List Int) × Int × Int) → Option ((Unit) ⊕ (Bool))
 | 0, _ => none
 | n + 1, (scope, t, t9, t10, t11) =>
  if decide (t11 < t10) then
   if inb t11 t9 then
    if (0 : Int) ≤ 0 ∧ 0 ≤ t11 ∧ t11 ≤ (scope.length : Int) then
     (impl_agrees_L5 fuel (scope, t, t11, gd t9 t11 0, t9, t10, t11, (scope.take (Int.toNat t11)).drop (Int.toNat 0), (((scope.take (Int.toNat t11)).drop (Int.toNat 0)).length : Int), 0)).bind fun s1 =>
      match s1 with
      | .inl s2 =>
       impl_agrees_L2 n (s2.1, s2.2.1, s2.2.2.1, s2.2.2.2.1, w64 (s2.2.2.2.2 + 1))
      | .inr s3 =>
       some (.inr s3)
    else none
   else none
  else
   some (.inl ())
def impl_agrees (scope : List Int) (t : List Int) : Option (Bool) :=
 (impl_agrees_L2 fuel (scope, t, scope, (scope.length : Int), 0)).bind fun s1 =>
  match s1 with
  | .inl s2 =>
   some true
  | .inr s3 =>
   some s3
def laws_eqRelation (a : Int × (List (List Int))) (b : Int × (List (List Int))) : Option (Bool) :=
 if a.1 != b.1 then
  some false
 else
  (laws_eqIntSS a.2 b.2).bind fun r1 =>
   if !r1 then
    some false
   else
    some true
def laws_eqConstraint (a : (List Int) × Int × (List (List Int))) (b : (List Int) × Int × (List (List Int))) : Option (Bool) :=
 (laws_eqIntS a.1 b.1).bind fun r1 =>
  if !r1 then
   some false
  else
   (laws_eqRelation (a.2.1, a.2.2) (b.2.1, b.2.2)).bind fun r2 =>
    if !r2 then
     some false
    else
     some true
def laws_eqConstraintS_L4 : Nat → ((List ((List Int) × Int × (List (List Int)))) × (List ((List Int) × Int × (List (List Int)))) × Int) → Option ((Unit) ⊕ (Bool))
 | 0, _ => none
 | n + 1, (a, b, i) =>
  if decide (i < (a.length : Int)) then
   if inb i a then
    if inb i b then
     (laws_eqConstraint (gd a i ([], (0, []))) (gd b i ([], (0, [])))).bind fun r1 =>
      if !r1 then
       some (.inr false)
      else
       laws_eqConstraintS_L4 n (a, b, w64 (i + 1))
    else none
   else none
  else
   some (.inl ())
def laws_eqConstraintS (a : List ((List Int) × Int × (List (List Int)))) (b : List ((List Int) × Int × (List (List Int)))) : Option (Bool) :=
 if (a.length : Int) != (b.length : Int) then
  some false
 else
  (laws_eqConstraintS_L4 fuel (a, b, 0)).bind fun s1 =>
   match s1 with
   | .inl s2 =>
    some true
   | .inr s3 =>
    some s3
def laws_eqNetwork (a : Int × Int × (List ((List Int) × Int × (List (List Int))))) (b : Int × Int × (List ((List Int) × Int × (List (List Int))))) : Option (Bool) :=
 if a.1 != b.1 then
  some false
 else
  if a.2.1 != b.2.1 then
   some false
  else
   (laws_eqConstraintS a.2.2 b.2.2).bind fun r1 =>
    if !r1 then
     some false
    else
     some true
def spec_l6Identity_L3 : Nat → (Int × (List Int) × Int) → Option ((List Int))
 | 0, _ => none
 | n + 1, (n_, out, x) =>
  if decide (x < n_) then
   if out.length + [x].length ≤ lim then
    spec_l6Identity_L3 n (n_, out ++ [x], w64 (x + 1))
   else none
  else
   some out
def spec_l6Identity (n_ : Int) : Option ((List Int)) :=
 (spec_l6Identity_L3 fuel (n_, [], 0)).bind fun s1 =>
  some s1
def spec_l20Full_L3 : Nat → ((Int × Int × (List ((List Int) × Int × (List (List Int))))) × (List (List Int)) × Int) → Option ((List (List Int)))
 | 0, _ => none
 | n + 1, (net, out, v) =>
  if decide (v < net.1) then
   (spec_l6Identity net.2.1).bind fun r1 =>
    if out.length + [r1].length ≤ lim then
     spec_l20Full_L3 n ((net.1, (net.2.1, net.2.2)), out ++ [r1], w64 (v + 1))
    else none
  else
   some out
def spec_l20Full (net : Int × Int × (List ((List Int) × Int × (List (List Int))))) : Option ((List (List Int))) :=
 (spec_l20Full_L3 fuel ((net.1, (net.2.1, net.2.2)), [], 0)).bind fun s1 =>
  some s1
def spec_l1Has_L2 : Nat → ((List Int) × Int × Int) → Option ((Unit) ⊕ (Bool))
 | 0, _ => none
 | n + 1, (l, n_, i) =>
  if decide (i < (l.length : Int)) then
   if inb i l then
    if (gd l i 0) == n_ then
     some (.inr true)
    else
     spec_l1Has_L2 n (l, n_, w64 (i + 1))
   else none
  else
   some (.inl ())
def spec_l1Has (l : List Int) (n_ : Int) : Option (Bool) :=
 (spec_l1Has_L2 fuel (l, n_, 0)).bind fun s1 =>
  match s1 with
  | .inl s2 =>
   some false
  | .inr s3 =>
   some s3
def spec_l20Fits_L7 : Nat → ((List Int) × (List (List Int)) × ((List Int) × Int × (List (List Int))) × Int × Int) → Option (((List Int) × (List (List Int)) × ((List Int) × Int × (List (List Int))) × Int) ⊕ (Bool))
 | 0, _ => none
 | n + 1, (t, domains, c, i, k) =>
  if decide (k < i) then
   if inb k c.1 then
    if inb i c.1 then
     if (gd c.1 k 0) == (gd c.1 i 0) then
      if inb k t then
       if inb i t then
        if (gd t k 0) != (gd t i 0) then
         some (.inr false)
        else
         spec_l20Fits_L7 n (t, domains, (c.1, (c.2.1, c.2.2)), i, w64 (k + 1))
       else none
      else none
     else
      spec_l20Fits_L7 n (t, domains, (c.1, (c.2.1, c.2.2)), i, w64 (k + 1))
    else none
   else none
  else
   some (.inl (t, domains, (c.1, (c.2.1, c.2.2)), i))
def spec_l20Fits_L2 : Nat → ((List Int) × (List (List Int)) × ((List Int) × Int × (List (List Int))) × Int) → Option ((Unit) ⊕ (Bool))
 | 0, _ => none
 | n + 1, (t, domains, c, i) =>
  if decide (i < (t.length : Int)) then
   if inb i c.1 then
    if inb (gd c.1 i 0) domains then
     if inb i t then
      (spec_l1Has (gd domains (gd c.1 i 0) []) (gd t i 0)).bind fun r1 =>
       if !r1 then
        some (.inr false)
       else
        (spec_l20Fits_L7 fuel (t, domains, (c.1, (c.2.1, c.2.2)), i, 0)).bind fun s2 =>
         match s2 with
         | .inl s3 =>
          spec_l20Fits_L2 n (s3.1, s3.2.1, (s3.2.2.1.1, (s3.2.2.1.2.1, s3.2.2.1.2.2)), w64 (s3.2.2.2 + 1))
         | .inr s4 =>
          some (.inr s4)
     else none
    else none
   else none
  else
   some (.inl ())
def spec_l20Fits (c : (List Int) × Int × (List (List Int))) (t : List Int) (domains : List (List Int)) : Option (Bool) :=
 (spec_l20Fits_L2 fuel (t, domains, (c.1, (c.2.1, c.2.2)), 0)).bind fun s1 =>
  match s1 with
  | .inl s2 =>
   some true
  | .inr s3 =>
   some s3
def spec_l20Support_L2 : Nat → (Int × Int × (List (List Int)) × ((List Int) × Int × (List (List Int))) × Int) → Option ((Unit) ⊕ (Bool))
 | 0, _ => none
 | n + 1, (place, value, domains, c, i) =>
  if decide (i < (c.2.2.length : Int)) then
   if inb i c.2.2 then
    if inb place (gd c.2.2 i []) then
     if (gd (gd c.2.2 i []) place 0) == value then
      if inb i c.2.2 then
       (spec_l20Fits (c.1, (c.2.1, c.2.2)) (gd c.2.2 i []) domains).bind fun r1 =>
        if r1 then
         some (.inr true)
        else
         spec_l20Support_L2 n (place, value, domains, (c.1, (c.2.1, c.2.2)), w64 (i + 1))
      else none
     else
      spec_l20Support_L2 n (place, value, domains, (c.1, (c.2.1, c.2.2)), w64 (i + 1))
    else none
   else none
  else
   some (.inl ())
def spec_l20Support (c : (List Int) × Int × (List (List Int))) (place : Int) (value : Int) (domains : List (List Int)) : Option (Bool) :=
 (spec_l20Support_L2 fuel (place, value, domains, (c.1, (c.2.1, c.2.2)), 0)).bind fun s1 =>
  match s1 with
  | .inl s2 =>
   some false
  | .inr s3 =>
   some s3
def spec_l20Without_L3 : Nat → ((List Int) × Int × (List Int) × Int) → Option ((List Int))
 | 0, _ => none
 | n + 1, (list, x, out, i) =>
  if decide (i < (list.length : Int)) then
   if inb i list then
    if (gd list i 0) != x then
     if inb i list then
      if out.length + [gd list i 0].length ≤ lim then
       spec_l20Without_L3 n (list, x, out ++ [gd list i 0], w64 (i + 1))
      else none
     else none
    else
     spec_l20Without_L3 n (list, x, out, w64 (i + 1))
   else none
  else
   some out
def spec_l20Without (list : List Int) (x : Int) : Option ((List Int)) :=
 (spec_l20Without_L3 fuel (list, x, [], 0)).bind fun s1 =>
  some s1
def impl_wholeDomains_L7 : Nat → ((Int × Int × (List ((List Int) × Int × (List (List Int))))) × (List (List Bool)) × Int × Int × Int × Int × Int) → Option ((Int × Int × (List ((List Int) × Int × (List (List Int))))) × (List (List Bool)) × Int × Int)
 | 0, _ => none
 | n + 1, (net, d, v, t10, t11, t24, t25) =>
  if decide (t25 < t24) then
   if inb v d then
    if inb t25 (gd d v []) then
     impl_wholeDomains_L7 n ((net.1, (net.2.1, net.2.2)), stt d v (stt (gd d v []) t25 true), v, t10, t11, t24, w64 (t25 + 1))
    else none
   else none
  else
   some ((net.1, (net.2.1, net.2.2)), d, t10, t11)
def impl_wholeDomains_L3 : Nat → ((Int × Int × (List ((List Int) × Int × (List (List Int))))) × (List (List Bool)) × Int × Int) → Option ((List (List Bool)))
 | 0, _ => none
 | n + 1, (net, d, t10, t11) =>
  if decide (t11 < t10) then
   if 0 ≤ net.2.1 ∧ net.2.1 ≤ net.2.1 ∧ net.2.1 ≤ lim then
    if inb t11 d then
     if inb t11 (stt d t11 (List.replicate (Int.toNat net.2.1) (false : Bool))) then
      (impl_wholeDomains_L7 fuel ((net.1, (net.2.1, net.2.2)), stt d t11 (List.replicate (Int.toNat net.2.1) (false : Bool)), t11, t10, t11, ((gd (stt d t11 (List.replicate (Int.toNat net.2.1) (false : Bool))) t11 []).length : Int), 0)).bind fun s1 =>
       impl_wholeDomains_L3 n ((s1.1.1, (s1.1.2.1, s1.1.2.2)), s1.2.1, s1.2.2.1, w64 (s1.2.2.2 + 1))
     else none
    else none
   else none
  else
   some d
def impl_wholeDomains (net : Int × Int × (List ((List Int) × Int × (List (List Int))))) : Option ((List (List Bool))) :=
 if 0 ≤ net.1 ∧ net.1 ≤ net.1 ∧ net.1 ≤ lim then
  (impl_wholeDomains_L3 fuel ((net.1, (net.2.1, net.2.2)), List.replicate (Int.toNat net.1) ([] : List Bool), ((List.replicate (Int.toNat net.1) ([] : List Bool)).length : Int), 0)).bind fun s1 =>
   some s1
 else none
def impl_domains_supports_L7 : Nat → ((List (List Bool)) × Int × Int × ((List Int) × Int × (List (List Int))) × Bool × (List (List Int)) × Int × Int × (List Int) × Int × Int) → Option ((List (List Bool)) × Int × Int × ((List Int) × Int × (List (List Int))) × Bool × (List (List Int)) × Int × Int)
 | 0, _ => none
 | n + 1, (d, place, value, c, in_, t16, t17, t18, t35, t36, t37) =>
  if decide (t37 < t36) then
   if inb t37 t35 then
    if in_ then
     if inb t37 c.1 then
      if inb (gd c.1 t37 0) d then
       if inb (gd t35 t37 0) (gd d (gd c.1 t37 0) []) then
        impl_domains_supports_L7 n (d, place, value, (c.1, (c.2.1, c.2.2)), gd (gd d (gd c.1 t37 0) []) (gd t35 t37 0) false, t16, t17, t18, t35, t36, w64 (t37 + 1))
       else none
      else none
     else none
    else
     impl_domains_supports_L7 n (d, place, value, (c.1, (c.2.1, c.2.2)), false, t16, t17, t18, t35, t36, w64 (t37 + 1))
   else none
  else
   some (d, place, value, (c.1, (c.2.1, c.2.2)), in_, t16, t17, t18)
def impl_domains_supports_L2 : Nat → ((List (List Bool)) × Int × Int × ((List Int) × Int × (List (List Int))) × (List (List Int)) × Int × Int) → Option ((Unit) ⊕ (Bool))
 | 0, _ => none
 | n + 1, (d, place, value, c, t16, t17, t18) =>
  if decide (t18 < t17) then
   if inb t18 t16 then
    if inb place (gd t16 t18 []) then
     if (gd (gd t16 t18 []) place 0) != value then
      impl_domains_supports_L2 n (d, place, value, (c.1, (c.2.1, c.2.2)), t16, t17, w64 (t18 + 1))
     else
      (impl_agrees c.1 (gd t16 t18 [])).bind fun r1 =>
       if !r1 then
        impl_domains_supports_L2 n (d, place, value, (c.1, (c.2.1, c.2.2)), t16, t17, w64 (t18 + 1))
       else
        (impl_domains_supports_L7 fuel (d, place, value, (c.1, (c.2.1, c.2.2)), true, t16, t17, t18, gd t16 t18 [], ((gd t16 t18 []).length : Int), 0)).bind fun s2 =>
         if s2.2.2.2.2.1 then
          some (.inr true)
         else
          impl_domains_supports_L2 n (s2.1, s2.2.1, s2.2.2.1, (s2.2.2.2.1.1, (s2.2.2.2.1.2.1, s2.2.2.2.1.2.2)), s2.2.2.2.2.2.1, s2.2.2.2.2.2.2.1, w64 (s2.2.2.2.2.2.2.2 + 1))
    else none
   else none
  else
   some (.inl ())
def impl_domains_supports (d : List (List Bool)) (c : (List Int) × Int × (List (List Int))) (place : Int) (value : Int) : Option (Bool) :=
 (impl_domains_supports_L2 fuel (d, place, value, (c.1, (c.2.1, c.2.2)), c.2.2, (c.2.2.length : Int), 0)).bind fun s1 =>
  match s1 with
  | .inl s2 =>
   some false
  | .inr s3 =>
   some s3
def spec_l20Arc_L15 : Nat → ((Int × Int × (List ((List Int) × Int × (List (List Int))))) × (List (Int × Int × Int)) × (List (List Int)) × Int × Int × ((List Int) × Int × (List (List Int))) × Int × (List Int) × Int) → Option ((Int × Int × (List ((List Int) × Int × (List (List Int))))) × (List (Int × Int × Int)) × (List (List Int)) × Int × Int × ((List Int) × Int × (List (List Int))) × Int)
 | 0, _ => none
 | n + 1, (t2, t6, t7, t8, t9, t10, t11, t12, t13) =>
  if decide (t13 < (t12.length : Int)) then
   if inb t13 t12 then
    (spec_l20Support (t10.1, (t10.2.1, t10.2.2)) t11 (gd t12 t13 0) t7).bind fun r1 =>
     if !r1 then
      if inb t11 t10.1 then
       if inb t11 t10.1 then
        if inb (gd t10.1 t11 0) t7 then
         if inb t13 t12 then
          (spec_l20Without (gd t7 (gd t10.1 t11 0) []) (gd t12 t13 0)).bind fun r2 =>
           if inb (gd t10.1 t11 0) t7 then
            if inb t13 t12 then
             if t6.length + [(t9, (t11, gd t12 t13 0))].length ≤ lim then
              spec_l20Arc_L15 n ((t2.1, (t2.2.1, t2.2.2)), t6 ++ [(t9, (t11, gd t12 t13 0))], stt t7 (gd t10.1 t11 0) r2, t8, t9, (t10.1, (t10.2.1, t10.2.2)), t11, t12, w64 (t13 + 1))
             else none
            else none
           else none
         else none
        else none
       else none
      else none
     else
      spec_l20Arc_L15 n ((t2.1, (t2.2.1, t2.2.2)), t6, t7, t8, t9, (t10.1, (t10.2.1, t10.2.2)), t11, t12, w64 (t13 + 1))
   else none
  else
   some ((t2.1, (t2.2.1, t2.2.2)), t6, t7, t8, t9, (t10.1, (t10.2.1, t10.2.2)), t11)
def spec_l20Arc_L11 : Nat → ((Int × Int × (List ((List Int) × Int × (List (List Int))))) × (List (Int × Int × Int)) × (List (List Int)) × Int × Int × ((List Int) × Int × (List (List Int))) × Int) → Option ((Int × Int × (List ((List Int) × Int × (List (List Int))))) × (List (Int × Int × Int)) × (List (List Int)) × Int × Int)
 | 0, _ => none
 | n + 1, (t2, t6, t7, t8, t9, t10, t11) =>
  if decide (t11 < (t10.1.length : Int)) then
   if inb t11 t10.1 then
    if inb (gd t10.1 t11 0) t7 then
     (spec_l20Arc_L15 fuel ((t2.1, (t2.2.1, t2.2.2)), t6, t7, t8, t9, (t10.1, (t10.2.1, t10.2.2)), t11, gd t7 (gd t10.1 t11 0) [], 0)).bind fun s1 =>
      spec_l20Arc_L11 n ((s1.1.1, (s1.1.2.1, s1.1.2.2)), s1.2.1, s1.2.2.1, s1.2.2.2.1, s1.2.2.2.2.1, (s1.2.2.2.2.2.1.1, (s1.2.2.2.2.2.1.2.1, s1.2.2.2.2.2.1.2.2)), w64 (s1.2.2.2.2.2.2 + 1))
    else none
   else none
  else
   some ((t2.1, (t2.2.1, t2.2.2)), t6, t7, t8, t9)
def spec_l20Arc_L7 : Nat → ((Int × Int × (List ((List Int) × Int × (List (List Int))))) × (List (Int × Int × Int)) × (List (List Int)) × Int × Int) → Option ((Int × Int × (List ((List Int) × Int × (List (List Int))))) × (List (Int × Int × Int)) × (List (List Int)) × Int)
 | 0, _ => none
 | n + 1, (t2, t6, t7, t8, t9) =>
  if decide (t9 < (t2.2.2.length : Int)) then
   if inb t9 t2.2.2 then
    (spec_l20Arc_L11 fuel ((t2.1, (t2.2.1, t2.2.2)), t6, t7, t8, t9, ((gd t2.2.2 t9 ([], (0, []))).1, (((gd t2.2.2 t9 ([], (0, []))).2).1, ((gd t2.2.2 t9 ([], (0, []))).2).2)), 0)).bind fun s1 =>
     spec_l20Arc_L7 n ((s1.1.1, (s1.1.2.1, s1.1.2.2)), s1.2.1, s1.2.2.1, s1.2.2.2.1, w64 (s1.2.2.2.2 + 1))
   else none
  else
   some ((t2.1, (t2.2.1, t2.2.2)), t6, t7, t8)
def spec_l20Arc_L4 : Nat → ((Int × Int × (List ((List Int) × Int × (List (List Int))))) × (List (Int × Int × Int)) × (List (List Int)) × Int) → Option (((List (Int × Int × Int)) × (List (List Int))) ⊕ ((List (List Int)) × (List (Int × Int × Int))))
 | 0, _ => none
 | n + 1, (t2, t6, t7, t8) =>
  if decide (t8 < (t6.length : Int)) then
   (spec_l20Arc_L7 fuel ((t2.1, (t2.2.1, t2.2.2)), t6, t7, (t6.length : Int), 0)).bind fun s1 =>
    if s1.2.2.2 == (s1.2.1.length : Int) then
     some (.inr (s1.2.2.1, s1.2.1))
    else
     spec_l20Arc_L4 n ((s1.1.1, (s1.1.2.1, s1.1.2.2)), s1.2.1, s1.2.2.1, s1.2.2.2)
  else
   some (.inl (t6, t7))
def spec_l20Arc (t0 : Int × Int × (List ((List Int) × Int × (List (List Int))))) (t1 : List (List Int)) : Option ((List (List Int)) × (List (Int × Int × Int))) :=
 if ([] : List (List Int)).length + t1.length ≤ lim then
  (spec_l20Arc_L4 fuel ((t0.1, (t0.2.1, t0.2.2)), [], [] ++ t1, (-1))).bind fun s1 =>
   match s1 with
   | .inl s2 =>
    some (s2.2, s2.1)
   | .inr s3 =>
    some (s3.1, s3.2)
 else none
def spec_l20Empty_L2 : Nat → ((List (List Int)) × Int) → Option ((Unit) ⊕ (Bool))
 | 0, _ => none
 | n + 1, (domains, v) =>
  if decide (v < (domains.length : Int)) then
   if inb v domains then
    if ((gd domains v []).length : Int) == 0 then
     some (.inr true)
    else
     spec_l20Empty_L2 n (domains, w64 (v + 1))
   else none
  else
   some (.inl ())
def spec_l20Empty (domains : List (List Int)) : Option (Bool) :=
 (spec_l20Empty_L2 fuel (domains, 0)).bind fun s1 =>
  match s1 with
  | .inl s2 =>
   some false
  | .inr s3 =>
   some s3
def impl_domains_reduce_L12 : Nat → ((List (List Bool)) × (Int × Int × (List ((List Int) × Int × (List (List Int))))) × (List (Int × Int × Int)) × Bool × Int × ((List Int) × Int × (List (List Int))) × Int × Int × (List ((List Int) × Int × (List (List Int)))) × Int × Int × (List Int) × Int × Int × Int × Int) → Option ((List (List Bool)) × (Int × Int × (List ((List Int) × Int × (List (List Int))))) × (List (Int × Int × Int)) × Bool × Int × ((List Int) × Int × (List (List Int))) × (List ((List Int) × Int × (List (List Int)))) × Int × Int × (List Int) × Int × Int)
 | 0, _ => none
 | n + 1, (t0, t3, t5, t6, t7, t8, t9, t10, t15, t16, t17, t23, t24, t25, t34, t35) =>
  if decide (t35 < t34) then
   if inb t10 t0 then
    if inb t35 (gd t0 t10 []) then
     if gd (gd t0 t10 []) t35 false then
      (impl_domains_supports t0 (t8.1, (t8.2.1, t8.2.2)) t9 t35).bind fun r1 =>
       if !r1 then
        if inb t10 t0 then
         if inb t35 (gd t0 t10 []) then
          if t5.length + [(t7, (t9, t35))].length ≤ lim then
           impl_domains_reduce_L12 n (stt t0 t10 (stt (gd t0 t10 []) t35 false), (t3.1, (t3.2.1, t3.2.2)), t5 ++ [(t7, (t9, t35))], true, t7, (t8.1, (t8.2.1, t8.2.2)), t9, t10, t15, t16, t17, t23, t24, t25, t34, w64 (t35 + 1))
          else none
         else none
        else none
       else
        impl_domains_reduce_L12 n (t0, (t3.1, (t3.2.1, t3.2.2)), t5, t6, t7, (t8.1, (t8.2.1, t8.2.2)), t9, t10, t15, t16, t17, t23, t24, t25, t34, w64 (t35 + 1))
     else
      impl_domains_reduce_L12 n (t0, (t3.1, (t3.2.1, t3.2.2)), t5, t6, t7, (t8.1, (t8.2.1, t8.2.2)), t9, t10, t15, t16, t17, t23, t24, t25, t34, w64 (t35 + 1))
    else none
   else none
  else
   some (t0, (t3.1, (t3.2.1, t3.2.2)), t5, t6, t7, (t8.1, (t8.2.1, t8.2.2)), t15, t16, t17, t23, t24, t25)
def impl_domains_reduce_L9 : Nat → ((List (List Bool)) × (Int × Int × (List ((List Int) × Int × (List (List Int))))) × (List (Int × Int × Int)) × Bool × Int × ((List Int) × Int × (List (List Int))) × (List ((List Int) × Int × (List (List Int)))) × Int × Int × (List Int) × Int × Int) → Option ((List (List Bool)) × (Int × Int × (List ((List Int) × Int × (List (List Int))))) × (List (Int × Int × Int)) × Bool × (List ((List Int) × Int × (List (List Int)))) × Int × Int)
 | 0, _ => none
 | n + 1, (t0, t3, t5, t6, t7, t8, t15, t16, t17, t23, t24, t25) =>
  if decide (t25 < t24) then
   if inb t25 t23 then
    if inb (gd t23 t25 0) t0 then
     (impl_domains_reduce_L12 fuel (t0, (t3.1, (t3.2.1, t3.2.2)), t5, t6, t7, (t8.1, (t8.2.1, t8.2.2)), t25, gd t23 t25 0, t15, t16, t17, t23, t24, t25, ((gd t0 (gd t23 t25 0) []).length : Int), 0)).bind fun s1 =>
      impl_domains_reduce_L9 n (s1.1, (s1.2.1.1, (s1.2.1.2.1, s1.2.1.2.2)), s1.2.2.1, s1.2.2.2.1, s1.2.2.2.2.1, (s1.2.2.2.2.2.1.1, (s1.2.2.2.2.2.1.2.1, s1.2.2.2.2.2.1.2.2)), s1.2.2.2.2.2.2.1, s1.2.2.2.2.2.2.2.1, s1.2.2.2.2.2.2.2.2.1, s1.2.2.2.2.2.2.2.2.2.1, s1.2.2.2.2.2.2.2.2.2.2.1, w64 (s1.2.2.2.2.2.2.2.2.2.2.2 + 1))
    else none
   else none
  else
   some (t0, (t3.1, (t3.2.1, t3.2.2)), t5, t6, t15, t16, t17)
def impl_domains_reduce_L6 : Nat → ((List (List Bool)) × (Int × Int × (List ((List Int) × Int × (List (List Int))))) × (List (Int × Int × Int)) × Bool × (List ((List Int) × Int × (List (List Int)))) × Int × Int) → Option ((List (List Bool)) × (Int × Int × (List ((List Int) × Int × (List (List Int))))) × (List (Int × Int × Int)) × Bool)
 | 0, _ => none
 | n + 1, (t0, t3, t5, t6, t15, t16, t17) =>
  if decide (t17 < t16) then
   if inb t17 t15 then
    (impl_domains_reduce_L9 fuel (t0, (t3.1, (t3.2.1, t3.2.2)), t5, t6, t17, ((gd t15 t17 ([], (0, []))).1, (((gd t15 t17 ([], (0, []))).2).1, ((gd t15 t17 ([], (0, []))).2).2)), t15, t16, t17, (gd t15 t17 ([], (0, []))).1, (((gd t15 t17 ([], (0, []))).1).length : Int), 0)).bind fun s1 =>
     impl_domains_reduce_L6 n (s1.1, (s1.2.1.1, (s1.2.1.2.1, s1.2.1.2.2)), s1.2.2.1, s1.2.2.2.1, s1.2.2.2.2.1, s1.2.2.2.2.2.1, w64 (s1.2.2.2.2.2.2 + 1))
   else none
  else
   some (t0, (t3.1, (t3.2.1, t3.2.2)), t5, t6)
def impl_domains_reduce_L3 : Nat → ((List (List Bool)) × (Int × Int × (List ((List Int) × Int × (List (List Int))))) × (List (Int × Int × Int)) × Bool) → Option ((List (List Bool)) × (List (Int × Int × Int)))
 | 0, _ => none
 | n + 1, (t0, t3, t5, t6) =>
  if t6 then
   (impl_domains_reduce_L6 fuel (t0, (t3.1, (t3.2.1, t3.2.2)), t5, false, t3.2.2, (t3.2.2.length : Int), 0)).bind fun s1 =>
    impl_domains_reduce_L3 n (s1.1, (s1.2.1.1, (s1.2.1.2.1, s1.2.1.2.2)), s1.2.2.1, s1.2.2.2)
  else
   some (t0, t5)
def impl_domains_reduce (t0 : List (List Bool)) (t1 : Int × Int × (List ((List Int) × Int × (List (List Int))))) : Option ((List (List Bool)) × (List (Int × Int × Int))) :=
 (impl_domains_reduce_L3 fuel (t0, (t1.1, (t1.2.1, t1.2.2)), [], true)).bind fun s1 =>
  some (s1.1, s1.2)
def impl_arcDomains (net : Int × Int × (List ((List Int) × Int × (List (List Int))))) : Option ((List (List Bool))) :=
 (impl_wholeDomains (net.1, (net.2.1, net.2.2))).bind fun r1 =>
  (impl_domains_reduce r1 (net.1, (net.2.1, net.2.2))).bind fun r2 =>
   some r2.1
def impl_marked_L3 : Nat → ((List Int) × (List Bool) × Int × Int) → Option ((List Int))
 | 0, _ => none
 | n + 1, (list, t7, t8, t9) =>
  if decide (t9 < t8) then
   if inb t9 t7 then
    if gd t7 t9 false then
     if list.length + [t9].length ≤ lim then
      impl_marked_L3 n (list ++ [t9], t7, t8, w64 (t9 + 1))
     else none
    else
     impl_marked_L3 n (list, t7, t8, w64 (t9 + 1))
   else none
  else
   some list
def impl_marked (have_ : List Bool) : Option ((List Int)) :=
 (impl_marked_L3 fuel ([], have_, (have_.length : Int), 0)).bind fun s1 =>
  some s1
def impl_domains_hasEmpty_L2 : Nat → ((List (List Bool)) × Int × Int) → Option ((Unit) ⊕ (Bool))
 | 0, _ => none
 | n + 1, (t5, t6, t7) =>
  if decide (t7 < t6) then
   if inb t7 t5 then
    (impl_marked (gd t5 t7 [])).bind fun r1 =>
     if (r1.length : Int) == 0 then
      some (.inr true)
     else
      impl_domains_hasEmpty_L2 n (t5, t6, w64 (t7 + 1))
   else none
  else
   some (.inl ())
def impl_domains_hasEmpty (d : List (List Bool)) : Option (Bool) :=
 (impl_domains_hasEmpty_L2 fuel (d, (d.length : Int), 0)).bind fun s1 =>
  match s1 with
  | .inl s2 =>
   some false
  | .inr s3 =>
   some s3
end T
open Go Go.Va
namespace T
theorem szX {α : Type} (xs : List α) (f : α → Int → Option Int) (tot : α → Nat) (L : Nat → Int → Int → Option (Int ⊕ Int))
    (hf : ∀ a ∈ xs, ∀ s, 0 ≤ s → s ≤ 1099511627775 → f a s = some (szR (tot a) s))
    (hs : ∀ n s (k : Nat) (hk : k < xs.length), L (n + 1) s k = (f xs[k] s).bind fun q => if q < 0 then some (.inr (-1)) else L n q ((k + 1 : Nat) : Int))
    (he : ∀ n s, L (n + 1) s (xs.length : Nat) = some (.inl s)) : ∀ (n k : Nat) (s : Int), k ≤ xs.length → xs.length - k < n → 0 ≤ s → s ≤ 1099511627775 →
      L n s k = some (if (((xs.drop k).map tot).sum : Int) ≤ s then .inl (s - ((xs.drop k).map tot).sum) else .inr (-1)) := by
  intro n
  induction n with
  | zero => intro k s _ h; omega
  | succ n ih =>
    intro k s hk hn h0 h1
    rcases Nat.lt_or_ge k xs.length with hlt | hge
    · rw [hs n s k hlt, hf _ (List.getElem_mem hlt) s h0 h1, List.drop_eq_getElem_cons hlt, List.map_cons, List.sum_cons]
      unfold szR
      simp only [Option.bind_some]
      by_cases h : (tot xs[k] : Int) ≤ s
      · rw [if_pos h, if_neg (by omega), ih (k + 1) _ hlt (by omega) (by omega) (by omega)]
        congr 1
        by_cases h2 : ((((xs.drop (k + 1)).map tot).sum : Nat) : Int) ≤ s - tot xs[k]
        · rw [if_pos h2, if_pos (by omega)]; congr 1; omega
        · rw [if_neg h2, if_neg (by omega)]
      · rw [if_neg h, if_pos (by omega), if_neg (by omega)]
    · have : k = xs.length := by omega
      subst this
      rw [he, List.drop_length]; simp [h0]
theorem szX0 {α : Type} (xs : List α) (f : α → Int → Option Int) (tot : α → Nat) (L : Nat → Int → Int → Option (Int ⊕ Int)) (g : Option Int) {left : Int} (h0 : 0 ≤ left) (h1 : left ≤ 1099511627775)
    (hf : ∀ a ∈ xs, ∀ s, 0 ≤ s → s ≤ 1099511627775 → f a s = some (szR (tot a) s)) (hx : xs.length ≤ 9223372036854775807)
    (hs : ∀ n s (k : Nat) (hk : k < xs.length), k < 4611686018427387904 → L (n + 1) s k = (f xs[k] s).bind fun q => if q < 0 then some (.inr (-1)) else L n q ((k + 1 : Nat) : Int))
    (he : ∀ n s, L (n + 1) s (xs.length : Nat) = some (.inl s))
    (hg : g = if decide (w64 (left - (xs.length : Int)) < 0) then some (-1) else (L fuel (w64 (left - (xs.length : Int))) 0).bind fun s1 => match s1 with | .inl s2 => some s2 | .inr s3 => some s3) :
    g = some (szR (xs.length + (xs.map tot).sum) left) := by
  rw [hg, w64_id (by omega) (by omega)]
  by_cases h : (xs.length : Int) ≤ left
  · rw [if_neg (by simp; omega)]
    have := szX xs f tot L hf (fun n s k hk => hs n s k hk (by omega)) he fuel 0 (left - xs.length) (by omega) (by unfold fuel; omega) (by omega) (by omega)
    rw [show ((0 : Nat) : Int) = 0 from rfl, List.drop_zero] at this
    rw [this]
    unfold szR
    by_cases h2 : (((xs.map tot).sum : Nat) : Int) ≤ left - xs.length
    · rw [if_pos h2, if_pos (by omega)]
      simp only [Option.bind_some, Option.some.injEq]; omega
    · rw [if_neg h2, if_neg (by omega)]; rfl
  · rw [if_pos (by simp; omega)]
    unfold szR
    rw [if_neg (by omega)]
theorem sum_mem {α : Type} (tot : α → Nat) : ∀ {l : List α} {a : α}, a ∈ l → tot a ≤ (l.map tot).sum
 | x :: l, a, h => by
  rw [List.map_cons, List.sum_cons]
  rcases List.mem_cons.1 h with rfl | h
  ·omega
  ·have := sum_mem tot h; omega
theorem toX {α : Type} (xs : List α) (f : α → Option α) (d : α) (L : Nat → List α → Int → Option (List α)) (g : Option (List α)) (hx : xs.length ≤ 1048576) (hf : ∀ a ∈ xs, f a = some a)
    (hs : ∀ n (out : List α) (k : Nat) (hk : k < xs.length), out.length = xs.length → k < 4611686018427387904 → L (n + 1) out k = (f xs[k]).bind fun r => L n (out.set k r) ((k + 1 : Nat) : Int))
    (he : ∀ n out, out.length = xs.length → L (n + 1) out (xs.length : Nat) = some out)
    (hg : g = if 0 ≤ (xs.length : Int) ∧ (xs.length : Int) ≤ (xs.length : Int) ∧ (xs.length : Int) ≤ lim then (L fuel (List.replicate (Int.toNat (xs.length : Int)) d) 0).bind some else none) : g = some xs := by
  rw [hg, if_pos (by unfold lim; omega)]
  have key := fillX0 xs L id some (fun n out k hk hl => by rw [hs n out k hk hl (by omega), hf _ (List.getElem_mem hk)]; rfl) he (n := fuel) (out := List.replicate (Int.toNat (xs.length : Int)) d) (by simp) (by unfold fuel; omega)
  rw [key]; simp
theorem eqXX {α : Type} [DecidableEq α] (a b : List α) (f : α → α → Option Bool) (L : Nat → Int → Option (Unit ⊕ Bool)) (g : Option Bool) (hx : a.length ≤ 1048576) (hf : ∀ x ∈ a, ∀ y, f x y = some (decide (x = y)))
    (hs : ∀ n (k : Nat) (h1 : k < a.length) (h2 : k < b.length), k < 4611686018427387904 → L (n + 1) k = (f a[k] b[k]).bind fun r => if !r then some (.inr false) else L n ((k + 1 : Nat) : Int))
    (he : ∀ n, L (n + 1) (a.length : Nat) = some (.inl ()))
    (hg : g = if (a.length : Int) != (b.length : Int) then some false else (L fuel 0).bind fun s1 => match s1 with | .inl _ => some true | .inr s3 => some s3) : g = some (decide (a = b)) := by
  rw [hg]
  by_cases hl : a.length = b.length
  · rw [if_neg (by simp [hl]), eqX a b hl L (fun n k h1 h2 => ?_) he (by unfold fuel; omega)]
    · by_cases h : a = b <;> simp [h]
    · rw [hs n k h1 h2 (by omega), hf _ (List.getElem_mem h1)]
      by_cases h : a[k] = b[k] <;> simp [h]
  · rw [if_pos (by simp; omega), decide_eq_false (fun e => hl (by rw [e]))]
abbrev Con := List Int × Int × List (List Int)
abbrev Net := Int × Int × List Con
def rowsS (a : List (List Int)) : Prop := a.length ≤ 1048576 ∧ ∀ r ∈ a, r.length ≤ 1048576
def conS (c : Con) : Prop := c.1.length ≤ 1048576 ∧ rowsS c.2.2
def netS (a : Net) : Prop := a.2.2.length ≤ 1048576 ∧ ∀ c ∈ a.2.2, conS c
abbrev netT : Ty := .pair .int (.pair .int (.slice (.pair (.slice .int) (.pair .int (.slice (.slice .int))))))
def totC (c : Con) : Nat := c.1.length + totSS c.2.2
def totN (a : Net) : Nat := a.2.2.length + (a.2.2.map totC).sum
theorem szConstraint_ok {c : Con} {s : Int} (h0 : 0 ≤ s) (h1 : s ≤ 1099511627775) (h : c.1.length ≤ 9223372036854775807) (h2 : c.2.2.length ≤ 9223372036854775807) (hr : ∀ r ∈ c.2.2, r.length ≤ 9223372036854775807) :
    laws_szConstraint c s = some (szR (totC c) s) := by
  unfold laws_szConstraint
  rw [szIntS_ok h0 (by omega) h]
  unfold szR totC
  simp only [Option.bind_some]
  by_cases hc : (c.1.length : Int) ≤ s
  · rw [if_pos hc, if_neg (by simp; omega)]
    unfold laws_szRelation
    rw [szIntSS_ok (by omega) (by omega) h2 hr]
    unfold szR
    by_cases hd : (totSS c.2.2 : Int) ≤ s - c.1.length
    · rw [if_pos hd, if_pos (by omega)]
      simp only [Option.bind_some]
      rw [if_neg (by simp; omega)]
      simp only [Option.bind_some]
      rw [if_neg (by simp; omega)]
      congr 1; omega
    · rw [if_neg hd, if_neg (show ¬ ((c.1.length + totSS c.2.2 : Nat) : Int) ≤ s by push_cast; omega)]; rfl
  · rw [if_neg hc, if_neg (show ¬ ((c.1.length + totSS c.2.2 : Nat) : Int) ≤ s by push_cast; omega)]; rfl
theorem szNetwork_ok {a : Net} (h : wfT netT a) : laws_szNetwork a 1048576 = some (szR (totN a) 1048576) := by
 unfold laws_szNetwork
 have hc : ∀ c ∈ a.2.2, c.1.length ≤ 9223372036854775807 ∧ c.2.2.length ≤ 9223372036854775807 ∧ ∀ r ∈ c.2.2, r.length ≤ 9223372036854775807 := fun c hc => by
  have := h.2.2.2 c hc
  exact ⟨this.1.1, this.2.2.1, fun r hr => (this.2.2.2 r hr).1⟩
 have key : laws_szConstraintS a.2.2 1048576 = some (szR (totN a) 1048576) := by
  refine szX0 a.2.2 laws_szConstraint totC (fun n s i => laws_szConstraintS_L5 n (a.2.2, s, i)) _ (by omega) (by omega) (fun c hm s h0 h1 => szConstraint_ok h0 h1 (hc c hm).1 (hc c hm).2.1 (hc c hm).2.2) h.2.2.1 (fun n s k hk hk4 => ?_) (fun n s => ?_) rfl
  ·simp only [laws_szConstraintS_L5, inb_nat, gd_nat hk, w64_succ hk4]
   simp [hk]
  ·simp [laws_szConstraintS_L5]
 rw [key]
 unfold szR
 split
 ·simp only [Option.bind_some]; rw [if_neg (by simp; omega)]
 ·rfl
theorem szNetwork_small {a : Net} (h : ¬ szR (totN a) 1048576 < 0) : netS a ∧ totN a ≤ 1048576 := by
 unfold szR at h
 split at h
 ·refine ⟨⟨by unfold totN at *; omega, fun c hc => ?_⟩, by omega⟩
  have h1 := sum_mem totC hc
  have h2 : totC c ≤ 1048576 := by unfold totN at *; omega
  unfold totC totSS at h2
  exact ⟨by omega, by omega, fun r hr => by have := mem_sum hr; omega⟩
 ·omega
theorem toConstraint_ok {c : Con} (h : conS c) : laws_toConstraint c = some c := by
 unfold laws_toConstraint laws_toRelation
 rw [toIntS_ok (by have := h.1; omega)]
 dsimp only
 rw [toIntSS_ok (by have := h.2.1; omega) fun r hr => by have := h.2.2 r hr; omega]
 rfl
theorem toNetwork_ok {a : Net} (h : netS a) : laws_toNetwork a = some a := by
 unfold laws_toNetwork
 have key : laws_toConstraintS a.2.2 = some a.2.2 := by
  refine toX a.2.2 laws_toConstraint ([], (0, [])) (fun n out i => laws_toConstraintS_L3 n (a.2.2, out, i)) _ h.1 (fun c hc => toConstraint_ok (h.2 c hc)) (fun n out k hk hl hk4 => ?_) (fun n out hl => ?_) rfl
  ·simp only [laws_toConstraintS_L3, inb_nat, gd_nat hk, stt_nat, w64_succ hk4]
   simp [hk, hl]
  ·simp [laws_toConstraintS_L3]
 rw [key]; rfl
theorem eqConstraint_ok {a b : Con} (h : conS a) : laws_eqConstraint a b = some (decide (a = b)) := by
 unfold laws_eqConstraint laws_eqRelation
 rw [eqIntS_ok (by have := h.1; omega)]
 dsimp only
 rw [eqIntSS_ok (by have := h.2.1; omega) fun r hr => by have := h.2.2 r hr; omega]
 obtain ⟨a1, a2, a3⟩ := a
 obtain ⟨b1, b2, b3⟩ := b
 by_cases h1 : a1 = b1
 ·by_cases h2 : a2 = b2
  ·by_cases h3 : a3 = b3 <;> simp [h1, h2, h3]
  ·simp [h1, h2]
 ·simp [h1]
theorem eqNetwork_ok {a b : Net} (h : netS a) : laws_eqNetwork a b = some (decide (a = b)) := by
 unfold laws_eqNetwork
 have key : laws_eqConstraintS a.2.2 b.2.2 = some (decide (a.2.2 = b.2.2)) := by
  refine eqXX a.2.2 b.2.2 laws_eqConstraint (fun n i => laws_eqConstraintS_L4 n (a.2.2, b.2.2, i)) _ h.1 (fun c hc y => eqConstraint_ok (h.2 c hc)) (fun n k h1 h2 hk4 => ?_) (fun n => ?_) rfl
  ·simp only [laws_eqConstraintS_L4, inb_nat, gd_nat h1, gd_nat h2, w64_succ hk4]
   simp [h1, h2]
  ·simp [laws_eqConstraintS_L4]
 rw [key]
 obtain ⟨a1, a2, a3⟩ := a
 obtain ⟨b1, b2, b3⟩ := b
 by_cases h1 : a1 = b1
 ·by_cases h2 : a2 = b2
  ·by_cases h3 : a3 = b3 <;> simp [h1, h2, h3]
  ·simp [h1, h2]
 ·simp [h1]
def relB (n : Int) (r : Int × List (List Int)) : Bool := decide (1 ≤ r.1 ∧ r.1 ≤ 3) && (r.2.all fun t => decide ((t.length : Int) = r.1) && belowB n t) && incB r.2
def tupAt (n : Int) (r : Int × List (List Int)) (k : Nat) : Bool := decide (((r.2.getD k []).length : Int) = r.1) && belowB n (r.2.getD k []) && (decide (k = 0) || decide (cmpL (r.2.getD (k - 1) []) (r.2.getD k []) < 0))
theorem getD_of {α : Type} {l : List α} {k : Nat} {d : α} (h : k < l.length) : l.getD k d = l[k] := by simp [List.getD_eq_getElem?_getD, h]
theorem tupAt_all {n ar : Int} {ts : List (List Int)} : (List.range ts.length).all (tupAt n (ar, ts)) = ((ts.all fun t => decide ((t.length : Int) = ar) && belowB n t) && incB ts) := by
 rw [Bool.eq_iff_iff, Bool.and_eq_true, List.all_eq_true, List.all_eq_true, incB_iff]
 unfold tupAt
 constructor
 ·intro h
  refine ⟨fun t ht => ?_, fun i hi => ?_⟩
  ·obtain ⟨k, hk, rfl⟩ := List.getElem_of_mem ht
   have := h k (List.mem_range.2 hk)
   rw [getD_of hk] at this
   simp only [Bool.and_eq_true] at this
   rw [Bool.and_eq_true]; exact this.1
  ·have := h (i + 1) (List.mem_range.2 hi)
   rw [getD_of hi, Nat.add_sub_cancel, getD_of (show i < ts.length by omega)] at this
   simp at this
   exact this.2
 ·rintro ⟨h1, h2⟩ k hk
  have hk := List.mem_range.1 hk
  have e := h1 _ (List.getElem_mem hk)
  rw [getD_of hk]
  rw [Bool.and_eq_true] at e
  rw [Bool.and_eq_true, Bool.and_eq_true]
  refine ⟨e, ?_⟩
  cases k with
  | zero => simp
  | succ i =>
   have := h2 i hk
   rw [Nat.add_sub_cancel, getD_of (show i < ts.length by omega)]
   simp [this]
theorem impl_isRelation_ok {n : Int} {r : Int × List (List Int)} (h : rowsS r.2) : impl_isRelation n r = some (relB n r) := by
 obtain ⟨ar, ts⟩ := r
 unfold impl_isRelation relB
 by_cases h1 : ar < 1
 ·simp [h1, show ¬ 1 ≤ ar by omega]
 ·by_cases h2 : ar > 3
  ·simp [h1, h2, show ¬ ar ≤ 3 by omega]
  ·rw [if_neg (by simpa using h1), if_neg (by simpa using h2)]
   have key := forA ts.length (fun m (_ : Unit) i => impl_isRelation_L4 m (n, (ar, ts), ts, (ts.length : Int), i)) (fun _ => ()) (tupAt n (ar, ts)) (r := some (.inr false)) (e := some (.inl ())) (fun m k hk => ?_) (fun m => ?_) (n := fuel) (by unfold fuel; have := h.1; simp at this; omega)
   ·rw [key, tupAt_all]
    simp only [show (1 ≤ ar ∧ ar ≤ 3) = True by simp; omega, decide_true, Bool.true_and]
    cases (ts.all fun t => decide ((t.length : Int) = ar) && belowB n t) && incB ts <;> simp
   ·have hx := h.2 ts[k] (List.getElem_mem hk)
    have hk' := h.1
    simp only at hk'
    simp only [impl_isRelation_L4, inb_nat, gd_nat hk, w64_succ (show k < 4611686018427387904 by omega), impl_inSize_ok n (show ts[k].length ≤ 1099511627775 by omega), tupAt, getD_of hk]
    by_cases hl : (ts[k].length : Int) = ar
    ·cases hb : belowB n ts[k] with
     | false => simp [hk, hl]
     | true =>
      cases k with
      | zero => simp [hk, hl]
      | succ i =>
       have hi : i < ts.length := by omega
       have hx2 := h.2 ts[i] (List.getElem_mem hi)
       have e : w64 (((i + 1 : Nat) : Int) - 1) = (i : Int) := by rw [w64_id (by omega) (by omega)]; omega
       simp only [e, inb_nat, gd_nat hi, Nat.add_sub_cancel, getD_of hi, impl_compareLists_ok (show ts[i].length ≤ 1099511627775 by omega)]
       by_cases hc : cmpL ts[i] ts[i + 1] < 0
       ·simp [hk, hl, hi, hc, show ¬ cmpL ts[i] ts[i + 1] ≥ 0 by omega]; omega
       ·simp [hk, hl, hi, hc, show cmpL ts[i] ts[i + 1] ≥ 0 by omega]; omega
    ·simp [hk, hl]
   ·simp [impl_isRelation_L4]
theorem spec_l13Good_ok {n : Int} {r : Int × List (List Int)} (h : rowsS r.2) (hn : 1 ≤ n ∧ n ≤ 8) : spec_l13Good n r = some (relB n r) := by
 obtain ⟨ar, ts⟩ := r
 unfold spec_l13Good relB
 rw [spec_l1In_ok]
 by_cases h1 : 1 ≤ ar ∧ ar ≤ 3
 ·simp only [h1, and_self, decide_true, Option.bind_some, Bool.not_true, Bool.false_eq_true, if_false, Bool.true_and]
  obtain ⟨m, rfl⟩ : ∃ m : Nat, ar = m := ⟨ar.toNat, by omega⟩
  rw [spec_l2Pow_ok (by omega) (by omega) (by omega)]
  simp only [Option.bind_some]
  have key := forB ts.length (fun m' (_ : Unit) i => spec_l13Good_L4 m' (n, ((m : Int), ts), i)) (fun _ => ()) (tupAt n ((m : Int), ts)) (r := some (.inr false)) (e := some (.inl ())) (fun m' k hk hb0 => ?_) (fun m' _ => ?_) (n := fuel) (by unfold fuel; have := h.1; simp at this; omega)
  ·by_cases hc : (ts.length : Int) > n ^ m
   ·rw [if_pos (by simpa using hc)]
    by_cases hv : ((ts.all fun t => decide ((t.length : Int) = m) && belowB n t) && incB ts) = true
    ·rw [Bool.and_eq_true, List.all_eq_true] at hv
     rcases inc_count (k := m) hv.2 fun t ht => by have := hv.1 t ht; simp at this; exact ⟨by omega, this.2⟩ with h2 | h2
     ·omega
     ·subst h2
      have := pow_bd (n := n) (by omega) (by omega) (k := m) (by omega)
      simp at hc; omega
    ·simp only [Bool.not_eq_true] at hv; rw [hv]
   ·rw [if_neg (by simpa using hc), key, tupAt_all]
    cases (ts.all fun t => decide ((t.length : Int) = m) && belowB n t) && incB ts <;> simp
  ·have hx := h.2 ts[k] (List.getElem_mem hk)
   have hk' := h.1
   simp only at hk'
   simp only [spec_l13Good_L4, inb_nat, gd_nat hk, w64_succ (show k < 4611686018427387904 by omega), spec_l8Tuple_ok (n := n) _ (by omega) (by omega) (show ts[k].length ≤ 1099511627775 by omega), tupAt, getD_of hk]
   by_cases hl : (ts[k].length : Int) = m
   ·cases hb : belowB n ts[k] with
    | false => simp [hk, hl]
    | true =>
     cases k with
     | zero => simp [hk, hl]
     | succ i =>
      have hi : i < ts.length := by omega
      have hx2 := h.2 ts[i] (List.getElem_mem hi)
      have e : w64 (((i + 1 : Nat) : Int) - 1) = (i : Int) := by rw [w64_id (by omega) (by omega)]; omega
      simp only [e, inb_nat, gd_nat hi, Nat.add_sub_cancel, getD_of hi]
      have hb1 := hb0 i (by omega)
      simp only [tupAt, getD_of hi, Bool.and_eq_true, decide_eq_true_eq] at hb1
      rw [spec_l3Less_ok (s := ts[i]) (t := ts[i + 1]) (by omega) (by have := hb1.1.1; omega)]
      by_cases hc : cmpL ts[i] ts[i + 1] < 0
      ·simp [hk, hl, hi, hc]; omega
      ·simp [hk, hl, hi, hc]; omega
   ·simp [hk, hl]
  ·simp [spec_l13Good_L4]
 ·have : ¬ (1 ≤ ar ∧ ar ≤ 3) := h1
  simp [this]
end T
open Go Go.Va
namespace T
def conB (v n : Int) (c : Con) : Bool := relB n (c.2.1, c.2.2) && decide ((c.1.length : Int) = c.2.1) && belowB v c.1
def netB (a : Net) : Bool := decide (0 ≤ a.1 ∧ a.1 ≤ 9) && decide (1 ≤ a.2.1 ∧ a.2.1 ≤ 4) && decide (a.2.2.length ≤ 40) && a.2.2.all (conB a.1 a.2.1)
theorem impl_isConstraint_ok {v n : Int} {c : Con} (h : conS c) : impl_isConstraint v n c = some (conB v n c) := by
 unfold impl_isConstraint conB
 rw [impl_isRelation_ok (r := (c.2.1, c.2.2)) h.2]
 cases relB n (c.2.1, c.2.2) with
 | false => simp
 | true =>
  by_cases hl : (c.1.length : Int) = c.2.1
  ·simp [hl, impl_inSize_ok v (show c.1.length ≤ 1099511627775 by have := h.1; omega)]
  ·simp [hl]
theorem spec_l19Is_ok {v n : Int} {c : Con} (h : conS c) (hv : 0 ≤ v ∧ v ≤ 9) (hn : 1 ≤ n ∧ n ≤ 8) : spec_l19Is v n c = some (conB v n c) := by
 unfold spec_l19Is conB
 rw [spec_l13Good_ok (r := (c.2.1, c.2.2)) h.2 hn]
 cases relB n (c.2.1, c.2.2) with
 | false => simp
 | true =>
  by_cases hl : (c.1.length : Int) = c.2.1
  ·simp [hl, spec_l2Elements_ok (l := c.1) (n := v) (by omega) (by omega) (show c.1.length ≤ 1099511627775 by have := h.1; omega)]
  ·simp [hl]
theorem impl_IsNetwork_ok {a : Net} (h : netS a) : impl_IsNetwork a = some (netB a) := by
 obtain ⟨v, n, cs⟩ := a
 unfold impl_IsNetwork netB
 by_cases h1 : v < 0
 ·simp [h1, show ¬ 0 ≤ v by omega]
 ·by_cases h2 : v > 9
  ·simp [h1, h2, show ¬ v ≤ 9 by omega]
  ·rw [if_neg (by simpa using h1), if_neg (by simpa using h2)]
   unfold impl_isTemplateSize
   by_cases h3 : 1 ≤ n ∧ n ≤ 4
   ·by_cases h4 : cs.length > 40
    ·simp [h3, show ¬ cs.length ≤ 40 by omega]; omega
    ·have key := allX cs (fun m i => impl_IsNetwork_L4 m ((v, (n, cs)), cs, (cs.length : Int), i)) (conB v n) (.inr false) (.inl ()) ?_ ?_ (n := fuel) (by unfold fuel; omega)
     ·simp only [h3, ge_iff_le, decide_true, if_true, Option.bind_some, Bool.not_true, Bool.false_eq_true, if_false]
      rw [if_neg (by simp; omega), key]
      cases cs.all (conB v n) <;> simp <;> omega
     ·intro m k hk
      simp only [impl_IsNetwork_L4, inb_nat, gd_nat hk, w64_succ (show k < 4611686018427387904 by omega), impl_isConstraint_ok (c := cs[k]) (h.2 _ (List.getElem_mem hk))]
      cases hb : conB v n cs[k] <;> simp [hk, hb]
     ·intro m
      simp [impl_IsNetwork_L4]
   ·by_cases h5 : n ≥ 1
    ·simp [h5, show ¬ n ≤ 4 by omega]
    ·simp [h5, show ¬ 1 ≤ n by omega]
theorem spec_l19Good_ok {a : Net} (h : netS a) : spec_l19Good a = some (netB a) := by
 obtain ⟨v, n, cs⟩ := a
 unfold spec_l19Good netB
 rw [spec_l1In_ok, spec_l1In_ok]
 by_cases h1 : 0 ≤ v ∧ v ≤ 9
 ·by_cases h3 : 1 ≤ n ∧ n ≤ 4
  ·by_cases h4 : cs.length > 40
   ·simp [h1, h3, show ¬ cs.length ≤ 40 by omega]; omega
   ·have key := allX cs (fun m i => spec_l19Good_L4 m ((v, (n, cs)), i)) (conB v n) (.inr false) (.inl ()) ?_ ?_ (n := fuel) (by unfold fuel; omega)
    ·simp only [h1, h3, and_self, decide_true, Option.bind_some, Bool.not_true, Bool.false_eq_true, if_false]
     rw [if_neg (by simp; omega), key]
     cases cs.all (conB v n) <;> simp <;> omega
    ·intro m k hk
     simp only [spec_l19Good_L4, inb_nat, gd_nat hk, w64_succ (show k < 4611686018427387904 by omega), spec_l19Is_ok (c := cs[k]) (h.2 _ (List.getElem_mem hk)) h1 (show 1 ≤ n ∧ n ≤ 8 by omega)]
     cases hb : conB v n cs[k] <;> simp [hk, hb]
    ·intro m
     simp [spec_l19Good_L4]
  ·simp [h1, h3]
 ·simp [h1]
structure ConOk (v n : Int) (c : Con) : Prop where
 ar : 1 ≤ c.2.1 ∧ c.2.1 ≤ 3
 sl : (c.1.length : Int) = c.2.1
 sv : ∀ (i : Nat) (hi : i < c.1.length), 0 ≤ c.1[i] ∧ c.1[i] < v
 tl : ∀ t ∈ c.2.2, t.length = c.1.length
 tv : ∀ t ∈ c.2.2, ∀ (i : Nat) (hi : i < t.length), 0 ≤ t[i] ∧ t[i] < n
 inc : incB c.2.2 = true
 many : c.2.2.length ≤ 64
structure NetOk (a : Net) : Prop where
 hv : 0 ≤ a.1 ∧ a.1 ≤ 9
 hn : 1 ≤ a.2.1 ∧ a.2.1 ≤ 4
 hc : a.2.2.length ≤ 40
 con : ∀ c ∈ a.2.2, ConOk a.1 a.2.1 c
theorem con_of {v n : Int} {c : Con} (hn : 1 ≤ n ∧ n ≤ 4) (h : conB v n c = true) : ConOk v n c := by
 unfold conB relB at h
 simp only [Bool.and_eq_true, decide_eq_true_eq, List.all_eq_true] at h
 obtain ⟨⟨⟨⟨h1, h2⟩, h3⟩, h4⟩, h5⟩ := h
 refine ⟨h1, h4, fun i hi => belowB_get h5 i hi, fun t ht => by have := (h2 t ht).1; omega, fun t ht i hi => belowB_get (h2 t ht).2 i hi, h3, ?_⟩
 rcases inc_count (n := n) (k := c.2.1.toNat) h3 fun t ht => ⟨by have := (h2 t ht).1; omega, (h2 t ht).2⟩ with h6 | h6
 ·have : n ^ c.2.1.toNat ≤ 64 := by
   have h7 : c.2.1.toNat = 1 ∨ c.2.1.toNat = 2 ∨ c.2.1.toNat = 3 := by omega
   have h8 : n = 1 ∨ n = 2 ∨ n = 3 ∨ n = 4 := by omega
   rcases h7 with h7 | h7 | h7 <;> rcases h8 with h8 | h8 | h8 | h8 <;> rw [h7, h8] <;> decide
  omega
 ·rw [h6]; simp
theorem net_of {a : Net} (h : netB a = true) : NetOk a := by
 unfold netB at h
 simp only [Bool.and_eq_true, decide_eq_true_eq, List.all_eq_true] at h
 obtain ⟨⟨⟨h1, h2⟩, h3⟩, h4⟩ := h
 exact ⟨h1, h2, h3, fun c hc => con_of h2 (h4 c hc)⟩
end T
open Go Go.Va
namespace T
theorem beq_dec (a b : Int) : (a == b) = decide (a = b) := by by_cases h : a = b <;> simp [h]
theorem bne_dec (a b : Int) : (a != b) = !decide (a = b) := by by_cases h : a = b <;> simp [h]
theorem accX {β : Type} (N : Nat) (L : Nat → Bool → Int → Option β) (p : Nat → Bool) (f : Bool → Option β)
    (hs : ∀ n b (k : Nat), k < N → L (n + 1) b k = L n (b && p k) ((k + 1 : Nat) : Int)) (he : ∀ n b, L (n + 1) b (N : Nat) = f b) {n : Nat} (hn : N < n) (b : Bool) : L n b 0 = f (b && (List.range N).all p) := by
  have key : ∀ (n k : Nat) (b : Bool), k ≤ N → N - k < n → L n b k = f (b && (List.range' k (N - k)).all p) := by
    intro n
    induction n with
    | zero => intro k b _ h; omega
    | succ n ih =>
      intro k b hk hn
      rcases Nat.lt_or_ge k N with hlt | hge
      · rw [hs n b k hlt, ih (k + 1) _ hlt (by omega), show N - k = (N - (k + 1)) + 1 by omega, List.range'_succ, List.all_cons, Bool.and_assoc]
      · have : k = N := by omega
        subst this; rw [he]; simp
  have := key n 0 b (Nat.zero_le _) (by omega)
  rw [List.range_eq_range']
  simpa using this
theorem inplX {α β : Type} (N : Nat) (L : Nat → List α → Int → Option β) (f : Nat → α → α) (fin : List α → Option β)
    (hs : ∀ n (a : List α) (k : Nat) (hk : k < N) (hl : a.length = N), L (n + 1) a k = L n (a.set k (f k (a[k]'(by omega)))) ((k + 1 : Nat) : Int)) (he : ∀ n a, a.length = N → L (n + 1) a (N : Nat) = fin a) {n : Nat} (hn : N < n) {a : List α} (ha : a.length = N) : L n a 0 = fin (a.mapIdx f) := by
  have key := forS N L (fun k => a.mapIdx fun i x => if i < k then f i x else x) (r := fin (a.mapIdx f)) (fun n k hk => ?_) (fun n => ?_) hn
  · have e : (a.mapIdx fun i x => if i < 0 then f i x else x) = a := by
      apply List.ext_getElem <;> simp
    rw [e] at key; exact key
  · rw [hs n _ k hk (by simpa using ha)]
    congr 1
    apply List.ext_getElem
    · simp
    · intro i h1 h2
      simp only [List.getElem_set, List.getElem_mapIdx]
      by_cases h : k = i
      · subst h; simp
      · rw [if_neg h]
        by_cases h3 : i < k
        · simp [h3, show i < k + 1 by omega]
        · simp [h3, show ¬ i < k + 1 by omega]
  · have e : (a.mapIdx fun i x => if i < N then f i x else x) = a.mapIdx f := by
      apply List.ext_getElem
      · simp
      · intro i h1 h2
        simp at h1
        simp only [List.getElem_mapIdx]; rw [if_pos (by omega)]
    rw [e]; exact he n _ (by simpa using ha)
def g0 (l : List Int) (i : Nat) : Int := l.getD i 0
theorem g0_of {l : List Int} {i : Nat} (h : i < l.length) : l[i] = g0 l i := (getD_of h).symm
def pairB (s t : List Int) (i j : Nat) : Bool := decide (g0 s i ≠ g0 s j ∨ g0 t i = g0 t j)
def agB (s t : List Int) : Bool := (List.range s.length).all fun i => (List.range i).all fun j => pairB s t i j
theorem impl_agrees_ok {s t : List Int} (hs : s.length ≤ 1048576) (hl : t.length = s.length) : impl_agrees s t = some (agB s t) := by
 unfold impl_agrees agB
 have key := forA s.length (fun n (_ : Unit) i => impl_agrees_L2 n (s, t, s, (s.length : Int), i)) (fun _ => ()) (fun i => (List.range i).all fun j => pairB s t i j) (r := some (.inr false)) (e := some (.inl ())) (fun n k hk => ?_) (fun n => ?_) (n := fuel) (by unfold fuel; omega)
 ·rw [key]
  cases (List.range s.length).all (fun i => (List.range i).all fun j => pairB s t i j) <;> simp
 ·have inner := forA k (fun n (_ : Unit) i => impl_agrees_L5 n (s, t, (k : Int), s[k], s, (s.length : Int), (k : Int), s.take k, (((s.take k).length : Nat) : Int), i)) (fun _ => ()) (pairB s t k) (r := some (.inr false)) (e := some (.inl (s, t, s, (s.length : Int), (k : Int)))) (fun n j hj => ?_) (fun n => ?_) (n := fuel) (by unfold fuel; omega)
  ·have e1 : List.drop (Int.toNat 0) (List.take (Int.toNat (k : Int)) s) = s.take k := by simp
   simp only [impl_agrees_L2, inb_nat, gd_nat hk, w64_succ (show k < 4611686018427387904 by omega), e1, inner]
   cases hp : (List.range k).all (pairB s t k) with
   | true => simp [hk, Nat.le_of_lt hk, w64_succ' (show k < 4611686018427387904 by omega)]
   | false => simp [hk, Nat.le_of_lt hk]
  ·have h1 : j < (s.take k).length := by simp; omega
   have h2 : k < t.length := by omega
   have h3 : j < t.length := by omega
   have e2 : (s.take k)[j] = s[j] := by simp
   simp only [impl_agrees_L5, inb_nat, gd_nat h1, gd_nat h2, gd_nat h3, w64_succ (show j < 4611686018427387904 by omega), e2, pairB, g0_of hk, g0_of (show j < s.length by omega), g0_of h2, g0_of h3]
   by_cases h4 : g0 s k = g0 s j
   ·by_cases h5 : g0 t k = g0 t j <;> simp [h2, h3, h4, h5, show j < min k s.length by omega]
   ·simp [h4, show j < min k s.length by omega]
  ·have e3 : (((s.take k).length : Nat) : Int) = (k : Int) := by simp; omega
   simp only [impl_agrees_L5, e3]; simp
 ·simp [impl_agrees_L2]
section
variable {v n up : Int} {c : Con} {vals : List Int}
theorem spec_l1Own_ok {l : List Int} (h : l.length ≤ 1099511627775) : spec_l1Own l = some l := by
 unfold spec_l1Own
 rw [if_pos (by unfold lim; simp; omega)]; simp
end
end T
open Go Go.Va
namespace T
def con0 : Con := ([], 0, [])
section
variable {a : Net} {steps : List Int}
end
end T
open Go Go.Va
namespace T
abbrev Dom := List (List Bool)
def mk (bs : List Bool) : List Int := ((List.range bs.length).filter fun i => bs.getD i false).map fun i : Nat => (i : Int)
def d2 (d : Dom) (v x : Nat) : Bool := (d.getD v []).getD x false
def set2 (d : Dom) (v x : Nat) : Dom := d.set v ((d.getD v []).set x false)
structure DomOk (a : Net) (d : Dom) : Prop where
 len : (d.length : Int) = a.1
 row : ∀ r ∈ d, (r.length : Int) = a.2.1
theorem mem_mk {bs : List Bool} {x : Int} : x ∈ mk bs ↔ 0 ≤ x ∧ bs.getD x.toNat false = true := by
 unfold mk
 rw [List.mem_map]
 constructor
 ·rintro ⟨i, hi, rfl⟩
  rw [List.mem_filter] at hi
  exact ⟨by omega, by simpa using hi.2⟩
 ·rintro ⟨h0, h⟩
  refine ⟨x.toNat, ?_, by omega⟩
  rw [List.mem_filter, List.mem_range]
  refine ⟨?_, h⟩
  rcases Nat.lt_or_ge x.toNat bs.length with h1 | h1
  ·exact h1
  ·rw [List.getD_eq_getElem?_getD, List.getElem?_eq_none h1] at h; cases h
theorem mk_len {bs : List Bool} : (mk bs).length ≤ bs.length := by
 unfold mk
 rw [List.length_map]
 have := List.length_filter_le (fun i => bs.getD i false) (List.range bs.length)
 simpa using this
theorem getD_set_of {α : Type} {l : List α} {i j : Nat} {y d : α} : (l.set i y).getD j d = if i = j ∧ j < l.length then y else l.getD j d := by
 simp only [List.getD_eq_getElem?_getD, List.getElem?_set]
 by_cases h : i = j
 ·subst h
  by_cases h2 : i < l.length
  ·simp [h2]
  ·simp [h2]
 ·simp [h]
theorem mk_set {bs : List Bool} {x : Nat} : mk (bs.set x false) = (mk bs).filter fun y => y != (x : Int) := by
 unfold mk
 rw [List.length_set, List.filter_map, List.filter_filter]
 congr 1
 apply List.filter_congr
 intro i hi
 have hi := List.mem_range.1 hi
 rw [getD_set_of]
 by_cases h : x = i
 ·subst h; simp [hi]
 ·rw [if_neg (by simp [h])]
  have : ((i : Int) != (x : Int)) = true := by simp; omega
  simp [Function.comp, this]
theorem mk_full {n : Nat} : mk (List.replicate n true) = (List.range n).map fun i : Nat => (i : Int) := by
 unfold mk
 rw [List.length_replicate]
 congr 1
 rw [List.filter_eq_self]
 intro i hi
 have := List.mem_range.1 hi
 simp [List.getD_eq_getElem?_getD, List.getElem?_replicate, this]
theorem set2_map {d : Dom} {v x : Nat} : (set2 d v x).map mk = (d.map mk).set v (mk ((d.getD v []).set x false)) := by
 unfold set2; rw [List.map_set]
theorem set2_ok {a : Net} {d : Dom} {v x : Nat} (h : DomOk a d) (hv : v < d.length) : DomOk a (set2 d v x) := by
 refine ⟨by unfold set2; rw [List.length_set]; exact h.len, fun r hr => ?_⟩
 unfold set2 at hr
 rcases List.mem_or_eq_of_mem_set hr with hr | rfl
 ·exact h.row r hr
 ·rw [List.length_set, getD_of hv]; exact h.row _ (List.getElem_mem hv)
theorem d2_set2 {d : Dom} {v x y : Nat} (hy : y ≠ x) : d2 (set2 d v x) v y = d2 d v y := by
 unfold d2 set2
 rw [getD_set_of]
 split
 ·rw [getD_set_of, if_neg (by omega)]
 ·rfl
def mu (d : Dom) : Nat := (d.map fun r => r.countP id).sum
theorem sum_set {α : Type} (f : α → Nat) : ∀ (l : List α) (i : Nat) (y : α) (hi : i < l.length), ((l.set i y).map f).sum + f l[i] = (l.map f).sum + f y
 | x :: l, 0, y, _ => by simp; omega
 | x :: l, i + 1, y, hi => by
  have := sum_set f l i y (by simpa using hi)
  simp only [List.set_cons_succ, List.map_cons, List.sum_cons, List.getElem_cons_succ]; omega
theorem count_set : ∀ (r : List Bool) (x : Nat), r.getD x false = true → (r.set x false).countP id + 1 = r.countP id
 | [], x, h => by simp at h
 | b :: r, 0, h => by simp at h; subst h; simp
 | b :: r, x + 1, h => by
  have := count_set r x (by simpa using h)
  rw [List.set_cons_succ, List.countP_cons, List.countP_cons]; omega
theorem mu_set2 {d : Dom} {v x : Nat} (h : d2 d v x = true) : mu (set2 d v x) + 1 = mu d := by
 unfold d2 at h
 rcases Nat.lt_or_ge v d.length with hv | hv
 ·have h1 := sum_set (fun r : List Bool => r.countP id) d v ((d.getD v []).set x false) hv
  have h2 := count_set _ _ h
  rw [getD_of hv] at h1 h2
  unfold mu set2
  rw [getD_of hv]
  omega
 ·rw [List.getD_eq_getElem?_getD (l := d), List.getElem?_eq_none hv] at h; simp at h
theorem d2_in {d : Dom} {v x : Nat} (h : d2 d v x = true) : v < d.length ∧ x < (d.getD v []).length := by
 unfold d2 at h
 rcases Nat.lt_or_ge v d.length with hv | hv
 ·refine ⟨hv, ?_⟩
  rcases Nat.lt_or_ge x (d.getD v []).length with hx | hx
  ·exact hx
  ·rw [List.getD_eq_getElem?_getD, List.getElem?_eq_none hx] at h; cases h
 ·rw [List.getD_eq_getElem?_getD (l := d), List.getElem?_eq_none hv] at h; simp at h
theorem spec_l1Has_ok {l : List Int} {x : Int} (h : l.length ≤ 1048576) : spec_l1Has l x = some (decide (x ∈ l)) := by
 unfold spec_l1Has
 rw [allX l (fun n i => spec_l1Has_L2 n (l, x, i)) (fun y => !decide (y = x)) (.inr true) (.inl ()) ?_ ?_ (by unfold fuel; omega)]
 ·by_cases hx : x ∈ l
  ·rw [if_neg]
   ·simp [hx]
   ·rw [List.all_eq_true]; intro h; have := h x hx; simp at this
  ·rw [if_pos]
   ·simp [hx]
   ·rw [List.all_eq_true]; intro y hy; have : y ≠ x := fun e => hx (e ▸ hy)
    simp [this]
 ·intro n k hk
  simp only [spec_l1Has_L2, inb_nat, gd_nat hk, w64_succ (show k < 4611686018427387904 by omega)]
  by_cases e : l[k] = x <;> simp [hk, e]
 ·intro n; simp [spec_l1Has_L2]
theorem spec_l20Without_ok {l : List Int} {x : Int} (h : l.length ≤ 1048576) : spec_l20Without l x = some (l.filter fun y => y != x) := by
 unfold spec_l20Without
 have := forS l.length (fun n o i => spec_l20Without_L3 n (l, x, o, i)) (fun k => (l.take k).filter fun y => y != x) (r := some (l.filter fun y => y != x)) (fun n k hk => ?_) (fun n => ?_) (n := fuel) (by unfold fuel; omega)
 ·simp only [List.take_zero, List.filter_nil] at this
  rw [this]; rfl
 ·have hlen : ((l.take k).filter fun y => y != x).length ≤ k := Nat.le_trans (List.length_filter_le _ _) (by simp; omega)
  simp only [spec_l20Without_L3, inb_nat, gd_nat hk, w64_succ (show k < 4611686018427387904 by omega)]
  rw [List.take_succ_eq_append_getElem hk, List.filter_append]
  by_cases e : l[k] = x
  ·simp [hk, e]
  ·have : ((l.take k).filter fun y => y != x).length + 1 ≤ lim := by unfold lim; omega
   simp [hk, e, this]
 ·simp [spec_l20Without_L3]
theorem spec_l6Identity_ok {n : Nat} (h : n ≤ 1048576) : spec_l6Identity n = some ((List.range n).map fun i : Nat => (i : Int)) := by
 unfold spec_l6Identity
 have := forS n (fun m o i => spec_l6Identity_L3 m ((n : Int), o, i)) (fun k => (List.range k).map fun i : Nat => (i : Int)) (r := some ((List.range n).map fun i : Nat => (i : Int))) (fun m k hk => ?_) (fun m => ?_) (n := fuel) (by unfold fuel; omega)
 ·have e : ((List.range 0).map fun i : Nat => (i : Int)) = [] := rfl
  rw [e] at this; rw [this]; rfl
 ·have e : ((List.range k).map fun i : Nat => (i : Int)) ++ [(k : Int)] = (List.range (k + 1)).map fun i : Nat => (i : Int) := by rw [List.range_succ]; simp
  simp only [spec_l6Identity_L3, w64_succ (show k < 4611686018427387904 by omega), e]
  rw [if_pos (by simp; omega), if_pos (by unfold lim; simp; omega)]
 ·simp [spec_l6Identity_L3]
def full (a : Net) : Dom := List.replicate a.1.toNat (List.replicate a.2.1.toNat true)
theorem full_ok {a : Net} (h : NetOk a) : DomOk a (full a) := by
 have h1 := h.hv
 have h2 := h.hn
 refine ⟨by unfold full; rw [List.length_replicate]; omega, fun r hr => ?_⟩
 unfold full at hr
 rw [(List.mem_replicate.1 hr).2, List.length_replicate]; omega
theorem spec_l20Full_ok {a : Net} (h : NetOk a) : spec_l20Full a = some ((full a).map mk) := by
 have h1 := h.hv
 have h2 := h.hn
 unfold spec_l20Full
 have e1 : a.2.1 = ((a.2.1.toNat : Nat) : Int) := by omega
 have e0 : a.1 = ((a.1.toNat : Nat) : Int) := by omega
 have hid : spec_l6Identity a.2.1 = some (mk (List.replicate a.2.1.toNat true)) := by rw [mk_full, e1]; exact spec_l6Identity_ok (by omega)
 have := forS a.1.toNat (fun m o i => spec_l20Full_L3 m ((a.1, (a.2.1, a.2.2)), o, i)) (fun k => List.replicate k (mk (List.replicate a.2.1.toNat true))) (r := some ((full a).map mk)) (fun m k hk => ?_) (fun m => ?_) (n := fuel) (by unfold fuel; omega)
 ·have e : List.replicate 0 (mk (List.replicate a.2.1.toNat true)) = [] := rfl
  rw [e] at this; rw [this]; rfl
 ·simp only [spec_l20Full_L3, w64_succ (show k < 4611686018427387904 by omega), hid, Option.bind_some]
  rw [if_pos (by simp; omega), if_pos (by unfold lim; simp; omega), ← List.replicate_succ']
 ·have e : (full a).map mk = List.replicate a.1.toNat (mk (List.replicate a.2.1.toNat true)) := by unfold full; rw [List.map_replicate]
  simp only [spec_l20Full_L3]
  rw [if_neg (by simp; omega), e]
theorem impl_wholeDomains_ok {a : Net} (h : NetOk a) : impl_wholeDomains a = some (full a) := by
 have h1 := h.hv
 have h2 := h.hn
 unfold impl_wholeDomains
 rw [if_pos (by unfold lim; omega)]
 have hm : ∀ (d : Dom) (k : Nat) (t10 : Int) (hk : k < d.length), d[k].length = a.2.1.toNat → impl_wholeDomains_L7 fuel ((a.1, (a.2.1, a.2.2)), d, (k : Int), t10, (k : Int), ((a.2.1.toNat : Nat) : Int), 0) = some ((a.1, (a.2.1, a.2.2)), d.set k (List.replicate a.2.1.toNat true), t10, (k : Int)) := by
  intro d k t10 hk hl
  have := forS a.2.1.toNat (fun m d i => impl_wholeDomains_L7 m ((a.1, (a.2.1, a.2.2)), d, (k : Int), t10, (k : Int), ((a.2.1.toNat : Nat) : Int), i)) (fun j => d.set k (List.replicate j true ++ d[k].drop j)) (r := some ((a.1, (a.2.1, a.2.2)), d.set k (List.replicate a.2.1.toNat true), t10, (k : Int))) (fun m j hj => ?_) (fun m => ?_) (n := fuel) (by unfold fuel; omega)
  ·simpa using this
  ·have hx : j < (d[k]).length := by omega
   have e : (List.replicate j true ++ d[k].drop j).set j true = List.replicate (j + 1) true ++ d[k].drop (j + 1) := by
    rw [List.set_append_right _ _ (by simp), List.length_replicate, Nat.sub_self, List.drop_eq_getElem_cons hx, List.set_cons_zero, List.replicate_succ', List.append_assoc]; rfl
   simp only [impl_wholeDomains_L7, inb_nat, stt_nat, gd_nat (show k < (d.set k (List.replicate j true ++ d[k].drop j)).length by simpa using hk), List.getElem_set_self, e, List.set_set, w64_succ (show j < 4611686018427387904 by omega)]
   rw [if_pos (by simp; omega), if_pos (by simpa using hk), if_pos (by simp; omega)]
  ·simp only [impl_wholeDomains_L7]
   rw [List.drop_of_length_le (by omega)]; simp
 have := inplX a.1.toNat (fun m d i => impl_wholeDomains_L3 m ((a.1, (a.2.1, a.2.2)), d, ((a.1.toNat : Nat) : Int), i)) (fun _ _ => List.replicate a.2.1.toNat true) some (fun m d k hk hl => ?_) (fun m d hl => ?_) (n := fuel) (by unfold fuel; omega) (a := List.replicate a.1.toNat ([] : List Bool)) (by simp)
 ·have e2 : (List.replicate a.1.toNat ([] : List Bool)).mapIdx (fun _ _ => List.replicate a.2.1.toNat true) = full a := by
   unfold full; apply List.ext_getElem <;> simp
  rw [e2] at this
  simp only [List.length_replicate]
  rw [this]; rfl
 ·have hkd : k < d.length := by omega
  have hks : k < (d.set k (List.replicate (Int.toNat a.2.1) false)).length := by simpa using hkd
  simp only [impl_wholeDomains_L3, inb_nat, stt_nat, gd_nat hks, List.getElem_set_self, List.length_replicate, w64_succ (show k < 4611686018427387904 by omega), hm _ k _ hks (show ((d.set k (List.replicate (Int.toNat a.2.1) false))[k]).length = a.2.1.toNat by simp), Option.bind_some, List.set_set]
  rw [if_pos (by simp; omega), if_pos (by unfold lim; omega), if_pos hkd, if_pos (by simpa using hkd)]
 ·simp [impl_wholeDomains_L3]
end T
open Go Go.Va
namespace T
def inD (d : Dom) (s t : List Int) : Bool := (List.range s.length).all fun i => d2 d (g0 s i).toNat (g0 t i).toNat
def supM (d : Dom) (c : Con) (p : Nat) (x : Int) : Bool := c.2.2.any fun t => decide (g0 t p = x) && (agB c.1 t && inD d c.1 t)
section
variable {a : Net} {c : Con} {d : Dom}
theorem dom_at (h : ConOk a.1 a.2.1 c) (hd : DomOk a d) {i : Nat} (hi : i < c.1.length) : ∃ m : Nat, c.1[i] = (m : Int) ∧ g0 c.1 i = (m : Int) ∧ ∃ hm : m < d.length, ((d[m]).length : Int) = a.2.1 :=
 ⟨c.1[i].toNat, by have := h.sv i hi; omega, by have := h.sv i hi; rw [← g0_of hi]; omega, by have := h.sv i hi; have := hd.len; omega, hd.row _ (List.getElem_mem _)⟩
theorem tup_at (h : ConOk a.1 a.2.1 c) {t : List Int} (ht : t ∈ c.2.2) {i : Nat} (hi : i < c.1.length) : ∃ (x : Nat) (hit : i < t.length), t[i] = (x : Int) ∧ g0 t i = (x : Int) ∧ (x : Int) < a.2.1 := by
 have hl := h.tl t ht
 have hit : i < t.length := by omega
 have := h.tv t ht i hit
 exact ⟨t[i].toNat, hit, by omega, by rw [← g0_of hit]; omega, by omega⟩
theorem has_mk {r : List Bool} (hr : r.length ≤ 1048576) {x : Nat} : spec_l1Has (mk r) (x : Int) = some (r.getD x false) := by
 rw [spec_l1Has_ok (Nat.le_trans mk_len hr)]
 congr 1
 rw [Bool.eq_iff_iff, decide_eq_true_eq, mem_mk]
 simp
theorem fits_L7 (h : ConOk a.1 a.2.1 c) {t : List Int} (ht : t ∈ c.2.2) {i : Nat} (hi : i < c.1.length) (now : List (List Int)) :
    spec_l20Fits_L7 fuel (t, now, (c.1, (c.2.1, c.2.2)), (i : Int), 0) = if (List.range i).all (pairB c.1 t i) then some (.inl (t, now, (c.1, (c.2.1, c.2.2)), (i : Int))) else some (.inr false) := by
  have htl := h.tl t ht
  have har := h.ar
  have hsl := h.sl
  refine forA i (fun n (_ : Unit) k => spec_l20Fits_L7 n (t, now, (c.1, (c.2.1, c.2.2)), (i : Int), k)) (fun _ => ()) (pairB c.1 t i) (fun n k hk => ?_) (fun n => ?_) (n := fuel) (by unfold fuel; omega)
  · have h1 : i < t.length := by omega
    have h2 : k < t.length := by omega
    have h3 : k < c.1.length := by omega
    simp only [spec_l20Fits_L7, inb_nat, gd_nat h1, gd_nat h2, gd_nat h3, gd_nat hi, w64_succ (show k < 4611686018427387904 by omega), pairB, ← g0_of h1, ← g0_of h2, ← g0_of h3, ← g0_of hi]
    by_cases h4 : c.1[i] = c.1[k]
    · by_cases h5 : t[i] = t[k]
      · simp [hk, hi, h1, h2, h3, h4, h5]
      · simp [hk, hi, h1, h2, h3, h4, h5, Ne.symm h5, bne_dec, eq_comm]
    · simp [hk, hi, h1, h2, h3, h4, Ne.symm h4, beq_dec, eq_comm]
  · simp [spec_l20Fits_L7]
theorem spec_l20Fits_ok (h : ConOk a.1 a.2.1 c) (hn : a.2.1 ≤ 4) (hd : DomOk a d) {t : List Int} (ht : t ∈ c.2.2) : spec_l20Fits c t (d.map mk) = some (agB c.1 t && inD d c.1 t) := by
 have htl := h.tl t ht
 have har := h.ar
 have hsl := h.sl
 unfold spec_l20Fits
 have key := forA c.1.length (fun n (_ : Unit) i => spec_l20Fits_L2 n (t, d.map mk, (c.1, (c.2.1, c.2.2)), i)) (fun _ => ()) (fun i => d2 d (g0 c.1 i).toNat (g0 t i).toNat && (List.range i).all (pairB c.1 t i)) (r := some (.inr false)) (e := some (.inl ())) (fun n k hk => ?_) (fun n => ?_) (n := fuel) (by unfold fuel; omega)
 ·rw [key]
  have : ((List.range c.1.length).all fun i => d2 d (g0 c.1 i).toNat (g0 t i).toNat && (List.range i).all (pairB c.1 t i)) = (agB c.1 t && inD d c.1 t) := by
   unfold agB inD
   rw [Bool.eq_iff_iff, Bool.and_eq_true, List.all_eq_true, List.all_eq_true, List.all_eq_true]
   constructor
   ·intro h; exact ⟨fun i hi => (Bool.and_eq_true _ _ ▸ h i hi).2, fun i hi => (Bool.and_eq_true _ _ ▸ h i hi).1⟩
   ·rintro ⟨h1, h2⟩ i hi; rw [Bool.and_eq_true]; exact ⟨h2 i hi, h1 i hi⟩
  rw [this]
  cases (agB c.1 t && inD d c.1 t) <;> simp
 ·obtain ⟨m, hm, hmg, hml, hrow⟩ := dom_at h hd hk
  obtain ⟨x, hkt, hx, hxg, hxn⟩ := tup_at h ht hk
  have hml' : m < (d.map mk).length := by simpa using hml
  simp only [spec_l20Fits_L2, inb_nat, gd_nat hkt, gd_nat hk, hm, gd_nat hml', List.getElem_map, hx, has_mk (show d[m].length ≤ 1048576 by omega), hmg, hxg, Int.toNat_natCast, fits_L7 h ht hk, Option.bind_some, w64_succ (show k < 4611686018427387904 by omega)]
  have e : d2 d m x = d[m].getD x false := by unfold d2; rw [getD_of hml]
  rw [e]
  cases d[m].getD x false with
  | false => simp [hkt, hk, hml]
  | true => cases (List.range k).all (pairB c.1 t k) <;> simp [hkt, hk, hml, w64_succ' (show k < 4611686018427387904 by omega)]
 ·rw [← htl]; simp [spec_l20Fits_L2]
theorem spec_l20Support_ok (h : ConOk a.1 a.2.1 c) (hn : a.2.1 ≤ 4) (hd : DomOk a d) {p : Nat} (hp : p < c.1.length) (x : Int) : spec_l20Support c (p : Int) x (d.map mk) = some (supM d c p x) := by
 have hmany := h.many
 unfold spec_l20Support
 have key := allX c.2.2 (fun n i => spec_l20Support_L2 n ((p : Int), x, d.map mk, (c.1, (c.2.1, c.2.2)), i)) (fun t => !(decide (g0 t p = x) && (agB c.1 t && inD d c.1 t))) (.inr true) (.inl ()) ?_ ?_ (n := fuel) (by unfold fuel; omega)
 ·rw [key]
  have : (c.2.2.all fun t => !(decide (g0 t p = x) && (agB c.1 t && inD d c.1 t))) = !supM d c p x := by
   unfold supM; rw [← List.not_any_eq_all_not]
  rw [this]
  cases supM d c p x <;> simp
 ·intro n k hk
  have ht := List.getElem_mem hk
  have hpt : p < (c.2.2[k]).length := by have := h.tl _ ht; omega
  simp only [spec_l20Support_L2, inb_nat, gd_nat hk, gd_nat hpt, spec_l20Fits_ok h hn hd ht, Option.bind_some, w64_succ (show k < 4611686018427387904 by omega), ← g0_of hpt]
  by_cases e : (c.2.2[k])[p] = x
  ·cases (agB c.1 c.2.2[k] && inD d c.1 c.2.2[k]) <;> simp [hk, hpt, e]
  ·simp [hk, hpt, e]
 ·intro n; simp [spec_l20Support_L2]
theorem supports_L7 (h : ConOk a.1 a.2.1 c) (hd : DomOk a d) {t : List Int} (ht : t ∈ c.2.2) (p x : Int) (b : Bool) (t16 : List (List Int)) (t17 t18 : Int) :
    impl_domains_supports_L7 fuel (d, p, x, (c.1, (c.2.1, c.2.2)), b, t16, t17, t18, t, (t.length : Int), 0) = some (d, p, x, (c.1, (c.2.1, c.2.2)), b && inD d c.1 t, t16, t17, t18) := by
  have htl := h.tl t ht
  have har := h.ar
  have hsl := h.sl
  refine accX c.1.length (fun n b i => impl_domains_supports_L7 n (d, p, x, (c.1, (c.2.1, c.2.2)), b, t16, t17, t18, t, (t.length : Int), i)) (fun i => d2 d (g0 c.1 i).toNat (g0 t i).toNat) (fun b => some (d, p, x, (c.1, (c.2.1, c.2.2)), b, t16, t17, t18)) (fun n b k hk => ?_) (fun n b => ?_) (n := fuel) (by unfold fuel; omega) b
  · obtain ⟨m, hm, hmg, hml, hrow⟩ := dom_at h hd hk
    obtain ⟨y, hkt, hx, hxg, hxn⟩ := tup_at h ht hk
    have hy : y < d[m].length := by omega
    simp only [impl_domains_supports_L7, inb_nat, gd_nat hkt, gd_nat hk, hm, gd_nat hml, hx, gd_nat hy, hmg, hxg, Int.toNat_natCast, w64_succ (show k < 4611686018427387904 by omega)]
    have e : d2 d m y = d[m][y] := by unfold d2; rw [getD_of hml, getD_of hy]
    rw [e]
    cases b <;> simp [hkt, hk, hml, hy]
  · rw [← htl]; simp [impl_domains_supports_L7]
theorem impl_supports_ok (h : ConOk a.1 a.2.1 c) (hd : DomOk a d) {p : Nat} (hp : p < c.1.length) (x : Int) : impl_domains_supports d c (p : Int) x = some (supM d c p x) := by
 have hmany := h.many
 have har := h.ar
 have hsl := h.sl
 unfold impl_domains_supports
 have key := allX c.2.2 (fun n i => impl_domains_supports_L2 n (d, (p : Int), x, (c.1, (c.2.1, c.2.2)), c.2.2, (c.2.2.length : Int), i)) (fun t => !(decide (g0 t p = x) && (agB c.1 t && inD d c.1 t))) (.inr true) (.inl ()) ?_ ?_ (n := fuel) (by unfold fuel; omega)
 ·rw [key]
  have : (c.2.2.all fun t => !(decide (g0 t p = x) && (agB c.1 t && inD d c.1 t))) = !supM d c p x := by
   unfold supM; rw [← List.not_any_eq_all_not]
  rw [this]
  cases supM d c p x <;> simp
 ·intro n k hk
  have ht := List.getElem_mem hk
  have htl := h.tl _ ht
  have hpt : p < (c.2.2[k]).length := by omega
  simp only [impl_domains_supports_L2, inb_nat, gd_nat hk, gd_nat hpt, impl_agrees_ok (s := c.1) (t := c.2.2[k]) (by omega) htl, supports_L7 h hd ht, Option.bind_some, w64_succ (show k < 4611686018427387904 by omega), ← g0_of hpt]
  by_cases e : (c.2.2[k])[p] = x
  ·cases agB c.1 c.2.2[k] with
   | false => simp [hk, hpt, e]
   | true => cases inD d c.1 c.2.2[k] <;> simp [hk, hpt, e]
  ·simp [hk, hpt, e]
 ·intro n; simp [impl_domains_supports_L2]
end
end T
open Go Go.Va
namespace T
abbrev ASt := Dom × List (Int × Int × Int)
def remX (c : Con) (i p : Nat) (st : ASt) (x : Nat) : ASt := (set2 st.1 (g0 c.1 p).toNat x, st.2 ++ [((i : Int), ((p : Int), (x : Int)))])
def stepX (c : Con) (i p : Nat) (st : ASt) (x : Nat) : ASt := if d2 st.1 (g0 c.1 p).toNat x && !supM st.1 c p x then remX c i p st x else st
def stepP (n : Nat) (c : Con) (i : Nat) (st : ASt) (p : Nat) : ASt := (List.range n).foldl (stepX c i p) st
def stepC (a : Net) (st : ASt) (i : Nat) : ASt := (List.range (a.2.2.getD i con0).1.length).foldl (stepP a.2.1.toNat (a.2.2.getD i con0) i) st
def passA (a : Net) (st : ASt) : ASt := (List.range a.2.2.length).foldl (stepC a) st
def arcG (a : Net) : Nat → ASt → ASt
 | 0, st => st
 | k + 1, st => if st.2.length < (passA a st).2.length then arcG a k (passA a st) else passA a st
structure AInv (a : Net) (K : Nat) (st : ASt) : Prop where
 ok : DomOk a st.1
 sum : st.2.length + mu st.1 = K
theorem fold_inv {α β : Type} {P : α → Prop} {f : α → β → α} : ∀ (l : List β), (∀ s, ∀ x ∈ l, P s → P (f s x)) → ∀ s, P s → P (l.foldl f s)
 | [], _, _, h => h
 | x :: l, hf, s, h => fold_inv l (fun s y hy => hf s y (List.mem_cons_of_mem _ hy)) _ (hf s x (by simp) h)
theorem stepX_inv {a : Net} {K : Nat} {c : Con} {i p x : Nat} {st : ASt} (h : AInv a K st) : AInv a K (stepX c i p st x) ∧ st.2.length ≤ (stepX c i p st x).2.length := by
 unfold stepX
 cases hb : d2 st.1 (g0 c.1 p).toNat x && !supM st.1 c p x with
 | false => exact ⟨by simpa using h, by simp⟩
 | true =>
  rw [Bool.and_eq_true] at hb
  have h1 := mu_set2 hb.1
  have h2 := d2_in hb.1
  simp only [if_true, remX]
  exact ⟨⟨set2_ok h.ok h2.1, by have := h.sum; simp; omega⟩, by simp⟩
theorem foldX_inv {a : Net} {K : Nat} {c : Con} {i p : Nat} (l : List Nat) {st : ASt} (h : AInv a K st) : AInv a K (l.foldl (stepX c i p) st) ∧ st.2.length ≤ (l.foldl (stepX c i p) st).2.length :=
 fold_inv (P := fun s => AInv a K s ∧ st.2.length ≤ s.2.length) l (fun s x _ hs => ⟨(stepX_inv hs.1).1, Nat.le_trans hs.2 (stepX_inv hs.1).2⟩) st ⟨h, Nat.le_refl _⟩
theorem foldP_inv {a : Net} {K : Nat} {c : Con} {i n : Nat} (l : List Nat) {st : ASt} (h : AInv a K st) : AInv a K (l.foldl (stepP n c i) st) ∧ st.2.length ≤ (l.foldl (stepP n c i) st).2.length :=
 fold_inv (P := fun s => AInv a K s ∧ st.2.length ≤ s.2.length) l (fun s x _ hs => ⟨(foldX_inv _ hs.1).1, Nat.le_trans hs.2 (foldX_inv _ hs.1).2⟩) st ⟨h, Nat.le_refl _⟩
theorem foldC_inv {a : Net} {K : Nat} (l : List Nat) {st : ASt} (h : AInv a K st) : AInv a K (l.foldl (stepC a) st) ∧ st.2.length ≤ (l.foldl (stepC a) st).2.length :=
 fold_inv (P := fun s => AInv a K s ∧ st.2.length ≤ s.2.length) l (fun s x _ hs => ⟨(foldP_inv _ hs.1).1, Nat.le_trans hs.2 (foldP_inv _ hs.1).2⟩) st ⟨h, Nat.le_refl _⟩
theorem arcG_inv {a : Net} {K : Nat} : ∀ (k : Nat) {st : ASt}, AInv a K st → AInv a K (arcG a k st)
 | 0, _, h => h
 | k + 1, st, h => by
  simp only [arcG]
  split
  ·exact arcG_inv k (foldC_inv _ h).1
  ·exact (foldC_inv _ h).1
theorem fold_vals {c : Con} {i p : Nat} {st : ASt} {n : Nat} (hn : (st.1.getD (g0 c.1 p).toNat []).length = n) :
    (mk (st.1.getD (g0 c.1 p).toNat [])).foldl (fun s x => if !supM s.1 c p x then remX c i p s x.toNat else s) st = (List.range n).foldl (stepX c i p) st := by
  have key : ∀ (r0 : List Bool) (l : List Nat) (s : ASt), l.Nodup → (∀ y ∈ l, d2 s.1 (g0 c.1 p).toNat y = r0.getD y false) →
      l.foldl (fun s y => if r0.getD y false = true then (if !supM s.1 c p (y : Int) then remX c i p s ((y : Int).toNat) else s) else s) s = l.foldl (stepX c i p) s := by
    intro r0 l
    induction l with
    | nil => intro s _ _; rfl
    | cons y l ih =>
      intro s hnd hr
      rw [List.foldl_cons, List.foldl_cons]
      rw [List.nodup_cons] at hnd
      have e : (if r0.getD y false = true then (if !supM s.1 c p (y : Int) then remX c i p s ((y : Int).toNat) else s) else s) = stepX c i p s y := by
        unfold stepX
        rw [hr y (by simp)]
        cases r0.getD y false <;> cases supM s.1 c p (y : Int) <;> simp
      rw [e]
      refine ih _ hnd.2 fun z hz => ?_
      rw [← hr z (List.mem_cons_of_mem _ hz)]
      have hzy : z ≠ y := fun e => hnd.1 (e ▸ hz)
      unfold stepX
      split
      · exact d2_set2 hzy
      · rfl
  rw [← hn]
  have h := key (st.1.getD (g0 c.1 p).toNat []) (List.range (st.1.getD (g0 c.1 p).toNat []).length) st List.nodup_range (fun y _ => rfl)
  rw [← h]
  unfold mk
  rw [List.foldl_map, List.foldl_filter]
section
variable {a : Net} {K : Nat} {c : Con}
theorem arc_L15 (hN : NetOk a) (h : ConOk a.1 a.2.1 c) (i : Nat) {p : Nat} (hp : p < c.1.length) (hK : K ≤ 1000) {st : ASt} (hi : AInv a K st) (t8 : Int) :
    spec_l20Arc_L15 fuel ((a.1, (a.2.1, a.2.2)), st.2, st.1.map mk, t8, (i : Int), (c.1, (c.2.1, c.2.2)), (p : Int), mk (st.1.getD (g0 c.1 p).toNat []), 0) =
      some ((a.1, (a.2.1, a.2.2)), (stepP a.2.1.toNat c i st p).2, (stepP a.2.1.toNat c i st p).1.map mk, t8, (i : Int), (c.1, (c.2.1, c.2.2)), (p : Int)) := by
  have hn := hN.hn
  obtain ⟨m, hm, hmg, hml, hrow⟩ := dom_at h hi.ok hp
  have hrl : (st.1.getD m []).length = a.2.1.toNat := by rw [getD_of hml]; omega
  have hvl : (mk (st.1.getD m [])).length ≤ 4 := Nat.le_trans mk_len (by omega)
  have hfv := fold_vals (c := c) (i := i) (p := p) (st := st) (n := a.2.1.toNat) (by rw [hmg]; exact hrl)
  unfold stepP
  rw [← hfv, hmg, Int.toNat_natCast]
  generalize hvals : mk (st.1.getD m []) = vals at hvl ⊢
  have hnn : ∀ y ∈ vals, 0 ≤ y ∧ y.toNat < a.2.1.toNat := fun y hy => by
    rw [← hvals, mem_mk] at hy
    refine ⟨hy.1, ?_⟩
    rcases Nat.lt_or_ge y.toNat (st.1.getD m []).length with h1 | h1
    · omega
    · have := hy.2; rw [List.getD_eq_getElem?_getD, List.getElem?_eq_none h1] at this; cases this
  have hst : ∀ k, k ≤ vals.length → (DomOk a ((vals.take k).foldl (fun s x => if !supM s.1 c p x then remX c i p s x.toNat else s) st).1) ∧ ((vals.take k).foldl (fun s x => if !supM s.1 c p x then remX c i p s x.toNat else s) st).2.length ≤ st.2.length + k := by
    intro k
    induction k with
    | zero => intro _; exact ⟨by simpa using hi.ok, by simp⟩
    | succ k ih =>
      intro hk
      obtain ⟨h1, h2⟩ := ih (by omega)
      rw [List.take_succ_eq_append_getElem hk, List.foldl_append, List.foldl_cons, List.foldl_nil]
      split
      · refine ⟨set2_ok h1 ?_, ?_⟩
        · have := h1.len; have := hi.ok.len; rw [hmg, Int.toNat_natCast]; omega
        · unfold remX at h2 ⊢
          rw [List.length_append, List.length_singleton]; omega
      · exact ⟨h1, Nat.le_succ_of_le h2⟩
  have := forS vals.length (fun n (s : ASt) k => spec_l20Arc_L15 n ((a.1, (a.2.1, a.2.2)), s.2, s.1.map mk, t8, (i : Int), (c.1, (c.2.1, c.2.2)), (p : Int), vals, k)) (fun k => (vals.take k).foldl (fun s x => if !supM s.1 c p x then remX c i p s x.toNat else s) st)
    (r := some ((a.1, (a.2.1, a.2.2)), (vals.foldl (fun s x => if !supM s.1 c p x then remX c i p s x.toNat else s) st).2, (vals.foldl (fun s x => if !supM s.1 c p x then remX c i p s x.toNat else s) st).1.map mk, t8, (i : Int), (c.1, (c.2.1, c.2.2)), (p : Int))) (fun n k hk => ?_) (fun n => ?_) (n := fuel) (by unfold fuel; omega)
  · exact this
  · obtain ⟨hok, hlen⟩ := hst k (by omega)
    have hsum := hi.sum
    rw [List.take_succ_eq_append_getElem hk, List.foldl_append, List.foldl_cons, List.foldl_nil]
    generalize (vals.take k).foldl (fun s x => if !supM s.1 c p x then remX c i p s x.toNat else s) st = s at hok hlen ⊢
    obtain ⟨sd, str⟩ := s
    dsimp only at hok hlen ⊢
    have hmd : m < sd.length := by have := hok.len; have := hi.ok.len; omega
    have hmd' : m < (sd.map mk).length := by simpa using hmd
    have hrow2 := hok.row _ (List.getElem_mem hmd)
    have hx := hnn _ (List.getElem_mem hk)
    have ex : vals[k] = ((vals[k].toNat : Nat) : Int) := by omega
    have hw := spec_l20Without_ok (l := mk sd[m]) (x := vals[k]) (Nat.le_trans mk_len (by omega))
    have hmk : (mk sd[m]).filter (fun y => y != vals[k]) = mk ((sd.getD m []).set vals[k].toNat false) := by rw [mk_set, getD_of hmd, ← ex]
    have hl1 : str.length + 1 ≤ lim := by unfold lim; omega
    simp only [spec_l20Arc_L15, inb_nat, gd_nat hk, spec_l20Support_ok h hn.2 hok hp, Option.bind_some, gd_nat hp, hm, gd_nat hmd', List.getElem_map, hw, hmk, stt_nat, w64_succ (show k < 4611686018427387904 by omega)]
    cases supM sd c p vals[k] with
    | true => simp [hk]
    | false =>
      simp only [Bool.not_false, if_true, remX, hmg, Int.toNat_natCast, set2_map, ← ex]
      simp [hk, hp, hmd, hl1]
  · rw [List.take_length]; simp [spec_l20Arc_L15]
theorem reduce_L12 (hN : NetOk a) (h : ConOk a.1 a.2.1 c) (i : Nat) {p : Nat} (hp : p < c.1.length) (hK : K ≤ 1000) {st : ASt} (hi : AInv a K st) (ch : Bool) (t15 : List Con) (t16 t17 : Int) (t23 : List Int) (t24 t25 : Int) :
    impl_domains_reduce_L12 fuel (st.1, (a.1, (a.2.1, a.2.2)), st.2, ch, (i : Int), (c.1, (c.2.1, c.2.2)), (p : Int), g0 c.1 p, t15, t16, t17, t23, t24, t25, ((gd st.1 (g0 c.1 p) []).length : Int), 0) =
      some ((stepP a.2.1.toNat c i st p).1, (a.1, (a.2.1, a.2.2)), (stepP a.2.1.toNat c i st p).2, ch || decide (st.2.length < (stepP a.2.1.toNat c i st p).2.length), (i : Int), (c.1, (c.2.1, c.2.2)), t15, t16, t17, t23, t24, t25) := by
  have hn := hN.hn
  obtain ⟨m, hm, hmg, hml, hrow⟩ := dom_at h hi.ok hp
  rw [hmg, gd_nat hml]
  have e0 : ((st.1[m]).length : Int) = ((a.2.1.toNat : Nat) : Int) := by omega
  rw [e0]
  unfold stepP
  generalize a.2.1.toNat = N at e0 ⊢
  have := forS N (fun n (s : ASt × Bool) k => impl_domains_reduce_L12 n (s.1.1, (a.1, (a.2.1, a.2.2)), s.1.2, s.2, (i : Int), (c.1, (c.2.1, c.2.2)), (p : Int), (m : Int), t15, t16, t17, t23, t24, t25, ((N : Nat) : Int), k))
    (fun k => ((List.range k).foldl (stepX c i p) st, ch || decide (st.2.length < ((List.range k).foldl (stepX c i p) st).2.length)))
    (r := some (((List.range N).foldl (stepX c i p) st).1, (a.1, (a.2.1, a.2.2)), ((List.range N).foldl (stepX c i p) st).2, ch || decide (st.2.length < ((List.range N).foldl (stepX c i p) st).2.length), (i : Int), (c.1, (c.2.1, c.2.2)), t15, t16, t17, t23, t24, t25)) (fun n k hk => ?_) (fun n => ?_) (n := fuel) (by unfold fuel; omega)
  · simpa using this
  · obtain ⟨hin, hle⟩ := foldX_inv (c := c) (i := i) (p := p) (List.range k) hi
    rw [List.range_succ, List.foldl_append, List.foldl_cons, List.foldl_nil]
    generalize (List.range k).foldl (stepX c i p) st = s at hin hle ⊢
    obtain ⟨sd, str⟩ := s
    have hok := hin.ok
    have hsum := hin.sum
    dsimp only at hok hsum hle ⊢
    have hmd : m < sd.length := by have := hok.len; have := hi.ok.len; omega
    have hrow2 := hok.row _ (List.getElem_mem hmd)
    have hk2 : k < sd[m].length := by omega
    have hl1 : str.length + 1 ≤ lim := by unfold lim; omega
    have ed : d2 sd m k = sd[m][k] := by unfold d2; rw [getD_of hmd, getD_of hk2]
    simp only [impl_domains_reduce_L12, inb_nat, gd_nat hmd, gd_nat hk2, impl_supports_ok h hok hp, Option.bind_some, stt_nat, w64_succ (show k < 4611686018427387904 by omega), stepX, hmg, Int.toNat_natCast, ed]
    cases sd[m][k] with
    | false => simp [hk, hmd, hk2]
    | true =>
      cases supM sd c p (k : Int) with
      | true => simp [hk, hmd, hk2]
      | false =>
        have e2 : st.2.length < str.length + 1 := by omega
        simp [hk, hmd, hk2, hl1, remX, hmg, set2, getD_of hmd, e2, List.getD_eq_getElem?_getD]
  · simp [impl_domains_reduce_L12]
end
end T
open Go Go.Va
namespace T
section
variable {a : Net} {K : Nat}
theorem con_at (hN : NetOk a) {i : Nat} (hi : i < a.2.2.length) : ConOk a.1 a.2.1 (a.2.2.getD i con0) := by
 rw [getD_of hi]; exact hN.con _ (List.getElem_mem hi)
theorem arc_L11 (hN : NetOk a) {c : Con} (h : ConOk a.1 a.2.1 c) (i : Nat) (hK : K ≤ 1000) {st : ASt} (hi : AInv a K st) (t8 : Int) :
    spec_l20Arc_L11 fuel ((a.1, (a.2.1, a.2.2)), st.2, st.1.map mk, t8, (i : Int), (c.1, (c.2.1, c.2.2)), 0) =
      some ((a.1, (a.2.1, a.2.2)), ((List.range c.1.length).foldl (stepP a.2.1.toNat c i) st).2, ((List.range c.1.length).foldl (stepP a.2.1.toNat c i) st).1.map mk, t8, (i : Int)) := by
  have har := h.ar
  have hsl := h.sl
  have := forS c.1.length (fun n (s : ASt) k => spec_l20Arc_L11 n ((a.1, (a.2.1, a.2.2)), s.2, s.1.map mk, t8, (i : Int), (c.1, (c.2.1, c.2.2)), k)) (fun k => (List.range k).foldl (stepP a.2.1.toNat c i) st)
    (r := some ((a.1, (a.2.1, a.2.2)), ((List.range c.1.length).foldl (stepP a.2.1.toNat c i) st).2, ((List.range c.1.length).foldl (stepP a.2.1.toNat c i) st).1.map mk, t8, (i : Int))) (fun n k hk => ?_) (fun n => ?_) (n := fuel) (by unfold fuel; omega)
  · exact this
  · have hin := (foldP_inv (c := c) (i := i) (n := a.2.1.toNat) (List.range k) hi).1
    rw [List.range_succ, List.foldl_append, List.foldl_cons, List.foldl_nil]
    generalize (List.range k).foldl (stepP a.2.1.toNat c i) st = s at hin ⊢
    obtain ⟨m, hm, hmg, hml, hrow⟩ := dom_at h hin.ok hk
    have hml' : m < (s.1.map mk).length := by simpa using hml
    have key := arc_L15 hN h i hk hK hin t8
    rw [hmg, Int.toNat_natCast, getD_of hml] at key
    simp only [spec_l20Arc_L11, inb_nat, gd_nat hk, hm, gd_nat hml', List.getElem_map, key, Option.bind_some, w64_succ (show k < 4611686018427387904 by omega)]
    simp [hk, hml]
  · simp [spec_l20Arc_L11]
theorem arc_L7 (hN : NetOk a) (hK : K ≤ 1000) {st : ASt} (hi : AInv a K st) (t8 : Int) :
    spec_l20Arc_L7 fuel ((a.1, (a.2.1, a.2.2)), st.2, st.1.map mk, t8, 0) = some ((a.1, (a.2.1, a.2.2)), (passA a st).2, (passA a st).1.map mk, t8) := by
  have hc := hN.hc
  have := forS a.2.2.length (fun n (s : ASt) k => spec_l20Arc_L7 n ((a.1, (a.2.1, a.2.2)), s.2, s.1.map mk, t8, k)) (fun k => (List.range k).foldl (stepC a) st)
    (r := some ((a.1, (a.2.1, a.2.2)), (passA a st).2, (passA a st).1.map mk, t8)) (fun n k hk => ?_) (fun n => ?_) (n := fuel) (by unfold fuel; omega)
  · exact this
  · have hin := (foldC_inv (List.range k) hi).1
    rw [List.range_succ, List.foldl_append, List.foldl_cons, List.foldl_nil]
    generalize (List.range k).foldl (stepC a) st = s at hin ⊢
    have key := arc_L11 hN (con_at hN hk) k hK hin t8
    rw [getD_of hk] at key
    simp only [spec_l20Arc_L7, inb_nat, gd_nat hk, key, Option.bind_some, w64_succ (show k < 4611686018427387904 by omega), stepC, getD_of hk]
    simp [hk]
  · simp [spec_l20Arc_L7, passA]
theorem arc_L4 (hN : NetOk a) (hK : K ≤ 1000) : ∀ (k : Nat) (st : ASt), AInv a K st → mu st.1 < k → ∀ (n : Nat), k ≤ n → ∀ t8 : Int, t8 < st.2.length →
    spec_l20Arc_L4 n ((a.1, (a.2.1, a.2.2)), st.2, st.1.map mk, t8) = some (.inr ((arcG a k st).1.map mk, (arcG a k st).2)) := by
  intro k
  induction k with
  | zero => intro st _ h; omega
  | succ k ih =>
    intro st hi hmu n hn t8 ht
    obtain ⟨n, rfl⟩ : ∃ m, n = m + 1 := ⟨n - 1, by omega⟩
    obtain ⟨hin, hle⟩ := foldC_inv (List.range a.2.2.length) hi
    rw [show (List.range a.2.2.length).foldl (stepC a) st = passA a st from rfl] at hin hle
    simp only [spec_l20Arc_L4, arc_L7 hN hK hi, Option.bind_some]
    rw [if_pos (by simpa using ht)]
    simp only [arcG]
    by_cases h : st.2.length < (passA a st).2.length
    · rw [if_pos h, if_neg (by simp; omega)]
      exact ih (passA a st) hin (by have := hi.sum; have := hin.sum; omega) n (by omega) _ (by simpa using h)
    · rw [if_neg h, if_pos (by simp; omega)]
theorem reduce_L9 (hN : NetOk a) {c : Con} (h : ConOk a.1 a.2.1 c) (i : Nat) (hK : K ≤ 1000) {st : ASt} (hi : AInv a K st) (ch : Bool) (t15 : List Con) (t16 t17 : Int) :
    impl_domains_reduce_L9 fuel (st.1, (a.1, (a.2.1, a.2.2)), st.2, ch, (i : Int), (c.1, (c.2.1, c.2.2)), t15, t16, t17, c.1, (c.1.length : Int), 0) =
      some (((List.range c.1.length).foldl (stepP a.2.1.toNat c i) st).1, (a.1, (a.2.1, a.2.2)), ((List.range c.1.length).foldl (stepP a.2.1.toNat c i) st).2, ch || decide (st.2.length < ((List.range c.1.length).foldl (stepP a.2.1.toNat c i) st).2.length), t15, t16, t17) := by
  have har := h.ar
  have hsl := h.sl
  have := forS c.1.length (fun n (s : ASt × Bool) k => impl_domains_reduce_L9 n (s.1.1, (a.1, (a.2.1, a.2.2)), s.1.2, s.2, (i : Int), (c.1, (c.2.1, c.2.2)), t15, t16, t17, c.1, (c.1.length : Int), k)) (fun k => ((List.range k).foldl (stepP a.2.1.toNat c i) st, ch || decide (st.2.length < ((List.range k).foldl (stepP a.2.1.toNat c i) st).2.length)))
    (r := some (((List.range c.1.length).foldl (stepP a.2.1.toNat c i) st).1, (a.1, (a.2.1, a.2.2)), ((List.range c.1.length).foldl (stepP a.2.1.toNat c i) st).2, ch || decide (st.2.length < ((List.range c.1.length).foldl (stepP a.2.1.toNat c i) st).2.length), t15, t16, t17)) (fun n k hk => ?_) (fun n => ?_) (n := fuel) (by unfold fuel; omega)
  · simpa using this
  · obtain ⟨hin, hle⟩ := foldP_inv (c := c) (i := i) (n := a.2.1.toNat) (List.range k) hi
    rw [List.range_succ, List.foldl_append, List.foldl_cons, List.foldl_nil]
    generalize (List.range k).foldl (stepP a.2.1.toNat c i) st = s at hin hle ⊢
    obtain ⟨m, hm, hmg, hml, hrow⟩ := dom_at h hin.ok hk
    have hle2 : s.2.length ≤ (stepP a.2.1.toNat c i s k).2.length := (foldX_inv _ hin).2
    have key := fun ch => reduce_L12 hN h i hk hK hin ch t15 t16 t17 c.1 (c.1.length : Int) (k : Int)
    rw [hmg] at key
    simp only [impl_domains_reduce_L9, inb_nat, gd_nat hk, hm, key, Option.bind_some, w64_succ (show k < 4611686018427387904 by omega)]
    have e : (ch || decide (st.2.length < s.2.length) || decide (s.2.length < (stepP a.2.1.toNat c i s k).2.length)) = (ch || decide (st.2.length < (stepP a.2.1.toNat c i s k).2.length)) := by
      rw [Bool.or_assoc]; congr 1
      rw [Bool.eq_iff_iff]; simp; omega
    rw [e]
    simp [hk, hml]
  · simp [impl_domains_reduce_L9]
theorem reduce_L6 (hN : NetOk a) (hK : K ≤ 1000) {st : ASt} (hi : AInv a K st) :
    impl_domains_reduce_L6 fuel (st.1, (a.1, (a.2.1, a.2.2)), st.2, false, a.2.2, (a.2.2.length : Int), 0) = some ((passA a st).1, (a.1, (a.2.1, a.2.2)), (passA a st).2, decide (st.2.length < (passA a st).2.length)) := by
  have hc := hN.hc
  have := forS a.2.2.length (fun n (s : ASt × Bool) k => impl_domains_reduce_L6 n (s.1.1, (a.1, (a.2.1, a.2.2)), s.1.2, s.2, a.2.2, (a.2.2.length : Int), k)) (fun k => ((List.range k).foldl (stepC a) st, decide (st.2.length < ((List.range k).foldl (stepC a) st).2.length)))
    (r := some ((passA a st).1, (a.1, (a.2.1, a.2.2)), (passA a st).2, decide (st.2.length < (passA a st).2.length))) (fun n k hk => ?_) (fun n => ?_) (n := fuel) (by unfold fuel; omega)
  · simpa using this
  · obtain ⟨hin, hle⟩ := foldC_inv (List.range k) hi
    rw [List.range_succ, List.foldl_append, List.foldl_cons, List.foldl_nil]
    generalize (List.range k).foldl (stepC a) st = s at hin hle ⊢
    have hle2 : s.2.length ≤ (stepC a s k).2.length := (foldP_inv _ hin).2
    have key := reduce_L9 hN (con_at hN hk) k hK hin (decide (st.2.length < s.2.length)) a.2.2 (a.2.2.length : Int) (k : Int)
    rw [show (List.range (a.2.2.getD k con0).1.length).foldl (stepP a.2.1.toNat (a.2.2.getD k con0) k) s = stepC a s k from rfl] at key
    have e : (decide (st.2.length < s.2.length) || decide (s.2.length < (stepC a s k).2.length)) = decide (st.2.length < (stepC a s k).2.length) := by
      rw [Bool.eq_iff_iff]; simp; omega
    rw [e, getD_of hk] at key
    simp only [impl_domains_reduce_L6, inb_nat, gd_nat hk, key, Option.bind_some, w64_succ (show k < 4611686018427387904 by omega)]
    simp [hk]
  · simp only [impl_domains_reduce_L6]; rw [if_neg (by simp)]; rfl
theorem reduce_L3 (hN : NetOk a) (hK : K ≤ 1000) : ∀ (k : Nat) (st : ASt), AInv a K st → mu st.1 < k → ∀ (n : Nat), k + 1 ≤ n →
    impl_domains_reduce_L3 n (st.1, (a.1, (a.2.1, a.2.2)), st.2, true) = some (arcG a k st) := by
  intro k
  induction k with
  | zero => intro st _ h; omega
  | succ k ih =>
    intro st hi hmu n hn
    obtain ⟨n, rfl⟩ : ∃ m, n = m + 1 := ⟨n - 1, by omega⟩
    obtain ⟨hin, hle⟩ := foldC_inv (List.range a.2.2.length) hi
    rw [show (List.range a.2.2.length).foldl (stepC a) st = passA a st from rfl] at hin hle
    simp only [impl_domains_reduce_L3, if_true, reduce_L6 hN hK hi, Option.bind_some]
    simp only [arcG]
    by_cases h : st.2.length < (passA a st).2.length
    · rw [if_pos h, decide_eq_true h]
      exact ih (passA a st) hin (by have := hi.sum; have := hin.sum; omega) n (by omega)
    · rw [if_neg h, decide_eq_false h]
      obtain ⟨n, rfl⟩ : ∃ m, n = m + 1 := ⟨n - 1, by omega⟩
      simp [impl_domains_reduce_L3]
theorem mu_le {d : Dom} (hN : NetOk a) (h : DomOk a d) : mu d ≤ 36 := by
 have key : ∀ (l : Dom), (∀ r ∈ l, (r.length : Int) = a.2.1) → mu l ≤ l.length * 4 := by
  intro l
  induction l with
  | nil => intro _; simp [mu]
  | cons r l ih =>
   intro hr
   have h1 := ih fun r' h' => hr r' (List.mem_cons_of_mem _ h')
   have h2 := hr r (by simp)
   have h3 : r.countP id ≤ r.length := List.countP_le_length
   have h4 := hN.hn
   unfold mu at h1 ⊢
   rw [List.map_cons, List.sum_cons, List.length_cons]; omega
 have h1 := key d h.row
 have h2 := h.len
 have h3 := hN.hv
 omega
def arcR (a : Net) (d : Dom) : ASt := arcG a 40 (d, [])
theorem arcR_ok (hN : NetOk a) {d : Dom} (h : DomOk a d) : DomOk a (arcR a d).1 ∧ (arcR a d).2.length ≤ 36 := by
 have hi : AInv a (mu d) (d, []) := ⟨h, by simp⟩
 have h1 := arcG_inv 40 hi
 exact ⟨h1.ok, by have := h1.sum; have := mu_le hN h; unfold arcR; omega⟩
theorem spec_l20Arc_ok (hN : NetOk a) {d : Dom} (h : DomOk a d) : spec_l20Arc a (d.map mk) = some ((arcR a d).1.map mk, (arcR a d).2) := by
 have hi : AInv a (mu d) (d, []) := ⟨h, by simp⟩
 have hl := h.len
 have hv := hN.hv
 unfold spec_l20Arc
 rw [if_pos (by unfold lim; simp; omega)]
 have := arc_L4 hN (by have := mu_le hN h; omega) 40 (d, []) hi (by have := mu_le hN h; show mu d < 40; omega) fuel (by unfold fuel; omega) (-1) (by simp)
 simp only [List.nil_append]
 dsimp only at this
 rw [this]; rfl
theorem impl_reduce_ok (hN : NetOk a) {d : Dom} (h : DomOk a d) : impl_domains_reduce d a = some (arcR a d) := by
 have hi : AInv a (mu d) (d, []) := ⟨h, by simp⟩
 unfold impl_domains_reduce
 have := reduce_L3 hN (by have := mu_le hN h; omega) 40 (d, []) hi (by have := mu_le hN h; show mu d < 40; omega) fuel (by unfold fuel; omega)
 dsimp only at this
 rw [this]; rfl
theorem impl_marked_ok {r : List Bool} (h : r.length ≤ 1048576) : impl_marked r = some (mk r) := by
 unfold impl_marked
 have e : ∀ k, k < r.length → mk (r.take (k + 1)) = mk (r.take k) ++ if r.getD k false then [(k : Int)] else [] := fun k hk => by
  unfold mk
  have h1 : (r.take (k + 1)).length = k + 1 := by simp; omega
  have h2 : (r.take k).length = k := by simp; omega
  rw [h1, h2, List.range_succ, List.filter_append, List.map_append]
  have h3 : (List.range k).filter (fun i => (r.take (k + 1)).getD i false) = (List.range k).filter (fun i => (r.take k).getD i false) := by
   apply List.filter_congr
   intro i hi
   have := List.mem_range.1 hi
   simp [List.getD_eq_getElem?_getD, List.getElem?_take, this, show i < k + 1 by omega]
  rw [h3]
  have h4 : (r.take (k + 1)).getD k false = r.getD k false := by simp [List.getD_eq_getElem?_getD, List.getElem?_take]
  simp only [List.filter_cons, List.filter_nil, h4]
  cases r.getD k false <;> simp
 have hlen : ∀ k, (mk (r.take k)).length ≤ k := fun k => Nat.le_trans mk_len (by simp; omega)
 have := forS r.length (fun n o i => impl_marked_L3 n (o, r, (r.length : Int), i)) (fun k => mk (r.take k)) (r := some (mk r)) (fun n k hk => ?_) (fun n => ?_) (n := fuel) (by unfold fuel; omega)
 ·have e0 : mk (r.take 0) = [] := by simp [mk]
  rw [e0] at this; rw [this]; rfl
 ·have hl1 : (mk (r.take k)).length + 1 ≤ lim := by have := hlen k; unfold lim; omega
  simp only [impl_marked_L3, inb_nat, gd_nat hk, w64_succ (show k < 4611686018427387904 by omega), e k hk, getD_of hk]
  cases r[k] <;> simp [hk, hl1]
 ·simp [impl_marked_L3]
def emptyD (d : Dom) : Bool := d.any fun r => decide ((mk r).length = 0)
theorem impl_hasEmpty_ok (hN : NetOk a) {d : Dom} (h : DomOk a d) : impl_domains_hasEmpty d = some (emptyD d) := by
 have hl := h.len
 have hv := hN.hv
 have hn := hN.hn
 unfold impl_domains_hasEmpty
 rw [allX d (fun n i => impl_domains_hasEmpty_L2 n (d, (d.length : Int), i)) (fun r => !decide ((mk r).length = 0)) (.inr true) (.inl ()) ?_ ?_ (n := fuel) (by unfold fuel; omega)]
 ·have : (d.all fun r => !decide ((mk r).length = 0)) = !emptyD d := by unfold emptyD; rw [← List.not_any_eq_all_not]
  rw [this]
  cases emptyD d <;> simp
 ·intro n k hk
  have hr := h.row _ (List.getElem_mem hk)
  simp only [impl_domains_hasEmpty_L2, inb_nat, gd_nat hk, w64_succ (show k < 4611686018427387904 by omega), impl_marked_ok (show d[k].length ≤ 1048576 by omega), Option.bind_some]
  by_cases e : (mk d[k]).length = 0
  ·simp [hk, List.length_eq_zero_iff.1 e]
  ·have : mk d[k] ≠ [] := fun h => e (by rw [h]; rfl)
   simp [hk, this]
 ·intro n; simp [impl_domains_hasEmpty_L2]
theorem spec_l20Empty_ok (hN : NetOk a) {d : Dom} (h : DomOk a d) : spec_l20Empty (d.map mk) = some (emptyD d) := by
 have hl := h.len
 have hv := hN.hv
 have hn := hN.hn
 unfold spec_l20Empty
 rw [allX (d.map mk) (fun n i => spec_l20Empty_L2 n (d.map mk, i)) (fun r => !decide (r.length = 0)) (.inr true) (.inl ()) ?_ ?_ (n := fuel) (by unfold fuel; simp; omega)]
 ·have : ((d.map mk).all fun r => !decide (r.length = 0)) = !emptyD d := by unfold emptyD; rw [List.all_map, List.not_any_eq_all_not]; rfl
  rw [this]
  cases emptyD d <;> simp
 ·intro n k hk
  have hk' : k < d.length := by simpa using hk
  simp only [spec_l20Empty_L2, inb_nat, gd_nat hk, w64_succ (show k < 4611686018427387904 by omega)]
  by_cases e : (mk d[k]).length = 0
  ·simp [hk', List.length_eq_zero_iff.1 e]
  ·have : mk d[k] ≠ [] := fun h => e (by rw [h]; rfl)
   simp [hk', this]
 ·intro n; simp [spec_l20Empty_L2]
end
end T
set_option linter.unusedVariables false
open Go Go.Va
namespace T
def impl_domains_fix_L1 : Nat → ((List (List Bool)) × Int × Int × Int × Int) → Option ((List (List Bool)))
 | 0, _ => none
 | n + 1, (d, v, value, t11, t12) =>
  if decide (t12 < t11) then
   if inb v d then
    if inb t12 (gd d v []) then
     impl_domains_fix_L1 n (stt d v (stt (gd d v []) t12 (t12 == value)), v, value, t11, w64 (t12 + 1))
    else none
   else none
  else
   some d
def impl_domains_fix (d : List (List Bool)) (v : Int) (value : Int) : Option ((List (List Bool))) :=
 if inb v d then
  (impl_domains_fix_L1 fuel (d, v, value, ((gd d v []).length : Int), 0)).bind fun s1 =>
   some s1
 else none
def spec_l20Single_L10 : Nat → ((Int × Int × (List ((List Int) × Int × (List (List Int))))) × (List (List Int)) × Bool × Int × (List Int) × Int) → Option ((Int × Int × (List ((List Int) × Int × (List (List Int))))) × (List (List Int)) × Bool × Int)
 | 0, _ => none
 | n + 1, (net, now, again, v, values, k) =>
  if decide (k < (values.length : Int)) then
   if ([] : List (List Int)).length + now.length ≤ lim then
    if inb k values then
     if inb v ([] ++ now) then
      (spec_l20Arc (net.1, (net.2.1, net.2.2)) (stt ([] ++ now) v [gd values k 0])).bind fun r2 =>
       (spec_l20Empty r2.1).bind fun r3 =>
        if r3 then
         if inb v now then
          if inb k values then
           (spec_l20Without (gd now v []) (gd values k 0)).bind fun r4 =>
            if inb v now then
             spec_l20Single_L10 n ((net.1, (net.2.1, net.2.2)), stt now v r4, true, v, values, w64 (k + 1))
            else none
          else none
         else none
        else
         spec_l20Single_L10 n ((net.1, (net.2.1, net.2.2)), now, again, v, values, w64 (k + 1))
     else none
    else none
   else none
  else
   some ((net.1, (net.2.1, net.2.2)), now, again, v)
def spec_l20Single_L6 : Nat → ((Int × Int × (List ((List Int) × Int × (List (List Int))))) × (List (List Int)) × Bool × Int) → Option ((Int × Int × (List ((List Int) × Int × (List (List Int))))) × (List (List Int)) × Bool)
 | 0, _ => none
 | n + 1, (net, now, again, v) =>
  if decide (v < net.1) then
   if inb v now then
    (spec_l20Single_L10 fuel ((net.1, (net.2.1, net.2.2)), now, again, v, gd now v [], 0)).bind fun s2 =>
     spec_l20Single_L6 n ((s2.1.1, (s2.1.2.1, s2.1.2.2)), s2.2.1, s2.2.2.1, w64 (s2.2.2.2 + 1))
   else none
  else
   some ((net.1, (net.2.1, net.2.2)), now, again)
def spec_l20Single_L3 : Nat → ((Int × Int × (List ((List Int) × Int × (List (List Int))))) × (List (List Int)) × Bool) → Option ((List (List Int)))
 | 0, _ => none
 | n + 1, (net, now, again) =>
  if again then
   (spec_l20Single_L6 fuel ((net.1, (net.2.1, net.2.2)), now, false, 0)).bind fun s2 =>
    spec_l20Single_L3 n ((s2.1.1, (s2.1.2.1, s2.1.2.2)), s2.2.1, s2.2.2)
  else
   some now
def spec_l20Single (net : Int × Int × (List ((List Int) × Int × (List (List Int))))) : Option ((List (List Int))) :=
 (spec_l20Full (net.1, (net.2.1, net.2.2))).bind fun r1 =>
  (spec_l20Single_L3 fuel ((net.1, (net.2.1, net.2.2)), r1, true)).bind fun s2 =>
   some s2
def impl_domains_copyOf_L3 : Nat → ((List (List Bool)) × (List (List Bool)) × Int × Int) → Option ((List (List Bool)))
 | 0, _ => none
 | n + 1, (d, e, t9, t10) =>
  if decide (t10 < t9) then
   if inb t10 d then
    if ([] : List Bool).length + (gd d t10 []).length ≤ lim then
     if inb t10 e then
      impl_domains_copyOf_L3 n (d, stt e t10 ([] ++ (gd d t10 [])), t9, w64 (t10 + 1))
     else none
    else none
   else none
  else
   some e
def impl_domains_copyOf (d : List (List Bool)) : Option ((List (List Bool))) :=
 if 0 ≤ (d.length : Int) ∧ (d.length : Int) ≤ (d.length : Int) ∧ (d.length : Int) ≤ lim then
  (impl_domains_copyOf_L3 fuel (d, List.replicate (Int.toNat (d.length : Int)) ([] : List Bool), (d.length : Int), 0)).bind fun s1 =>
   some s1
 else none
def impl_singleDomains_L9 : Nat → ((Int × Int × (List ((List Int) × Int × (List (List Int))))) × (List (List Bool)) × Bool × Int × Int × Int × Int × Int) → Option ((Int × Int × (List ((List Int) × Int × (List (List Int))))) × (List (List Bool)) × Bool × Int × Int)
 | 0, _ => none
 | n + 1, (net, d, changed, v, t12, t13, t20, t21) =>
  if decide (t21 < t20) then
   if inb v d then
    if inb t21 (gd d v []) then
     if !(gd (gd d v []) t21 false) then
      impl_singleDomains_L9 n ((net.1, (net.2.1, net.2.2)), d, changed, v, t12, t13, t20, w64 (t21 + 1))
     else
      (impl_domains_copyOf d).bind fun r2 =>
       (impl_domains_fix r2 v t21).bind fun r3 =>
        (impl_domains_reduce r3 (net.1, (net.2.1, net.2.2))).bind fun r4 =>
         (impl_domains_hasEmpty r4.1).bind fun r5 =>
          if r5 then
           if inb v d then
            if inb t21 (gd d v []) then
             impl_singleDomains_L9 n ((net.1, (net.2.1, net.2.2)), stt d v (stt (gd d v []) t21 false), true, v, t12, t13, t20, w64 (t21 + 1))
            else none
           else none
          else
           impl_singleDomains_L9 n ((net.1, (net.2.1, net.2.2)), d, changed, v, t12, t13, t20, w64 (t21 + 1))
    else none
   else none
  else
   some ((net.1, (net.2.1, net.2.2)), d, changed, t12, t13)
def impl_singleDomains_L6 : Nat → ((Int × Int × (List ((List Int) × Int × (List (List Int))))) × (List (List Bool)) × Bool × Int × Int) → Option ((Int × Int × (List ((List Int) × Int × (List (List Int))))) × (List (List Bool)) × Bool)
 | 0, _ => none
 | n + 1, (net, d, changed, t12, t13) =>
  if decide (t13 < t12) then
   if inb t13 d then
    (impl_singleDomains_L9 fuel ((net.1, (net.2.1, net.2.2)), d, changed, t13, t12, t13, ((gd d t13 []).length : Int), 0)).bind fun s2 =>
     impl_singleDomains_L6 n ((s2.1.1, (s2.1.2.1, s2.1.2.2)), s2.2.1, s2.2.2.1, s2.2.2.2.1, w64 (s2.2.2.2.2 + 1))
   else none
  else
   some ((net.1, (net.2.1, net.2.2)), d, changed)
def impl_singleDomains_L3 : Nat → ((Int × Int × (List ((List Int) × Int × (List (List Int))))) × (List (List Bool)) × Bool) → Option ((List (List Bool)))
 | 0, _ => none
 | n + 1, (net, d, changed) =>
  if changed then
   (impl_singleDomains_L6 fuel ((net.1, (net.2.1, net.2.2)), d, false, (d.length : Int), 0)).bind fun s2 =>
    impl_singleDomains_L3 n ((s2.1.1, (s2.1.2.1, s2.1.2.2)), s2.2.1, s2.2.2)
  else
   some d
def impl_singleDomains (net : Int × Int × (List ((List Int) × Int × (List (List Int))))) : Option ((List (List Bool))) :=
 (impl_wholeDomains (net.1, (net.2.1, net.2.2))).bind fun r1 =>
  (impl_singleDomains_L3 fuel ((net.1, (net.2.1, net.2.2)), r1, true)).bind fun s2 =>
   some s2
end T
