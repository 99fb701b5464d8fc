/- Plain lemmas on the typed functions of the program, and the plain law of FnExactBinaryPart; no conditions. -/
import Derived.Test.YtcdjlpcapanibabV1
import Derived.Test.YtcdjlpcapanibabV5
import Derived.KernelRfl
set_option linter.all false
namespace Go.Va
theorem w64_def (x : Int) : w64 x = (x + 9223372036854775808) % 18446744073709551616 - 9223372036854775808 := by
 simp [w64, IntKind.wrap, IntKind.bits, IntKind.signed]
 split <;> omega
theorem w64_id {x : Int} (h1 : -9223372036854775808 ≤ x) (h2 : x ≤ 9223372036854775807) : w64 x = x := by
 rw [w64_def]; omega
theorem w64_succ {k : Nat} (h : k < 4611686018427387904) : w64 ((k : Int) + 1) = ((k + 1 : Nat) : Int) := by
 rw [w64_id (by omega) (by omega)]; rfl
theorem inb_nat {α : Type} {k : Nat} {xs : List α} : inb (k : Int) xs ↔ k < xs.length := by
 unfold inb; omega
theorem gd_nat {α : Type} {k : Nat} {xs : List α} {d : α} (h : k < xs.length) : gd xs (k : Int) d = xs[k] := by
 unfold gd; simp [h]
theorem stt_nat {α : Type} {k : Nat} {xs : List α} {x : α} : stt xs (k : Int) x = xs.set k x := by
 unfold stt; simp
def runX {α σ β : Type} (step : σ → α → Option (σ ⊕ β)) (fin : σ → Option β) : List α → σ → Option β
 | [], s => fin s
 | a :: l, s => match step s a with | some (.inl s') => runX step fin l s' | some (.inr r) => some r | none => none
theorem loopX {α σ β : Type} (xs : List α) (L : Nat → σ → Int → Option β) (step : σ → α → Option (σ ⊕ β)) (fin : σ → Option β)
    (hs : ∀ n s (k : Nat) (hk : k < xs.length), L (n + 1) s k = match step s xs[k] with | some (.inl s') => L n s' ((k + 1 : Nat) : Int) | some (.inr r) => some r | none => none)
    (he : ∀ n s, L (n + 1) s (xs.length : Nat) = fin s) : ∀ (n k : Nat) (s : σ), k ≤ xs.length → xs.length - k < n → L n s k = runX step fin (xs.drop k) s := by
  intro n
  induction n with
  | zero => intro k s _ h; omega
  | succ n ih =>
    intro k s hk hn
    rcases Nat.lt_or_ge k xs.length with hlt | hge
    · rw [hs n s k hlt, List.drop_eq_getElem_cons hlt]
      simp only [runX]
      cases step s xs[k] with
      | none => rfl
      | some q =>
        cases q with
        | inl s' => exact ih (k + 1) s' hlt (by omega)
        | inr r => rfl
    · have : k = xs.length := by omega
      subst this
      rw [he, List.drop_length]; rfl
theorem loopX0 {α σ β : Type} (xs : List α) (L : Nat → σ → Int → Option β) (step : σ → α → Option (σ ⊕ β)) (fin : σ → Option β)
    (hs : ∀ n s (k : Nat) (hk : k < xs.length), L (n + 1) s k = match step s xs[k] with | some (.inl s') => L n s' ((k + 1 : Nat) : Int) | some (.inr r) => some r | none => none)
    (he : ∀ n s, L (n + 1) s (xs.length : Nat) = fin s) {n : Nat} (hn : xs.length < n) (s : σ) : L n s 0 = runX step fin xs s := by
  have := loopX xs L step fin hs he n 0 s (Nat.zero_le _) (by omega)
  simpa using this
theorem runX_all {α β : Type} {p : α → Bool} {step : Unit → α → Option (Unit ⊕ β)} {fin : Unit → Option β} {r : β} : ∀ {l : List α}, (∀ a ∈ l, step () a = if p a then some (.inl ()) else some (.inr r)) → runX step fin l () = if l.all p then fin () else some r
 | [], _ => rfl
 | a :: l, h => by
  simp only [runX]
  rw [h a (by simp)]
  cases hp : p a with
  | true => simp only [if_true, List.all_cons, hp, Bool.true_and]; exact runX_all fun b hb => h b (List.mem_cons_of_mem _ hb)
  | false => simp [List.all_cons, hp]
theorem fillX {α β γ : Type} (xs : List α) (L : Nat → List β → Int → Option γ) (g : α → β) (fin : List β → Option γ)
    (hs : ∀ n (out : List β) (k : Nat) (hk : k < xs.length), out.length = xs.length → L (n + 1) out k = L n (out.set k (g xs[k])) ((k + 1 : Nat) : Int))
    (he : ∀ n out, out.length = xs.length → L (n + 1) out (xs.length : Nat) = fin out) : ∀ (n k : Nat) (out : List β), out.length = xs.length → k ≤ xs.length → xs.length - k < n → L n out k = fin (out.take k ++ (xs.drop k).map g) := by
  intro n
  induction n with
  | zero => intro k out _ _ h; omega
  | succ n ih =>
    intro k out hl hk hn
    rcases Nat.lt_or_ge k xs.length with hlt | hge
    · have : (out.set k (g xs[k])).take (k + 1) = out.take k ++ [g xs[k]] := by
        rw [List.take_succ_eq_append_getElem (by simp; omega), List.take_set_of_le (Nat.le_refl _), List.getElem_set_self]
      rw [hs n out k hlt hl, ih (k + 1) _ (by simpa using hl) hlt (by omega), List.drop_eq_getElem_cons hlt, this, List.map_cons, List.append_assoc, List.singleton_append]
    · have : k = xs.length := by omega
      subst this
      rw [he _ _ hl, List.drop_length, List.take_of_length_le (by omega)]; simp
theorem fillX0 {α β γ : Type} (xs : List α) (L : Nat → List β → Int → Option γ) (g : α → β) (fin : List β → Option γ)
    (hs : ∀ n (out : List β) (k : Nat) (hk : k < xs.length), out.length = xs.length → L (n + 1) out k = L n (out.set k (g xs[k])) ((k + 1 : Nat) : Int))
    (he : ∀ n out, out.length = xs.length → L (n + 1) out (xs.length : Nat) = fin out) {n : Nat} {out : List β} (hl : out.length = xs.length) (hn : xs.length < n) : L n out 0 = fin (xs.map g) := by
  have := fillX xs L g fin hs he n 0 out hl (Nat.zero_le _) (by omega)
  simpa using this
theorem eqX {α : Type} [DecidableEq α] (a b : List α) (hl : a.length = b.length) (L : Nat → Int → Option (Unit ⊕ Bool))
    (hs : ∀ n (k : Nat) (h1 : k < a.length) (h2 : k < b.length), L (n + 1) k = if a[k] = b[k] then L n ((k + 1 : Nat) : Int) else some (.inr false)) (he : ∀ n, L (n + 1) (a.length : Nat) = some (.inl ())) {n : Nat} (hn : a.length < n) :
    L n 0 = some (if a = b then .inl () else .inr false) := by
  have key : ∀ (n k : Nat), k ≤ a.length → a.length - k < n → L n k = some (if a.drop k = b.drop k then .inl () else .inr false) := by
    intro n
    induction n with
    | zero => intro k _ h; omega
    | succ n ih =>
      intro k hk hn
      rcases Nat.lt_or_ge k a.length with hlt | hge
      · have h2 : k < b.length := by omega
        have e : (a.drop k = b.drop k) ↔ (a[k] = b[k] ∧ a.drop (k + 1) = b.drop (k + 1)) := by
          rw [List.drop_eq_getElem_cons hlt, List.drop_eq_getElem_cons h2]; exact List.cons_eq_cons
        rw [hs n k hlt h2]
        by_cases h : a[k] = b[k]
        · rw [if_pos h, ih (k + 1) hlt (by omega)]
          by_cases h3 : a.drop (k + 1) = b.drop (k + 1)
          · rw [if_pos h3, if_pos (e.2 ⟨h, h3⟩)]
          · rw [if_neg h3, if_neg fun h' => h3 (e.1 h').2]
        · rw [if_neg h, if_neg fun h' => h (e.1 h').1]
      · have : k = a.length := by omega
        subst this
        rw [he, List.drop_length, hl, List.drop_length]; rfl
  have := key n 0 (Nat.zero_le _) (by omega)
  simpa using this
theorem allX {α β : Type} (xs : List α) (L : Nat → Int → Option β) (p : α → Bool) (r e : β)
    (hs : ∀ n (k : Nat) (hk : k < xs.length), L (n + 1) k = if p xs[k] then L n ((k + 1 : Nat) : Int) else some r) (he : ∀ n, L (n + 1) (xs.length : Nat) = some e) {n : Nat} (hn : xs.length < n) :
    L n 0 = some (if xs.all p then e else r) := by
  have := loopX0 xs (fun n (_ : Unit) i => L n i) (fun _ a => if p a then some (.inl ()) else some (.inr r)) (fun _ => some e) (fun n s k hk => by rw [hs n k hk]; cases p xs[k] <;> simp) (fun n s => he n) hn ()
  rw [this, runX_all (p := p) (r := r) fun a _ => by cases p a <;> simp]
  cases xs.all p <;> simp
theorem forS {σ β : Type} (N : Nat) (L : Nat → σ → Int → Option β) (S : Nat → σ) {r : Option β}
    (hs : ∀ n (k : Nat), k < N → L (n + 1) (S k) k = L n (S (k + 1)) ((k + 1 : Nat) : Int)) (he : ∀ n, L (n + 1) (S N) (N : Nat) = r) {n : Nat} (hn : N < n) : L n (S 0) 0 = r := by
  have key : ∀ (n k : Nat), k ≤ N → N - k < n → L n (S k) k = r := by
    intro n
    induction n with
    | zero => intro k _ h; omega
    | succ n ih =>
      intro k hk hn
      rcases Nat.lt_or_ge k N with hlt | hge
      · rw [hs n k hlt]; exact ih (k + 1) hlt (by omega)
      · have : k = N := by omega
        subst this; exact he n
  exact key n 0 (Nat.zero_le _) (by omega)
theorem forA {σ β : Type} (N : Nat) (L : Nat → σ → Int → Option β) (S : Nat → σ) (p : Nat → Bool) {r e : Option β}
    (hs : ∀ n (k : Nat), k < N → L (n + 1) (S k) k = if p k then L n (S (k + 1)) ((k + 1 : Nat) : Int) else r) (he : ∀ n, L (n + 1) (S N) (N : Nat) = e) {n : Nat} (hn : N < n) :
    L n (S 0) 0 = if (List.range N).all p then e else r := by
  have key : ∀ (n k : Nat), k ≤ N → N - k < n → L n (S k) k = if (List.range' k (N - k)).all p then e else r := by
    intro n
    induction n with
    | zero => intro k _ h; omega
    | succ n ih =>
      intro k hk hn
      rcases Nat.lt_or_ge k N with hlt | hge
      · rw [hs n k hlt, show N - k = (N - (k + 1)) + 1 by omega, List.range'_succ, List.all_cons]
        cases hp : p k with
        | false => simp
        | true => simp only [if_true, Bool.true_and]; exact ih (k + 1) hlt (by omega)
      · have : k = N := by omega
        subst this; rw [he]; simp
  have := key n 0 (Nat.zero_le _) (by omega)
  rw [List.range_eq_range']
  simpa using this
theorem forB {σ β : Type} (N : Nat) (L : Nat → σ → Int → Option β) (S : Nat → σ) (p : Nat → Bool) {r e : Option β}
    (hs : ∀ n (k : Nat), k < N → (∀ j, j < k → p j = true) → L (n + 1) (S k) k = if p k then L n (S (k + 1)) ((k + 1 : Nat) : Int) else r) (he : ∀ n, (∀ j, j < N → p j = true) → L (n + 1) (S N) (N : Nat) = e) {n : Nat} (hn : N < n) :
    L n (S 0) 0 = if (List.range N).all p then e else r := by
  have key : ∀ (n k : Nat), k ≤ N → N - k < n → (∀ j, j < k → p j = true) → L n (S k) k = if (List.range' k (N - k)).all p then e else r := by
    intro n
    induction n with
    | zero => intro k _ h; omega
    | succ n ih =>
      intro k hk hn hb
      rcases Nat.lt_or_ge k N with hlt | hge
      · rw [hs n k hlt hb, show N - k = (N - (k + 1)) + 1 by omega, List.range'_succ, List.all_cons]
        cases hp : p k with
        | false => simp
        | true =>
          simp only [if_true, Bool.true_and]
          refine ih (k + 1) hlt (by omega) fun j hj => ?_
          rcases Nat.lt_or_ge j k with h | h
          · exact hb j h
          · have : j = k := by omega
            rw [this]; exact hp
      · have : k = N := by omega
        subst this; rw [he n hb]; simp
  have := key n 0 (Nat.zero_le _) (by omega) (fun j h => by omega)
  rw [List.range_eq_range']
  simpa using this
def szR (t : Nat) (left : Int) : Int := if (t : Int) ≤ left then left - t else -1
end Go.Va
set_option linter.unusedVariables false
open Go Go.Va
namespace T
def fuel : Nat := 1099511627776
def laws_szIntS (a : List Int) (left : Int) : Option (Int) :=
 if decide ((w64 (left - (a.length : Int))) < 0) then
  some (-1)
 else
  some (w64 (left - (a.length : Int)))
def laws_szIntSS_L5 : Nat → ((List (List Int)) × Int × Int) → Option ((Int) ⊕ (Int))
 | 0, _ => none
 | n + 1, (a, left, i) =>
  if decide (i < (a.length : Int)) then
   if inb i a then
    (laws_szIntS (gd a i []) left).bind fun r1 =>
     if decide (r1 < 0) then
      some (.inr (-1))
     else
      laws_szIntSS_L5 n (a, r1, w64 (i + 1))
   else none
  else
   some (.inl left)
def laws_szIntSS (a : List (List Int)) (left : Int) : Option (Int) :=
 if decide ((w64 (left - (a.length : Int))) < 0) then
  some (-1)
 else
  (laws_szIntSS_L5 fuel (a, w64 (left - (a.length : Int)), 0)).bind fun s1 =>
   match s1 with
   | .inl s2 =>
    some s2
   | .inr s3 =>
    some s3
def laws_toIntS_L3 : Nat → ((List Int) × (List Int) × Int) → Option ((List Int))
 | 0, _ => none
 | n + 1, (a, out, i) =>
  if decide (i < (a.length : Int)) then
   if inb i a then
    if inb i out then
     laws_toIntS_L3 n (a, stt out i (gd a i 0), w64 (i + 1))
    else none
   else none
  else
   some out
def laws_toIntS (a : List Int) : Option ((List Int)) :=
 if 0 ≤ (a.length : Int) ∧ (a.length : Int) ≤ (a.length : Int) ∧ (a.length : Int) ≤ lim then
  (laws_toIntS_L3 fuel (a, List.replicate (Int.toNat (a.length : Int)) (0 : Int), 0)).bind fun s1 =>
   some s1
 else none
def laws_toIntSS_L3 : Nat → ((List (List Int)) × (List (List Int)) × Int) → Option ((List (List Int)))
 | 0, _ => none
 | n + 1, (a, out, i) =>
  if decide (i < (a.length : Int)) then
   if inb i a then
    (laws_toIntS (gd a i [])).bind fun r1 =>
     if inb i out then
      laws_toIntSS_L3 n (a, stt out i r1, w64 (i + 1))
     else none
   else none
  else
   some out
def laws_toIntSS (a : List (List Int)) : Option ((List (List Int))) :=
 if 0 ≤ (a.length : Int) ∧ (a.length : Int) ≤ (a.length : Int) ∧ (a.length : Int) ≤ lim then
  (laws_toIntSS_L3 fuel (a, List.replicate (Int.toNat (a.length : Int)) ([] : List Int), 0)).bind fun s1 =>
   some s1
 else none
def spec_l1In (x : Int) (a : Int) (b : Int) : Option (Bool) :=
 if decide (x ≥ a) then
  some (decide (x ≤ b))
 else
  some false
def spec_l2Elements_L2 : Nat → (Int × (List Int) × Int) → Option ((Unit) ⊕ (Bool))
 | 0, _ => none
 | n + 1, (n_, list, i) =>
  if decide (i < (list.length : Int)) then
   if inb i list then
    (spec_l1In (gd list i 0) 0 (w64 (n_ - 1))).bind fun r1 =>
     if !r1 then
      some (.inr false)
     else
      spec_l2Elements_L2 n (n_, list, w64 (i + 1))
   else none
  else
   some (.inl ())
def spec_l2Elements (n_ : Int) (list : List Int) : Option (Bool) :=
 (spec_l2Elements_L2 fuel (n_, list, 0)).bind fun s1 =>
  match s1 with
  | .inl s2 =>
   some true
  | .inr s3 =>
   some s3
def spec_l8Tuple (n_ : Int) (k : Int) (t : List Int) : Option (Bool) :=
 if (t.length : Int) == k then
  (spec_l2Elements n_ t).bind fun r1 =>
   some r1
 else
  some false
def impl_inSize_L2 : Nat → (Int × (List Int) × Int × Int) → Option ((Unit) ⊕ (Bool))
 | 0, _ => none
 | n + 1, (n_, t7, t8, t9) =>
  if decide (t9 < t8) then
   if inb t9 t7 then
    if decide ((gd t7 t9 0) < 0) then
     some (.inr false)
    else
     if decide ((gd t7 t9 0) ≥ n_) then
      some (.inr false)
     else
      impl_inSize_L2 n (n_, t7, t8, w64 (t9 + 1))
   else none
  else
   some (.inl ())
def impl_inSize (list : List Int) (n_ : Int) : Option (Bool) :=
 (impl_inSize_L2 fuel (n_, list, (list.length : Int), 0)).bind fun s1 =>
  match s1 with
  | .inl s2 =>
   some true
  | .inr s3 =>
   some s3
def laws_eqIntS_L4 : Nat → ((List Int) × (List Int) × Int) → Option ((Unit) ⊕ (Bool))
 | 0, _ => none
 | n + 1, (a, b, i) =>
  if decide (i < (a.length : Int)) then
   if inb i a then
    if inb i b then
     if (gd a i 0) != (gd b i 0) then
      some (.inr false)
     else
      laws_eqIntS_L4 n (a, b, w64 (i + 1))
    else none
   else none
  else
   some (.inl ())
def laws_eqIntS (a : List Int) (b : List Int) : Option (Bool) :=
 if (a.length : Int) != (b.length : Int) then
  some false
 else
  (laws_eqIntS_L4 fuel (a, b, 0)).bind fun s1 =>
   match s1 with
   | .inl s2 =>
    some true
   | .inr s3 =>
    some s3
def laws_eqIntSS_L4 : Nat → ((List (List Int)) × (List (List Int)) × Int) → Option ((Unit) ⊕ (Bool))
 | 0, _ => none
 | n + 1, (a, b, i) =>
  if decide (i < (a.length : Int)) then
   if inb i a then
    if inb i b then
     (laws_eqIntS (gd a i []) (gd b i [])).bind fun r1 =>
      if !r1 then
       some (.inr false)
      else
       laws_eqIntSS_L4 n (a, b, w64 (i + 1))
    else none
   else none
  else
   some (.inl ())
def laws_eqIntSS (a : List (List Int)) (b : List (List Int)) : Option (Bool) :=
 if (a.length : Int) != (b.length : Int) then
  some false
 else
  (laws_eqIntSS_L4 fuel (a, b, 0)).bind fun s1 =>
   match s1 with
   | .inl s2 =>
    some true
   | .inr s3 =>
    some s3
def spec_l2Pow_L2 : Nat → (Int × Int × Int) → Option (Int)
 | 0, _ => none
 | n + 1, (n_, k, out) =>
  if decide (k > 0) then
   spec_l2Pow_L2 n (n_, w64 (k - 1), w64 (out * n_))
  else
   some out
def spec_l2Pow (n_ : Int) (k : Int) : Option (Int) :=
 (spec_l2Pow_L2 fuel (n_, k, 1)).bind fun s1 =>
  some s1
def spec_l3Less_L2 : Nat → ((List Int) × (List Int) × Int) → Option ((Unit) ⊕ (Bool))
 | 0, _ => none
 | n + 1, (a, b, i) =>
  if decide (i < (a.length : Int)) then
   if inb i a then
    if inb i b then
     if (gd a i 0) != (gd b i 0) then
      if inb i a then
       if inb i b then
        some (.inr (decide ((gd a i 0) < (gd b i 0))))
       else none
      else none
     else
      spec_l3Less_L2 n (a, b, w64 (i + 1))
    else none
   else none
  else
   some (.inl ())
def spec_l3Less (a : List Int) (b : List Int) : Option (Bool) :=
 (spec_l3Less_L2 fuel (a, b, 0)).bind fun s1 =>
  match s1 with
  | .inl s2 =>
   some false
  | .inr s3 =>
   some s3
def spec_l1Same_L4 : Nat → ((List Int) × (List Int) × Int) → Option ((Unit) ⊕ (Bool))
 | 0, _ => none
 | n + 1, (a, b, i) =>
  if decide (i < (a.length : Int)) then
   if inb i a then
    if inb i b then
     if (gd a i 0) != (gd b i 0) then
      some (.inr false)
     else
      spec_l1Same_L4 n (a, b, w64 (i + 1))
    else none
   else none
  else
   some (.inl ())
def spec_l1Same (a : List Int) (b : List Int) : Option (Bool) :=
 if (a.length : Int) != (b.length : Int) then
  some false
 else
  (spec_l1Same_L4 fuel (a, b, 0)).bind fun s1 =>
   match s1 with
   | .inl s2 =>
    some true
   | .inr s3 =>
    some s3
def spec_l8Find_L2 : Nat → ((List (List Int)) × (List Int) × Int × Int) → Option ((List (List Int)) × (List Int) × Int)
 | 0, _ => none
 | n + 1, (list, t, from_, to) =>
  if decide (from_ < to) then
   if (2 : Int) ≠ 0 then
    if inb (w64 (Int.tdiv (w64 (from_ + to)) 2)) list then
     (spec_l3Less (gd list (w64 (Int.tdiv (w64 (from_ + to)) 2)) []) t).bind fun r1 =>
      if r1 then
       spec_l8Find_L2 n (list, t, w64 ((w64 (Int.tdiv (w64 (from_ + to)) 2)) + 1), to)
      else
       spec_l8Find_L2 n (list, t, from_, w64 (Int.tdiv (w64 (from_ + to)) 2))
    else none
   else none
  else
   some (list, t, from_)
def spec_l8Find (list : List (List Int)) (t : List Int) : Option (Int × Bool) :=
 (spec_l8Find_L2 fuel (list, t, 0, (list.length : Int))).bind fun s1 =>
  if decide (s1.2.2 < (s1.1.length : Int)) then
   if inb s1.2.2 s1.1 then
    (spec_l1Same (gd s1.1 s1.2.2 []) s1.2.1).bind fun r2 =>
     some (s1.2.2, r2)
   else none
  else
   some (s1.2.2, false)
def impl_compareLists_L2 : Nat → ((List Int) × (List Int) × Int) → Option (((List Int) × (List Int)) ⊕ (Int))
 | 0, _ => none
 | n + 1, (s, t, i) =>
  if decide (i < (s.length : Int)) then
   if decide (i < (t.length : Int)) then
    if inb i s then
     if inb i t then
      if (gd s i 0) != (gd t i 0) then
       if inb i s then
        if inb i t then
         if decide ((gd s i 0) < (gd t i 0)) then
          some (.inr (-1))
         else
          some (.inr 1)
        else none
       else none
      else
       impl_compareLists_L2 n (s, t, w64 (i + 1))
     else none
    else none
   else
    some (.inl (s, t))
  else
   some (.inl (s, t))
def impl_compareLists (s : List Int) (t : List Int) : Option (Int) :=
 (impl_compareLists_L2 fuel (s, t, 0)).bind fun s1 =>
  match s1 with
  | .inl s2 =>
   if decide ((s2.1.length : Int) < (s2.2.length : Int)) then
    some (-1)
   else
    if decide ((s2.1.length : Int) > (s2.2.length : Int)) then
     some 1
    else
     some 0
  | .inr s3 =>
   some s3
end T
open Go Go.Va
namespace T
theorem szIntS_ok {a : List Int} {left : Int} (h0 : 0 ≤ left) (h1 : left ≤ 4611686018427387904) (ha : a.length ≤ 9223372036854775807) : laws_szIntS a left = some (szR a.length left) := by
 unfold laws_szIntS szR
 rw [w64_id (by omega) (by omega)]
 by_cases h : (a.length : Int) ≤ left
 ·rw [if_neg (by simp; omega), if_pos h]
 ·rw [if_pos (by simp; omega), if_neg h]
def totSS (a : List (List Int)) : Nat := a.length + (a.map List.length).sum
theorem szIntSS_ok {a : List (List Int)} {left : Int} (h0 : 0 ≤ left) (h1 : left ≤ 1099511627775) (ha : a.length ≤ 9223372036854775807) (hr : ∀ r ∈ a, r.length ≤ 9223372036854775807) : laws_szIntSS a left = some (szR (totSS a) left) := by
  unfold laws_szIntSS
  rw [w64_id (by omega) (by omega)]
  by_cases h : (a.length : Int) ≤ left
  · rw [if_neg (by simp; omega)]
    have key := loopX0 a (fun n s i => laws_szIntSS_L5 n (a, s, i)) (fun s r => (laws_szIntS r s).bind fun q => if q < 0 then some (.inr (.inr (-1))) else some (.inl q)) (fun s => some (.inl s)) ?_ ?_ (n := fuel) (by unfold fuel; omega) (left - a.length)
    · rw [key]
      have run : ∀ (l : List (List Int)) (s : Int), 0 ≤ s → s ≤ 1099511627775 → (∀ r ∈ l, r.length ≤ 9223372036854775807) →
          runX (fun s r => (laws_szIntS r s).bind fun q => if q < 0 then some (.inr (.inr (-1))) else some (.inl q)) (fun s => some (.inl s)) l s = some (if ((l.map List.length).sum : Int) ≤ s then (.inl (s - (l.map List.length).sum) : Int ⊕ Int) else .inr (-1)) := by
        intro l
        induction l with
        | nil => intro s h0 _ _; simp [runX, h0]
        | cons r l ih =>
          intro s h0 h1 hr
          simp only [runX]
          rw [szIntS_ok h0 (by omega) (hr r (by simp))]
          unfold szR
          by_cases h : (r.length : Int) ≤ s
          · rw [if_pos h]
            simp only [Option.bind_some]
            rw [if_neg (by omega)]
            dsimp only
            rw [ih (s - r.length) (by omega) (by omega) fun r hr' => hr r (List.mem_cons_of_mem _ hr')]
            simp only [List.map_cons, List.sum_cons]
            congr 1
            by_cases h2 : (((l.map List.length).sum : Nat) : Int) ≤ s - r.length
            · rw [if_pos h2, if_pos (by omega)]; congr 1; omega
            · rw [if_neg h2, if_neg (by omega)]
          · rw [if_neg h]
            simp only [List.map_cons, List.sum_cons]
            rw [if_neg (by omega)]
            rfl
      rw [run a _ (by omega) (by omega) hr]
      unfold szR totSS
      by_cases h2 : (((a.map List.length).sum : Nat) : Int) ≤ left - a.length
      · rw [if_pos h2, if_pos (by omega)]
        simp only [Option.bind_some, Option.some.injEq]; omega
      · rw [if_neg h2, if_neg (by omega)]; rfl
    · intro n s k hk
      simp only [laws_szIntSS_L5, inb_nat, gd_nat hk, w64_succ (show k < 4611686018427387904 by omega)]
      simp [hk]
      cases laws_szIntS a[k] s with
      | none => rfl
      | some q => by_cases hq : q < 0 <;> simp [hq]
    · intro n s
      simp [laws_szIntSS_L5]
  · rw [if_pos (by simp; omega)]
    unfold szR totSS
    rw [if_neg (by omega)]
theorem toIntS_ok {a : List Int} (ha : a.length ≤ 1099511627775) : laws_toIntS a = some a := by
 unfold laws_toIntS
 rw [if_pos (by unfold lim; omega)]
 have key := fillX0 a (fun n out i => laws_toIntS_L3 n (a, out, i)) id some ?_ ?_ (n := fuel) (out := List.replicate (Int.toNat (a.length : Int)) (0 : Int)) (by simp) (by unfold fuel; omega)
 ·rw [key]; simp
 ·intro n out k hk hl
  simp only [laws_toIntS_L3, inb_nat, gd_nat hk, stt_nat, w64_succ (show k < 4611686018427387904 by omega)]
  simp [hk, hl]
 ·intro n out hl
  simp [laws_toIntS_L3]
theorem toIntSS_ok {a : List (List Int)} (ha : a.length ≤ 1099511627775) (hr : ∀ r ∈ a, r.length ≤ 1099511627775) : laws_toIntSS a = some a := by
 unfold laws_toIntSS
 rw [if_pos (by unfold lim; omega)]
 have key := fillX0 a (fun n out i => laws_toIntSS_L3 n (a, out, i)) id some ?_ ?_ (n := fuel) (out := List.replicate (Int.toNat (a.length : Int)) ([] : List Int)) (by simp) (by unfold fuel; omega)
 ·rw [key]; simp
 ·intro n out k hk hl
  simp only [laws_toIntSS_L3, inb_nat, gd_nat hk, stt_nat, w64_succ (show k < 4611686018427387904 by omega)]
  simp [hk, hl, toIntS_ok (hr _ (List.getElem_mem hk))]
 ·intro n out hl
  simp [laws_toIntSS_L3]
theorem eqIntS_ok {a b : List Int} (ha : a.length ≤ 1099511627775) : laws_eqIntS a b = some (decide (a = b)) := by
 unfold laws_eqIntS
 by_cases hl : a.length = b.length
 ·rw [if_neg (by simp [hl]), eqX a b hl (fun n i => laws_eqIntS_L4 n (a, b, i)) ?_ ?_ (by unfold fuel; omega)]
  ·by_cases h : a = b <;> simp [h]
  ·intro n k h1 h2
   simp only [laws_eqIntS_L4, inb_nat, gd_nat h1, gd_nat h2, w64_succ (show k < 4611686018427387904 by omega)]
   by_cases h : a[k] = b[k] <;> simp [h1, h2, h]
  ·intro n
   simp [laws_eqIntS_L4]
 ·rw [if_pos (by simp; omega), decide_eq_false (fun e => hl (by rw [e]))]
theorem eqIntSS_ok {a b : List (List Int)} (ha : a.length ≤ 1099511627775) (hr : ∀ r ∈ a, r.length ≤ 1099511627775) : laws_eqIntSS a b = some (decide (a = b)) := by
 unfold laws_eqIntSS
 by_cases hl : a.length = b.length
 ·rw [if_neg (by simp [hl]), eqX a b hl (fun n i => laws_eqIntSS_L4 n (a, b, i)) ?_ ?_ (by unfold fuel; omega)]
  ·by_cases h : a = b <;> simp [h]
  ·intro n k h1 h2
   simp only [laws_eqIntSS_L4, inb_nat, gd_nat h1, gd_nat h2, w64_succ (show k < 4611686018427387904 by omega), eqIntS_ok (hr _ (List.getElem_mem h1))]
   by_cases h : a[k] = b[k] <;> simp [h1, h2, h]
  ·intro n
   simp [laws_eqIntSS_L4]
 ·rw [if_pos (by simp; omega), decide_eq_false (fun e => hl (by rw [e]))]
abbrev Lin := Int × Int × List (List Int)
theorem mem_sum {l : List (List Int)} : ∀ {r : List Int}, r ∈ l → r.length ≤ (l.map List.length).sum := by
 induction l with
 | nil => intro r h; cases h
 | cons x l ih =>
  intro r h
  rw [List.map_cons, List.sum_cons]
  rcases List.mem_cons.1 h with rfl | h
  ·omega
  ·have := ih h; omega
theorem spec_l1In_ok (x a b : Int) : spec_l1In x a b = some (decide (a ≤ x ∧ x ≤ b)) := by
 unfold spec_l1In
 by_cases h : a ≤ x <;> simp [h]
def belowB (n : Int) (l : List Int) : Bool := l.all fun x => decide (0 ≤ x ∧ x < n)
theorem impl_inSize_ok {l : List Int} (n : Int) (hl : l.length ≤ 1099511627775) : impl_inSize l n = some (belowB n l) := by
 unfold impl_inSize
 rw [allX l (fun m i => impl_inSize_L2 m (n, l, (l.length : Int), i)) (fun x => decide (0 ≤ x ∧ x < n)) (.inr false) (.inl ()) ?_ ?_ (by unfold fuel; omega)]
 ·unfold belowB; cases l.all (fun x => decide (0 ≤ x ∧ x < n)) <;> simp
 ·intro m k hk
  simp only [impl_inSize_L2, inb_nat, gd_nat hk, w64_succ (show k < 4611686018427387904 by omega)]
  by_cases h1 : l[k] < 0
  ·simp [hk, h1, show ¬ 0 ≤ l[k] by omega]
  ·by_cases h2 : n ≤ l[k]
   ·simp [hk, h1, h2, show ¬ l[k] < n by omega]
   ·simp [hk, h1, h2, show 0 ≤ l[k] ∧ l[k] < n by omega]
 ·intro m
  simp [impl_inSize_L2]
theorem spec_l2Elements_ok {l : List Int} {n : Int} (hn : -9223372036854775808 < n) (hn' : n ≤ 9223372036854775807) (hl : l.length ≤ 1099511627775) : spec_l2Elements n l = some (belowB n l) := by
 unfold spec_l2Elements
 rw [allX l (fun m i => spec_l2Elements_L2 m (n, l, i)) (fun x => decide (0 ≤ x ∧ x < n)) (.inr false) (.inl ()) ?_ ?_ (by unfold fuel; omega)]
 ·unfold belowB; cases l.all (fun x => decide (0 ≤ x ∧ x < n)) <;> simp
 ·intro m k hk
  simp only [spec_l2Elements_L2, inb_nat, gd_nat hk, w64_succ (show k < 4611686018427387904 by omega), spec_l1In_ok, w64_id (show -9223372036854775808 ≤ n - 1 by omega) (show n - 1 ≤ 9223372036854775807 by omega)]
  by_cases h1 : 0 ≤ l[k] ∧ l[k] < n
  ·simp [hk, h1, show l[k] ≤ n - 1 by omega]
  ·have : ¬ (0 ≤ l[k] ∧ l[k] ≤ n - 1) := by omega
   simp [hk, h1, this]
 ·intro m
  simp [spec_l2Elements_L2]
theorem spec_l8Tuple_ok {l : List Int} {n : Int} (k : Int) (hn : -9223372036854775808 < n) (hn' : n ≤ 9223372036854775807) (hl : l.length ≤ 1099511627775) : spec_l8Tuple n k l = some (decide ((l.length : Int) = k) && belowB n l) := by
 unfold spec_l8Tuple
 rw [spec_l2Elements_ok hn hn' hl]
 by_cases h : (l.length : Int) = k <;> simp [h]
end T
open Go Go.Va
namespace T
theorem belowB_get {n : Int} {l : List Int} (h : belowB n l = true) (k : Nat) (hk : k < l.length) : 0 ≤ l[k] ∧ l[k] < n := by
 have := (List.all_eq_true.1 h) l[k] (List.getElem_mem hk)
 simpa using this
section
variable {p v : Int} {rows : List (List Int)} {y : List Int}
end
end T
open Go Go.Va
namespace T
def cmpL : List Int → List Int → Int
 | [], [] => 0
 | [], _ :: _ => -1
 | _ :: _, [] => 1
 | a :: s, b :: t => if a = b then cmpL s t else if a < b then -1 else 1
theorem compare_L2 {s t : List Int} (hs : s.length ≤ 1099511627775) : ∀ (n k : Nat), k ≤ s.length → k ≤ t.length → s.length - k < n →
    (impl_compareLists_L2 n (s, t, (k : Int))).bind (fun s1 => match s1 with
      | .inl s2 => if decide ((s2.1.length : Int) < (s2.2.length : Int)) then some (-1) else if decide ((s2.1.length : Int) > (s2.2.length : Int)) then some 1 else some 0
      | .inr s3 => some s3) = some (cmpL (s.drop k) (t.drop k)) := by
  intro n
  induction n with
  | zero => intro k _ _ h; omega
  | succ n ih =>
    intro k h1 h2 hn
    by_cases k1 : k < s.length
    · by_cases k2 : k < t.length
      · rw [List.drop_eq_getElem_cons k1, List.drop_eq_getElem_cons k2]
        simp only [impl_compareLists_L2, inb_nat, gd_nat k1, gd_nat k2, w64_succ (show k < 4611686018427387904 by omega), cmpL]
        by_cases he : s[k] = t[k]
        · have := ih (k + 1) k1 k2 (by omega)
          simp [k1, k2, he]
          simpa using this
        · by_cases hl : s[k] < t[k] <;> simp [k1, k2, he, hl]
      · rw [List.drop_eq_getElem_cons k1, List.drop_of_length_le (show t.length ≤ k by omega)]
        have e : k = t.length := by omega
        simp only [impl_compareLists_L2, cmpL]
        simp [k1, k2, show ¬ s.length < t.length by omega, show t.length < s.length by omega]
    · rw [List.drop_of_length_le (show s.length ≤ k by omega)]
      simp only [impl_compareLists_L2]
      by_cases k2 : k < t.length
      · rw [List.drop_eq_getElem_cons k2]
        simp [k1, cmpL, show s.length < t.length by omega]
      · rw [List.drop_of_length_le (show t.length ≤ k by omega)]
        simp [k1, cmpL, show ¬ s.length < t.length by omega, show ¬ t.length < s.length by omega]
theorem impl_compareLists_ok {s t : List Int} (hs : s.length ≤ 1099511627775) : impl_compareLists s t = some (cmpL s t) := by
 have := compare_L2 (t := t) hs fuel 0 (Nat.zero_le _) (Nat.zero_le _) (by unfold fuel; omega)
 rw [List.drop_zero, List.drop_zero] at this
 exact this
theorem spec_l3Less_ok {s t : List Int} (hs : s.length ≤ 1099511627775) (hl : s.length = t.length) : spec_l3Less s t = some (decide (cmpL s t < 0)) := by
 have key : ∀ (n k : Nat), k ≤ s.length → s.length - k < n → (spec_l3Less_L2 n (s, t, (k : Int))).bind (fun s1 => match s1 with | .inl _ => some false | .inr s3 => some s3) = some (decide (cmpL (s.drop k) (t.drop k) < 0)) := by
  intro n
  induction n with
  | zero => intro k _ h; omega
  | succ n ih =>
   intro k h1 hn
   by_cases k1 : k < s.length
   ·have k2 : k < t.length := by omega
    rw [List.drop_eq_getElem_cons k1, List.drop_eq_getElem_cons k2]
    simp only [spec_l3Less_L2, inb_nat, gd_nat k1, gd_nat k2, w64_succ (show k < 4611686018427387904 by omega), cmpL]
    by_cases he : s[k] = t[k]
    ·have := ih (k + 1) k1 (by omega)
     simp [k1, k2, he]
     simpa using this
    ·by_cases hl : s[k] < t[k] <;> simp [k1, k2, he, hl]
   ·rw [List.drop_of_length_le (show s.length ≤ k by omega), List.drop_of_length_le (show t.length ≤ k by omega)]
    simp [spec_l3Less_L2, k1, cmpL]
 have := key fuel 0 (Nat.zero_le _) (by unfold fuel; omega)
 rw [List.drop_zero, List.drop_zero] at this
 exact this
theorem spec_l1Same_ok {a b : List Int} (ha : a.length ≤ 1099511627775) : spec_l1Same a b = some (decide (a = b)) := by
 unfold spec_l1Same
 by_cases hl : a.length = b.length
 ·rw [if_neg (by simp [hl]), eqX a b hl (fun n i => spec_l1Same_L4 n (a, b, i)) ?_ ?_ (by unfold fuel; omega)]
  ·by_cases h : a = b <;> simp [h]
  ·intro n k h1 h2
   simp only [spec_l1Same_L4, inb_nat, gd_nat h1, gd_nat h2, w64_succ (show k < 4611686018427387904 by omega)]
   by_cases h : a[k] = b[k] <;> simp [h1, h2, h]
  ·intro n
   simp [spec_l1Same_L4]
 ·rw [if_pos (by simp; omega), decide_eq_false (fun e => hl (by rw [e]))]
theorem cmpL_refl : ∀ s, cmpL s s = 0
 | [] => rfl
 | a :: s => by simp [cmpL, cmpL_refl s]
theorem cmpL_eq : ∀ {s t}, cmpL s t = 0 ↔ s = t
 | [], [] => by simp [cmpL]
 | [], _ :: _ => by simp [cmpL]
 | _ :: _, [] => by simp [cmpL]
 | a :: s, b :: t => by
  simp only [cmpL]
  by_cases h : a = b
  ·rw [if_pos h, cmpL_eq]; simp [h]
  ·rw [if_neg h]; split <;> simp [h]
theorem cmpL_symm : ∀ s t, cmpL t s = - cmpL s t
 | [], [] => by simp [cmpL]
 | [], _ :: _ => by simp [cmpL]
 | _ :: _, [] => by simp [cmpL]
 | a :: s, b :: t => by
  simp only [cmpL]
  by_cases h : a = b
  ·rw [if_pos h, if_pos h.symm, cmpL_symm s t]
  ·rw [if_neg h, if_neg (Ne.symm h)]
   by_cases h2 : a < b
   ·rw [if_pos h2, if_neg (by omega)]; rfl
   ·rw [if_neg h2, if_pos (by omega)]
theorem cmpL_trans : ∀ {s t u}, cmpL s t < 0 → cmpL t u < 0 → cmpL s u < 0
 | [], [], _, h, _ => by simp [cmpL] at h
 | [], _ :: _, [], _, h => by simp [cmpL] at h
 | [], _ :: _, _ :: _, _, _ => by simp [cmpL]
 | _ :: _, [], _, h, _ => by simp [cmpL] at h
 | _ :: _, _ :: _, [], _, h => by simp [cmpL] at h
 | a :: s, b :: t, c :: u, h1, h2 => by
  simp only [cmpL] at *
  by_cases e1 : a = b
  ·rw [if_pos e1] at h1
   by_cases e2 : b = c
   ·rw [if_pos e2] at h2; rw [if_pos (e1.trans e2)]; exact cmpL_trans h1 h2
   ·rw [if_neg e2] at h2; rw [e1, if_neg e2]; exact h2
  ·rw [if_neg e1] at h1
   have l1 : a < b := by
    by_cases h : a < b
    ·exact h
    ·rw [if_neg h] at h1; omega
   by_cases e2 : b = c
   ·rw [← e2, if_neg e1, if_pos l1]; omega
   ·rw [if_neg e2] at h2
    have l2 : b < c := by
     by_cases h : b < c
     ·exact h
     ·rw [if_neg h] at h2; omega
    rw [if_neg (by omega), if_pos (by omega)]; omega
def incB : List (List Int) → Bool
 | a :: b :: l => decide (cmpL a b < 0) && incB (b :: l)
 | _ => true
theorem incB_tail {a : List Int} {l : List (List Int)} (h : incB (a :: l) = true) : incB l = true := by
 cases l with
 | nil => rfl
 | cons b l => simp only [incB, Bool.and_eq_true] at h; exact h.2
theorem incB_head : ∀ {a : List Int} {l : List (List Int)}, incB (a :: l) = true → ∀ b ∈ l, cmpL a b < 0
 | a, [], _, b, hb => by cases hb
 | a, c :: l, h, b, hb => by
  simp only [incB, Bool.and_eq_true, decide_eq_true_eq] at h
  rcases List.mem_cons.1 hb with rfl | hb
  ·exact h.1
  ·exact cmpL_trans h.1 (incB_head h.2 b hb)
theorem incB_lt : ∀ {l : List (List Int)}, incB l = true → ∀ (i j : Nat) (hi : i < j) (hj : j < l.length), cmpL (l[i]'(by omega)) l[j] < 0
 | [], _, i, j, _, hj => by simp at hj
 | a :: l, h, 0, j + 1, _, hj => by
  simp only [List.getElem_cons_zero, List.getElem_cons_succ]
  exact incB_head h _ (List.getElem_mem _)
 | a :: l, h, i + 1, j + 1, hi, hj => by
  simp only [List.getElem_cons_succ]
  exact incB_lt (incB_tail h) i j (by omega) (by simpa using hj)
theorem incB_iff {l : List (List Int)} : incB l = true ↔ ∀ (i : Nat) (hi : i + 1 < l.length), cmpL (l[i]'(by omega)) l[i + 1] < 0 := by
 constructor
 ·exact fun h i hi => incB_lt h i (i + 1) (by omega) hi
 ·induction l with
  | nil => intro _; rfl
  | cons a l ih =>
   intro h
   cases l with
   | nil => rfl
   | cons b l =>
    simp only [incB, Bool.and_eq_true, decide_eq_true_eq]
    exact ⟨h 0 (by simp), ih fun i hi => by have := h (i + 1) (by simpa using hi); simpa using this⟩
end T
open Go Go.Va
namespace T
theorem pow_le_of {n : Int} (h0 : 0 ≤ n) (h8 : n ≤ 8) : ∀ k : Nat, 0 ≤ n ^ k ∧ n ^ k ≤ 8 ^ k
 | 0 => by simp
 | k + 1 => by
  obtain ⟨h1, h2⟩ := pow_le_of h0 h8 k
  rw [Int.pow_succ, Int.pow_succ]
  exact ⟨Int.mul_nonneg h1 h0, Int.mul_le_mul h2 h8 h0 (by have : (0 : Int) ≤ 8 ^ k := Int.le_trans h1 h2; exact this)⟩
theorem pow8_le : ∀ k : Nat, k ≤ 20 → (8 : Int) ^ k ≤ 8 ^ 20 := by
 intro k hk
 have : ((8 ^ k : Nat) : Int) ≤ ((8 ^ 20 : Nat) : Int) := Int.ofNat_le.2 (Nat.pow_le_pow_right (by omega) hk)
 simpa using this
theorem pow_bd {n : Int} (h0 : 0 ≤ n) (h8 : n ≤ 8) {k : Nat} (hk : k ≤ 20) : 0 ≤ n ^ k ∧ n ^ k ≤ 1152921504606846976 := by
  obtain ⟨h1, h2⟩ := pow_le_of h0 h8 k
  have := pow8_le k hk
  exact ⟨h1, by have e : (8 : Int) ^ 20 = 1152921504606846976 := by decide
                omega⟩
theorem l2Pow_L2 {n : Int} (h0 : 0 ≤ n) (h8 : n ≤ 8) : ∀ (m k j : Nat), j + k ≤ 20 → k < m → spec_l2Pow_L2 m (n, (k : Int), n ^ j) = some (n ^ (j + k)) := by
 intro m
 induction m with
 | zero => intro k j _ h; omega
 | succ m ih =>
  intro k j hj hk
  simp only [spec_l2Pow_L2]
  cases k with
  | zero => simp
  | succ k =>
   have e : w64 (((k + 1 : Nat) : Int) - 1) = (k : Int) := by rw [w64_id (by omega) (by omega)]; omega
   have hb := pow_bd h0 h8 (k := j + 1) (by omega)
   rw [Int.pow_succ] at hb
   rw [e, w64_id (by omega) (by omega), ← Int.pow_succ, if_pos (by simp), ih k (j + 1) (by omega) (by omega)]
   congr 2 <;> omega
theorem spec_l2Pow_ok {n : Int} (h0 : 0 ≤ n) (h8 : n ≤ 8) {k : Nat} (hk : k ≤ 20) : spec_l2Pow n (k : Int) = some (n ^ k) := by
 unfold spec_l2Pow
 have := l2Pow_L2 h0 h8 fuel k 0 (by omega) (by unfold fuel; omega)
 rw [Int.pow_zero] at this
 rw [this]; simp
def idxA (n : Int) : Int → List Int → Int
 | i, [] => i
 | i, a :: l => idxA n (i * n + a) l
def idx (n : Int) (l : List Int) : Int := idxA n 0 l
theorem idxA_eq (n : Int) : ∀ (l : List Int) (i : Int), idxA n i l = i * n ^ l.length + idxA n 0 l
 | [], i => by simp [idxA]
 | a :: l, i => by
  simp only [idxA, List.length_cons]
  rw [idxA_eq n l (i * n + a), idxA_eq n l (0 * n + a), Int.pow_succ]
  simp only [Int.zero_mul, Int.zero_add]
  rw [Int.add_mul, Int.mul_assoc, Int.mul_comm n (n ^ l.length)]
  omega
theorem idx_cons (n a : Int) (l : List Int) : idx n (a :: l) = a * n ^ l.length + idx n l := by
 unfold idx
 simp only [idxA]
 rw [idxA_eq]; simp
theorem belowB_cons {n a : Int} {l : List Int} : belowB n (a :: l) = true ↔ (0 ≤ a ∧ a < n) ∧ belowB n l = true := by
 unfold belowB; simp [List.all_cons]
theorem idx_bd {n : Int} : ∀ {l : List Int}, belowB n l = true → 0 ≤ idx n l ∧ idx n l < n ^ l.length
 | [], _ => by simp [idx, idxA]
 | a :: l, h => by
  obtain ⟨h1, h2⟩ := belowB_cons.1 h
  obtain ⟨h3, h4⟩ := idx_bd h2
  rw [idx_cons, List.length_cons, Int.pow_succ]
  have hp : 0 ≤ n ^ l.length := by omega
  have k1 := Int.mul_nonneg h1.1 hp
  have k2 := Int.mul_le_mul_of_nonneg_right (show a + 1 ≤ n by omega) hp
  rw [Int.add_mul, Int.one_mul, Int.mul_comm n] at k2
  exact ⟨by omega, by omega⟩
theorem idx_cmp {n : Int} : ∀ {s t : List Int}, belowB n s = true → belowB n t = true → s.length = t.length → (cmpL s t < 0 ↔ idx n s < idx n t) ∧ (cmpL s t = 0 ↔ idx n s = idx n t)
 | [], [], _, _, _ => by simp [cmpL, idx, idxA]
 | [], _ :: _, _, _, h => by simp at h
 | _ :: _, [], _, _, h => by simp at h
 | a :: s, b :: t, hs, ht, hl => by
  obtain ⟨s1, s2⟩ := belowB_cons.1 hs
  obtain ⟨t1, t2⟩ := belowB_cons.1 ht
  have hl' : s.length = t.length := by simpa using hl
  have ih := idx_cmp s2 t2 hl'
  obtain ⟨b1, b2⟩ := idx_bd s2
  obtain ⟨c1, c2⟩ := idx_bd t2
  rw [idx_cons, idx_cons, hl']
  rw [hl'] at b2
  simp only [cmpL]
  have hp : 0 ≤ n ^ t.length := by omega
  rcases Int.lt_trichotomy a b with h | h | h
  ·have := Int.mul_le_mul_of_nonneg_right (show a + 1 ≤ b by omega) hp
   rw [Int.add_mul, Int.one_mul] at this
   rw [if_neg (by omega), if_pos h]
   exact ⟨by constructor <;> intro <;> omega, by constructor <;> intro <;> omega⟩
  ·subst h
   rw [if_pos rfl]
   exact ⟨by rw [ih.1]; constructor <;> intro <;> omega, by rw [ih.2]; constructor <;> intro <;> omega⟩
  ·have := Int.mul_le_mul_of_nonneg_right (show b + 1 ≤ a by omega) hp
   rw [Int.add_mul, Int.one_mul] at this
   rw [if_neg (by omega), if_neg (by omega)]
   exact ⟨by constructor <;> intro <;> omega, by constructor <;> intro <;> omega⟩
theorem inc_count {n : Int} {k : Nat} {l : List (List Int)} (hi : incB l = true) (hv : ∀ t ∈ l, t.length = k ∧ belowB n t = true) : (l.length : Int) ≤ n ^ k ∨ l = [] := by
 have key : ∀ (i : Nat) (h : i < l.length), (i : Int) ≤ idx n l[i] := by
  intro i
  induction i with
  | zero => intro h; exact (idx_bd (hv _ (List.getElem_mem h)).2).1
  | succ i ih =>
   intro h
   have h1 := ih (by omega)
   obtain ⟨l1, b1⟩ := hv _ (List.getElem_mem (show i < l.length by omega))
   obtain ⟨l2, b2⟩ := hv _ (List.getElem_mem h)
   have := (idx_cmp b1 b2 (l1.trans l2.symm)).1.1 (incB_lt hi i (i + 1) (by omega) h)
   omega
 cases hn : l.length with
 | zero => exact .inr (List.length_eq_zero_iff.1 hn)
 | succ m =>
  left
  have h := key m (by omega)
  obtain ⟨l1, b1⟩ := hv _ (List.getElem_mem (show m < l.length by omega))
  have := (idx_bd b1).2
  rw [l1] at this
  omega
theorem find_L2 {list : List (List Int)} {t : List Int} {k : Nat} (hl : list.length ≤ 1099511627775) (hk : k ≤ 1099511627775) (hv : ∀ u ∈ list, u.length = k) (ht : t.length = k) (hi : incB list = true) : ∀ (m a b : Nat), a ≤ b → b ≤ list.length → b - a < m →
    (∀ i (h : i < list.length), i < a → cmpL list[i] t < 0) → (∀ i (h : i < list.length), b ≤ i → ¬ cmpL list[i] t < 0) →
    ∃ c : Nat, spec_l8Find_L2 m (list, t, (a : Int), (b : Int)) = some (list, t, (c : Int)) ∧ c ≤ list.length ∧ (∀ i (h : i < list.length), i < c → cmpL list[i] t < 0) ∧ (∀ i (h : i < list.length), c ≤ i → ¬ cmpL list[i] t < 0) := by
  intro m
  induction m with
  | zero => intro a b _ _ h; omega
  | succ m ih =>
    intro a b hab hb hm h1 h2
    simp only [spec_l8Find_L2]
    by_cases hlt : a < b
    · have emid : w64 (Int.tdiv (w64 ((a : Int) + b)) 2) = (((a + b) / 2 : Nat) : Int) := by
        rw [w64_id (x := (a : Int) + b) (by omega) (by omega), Int.tdiv_eq_ediv_of_nonneg (by omega), w64_id (by omega) (by omega)]; omega
      have hmid : (a + b) / 2 < list.length := by omega
      rw [emid]
      have hless := spec_l3Less_ok (s := list[(a + b) / 2]) (t := t) (by rw [hv _ (List.getElem_mem hmid)]; omega) (by rw [hv _ (List.getElem_mem hmid), ht])
      simp only [inb_nat, gd_nat hmid, hless, Option.bind_some, w64_succ (show (a + b) / 2 < 4611686018427387904 by omega)]
      by_cases hc : cmpL list[(a + b) / 2] t < 0
      · obtain ⟨c, e, k1, k2, k3⟩ := ih ((a + b) / 2 + 1) b (by omega) hb (by omega) (fun i h hi' => by
          rcases Nat.lt_or_ge i ((a + b) / 2) with h' | h'
          · exact cmpL_trans (incB_lt hi i ((a + b) / 2) h' hmid) hc
          · have : i = (a + b) / 2 := by omega
            subst this; exact hc) h2
        exact ⟨c, by simpa [hlt, hmid, hc] using e, k1, k2, k3⟩
      · obtain ⟨c, e, k1, k2, k3⟩ := ih a ((a + b) / 2) (by omega) (by omega) (by omega) h1 (fun i h hi' hneg => by
          rcases Nat.lt_or_ge ((a + b) / 2) i with h' | h'
          · exact hc (cmpL_trans (incB_lt hi ((a + b) / 2) i h' h) hneg)
          · have : i = (a + b) / 2 := by omega
            subst this; exact hc hneg)
        exact ⟨c, by simpa [hlt, hmid, hc] using e, k1, k2, k3⟩
    · have : a = b := by omega
      subst this
      exact ⟨a, by simp, hb, h1, h2⟩
theorem spec_l8Find_ok {list : List (List Int)} {t : List Int} {k : Nat} (hl : list.length ≤ 1099511627774) (hk : k ≤ 1099511627775) (hv : ∀ u ∈ list, u.length = k) (ht : t.length = k) (hi : incB list = true) :
    ∃ c : Nat, spec_l8Find list t = some ((c : Int), decide (t ∈ list)) ∧ c ≤ list.length ∧ (∀ i (h : i < list.length), i < c → cmpL list[i] t < 0) ∧ (∀ i (h : i < list.length), c ≤ i → ¬ cmpL list[i] t < 0) := by
  obtain ⟨c, e, k1, k2, k3⟩ := find_L2 (by omega) hk hv ht hi fuel 0 list.length (Nat.zero_le _) (Nat.le_refl _) (by unfold fuel; omega) (fun i _ h => by omega) (fun i h h' => by omega)
  refine ⟨c, ?_, k1, k2, k3⟩
  unfold spec_l8Find
  have e' : spec_l8Find_L2 fuel (list, t, 0, (list.length : Int)) = some (list, t, (c : Int)) := e
  rw [e']
  simp only [Option.bind_some]
  by_cases hc : c < list.length
  · have hs := spec_l1Same_ok (a := list[c]) (b := t) (by rw [hv _ (List.getElem_mem hc)]; omega)
    simp only [inb_nat, gd_nat hc, hs, Option.bind_some]
    have : decide (list[c] = t) = decide (t ∈ list) := by
      by_cases h : list[c] = t
      · rw [decide_eq_true h, decide_eq_true (h ▸ List.getElem_mem hc)]
      · rw [decide_eq_false h]
        symm; rw [decide_eq_false_iff_not]
        intro hm
        obtain ⟨j, hj, rfl⟩ := List.mem_iff_getElem.1 hm
        have hne : j ≠ c := fun e => h (by subst e; rfl)
        rcases Nat.lt_or_ge j c with hlt | hge
        · have := k2 j hj hlt; rw [cmpL_refl] at this; omega
        · exact k3 c hc (Nat.le_refl _) (incB_lt hi c j (by omega) hj)
    simp [hc, this]
  · have : decide (t ∈ list) = false := by
      rw [decide_eq_false_iff_not]
      intro hm
      obtain ⟨j, hj, rfl⟩ := List.mem_iff_getElem.1 hm
      have := k2 j hj (by omega); rw [cmpL_refl] at this; omega
    rw [if_neg (by simp; omega), this]
end T
set_option linter.unusedVariables false
open Go Go.Va
namespace T
def laws_szRelation (a : Int × (List (List Int))) (left : Int) : Option (Int) :=
 (laws_szIntSS a.2 left).bind fun r1 =>
  if decide (r1 < 0) then
   some (-1)
  else
   some r1
def laws_szConstraint (a : (List Int) × Int × (List (List Int))) (left : Int) : Option (Int) :=
 (laws_szIntS a.1 left).bind fun r1 =>
  if decide (r1 < 0) then
   some (-1)
  else
   (laws_szRelation (a.2.1, a.2.2) r1).bind fun r2 =>
    if decide (r2 < 0) then
     some (-1)
    else
     some r2
def laws_szConstraintS_L5 : Nat → ((List ((List Int) × Int × (List (List Int)))) × Int × Int) → Option ((Int) ⊕ (Int))
 | 0, _ => none
 | n + 1, (a, left, i) =>
  if decide (i < (a.length : Int)) then
   if inb i a then
    (laws_szConstraint (gd a i ([], (0, []))) left).bind fun r1 =>
     if decide (r1 < 0) then
      some (.inr (-1))
     else
      laws_szConstraintS_L5 n (a, r1, w64 (i + 1))
   else none
  else
   some (.inl left)
def laws_szConstraintS (a : List ((List Int) × Int × (List (List Int)))) (left : Int) : Option (Int) :=
 if decide ((w64 (left - (a.length : Int))) < 0) then
  some (-1)
 else
  (laws_szConstraintS_L5 fuel (a, w64 (left - (a.length : Int)), 0)).bind fun s1 =>
   match s1 with
   | .inl s2 =>
    some s2
   | .inr s3 =>
    some s3
def laws_szNetwork (a : Int × Int × (List ((List Int) × Int × (List (List Int))))) (left : Int) : Option (Int) :=
 (laws_szConstraintS a.2.2 left).bind fun r1 =>
  if decide (r1 < 0) then
   some (-1)
  else
   some r1
def laws_toRelation (a : Int × (List (List Int))) : Option ((Int × (List (List Int)))) :=
 (laws_toIntSS a.2).bind fun r1 =>
  some (a.1, r1)
def laws_toConstraint (a : (List Int) × Int × (List (List Int))) : Option (((List Int) × (Int × (List (List Int))))) :=
 (laws_toIntS a.1).bind fun r1 =>
  (laws_toRelation (a.2.1, a.2.2)).bind fun r2 =>
   some (r1, (r2.1, r2.2))
def laws_toConstraintS_L3 : Nat → ((List ((List Int) × Int × (List (List Int)))) × (List ((List Int) × Int × (List (List Int)))) × Int) → Option ((List ((List Int) × Int × (List (List Int)))))
 | 0, _ => none
 | n + 1, (a, out, i) =>
  if decide (i < (a.length : Int)) then
   if inb i a then
    (laws_toConstraint (gd a i ([], (0, [])))).bind fun r1 =>
     if inb i out then
      laws_toConstraintS_L3 n (a, stt out i (r1.1, (r1.2.1, r1.2.2)), w64 (i + 1))
     else none
   else none
  else
   some out
def laws_toConstraintS (a : List ((List Int) × Int × (List (List Int)))) : Option ((List ((List Int) × Int × (List (List Int))))) :=
 if 0 ≤ (a.length : Int) ∧ (a.length : Int) ≤ (a.length : Int) ∧ (a.length : Int) ≤ lim then
  (laws_toConstraintS_L3 fuel (a, List.replicate (Int.toNat (a.length : Int)) (([], (0, [])) : (List Int) × Int × (List (List Int))), 0)).bind fun s1 =>
   some s1
 else none
def laws_toNetwork (a : Int × Int × (List ((List Int) × Int × (List (List Int))))) : Option ((Int × (Int × (List ((List Int) × Int × (List (List Int))))))) :=
 (laws_toConstraintS a.2.2).bind fun r1 =>
  some (a.1, (a.2.1, r1))
def spec_l13Good_L4 : Nat → (Int × (Int × (List (List Int))) × Int) → Option ((Unit) ⊕ (Bool))
 | 0, _ => none
 | n + 1, (n_, r, i) =>
  if decide (i < (r.2.length : Int)) then
   if inb i r.2 then
    (spec_l8Tuple n_ r.1 (gd r.2 i [])).bind fun r3 =>
     if !r3 then
      some (.inr false)
     else
      if decide (i > 0) then
       if inb (w64 (i - 1)) r.2 then
        if inb i r.2 then
         (spec_l3Less (gd r.2 (w64 (i - 1)) []) (gd r.2 i [])).bind fun r4 =>
          if !r4 then
           some (.inr false)
          else
           spec_l13Good_L4 n (n_, (r.1, r.2), w64 (i + 1))
        else none
       else none
      else
       spec_l13Good_L4 n (n_, (r.1, r.2), w64 (i + 1))
   else none
  else
   some (.inl ())
def spec_l13Good (n_ : Int) (r : Int × (List (List Int))) : Option (Bool) :=
 (spec_l1In r.1 1 3).bind fun r1 =>
  if !r1 then
   some false
  else
   (spec_l2Pow n_ r.1).bind fun r2 =>
    if decide ((r.2.length : Int) > r2) then
     some false
    else
     (spec_l13Good_L4 fuel (n_, (r.1, r.2), 0)).bind fun s3 =>
      match s3 with
      | .inl s4 =>
       some true
      | .inr s5 =>
       some s5
def spec_l19Is (vars : Int) (size : Int) (c : (List Int) × Int × (List (List Int))) : Option (Bool) :=
 (spec_l13Good size (c.2.1, c.2.2)).bind fun r1 =>
  if r1 then
   if (c.1.length : Int) == c.2.1 then
    (spec_l2Elements vars c.1).bind fun r2 =>
     some r2
   else
    some false
  else
   some false
def spec_l19Good_L4 : Nat → ((Int × Int × (List ((List Int) × Int × (List (List Int))))) × Int) → Option ((Unit) ⊕ (Bool))
 | 0, _ => none
 | n + 1, (net, i) =>
  if decide (i < (net.2.2.length : Int)) then
   if inb i net.2.2 then
    (spec_l19Is net.1 net.2.1 (gd net.2.2 i ([], (0, [])))).bind fun r3 =>
     if !r3 then
      some (.inr false)
     else
      spec_l19Good_L4 n ((net.1, (net.2.1, net.2.2)), w64 (i + 1))
   else none
  else
   some (.inl ())
def spec_l19Good (net : Int × Int × (List ((List Int) × Int × (List (List Int))))) : Option (Bool) :=
 (spec_l1In net.1 0 9).bind fun r1 =>
  if !r1 then
   some false
  else
   (spec_l1In net.2.1 1 4).bind fun r2 =>
    if !r2 then
     some false
    else
     if decide ((net.2.2.length : Int) > 40) then
      some false
     else
      (spec_l19Good_L4 fuel ((net.1, (net.2.1, net.2.2)), 0)).bind fun s3 =>
       match s3 with
       | .inl s4 =>
        some true
       | .inr s5 =>
        some s5
def spec_l1Own (l : List Int) : Option ((List Int)) :=
 if ([] : List Int).length + l.length ≤ lim then
  some ([] ++ l)
 else none
def impl_isTemplateSize (n_ : Int) : Option (Bool) :=
 if decide (n_ ≥ 1) then
  some (decide (n_ ≤ 4))
 else
  some false
def impl_isRelation_L4 : Nat → (Int × (Int × (List (List Int))) × (List (List Int)) × Int × Int) → Option ((Unit) ⊕ (Bool))
 | 0, _ => none
 | n + 1, (n_, r, t16, t17, t18) =>
  if decide (t18 < t17) then
   if inb t18 t16 then
    if ((gd t16 t18 []).length : Int) != r.1 then
     some (.inr false)
    else
     (impl_inSize (gd t16 t18 []) n_).bind fun r1 =>
      if !r1 then
       some (.inr false)
      else
       if decide (t18 > 0) then
        if inb (w64 (t18 - 1)) r.2 then
         (impl_compareLists (gd r.2 (w64 (t18 - 1)) []) (gd t16 t18 [])).bind fun r2 =>
          if decide (r2 ≥ 0) then
           some (.inr false)
          else
           impl_isRelation_L4 n (n_, (r.1, r.2), t16, t17, w64 (t18 + 1))
        else none
       else
        impl_isRelation_L4 n (n_, (r.1, r.2), t16, t17, w64 (t18 + 1))
   else none
  else
   some (.inl ())
def impl_isRelation (n_ : Int) (r : Int × (List (List Int))) : Option (Bool) :=
 if decide (r.1 < 1) then
  some false
 else
  if decide (r.1 > 3) then
   some false
  else
   (impl_isRelation_L4 fuel (n_, (r.1, r.2), r.2, (r.2.length : Int), 0)).bind fun s1 =>
    match s1 with
    | .inl s2 =>
     some true
    | .inr s3 =>
     some s3
def impl_isConstraint (vars : Int) (size : Int) (c : (List Int) × Int × (List (List Int))) : Option (Bool) :=
 (impl_isRelation size (c.2.1, c.2.2)).bind fun r1 =>
  if r1 then
   if (c.1.length : Int) == c.2.1 then
    (impl_inSize c.1 vars).bind fun r2 =>
     some r2
   else
    some false
  else
   some false
def impl_IsNetwork_L4 : Nat → ((Int × Int × (List ((List Int) × Int × (List (List Int))))) × (List ((List Int) × Int × (List (List Int)))) × Int × Int) → Option ((Unit) ⊕ (Bool))
 | 0, _ => none
 | n + 1, (net, t26, t27, t28) =>
  if decide (t28 < t27) then
   if inb t28 t26 then
    (impl_isConstraint net.1 net.2.1 ((gd t26 t28 ([], (0, []))).1, (((gd t26 t28 ([], (0, []))).2).1, ((gd t26 t28 ([], (0, []))).2).2))).bind fun r2 =>
     if !r2 then
      some (.inr false)
     else
      impl_IsNetwork_L4 n ((net.1, (net.2.1, net.2.2)), t26, t27, w64 (t28 + 1))
   else none
  else
   some (.inl ())
def impl_IsNetwork (net : Int × Int × (List ((List Int) × Int × (List (List Int))))) : Option (Bool) :=
 if decide (net.1 < 0) then
  some false
 else
  if decide (net.1 > 9) then
   some false
  else
   (impl_isTemplateSize net.2.1).bind fun r1 =>
    if !r1 then
     some false
    else
     if decide ((net.2.2.length : Int) > 40) then
      some false
     else
      (impl_IsNetwork_L4 fuel ((net.1, (net.2.1, net.2.2)), net.2.2, (net.2.2.length : Int), 0)).bind fun s2 =>
       match s2 with
       | .inl s3 =>
        some true
       | .inr s4 =>
        some s4
def laws_eqRelation (a : Int × (List (List Int))) (b : Int × (List (List Int))) : Option (Bool) :=
 if a.1 != b.1 then
  some false
 else
  (laws_eqIntSS a.2 b.2).bind fun r1 =>
   if !r1 then
    some false
   else
    some true
def laws_eqConstraint (a : (List Int) × Int × (List (List Int))) (b : (List Int) × Int × (List (List Int))) : Option (Bool) :=
 (laws_eqIntS a.1 b.1).bind fun r1 =>
  if !r1 then
   some false
  else
   (laws_eqRelation (a.2.1, a.2.2) (b.2.1, b.2.2)).bind fun r2 =>
    if !r2 then
     some false
    else
     some true
def laws_eqConstraintS_L4 : Nat → ((List ((List Int) × Int × (List (List Int)))) × (List ((List Int) × Int × (List (List Int)))) × Int) → Option ((Unit) ⊕ (Bool))
 | 0, _ => none
 | n + 1, (a, b, i) =>
  if decide (i < (a.length : Int)) then
   if inb i a then
    if inb i b then
     (laws_eqConstraint (gd a i ([], (0, []))) (gd b i ([], (0, [])))).bind fun r1 =>
      if !r1 then
       some (.inr false)
      else
       laws_eqConstraintS_L4 n (a, b, w64 (i + 1))
    else none
   else none
  else
   some (.inl ())
def laws_eqConstraintS (a : List ((List Int) × Int × (List (List Int)))) (b : List ((List Int) × Int × (List (List Int)))) : Option (Bool) :=
 if (a.length : Int) != (b.length : Int) then
  some false
 else
  (laws_eqConstraintS_L4 fuel (a, b, 0)).bind fun s1 =>
   match s1 with
   | .inl s2 =>
    some true
   | .inr s3 =>
    some s3
def laws_eqNetwork (a : Int × Int × (List ((List Int) × Int × (List (List Int))))) (b : Int × Int × (List ((List Int) × Int × (List (List Int))))) : Option (Bool) :=
 if a.1 != b.1 then
  some false
 else
  if a.2.1 != b.2.1 then
   some false
  else
   (laws_eqConstraintS a.2.2 b.2.2).bind fun r1 =>
    if !r1 then
     some false
    else
     some true
def laws_markIntS_L2 : Nat → ((List Int) × Int × Int) → Option ((List Int) × Int)
 | 0, _ => none
 | n + 1, (a, k, i) =>
  if decide (i < (a.length : Int)) then
   if inb i a then
    laws_markIntS_L2 n (stt a i k, w64 (k + 1), w64 (i + 1))
   else none
  else
   some (a, k)
def laws_markIntS (a : List Int) (k : Int) : Option ((List Int) × Int) :=
 (laws_markIntS_L2 fuel (a, k, 0)).bind fun s1 =>
  some (s1.1, s1.2)
def laws_markIntSS_L2 : Nat → ((List (List Int)) × Int × Int) → Option ((List (List Int)) × Int)
 | 0, _ => none
 | n + 1, (a, k, i) =>
  if decide (i < (a.length : Int)) then
   if inb i a then
    (laws_markIntS (gd a i []) k).bind fun r1 =>
     laws_markIntSS_L2 n (stt a i r1.1, r1.2, w64 (i + 1))
   else none
  else
   some (a, k)
def laws_markIntSS (a : List (List Int)) (k : Int) : Option ((List (List Int)) × Int) :=
 (laws_markIntSS_L2 fuel (a, k, 0)).bind fun s1 =>
  some (s1.1, s1.2)
def laws_markConstraintS_L2 : Nat → ((List ((List Int) × Int × (List (List Int)))) × Int × Int) → Option ((List ((List Int) × Int × (List (List Int)))) × Int)
 | 0, _ => none
 | n + 1, (a, k, i) =>
  if decide (i < (a.length : Int)) then
   if inb i a then
    (laws_markIntS ((gd a i ([], (0, []))).1) k).bind fun r1 =>
     if inb i (stt a i (r1.1, (gd a i ([], (0, []))).2)) then
      if inb i (stt (stt a i (r1.1, (gd a i ([], (0, []))).2)) i ((gd (stt a i (r1.1, (gd a i ([], (0, []))).2)) i ([], (0, []))).1, (r1.2, ((gd (stt a i (r1.1, (gd a i ([], (0, []))).2)) i ([], (0, []))).2).2))) then
       (laws_markIntSS (((gd (stt (stt a i (r1.1, (gd a i ([], (0, []))).2)) i ((gd (stt a i (r1.1, (gd a i ([], (0, []))).2)) i ([], (0, []))).1, (r1.2, ((gd (stt a i (r1.1, (gd a i ([], (0, []))).2)) i ([], (0, []))).2).2))) i ([], (0, []))).2).2) (w64 (r1.2 + 1))).bind fun r2 =>
        laws_markConstraintS_L2 n (stt (stt (stt a i (r1.1, (gd a i ([], (0, []))).2)) i ((gd (stt a i (r1.1, (gd a i ([], (0, []))).2)) i ([], (0, []))).1, (r1.2, ((gd (stt a i (r1.1, (gd a i ([], (0, []))).2)) i ([], (0, []))).2).2))) i ((gd (stt (stt a i (r1.1, (gd a i ([], (0, []))).2)) i ((gd (stt a i (r1.1, (gd a i ([], (0, []))).2)) i ([], (0, []))).1, (r1.2, ((gd (stt a i (r1.1, (gd a i ([], (0, []))).2)) i ([], (0, []))).2).2))) i ([], (0, []))).1, (((gd (stt (stt a i (r1.1, (gd a i ([], (0, []))).2)) i ((gd (stt a i (r1.1, (gd a i ([], (0, []))).2)) i ([], (0, []))).1, (r1.2, ((gd (stt a i (r1.1, (gd a i ([], (0, []))).2)) i ([], (0, []))).2).2))) i ([], (0, []))).2).1, r2.1)), r2.2, w64 (i + 1))
      else none
     else none
   else none
  else
   some (a, k)
def laws_markConstraintS (a : List ((List Int) × Int × (List (List Int)))) (k : Int) : Option ((List ((List Int) × Int × (List (List Int)))) × Int) :=
 (laws_markConstraintS_L2 fuel (a, k, 0)).bind fun s1 =>
  some (s1.1, s1.2)
def laws_markNetwork (a : Int × (Int × (List ((List Int) × Int × (List (List Int)))))) (k : Int) : Option ((Unit × (Unit × (List ((List Int) × Int × (List (List Int)))))) × Int) :=
 (laws_markConstraintS a.2.2 k).bind fun r1 =>
  some (((), ((), r1.1)), r1.2)
def laws_heldIntS_L2 : Nat → ((List Int) × Int × Int) → Option ((Int) ⊕ (Int))
 | 0, _ => none
 | n + 1, (a, k, i) =>
  if decide (i < (a.length : Int)) then
   if inb i a then
    if (gd a i 0) != k then
     some (.inr (-1))
    else
     laws_heldIntS_L2 n (a, w64 (k + 1), w64 (i + 1))
   else none
  else
   some (.inl k)
def laws_heldIntS (a : List Int) (k : Int) : Option (Int) :=
 (laws_heldIntS_L2 fuel (a, k, 0)).bind fun s1 =>
  match s1 with
  | .inl s2 =>
   some s2
  | .inr s3 =>
   some s3
def laws_heldIntSS_L2 : Nat → ((List (List Int)) × Int × Int) → Option ((Int) ⊕ (Int))
 | 0, _ => none
 | n + 1, (a, k, i) =>
  if decide (i < (a.length : Int)) then
   if inb i a then
    (laws_heldIntS (gd a i []) k).bind fun r1 =>
     if decide (r1 < 0) then
      some (.inr (-1))
     else
      laws_heldIntSS_L2 n (a, r1, w64 (i + 1))
   else none
  else
   some (.inl k)
def laws_heldIntSS (a : List (List Int)) (k : Int) : Option (Int) :=
 (laws_heldIntSS_L2 fuel (a, k, 0)).bind fun s1 =>
  match s1 with
  | .inl s2 =>
   some s2
  | .inr s3 =>
   some s3
end T
open Go Go.Va
namespace T
theorem szX {α : Type} (xs : List α) (f : α → Int → Option Int) (tot : α → Nat) (L : Nat → Int → Int → Option (Int ⊕ Int))
    (hf : ∀ a ∈ xs, ∀ s, 0 ≤ s → s ≤ 1099511627775 → f a s = some (szR (tot a) s))
    (hs : ∀ n s (k : Nat) (hk : k < xs.length), L (n + 1) s k = (f xs[k] s).bind fun q => if q < 0 then some (.inr (-1)) else L n q ((k + 1 : Nat) : Int))
    (he : ∀ n s, L (n + 1) s (xs.length : Nat) = some (.inl s)) : ∀ (n k : Nat) (s : Int), k ≤ xs.length → xs.length - k < n → 0 ≤ s → s ≤ 1099511627775 →
      L n s k = some (if (((xs.drop k).map tot).sum : Int) ≤ s then .inl (s - ((xs.drop k).map tot).sum) else .inr (-1)) := by
  intro n
  induction n with
  | zero => intro k s _ h; omega
  | succ n ih =>
    intro k s hk hn h0 h1
    rcases Nat.lt_or_ge k xs.length with hlt | hge
    · rw [hs n s k hlt, hf _ (List.getElem_mem hlt) s h0 h1, List.drop_eq_getElem_cons hlt, List.map_cons, List.sum_cons]
      unfold szR
      simp only [Option.bind_some]
      by_cases h : (tot xs[k] : Int) ≤ s
      · rw [if_pos h, if_neg (by omega), ih (k + 1) _ hlt (by omega) (by omega) (by omega)]
        congr 1
        by_cases h2 : ((((xs.drop (k + 1)).map tot).sum : Nat) : Int) ≤ s - tot xs[k]
        · rw [if_pos h2, if_pos (by omega)]; congr 1; omega
        · rw [if_neg h2, if_neg (by omega)]
      · rw [if_neg h, if_pos (by omega), if_neg (by omega)]
    · have : k = xs.length := by omega
      subst this
      rw [he, List.drop_length]; simp [h0]
theorem szX0 {α : Type} (xs : List α) (f : α → Int → Option Int) (tot : α → Nat) (L : Nat → Int → Int → Option (Int ⊕ Int)) (g : Option Int) {left : Int} (h0 : 0 ≤ left) (h1 : left ≤ 1099511627775)
    (hf : ∀ a ∈ xs, ∀ s, 0 ≤ s → s ≤ 1099511627775 → f a s = some (szR (tot a) s)) (hx : xs.length ≤ 9223372036854775807)
    (hs : ∀ n s (k : Nat) (hk : k < xs.length), k < 4611686018427387904 → L (n + 1) s k = (f xs[k] s).bind fun q => if q < 0 then some (.inr (-1)) else L n q ((k + 1 : Nat) : Int))
    (he : ∀ n s, L (n + 1) s (xs.length : Nat) = some (.inl s))
    (hg : g = if decide (w64 (left - (xs.length : Int)) < 0) then some (-1) else (L fuel (w64 (left - (xs.length : Int))) 0).bind fun s1 => match s1 with | .inl s2 => some s2 | .inr s3 => some s3) :
    g = some (szR (xs.length + (xs.map tot).sum) left) := by
  rw [hg, w64_id (by omega) (by omega)]
  by_cases h : (xs.length : Int) ≤ left
  · rw [if_neg (by simp; omega)]
    have := szX xs f tot L hf (fun n s k hk => hs n s k hk (by omega)) he fuel 0 (left - xs.length) (by omega) (by unfold fuel; omega) (by omega) (by omega)
    rw [show ((0 : Nat) : Int) = 0 from rfl, List.drop_zero] at this
    rw [this]
    unfold szR
    by_cases h2 : (((xs.map tot).sum : Nat) : Int) ≤ left - xs.length
    · rw [if_pos h2, if_pos (by omega)]
      simp only [Option.bind_some, Option.some.injEq]; omega
    · rw [if_neg h2, if_neg (by omega)]; rfl
  · rw [if_pos (by simp; omega)]
    unfold szR
    rw [if_neg (by omega)]
theorem sum_mem {α : Type} (tot : α → Nat) : ∀ {l : List α} {a : α}, a ∈ l → tot a ≤ (l.map tot).sum
 | x :: l, a, h => by
  rw [List.map_cons, List.sum_cons]
  rcases List.mem_cons.1 h with rfl | h
  ·omega
  ·have := sum_mem tot h; omega
theorem toX {α : Type} (xs : List α) (f : α → Option α) (d : α) (L : Nat → List α → Int → Option (List α)) (g : Option (List α)) (hx : xs.length ≤ 1048576) (hf : ∀ a ∈ xs, f a = some a)
    (hs : ∀ n (out : List α) (k : Nat) (hk : k < xs.length), out.length = xs.length → k < 4611686018427387904 → L (n + 1) out k = (f xs[k]).bind fun r => L n (out.set k r) ((k + 1 : Nat) : Int))
    (he : ∀ n out, out.length = xs.length → L (n + 1) out (xs.length : Nat) = some out)
    (hg : g = if 0 ≤ (xs.length : Int) ∧ (xs.length : Int) ≤ (xs.length : Int) ∧ (xs.length : Int) ≤ lim then (L fuel (List.replicate (Int.toNat (xs.length : Int)) d) 0).bind some else none) : g = some xs := by
  rw [hg, if_pos (by unfold lim; omega)]
  have key := fillX0 xs L id some (fun n out k hk hl => by rw [hs n out k hk hl (by omega), hf _ (List.getElem_mem hk)]; rfl) he (n := fuel) (out := List.replicate (Int.toNat (xs.length : Int)) d) (by simp) (by unfold fuel; omega)
  rw [key]; simp
theorem eqXX {α : Type} [DecidableEq α] (a b : List α) (f : α → α → Option Bool) (L : Nat → Int → Option (Unit ⊕ Bool)) (g : Option Bool) (hx : a.length ≤ 1048576) (hf : ∀ x ∈ a, ∀ y, f x y = some (decide (x = y)))
    (hs : ∀ n (k : Nat) (h1 : k < a.length) (h2 : k < b.length), k < 4611686018427387904 → L (n + 1) k = (f a[k] b[k]).bind fun r => if !r then some (.inr false) else L n ((k + 1 : Nat) : Int))
    (he : ∀ n, L (n + 1) (a.length : Nat) = some (.inl ()))
    (hg : g = if (a.length : Int) != (b.length : Int) then some false else (L fuel 0).bind fun s1 => match s1 with | .inl _ => some true | .inr s3 => some s3) : g = some (decide (a = b)) := by
  rw [hg]
  by_cases hl : a.length = b.length
  · rw [if_neg (by simp [hl]), eqX a b hl L (fun n k h1 h2 => ?_) he (by unfold fuel; omega)]
    · by_cases h : a = b <;> simp [h]
    · rw [hs n k h1 h2 (by omega), hf _ (List.getElem_mem h1)]
      by_cases h : a[k] = b[k] <;> simp [h]
  · rw [if_pos (by simp; omega), decide_eq_false (fun e => hl (by rw [e]))]
abbrev Con := List Int × Int × List (List Int)
abbrev Net := Int × Int × List Con
def rowsS (a : List (List Int)) : Prop := a.length ≤ 1048576 ∧ ∀ r ∈ a, r.length ≤ 1048576
def conS (c : Con) : Prop := c.1.length ≤ 1048576 ∧ rowsS c.2.2
def netS (a : Net) : Prop := a.2.2.length ≤ 1048576 ∧ ∀ c ∈ a.2.2, conS c
abbrev netT : Ty := .pair .int (.pair .int (.slice (.pair (.slice .int) (.pair .int (.slice (.slice .int))))))
def totC (c : Con) : Nat := c.1.length + totSS c.2.2
def totN (a : Net) : Nat := a.2.2.length + (a.2.2.map totC).sum
theorem szConstraint_ok {c : Con} {s : Int} (h0 : 0 ≤ s) (h1 : s ≤ 1099511627775) (h : c.1.length ≤ 9223372036854775807) (h2 : c.2.2.length ≤ 9223372036854775807) (hr : ∀ r ∈ c.2.2, r.length ≤ 9223372036854775807) :
    laws_szConstraint c s = some (szR (totC c) s) := by
  unfold laws_szConstraint
  rw [szIntS_ok h0 (by omega) h]
  unfold szR totC
  simp only [Option.bind_some]
  by_cases hc : (c.1.length : Int) ≤ s
  · rw [if_pos hc, if_neg (by simp; omega)]
    unfold laws_szRelation
    rw [szIntSS_ok (by omega) (by omega) h2 hr]
    unfold szR
    by_cases hd : (totSS c.2.2 : Int) ≤ s - c.1.length
    · rw [if_pos hd, if_pos (by omega)]
      simp only [Option.bind_some]
      rw [if_neg (by simp; omega)]
      simp only [Option.bind_some]
      rw [if_neg (by simp; omega)]
      congr 1; omega
    · rw [if_neg hd, if_neg (show ¬ ((c.1.length + totSS c.2.2 : Nat) : Int) ≤ s by push_cast; omega)]; rfl
  · rw [if_neg hc, if_neg (show ¬ ((c.1.length + totSS c.2.2 : Nat) : Int) ≤ s by push_cast; omega)]; rfl
theorem szNetwork_ok {a : Net} (h : wfT netT a) : laws_szNetwork a 1048576 = some (szR (totN a) 1048576) := by
 unfold laws_szNetwork
 have hc : ∀ c ∈ a.2.2, c.1.length ≤ 9223372036854775807 ∧ c.2.2.length ≤ 9223372036854775807 ∧ ∀ r ∈ c.2.2, r.length ≤ 9223372036854775807 := fun c hc => by
  have := h.2.2.2 c hc
  exact ⟨this.1.1, this.2.2.1, fun r hr => (this.2.2.2 r hr).1⟩
 have key : laws_szConstraintS a.2.2 1048576 = some (szR (totN a) 1048576) := by
  refine szX0 a.2.2 laws_szConstraint totC (fun n s i => laws_szConstraintS_L5 n (a.2.2, s, i)) _ (by omega) (by omega) (fun c hm s h0 h1 => szConstraint_ok h0 h1 (hc c hm).1 (hc c hm).2.1 (hc c hm).2.2) h.2.2.1 (fun n s k hk hk4 => ?_) (fun n s => ?_) rfl
  ·simp only [laws_szConstraintS_L5, inb_nat, gd_nat hk, w64_succ hk4]
   simp [hk]
  ·simp [laws_szConstraintS_L5]
 rw [key]
 unfold szR
 split
 ·simp only [Option.bind_some]; rw [if_neg (by simp; omega)]
 ·rfl
theorem szNetwork_small {a : Net} (h : ¬ szR (totN a) 1048576 < 0) : netS a ∧ totN a ≤ 1048576 := by
 unfold szR at h
 split at h
 ·refine ⟨⟨by unfold totN at *; omega, fun c hc => ?_⟩, by omega⟩
  have h1 := sum_mem totC hc
  have h2 : totC c ≤ 1048576 := by unfold totN at *; omega
  unfold totC totSS at h2
  exact ⟨by omega, by omega, fun r hr => by have := mem_sum hr; omega⟩
 ·omega
theorem toConstraint_ok {c : Con} (h : conS c) : laws_toConstraint c = some c := by
 unfold laws_toConstraint laws_toRelation
 rw [toIntS_ok (by have := h.1; omega)]
 dsimp only
 rw [toIntSS_ok (by have := h.2.1; omega) fun r hr => by have := h.2.2 r hr; omega]
 rfl
theorem toNetwork_ok {a : Net} (h : netS a) : laws_toNetwork a = some a := by
 unfold laws_toNetwork
 have key : laws_toConstraintS a.2.2 = some a.2.2 := by
  refine toX a.2.2 laws_toConstraint ([], (0, [])) (fun n out i => laws_toConstraintS_L3 n (a.2.2, out, i)) _ h.1 (fun c hc => toConstraint_ok (h.2 c hc)) (fun n out k hk hl hk4 => ?_) (fun n out hl => ?_) rfl
  ·simp only [laws_toConstraintS_L3, inb_nat, gd_nat hk, stt_nat, w64_succ hk4]
   simp [hk, hl]
  ·simp [laws_toConstraintS_L3]
 rw [key]; rfl
theorem eqConstraint_ok {a b : Con} (h : conS a) : laws_eqConstraint a b = some (decide (a = b)) := by
 unfold laws_eqConstraint laws_eqRelation
 rw [eqIntS_ok (by have := h.1; omega)]
 dsimp only
 rw [eqIntSS_ok (by have := h.2.1; omega) fun r hr => by have := h.2.2 r hr; omega]
 obtain ⟨a1, a2, a3⟩ := a
 obtain ⟨b1, b2, b3⟩ := b
 by_cases h1 : a1 = b1
 ·by_cases h2 : a2 = b2
  ·by_cases h3 : a3 = b3 <;> simp [h1, h2, h3]
  ·simp [h1, h2]
 ·simp [h1]
theorem eqNetwork_ok {a b : Net} (h : netS a) : laws_eqNetwork a b = some (decide (a = b)) := by
 unfold laws_eqNetwork
 have key : laws_eqConstraintS a.2.2 b.2.2 = some (decide (a.2.2 = b.2.2)) := by
  refine eqXX a.2.2 b.2.2 laws_eqConstraint (fun n i => laws_eqConstraintS_L4 n (a.2.2, b.2.2, i)) _ h.1 (fun c hc y => eqConstraint_ok (h.2 c hc)) (fun n k h1 h2 hk4 => ?_) (fun n => ?_) rfl
  ·simp only [laws_eqConstraintS_L4, inb_nat, gd_nat h1, gd_nat h2, w64_succ hk4]
   simp [h1, h2]
  ·simp [laws_eqConstraintS_L4]
 rw [key]
 obtain ⟨a1, a2, a3⟩ := a
 obtain ⟨b1, b2, b3⟩ := b
 by_cases h1 : a1 = b1
 ·by_cases h2 : a2 = b2
  ·by_cases h3 : a3 = b3 <;> simp [h1, h2, h3]
  ·simp [h1, h2]
 ·simp [h1]
def relB (n : Int) (r : Int × List (List Int)) : Bool := decide (1 ≤ r.1 ∧ r.1 ≤ 3) && (r.2.all fun t => decide ((t.length : Int) = r.1) && belowB n t) && incB r.2
def tupAt (n : Int) (r : Int × List (List Int)) (k : Nat) : Bool := decide (((r.2.getD k []).length : Int) = r.1) && belowB n (r.2.getD k []) && (decide (k = 0) || decide (cmpL (r.2.getD (k - 1) []) (r.2.getD k []) < 0))
theorem getD_of {α : Type} {l : List α} {k : Nat} {d : α} (h : k < l.length) : l.getD k d = l[k] := by simp [List.getD_eq_getElem?_getD, h]
theorem tupAt_all {n ar : Int} {ts : List (List Int)} : (List.range ts.length).all (tupAt n (ar, ts)) = ((ts.all fun t => decide ((t.length : Int) = ar) && belowB n t) && incB ts) := by
 rw [Bool.eq_iff_iff, Bool.and_eq_true, List.all_eq_true, List.all_eq_true, incB_iff]
 unfold tupAt
 constructor
 ·intro h
  refine ⟨fun t ht => ?_, fun i hi => ?_⟩
  ·obtain ⟨k, hk, rfl⟩ := List.getElem_of_mem ht
   have := h k (List.mem_range.2 hk)
   rw [getD_of hk] at this
   simp only [Bool.and_eq_true] at this
   rw [Bool.and_eq_true]; exact this.1
  ·have := h (i + 1) (List.mem_range.2 hi)
   rw [getD_of hi, Nat.add_sub_cancel, getD_of (show i < ts.length by omega)] at this
   simp at this
   exact this.2
 ·rintro ⟨h1, h2⟩ k hk
  have hk := List.mem_range.1 hk
  have e := h1 _ (List.getElem_mem hk)
  rw [getD_of hk]
  rw [Bool.and_eq_true] at e
  rw [Bool.and_eq_true, Bool.and_eq_true]
  refine ⟨e, ?_⟩
  cases k with
  | zero => simp
  | succ i =>
   have := h2 i hk
   rw [Nat.add_sub_cancel, getD_of (show i < ts.length by omega)]
   simp [this]
theorem impl_isRelation_ok {n : Int} {r : Int × List (List Int)} (h : rowsS r.2) : impl_isRelation n r = some (relB n r) := by
 obtain ⟨ar, ts⟩ := r
 unfold impl_isRelation relB
 by_cases h1 : ar < 1
 ·simp [h1, show ¬ 1 ≤ ar by omega]
 ·by_cases h2 : ar > 3
  ·simp [h1, h2, show ¬ ar ≤ 3 by omega]
  ·rw [if_neg (by simpa using h1), if_neg (by simpa using h2)]
   have key := forA ts.length (fun m (_ : Unit) i => impl_isRelation_L4 m (n, (ar, ts), ts, (ts.length : Int), i)) (fun _ => ()) (tupAt n (ar, ts)) (r := some (.inr false)) (e := some (.inl ())) (fun m k hk => ?_) (fun m => ?_) (n := fuel) (by unfold fuel; have := h.1; simp at this; omega)
   ·rw [key, tupAt_all]
    simp only [show (1 ≤ ar ∧ ar ≤ 3) = True by simp; omega, decide_true, Bool.true_and]
    cases (ts.all fun t => decide ((t.length : Int) = ar) && belowB n t) && incB ts <;> simp
   ·have hx := h.2 ts[k] (List.getElem_mem hk)
    have hk' := h.1
    simp only at hk'
    simp only [impl_isRelation_L4, inb_nat, gd_nat hk, w64_succ (show k < 4611686018427387904 by omega), impl_inSize_ok n (show ts[k].length ≤ 1099511627775 by omega), tupAt, getD_of hk]
    by_cases hl : (ts[k].length : Int) = ar
    ·cases hb : belowB n ts[k] with
     | false => simp [hk, hl]
     | true =>
      cases k with
      | zero => simp [hk, hl]
      | succ i =>
       have hi : i < ts.length := by omega
       have hx2 := h.2 ts[i] (List.getElem_mem hi)
       have e : w64 (((i + 1 : Nat) : Int) - 1) = (i : Int) := by rw [w64_id (by omega) (by omega)]; omega
       simp only [e, inb_nat, gd_nat hi, Nat.add_sub_cancel, getD_of hi, impl_compareLists_ok (show ts[i].length ≤ 1099511627775 by omega)]
       by_cases hc : cmpL ts[i] ts[i + 1] < 0
       ·simp [hk, hl, hi, hc, show ¬ cmpL ts[i] ts[i + 1] ≥ 0 by omega]; omega
       ·simp [hk, hl, hi, hc, show cmpL ts[i] ts[i + 1] ≥ 0 by omega]; omega
    ·simp [hk, hl]
   ·simp [impl_isRelation_L4]
theorem spec_l13Good_ok {n : Int} {r : Int × List (List Int)} (h : rowsS r.2) (hn : 1 ≤ n ∧ n ≤ 8) : spec_l13Good n r = some (relB n r) := by
 obtain ⟨ar, ts⟩ := r
 unfold spec_l13Good relB
 rw [spec_l1In_ok]
 by_cases h1 : 1 ≤ ar ∧ ar ≤ 3
 ·simp only [h1, and_self, decide_true, Option.bind_some, Bool.not_true, Bool.false_eq_true, if_false, Bool.true_and]
  obtain ⟨m, rfl⟩ : ∃ m : Nat, ar = m := ⟨ar.toNat, by omega⟩
  rw [spec_l2Pow_ok (by omega) (by omega) (by omega)]
  simp only [Option.bind_some]
  have key := forB ts.length (fun m' (_ : Unit) i => spec_l13Good_L4 m' (n, ((m : Int), ts), i)) (fun _ => ()) (tupAt n ((m : Int), ts)) (r := some (.inr false)) (e := some (.inl ())) (fun m' k hk hb0 => ?_) (fun m' _ => ?_) (n := fuel) (by unfold fuel; have := h.1; simp at this; omega)
  ·by_cases hc : (ts.length : Int) > n ^ m
   ·rw [if_pos (by simpa using hc)]
    by_cases hv : ((ts.all fun t => decide ((t.length : Int) = m) && belowB n t) && incB ts) = true
    ·rw [Bool.and_eq_true, List.all_eq_true] at hv
     rcases inc_count (k := m) hv.2 fun t ht => by have := hv.1 t ht; simp at this; exact ⟨by omega, this.2⟩ with h2 | h2
     ·omega
     ·subst h2
      have := pow_bd (n := n) (by omega) (by omega) (k := m) (by omega)
      simp at hc; omega
    ·simp only [Bool.not_eq_true] at hv; rw [hv]
   ·rw [if_neg (by simpa using hc), key, tupAt_all]
    cases (ts.all fun t => decide ((t.length : Int) = m) && belowB n t) && incB ts <;> simp
  ·have hx := h.2 ts[k] (List.getElem_mem hk)
   have hk' := h.1
   simp only at hk'
   simp only [spec_l13Good_L4, inb_nat, gd_nat hk, w64_succ (show k < 4611686018427387904 by omega), spec_l8Tuple_ok (n := n) _ (by omega) (by omega) (show ts[k].length ≤ 1099511627775 by omega), tupAt, getD_of hk]
   by_cases hl : (ts[k].length : Int) = m
   ·cases hb : belowB n ts[k] with
    | false => simp [hk, hl]
    | true =>
     cases k with
     | zero => simp [hk, hl]
     | succ i =>
      have hi : i < ts.length := by omega
      have hx2 := h.2 ts[i] (List.getElem_mem hi)
      have e : w64 (((i + 1 : Nat) : Int) - 1) = (i : Int) := by rw [w64_id (by omega) (by omega)]; omega
      simp only [e, inb_nat, gd_nat hi, Nat.add_sub_cancel, getD_of hi]
      have hb1 := hb0 i (by omega)
      simp only [tupAt, getD_of hi, Bool.and_eq_true, decide_eq_true_eq] at hb1
      rw [spec_l3Less_ok (s := ts[i]) (t := ts[i + 1]) (by omega) (by have := hb1.1.1; omega)]
      by_cases hc : cmpL ts[i] ts[i + 1] < 0
      ·simp [hk, hl, hi, hc]; omega
      ·simp [hk, hl, hi, hc]; omega
   ·simp [hk, hl]
  ·simp [spec_l13Good_L4]
 ·have : ¬ (1 ≤ ar ∧ ar ≤ 3) := h1
  simp [this]
end T
open Go Go.Va
namespace T
def conB (v n : Int) (c : Con) : Bool := relB n (c.2.1, c.2.2) && decide ((c.1.length : Int) = c.2.1) && belowB v c.1
def netB (a : Net) : Bool := decide (0 ≤ a.1 ∧ a.1 ≤ 9) && decide (1 ≤ a.2.1 ∧ a.2.1 ≤ 4) && decide (a.2.2.length ≤ 40) && a.2.2.all (conB a.1 a.2.1)
theorem impl_isConstraint_ok {v n : Int} {c : Con} (h : conS c) : impl_isConstraint v n c = some (conB v n c) := by
 unfold impl_isConstraint conB
 rw [impl_isRelation_ok (r := (c.2.1, c.2.2)) h.2]
 cases relB n (c.2.1, c.2.2) with
 | false => simp
 | true =>
  by_cases hl : (c.1.length : Int) = c.2.1
  ·simp [hl, impl_inSize_ok v (show c.1.length ≤ 1099511627775 by have := h.1; omega)]
  ·simp [hl]
theorem spec_l19Is_ok {v n : Int} {c : Con} (h : conS c) (hv : 0 ≤ v ∧ v ≤ 9) (hn : 1 ≤ n ∧ n ≤ 8) : spec_l19Is v n c = some (conB v n c) := by
 unfold spec_l19Is conB
 rw [spec_l13Good_ok (r := (c.2.1, c.2.2)) h.2 hn]
 cases relB n (c.2.1, c.2.2) with
 | false => simp
 | true =>
  by_cases hl : (c.1.length : Int) = c.2.1
  ·simp [hl, spec_l2Elements_ok (l := c.1) (n := v) (by omega) (by omega) (show c.1.length ≤ 1099511627775 by have := h.1; omega)]
  ·simp [hl]
theorem impl_IsNetwork_ok {a : Net} (h : netS a) : impl_IsNetwork a = some (netB a) := by
 obtain ⟨v, n, cs⟩ := a
 unfold impl_IsNetwork netB
 by_cases h1 : v < 0
 ·simp [h1, show ¬ 0 ≤ v by omega]
 ·by_cases h2 : v > 9
  ·simp [h1, h2, show ¬ v ≤ 9 by omega]
  ·rw [if_neg (by simpa using h1), if_neg (by simpa using h2)]
   unfold impl_isTemplateSize
   by_cases h3 : 1 ≤ n ∧ n ≤ 4
   ·by_cases h4 : cs.length > 40
    ·simp [h3, show ¬ cs.length ≤ 40 by omega]; omega
    ·have key := allX cs (fun m i => impl_IsNetwork_L4 m ((v, (n, cs)), cs, (cs.length : Int), i)) (conB v n) (.inr false) (.inl ()) ?_ ?_ (n := fuel) (by unfold fuel; omega)
     ·simp only [h3, ge_iff_le, decide_true, if_true, Option.bind_some, Bool.not_true, Bool.false_eq_true, if_false]
      rw [if_neg (by simp; omega), key]
      cases cs.all (conB v n) <;> simp <;> omega
     ·intro m k hk
      simp only [impl_IsNetwork_L4, inb_nat, gd_nat hk, w64_succ (show k < 4611686018427387904 by omega), impl_isConstraint_ok (c := cs[k]) (h.2 _ (List.getElem_mem hk))]
      cases hb : conB v n cs[k] <;> simp [hk, hb]
     ·intro m
      simp [impl_IsNetwork_L4]
   ·by_cases h5 : n ≥ 1
    ·simp [h5, show ¬ n ≤ 4 by omega]
    ·simp [h5, show ¬ 1 ≤ n by omega]
theorem spec_l19Good_ok {a : Net} (h : netS a) : spec_l19Good a = some (netB a) := by
 obtain ⟨v, n, cs⟩ := a
 unfold spec_l19Good netB
 rw [spec_l1In_ok, spec_l1In_ok]
 by_cases h1 : 0 ≤ v ∧ v ≤ 9
 ·by_cases h3 : 1 ≤ n ∧ n ≤ 4
  ·by_cases h4 : cs.length > 40
   ·simp [h1, h3, show ¬ cs.length ≤ 40 by omega]; omega
   ·have key := allX cs (fun m i => spec_l19Good_L4 m ((v, (n, cs)), i)) (conB v n) (.inr false) (.inl ()) ?_ ?_ (n := fuel) (by unfold fuel; omega)
    ·simp only [h1, h3, and_self, decide_true, Option.bind_some, Bool.not_true, Bool.false_eq_true, if_false]
     rw [if_neg (by simp; omega), key]
     cases cs.all (conB v n) <;> simp <;> omega
    ·intro m k hk
     simp only [spec_l19Good_L4, inb_nat, gd_nat hk, w64_succ (show k < 4611686018427387904 by omega), spec_l19Is_ok (c := cs[k]) (h.2 _ (List.getElem_mem hk)) h1 (show 1 ≤ n ∧ n ≤ 8 by omega)]
     cases hb : conB v n cs[k] <;> simp [hk, hb]
    ·intro m
     simp [spec_l19Good_L4]
  ·simp [h1, h3]
 ·simp [h1]
structure ConOk (v n : Int) (c : Con) : Prop where
 ar : 1 ≤ c.2.1 ∧ c.2.1 ≤ 3
 sl : (c.1.length : Int) = c.2.1
 sv : ∀ (i : Nat) (hi : i < c.1.length), 0 ≤ c.1[i] ∧ c.1[i] < v
 tl : ∀ t ∈ c.2.2, t.length = c.1.length
 tv : ∀ t ∈ c.2.2, ∀ (i : Nat) (hi : i < t.length), 0 ≤ t[i] ∧ t[i] < n
 inc : incB c.2.2 = true
 many : c.2.2.length ≤ 64
structure NetOk (a : Net) : Prop where
 hv : 0 ≤ a.1 ∧ a.1 ≤ 9
 hn : 1 ≤ a.2.1 ∧ a.2.1 ≤ 4
 hc : a.2.2.length ≤ 40
 con : ∀ c ∈ a.2.2, ConOk a.1 a.2.1 c
theorem con_of {v n : Int} {c : Con} (hn : 1 ≤ n ∧ n ≤ 4) (h : conB v n c = true) : ConOk v n c := by
 unfold conB relB at h
 simp only [Bool.and_eq_true, decide_eq_true_eq, List.all_eq_true] at h
 obtain ⟨⟨⟨⟨h1, h2⟩, h3⟩, h4⟩, h5⟩ := h
 refine ⟨h1, h4, fun i hi => belowB_get h5 i hi, fun t ht => by have := (h2 t ht).1; omega, fun t ht i hi => belowB_get (h2 t ht).2 i hi, h3, ?_⟩
 rcases inc_count (n := n) (k := c.2.1.toNat) h3 fun t ht => ⟨by have := (h2 t ht).1; omega, (h2 t ht).2⟩ with h6 | h6
 ·have : n ^ c.2.1.toNat ≤ 64 := by
   have h7 : c.2.1.toNat = 1 ∨ c.2.1.toNat = 2 ∨ c.2.1.toNat = 3 := by omega
   have h8 : n = 1 ∨ n = 2 ∨ n = 3 ∨ n = 4 := by omega
   rcases h7 with h7 | h7 | h7 <;> rcases h8 with h8 | h8 | h8 | h8 <;> rw [h7, h8] <;> decide
  omega
 ·rw [h6]; simp
theorem net_of {a : Net} (h : netB a = true) : NetOk a := by
 unfold netB at h
 simp only [Bool.and_eq_true, decide_eq_true_eq, List.all_eq_true] at h
 obtain ⟨⟨⟨h1, h2⟩, h3⟩, h4⟩ := h
 exact ⟨h1, h2, h3, fun c hc => con_of h2 (h4 c hc)⟩
end T
open Go Go.Va
namespace T
def g0 (l : List Int) (i : Nat) : Int := l.getD i 0
section
variable {v n up : Int} {c : Con} {vals : List Int}
theorem spec_l1Own_ok {l : List Int} (h : l.length ≤ 1099511627775) : spec_l1Own l = some l := by
 unfold spec_l1Own
 rw [if_pos (by unfold lim; simp; omega)]; simp
end
end T
open Go Go.Va
namespace T
theorem getD_set_of {α : Type} {l : List α} {i j : Nat} {y d : α} : (l.set i y).getD j d = if i = j ∧ j < l.length then y else l.getD j d := by
 simp only [List.getD_eq_getElem?_getD, List.getElem?_set]
 by_cases h : i = j
 ·subst h
  by_cases h2 : i < l.length
  ·simp [h2]
  ·simp [h2]
 ·simp [h]
end T
open Go Go.Va
namespace T
def mkL {α : Type} (f : α → Int → α × Int) : List α → Int → List α × Int
 | [], k => ([], k)
 | x :: l, k => ((f x k).1 :: (mkL f l (f x k).2).1, (mkL f l (f x k).2).2)
theorem mkL_snoc {α : Type} (f : α → Int → α × Int) : ∀ (l : List α) (x : α) (k : Int), mkL f (l ++ [x]) k = ((mkL f l k).1 ++ [(f x (mkL f l k).2).1], (f x (mkL f l k).2).2)
 | [], x, k => by simp [mkL]
 | y :: l, x, k => by
  simp only [List.cons_append, mkL]
  rw [mkL_snoc f l x]
theorem mkL_len {α : Type} (f : α → Int → α × Int) : ∀ (l : List α) (k : Int), (mkL f l k).1.length = l.length
 | [], _ => rfl
 | x :: l, k => by simp [mkL, mkL_len f l]
theorem mkL_far {α : Type} {f : α → Int → α × Int} {w : α → Nat} : ∀ (l : List α) (k : Int), (∀ x ∈ l, ∀ k, (f x k).2 = k + w x) → (mkL f l k).2 = k + ((l.map w).sum : Nat)
 | [], k, _ => by simp [mkL]
 | x :: l, k, h => by
  simp only [mkL, List.map_cons, List.sum_cons]
  rw [mkL_far l _ fun y hy => h y (List.mem_cons_of_mem _ hy), h x (by simp)]; push_cast; omega
theorem markX {α β : Type} (N : Nat) (L : Nat → List α → Int → Int → Option β) (f : α → Int → α × Int) (w : α → Nat) (B : Int) (fin : List α → Int → Option β) (xs : List α) (k0 : Int) (hN : xs.length = N) (hw : ∀ x ∈ xs, ∀ k, (f x k).2 = k + w x)
    (h0 : 0 ≤ k0) (hB : k0 + ((xs.map w).sum : Nat) ≤ B)
    (hs : ∀ n (a : List α) (k : Int) (i : Nat) (hi : i < N) (hl : a.length = N), a[i]'(by omega) ∈ xs → 0 ≤ k → k + w (a[i]'(by omega)) ≤ B → L (n + 1) a k i = L n (a.set i (f (a[i]'(by omega)) k).1) (f (a[i]'(by omega)) k).2 ((i + 1 : Nat) : Int))
    (he : ∀ n a k, a.length = N → L (n + 1) a k (N : Nat) = fin a k) {n : Nat} (hn : N < n) : L n xs k0 0 = fin (mkL f xs k0).1 (mkL f xs k0).2 := by
  have far : ∀ i, i ≤ N → (mkL f (xs.take i) k0).2 = k0 + (((xs.take i).map w).sum : Nat) := fun i _ => mkL_far _ _ fun x hx => hw x (List.mem_of_mem_take hx)
  have := forS N (fun n (s : List α × Int) i => L n s.1 s.2 i) (fun i => ((mkL f (xs.take i) k0).1 ++ xs.drop i, (mkL f (xs.take i) k0).2)) (r := fin (mkL f xs k0).1 (mkL f xs k0).2) (fun n i hi => ?_) (fun n => ?_) hn
  · simpa [mkL] using this
  · have hix : i < xs.length := by omega
    have hlen : (mkL f (xs.take i) k0).1.length = i := by rw [mkL_len]; simp; omega
    have hl2 : ((mkL f (xs.take i) k0).1 ++ xs.drop i).length = N := by simp [hlen]; omega
    have hget : ((mkL f (xs.take i) k0).1 ++ xs.drop i)[i]'(by omega) = xs[i] := by
      rw [List.getElem_append_right (by omega)]; simp [hlen]
    have hsum : (((xs.take i).map w).sum : Nat) + w xs[i] ≤ (xs.map w).sum := by
      have h1 : xs = xs.take i ++ xs[i] :: xs.drop (i + 1) := by rw [← List.drop_eq_getElem_cons hix, List.take_append_drop]
      have h2 : (xs.map w).sum = ((xs.take i).map w).sum + (w xs[i] + ((xs.drop (i + 1)).map w).sum) := by
        conv => lhs; rw [h1]
        rw [List.map_append, List.sum_append, List.map_cons, List.sum_cons]
      omega
    have hf := far i (by omega)
    dsimp only
    rw [hs n _ _ i hi hl2 (by rw [hget]; exact List.getElem_mem hix) (by omega) (by rw [hget, hf]; omega), hget, List.take_succ_eq_append_getElem hix, mkL_snoc]
    congr 1
    rw [List.set_append_right _ _ (by omega), hlen, Nat.sub_self, List.drop_eq_getElem_cons hix, List.set_cons_zero, List.append_assoc]; rfl
  · dsimp only
    rw [List.take_of_length_le (by omega), List.drop_of_length_le (by omega), List.append_nil]
    exact he n _ _ (by rw [mkL_len]; exact hN)
theorem heldX {α : Type} (f : α → Int → α × Int) (h : α → Int → Option Int) (w : α → Nat) (B : Int) : ∀ (xs : List α) (k0 : Int) (L : Nat → Int → Int → Option (Int ⊕ Int)) (j : Nat), (∀ x ∈ xs, ∀ k, (f x k).2 = k + w x) → 0 ≤ k0 → k0 + ((xs.map w).sum : Nat) ≤ B →
    (∀ x ∈ xs, ∀ k, 0 ≤ k → k + w x ≤ B → h (f x k).1 k = some (f x k).2) →
    (∀ n k (i : Nat) (hi : i < xs.length), 0 ≤ k → k + w xs[i] ≤ B → L (n + 1) k ((j + i : Nat) : Int) = (h ((mkL f xs k0).1[i]'(by rw [mkL_len]; exact hi)) k).bind fun q => if q < 0 then some (.inr (-1)) else L n q ((j + i + 1 : Nat) : Int)) →
    (∀ n k, L (n + 1) k ((j + xs.length : Nat) : Int) = some (.inl k)) → ∀ n, xs.length < n → L n k0 (j : Int) = some (.inl (mkL f xs k0).2)
  | [], k0, L, j, _, _, _, _, _, he, n, hn => by
    obtain ⟨n, rfl⟩ : ∃ m, n = m + 1 := ⟨n - 1, by simp at hn; omega⟩
    have := he n k0
    simpa [mkL] using this
  | x :: xs, k0, L, j, hw, h0, hB, hh, hs, he, n, hn => by
    obtain ⟨n, rfl⟩ : ∃ m, n = m + 1 := ⟨n - 1, by simp at hn; omega⟩
    rw [List.map_cons, List.sum_cons] at hB
    have hx := hw x (by simp) k0
    have h1 := hs n k0 0 (by simp) h0 (by simp only [List.getElem_cons_zero]; omega)
    simp only [Nat.add_zero, mkL, List.getElem_cons_zero] at h1
    rw [h1, hh x (by simp) k0 h0 (by omega)]
    simp only [Option.bind_some]
    rw [if_neg (by omega)]
    have := heldX f h w B xs (f x k0).2 L (j + 1) (fun y hy => hw y (List.mem_cons_of_mem _ hy)) (by omega) (by rw [hx]; omega) (fun y hy => hh y (List.mem_cons_of_mem _ hy))
      (fun n k i hi hk0 hkB => by
        have := hs n k (i + 1) (by simpa using hi) hk0 (by simpa using hkB)
        simp only [mkL, List.getElem_cons_succ] at this
        rw [show j + 1 + i = j + (i + 1) by omega]; exact this)
      (fun n k => by have := he n k; rw [List.length_cons] at this; rw [show j + 1 + xs.length = j + (xs.length + 1) by omega]; exact this) n (by simp at hn; omega)
    exact this
abbrev BM : Int := 1152921504606846976
def mInt (_ : Int) (k : Int) : Int × Int := (k, k + 1)
def mIntS (l : List Int) (k : Int) : List Int × Int := mkL mInt l k
def mIntSS (l : List (List Int)) (k : Int) : List (List Int) × Int := mkL mIntS l k
theorem sum_one {α : Type} : ∀ (l : List α), (l.map fun _ => 1).sum = l.length
 | [] => rfl
 | _ :: l => by rw [List.map_cons, List.sum_cons, sum_one l, List.length_cons]; omega
theorem mIntS_far (l : List Int) (k : Int) : (mIntS l k).2 = k + (l.length : Nat) := by
 unfold mIntS
 rw [mkL_far (w := fun _ => 1) l k fun _ _ _ => rfl, sum_one]
theorem mIntSS_far (l : List (List Int)) (k : Int) : (mIntSS l k).2 = k + ((l.map List.length).sum : Nat) := by
 unfold mIntSS
 rw [mkL_far (w := List.length) l k fun x _ k => mIntS_far x k]
theorem markIntS_ok {l : List Int} {k : Int} (hl : l.length ≤ 1048576) (h0 : 0 ≤ k) (hB : k + l.length ≤ BM) : laws_markIntS l k = some (mIntS l k) := by
 unfold laws_markIntS
 have := markX l.length (fun n a k i => laws_markIntS_L2 n (a, k, i)) mInt (fun _ => 1) BM (fun a k => some (a, k)) l k rfl (fun _ _ _ => rfl) h0 (by rw [sum_one]; exact hB) (fun n a k i hi hl' _ hk0 hkB => ?_) (fun n a k hl' => ?_) (n := fuel) (by unfold fuel; omega)
 ·rw [this]; rfl
 ·have hk1 : w64 (k + 1) = k + 1 := w64_id (by omega) (by unfold BM at hkB; omega)
  simp only [laws_markIntS_L2, inb_nat, stt_nat, w64_succ (show i < 4611686018427387904 by omega), hk1, mInt]
  simp [hl', hi]
 ·simp [laws_markIntS_L2, hl']
theorem heldIntS_ok {l : List Int} {k : Int} (hl : l.length ≤ 1048576) (h0 : 0 ≤ k) (hB : k + l.length ≤ BM) : laws_heldIntS (mIntS l k).1 k = some (mIntS l k).2 := by
 unfold laws_heldIntS
 have hlen : (mIntS l k).1.length = l.length := mkL_len _ _ _
 have := heldX mInt (fun x k => if x = k then some (k + 1) else some (-1)) (fun _ => 1) BM l k (fun n k' i => laws_heldIntS_L2 n ((mIntS l k).1, k', i)) 0 (fun _ _ _ => rfl) h0 (by rw [sum_one]; exact hB) (fun x _ k' _ _ => by simp [mInt])
  (fun n k' i hi hk0 hkB => by
   have hi' : i < (mIntS l k).1.length := by omega
   have hk1 : w64 (k' + 1) = k' + 1 := w64_id (by omega) (by unfold BM at hkB; omega)
   rw [Nat.zero_add]
   simp only [laws_heldIntS_L2, inb_nat, gd_nat hi', w64_succ (show i < 4611686018427387904 by omega), hk1]
   have e : (mkL mInt l k).1[i]'(by rw [mkL_len]; exact hi) = (mIntS l k).1[i] := rfl
   rw [e]
   by_cases h : (mIntS l k).1[i] = k'
   ·simp [hi', hi, h, hlen, show ¬ k' + 1 < 0 by omega]
   ·simp [hi', hi, h, hlen])
  (fun n k' => by rw [Nat.zero_add]; simp [laws_heldIntS_L2, hlen]) fuel (by unfold fuel; omega)
 rw [show ((0 : Nat) : Int) = 0 from rfl] at this
 rw [this]; rfl
theorem markIntSS_ok {l : List (List Int)} {k : Int} (hl : l.length ≤ 1048576) (hr : ∀ r ∈ l, r.length ≤ 1048576) (h0 : 0 ≤ k) (hB : k + ((l.map List.length).sum : Nat) ≤ BM) : laws_markIntSS l k = some (mIntSS l k) := by
 unfold laws_markIntSS
 have := markX l.length (fun n a k i => laws_markIntSS_L2 n (a, k, i)) mIntS List.length BM (fun a k => some (a, k)) l k rfl (fun x _ k => mIntS_far x k) h0 hB (fun n a k i hi hl' hm hk0 hkB => ?_) (fun n a k hl' => ?_) (n := fuel) (by unfold fuel; omega)
 ·rw [this]; rfl
 ·have hia : i < a.length := by omega
  simp only [laws_markIntSS_L2, inb_nat, stt_nat, gd_nat hia, w64_succ (show i < 4611686018427387904 by omega), markIntS_ok (hr _ hm) hk0 hkB, Option.bind_some]
  simp [hl', hi]
 ·simp [laws_markIntSS_L2, hl']
theorem heldIntSS_ok {l : List (List Int)} {k : Int} (hl : l.length ≤ 1048576) (hr : ∀ r ∈ l, r.length ≤ 1048576) (h0 : 0 ≤ k) (hB : k + ((l.map List.length).sum : Nat) ≤ BM) : laws_heldIntSS (mIntSS l k).1 k = some (mIntSS l k).2 := by
 unfold laws_heldIntSS
 have hlen : (mIntSS l k).1.length = l.length := mkL_len _ _ _
 have := heldX mIntS laws_heldIntS List.length BM l k (fun n k' i => laws_heldIntSS_L2 n ((mIntSS l k).1, k', i)) 0 (fun x _ k => mIntS_far x k) h0 hB (fun x hx k' hk0 hkB => heldIntS_ok (hr x hx) hk0 hkB)
  (fun n k' i hi hk0 hkB => by
   have hi' : i < (mIntSS l k).1.length := by omega
   rw [Nat.zero_add]
   simp only [laws_heldIntSS_L2, inb_nat, gd_nat hi', w64_succ (show i < 4611686018427387904 by omega)]
   have e : (mkL mIntS l k).1[i]'(by rw [mkL_len]; exact hi) = (mIntSS l k).1[i] := rfl
   rw [e]
   simp [hlen, hi])
  (fun n k' => by rw [Nat.zero_add]; simp [laws_heldIntSS_L2, hlen]) fuel (by unfold fuel; omega)
 rw [show ((0 : Nat) : Int) = 0 from rfl] at this
 rw [this]; rfl
def wC (c : Con) : Nat := c.1.length + 1 + (c.2.2.map List.length).sum
def mCon (c : Con) (k : Int) : Con × Int :=
 (((mIntS c.1 k).1, (mIntS c.1 k).2, (mIntSS c.2.2 ((mIntS c.1 k).2 + 1)).1), (mIntSS c.2.2 ((mIntS c.1 k).2 + 1)).2)
theorem mCon_far (c : Con) (k : Int) : (mCon c k).2 = k + wC c := by
 unfold mCon wC; dsimp only
 rw [mIntSS_far, mIntS_far]; push_cast; omega
theorem markConstraintS_ok {l : List Con} {k : Int} (hl : l.length ≤ 1048576) (hr : ∀ c ∈ l, conS c) (h0 : 0 ≤ k) (hB : k + ((l.map wC).sum : Nat) ≤ BM) : laws_markConstraintS l k = some (mkL mCon l k) := by
 unfold laws_markConstraintS
 have := markX l.length (fun n a k i => laws_markConstraintS_L2 n (a, k, i)) mCon wC BM (fun a k => some (a, k)) l k rfl (fun x _ k => mCon_far x k) h0 hB (fun n a k i hi hl' hm hk0 hkB => ?_) (fun n a k hl' => ?_) (n := fuel) (by unfold fuel; omega)
 ·rw [this]; rfl
 ·have hia : i < a.length := by omega
  have hc := hr _ hm
  have hkB' : k + (a[i].1.length : Int) + 1 + ((a[i].2.2.map List.length).sum : Nat) ≤ BM := by unfold wC at hkB; push_cast at hkB; omega
  have e1 := mIntS_far a[i].1 k
  have hk1 : w64 ((mIntS a[i].1 k).2 + 1) = (mIntS a[i].1 k).2 + 1 := w64_id (by omega) (by unfold BM at hkB'; omega)
  have hia1 : ∀ y, i < (a.set i y).length := fun y => by simpa using hia
  simp only [laws_markConstraintS_L2, inb_nat, stt_nat, gd_nat hia, w64_succ (show i < 4611686018427387904 by omega), markIntS_ok hc.1 hk0 (show k + (a[i].1.length : Int) ≤ BM by omega), Option.bind_some, gd_nat (hia1 _), List.getElem_set_self, List.set_set, hk1,
   markIntSS_ok hc.2.1 hc.2.2 (show 0 ≤ (mIntS a[i].1 k).2 + 1 by omega) (show (mIntS a[i].1 k).2 + 1 + ((a[i].2.2.map List.length).sum : Nat) ≤ BM by omega)]
  simp [hl', hi, mCon]
 ·simp [laws_markConstraintS_L2, hl']
theorem sum_wC {a : Net} : (a.2.2.map wC).sum ≤ 2 * totN a := by
 unfold totN
 have : ∀ l : List Con, (l.map wC).sum ≤ l.length + (l.map totC).sum := by
  intro l
  induction l with
  | nil => simp
  | cons c l ih =>
   simp only [List.map_cons, List.sum_cons, List.length_cons]
   have : wC c ≤ 1 + totC c := by unfold wC totC totSS; omega
   omega
 have := this a.2.2; omega
theorem markNetwork_ok {a : Net} (h : netS a) (ht : totN a ≤ 1048576) : ∃ b k, laws_markNetwork a 1 = some (b, k) ∧ 0 ≤ k ∧ k ≤ 2097153 := by
 unfold laws_markNetwork
 have h1 := @sum_wC a
 rw [markConstraintS_ok h.1 h.2 (by omega) (by unfold BM; omega)]
 refine ⟨_, _, rfl, ?_, ?_⟩
 ·rw [mkL_far (w := wC) _ _ fun c _ k => mCon_far c k]; omega
 ·rw [mkL_far (w := wC) _ _ fun c _ k => mCon_far c k]; omega
end T
open Go Go.Va
namespace T
theorem w1 : w64 1 = 1 := by rw [w64_def]; rfl
theorem w2 : w64 2 = 2 := by rw [w64_def]; rfl
section
variable {a : Net}
end
end T
open Go Go.Va
namespace T
abbrev Opn := Int × List Int
section
variable {n : Int} {f : Opn}
variable {a : Net}
end
end T
set_option linter.unusedVariables false
open Go Go.Va
namespace T
def impl_sameList_L4 : Nat → ((List Int) × (List Int) × Int × Int) → Option ((Unit) ⊕ (Bool))
 | 0, _ => none
 | n + 1, (b, t12, t13, t14) =>
  if decide (t14 < t13) then
   if inb t14 t12 then
    if inb t14 b then
     if (gd b t14 0) != (gd t12 t14 0) then
      some (.inr false)
     else
      impl_sameList_L4 n (b, t12, t13, w64 (t14 + 1))
    else none
   else none
  else
   some (.inl ())
def impl_sameList (a : List Int) (b : List Int) : Option (Bool) :=
 if (a.length : Int) != (b.length : Int) then
  some false
 else
  (impl_sameList_L4 fuel (b, a, (a.length : Int), 0)).bind fun s1 =>
   match s1 with
   | .inl s2 =>
    some true
   | .inr s3 =>
    some s3
end T
open Go Go.Va
namespace T
theorem gd_D {α : Type} {k : Nat} {xs : List α} {d : α} : gd xs (k : Int) d = xs.getD k d := rfl
abbrev T3 := List (List (List Bool))
abbrev T4 := List (List (List (List Bool)))
def Cell4 (s : Nat) (c : List (List Bool)) : Prop := c.length = s ∧ ∀ x, x < s → (c.getD x []).length = s
def Row4 (n s : Nat) (r : T3) : Prop := r.length = n ∧ ∀ j, j < n → Cell4 s (r.getD j [])
def Ok4 (n s : Nat) (t : T4) : Prop := t.length = n ∧ ∀ i, i < n → Row4 n s (t.getD i [])
def r4 (t : T4) (i j x y : Nat) : Bool := (((t.getD i []).getD j []).getD x []).getD y false
def s4 (t : T4) (i j x y : Nat) (b : Bool) : T4 := t.set i ((t.getD i []).set j (((t.getD i []).getD j []).set x ((((t.getD i []).getD j []).getD x []).set y b)))
def Ok3 (n m : Nat) (u : T3) : Prop := u.length = n ∧ ∀ i, i < n → (u.getD i []).length = n ∧ ∀ j, j < n → ((u.getD i []).getD j []).length = m
def r3 (u : T3) (i j p : Nat) : Bool := ((u.getD i []).getD j []).getD p false
def s3 (u : T3) (i j p : Nat) (b : Bool) : T3 := u.set i ((u.getD i []).set j (((u.getD i []).getD j []).set p b))
section
variable {n s m : Nat} {t : T4} {u : T3}
theorem Ok4.at (h : Ok4 n s t) {i j x : Nat} (hi : i < n) (hj : j < n) (hx : x < s) : i < t.length ∧ j < (t.getD i []).length ∧ x < ((t.getD i []).getD j []).length ∧ (((t.getD i []).getD j []).getD x []).length = s :=
 ⟨by rw [h.1]; exact hi, by rw [(h.2 i hi).1]; exact hj, by rw [((h.2 i hi).2 j hj).1]; exact hx, ((h.2 i hi).2 j hj).2 x hx⟩
theorem Ok3.at (h : Ok3 n m u) {i j : Nat} (hi : i < n) (hj : j < n) : i < u.length ∧ j < (u.getD i []).length ∧ ((u.getD i []).getD j []).length = m :=
 ⟨by rw [h.1]; exact hi, by rw [(h.2 i hi).1]; exact hj, (h.2 i hi).2 j hj⟩
theorem s4_ok (h : Ok4 n s t) {i j x y : Nat} {b : Bool} : Ok4 n s (s4 t i j x y b) := by
 unfold s4
 refine ⟨by rw [List.length_set]; exact h.1, fun i' hi' => ?_⟩
 rw [getD_set_of]
 split
 ·rename_i hc
  obtain ⟨rfl, _⟩ := hc
  have hr := h.2 i hi'
  refine ⟨by rw [List.length_set]; exact hr.1, fun j' hj' => ?_⟩
  rw [getD_set_of]
  split
  ·rename_i hc
   obtain ⟨rfl, _⟩ := hc
   have hcl := hr.2 j hj'
   refine ⟨by rw [List.length_set]; exact hcl.1, fun x' hx' => ?_⟩
   rw [getD_set_of]
   split
   ·rename_i hc
    obtain ⟨rfl, _⟩ := hc
    rw [List.length_set]; exact hcl.2 x hx'
   ·exact hcl.2 x' hx'
  ·exact hr.2 j' hj'
 ·exact h.2 i' hi'
theorem s3_ok (h : Ok3 n m u) {i j p : Nat} {b : Bool} : Ok3 n m (s3 u i j p b) := by
 unfold s3
 refine ⟨by rw [List.length_set]; exact h.1, fun i' hi' => ?_⟩
 rw [getD_set_of]
 split
 ·rename_i hc
  obtain ⟨rfl, _⟩ := hc
  have hr := h.2 i hi'
  refine ⟨by rw [List.length_set]; exact hr.1, fun j' hj' => ?_⟩
  rw [getD_set_of]
  split
  ·rename_i hc
   obtain ⟨rfl, _⟩ := hc
   rw [List.length_set]; exact hr.2 j hj'
  ·exact hr.2 j' hj'
 ·exact h.2 i' hi'
theorem r4_s4 (h : Ok4 n s t) {i j x y : Nat} {b : Bool} (hi : i < n) (hj : j < n) (hx : x < s) (hy : y < s) (i' j' x' y' : Nat) :
    r4 (s4 t i j x y b) i' j' x' y' = if i = i' ∧ j = j' ∧ x = x' ∧ y = y' then b else r4 t i' j' x' y' := by
  obtain ⟨h1, h2, h3, h4⟩ := h.at hi hj hx
  unfold r4 s4
  rw [getD_set_of]
  by_cases e1 : i = i'
  · subst e1
    rw [if_pos ⟨rfl, h1⟩, getD_set_of]
    by_cases e2 : j = j'
    · subst e2
      rw [if_pos ⟨rfl, h2⟩, getD_set_of]
      by_cases e3 : x = x'
      · subst e3
        rw [if_pos ⟨rfl, h3⟩, getD_set_of]
        by_cases e4 : y = y'
        · subst e4; rw [if_pos ⟨rfl, by omega⟩, if_pos ⟨rfl, rfl, rfl, rfl⟩]
        · rw [if_neg (by omega), if_neg (by omega)]
      · rw [if_neg (by omega), if_neg (by omega)]
    · rw [if_neg (by omega), if_neg (by omega)]
  · rw [if_neg (by omega), if_neg (by omega)]
theorem r3_s3 (h : Ok3 n m u) {i j p : Nat} {b : Bool} (hi : i < n) (hj : j < n) (hp : p < m) (i' j' p' : Nat) :
    r3 (s3 u i j p b) i' j' p' = if i = i' ∧ j = j' ∧ p = p' then b else r3 u i' j' p' := by
  obtain ⟨h1, h2, h3⟩ := h.at hi hj
  unfold r3 s3
  rw [getD_set_of]
  by_cases e1 : i = i'
  · subst e1
    rw [if_pos ⟨rfl, h1⟩, getD_set_of]
    by_cases e2 : j = j'
    · subst e2
      rw [if_pos ⟨rfl, h2⟩, getD_set_of]
      by_cases e3 : p = p'
      · subst e3; rw [if_pos ⟨rfl, by omega⟩, if_pos ⟨rfl, rfl, rfl⟩]
      · rw [if_neg (by omega), if_neg (by omega)]
    · rw [if_neg (by omega), if_neg (by omega)]
  · rw [if_neg (by omega), if_neg (by omega)]
end
structure Rel34 (n s : Nat) (t : T4) (u : T3) : Prop where
 o4 : Ok4 n s t
 o3 : Ok3 n (s * s) u
 eq : ∀ i j x y, i < j → j < n → x < s → y < s → r4 t i j x y = r3 u i j (x * s + y) ∧ r4 t j i y x = r3 u i j (x * s + y)
theorem cell_lt {s x y : Nat} (hx : x < s) (hy : y < s) : x * s + y < s * s := by
 have : (x + 1) * s ≤ s * s := Nat.mul_le_mul_right _ hx
 rw [Nat.succ_mul] at this; omega
theorem cell_inj {s x y x' y' : Nat} (hy : y < s) (hy' : y' < s) (h : x * s + y = x' * s + y') : x = x' ∧ y = y' := by
 have h1 : (x * s + y) / s = x := by rw [Nat.mul_comm, Nat.mul_add_div (by omega), Nat.div_eq_of_lt hy]; omega
 have h2 : (x' * s + y') / s = x' := by rw [Nat.mul_comm, Nat.mul_add_div (by omega), Nat.div_eq_of_lt hy']; omega
 have : x = x' := by rw [← h1, ← h2, h]
 subst this
 exact ⟨rfl, by omega⟩
theorem Rel34.drop {n s : Nat} {t : T4} {u : T3} (h : Rel34 n s t u) {i j x y : Nat} (hij : i < j) (hj : j < n) (hx : x < s) (hy : y < s) :
    Rel34 n s (s4 (s4 t i j x y false) j i y x false) (s3 u i j (x * s + y) false) := by
  refine ⟨s4_ok (s4_ok h.o4), s3_ok h.o3, fun i' j' x' y' h1 h2 h3 h4 => ?_⟩
  have hi : i < n := by omega
  rw [r4_s4 (s4_ok h.o4) hj hi hy hx, r4_s4 h.o4 hi hj hx hy, r4_s4 (s4_ok h.o4) hj hi hy hx, r4_s4 h.o4 hi hj hx hy, r3_s3 h.o3 hi hj (cell_lt hx hy)]
  obtain ⟨e1, e2⟩ := h.eq i' j' x' y' h1 h2 h3 h4
  by_cases e : i = i' ∧ j = j' ∧ x = x' ∧ y = y'
  · obtain ⟨rfl, rfl, rfl, rfl⟩ := e
    simp
  · have e3 : ¬ (i = i' ∧ j = j' ∧ x * s + y = x' * s + y') := fun ⟨q1, q2, q3⟩ => by
      have := cell_inj hy h4 q3
      exact e ⟨q1, q2, this.1, this.2⟩
    have e4 : ¬ (j = i' ∧ i = j' ∧ y = x' ∧ x = y') := by omega
    have e5 : ¬ (i = j' ∧ j = i' ∧ x = y' ∧ y = x') := by omega
    have e6 : ¬ (j = j' ∧ i = i' ∧ y = y' ∧ x = x') := by omega
    simp only [if_neg e, if_neg e3, if_neg e4, if_neg e5, if_neg e6]
    exact ⟨e1, e2⟩
end T
open Go Go.Va
namespace T
section
variable {a : Net} {n s : Nat} {t : T4} {u : T3}
def PA (n s i : Nat) (t : T4) : Prop := t.length = n ∧ ∀ i', i' < i → Row4 n s (t.getD i' [])
def PB (n s i j : Nat) (t : T4) : Prop := PA n s i t ∧ (t.getD i []).length = n ∧ ∀ j', j' < j → Cell4 s ((t.getD i []).getD j' [])
theorem PA.set {i : Nat} (h : PA n s i t) (r : T3) : PA n s i (t.set i r) := by
 refine ⟨by rw [List.length_set]; exact h.1, fun i' hi' => ?_⟩
 rw [getD_set_of, if_neg (by omega)]; exact h.2 i' hi'
theorem PB.set {i j : Nat} (h : PB n s i j t) (hi : i < n) (c : List (List Bool)) : PB n s i j (t.set i ((t.getD i []).set j c)) := by
 have hl := h.1.1
 refine ⟨h.1.set _, ?_, fun j' hj' => ?_⟩
 ·rw [getD_set_of, if_pos ⟨rfl, by omega⟩, List.length_set]; exact h.2.1
 ·rw [getD_set_of, if_pos ⟨rfl, by omega⟩, getD_set_of, if_neg (by omega)]; exact h.2.2 j' hj'
end
end T
set_option linter.unusedVariables false
open Go Go.Va
namespace T
def impl_clone (list : List Int) : Option ((List Int)) :=
 if ([] : List Int).length + list.length ≤ lim then
  some ([] ++ list)
 else none
end T
set_option linter.unusedVariables false
open Go Go.Va
namespace T
def impl_cloneRows_L3 : Nat → ((List (List Int)) × (List (List Int)) × Int × Int) → Option ((List (List Int)))
 | 0, _ => none
 | n + 1, (list, t7, t8, t9) =>
  if decide (t9 < t8) then
   if inb t9 t7 then
    (impl_clone (gd t7 t9 [])).bind fun r1 =>
     if list.length + [r1].length ≤ lim then
      impl_cloneRows_L3 n (list ++ [r1], t7, t8, w64 (t9 + 1))
     else none
   else none
  else
   some list
def impl_cloneRows (rows : List (List Int)) : Option ((List (List Int))) :=
 (impl_cloneRows_L3 fuel ([], rows, (rows.length : Int), 0)).bind fun s1 =>
  some s1
end T
open Go Go.Va
namespace T
section
variable {α : Type} {nw old : Nat → α} {N i : Nat}
end
section
variable {p : Int} {W : Nat} {r row : List Int}
end
abbrev ES := List (List Int) × List Int × List (List Int)
section
variable {p : Int} {W N : Nat}
end
end T
open Go Go.Va
namespace T
section
variable {p : Int} {W N V : Nat}
theorem cloneRows_ok {rows : List (List Int)} (hN : rows.length ≤ 100000) (hr : ∀ r ∈ rows, r.length ≤ 100000) : impl_cloneRows rows = some rows := by
 unfold impl_cloneRows
 have := forS rows.length (fun f o i => impl_cloneRows_L3 f (o, rows, (rows.length : Int), i)) (fun k => rows.take k) (r := some rows) (fun f k hk => by
  have hl := hr _ (List.getElem_mem hk)
  have hcl : impl_clone rows[k] = some rows[k] := by
   unfold impl_clone
   rw [if_pos (by simp; unfold lim; omega)]; simp
  simp only [impl_cloneRows_L3, inb_nat, hk, gd_nat hk, hcl, Option.bind_some, List.take_succ_eq_append_getElem hk, if_true, w64_succ (show k < 4611686018427387904 by omega)]
  rw [if_pos (by simp; omega), if_pos (by simp; unfold lim; omega)]) (fun f => by
  simp only [impl_cloneRows_L3, List.take_length]
  rw [if_neg (by simp)]) (n := fuel) (by unfold fuel; omega)
 have this : impl_cloneRows_L3 fuel ([], rows, (rows.length : Int), 0) = _ := this
 rw [this]; rfl
end
end T
open Go Go.Va
namespace T
def cg (p a b : Int) : Prop := ∃ k, a = b + p * k
section
variable {p a b c d : Int}
end
inductive Sp (p : Int) (V : Nat) (A : List (List Int)) : (Nat → Int) → Prop
 | zero : Sp p V A fun _ => 0
 | add {f : Nat → Int} (r : List Int) (c : Int) : r ∈ A → Sp p V A f → Sp p V A fun i => f i + c * r.getD i 0
 | cgr {f g : Nat → Int} : Sp p V A f → (∀ i, i < V → cg p (g i) (f i)) → Sp p V A g
section
variable {p : Int} {V W N : Nat} {A B : List (List Int)} {f g : Nat → Int}
def eqSp (p : Int) (V : Nat) (A B : List (List Int)) : Prop := ∀ f, Sp p V A f ↔ Sp p V B f
end
end T
open Go Go.Va
namespace T
section
variable {p : Int} {V W N : Nat} {A B C D : List (List Int)} {f g : Nat → Int}
theorem eqSp.symm (h : eqSp p V A B) : eqSp p V B A := fun f => (h f).symm
theorem eqSp.trans (h : eqSp p V A B) (g : eqSp p V B C) : eqSp p V A C := fun f => (h f).trans (g f)
end
end T
set_option linter.unusedVariables false
open Go Go.Va
namespace T
def spec_l8At_L3 : Nat → ((List Int) × (List Int) × (List Int) × Int) → Option ((List Int))
 | 0, _ => none
 | n + 1, (t, places, out, i) =>
  if decide (i < (places.length : Int)) then
   if inb i places then
    if inb (gd places i 0) t then
     if out.length + [gd t (gd places i 0) 0].length ≤ lim then
      spec_l8At_L3 n (t, places, out ++ [gd t (gd places i 0) 0], w64 (i + 1))
     else none
    else none
   else none
  else
   some out
def spec_l8At (t : List Int) (places : List Int) : Option ((List Int)) :=
 (spec_l8At_L3 fuel (t, places, [], 0)).bind fun s1 =>
  some s1
def spec_l8Put (list : List (List Int)) (t : List Int) : Option ((List (List Int))) :=
 (spec_l8Find list t).bind fun r1 =>
  if r1.2 then
   some list
  else
   if (0 : Int) ≤ 0 ∧ 0 ≤ r1.1 ∧ r1.1 ≤ (list.length : Int) then
    if ([] : List (List Int)).length + ((list.take (Int.toNat r1.1)).drop (Int.toNat 0)).length ≤ lim then
     if ([] ++ ((list.take (Int.toNat r1.1)).drop (Int.toNat 0))).length + [t].length ≤ lim then
      if (0 : Int) ≤ r1.1 ∧ r1.1 ≤ (list.length : Int) ∧ (list.length : Int) ≤ (list.length : Int) then
       if (([] ++ ((list.take (Int.toNat r1.1)).drop (Int.toNat 0))) ++ [t]).length + ((list.take (Int.toNat (list.length : Int))).drop (Int.toNat r1.1)).length ≤ lim then
        some ((([] ++ ((list.take (Int.toNat r1.1)).drop (Int.toNat 0))) ++ [t]) ++ ((list.take (Int.toNat (list.length : Int))).drop (Int.toNat r1.1)))
       else none
      else none
     else none
    else none
   else none
def spec_l13Project_L3 : Nat → ((List Int) × (Int × (List (List Int))) × (Int × (List (List Int))) × (Int × (List (List Int))) × Int) → Option ((Int × (List (List Int))) × (Int × (List (List Int))))
 | 0, _ => none
 | n + 1, (places, r, t4, out, i) =>
  if decide (i < (r.2.length : Int)) then
   if inb i r.2 then
    (spec_l8At (gd r.2 i []) places).bind fun r1 =>
     (spec_l8Put out.2 r1).bind fun r2 =>
      spec_l13Project_L3 n (places, (r.1, r.2), (t4.1, t4.2), (out.1, r2), w64 (i + 1))
   else none
  else
   some ((t4.1, t4.2), (out.1, out.2))
def spec_l13Project (r : Int × (List (List Int))) (places : List Int) : Option ((Int × (List (List Int)))) :=
 (spec_l13Project_L3 fuel (places, (r.1, r.2), (0, []), ((places.length : Int), []), 0)).bind fun s1 =>
  some (s1.2.1, s1.2.2)
end T
open Go Go.Va
namespace T
def sortL (cmp : List Int → List Int → Int) (rows : List (List Int)) : List (List Int) := rows.mergeSort (fun x y => !decide (cmp y x < 0))
def cmpT (s t : List Int) : Int := if s.length < t.length then -1 else if t.length < s.length then 1 else cmpL s t
theorem cmpT_refl (s : List Int) : cmpT s s = 0 := by unfold cmpT; rw [if_neg (by omega), if_neg (by omega), cmpL_refl]
theorem cmpT_symm (s t : List Int) : cmpT t s = - cmpT s t := by
 unfold cmpT
 by_cases h1 : s.length < t.length
 ·rw [if_neg (by omega), if_pos h1, if_pos h1]; rfl
 ·by_cases h2 : t.length < s.length
  ·rw [if_pos h2, if_neg h1, if_pos h2]
  ·rw [if_neg h2, if_neg h1, if_neg h1, if_neg h2, cmpL_symm]
theorem cmpT_eq {s t : List Int} (h : cmpT s t = 0) : s = t := by
 unfold cmpT at h
 by_cases h1 : s.length < t.length
 ·rw [if_pos h1] at h; exact absurd h (by decide)
 ·rw [if_neg h1] at h
  by_cases h2 : t.length < s.length
  ·rw [if_pos h2] at h; exact absurd h (by decide)
  ·rw [if_neg h2] at h; exact cmpL_eq.1 h
theorem cmpT_trans {s t u : List Int} (h1 : cmpT s t < 0) (h2 : cmpT t u < 0) : cmpT s u < 0 := by
 unfold cmpT at *
 by_cases a1 : s.length < u.length
 ·rw [if_pos a1]; decide
 ·rw [if_neg a1]
  by_cases b1 : s.length < t.length
  ·have b2 : u.length < t.length := by omega
   rw [if_neg (by omega), if_pos b2] at h2; exact absurd h2 (by decide)
  ·rw [if_neg b1] at h1
   by_cases b3 : t.length < s.length
   ·rw [if_pos b3] at h1; exact absurd h1 (by decide)
   ·rw [if_neg b3] at h1
    by_cases c1 : t.length < u.length
    ·omega
    ·rw [if_neg c1] at h2
     by_cases c2 : u.length < t.length
     ·rw [if_pos c2] at h2; exact absurd h2 (by decide)
     ·rw [if_neg c2] at h2
      rw [if_neg (by omega)]
      exact cmpL_trans h1 h2
end T
open Go Go.Va
namespace T
theorem incB_pair {l : List (List Int)} : incB l = true ↔ l.Pairwise (fun a b => cmpL a b < 0) := by
 constructor
 ·intro h
  rw [List.pairwise_iff_getElem]
  exact fun i j hi hj hij => incB_lt h i j hij hj
 ·intro h
  rw [incB_iff]
  rw [List.pairwise_iff_getElem] at h
  exact fun i hi => h i (i + 1) (by omega) hi (by omega)
theorem spec_l8Put_ok {list : List (List Int)} {t : List Int} {k : Nat} (hl : list.length ≤ 1000000) (hk : k ≤ 1000000) (hv : ∀ u ∈ list, u.length = k) (ht : t.length = k) (hi : incB list = true) :
    ∃ out, spec_l8Put list t = some out ∧ incB out = true ∧ (∀ u, u ∈ out ↔ u = t ∨ u ∈ list) ∧ (t ∉ list → out.Perm (t :: list)) := by
  obtain ⟨c, e, k1, k2, k3⟩ := spec_l8Find_ok (by omega) (by omega) hv ht hi
  unfold spec_l8Put
  rw [e]
  simp only [Option.bind_some]
  by_cases hm : t ∈ list
  · rw [decide_eq_true hm, if_pos rfl]
    exact ⟨list, rfl, hi, fun u => ⟨Or.inr, fun h => h.elim (fun h => h ▸ hm) id⟩, fun h => absurd hm h⟩
  · rw [decide_eq_false hm, if_neg (by simp)]
    have e1 : (list.take (Int.toNat (c : Int))).drop (Int.toNat 0) = list.take c := by simp
    have e2 : (list.take (Int.toNat (list.length : Int))).drop (Int.toNat (c : Int)) = list.drop c := by simp
    have hlim : lim = 1099511627776 := rfl
    have t1 : (list.take c).length = c := by rw [List.length_take]; omega
    rw [e1, e2, if_pos (by omega), if_pos (by simp; omega), if_pos (by simp; omega), if_pos (by omega), if_pos (by simp; omega)]
    refine ⟨_, rfl, ?_, fun u => ?_, fun _ => ?_⟩
    · rw [incB_pair] at hi ⊢
      simp only [List.nil_append]
      have hsp : list = list.take c ++ list.drop c := (List.take_append_drop c list).symm
      rw [hsp, List.pairwise_append] at hi
      have h4 : ∀ u ∈ list.take c, cmpL u t < 0 := fun u hu => by
        obtain ⟨i, hi', rfl⟩ := List.mem_iff_getElem.1 hu
        rw [List.getElem_take]
        exact k2 i _ (by omega)
      have h5 : ∀ u ∈ list.drop c, cmpL t u < 0 := fun u hu => by
        obtain ⟨i, hi', rfl⟩ := List.mem_iff_getElem.1 hu
        rw [List.length_drop] at hi'
        rw [List.getElem_drop]
        have h6 := k3 (c + i) (by omega) (by omega)
        have h7 := cmpL_symm (list[c + i]'(by omega)) t
        have h8 : cmpL (list[c + i]'(by omega)) t ≠ 0 := fun h => hm (by rw [← cmpL_eq.1 h]; exact List.getElem_mem _)
        omega
      rw [List.pairwise_append, List.pairwise_append]
      refine ⟨⟨hi.1, List.pairwise_singleton _ _, fun a ha b hb => by rw [List.mem_singleton.1 hb]; exact h4 a ha⟩, hi.2.1, fun a ha b hb => ?_⟩
      rcases List.mem_append.1 ha with ha | ha
      · exact hi.2.2 a ha b hb
      · rw [List.mem_singleton.1 ha]; exact h5 b hb
    · have hsp : u ∈ list ↔ u ∈ list.take c ∨ u ∈ list.drop c := by rw [← List.mem_append, List.take_append_drop]
      simp only [List.nil_append, List.mem_append, List.mem_singleton, hsp]
      constructor
      · rintro ((h | h) | h)
        · exact Or.inr (Or.inl h)
        · exact Or.inl h
        · exact Or.inr (Or.inr h)
      · rintro (h | h | h)
        · exact Or.inl (Or.inr h)
        · exact Or.inl (Or.inl h)
        · exact Or.inr h
    · simp only [List.nil_append]
      refine (List.Perm.append_right _ (List.perm_append_comm)).trans ?_
      rw [List.append_assoc, List.take_append_drop]
      exact List.Perm.refl _
theorem cmpL_anti {x y : List Int} (h1 : ¬ cmpL y x < 0) (h2 : ¬ cmpL x y < 0) : x = y := by
 have := cmpL_symm x y
 exact cmpL_eq.1 (by omega)
theorem sortL_of {out l : List (List Int)} (hi : incB out = true) (hp : out.Perm l) : sortL cmpL l = out := by
 have hs : (sortL cmpL l).Pairwise fun x y => (!decide (cmpL y x < 0)) = true := by
  unfold sortL
  refine List.pairwise_mergeSort (fun a b c h1 h2 => ?_) (fun a b => ?_) l
  ·simp only [Bool.not_eq_true', decide_eq_false_iff_not] at *
   intro h3
   have q1 := cmpL_symm a b
   have q2 := cmpL_symm b c
   by_cases e : cmpL a b = 0
   ·rw [cmpL_eq.1 e] at h3; exact h2 h3
   ·exact h2 (cmpL_trans h3 (by omega))
  ·simp only [Bool.or_eq_true, Bool.not_eq_true', decide_eq_false_iff_not]
   have q1 := cmpL_symm a b
   omega
 have ho : out.Pairwise fun x y => (!decide (cmpL y x < 0)) = true := by
  refine (incB_pair.1 hi).imp ?_
  intro a b h
  simp only [Bool.not_eq_true', decide_eq_false_iff_not]
  have q1 := cmpL_symm a b
  omega
 have hpp : (sortL cmpL l).Perm out := (List.mergeSort_perm l _).trans hp.symm
 refine List.Perm.eq_of_pairwise (fun a b _ _ h1 h2 => ?_) hs ho hpp
 simp only [Bool.not_eq_true', decide_eq_false_iff_not] at h1 h2
 exact cmpL_anti h1 h2
end T
set_option linter.unusedVariables false
open Go Go.Va
namespace T
def impl_sortRows_impl_compareLists (a0 : List (List Int)) (a1 : Unit) : Option (List (List Int)) :=
 if List.length a0 ≤ lim ∧ List.all a0 (fun x => decide (List.length x ≤ lim)) = true then some (sortL cmpL a0) else none
end T
open Go Go.Va
namespace T
section
variable {a : Lin} {p : Int} {W N V : Nat} {s : ES} {F : List Int}
theorem sortL_perm (l : List (List Int)) : (sortL cmpL l).Perm l := List.mergeSort_perm l _
end
end T
open Go Go.Va
namespace T
def keepI (xs : List (List Int)) : List Nat := (List.range xs.length).filter fun i => i == 0 || xs.getD (i - 1) [] != xs.getD i []
def diffL (xs : List (List Int)) : List (List Int) := (keepI xs).map fun i => xs.getD i []
def dgP : List Int → List (List Int) → List (List Int)
 | _, [] => []
 | p, x :: l => if p = x then dgP x l else x :: dgP x l
theorem diff_from : ∀ (l pre : List (List Int)) (p : List Int), ((List.range' (pre ++ [p]).length l.length).filter fun i => i == 0 || (pre ++ [p] ++ l).getD (i - 1) [] != (pre ++ [p] ++ l).getD i []).map (fun i => (pre ++ [p] ++ l).getD i []) = dgP p l
 | [], _, _ => rfl
 | x :: l, pre, p => by
  have ih := diff_from l (pre ++ [p]) x
  have e : pre ++ [p] ++ [x] ++ l = pre ++ [p] ++ (x :: l) := by simp
  rw [e] at ih
  have e2 : (pre ++ [p] ++ [x]).length = (pre ++ [p]).length + 1 := by simp
  rw [e2] at ih
  have g1 : (pre ++ [p] ++ (x :: l)).getD ((pre ++ [p]).length - 1) [] = p := by
   rw [List.getD_eq_getElem?_getD, List.getElem?_append_left (by simp), List.length_append, List.length_singleton, Nat.add_sub_cancel, List.getElem?_append_right (Nat.le_refl _), Nat.sub_self]; rfl
  have g2 : (pre ++ [p] ++ (x :: l)).getD (pre ++ [p]).length [] = x := by
   rw [List.getD_eq_getElem?_getD, List.getElem?_append_right (Nat.le_refl _), Nat.sub_self]; rfl
  have g3 : ((pre ++ [p]).length == 0) = false := by simp
  rw [List.length_cons, List.range'_succ, List.filter_cons, g1, g2, g3, dgP]
  by_cases h : p = x
  ·rw [if_neg (by simp [h]), if_pos h]; exact ih
  ·rw [if_pos (by simp [h]), if_neg h, List.map_cons, g2]; exact congrArg _ ih
theorem diffL_cons {x : List Int} {l : List (List Int)} : diffL (x :: l) = x :: dgP x l := by
 have h := diff_from l [] x
 unfold diffL keepI
 rw [List.range_eq_range', List.length_cons, List.range'_succ, List.filter_cons, if_pos (by simp), List.map_cons]
 exact congrArg _ h
theorem dgP_mem : ∀ {l : List (List Int)} {p u : List Int}, (u ∈ dgP p l ∨ u = p) ↔ (u ∈ l ∨ u = p)
 | [], _, _ => Iff.rfl
 | x :: l, p, u => by
  have ih := dgP_mem (l := l) (p := x) (u := u)
  unfold dgP
  by_cases h : p = x
  ·subst h
   rw [if_pos rfl, ih, List.mem_cons]
   exact ⟨fun h => h.elim (fun h => Or.inl (Or.inr h)) Or.inr, fun h => h.elim (fun h => h.elim Or.inr Or.inl) Or.inr⟩
  ·rw [if_neg h, List.mem_cons, List.mem_cons]
   constructor
   ·rintro ((h | h) | h)
    ·exact Or.inl (Or.inl h)
    ·exact Or.inl ((ih.1 (Or.inl h)).elim Or.inr Or.inl)
    ·exact Or.inr h
   ·rintro ((h | h) | h)
    ·exact Or.inl (Or.inl h)
    ·exact Or.inl ((ih.2 (Or.inl h)).elim Or.inr Or.inl)
    ·exact Or.inr h
theorem diffL_mem {l : List (List Int)} {u : List Int} : u ∈ diffL l ↔ u ∈ l := by
 cases l with
 | nil => exact Iff.rfl
 | cons x l =>
  rw [diffL_cons, List.mem_cons, List.mem_cons]
  have := dgP_mem (l := l) (p := x) (u := u)
  exact ⟨fun h => (this.1 h.symm).symm, fun h => (this.2 h.symm).symm⟩
theorem dgP_inc : ∀ {l : List (List Int)} {p : List Int}, (p :: l).Pairwise (fun a b => ¬ cmpL b a < 0) → (p :: dgP p l).Pairwise fun a b => cmpL a b < 0
 | [], _, _ => List.pairwise_singleton _ _
 | x :: l, p, h => by
  have h1 := List.pairwise_cons.1 h
  have ih := dgP_inc (l := l) (p := x) h1.2
  unfold dgP
  by_cases e : p = x
  ·subst e; rw [if_pos rfl]; exact ih
  ·rw [if_neg e]
   refine List.pairwise_cons.2 ⟨fun b hb => ?_, ih⟩
   have hlt : cmpL p x < 0 := by
    have h2 := h1.1 x (List.mem_cons_self ..)
    have h3 := cmpL_symm p x
    have h4 : cmpL p x ≠ 0 := fun h => e (cmpL_eq.1 h)
    omega
   rcases List.mem_cons.1 hb with rfl | hb
   ·exact hlt
   ·exact cmpL_trans hlt ((List.pairwise_cons.1 ih).1 b hb)
theorem sortL_le (l : List (List Int)) : (sortL cmpL l).Pairwise fun a b => ¬ cmpL b a < 0 := by
 have hs : (sortL cmpL l).Pairwise fun x y => (!decide (cmpL y x < 0)) = true := by
  unfold sortL
  refine List.pairwise_mergeSort (fun a b c h1 h2 => ?_) (fun a b => ?_) l
  ·simp only [Bool.not_eq_true', decide_eq_false_iff_not] at *
   intro h3
   have q1 := cmpL_symm a b
   have q2 := cmpL_symm b c
   by_cases e : cmpL a b = 0
   ·rw [cmpL_eq.1 e] at h3; exact h2 h3
   ·exact h2 (cmpL_trans h3 (by omega))
  ·simp only [Bool.or_eq_true, Bool.not_eq_true', decide_eq_false_iff_not]
   have q1 := cmpL_symm a b
   omega
 exact hs.imp fun {a b} h => by simpa using h
def setL (l : List (List Int)) : List (List Int) := diffL (sortL cmpL l)
theorem setL_mem {l : List (List Int)} {u : List Int} : u ∈ setL l ↔ u ∈ l := by
 unfold setL; rw [diffL_mem]; exact (List.mergeSort_perm l _).mem_iff
theorem setL_inc (l : List (List Int)) : incB (setL l) = true := by
 rw [incB_pair]
 unfold setL
 have h := sortL_le l
 generalize sortL cmpL l = s at h
 cases s with
 | nil => exact List.Pairwise.nil
 | cons x s => rw [diffL_cons]; exact dgP_inc h
theorem inc_uniq : ∀ {a b : List (List Int)}, incB a = true → incB b = true → (∀ u, u ∈ a ↔ u ∈ b) → a = b := by
 intro a b ha hb h
 have pa := incB_pair.1 ha
 have pb := incB_pair.1 hb
 have na : a.Nodup := pa.imp fun {x y} h e => by rw [e, cmpL_refl] at h; omega
 have nb : b.Nodup := pb.imp fun {x y} h e => by rw [e, cmpL_refl] at h; omega
 have hp : a.Perm b := (List.perm_ext_iff_of_nodup na nb).2 h
 rw [← sortL_of ha (List.Perm.refl _), ← sortL_of hb (List.Perm.refl _)]
 have h1 := sortL_of ha hp
 have h2 := sortL_of hb (List.Perm.refl b)
 have h3 := sortL_of ha (List.Perm.refl a)
 rw [h2, h3, ← h1, h2]
theorem setL_of {out l : List (List Int)} (hi : incB out = true) (hm : ∀ u, u ∈ out ↔ u ∈ l) : setL l = out :=
 inc_uniq (setL_inc l) hi fun u => setL_mem.trans (hm u).symm
theorem diffL_le (l : List (List Int)) : (diffL l).length ≤ l.length := by
 unfold diffL keepI
 rw [List.length_map]
 exact Nat.le_trans (List.length_filter_le _ _) (by rw [List.length_range]; exact Nat.le_refl _)
theorem setL_le (l : List (List Int)) : (setL l).length ≤ l.length := by
 unfold setL
 have := diffL_le (sortL cmpL l)
 rwa [show (sortL cmpL l).length = l.length from (List.mergeSort_perm l _).length_eq] at this
end T
set_option linter.unusedVariables false
open Go Go.Va
namespace T
def impl_different (a0 : List (List Int)) : Option (List (List Int)) :=
 if List.length a0 ≤ lim ∧ List.all a0 (fun x => decide (List.length x ≤ lim)) = true then some (diffL a0) else none
end T
set_option linter.unusedVariables false
open Go Go.Va
namespace T
def spec_l19Copy_L7 : Nat → ((List ((List Int) × Int × (List (List Int)))) × (List ((List Int) × Int × (List (List Int)))) × Int × ((List Int) × (Int × (List (List Int)))) × Int) → Option ((List ((List Int) × Int × (List (List Int)))) × (List ((List Int) × Int × (List (List Int)))) × Int × ((List Int) × (Int × (List (List Int)))))
 | 0, _ => none
 | n + 1, (list, out, i, c, k) =>
  if inb i list then
   if decide (k < ((((gd list i ([], (0, []))).2).2).length : Int)) then
    if inb i list then
     if inb k (((gd list i ([], (0, []))).2).2) then
      (spec_l1Own (gd (((gd list i ([], (0, []))).2).2) k [])).bind fun r2 =>
       if c.2.2.length + [r2].length ≤ lim then
        spec_l19Copy_L7 n (list, out, i, (c.1, (c.2.1, c.2.2 ++ [r2])), w64 (k + 1))
       else none
     else none
    else none
   else
    some (list, out, i, (c.1, (c.2.1, c.2.2)))
  else none
def spec_l19Copy_L3 : Nat → ((List ((List Int) × Int × (List (List Int)))) × (List ((List Int) × Int × (List (List Int)))) × Int) → Option ((List ((List Int) × Int × (List (List Int)))))
 | 0, _ => none
 | n + 1, (list, out, i) =>
  if decide (i < (list.length : Int)) then
   if inb i list then
    (spec_l1Own ((gd list i ([], (0, []))).1)).bind fun r1 =>
     if inb i list then
      (spec_l19Copy_L7 fuel (list, out, i, (r1, (((gd list i ([], (0, []))).2).1, [])), 0)).bind fun s2 =>
       if s2.2.1.length + [(s2.2.2.2.1, (s2.2.2.2.2.1, s2.2.2.2.2.2))].length ≤ lim then
        spec_l19Copy_L3 n (s2.1, s2.2.1 ++ [(s2.2.2.2.1, (s2.2.2.2.2.1, s2.2.2.2.2.2))], w64 (s2.2.2.1 + 1))
       else none
     else none
   else none
  else
   some out
def spec_l19Copy (list : List ((List Int) × Int × (List (List Int)))) : Option ((List ((List Int) × Int × (List (List Int))))) :=
 (spec_l19Copy_L3 fuel (list, [], 0)).bind fun s1 =>
  some s1
def impl_sortedTuples (list : List (List Int)) : Option ((List (List Int))) :=
 (impl_cloneRows list).bind fun r1 =>
  (impl_sortRows_impl_compareLists r1 ()).bind fun r2 =>
   some r2
def impl_makeRelation (arity : Int) (tuples : List (List Int)) : Option ((Int × (List (List Int)))) :=
 (impl_sortedTuples tuples).bind fun r1 =>
  (impl_different r1).bind fun r2 =>
   some (arity, r2)
def impl_withConstraints (net : Int × Int × (List ((List Int) × Int × (List (List Int))))) (list : List ((List Int) × Int × (List (List Int)))) : Option ((Int × (Int × (List ((List Int) × Int × (List (List Int)))))) × Bool) :=
 if decide ((list.length : Int) > 40) then
  some ((0, (0, [])), false)
 else
  some ((net.1, (net.2.1, list)), true)
def laws_heldConstraintS_L2 : Nat → ((List ((List Int) × Int × (List (List Int)))) × Int × Int) → Option ((Int) ⊕ (Int))
 | 0, _ => none
 | n + 1, (a, k, i) =>
  if decide (i < (a.length : Int)) then
   if inb i a then
    (laws_heldIntS ((gd a i ([], (0, []))).1) k).bind fun r1 =>
     if decide (r1 < 0) then
      some (.inr (-1))
     else
      if inb i a then
       if (((gd a i ([], (0, []))).2).1) != r1 then
        some (.inr (-1))
       else
        if inb i a then
         (laws_heldIntSS (((gd a i ([], (0, []))).2).2) (w64 (r1 + 1))).bind fun r2 =>
          if decide (r2 < 0) then
           some (.inr (-1))
          else
           laws_heldConstraintS_L2 n (a, r2, w64 (i + 1))
        else none
      else none
   else none
  else
   some (.inl k)
def laws_heldConstraintS (a : List ((List Int) × Int × (List (List Int)))) (k : Int) : Option (Int) :=
 (laws_heldConstraintS_L2 fuel (a, k, 0)).bind fun s1 =>
  match s1 with
  | .inl s2 =>
   some s2
  | .inr s3 =>
   some s3
def laws_heldNetwork (a : Int × Int × (List ((List Int) × Int × (List (List Int))))) (k : Int) : Option (Int) :=
 (laws_heldConstraintS a.2.2 k).bind fun r1 =>
  if decide (r1 < 0) then
   some (-1)
  else
   some r1
end T
set_option linter.unusedVariables false
open Go Go.Va
namespace T
def spec_l19Give (net : Int × Int × (List ((List Int) × Int × (List (List Int))))) : Option ((Int × Int × (List ((List Int) × Int × (List (List Int))))) × Bool) :=
 (spec_l19Good (net.1, (net.2.1, net.2.2))).bind fun r1 =>
  if !r1 then
   some ((0, (0, [])), false)
  else
   some ((net.1, (net.2.1, net.2.2)), true)
def spec_BinaryPart_L14 : Nat → ((Int × Int × (List ((List Int) × Int × (List (List Int))))) × (Int × (Int × (List ((List Int) × Int × (List (List Int)))))) × (Int × (Int × (List ((List Int) × Int × (List (List Int)))))) × Int × ((List Int) × Int × (List (List Int))) × Int × Int) → Option ((Int × Int × (List ((List Int) × Int × (List (List Int))))) × (Int × (Int × (List ((List Int) × Int × (List (List Int)))))) × (Int × (Int × (List ((List Int) × Int × (List (List Int)))))) × Int × ((List Int) × Int × (List (List Int))) × Int)
 | 0, _ => none
 | n + 1, (t1, t2, t4, t5, t6, t7, t8) =>
  if decide (t8 < (t6.1.length : Int)) then
   if inb t7 t6.1 then
    if inb t8 t6.1 then
     (spec_l13Project (t6.2.1, t6.2.2) [t7, t8]).bind fun r3 =>
      if t4.2.2.length + [([gd t6.1 t7 0, gd t6.1 t8 0], r3)].length ≤ lim then
       spec_BinaryPart_L14 n ((t1.1, (t1.2.1, t1.2.2)), (t2.1, (t2.2.1, t2.2.2)), (t4.1, (t4.2.1, t4.2.2 ++ [([gd t6.1 t7 0, gd t6.1 t8 0], r3)])), t5, (t6.1, (t6.2.1, t6.2.2)), t7, w64 (t8 + 1))
      else none
    else none
   else none
  else
   some ((t1.1, (t1.2.1, t1.2.2)), (t2.1, (t2.2.1, t2.2.2)), (t4.1, (t4.2.1, t4.2.2)), t5, (t6.1, (t6.2.1, t6.2.2)), t7)
def spec_BinaryPart_L11 : Nat → ((Int × Int × (List ((List Int) × Int × (List (List Int))))) × (Int × (Int × (List ((List Int) × Int × (List (List Int)))))) × (Int × (Int × (List ((List Int) × Int × (List (List Int)))))) × Int × ((List Int) × Int × (List (List Int))) × Int) → Option ((Int × Int × (List ((List Int) × Int × (List (List Int))))) × (Int × (Int × (List ((List Int) × Int × (List (List Int)))))) × (Int × (Int × (List ((List Int) × Int × (List (List Int)))))) × Int)
 | 0, _ => none
 | n + 1, (t1, t2, t4, t5, t6, t7) =>
  if decide (t7 < (t6.1.length : Int)) then
   (spec_BinaryPart_L14 fuel ((t1.1, (t1.2.1, t1.2.2)), (t2.1, (t2.2.1, t2.2.2)), (t4.1, (t4.2.1, t4.2.2)), t5, (t6.1, (t6.2.1, t6.2.2)), t7, w64 (t7 + 1))).bind fun s3 =>
    spec_BinaryPart_L11 n ((s3.1.1, (s3.1.2.1, s3.1.2.2)), (s3.2.1.1, (s3.2.1.2.1, s3.2.1.2.2)), (s3.2.2.1.1, (s3.2.2.1.2.1, s3.2.2.1.2.2)), s3.2.2.2.1, (s3.2.2.2.2.1.1, (s3.2.2.2.2.1.2.1, s3.2.2.2.2.1.2.2)), w64 (s3.2.2.2.2.2 + 1))
  else
   some ((t1.1, (t1.2.1, t1.2.2)), (t2.1, (t2.2.1, t2.2.2)), (t4.1, (t4.2.1, t4.2.2)), t5)
def spec_BinaryPart_L5 : Nat → ((Int × Int × (List ((List Int) × Int × (List (List Int))))) × (Int × (Int × (List ((List Int) × Int × (List (List Int)))))) × (Int × (Int × (List ((List Int) × Int × (List (List Int)))))) × Int) → Option ((Int × (Int × (List ((List Int) × Int × (List (List Int)))))) × (Int × (Int × (List ((List Int) × Int × (List (List Int)))))))
 | 0, _ => none
 | n + 1, (t1, t2, t4, t5) =>
  if decide (t5 < (t1.2.2.length : Int)) then
   if (0 : Int) ≤ t5 ∧ t5 ≤ (w64 (t5 + 1)) ∧ (w64 (t5 + 1)) ≤ (t1.2.2.length : Int) then
    (spec_l19Copy ((t1.2.2.take (Int.toNat (w64 (t5 + 1)))).drop (Int.toNat t5))).bind fun r2 =>
     if inb 0 r2 then
      if (((gd r2 0 ([], (0, []))).1).length : Int) == 1 then
       if t4.2.2.length + [((gd r2 0 ([], (0, []))).1, (((gd r2 0 ([], (0, []))).2).1, ((gd r2 0 ([], (0, []))).2).2))].length ≤ lim then
        (spec_BinaryPart_L11 fuel ((t1.1, (t1.2.1, t1.2.2)), (t2.1, (t2.2.1, t2.2.2)), (t4.1, (t4.2.1, t4.2.2 ++ [((gd r2 0 ([], (0, []))).1, (((gd r2 0 ([], (0, []))).2).1, ((gd r2 0 ([], (0, []))).2).2))])), t5, ((gd r2 0 ([], (0, []))).1, (((gd r2 0 ([], (0, []))).2).1, ((gd r2 0 ([], (0, []))).2).2)), 0)).bind fun s3 =>
         spec_BinaryPart_L5 n ((s3.1.1, (s3.1.2.1, s3.1.2.2)), (s3.2.1.1, (s3.2.1.2.1, s3.2.1.2.2)), (s3.2.2.1.1, (s3.2.2.1.2.1, s3.2.2.1.2.2)), w64 (s3.2.2.2 + 1))
       else none
      else
       (spec_BinaryPart_L11 fuel ((t1.1, (t1.2.1, t1.2.2)), (t2.1, (t2.2.1, t2.2.2)), (t4.1, (t4.2.1, t4.2.2)), t5, ((gd r2 0 ([], (0, []))).1, (((gd r2 0 ([], (0, []))).2).1, ((gd r2 0 ([], (0, []))).2).2)), 0)).bind fun s4 =>
        spec_BinaryPart_L5 n ((s4.1.1, (s4.1.2.1, s4.1.2.2)), (s4.2.1.1, (s4.2.1.2.1, s4.2.1.2.2)), (s4.2.2.1.1, (s4.2.2.1.2.1, s4.2.2.1.2.2)), w64 (s4.2.2.2 + 1))
     else none
   else none
  else
   some ((t2.1, (t2.2.1, t2.2.2)), (t4.1, (t4.2.1, t4.2.2)))
def spec_BinaryPart (t0 : Int × Int × (List ((List Int) × Int × (List (List Int))))) : Option ((Int × Int × (List ((List Int) × Int × (List (List Int))))) × Bool) :=
 (spec_l19Good (t0.1, (t0.2.1, t0.2.2))).bind fun r1 =>
  if !r1 then
   some ((0, (0, [])), false)
  else
   (spec_BinaryPart_L5 fuel ((t0.1, (t0.2.1, t0.2.2)), (0, (0, [])), (t0.1, (t0.2.1, [])), 0)).bind fun s2 =>
    (spec_l19Give (s2.2.1, (s2.2.2.1, s2.2.2.2))).bind fun r3 =>
     some ((r3.1.1, (r3.1.2.1, r3.1.2.2)), r3.2)
def impl_cloneRelation (r : Int × (List (List Int))) : Option ((Int × (List (List Int)))) :=
 (impl_cloneRows r.2).bind fun r1 =>
  some (r.1, r1)
def impl_cloneConstraints_L3 : Nat → ((List ((List Int) × Int × (List (List Int)))) × (List ((List Int) × Int × (List (List Int)))) × Int × Int) → Option ((List ((List Int) × Int × (List (List Int)))))
 | 0, _ => none
 | n + 1, (copies, t7, t8, t9) =>
  if decide (t9 < t8) then
   if inb t9 t7 then
    (impl_clone ((gd t7 t9 ([], (0, []))).1)).bind fun r1 =>
     (impl_cloneRelation (((gd t7 t9 ([], (0, []))).2).1, ((gd t7 t9 ([], (0, []))).2).2)).bind fun r2 =>
      if copies.length + [(r1, (r2.1, r2.2))].length ≤ lim then
       impl_cloneConstraints_L3 n (copies ++ [(r1, (r2.1, r2.2))], t7, t8, w64 (t9 + 1))
      else none
   else none
  else
   some copies
def impl_cloneConstraints (list : List ((List Int) × Int × (List (List Int)))) : Option ((List ((List Int) × Int × (List (List Int))))) :=
 (impl_cloneConstraints_L3 fuel ([], list, (list.length : Int), 0)).bind fun s1 =>
  some s1
def impl_BinaryPart_L17 : Nat → ((Int × Int × (List ((List Int) × Int × (List (List Int))))) × (Int × (Int × (List ((List Int) × Int × (List (List Int)))))) × (List ((List Int) × Int × (List (List Int)))) × ((List Int) × Int × (List (List Int))) × Int × Int × (List (List Int)) × (List ((List Int) × Int × (List (List Int)))) × Int × Int × Int × Int × (List (List Int)) × Int × Int) → Option ((Int × Int × (List ((List Int) × Int × (List (List Int))))) × (Int × (Int × (List ((List Int) × Int × (List (List Int)))))) × (List ((List Int) × Int × (List (List Int)))) × ((List Int) × Int × (List (List Int))) × Int × Int × (List (List Int)) × (List ((List Int) × Int × (List (List Int)))) × Int × Int × Int × Int)
 | 0, _ => none
 | n + 1, (t1, t2, t4, t6, t7, t8, t9, t18, t19, t20, t35, t36, t51, t52, t53) =>
  if decide (t53 < t52) then
   if inb t53 t51 then
    if inb t7 (gd t51 t53 []) then
     if inb t8 (gd t51 t53 []) then
      if t9.length + [[gd (gd t51 t53 []) t7 0, gd (gd t51 t53 []) t8 0]].length ≤ lim then
       impl_BinaryPart_L17 n ((t1.1, (t1.2.1, t1.2.2)), (t2.1, (t2.2.1, t2.2.2)), t4, (t6.1, (t6.2.1, t6.2.2)), t7, t8, t9 ++ [[gd (gd t51 t53 []) t7 0, gd (gd t51 t53 []) t8 0]], t18, t19, t20, t35, t36, t51, t52, w64 (t53 + 1))
      else none
     else none
    else none
   else none
  else
   some ((t1.1, (t1.2.1, t1.2.2)), (t2.1, (t2.2.1, t2.2.2)), t4, (t6.1, (t6.2.1, t6.2.2)), t7, t8, t9, t18, t19, t20, t35, t36)
def impl_BinaryPart_L13 : Nat → ((Int × Int × (List ((List Int) × Int × (List (List Int))))) × (Int × (Int × (List ((List Int) × Int × (List (List Int)))))) × (List ((List Int) × Int × (List (List Int)))) × ((List Int) × Int × (List (List Int))) × Int × Int × (List ((List Int) × Int × (List (List Int)))) × Int × Int × Int × Int) → Option ((Int × Int × (List ((List Int) × Int × (List (List Int))))) × (Int × (Int × (List ((List Int) × Int × (List (List Int)))))) × (List ((List Int) × Int × (List (List Int)))) × ((List Int) × Int × (List (List Int))) × (List ((List Int) × Int × (List (List Int)))) × Int × Int × Int × Int)
 | 0, _ => none
 | n + 1, (t1, t2, t4, t6, t7, t8, t18, t19, t20, t35, t36) =>
  if decide (t8 < (t6.1.length : Int)) then
   (impl_BinaryPart_L17 fuel ((t1.1, (t1.2.1, t1.2.2)), (t2.1, (t2.2.1, t2.2.2)), t4, (t6.1, (t6.2.1, t6.2.2)), t7, t8, [], t18, t19, t20, t35, t36, t6.2.2, (t6.2.2.length : Int), 0)).bind fun s3 =>
    if inb s3.2.2.2.2.1 s3.2.2.2.1.1 then
     if inb s3.2.2.2.2.2.1 s3.2.2.2.1.1 then
      (impl_makeRelation 2 s3.2.2.2.2.2.2.1).bind fun r4 =>
       if s3.2.2.1.length + [([gd s3.2.2.2.1.1 s3.2.2.2.2.1 0, gd s3.2.2.2.1.1 s3.2.2.2.2.2.1 0], (r4.1, r4.2))].length ≤ lim then
        impl_BinaryPart_L13 n ((s3.1.1, (s3.1.2.1, s3.1.2.2)), (s3.2.1.1, (s3.2.1.2.1, s3.2.1.2.2)), s3.2.2.1 ++ [([gd s3.2.2.2.1.1 s3.2.2.2.2.1 0, gd s3.2.2.2.1.1 s3.2.2.2.2.2.1 0], (r4.1, r4.2))], (s3.2.2.2.1.1, (s3.2.2.2.1.2.1, s3.2.2.2.1.2.2)), s3.2.2.2.2.1, w64 (s3.2.2.2.2.2.1 + 1), s3.2.2.2.2.2.2.2.1, s3.2.2.2.2.2.2.2.2.1, s3.2.2.2.2.2.2.2.2.2.1, s3.2.2.2.2.2.2.2.2.2.2.1, s3.2.2.2.2.2.2.2.2.2.2.2)
       else none
     else none
    else none
  else
   some ((t1.1, (t1.2.1, t1.2.2)), (t2.1, (t2.2.1, t2.2.2)), t4, (t6.1, (t6.2.1, t6.2.2)), t18, t19, t20, t35, t36)
def impl_BinaryPart_L10 : Nat → ((Int × Int × (List ((List Int) × Int × (List (List Int))))) × (Int × (Int × (List ((List Int) × Int × (List (List Int)))))) × (List ((List Int) × Int × (List (List Int)))) × ((List Int) × Int × (List (List Int))) × (List ((List Int) × Int × (List (List Int)))) × Int × Int × Int × Int) → Option ((Int × Int × (List ((List Int) × Int × (List (List Int))))) × (Int × (Int × (List ((List Int) × Int × (List (List Int)))))) × (List ((List Int) × Int × (List (List Int)))) × (List ((List Int) × Int × (List (List Int)))) × Int × Int)
 | 0, _ => none
 | n + 1, (t1, t2, t4, t6, t18, t19, t20, t35, t36) =>
  if decide (t36 < t35) then
   (impl_BinaryPart_L13 fuel ((t1.1, (t1.2.1, t1.2.2)), (t2.1, (t2.2.1, t2.2.2)), t4, (t6.1, (t6.2.1, t6.2.2)), t36, w64 (t36 + 1), t18, t19, t20, t35, t36)).bind fun s3 =>
    impl_BinaryPart_L10 n ((s3.1.1, (s3.1.2.1, s3.1.2.2)), (s3.2.1.1, (s3.2.1.2.1, s3.2.1.2.2)), s3.2.2.1, (s3.2.2.2.1.1, (s3.2.2.2.1.2.1, s3.2.2.2.1.2.2)), s3.2.2.2.2.1, s3.2.2.2.2.2.1, s3.2.2.2.2.2.2.1, s3.2.2.2.2.2.2.2.1, w64 (s3.2.2.2.2.2.2.2.2 + 1))
  else
   some ((t1.1, (t1.2.1, t1.2.2)), (t2.1, (t2.2.1, t2.2.2)), t4, t18, t19, t20)
def impl_BinaryPart_L5 : Nat → ((Int × Int × (List ((List Int) × Int × (List (List Int))))) × (Int × (Int × (List ((List Int) × Int × (List (List Int)))))) × (List ((List Int) × Int × (List (List Int)))) × (List ((List Int) × Int × (List (List Int)))) × Int × Int) → Option ((Int × Int × (List ((List Int) × Int × (List (List Int))))) × (Int × (Int × (List ((List Int) × Int × (List (List Int)))))) × (List ((List Int) × Int × (List (List Int)))))
 | 0, _ => none
 | n + 1, (t1, t2, t4, t18, t19, t20) =>
  if decide (t20 < t19) then
   if inb t20 t18 then
    if (((gd t18 t20 ([], (0, []))).1).length : Int) == 1 then
     (impl_cloneConstraints [((gd t18 t20 ([], (0, []))).1, (((gd t18 t20 ([], (0, []))).2).1, ((gd t18 t20 ([], (0, []))).2).2))]).bind fun r2 =>
      if t4.length + r2.length ≤ lim then
       (impl_BinaryPart_L10 fuel ((t1.1, (t1.2.1, t1.2.2)), (t2.1, (t2.2.1, t2.2.2)), t4 ++ r2, ((gd t18 t20 ([], (0, []))).1, (((gd t18 t20 ([], (0, []))).2).1, ((gd t18 t20 ([], (0, []))).2).2)), t18, t19, t20, (((gd t18 t20 ([], (0, []))).1).length : Int), 0)).bind fun s3 =>
        impl_BinaryPart_L5 n ((s3.1.1, (s3.1.2.1, s3.1.2.2)), (s3.2.1.1, (s3.2.1.2.1, s3.2.1.2.2)), s3.2.2.1, s3.2.2.2.1, s3.2.2.2.2.1, w64 (s3.2.2.2.2.2 + 1))
      else none
    else
     (impl_BinaryPart_L10 fuel ((t1.1, (t1.2.1, t1.2.2)), (t2.1, (t2.2.1, t2.2.2)), t4, ((gd t18 t20 ([], (0, []))).1, (((gd t18 t20 ([], (0, []))).2).1, ((gd t18 t20 ([], (0, []))).2).2)), t18, t19, t20, (((gd t18 t20 ([], (0, []))).1).length : Int), 0)).bind fun s4 =>
      impl_BinaryPart_L5 n ((s4.1.1, (s4.1.2.1, s4.1.2.2)), (s4.2.1.1, (s4.2.1.2.1, s4.2.1.2.2)), s4.2.2.1, s4.2.2.2.1, s4.2.2.2.2.1, w64 (s4.2.2.2.2.2 + 1))
   else none
  else
   some ((t1.1, (t1.2.1, t1.2.2)), (t2.1, (t2.2.1, t2.2.2)), t4)
def impl_BinaryPart (t0 : Int × Int × (List ((List Int) × Int × (List (List Int))))) : Option ((Int × (Int × (List ((List Int) × Int × (List (List Int)))))) × Bool) :=
 (impl_IsNetwork (t0.1, (t0.2.1, t0.2.2))).bind fun r1 =>
  if !r1 then
   some ((0, (0, [])), false)
  else
   (impl_BinaryPart_L5 fuel ((t0.1, (t0.2.1, t0.2.2)), (0, (0, [])), [], t0.2.2, (t0.2.2.length : Int), 0)).bind fun s2 =>
    (impl_withConstraints (s2.1.1, (s2.1.2.1, s2.1.2.2)) s2.2.2).bind fun r3 =>
     some ((r3.1.1, (r3.1.2.1, r3.1.2.2)), r3.2)
def laws_FnExactBinaryPart (t0 : Int × Int × (List ((List Int) × Int × (List (List Int))))) : Option (Bool) :=
 (laws_szNetwork (t0.1, (t0.2.1, t0.2.2)) 1048576).bind fun r1 =>
  if decide (r1 < 0) then
   some true
  else
   (laws_toNetwork (t0.1, (t0.2.1, t0.2.2))).bind fun r2 =>
    (spec_BinaryPart (r2.1, (r2.2.1, r2.2.2))).bind fun r3 =>
     (laws_toNetwork (t0.1, (t0.2.1, t0.2.2))).bind fun r4 =>
      (impl_BinaryPart (r4.1, (r4.2.1, r4.2.2))).bind fun r5 =>
       (laws_eqNetwork (r5.1.1, (r5.1.2.1, r5.1.2.2)) (r3.1.1, (r3.1.2.1, r3.1.2.2))).bind fun r6 =>
        if !r6 then
         some false
        else
         if r5.2 != r3.2 then
          some false
         else
          (laws_toNetwork (t0.1, (t0.2.1, t0.2.2))).bind fun r7 =>
           (laws_eqNetwork (r4.1, (r4.2.1, r4.2.2)) (r7.1, (r7.2.1, r7.2.2))).bind fun r8 =>
            if !r8 then
             some false
            else
             (laws_markNetwork (r4.1, (r4.2.1, r4.2.2)) 1).bind fun r9 =>
              if decide (r9.2 < 0) then
               some false
              else
               (laws_eqNetwork (r5.1.1, (r5.1.2.1, r5.1.2.2)) (r3.1.1, (r3.1.2.1, r3.1.2.2))).bind fun r10 =>
                if !r10 then
                 some false
                else
                 if r5.2 != r3.2 then
                  some false
                 else
                  (laws_markNetwork (r5.1.1, (r5.1.2.1, r5.1.2.2)) 1).bind fun r11 =>
                   (laws_heldNetwork (r5.1.1, (r5.1.2.1, r11.1.2.2)) 1).bind fun r12 =>
                    if decide (r12 < 0) then
                     some false
                    else
                     if r12 != r11.2 then
                      some false
                     else
                      (laws_toNetwork (t0.1, (t0.2.1, t0.2.2))).bind fun r13 =>
                       (impl_BinaryPart (r13.1, (r13.2.1, r13.2.2))).bind fun r14 =>
                        (laws_eqNetwork (r14.1.1, (r14.1.2.1, r14.1.2.2)) (r3.1.1, (r3.1.2.1, r3.1.2.2))).bind fun r15 =>
                         if !r15 then
                          some false
                         else
                          if r14.2 != r3.2 then
                           some false
                          else
                           (laws_heldNetwork (r5.1.1, (r5.1.2.1, r11.1.2.2)) 1).bind fun r16 =>
                            if decide (r16 < 0) then
                             some false
                            else
                             if r16 != r11.2 then
                              some false
                             else
                              some true
end T
open Go Go.Va
namespace T
theorem sorted_ok {l : List (List Int)} (hl : l.length ≤ 100000) (hr : ∀ r ∈ l, r.length ≤ 100000) : impl_sortedTuples l = some (sortL cmpL l) := by
 unfold impl_sortedTuples
 rw [cloneRows_ok hl hr]
 have : impl_sortRows_impl_compareLists l () = some (sortL cmpL l) := by
  unfold impl_sortRows_impl_compareLists
  rw [if_pos]
  refine ⟨by unfold lim; omega, ?_⟩
  rw [List.all_eq_true]
  intro r h
  rw [decide_eq_true_iff]
  have := hr r h; unfold lim; omega
 simp only [Option.bind_some, this]
theorem different_ok {l : List (List Int)} (hl : l.length ≤ 100000) (hr : ∀ r ∈ l, r.length ≤ 100000) : impl_different l = some (diffL l) := by
 unfold impl_different
 rw [if_pos]
 refine ⟨by unfold lim; omega, ?_⟩
 rw [List.all_eq_true]
 intro r h
 rw [decide_eq_true_iff]
 have := hr r h; unfold lim; omega
theorem makeRel_ok {ar : Int} {l : List (List Int)} (hl : l.length ≤ 100000) (hr : ∀ r ∈ l, r.length ≤ 100000) : impl_makeRelation ar l = some (ar, setL l) := by
 have hp := sortL_perm l
 unfold impl_makeRelation
 rw [sorted_ok hl hr]
 simp only [Option.bind_some]
 rw [different_ok (by rw [hp.length_eq]; exact hl) fun r h => hr r (hp.mem_iff.1 h)]
 rfl
theorem heldConstraintS_ok {l : List Con} {k : Int} (hl : l.length ≤ 1048576) (hr : ∀ c ∈ l, conS c) (h0 : 0 ≤ k) (hB : k + ((l.map wC).sum : Nat) ≤ BM) : laws_heldConstraintS (mkL mCon l k).1 k = some (mkL mCon l k).2 := by
 unfold laws_heldConstraintS
 have hlen : (mkL mCon l k).1.length = l.length := mkL_len _ _ _
 have := heldX mCon (fun c k => (laws_heldIntS c.1 k).bind fun r1 => if r1 < 0 then some (-1) else if c.2.1 = r1 then laws_heldIntSS c.2.2 (w64 (r1 + 1)) else some (-1)) wC BM l k (fun n k' i => laws_heldConstraintS_L2 n ((mkL mCon l k).1, k', i)) 0 (fun c _ k => mCon_far c k) h0 hB (fun c hc k' hk0 hkB => ?_) (fun n k' i hi hk0 hkB => ?_) (fun n k' => by rw [Nat.zero_add]; simp [laws_heldConstraintS_L2, hlen]) fuel (by unfold fuel; omega)
 ·rw [show ((0 : Nat) : Int) = 0 from rfl] at this
  rw [this]; rfl
 ·have hcs := hr c hc
  have e1 := mIntS_far c.1 k'
  have hkB2 := hkB
  unfold wC BM at hkB2
  unfold wC at hkB
  push_cast at hkB hkB2
  unfold mCon
  dsimp only
  rw [heldIntS_ok hcs.1 hk0 (by omega)]
  simp only [Option.bind_some]
  rw [if_neg (by omega), if_pos True.intro, w64_id (by omega) (by omega)]
  exact heldIntSS_ok hcs.2.1 hcs.2.2 (by omega) (by omega)
 ·have hi' : i < (mkL mCon l k).1.length := by omega
  rw [Nat.zero_add]
  simp only [laws_heldConstraintS_L2, inb_nat, hi', gd_nat hi', if_true, w64_succ (show i < 4611686018427387904 by omega)]
  rw [if_pos (by simp; omega)]
  have e : (mkL mCon l k).1[i]'(by rw [mkL_len]; exact hi) = (mkL mCon l k).1[i] := rfl
  rw [e]
  generalize (mkL mCon l k).1[i] = c
  cases h : laws_heldIntS c.1 k' with
  | none => rfl
  | some r1 =>
   simp only [Option.bind_some]
   by_cases h1 : r1 < 0
   ·rw [if_pos (by simpa using h1), if_pos h1]; rfl
   ·rw [if_neg (by simpa using h1), if_neg h1]
    by_cases h2 : c.2.1 = r1
    ·rw [if_neg (by simp [h2]), if_pos h2]
     cases laws_heldIntSS c.2.2 (w64 (r1 + 1)) with
     | none => rfl
     | some r2 =>
      simp only [Option.bind_some]
      by_cases h3 : r2 < 0
      ·rw [if_pos (by simpa using h3), if_pos h3]
      ·rw [if_neg (by simpa using h3), if_neg h3]
    ·rw [if_pos (by simpa using h2), if_neg h2]; rfl
end T
open Go Go.Va
namespace T
section
variable {a : Net} {f : Opn} {n : Int}
theorem clone_ok {l : List Int} (h : l.length ≤ 1000000) : impl_clone l = some l := by
 unfold impl_clone
 rw [if_pos (by simp; unfold lim; omega)]; simp
theorem copy_L7 {l out : List Con} {i : Nat} (hi : i < l.length) (hr : ∀ r ∈ l[i].2.2, r.length ≤ 1048576) (hl : l[i].2.2.length ≤ 1048576) (s : List Int) (ar : Int) : spec_l19Copy_L7 fuel (l, out, (i : Int), (s, (ar, [])), 0) = some (l, out, (i : Int), (s, (ar, l[i].2.2))) := by
 have := forS l[i].2.2.length (fun m (o : List (List Int)) k => spec_l19Copy_L7 m (l, out, (i : Int), (s, (ar, o)), k)) (fun k => l[i].2.2.take k) (r := some (l, out, (i : Int), (s, (ar, l[i].2.2)))) (fun m k hk => ?_) (fun m => ?_) (n := fuel) (by unfold fuel; omega)
 ·exact this
 ·have e := spec_l1Own_ok (l := l[i].2.2[k]) (by have := hr _ (List.getElem_mem hk); omega)
  simp only [spec_l19Copy_L7, inb_nat, hi, gd_nat hi, hk, gd_nat hk, if_true, e, Option.bind_some, w64_succ (show k < 4611686018427387904 by omega)]
  rw [if_pos (by simp; omega), if_pos (by simp; unfold lim; omega), List.take_succ_eq_append_getElem hk]
 ·simp only [spec_l19Copy_L7, inb_nat, hi, gd_nat hi, if_true, List.take_length]
  rw [if_neg (by simp)]
theorem spec_l19Copy_ok {l : List Con} (hl : l.length ≤ 1000000) (hc : ∀ c ∈ l, conS c) : spec_l19Copy l = some l := by
 have := forS l.length (fun m (o : List Con) i => spec_l19Copy_L3 m (l, o, i)) (fun k => l.take k) (r := some l) (fun m k hk => ?_) (fun m => ?_) (n := fuel) (by unfold fuel; omega)
 ·have this : spec_l19Copy_L3 fuel (l, [], 0) = _ := this
  unfold spec_l19Copy
  rw [this]; rfl
 ·have h := hc _ (List.getElem_mem hk)
  have e1 := spec_l1Own_ok (l := l[k].1) (by have := h.1; omega)
  have e2 := copy_L7 (out := l.take k) hk (fun r hr => by have := h.2.2 r hr; omega) (by have := h.2.1; omega) l[k].1 l[k].2.1
  simp only [spec_l19Copy_L3, inb_nat, hk, gd_nat hk, if_true, e1, e2, Option.bind_some, w64_succ (show k < 4611686018427387904 by omega)]
  rw [if_pos (by simp; omega), if_pos (by simp; unfold lim; omega), List.take_succ_eq_append_getElem hk]
 ·simp only [spec_l19Copy_L3, List.take_length]
  rw [if_neg (by simp)]
def smallN (a : Net) : Prop := a.2.2.length ≤ 100 ∧ ∀ c ∈ a.2.2, c.1.length ≤ 100 ∧ c.2.2.length ≤ 1000 ∧ ∀ r ∈ c.2.2, r.length ≤ 100
theorem small_s {a : Net} (h : smallN a) : netS a := ⟨by have := h.1; omega, fun c hc => ⟨by have := (h.2 c hc).1; omega, by have := (h.2 c hc).2.1; omega, fun r hr => by have := (h.2 c hc).2.2 r hr; omega⟩⟩
theorem small_sum {a : Net} (h : smallN a) : (a.2.2.map wC).sum ≤ 100 * 100101 := by
 have h1 : ∀ l : List Con, (∀ c ∈ l, wC c ≤ 100101) → (l.map wC).sum ≤ l.length * 100101 := by
  intro l
  induction l with
  | nil => intro _; simp
  | cons c l ih =>
   intro h
   have := ih fun c hc => h c (List.mem_cons_of_mem _ hc)
   have := h c (by simp)
   rw [List.map_cons, List.sum_cons, List.length_cons, Nat.succ_mul]; omega
 have h2 : ∀ l : List (List Int), (∀ r ∈ l, r.length ≤ 100) → (l.map List.length).sum ≤ 100 * l.length := by
  intro l
  induction l with
  | nil => intro _; simp
  | cons c l ih =>
   intro h
   have := ih fun c hc => h c (List.mem_cons_of_mem _ hc)
   have := h c (by simp)
   rw [List.map_cons, List.sum_cons, List.length_cons]; omega
 refine Nat.le_trans (h1 _ fun c hc => ?_) (Nat.mul_le_mul h.1 (Nat.le_refl _))
 obtain ⟨g1, g2, g3⟩ := h.2 c hc
 have := h2 _ g3
 unfold wC; omega
theorem small_marks {a : Net} (h : smallN a) : ∃ b k, laws_markNetwork a 1 = some (b, k) ∧ laws_heldNetwork (a.1, (a.2.1, b.2.2)) 1 = some k ∧ 0 ≤ k := by
 have h1 := small_sum h
 have hs := small_s h
 have e1 := mkL_far (f := mCon) (w := wC) a.2.2 1 fun c _ k => mCon_far c k
 have e2 := markConstraintS_ok (l := a.2.2) (k := 1) hs.1 hs.2 (by omega) (by unfold BM; omega)
 have e3 := heldConstraintS_ok (l := a.2.2) (k := 1) hs.1 hs.2 (by omega) (by unfold BM; omega)
 refine ⟨((), ((), (mkL mCon a.2.2 1).1)), (mkL mCon a.2.2 1).2, ?_, ?_, by omega⟩
 ·unfold laws_markNetwork; rw [e2]; rfl
 ·unfold laws_heldNetwork
  dsimp only
  rw [e3]
  simp only [Option.bind_some]
  rw [if_neg (by simp; omega)]
theorem eqNet_self {b : Net} (h : netS b) : laws_eqNetwork b b = some true := by rw [eqNetwork_ok h]; simp
end
end T
open Go Go.Va
namespace T
section
variable {a : Net} {v n : Int}
def twoT (p q : Nat) (t : List Int) : List Int := [t.getD p 0, t.getD q 0]
def twoC (c : Con) (p q : Nat) : Con := (twoT p q c.1, (2, setL (c.2.2.map (twoT p q))))
def rowP (c : Con) (p : Nat) : List Con := (List.range' (p + 1) (c.1.length - (p + 1))).map (twoC c p)
def binC (c : Con) : List Con := (if c.1.length = 1 then [c] else []) ++ (List.range c.1.length).flatMap (rowP c)
theorem spec_At2 {t : List Int} {p q : Nat} (hp : p < t.length) (hq : q < t.length) : spec_l8At t [(p : Int), (q : Int)] = some (twoT p q t) := by
 unfold spec_l8At
 have e : fuel = (fuel - 3) + 1 + 1 + 1 := by unfold fuel; omega
 rw [e]
 have w1 : w64 (0 + 1) = 1 := by rw [w64_def]; rfl
 have w2 : w64 (1 + 1) = 2 := by rw [w64_def]; rfl
 have i0 : inb (0 : Int) [(p : Int), (q : Int)] := by unfold inb; simp
 have i1 : inb (1 : Int) [(p : Int), (q : Int)] := by unfold inb; simp
 have g0 : gd [(p : Int), (q : Int)] 0 0 = (p : Int) := rfl
 have g1 : gd [(p : Int), (q : Int)] 1 0 = (q : Int) := rfl
 simp only [spec_l8At_L3, w1, w2, i0, i1, g0, g1, inb_nat, hp, hq, if_true, gd_D]
 simp [twoT, lim]
structure TwoOk (c : Con) : Prop where
 sl : c.1.length ≤ 3
 tl : ∀ t ∈ c.2.2, t.length = c.1.length
 many : c.2.2.length ≤ 64
theorem two_put {c : Con} (h : TwoOk c) {p q : Nat} (hp : p < c.1.length) (hq : q < c.1.length) : spec_l13Project c.2 [(p : Int), (q : Int)] = some (twoC c p q).2 := by
 have hm := h.many
 have := forS c.2.2.length (fun m (o : List (List Int)) i => spec_l13Project_L3 m ([(p : Int), (q : Int)], c.2, (0, []), (2, o), i)) (fun k => setL ((c.2.2.take k).map (twoT p q))) (r := some ((0, []), (2, setL (c.2.2.map (twoT p q))))) (fun m k hk => ?_) (fun m => ?_) (n := fuel) (by unfold fuel; omega)
 ·have e0 : setL ((c.2.2.take 0).map (twoT p q)) = [] := by rw [List.take_zero, List.map_nil]; simp [setL, sortL, diffL, keepI]
  rw [e0] at this
  have this : spec_l13Project_L3 fuel ([(p : Int), (q : Int)], (c.2.1, c.2.2), (0, []), ((([(p : Int), (q : Int)] : List Int).length : Int), []), 0) = _ := this
  unfold spec_l13Project
  rw [this]; rfl
 ·have ht := h.tl _ (List.getElem_mem hk)
  have e1 := spec_At2 (t := c.2.2[k]) (show p < c.2.2[k].length by omega) (show q < c.2.2[k].length by omega)
  have hle := setL_le ((c.2.2.take k).map (twoT p q))
  rw [List.length_map, List.length_take] at hle
  obtain ⟨out, e2, g1, g2, _⟩ := spec_l8Put_ok (list := setL ((c.2.2.take k).map (twoT p q))) (t := twoT p q c.2.2[k]) (k := 2) (by omega) (by omega) (fun u hu => by
   obtain ⟨t, _, rfl⟩ := List.mem_map.1 (setL_mem.1 hu); rfl) rfl (setL_inc _)
  have e3 : out = setL ((c.2.2.take (k + 1)).map (twoT p q)) := (setL_of g1 fun u => by
   rw [g2, setL_mem, List.take_succ_eq_append_getElem hk, List.map_append, List.mem_append, List.map_cons, List.map_nil, List.mem_singleton]
   exact ⟨fun h => h.symm, fun h => h.symm⟩).symm
  simp only [spec_l13Project_L3, inb_nat, hk, gd_nat hk, if_true, e1, e2, Option.bind_some, w64_succ (show k < 4611686018427387904 by omega)]
  rw [if_pos (by simp; omega), e3]
 ·simp only [spec_l13Project_L3, List.take_length]
  rw [if_neg (by simp)]
theorem rowP_len {c : Con} {p : Nat} : (rowP c p).length = c.1.length - (p + 1) := by simp [rowP]
theorem sbin_L14 {c : Con} (h : TwoOk c) {p : Nat} (hp : p < c.1.length) (t1 t2 : Net) (x y t5 : Int) : ∀ (d f q : Nat) (o : List Con), q + d = c.1.length → p < q → d < f → o.length + d ≤ 100000 →
    spec_BinaryPart_L14 f (t1, t2, (x, (y, o)), t5, c, (p : Int), (q : Int)) = some (t1, t2, (x, (y, o ++ (List.range' q d).map (twoC c p))), t5, c, (p : Int)) := by
  have hsl := h.sl
  intro d
  induction d with
  | zero =>
    intro f q o hq hpq hf ho
    obtain ⟨f, rfl⟩ : ∃ z, f = z + 1 := ⟨f - 1, by omega⟩
    simp only [spec_BinaryPart_L14]
    rw [if_neg (by simp; omega)]
    simp
  | succ d ih =>
    intro f q o hq hpq hf ho
    obtain ⟨f, rfl⟩ : ∃ z, f = z + 1 := ⟨f - 1, by omega⟩
    have hql : q < c.1.length := by omega
    have e1 := two_put h hp hql
    have e1 : spec_l13Project (c.2.1, c.2.2) [(p : Int), (q : Int)] = _ := e1
    have e2 := ih f (q + 1) (o ++ [twoC c p q]) (by omega) (by omega) (by omega) (by rw [List.length_append, List.length_singleton]; omega)
    simp only [spec_BinaryPart_L14, inb_nat, hp, hql, if_true, gd_D, e1, Option.bind_some, w64_succ (show q < 4611686018427387904 by omega)]
    rw [if_pos (by simp; omega), if_pos (by simp; unfold lim; omega)]
    rw [List.range'_succ, List.map_cons]
    rw [List.append_assoc] at e2
    exact e2
theorem flat_snoc {α β : Type} {g : α → List β} {l : List α} {x : α} : (l ++ [x]).flatMap g = l.flatMap g ++ g x := by simp
theorem sbin_L11 {c : Con} (h : TwoOk c) (t1 t2 : Net) (x y t5 : Int) (o : List Con) (ho : o.length ≤ 50000) :
    spec_BinaryPart_L11 fuel (t1, t2, (x, (y, o)), t5, c, 0) = some (t1, t2, (x, (y, o ++ (List.range c.1.length).flatMap (rowP c))), t5) := by
  have hsl := h.sl
  have hfl : ∀ k, k ≤ c.1.length → ((List.range k).flatMap (rowP c)).length ≤ 3 * k := fun k hk => by
    induction k with
    | zero => simp
    | succ k ih =>
      have := ih (by omega)
      rw [List.range_succ, flat_snoc, List.length_append, rowP_len]; omega
  have := forS c.1.length (fun m (o : List Con) i => spec_BinaryPart_L11 m (t1, t2, (x, (y, o)), t5, c, i)) (fun k => o ++ (List.range k).flatMap (rowP c)) (r := some (t1, t2, (x, (y, o ++ (List.range c.1.length).flatMap (rowP c))), t5)) (fun m k hk => ?_) (fun m => ?_) (n := fuel) (by unfold fuel; omega)
  · rw [List.range_zero, List.flatMap_nil, List.append_nil] at this; exact this
  · have hz := hfl k (by omega)
    have e := sbin_L14 h hk t1 t2 x y t5 (c.1.length - (k + 1)) fuel (k + 1) (o ++ (List.range k).flatMap (rowP c)) (by omega) (by omega) (by unfold fuel; omega) (by rw [List.length_append]; omega)
    simp only [spec_BinaryPart_L11, w64_succ (show k < 4611686018427387904 by omega), e, Option.bind_some]
    rw [if_pos (by simp; omega), List.range_succ, flat_snoc, List.append_assoc]
    rfl
  · simp only [spec_BinaryPart_L11]
    rw [if_neg (by simp)]
theorem bin_len {c : Con} (h : c.1.length ≤ 3) : (binC c).length ≤ 3 := by
 unfold binC
 rcases Nat.lt_or_ge c.1.length 1 with h0 | h0
 ·have e : c.1.length = 0 := by omega
  rw [e]; simp
 ·rcases Nat.lt_or_ge c.1.length 2 with h1 | h1
  ·have e : c.1.length = 1 := by omega
   have e1 : (rowP c 0).length = 0 := by rw [rowP_len]; omega
   rw [e]; simp [List.range_succ, e1]
  ·have e0 : (rowP c 0).length = c.1.length - 1 := rowP_len
   have e1 : (rowP c 1).length = c.1.length - 2 := rowP_len
   have e2 : (rowP c 2).length = c.1.length - 3 := rowP_len
   rcases Nat.lt_or_ge c.1.length 3 with h2 | h2
   ·have e : c.1.length = 2 := by omega
    rw [if_neg (by omega), e]; simp [List.range_succ, e0, e1]; omega
   ·have e : c.1.length = 3 := by omega
    rw [if_neg (by omega), e]; simp [List.range_succ, e0, e1, e2]; omega
theorem bin_one {c : Con} (h : c.1.length = 1) : binC c = [c] ++ (List.range c.1.length).flatMap (rowP c) := by unfold binC; rw [if_pos h]
theorem bin_not {c : Con} (h : c.1.length ≠ 1) : binC c = (List.range c.1.length).flatMap (rowP c) := by unfold binC; rw [if_neg h, List.nil_append]
theorem binL_len {l : List Con} (h : ∀ c ∈ l, c.1.length ≤ 3) : (l.flatMap binC).length ≤ 3 * l.length := by
 induction l with
 | nil => simp
 | cons c l ih =>
  have := ih fun c hc => h c (List.mem_cons_of_mem _ hc)
  have := bin_len (h c (by simp))
  rw [List.flatMap_cons, List.length_append, List.length_cons]; omega
theorem sbin_L5 (hc : ∀ c ∈ a.2.2, TwoOk c) (hs : ∀ c ∈ a.2.2, conS c) (hl : a.2.2.length ≤ 1000) (t2 : Net) (x y : Int) :
    spec_BinaryPart_L5 fuel (a, t2, (x, (y, [])), 0) = some (t2, (x, (y, a.2.2.flatMap binC))) := by
  have := forS a.2.2.length (fun m (o : List Con) i => spec_BinaryPart_L5 m (a, t2, (x, (y, o)), i)) (fun k => (a.2.2.take k).flatMap binC) (r := some (t2, (x, (y, a.2.2.flatMap binC)))) (fun m k hk => ?_) (fun m => ?_) (n := fuel) (by unfold fuel; omega)
  · exact this
  · have h := hc _ (List.getElem_mem hk)
    have hz := binL_len (l := a.2.2.take k) fun c h => (hc c (List.mem_of_mem_take h)).sl
    rw [List.length_take] at hz
    have ew := w64_succ (show k < 4611686018427387904 by omega)
    have e1 : (a.2.2.take (Int.toNat ((k + 1 : Nat) : Int))).drop (Int.toNat (k : Int)) = [a.2.2[k]] := by
      rw [Int.toNat_natCast, Int.toNat_natCast, List.take_succ_eq_append_getElem hk, List.drop_append_of_le_length (by rw [List.length_take]; omega), List.drop_eq_nil_of_le (by rw [List.length_take]; omega)]
      rfl
    have e2 := spec_l19Copy_ok (l := [a.2.2[k]]) (by simp) fun c h => by rw [List.mem_singleton.1 h]; exact hs _ (List.getElem_mem hk)
    have i0 : inb (0 : Int) [a.2.2[k]] := by unfold inb; simp
    have g0 : gd [a.2.2[k]] 0 ([], (0, [])) = a.2.2[k] := rfl
    simp only [spec_BinaryPart_L5, ew, e1, e2, i0, g0, if_true, Option.bind_some]
    rw [if_pos (by simp; omega), if_pos (by omega), List.take_succ_eq_append_getElem hk, flat_snoc]
    by_cases h1 : a.2.2[k].1.length = 1
    · rw [if_pos (by simp [h1]), if_pos (by simp only [List.length_singleton]; unfold lim; omega)]
      have e3 := sbin_L11 h a t2 x y (k : Int) ((a.2.2.take k).flatMap binC ++ [a.2.2[k]]) (by rw [List.length_append, List.length_singleton]; omega)
      have e3 : spec_BinaryPart_L11 fuel ((a.1, (a.2.1, a.2.2)), (t2.1, (t2.2.1, t2.2.2)), (x, (y, (a.2.2.take k).flatMap binC ++ [(a.2.2[k].1, (a.2.2[k].2.1, a.2.2[k].2.2))])), (k : Int), (a.2.2[k].1, (a.2.2[k].2.1, a.2.2[k].2.2)), 0) = _ := e3
      rw [e3]
      simp only [Option.bind_some, ew]
      rw [bin_one h1, List.append_assoc]
    · rw [if_neg (by simp; omega)]
      have e3 := sbin_L11 h a t2 x y (k : Int) ((a.2.2.take k).flatMap binC) (by omega)
      have e3 : spec_BinaryPart_L11 fuel ((a.1, (a.2.1, a.2.2)), (t2.1, (t2.2.1, t2.2.2)), (x, (y, (a.2.2.take k).flatMap binC)), (k : Int), (a.2.2[k].1, (a.2.2[k].2.1, a.2.2[k].2.2)), 0) = _ := e3
      rw [e3]
      simp only [Option.bind_some, ew]
      rw [bin_not h1]
  · simp only [spec_BinaryPart_L5, List.take_length]
    rw [if_neg (by simp)]
theorem ibin_L17 {c : Con} (h : TwoOk c) {p q : Nat} (hp : p < c.1.length) (hq : q < c.1.length) (t1 t2 : Net) (t4 t18 : List Con) (x y z w : Int) :
    impl_BinaryPart_L17 fuel (t1, t2, t4, c, (p : Int), (q : Int), [], t18, x, y, z, w, c.2.2, (c.2.2.length : Int), 0) = some (t1, t2, t4, c, (p : Int), (q : Int), c.2.2.map (twoT p q), t18, x, y, z, w) := by
  have hm := h.many
  have := forS c.2.2.length (fun m (o : List (List Int)) i => impl_BinaryPart_L17 m (t1, t2, t4, c, (p : Int), (q : Int), o, t18, x, y, z, w, c.2.2, (c.2.2.length : Int), i)) (fun k => (c.2.2.take k).map (twoT p q)) (r := some (t1, t2, t4, c, (p : Int), (q : Int), c.2.2.map (twoT p q), t18, x, y, z, w)) (fun m k hk => ?_) (fun m => ?_) (n := fuel) (by unfold fuel; omega)
  · exact this
  · have ht := h.tl _ (List.getElem_mem hk)
    simp only [impl_BinaryPart_L17, inb_nat, hk, gd_nat hk, show p < c.2.2[k].length by omega, show q < c.2.2[k].length by omega, if_true, gd_D, w64_succ (show k < 4611686018427387904 by omega)]
    rw [if_pos (by simp; omega), if_pos (by simp; unfold lim; omega), List.take_succ_eq_append_getElem hk, List.map_append]
    rfl
  · simp only [impl_BinaryPart_L17, List.take_length]
    rw [if_neg (by simp)]
theorem ibin_L13 {c : Con} (h : TwoOk c) {p : Nat} (hp : p < c.1.length) (t1 t2 : Net) (t18 : List Con) (x y z w : Int) : ∀ (d f q : Nat) (o : List Con), q + d = c.1.length → p < q → d < f → o.length + d ≤ 100000 →
    impl_BinaryPart_L13 f (t1, t2, o, c, (p : Int), (q : Int), t18, x, y, z, w) = some (t1, t2, o ++ (List.range' q d).map (twoC c p), c, t18, x, y, z, w) := by
  have hsl := h.sl
  have hm := h.many
  intro d
  induction d with
  | zero =>
    intro f q o hq hpq hf ho
    obtain ⟨f, rfl⟩ : ∃ z, f = z + 1 := ⟨f - 1, by omega⟩
    simp only [impl_BinaryPart_L13]
    rw [if_neg (by simp; omega)]
    simp
  | succ d ih =>
    intro f q o hq hpq hf ho
    obtain ⟨f, rfl⟩ : ∃ z, f = z + 1 := ⟨f - 1, by omega⟩
    have hql : q < c.1.length := by omega
    have e1 := ibin_L17 h hp hql t1 t2 o t18 x y z w
    have e1 : impl_BinaryPart_L17 fuel ((t1.1, (t1.2.1, t1.2.2)), (t2.1, (t2.2.1, t2.2.2)), o, (c.1, (c.2.1, c.2.2)), (p : Int), (q : Int), [], t18, x, y, z, w, c.2.2, (c.2.2.length : Int), 0) = _ := e1
    have e2 := ih f (q + 1) (o ++ [twoC c p q]) (by omega) (by omega) (by omega) (by rw [List.length_append, List.length_singleton]; omega)
    have e3 := makeRel_ok (ar := 2) (l := c.2.2.map (twoT p q)) (by rw [List.length_map]; omega) fun r hr => by obtain ⟨t, _, rfl⟩ := List.mem_map.1 hr; simp [twoT]
    simp only [impl_BinaryPart_L13, inb_nat, hp, hql, if_true, gd_D, e1, e3, Option.bind_some, w64_succ (show q < 4611686018427387904 by omega)]
    rw [if_pos (by simp; omega), if_pos (by simp; unfold lim; omega)]
    rw [List.range'_succ, List.map_cons]
    rw [List.append_assoc] at e2
    exact e2
theorem ibin_L10 {c : Con} (h : TwoOk c) (t1 t2 : Net) (t18 : List Con) (x y : Int) (o : List Con) (ho : o.length ≤ 50000) :
    impl_BinaryPart_L10 fuel (t1, t2, o, c, t18, x, y, (c.1.length : Int), 0) = some (t1, t2, o ++ (List.range c.1.length).flatMap (rowP c), t18, x, y) := by
  have hsl := h.sl
  have hfl : ∀ k, k ≤ c.1.length → ((List.range k).flatMap (rowP c)).length ≤ 3 * k := fun k hk => by
    induction k with
    | zero => simp
    | succ k ih =>
      have := ih (by omega)
      rw [List.range_succ, flat_snoc, List.length_append, rowP_len]; omega
  have := forS c.1.length (fun m (o : List Con) i => impl_BinaryPart_L10 m (t1, t2, o, c, t18, x, y, (c.1.length : Int), i)) (fun k => o ++ (List.range k).flatMap (rowP c)) (r := some (t1, t2, o ++ (List.range c.1.length).flatMap (rowP c), t18, x, y)) (fun m k hk => ?_) (fun m => ?_) (n := fuel) (by unfold fuel; omega)
  · rw [List.range_zero, List.flatMap_nil, List.append_nil] at this; exact this
  · have hz := hfl k (by omega)
    have e := ibin_L13 h hk t1 t2 t18 x y (c.1.length : Int) (k : Int) (c.1.length - (k + 1)) fuel (k + 1) (o ++ (List.range k).flatMap (rowP c)) (by omega) (by omega) (by unfold fuel; omega) (by rw [List.length_append]; omega)
    simp only [impl_BinaryPart_L10, w64_succ (show k < 4611686018427387904 by omega), e, Option.bind_some]
    rw [if_pos (by simp; omega), List.range_succ, flat_snoc, List.append_assoc]
    rfl
  · simp only [impl_BinaryPart_L10]
    rw [if_neg (by simp)]
theorem cloneC_one {c : Con} (h : TwoOk c) : impl_cloneConstraints [c] = some [c] := by
 have hm := h.many
 have hsl := h.sl
 have e1 := clone_ok (l := c.1) (by omega)
 have e2 := cloneRows_ok (rows := c.2.2) (by omega) fun r hr => by have := h.tl r hr; omega
 have ef : fuel = (fuel - 2) + 1 + 1 := by unfold fuel; omega
 have w1 : w64 (0 + 1) = 1 := by rw [w64_def]; rfl
 have i0 : inb (0 : Int) [c] := by unfold inb; simp
 have g0 : gd [c] 0 ([], (0, [])) = c := rfl
 unfold impl_cloneConstraints
 rw [ef]
 unfold impl_cloneRelation at *
 simp only [impl_cloneConstraints_L3, w1, i0, g0, if_true, e1, Option.bind_some]
 unfold impl_cloneRelation
 simp only [e2, Option.bind_some]
 simp [lim]
theorem ibin_L5 (hc : ∀ c ∈ a.2.2, TwoOk c) (hl : a.2.2.length ≤ 1000) (t2 : Net) :
    impl_BinaryPart_L5 fuel (a, t2, [], a.2.2, (a.2.2.length : Int), 0) = some (a, t2, a.2.2.flatMap binC) := by
  have := forS a.2.2.length (fun m (o : List Con) i => impl_BinaryPart_L5 m (a, t2, o, a.2.2, (a.2.2.length : Int), i)) (fun k => (a.2.2.take k).flatMap binC) (r := some (a, t2, a.2.2.flatMap binC)) (fun m k hk => ?_) (fun m => ?_) (n := fuel) (by unfold fuel; omega)
  · exact this
  · have h := hc _ (List.getElem_mem hk)
    have hz := binL_len (l := a.2.2.take k) fun c h => (hc c (List.mem_of_mem_take h)).sl
    rw [List.length_take] at hz
    have ew := w64_succ (show k < 4611686018427387904 by omega)
    have e2 := cloneC_one h
    have e2 : impl_cloneConstraints [(a.2.2[k].1, (a.2.2[k].2.1, a.2.2[k].2.2))] = _ := e2
    simp only [impl_BinaryPart_L5, ew, inb_nat, hk, gd_nat hk, e2, if_true, Option.bind_some]
    rw [if_pos (by simp; omega), List.take_succ_eq_append_getElem hk, flat_snoc]
    by_cases h1 : a.2.2[k].1.length = 1
    · rw [if_pos (by simp [h1]), if_pos (by simp only [List.length_singleton]; unfold lim; omega)]
      have e3 := ibin_L10 h a t2 a.2.2 (a.2.2.length : Int) (k : Int) ((a.2.2.take k).flatMap binC ++ [a.2.2[k]]) (by rw [List.length_append, List.length_singleton]; omega)
      have e3 : impl_BinaryPart_L10 fuel ((a.1, (a.2.1, a.2.2)), (t2.1, (t2.2.1, t2.2.2)), (a.2.2.take k).flatMap binC ++ [a.2.2[k]], (a.2.2[k].1, (a.2.2[k].2.1, a.2.2[k].2.2)), a.2.2, (a.2.2.length : Int), (k : Int), (a.2.2[k].1.length : Int), 0) = _ := e3
      rw [e3]
      simp only [Option.bind_some, ew]
      rw [bin_one h1, List.append_assoc]
    · rw [if_neg (by simp; omega)]
      have e3 := ibin_L10 h a t2 a.2.2 (a.2.2.length : Int) (k : Int) ((a.2.2.take k).flatMap binC) (by omega)
      have e3 : impl_BinaryPart_L10 fuel ((a.1, (a.2.1, a.2.2)), (t2.1, (t2.2.1, t2.2.2)), (a.2.2.take k).flatMap binC, (a.2.2[k].1, (a.2.2[k].2.1, a.2.2[k].2.2)), a.2.2, (a.2.2.length : Int), (k : Int), (a.2.2[k].1.length : Int), 0) = _ := e3
      rw [e3]
      simp only [Option.bind_some, ew]
      rw [bin_not h1]
  · simp only [impl_BinaryPart_L5, List.take_length]
    rw [if_neg (by simp)]
def binR (a : Net) : Net × Bool := if netB a && decide ((a.2.2.flatMap binC).length ≤ 40) then ((a.1, (a.2.1, a.2.2.flatMap binC)), true) else ((0, (0, [])), false)
theorem two_of (h : NetOk a) : ∀ c ∈ a.2.2, TwoOk c := fun c hc => by
 have hco := h.con c hc
 exact ⟨by have := hco.sl; have := hco.ar; omega, hco.tl, hco.many⟩
theorem two_con {c : Con} (h : ConOk v n c) {p q : Nat} (hp : p < c.1.length) (hq : q < c.1.length) : conB v n (twoC c p q) = true := by
 unfold conB relB twoC
 simp only [Bool.and_eq_true, decide_eq_true_eq, List.all_eq_true]
 refine ⟨⟨⟨⟨by omega, fun t ht => ?_⟩, setL_inc _⟩, by simp [twoT]⟩, ?_⟩
 ·obtain ⟨s, hs, rfl⟩ := List.mem_map.1 (setL_mem.1 ht)
  have hsl := h.tl s hs
  refine ⟨by simp [twoT], ?_⟩
  unfold belowB
  rw [List.all_eq_true]
  intro x hx
  have h1 := h.tv s hs p (by omega)
  have h2 := h.tv s hs q (by omega)
  unfold twoT at hx
  rw [getD_of (show p < s.length by omega), getD_of (show q < s.length by omega)] at hx
  rcases List.mem_cons.1 hx with rfl | hx
  ·simpa using h1
  ·rw [List.mem_singleton.1 hx]; simpa using h2
 ·unfold belowB
  rw [List.all_eq_true]
  intro x hx
  have h1 := h.sv p hp
  have h2 := h.sv q hq
  unfold twoT at hx
  rw [getD_of hp, getD_of hq] at hx
  rcases List.mem_cons.1 hx with rfl | hx
  ·simpa using h1
  ·rw [List.mem_singleton.1 hx]; simpa using h2
theorem bin_mem {c d : Con} (h : d ∈ binC c) : d = c ∨ ∃ p q, p < c.1.length ∧ q < c.1.length ∧ d = twoC c p q := by
 unfold binC at h
 rcases List.mem_append.1 h with h | h
 ·split at h
  ·exact Or.inl (List.mem_singleton.1 h)
  ·cases h
 ·obtain ⟨p, hp, h⟩ := List.mem_flatMap.1 h
  obtain ⟨q, hq, rfl⟩ := List.mem_map.1 h
  have := List.mem_range.1 hp
  have := List.mem_range'_1.1 hq
  exact Or.inr ⟨p, q, by omega, by omega, rfl⟩
theorem bin_net (hb : netB a = true) : netB (a.1, (a.2.1, a.2.2.flatMap binC)) = decide ((a.2.2.flatMap binC).length ≤ 40) := by
 have hok := net_of hb
 unfold netB at hb ⊢
 simp only [Bool.and_eq_true, decide_eq_true_eq, List.all_eq_true] at hb
 obtain ⟨⟨⟨h1, h2⟩, _⟩, h4⟩ := hb
 dsimp only
 have h5 : (a.2.2.flatMap binC).all (conB a.1 a.2.1) = true := by
  rw [List.all_eq_true]
  intro d hd
  obtain ⟨c, hc, hd⟩ := List.mem_flatMap.1 hd
  rcases bin_mem hd with rfl | ⟨p, q, hp, hq, rfl⟩
  ·exact h4 d hc
  ·exact two_con (hok.con c hc) hp hq
 rw [h5, decide_eq_true h1, decide_eq_true h2]
 simp
theorem Binary_ok (hs : netS a) : impl_BinaryPart a = some (binR a) ∧ spec_BinaryPart a = some (binR a) := by
 obtain ⟨v, n, cs⟩ := a
 unfold impl_BinaryPart spec_BinaryPart binR
 dsimp only
 rw [impl_IsNetwork_ok hs, spec_l19Good_ok hs]
 simp only [Option.bind_some]
 cases hb : netB (v, (n, cs)) with
 | false => exact ⟨rfl, rfl⟩
 | true =>
  have hok := net_of hb
  have hcl := hok.hc
  dsimp only at hcl
  have ht := two_of hok
  have e1 := ibin_L5 (a := (v, (n, cs))) ht (by dsimp only; omega) (0, (0, []))
  have e1 : impl_BinaryPart_L5 fuel ((v, (n, cs)), (0, (0, [])), [], cs, (cs.length : Int), 0) = _ := e1
  have e2 := sbin_L5 (a := (v, (n, cs))) ht hs.2 (by dsimp only; omega) (0, (0, [])) v n
  have hbn := bin_net hb
  have hz := binL_len (l := cs) fun c hc => (ht c hc).sl
  have hsb : netS (v, (n, cs.flatMap binC)) := by
   refine ⟨by dsimp only; omega, fun d hd => ?_⟩
   obtain ⟨c, hc, hd⟩ := List.mem_flatMap.1 hd
   rcases bin_mem hd with rfl | ⟨p, q, hp, hq, rfl⟩
   ·exact hs.2 d hc
   ·have h5 := setL_le (c.2.2.map (twoT p q))
    have h6 := (ht c hc).many
    rw [List.length_map] at h5
    refine ⟨by simp [twoC, twoT], by unfold twoC; dsimp only; omega, fun r hr => ?_⟩
    obtain ⟨t, _, rfl⟩ := List.mem_map.1 (setL_mem.1 hr)
    simp [twoT]
  have e3 := spec_l19Good_ok hsb
  rw [hbn] at e3
  dsimp only at e3
  simp only [e1, e2, Option.bind_some, Bool.not_true, Bool.false_eq_true, if_false, Bool.true_and]
  unfold impl_withConstraints spec_l19Give
  simp only [e3, Option.bind_some]
  by_cases hle : (cs.flatMap binC).length ≤ 40
  ·rw [if_neg (by rw [decide_eq_true_eq]; omega), if_pos (decide_eq_true hle), decide_eq_true hle, if_neg (by decide)]
   exact ⟨rfl, rfl⟩
  ·rw [if_pos (by rw [decide_eq_true_eq]; omega), decide_eq_false hle, if_neg (by decide), if_pos (by decide)]
   exact ⟨rfl, rfl⟩
theorem bin_small (hs : netS a) : smallN (binR a).1 := by
 unfold binR
 by_cases hb : (netB a && decide ((a.2.2.flatMap binC).length ≤ 40)) = true
 ·rw [if_pos hb]
  simp only [Bool.and_eq_true, decide_eq_true_eq] at hb
  have hok := net_of hb.1
  have ht := two_of hok
  refine ⟨by dsimp only; omega, fun d hd => ?_⟩
  obtain ⟨c, hc, hd⟩ := List.mem_flatMap.1 hd
  have h1 := (ht c hc).many
  have h2 := (ht c hc).sl
  rcases bin_mem hd with rfl | ⟨p, q, hp, hq, rfl⟩
  ·exact ⟨by omega, by omega, fun r hr => by have := (ht d hc).tl r hr; omega⟩
  ·have h5 := setL_le (c.2.2.map (twoT p q))
   rw [List.length_map] at h5
   refine ⟨by simp [twoC, twoT], by unfold twoC; dsimp only; omega, fun r hr => ?_⟩
   obtain ⟨t, _, rfl⟩ := List.mem_map.1 (setL_mem.1 hr)
   simp [twoT]
 ·rw [if_neg hb]
  exact ⟨by simp, by simp⟩
theorem FnExactBinaryPart_law (h : wfT netT a) : laws_FnExactBinaryPart a = some true := by
 unfold laws_FnExactBinaryPart
 rw [szNetwork_ok (a := (a.1, (a.2.1, a.2.2))) h]
 simp only [Option.bind_some]
 rw [show totN (a.1, (a.2.1, a.2.2)) = totN a from rfl]
 by_cases h : szR (totN a) 1048576 < 0
 ·rw [if_pos (by simpa using h)]
 ·obtain ⟨hs, ht⟩ := szNetwork_small h
  rw [if_neg (by simpa using h)]
  obtain ⟨b, k, hm, hk0, hk1⟩ := markNetwork_ok hs ht
  have hsm : smallN (binR a).1 := bin_small hs
  obtain ⟨d, m, m1, m2, m3⟩ := small_marks hsm
  obtain ⟨e1, e2⟩ := Binary_ok hs
  generalize binR a = R at *
  have e1 : impl_BinaryPart (a.1, (a.2.1, a.2.2)) = _ := e1
  have e2 : spec_BinaryPart (a.1, (a.2.1, a.2.2)) = _ := e2
  have q1 : laws_eqNetwork (R.1.1, (R.1.2.1, R.1.2.2)) (R.1.1, (R.1.2.1, R.1.2.2)) = _ := eqNet_self (small_s hsm)
  have m1 : laws_markNetwork (R.1.1, (R.1.2.1, R.1.2.2)) 1 = _ := m1
  have hm : laws_markNetwork (a.1, (a.2.1, a.2.2)) 1 = _ := hm
  have q2 : laws_eqNetwork (a.1, (a.2.1, a.2.2)) (a.1, (a.2.1, a.2.2)) = _ := eqNet_self hs
  have q4 : laws_toNetwork (a.1, (a.2.1, a.2.2)) = _ := toNetwork_ok hs
  simp only [q4, e1, e2, q1, q2, hm, m1, m2, Option.bind_some]
  simp [show ¬ k < 0 by omega, show ¬ m < 0 by omega]
end
end T
