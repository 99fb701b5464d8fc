/- Plain lemmas on the typed functions of the program, and the plain law of FnExactPairsAssignment; no conditions. -/
import Derived.Test.YtcdjlpcapanibadV1
import Derived.Test.YtcdjlpcapanibadV5
import Derived.KernelRfl
import Derived.Test.YtcdjlpcapanibadOFnExactPairsAssignment
set_option linter.all false
open Go Go.Va
namespace T
section
variable {v : Int} {c : Con} {up : Int}
end
section
variable {a : Net} {up : Int} {vals : List Int}
theorem impl_inClass_ok (h : netS a) {x : Nat} (hx : x < 6) : impl_inClass (a.1, (a.2.1, a.2.2)) (x : Int) = some (boolB a && allB a.2.2 x) := by
 unfold impl_inClass
 rw [impl_isBoolean_ok (a := (a.1, (a.2.1, a.2.2))) h, show boolB (a.1, (a.2.1, a.2.2)) = boolB a from rfl]
 cases hb : boolB a with
 | false => simp
 | true =>
  obtain ⟨hN, h2⟩ := bool_of hb
  have e1 := impl_booleanClasses_ok (v := a.1) hN.hc (fun c hc => by have := hN.con c hc; rw [h2] at this; exact this)
  have hin : x < (tb (allB a.2.2)).length := by rw [tb_len]; exact hx
  simp only [Option.bind_some, if_true, e1, inb_nat, hin, gd_D, tb_get hx, Bool.true_and]
end
end T
set_option linter.unusedVariables false
open Go Go.Va
namespace T
def impl_freeTable_L3 : Nat → ((List Int) × Int × Int) → Option ((List Int))
 | 0, _ => none
 | n + 1, (list, t8, t9) =>
  if decide (t9 < t8) then
   if inb t9 list then
    impl_freeTable_L3 n (stt list t9 (-1), t8, w64 (t9 + 1))
   else none
  else
   some list
def impl_freeTable (many : Int) : Option ((List Int)) :=
 if 0 ≤ many ∧ many ≤ many ∧ many ≤ lim then
  (impl_freeTable_L3 fuel (List.replicate (Int.toNat many) (0 : Int), ((List.replicate (Int.toNat many) (0 : Int)).length : Int), 0)).bind fun s1 =>
   some s1
 else none
end T
open Go Go.Va
namespace T
abbrev RelT := Int × List (List Int)
structure ROk (n m : Nat) (r : RelT) : Prop where
 ar : r.1 = (m : Int)
 hm : 1 ≤ m ∧ m ≤ 3
 tl : ∀ t ∈ r.2, t.length = m
 tv : ∀ t ∈ r.2, ∀ x ∈ t, 0 ≤ x ∧ x < (n : Int)
 many : r.2.length ≤ 64
 inc : incB r.2 = true
def PL (n k : Nat) (r : RelT) (i : Nat) : List Nat := (List.range r.1.toNat).map fun j => atF n r.2 j (dg r.2.length k i)
section
variable {n k m : Nat} {r : RelT}
theorem ROk.vt_lt (h : ROk n m r) {x j : Nat} (hx : x < r.2.length) (hj : j < m) : vt r.2 x j < n ∧ (r.2.getD x []).getD j 0 = ((vt r.2 x j : Nat) : Int) ∧ j < (r.2.getD x []).length := by
 have hmem : r.2[x] ∈ r.2 := List.getElem_mem hx
 have hl := h.tl _ hmem
 have hj' : j < (r.2[x]).length := by omega
 have hv := h.tv _ hmem _ (List.getElem_mem hj')
 unfold vt
 rw [getD_of hx, getD_of hj']
 exact ⟨by omega, by omega, by omega⟩
end
end T
open Go Go.Va
namespace T
def foldU {σ : Type} (cb : List Int → σ → Option (σ × Bool)) : List (List Int) → σ → Option (σ × Bool)
 | [], s => some (s, true)
 | t :: l, s => match cb t s with | some (s', true) => foldU cb l s' | some (s', false) => some (s', false) | none => none
theorem foldU_append {σ : Type} {cb : List Int → σ → Option (σ × Bool)} : ∀ (l l' : List (List Int)) (s : σ), foldU cb (l ++ l') s = match foldU cb l s with | some (s', true) => foldU cb l' s' | some (s', false) => some (s', false) | none => none
 | [], l', s => rfl
 | t :: l, l', s => by
  simp only [List.cons_append, foldU]
  cases hc : cb t s with
  | none => rfl
  | some q =>
   obtain ⟨s', b⟩ := q
   cases b with
   | false => rfl
   | true => exact foldU_append l l' s'
def mstB (given : List Int) (at' x : Nat) : Bool := !(decide (given.getD at' 0 ≥ 0) && given.getD at' 0 != (x : Int))
def extL (n : Nat) (given : List Int) (ok : List Int → Bool) : Nat → List Int → List (List Int)
 | 0, pre => [pre]
 | m + 1, pre => (List.range n).flatMap fun x => if mstB given pre.length x && ok (pre ++ [(x : Int)]) then extL n given ok m (pre ++ [(x : Int)]) else []
section
variable {n k : Nat} {rels : List RelT} {given : List Int}
end
end T
open Go Go.Va
namespace T
section
variable {n k : Nat} {rels : List RelT} {given : List Int}
theorem spec_l13Has_ok {m : Nat} {r : RelT} (h : ROk n m r) {t : List Int} (ht : t.length = m) : spec_l13Has r t = some (decide (t ∈ r.2)) := by
 have hm := h.hm
 have har := h.ar
 have hmany := h.many
 unfold spec_l13Has
 obtain ⟨q, h3, _⟩ := spec_l8Find_ok (list := r.2) (t := t) (k := m) (by omega) (by omega) h.tl ht h.inc
 rw [if_neg (by simp; omega), h3]; rfl
end
end T
open Go Go.Va
namespace T
section
variable {n k : Nat} {rels : List RelT} {given : List Int}
theorem ext_mem {ok : List Int → Bool} : ∀ (m : Nat) (pre t : List Int), t ∈ extL n given ok m pre → t.length = pre.length + m ∧ ((∀ x ∈ pre, 0 ≤ x ∧ x < (n : Int)) → ∀ x ∈ t, 0 ≤ x ∧ x < (n : Int))
 | 0, pre, t, h => by simp only [extL, List.mem_singleton] at h; subst h; exact ⟨rfl, fun h => h⟩
 | m + 1, pre, t, h => by
  simp only [extL, List.mem_flatMap] at h
  obtain ⟨x, hx, h⟩ := h
  have hx := List.mem_range.1 hx
  split at h
  ·obtain ⟨h1, h2⟩ := ext_mem m _ t h
   refine ⟨by rw [h1]; simp; omega, fun hp => h2 fun y hy => ?_⟩
   rcases List.mem_append.1 hy with h3 | h3
   ·exact hp y h3
   ·rw [List.mem_singleton.1 h3]; omega
  ·simp at h
end
end T
open Go Go.Va
namespace T
theorem freeI_ok {N : Nat} (h : N ≤ 1000) : impl_freeTable (N : Int) = some (List.replicate N (-1)) := by
 unfold impl_freeTable
 rw [Int.toNat_natCast, if_pos (by unfold lim; omega)]
 have := forS N (fun f o i => impl_freeTable_L3 f (o, ((List.replicate N (0 : Int)).length : Int), i)) (fun j => List.replicate j (-1) ++ List.replicate (N - j) (0 : Int)) (r := some (List.replicate N (-1))) (fun f j hj => ?_) (fun f => ?_) (n := fuel) (by unfold fuel; omega)
 ·have this : impl_freeTable_L3 fuel (List.replicate N (0 : Int), ((List.replicate N (0 : Int)).length : Int), 0) = _ := this
  rw [this]; rfl
 ·have hin : j < (List.replicate j (-1) ++ List.replicate (N - j) (0 : Int)).length := by simp; omega
  have e : (List.replicate j (-1) ++ List.replicate (N - j) (0 : Int)).set j (-1) = List.replicate (j + 1) (-1) ++ List.replicate (N - (j + 1)) (0 : Int) := by
   rw [show N - j = (N - (j + 1)) + 1 by omega, List.replicate_succ, List.set_append_right _ _ (by simp), List.replicate_succ']
   simp
  simp only [impl_freeTable_L3, inb_nat, hin, stt_nat, e, if_true, w64_succ (show j < 4611686018427387904 by omega)]
  rw [if_pos (by simp; omega)]
 ·simp only [impl_freeTable_L3]
  rw [if_neg (by simp)]; simp
end T
open Go Go.Va
namespace T
section
variable {n : Int} {rels : List RelT}
end
def posL (V : List Int) (x : Nat) : Int := match V.findIdx? (fun y => y == (x : Int)) with | some i => (i : Int) | none => -1
section
variable {n : Nat} {t : List Int}
end
section
variable {n m : Nat} {t : List Int} {r : RelT} {rels : List RelT}
end
end T
set_option linter.unusedVariables false
open Go Go.Va
namespace T
def impl_eliminated_freeVars_p_L3 : Nat → ((List Int) × (List Int) × Int × Int) → Option ((List Int))
 | 0, _ => none
 | n + 1, (list, t10, t11, t12) =>
  if decide (t12 < t11) then
   if inb t12 t10 then
    if decide ((gd t10 t12 0) < 0) then
     if list.length + [t12].length ≤ lim then
      impl_eliminated_freeVars_p_L3 n (list ++ [t12], t10, t11, w64 (t12 + 1))
     else none
    else
     impl_eliminated_freeVars_p_L3 n (list, t10, t11, w64 (t12 + 1))
   else none
  else
   some list
def impl_eliminated_freeVars_p (e : Bool × Int × Int × (List (List Int)) × Int × (List Int)) : Option ((List Int)) :=
 if e.1 = true then
  (impl_eliminated_freeVars_p_L3 fuel ([], e.2.2.2.2.2, (e.2.2.2.2.2.length : Int), 0)).bind fun s1 =>
   some s1
 else none
def impl_eliminated_solution_p_L4 : Nat → (Unit × (Bool × Int × Int × (List (List Int)) × Int × (List Int)) × (List Int) × (List Int) × (List Int) × Int × Int) → Option ((Bool × Int × Int × (List (List Int)) × Int × (List Int)) × (List Int) × (List Int) × (List Int))
 | 0, _ => none
 | n + 1, (al21, t0, t1, t5, t6, t22, t23) =>
  if decide (t23 < t22) then
   if inb t23 t6 then
    if inb t23 t1 then
     if inb (gd t6 t23 0) t5 then
      impl_eliminated_solution_p_L4 n ((), t0, t1, stt t5 (gd t6 t23 0) (gd t1 t23 0), t6, t22, w64 (t23 + 1))
     else none
    else none
   else none
  else
   some (t0, t1, t5, t6)
def impl_eliminated_solution_p_L14 : Nat → (Unit × (Bool × Int × Int × (List (List Int)) × Int × (List Int)) × (List Int) × (List Int) × (List Int) × Int × Int × Int × (List Int) × Int × Int × Int × Int) → Option ((Bool × Int × Int × (List (List Int)) × Int × (List Int)) × (List Int) × (List Int) × (List Int) × Int × Int × (List Int) × Int × Int)
 | 0, _ => none
 | n + 1, (al61, t0, t1, t5, t6, t9, t10, t11, t39, t40, t41, t62, t63) =>
  if decide (t63 < t62) then
   if inb t63 t6 then
    if t0.1 = true then
     if t0.1 = true then
      if inb t10 t0.2.2.2.1 then
       if inb (gd t6 t63 0) (gd t0.2.2.2.1 t10 []) then
        if inb t63 t1 then
         impl_eliminated_solution_p_L14 n ((), t0, t1, t5, t6, t9, t10, w64 (t11 + (w64 ((w64 (t0.2.1 - (gd (gd t0.2.2.2.1 t10 []) (gd t6 t63 0) 0))) * (gd t1 t63 0)))), t39, t40, t41, t62, w64 (t63 + 1))
        else none
       else none
      else none
     else none
    else none
   else none
  else
   some (t0, t1, t5, t6, t9, t11, t39, t40, t41)
def impl_eliminated_solution_p_L9 : Nat → ((Bool × Int × Int × (List (List Int)) × Int × (List Int)) × (List Int) × (List Int) × (List Int) × (List Int) × Int × Int) → Option ((List Int))
 | 0, _ => none
 | n + 1, (t0, t1, t5, t6, t39, t40, t41) =>
  if decide (t41 < t40) then
   if inb t41 t39 then
    if decide ((gd t39 t41 0) < 0) then
     impl_eliminated_solution_p_L9 n (t0, t1, t5, t6, t39, t40, w64 (t41 + 1))
    else
     if t0.1 = true then
      if inb (gd t39 t41 0) t0.2.2.2.1 then
       if t0.1 = true then
        if inb t0.2.2.1 (gd t0.2.2.2.1 (gd t39 t41 0) []) then
         (impl_eliminated_solution_p_L14 fuel ((), t0, t1, t5, t6, t41, gd t39 t41 0, gd (gd t0.2.2.2.1 (gd t39 t41 0) []) t0.2.2.1 0, t39, t40, t41, (t6.length : Int), 0)).bind fun s3 =>
          if s3.1.1 = true then
           if s3.1.2.1 ≠ 0 then
            if inb s3.2.2.2.2.1 s3.2.2.1 then
             impl_eliminated_solution_p_L9 n (s3.1, s3.2.1, stt s3.2.2.1 s3.2.2.2.2.1 (Int.tmod s3.2.2.2.2.2.1 s3.1.2.1), s3.2.2.2.1, s3.2.2.2.2.2.2.1, s3.2.2.2.2.2.2.2.1, w64 (s3.2.2.2.2.2.2.2.2 + 1))
            else none
           else none
          else none
        else none
       else none
      else none
     else none
   else none
  else
   some t5
def impl_eliminated_solution_p (t0 : Bool × Int × Int × (List (List Int)) × Int × (List Int)) (t1 : List Int) : Option ((List Int)) :=
 if t0.1 = true then
  if 0 ≤ t0.2.2.1 ∧ t0.2.2.1 ≤ t0.2.2.1 ∧ t0.2.2.1 ≤ lim then
   (impl_eliminated_freeVars_p t0).bind fun r1 =>
    (impl_eliminated_solution_p_L4 fuel ((), t0, t1, List.replicate (Int.toNat t0.2.2.1) (0 : Int), r1, (r1.length : Int), 0)).bind fun s2 =>
     if s2.1.1 = true then
      (impl_eliminated_solution_p_L9 fuel (s2.1, s2.2.1, s2.2.2.1, s2.2.2.2, s2.1.2.2.2.2.2, (s2.1.2.2.2.2.2.length : Int), 0)).bind fun s3 =>
       some s3
     else none
  else none
 else none
end T
open Go Go.Va
namespace T
def mix {α : Type} (nw old : Nat → α) (N i : Nat) : List α := (List.range N).map fun q => if q < i then nw q else old q
section
variable {α : Type} {nw old : Nat → α} {N i : Nat}
theorem mix_len : (mix nw old N i).length = N := by simp [mix]
theorem mix_set (h : i < N) : (mix nw old N i).set i (nw i) = mix nw old N (i + 1) := by
 unfold mix
 apply List.ext_getElem
 ·simp
 ·intro q h1 h2
  rw [List.getElem_set]
  simp only [List.getElem_map, List.getElem_range]
  by_cases e : i = q
  ·subst e; rw [if_pos rfl, if_pos (by omega)]
  ·rw [if_neg e]
   by_cases e2 : q < i
   ·rw [if_pos e2, if_pos (by omega)]
   ·rw [if_neg e2, if_neg (by omega)]
theorem mix_same (h : i < N) (he : nw i = old i) : mix nw old N (i + 1) = mix nw old N i := by
 unfold mix
 refine List.map_congr_left fun q hq => ?_
 by_cases e : q = i
 ·subst e; rw [if_pos (by omega), if_neg (by omega), he]
 ·by_cases e2 : q < i
  ·rw [if_pos e2, if_pos (by omega)]
  ·rw [if_neg e2, if_neg (by omega)]
theorem mix_full : mix nw old N N = (List.range N).map nw := by
 unfold mix
 refine List.map_congr_left fun q hq => ?_
 rw [if_pos (List.mem_range.1 hq)]
end
def pr4 (p : Int) : Prop := p = 2 ∨ p = 3 ∨ p = 5 ∨ p = 7
def okRow (p : Int) (W : Nat) (r : List Int) : Prop := r.length = W ∧ ∀ x ∈ r, 0 ≤ x ∧ x < p
section
variable {p : Int} {W : Nat} {r row : List Int}
theorem ok_get (h : okRow p W r) {i : Nat} (hi : i < W) : 0 ≤ r.getD i 0 ∧ r.getD i 0 < p := by
 have : i < r.length := by rw [h.1]; exact hi
 rw [getD_of this]; exact h.2 _ (List.getElem_mem this)
theorem w64_small {x : Int} (h0 : -1000000 ≤ x) (h1 : x ≤ 1000000) : w64 x = x := w64_id (by omega) (by omega)
end
abbrev ES := List (List Int) × List Int × List (List Int)
structure ESok (p : Int) (W N v : Nat) (s : ES) : Prop where
 t : ∀ r ∈ s.1, okRow p W r
 l : ∀ r ∈ s.2.2, okRow p W r
 bl : s.2.1.length = s.1.length
 n : s.1.length + s.2.2.length = N
 bv : ∀ x ∈ s.2.1, 0 ≤ x ∧ x < (v : Int)
 bn : s.2.1.Nodup
section
variable {p : Int} {W N : Nat}
end
end T
open Go Go.Va
namespace T
def barr (V : Nat) (b : List Int) : List Int := (List.range V).map (posL b)
section
variable {p : Int} {W N V : Nat}
theorem barr_len {b : List Int} : (barr V b).length = V := by simp [barr]
theorem barr_get {b : List Int} {u : Nat} (h : u < V) : (barr V b).getD u 0 = posL b u := by rw [getD_of (by rw [barr_len]; exact h)]; simp [barr]
theorem posL_none {b : List Int} {u : Nat} (h : (u : Int) ∉ b) : posL b u = -1 := by
 unfold posL
 have h1 : (b.findIdx? fun y => y == (u : Int)) = none := by
  rw [List.findIdx?_eq_none_iff]
  intro y hy
  simp only [beq_eq_false_iff_ne]
  intro e; exact h (e ▸ hy)
 rw [h1]
theorem posL_at {b : List Int} {u : Nat} (h : (u : Int) ∈ b) : ∃ i, ∃ hi : i < b.length, posL b u = (i : Int) ∧ b[i] = (u : Int) := by
 unfold posL
 have h1 : (b.findIdx? fun y => y == (u : Int)).isSome = true := by
  rw [List.findIdx?_isSome, List.any_eq_true]
  exact ⟨_, h, by simp⟩
 obtain ⟨i, hi⟩ := Option.isSome_iff_exists.1 h1
 rw [hi]
 obtain ⟨g1, g2, _⟩ := List.findIdx?_eq_some_iff_getElem.1 hi
 exact ⟨i, g1, rfl, by simpa using g2⟩
end
end T
open Go Go.Va
namespace T
def freeL (N : Nat) (b : List Int) : List Int := ((List.range N).filter fun v : Nat => !decide ((v : Int) ∈ b)).map fun v : Nat => (v : Int)
theorem freeL_succ {N : Nat} {b : List Int} : freeL (N + 1) b = freeL N b ++ (if (N : Int) ∈ b then [] else [(N : Int)]) := by
 unfold freeL
 rw [List.range_succ, List.filter_append, List.map_append]
 congr 1
 by_cases h : (N : Int) ∈ b <;> simp [h]
theorem freeL_le {N : Nat} {b : List Int} : (freeL N b).length ≤ N := by
 unfold freeL
 rw [List.length_map]
 have := List.length_filter_le (fun v : Nat => !decide ((v : Int) ∈ b)) (List.range N)
 rw [List.length_range] at this
 exact this
section
variable {p : Int} {W N V : Nat}
theorem posL_neg {b : List Int} {u : Nat} : posL b u < 0 ↔ (u : Int) ∉ b := by
 by_cases h : (u : Int) ∈ b
 ·obtain ⟨i, hi, h1, _⟩ := posL_at h
  rw [h1]; simp [h]
 ·rw [posL_none h]; simp [h]
def keptE (p : Int) (V : Nat) (s : ES) : Bool × Int × Int × List (List Int) × Int × List Int := (true, (p, ((V : Int), (s.1 ++ s.2.2, ((s.1.length : Int), barr V s.2.1)))))
theorem freeVars_ok {s : ES} (hV : V ≤ 1000) : impl_eliminated_freeVars_p (keptE p V s) = some (freeL V s.2.1) := by
 unfold impl_eliminated_freeVars_p
 have h1 : (keptE p V s).1 = true := rfl
 have h2 : (keptE p V s).2.2.2.2.2 = barr V s.2.1 := rfl
 have := forS V (fun f o i => impl_eliminated_freeVars_p_L3 f (o, barr V s.2.1, (V : Int), i)) (fun k => freeL k s.2.1) (r := some (freeL V s.2.1)) (fun f k hk => ?_) (fun f => ?_) (n := fuel) (by unfold fuel; omega)
 ·have this : impl_eliminated_freeVars_p_L3 fuel ([], barr V s.2.1, (V : Int), 0) = _ := this
  rw [if_pos h1, h2, barr_len, this]; rfl
 ·have hl : k < (barr V s.2.1).length := by rw [barr_len]; exact hk
  have hle := freeL_le (N := k) (b := s.2.1)
  simp only [impl_eliminated_freeVars_p_L3, inb_nat, hl, gd_D, barr_get hk, if_true, w64_succ (show k < 4611686018427387904 by omega), freeL_succ]
  rw [if_pos (by simp; omega)]
  by_cases hm : (k : Int) ∈ s.2.1
  ·rw [if_neg (by rw [decide_eq_true_iff, posL_neg]; exact fun h => h hm), if_pos hm, List.append_nil]
  ·rw [if_pos (by rw [decide_eq_true_iff, posL_neg]; exact hm), if_neg hm, if_pos (by simp; unfold lim; omega)]
 ·simp only [impl_eliminated_freeVars_p_L3]
  rw [if_neg (by simp)]
def solV (V : Nat) (s : ES) (u : Nat) : Int := if posL s.2.1 u < 0 then 0 else (s.1.getD (posL s.2.1 u).toNat []).getD V 0
def solL (V : Nat) (s : ES) : List Int := (List.range V).map (solV V s)
end
end T
open Go Go.Va
namespace T
def cg (p a b : Int) : Prop := ∃ k, a = b + p * k
section
variable {p a b c d : Int}
theorem cg_of (h : a = b) : cg p a b := ⟨0, by rw [h]; simp⟩
theorem cg_add (h : cg p a b) (g : cg p c d) : cg p (a + c) (b + d) := by obtain ⟨k, h⟩ := h; obtain ⟨m, g⟩ := g; exact ⟨k + m, by grind⟩
theorem cg_mul (x : Int) (h : cg p a b) : cg p (x * a) (x * b) := by obtain ⟨k, h⟩ := h; exact ⟨x * k, by grind⟩
end
inductive Sp (p : Int) (V : Nat) (A : List (List Int)) : (Nat → Int) → Prop
 | zero : Sp p V A fun _ => 0
 | add {f : Nat → Int} (r : List Int) (c : Int) : r ∈ A → Sp p V A f → Sp p V A fun i => f i + c * r.getD i 0
 | cgr {f g : Nat → Int} : Sp p V A f → (∀ i, i < V → cg p (g i) (f i)) → Sp p V A g
section
variable {p : Int} {V W N : Nat} {A B : List (List Int)} {f g : Nat → Int}
theorem Sp.lin (hf : Sp p V A f) (hg : Sp p V A g) (c : Int) : Sp p V A fun i => f i + c * g i := by
 induction hg with
 | zero => exact hf.cgr fun i _ => cg_of (by simp)
 | add r d hr _ ih => exact (ih.add r (c * d) hr).cgr fun i _ => cg_of (by grind)
 | cgr _ h ih => exact ih.cgr fun i hi => cg_add (cg_of rfl) (cg_mul c (h i hi))
theorem Sp.sub (h : ∀ r ∈ A, Sp p V B fun i => r.getD i 0) (hf : Sp p V A f) : Sp p V B f := by
 induction hf with
 | zero => exact .zero
 | add r c hr _ ih => exact ih.lin (h r hr) c
 | cgr _ h ih => exact ih.cgr h
def eqSp (p : Int) (V : Nat) (A B : List (List Int)) : Prop := ∀ f, Sp p V A f ↔ Sp p V B f
end
end T
open Go Go.Va
namespace T
section
variable {p : Int} {V W N : Nat} {A B : List (List Int)} {f g : Nat → Int}
theorem getD_mem {α : Type} {l : List α} {i : Nat} {d : α} (hi : i < l.length) : l.getD i d ∈ l := by rw [getD_of hi]; exact List.getElem_mem hi
end
end T
open Go Go.Va
namespace T
section
variable {p : Int} {V W N : Nat} {A B C D : List (List Int)} {f g : Nat → Int}
theorem eqSp.symm (h : eqSp p V A B) : eqSp p V B A := fun f => (h f).symm
theorem eqSp.trans (h : eqSp p V A B) (g : eqSp p V B C) : eqSp p V A C := fun f => (h f).trans (g f)
end
end T
open Go Go.Va
namespace T
def i64 (x : Int) : Prop := -9223372036854775808 ≤ x ∧ x ≤ 9223372036854775807
section
variable {c : List Int} {ar : Int}
end
end T
set_option linter.unusedVariables false
open Go Go.Va
namespace T
def impl_newNetSearch_L7 : Nat → ((Int × ((List (List (List Int))) × (List (List (List ByteArray))))) × ((List Int) × Int × (List (List Int))) × Int × (List ((List Int) × Int × (List (List Int)))) × Int × Int × (List Int) × Int × Int) → Option ((Int × ((List (List (List Int))) × (List (List (List ByteArray))))) × ((List Int) × Int × (List (List Int))) × Int × (List ((List Int) × Int × (List (List Int)))) × Int × Int)
 | 0, _ => none
 | n + 1, (t3, t5, t6, t20, t21, t22, t27, t28, t29) =>
  if decide (t29 < t28) then
   if inb t29 t27 then
    impl_newNetSearch_L7 n ((t3.1, (t3.2.1, t3.2.2)), (t5.1, (t5.2.1, t5.2.2)), maxI t6 (gd t27 t29 0), t20, t21, t22, t27, t28, w64 (t29 + 1))
   else none
  else
   some ((t3.1, (t3.2.1, t3.2.2)), (t5.1, (t5.2.1, t5.2.2)), t6, t20, t21, t22)
def impl_newNetSearch_L3 : Nat → ((Int × ((List (List (List Int))) × (List (List (List ByteArray))))) × (List ((List Int) × Int × (List (List Int)))) × Int × Int) → Option ((Int × ((List (List (List Int))) × (List (List (List ByteArray))))))
 | 0, _ => none
 | n + 1, (t3, t20, t21, t22) =>
  if decide (t22 < t21) then
   if inb t22 t20 then
    (impl_newNetSearch_L7 fuel ((t3.1, (t3.2.1, t3.2.2)), ((gd t20 t22 ([], (0, []))).1, (((gd t20 t22 ([], (0, []))).2).1, ((gd t20 t22 ([], (0, []))).2).2)), 0, t20, t21, t22, (gd t20 t22 ([], (0, []))).1, (((gd t20 t22 ([], (0, []))).1).length : Int), 0)).bind fun s1 =>
     if inb s1.2.2.1 s1.1.2.1 then
      if (gd s1.1.2.1 s1.2.2.1 []).length + [s1.2.1.1].length ≤ lim then
       if inb s1.2.2.1 s1.1.2.1 then
        if s1.2.2.1 = s1.2.2.1 then
         if inb s1.2.2.1 s1.1.2.2 then
          (impl_tupleSet (s1.2.1.2.1, s1.2.1.2.2)).bind fun r2 =>
           if (gd s1.1.2.2 s1.2.2.1 []).length + [r2].length ≤ lim then
            if inb s1.2.2.1 s1.1.2.2 then
             if s1.2.2.1 = s1.2.2.1 then
              impl_newNetSearch_L3 n ((s1.1.1, (stt s1.1.2.1 s1.2.2.1 ((gd s1.1.2.1 s1.2.2.1 []) ++ [s1.2.1.1]), stt s1.1.2.2 s1.2.2.1 ((gd s1.1.2.2 s1.2.2.1 []) ++ [r2]))), s1.2.2.2.1, s1.2.2.2.2.1, w64 (s1.2.2.2.2.2 + 1))
             else none
            else none
           else none
         else none
        else none
       else none
      else none
     else none
   else none
  else
   some (t3.1, (t3.2.1, t3.2.2))
def impl_newNetSearch (t0 : Int × Int × (List ((List Int) × Int × (List (List Int))))) : Option ((Bool × Int × (List (List (List Int))) × (List (List (List ByteArray))))) :=
 if 0 ≤ t0.1 ∧ t0.1 ≤ t0.1 ∧ t0.1 ≤ lim then
  if 0 ≤ t0.1 ∧ t0.1 ≤ t0.1 ∧ t0.1 ≤ lim then
   (impl_newNetSearch_L3 fuel ((t0.2.1, (List.replicate (Int.toNat t0.1) ([] : List (List Int)), List.replicate (Int.toNat t0.1) ([] : List (List ByteArray)))), t0.2.2, (t0.2.2.length : Int), 0)).bind fun s1 =>
    some (true, (s1.1, (s1.2.1, s1.2.2)))
  else none
 else none
def impl_clone_b (list : List Int) : Option ((Bool × (List Int))) :=
 if ([] : List Int).length + list.length ≤ lim then
  some (true, [] ++ list)
 else none
def impl_firstSolution_c1 (values : List Int) (t1 : Bool × (List Int)) : Option ((Bool × (List Int)) × Bool) :=
 (impl_clone_b values).bind fun r1 =>
  some ((r1.1, r1.2), false)
def impl_netSearch_each_c1_impl_firstSolution_c1_L10 (rec : (Int × (List Int) × (Bool × (List Int)) × (Bool × Int × (List (List (List Int))) × (List (List (List ByteArray)))) × (List Int) × Unit) → Option ((List Int) × (Bool × (List Int)) × (Bool × Int × (List (List (List Int))) × (List (List (List ByteArray)))) × (List Int) × Bool)) : Nat → (Int × (List Int) × (Bool × (List Int)) × (Bool × Int × (List (List (List Int))) × (List (List (List ByteArray)))) × (List Int) × Unit × Int × Bool × (List (List Int)) × Int × Int) → Option (Int × (List Int) × (Bool × (List Int)) × (Bool × Int × (List (List (List Int))) × (List (List (List ByteArray)))) × (List Int) × Unit × Int × Bool)
 | 0, _ => none
 | n + 1, (t0, t1, t2, t3, t4, t5, t8, t9, t50, t51, t52) =>
  if decide (t52 < t51) then
   if inb t52 t50 then
    if t9 then
     if t3.1 = true then
      if inb t0 t3.2.2.2 then
       if inb t52 (gd t3.2.2.2 t0 []) then
        (impl_compose (gd t50 t52 []) t1).bind fun r2 =>
         (impl_keyOf r2).bind fun r3 =>
          impl_netSearch_each_c1_impl_firstSolution_c1_L10 rec n (t0, t1, (t2.1, t2.2), t3, t4, (), t8, mhas (gd (gd t3.2.2.2 t0 []) t52 []) r3, t50, t51, w64 (t52 + 1))
       else none
      else none
     else none
    else
     impl_netSearch_each_c1_impl_firstSolution_c1_L10 rec n (t0, t1, (t2.1, t2.2), t3, t4, (), t8, false, t50, t51, w64 (t52 + 1))
   else none
  else
   some (t0, t1, (t2.1, t2.2), t3, t4, (), t8, t9)
def impl_netSearch_each_c1_impl_firstSolution_c1_L4 (rec : (Int × (List Int) × (Bool × (List Int)) × (Bool × Int × (List (List (List Int))) × (List (List (List ByteArray)))) × (List Int) × Unit) → Option ((List Int) × (Bool × (List Int)) × (Bool × Int × (List (List (List Int))) × (List (List (List ByteArray)))) × (List Int) × Bool)) : Nat → (Int × (List Int) × (Bool × (List Int)) × (Bool × Int × (List (List (List Int))) × (List (List (List ByteArray)))) × (List Int) × Unit × Int) → Option (((List Int) × (Bool × (List Int)) × (Bool × Int × (List (List (List Int))) × (List (List (List ByteArray)))) × (List Int) × Unit) ⊕ ((List Int) × (Bool × (List Int)) × (Bool × Int × (List (List (List Int))) × (List (List (List ByteArray)))) × (List Int) × Unit × Bool))
 | 0, _ => none
 | n + 1, (t0, t1, t2, t3, t4, t5, t8) =>
  if t3.1 = true then
   if decide (t8 < t3.2.1) then
    if inb t0 t4 then
     if decide ((gd t4 t0 0) ≥ 0) then
      if inb t0 t4 then
       if (gd t4 t0 0) != t8 then
        impl_netSearch_each_c1_impl_firstSolution_c1_L4 rec n (t0, t1, (t2.1, t2.2), t3, t4, (), w64 (t8 + 1))
       else
        if inb t0 t1 then
         if t3.1 = true then
          if inb t0 t3.2.2.1 then
           (impl_netSearch_each_c1_impl_firstSolution_c1_L10 rec fuel (t0, stt t1 t0 t8, (t2.1, t2.2), t3, t4, (), t8, true, gd t3.2.2.1 t0 [], ((gd t3.2.2.1 t0 []).length : Int), 0)).bind fun s2 =>
            if s2.2.2.2.2.2.2.2 then
             (rec (w64 (s2.1 + 1), s2.2.1, (s2.2.2.1.1, s2.2.2.1.2), s2.2.2.2.1, s2.2.2.2.2.1, ())).bind fun r3 =>
              if !r3.2.2.2.2 then
               some (.inr (r3.1, (r3.2.1.1, r3.2.1.2), r3.2.2.1, r3.2.2.2.1, (), false))
              else
               impl_netSearch_each_c1_impl_firstSolution_c1_L4 rec n (s2.1, r3.1, (r3.2.1.1, r3.2.1.2), r3.2.2.1, r3.2.2.2.1, (), w64 (s2.2.2.2.2.2.2.1 + 1))
            else
             impl_netSearch_each_c1_impl_firstSolution_c1_L4 rec n (s2.1, s2.2.1, (s2.2.2.1.1, s2.2.2.1.2), s2.2.2.2.1, s2.2.2.2.2.1, (), w64 (s2.2.2.2.2.2.2.1 + 1))
          else none
         else none
        else none
      else none
     else
      if inb t0 t1 then
       if t3.1 = true then
        if inb t0 t3.2.2.1 then
         (impl_netSearch_each_c1_impl_firstSolution_c1_L10 rec fuel (t0, stt t1 t0 t8, (t2.1, t2.2), t3, t4, (), t8, true, gd t3.2.2.1 t0 [], ((gd t3.2.2.1 t0 []).length : Int), 0)).bind fun s4 =>
          if s4.2.2.2.2.2.2.2 then
           (rec (w64 (s4.1 + 1), s4.2.1, (s4.2.2.1.1, s4.2.2.1.2), s4.2.2.2.1, s4.2.2.2.2.1, ())).bind fun r5 =>
            if !r5.2.2.2.2 then
             some (.inr (r5.1, (r5.2.1.1, r5.2.1.2), r5.2.2.1, r5.2.2.2.1, (), false))
            else
             impl_netSearch_each_c1_impl_firstSolution_c1_L4 rec n (s4.1, r5.1, (r5.2.1.1, r5.2.1.2), r5.2.2.1, r5.2.2.2.1, (), w64 (s4.2.2.2.2.2.2.1 + 1))
          else
           impl_netSearch_each_c1_impl_firstSolution_c1_L4 rec n (s4.1, s4.2.1, (s4.2.2.1.1, s4.2.2.1.2), s4.2.2.2.1, s4.2.2.2.2.1, (), w64 (s4.2.2.2.2.2.2.1 + 1))
        else none
       else none
      else none
    else none
   else
    some (.inl (t1, (t2.1, t2.2), t3, t4, ()))
  else none
def impl_netSearch_each_c1_impl_firstSolution_c1_body (rec : (Int × (List Int) × (Bool × (List Int)) × (Bool × Int × (List (List (List Int))) × (List (List (List ByteArray)))) × (List Int) × Unit) → Option ((List Int) × (Bool × (List Int)) × (Bool × Int × (List (List (List Int))) × (List (List (List ByteArray)))) × (List Int) × Bool)) (t0 : Int) (t1 : List Int) (t2 : Bool × (List Int)) (t3 : Bool × Int × (List (List (List Int))) × (List (List (List ByteArray)))) (t4 : List Int) (t5 : Unit) : Option ((List Int) × (Bool × (List Int)) × (Bool × Int × (List (List (List Int))) × (List (List (List ByteArray)))) × (List Int) × Bool) :=
 if t0 == (t1.length : Int) then
  (impl_firstSolution_c1 t1 (t2.1, t2.2)).bind fun r1 =>
   some (t1, (r1.1.1, r1.1.2), t3, t4, r1.2)
 else
  (impl_netSearch_each_c1_impl_firstSolution_c1_L4 rec fuel (t0, t1, (t2.1, t2.2), t3, t4, (), 0)).bind fun s2 =>
   match s2 with
   | .inl s3 =>
    some (s3.1, (s3.2.1.1, s3.2.1.2), s3.2.2.1, s3.2.2.2.1, true)
   | .inr s4 =>
    some (s4.1, (s4.2.1.1, s4.2.1.2), s4.2.2.1, s4.2.2.2.1, s4.2.2.2.2.2)
def impl_netSearch_each_c1_impl_firstSolution_c1 : Nat → (Int × (List Int) × (Bool × (List Int)) × (Bool × Int × (List (List (List Int))) × (List (List (List ByteArray)))) × (List Int) × Unit) → Option ((List Int) × (Bool × (List Int)) × (Bool × Int × (List (List (List Int))) × (List (List (List ByteArray)))) × (List Int) × Bool)
 | 0, _ => none
 | d + 1, x => impl_netSearch_each_c1_impl_firstSolution_c1_body (impl_netSearch_each_c1_impl_firstSolution_c1 d) x.1 x.2.1 x.2.2.1 x.2.2.2.1 x.2.2.2.2.1 x.2.2.2.2.2
def impl_netSearch_each_impl_firstSolution_c1 (s : Bool × Int × (List (List (List Int))) × (List (List (List ByteArray)))) (partial_ : List Int) (found : Bool × (List Int)) : Option ((Bool × (List Int))) :=
 if 0 ≤ (partial_.length : Int) ∧ (partial_.length : Int) ≤ (partial_.length : Int) ∧ (partial_.length : Int) ≤ lim then
  (impl_netSearch_each_c1_impl_firstSolution_c1 fuel (0, List.replicate (Int.toNat (partial_.length : Int)) (0 : Int), (found.1, found.2), s, partial_, ())).bind fun r1 =>
   some (r1.2.1.1, r1.2.1.2)
 else none
def impl_firstSolution (net : Int × Int × (List ((List Int) × Int × (List (List Int))))) (partial_ : List Int) : Option ((Bool × (List Int))) :=
 (impl_newNetSearch (net.1, (net.2.1, net.2.2))).bind fun r1 =>
  (impl_netSearch_each_impl_firstSolution_c1 r1 partial_ (false, [])).bind fun r2 =>
   some (r2.1, r2.2)
end T
open Go Go.Va
namespace T
abbrev NS := Bool × Int × List (List (List Int)) × List (List (List ByteArray))
abbrev NIn (σ : Type) := Int × List Int × σ × NS × List Int × Unit
abbrev NOut (σ : Type) := List Int × σ × NS × List Int × Bool
def hM {σ : Type} : Nat → (Int × List Int × σ × NS × List Int × Unit × Int × Bool × List (List Int) × Int × Int) → Option (Int × List Int × σ × NS × List Int × Unit × Int × Bool)
 | 0, _ => none
 | n + 1, (t0, t1, t2, t3, t4, t5, t8, t9, t50, t51, t52) =>
  if decide (t52 < t51) then
   if inb t52 t50 then
    if t9 then
     if t3.1 = true then
      if inb t0 t3.2.2.2 then
       if inb t52 (gd t3.2.2.2 t0 []) then
        (impl_compose (gd t50 t52 []) t1).bind fun r2 =>
         (impl_keyOf r2).bind fun r3 =>
          hM n (t0, t1, t2, t3, t4, (), t8, mhas (gd (gd t3.2.2.2 t0 []) t52 []) r3, t50, t51, w64 (t52 + 1))
       else none
      else none
     else none
    else
     hM n (t0, t1, t2, t3, t4, (), t8, false, t50, t51, w64 (t52 + 1))
   else none
  else
   some (t0, t1, t2, t3, t4, (), t8, t9)
def hL {σ : Type} (rec : NIn σ → Option (NOut σ)) : Nat → (Int × List Int × σ × NS × List Int × Unit × Int) → Option ((List Int × σ × NS × List Int × Unit) ⊕ (List Int × σ × NS × List Int × Unit × Bool))
 | 0, _ => none
 | n + 1, (t0, t1, t2, t3, t4, t5, t8) =>
  if t3.1 = true then
   if decide (t8 < t3.2.1) then
    if inb t0 t4 then
     if decide ((gd t4 t0 0) ≥ 0) then
      if inb t0 t4 then
       if (gd t4 t0 0) != t8 then
        hL rec n (t0, t1, t2, t3, t4, (), w64 (t8 + 1))
       else
        if inb t0 t1 then
         if t3.1 = true then
          if inb t0 t3.2.2.1 then
           (hM fuel (t0, stt t1 t0 t8, t2, t3, t4, (), t8, true, gd t3.2.2.1 t0 [], ((gd t3.2.2.1 t0 []).length : Int), 0)).bind fun s2 =>
            if s2.2.2.2.2.2.2.2 then
             (rec (w64 (s2.1 + 1), s2.2.1, s2.2.2.1, s2.2.2.2.1, s2.2.2.2.2.1, ())).bind fun r3 =>
              if !r3.2.2.2.2 then
               some (.inr (r3.1, r3.2.1, r3.2.2.1, r3.2.2.2.1, (), false))
              else
               hL rec n (s2.1, r3.1, r3.2.1, r3.2.2.1, r3.2.2.2.1, (), w64 (s2.2.2.2.2.2.2.1 + 1))
            else
             hL rec n (s2.1, s2.2.1, s2.2.2.1, s2.2.2.2.1, s2.2.2.2.2.1, (), w64 (s2.2.2.2.2.2.2.1 + 1))
          else none
         else none
        else none
      else none
     else
      if inb t0 t1 then
       if t3.1 = true then
        if inb t0 t3.2.2.1 then
         (hM fuel (t0, stt t1 t0 t8, t2, t3, t4, (), t8, true, gd t3.2.2.1 t0 [], ((gd t3.2.2.1 t0 []).length : Int), 0)).bind fun s4 =>
          if s4.2.2.2.2.2.2.2 then
           (rec (w64 (s4.1 + 1), s4.2.1, s4.2.2.1, s4.2.2.2.1, s4.2.2.2.2.1, ())).bind fun r5 =>
            if !r5.2.2.2.2 then
             some (.inr (r5.1, r5.2.1, r5.2.2.1, r5.2.2.2.1, (), false))
            else
             hL rec n (s4.1, r5.1, r5.2.1, r5.2.2.1, r5.2.2.2.1, (), w64 (s4.2.2.2.2.2.2.1 + 1))
          else
           hL rec n (s4.1, s4.2.1, s4.2.2.1, s4.2.2.2.1, s4.2.2.2.2.1, (), w64 (s4.2.2.2.2.2.2.1 + 1))
        else none
       else none
      else none
    else none
   else
    some (.inl (t1, t2, t3, t4, ()))
  else none
def hBody {σ : Type} (cb : List Int → σ → Option (σ × Bool)) (rec : NIn σ → Option (NOut σ)) (x : NIn σ) : Option (NOut σ) :=
 if x.1 == (x.2.1.length : Int) then
  (cb x.2.1 x.2.2.1).bind fun r1 => some (x.2.1, r1.1, x.2.2.2.1, x.2.2.2.2.1, r1.2)
 else
  (hL rec fuel (x.1, x.2.1, x.2.2.1, x.2.2.2.1, x.2.2.2.2.1, (), 0)).bind fun s2 =>
   match s2 with
   | .inl s3 => some (s3.1, s3.2.1, s3.2.2.1, s3.2.2.2.1, true)
   | .inr s4 => some (s4.1, s4.2.1, s4.2.2.1, s4.2.2.2.1, s4.2.2.2.2.2)
def hF {σ : Type} (cb : List Int → σ → Option (σ × Bool)) : Nat → NIn σ → Option (NOut σ)
 | 0, _ => none
 | d + 1, x => hBody cb (hF cb d) x
def mostC (c : Con) : Nat := c.1.foldl (fun m v => max m v.toNat) 0
def conAt (cs : List Con) (v : Nat) : List Con := cs.filter fun c => mostC c == v
def scopesN (cs : List Con) (V : Nat) : List (List (List Int)) := (List.range V).map fun v => (conAt cs v).map (·.1)
def setsN (cs : List Con) (V : Nat) : List (List (List ByteArray)) := (List.range V).map fun v => (conAt cs v).map fun c => keys c.2.2
def okN (cs : List Con) (pre : List Int) : Bool := (conAt cs (pre.length - 1)).all (conH pre)
theorem max_fold : ∀ (l : List Int) (m : Nat), m ≤ l.foldl (fun m v => max m v.toNat) m ∧ (∀ v ∈ l, v.toNat ≤ l.foldl (fun m v => max m v.toNat) m) ∧ ∀ B, m ≤ B → (∀ v ∈ l, v.toNat ≤ B) → l.foldl (fun m v => max m v.toNat) m ≤ B
 | [], m => ⟨Nat.le_refl _, by simp, fun B h _ => h⟩
 | v :: l, m => by
  obtain ⟨h1, h2, h3⟩ := max_fold l (max m v.toNat)
  simp only [List.foldl_cons]
  refine ⟨by omega, fun w hw => ?_, fun B h h' => h3 B (by have := h' v (List.mem_cons_self ..); omega) fun w hw => h' w (List.mem_cons_of_mem _ hw)⟩
  rcases List.mem_cons.1 hw with rfl | hw
  ·omega
  ·exact h2 w hw
section
variable {V n : Nat} {cs : List Con} {given : List Int}
structure SrchOk (V n : Nat) (cs : List Con) : Prop where
 hv : V ≤ 9
 hn : 1 ≤ n ∧ n ≤ 4
 hc : cs.length ≤ 40
 con : ∀ c ∈ cs, ConOk (V : Int) (n : Int) c
theorem mem_conAt {c : Con} {v : Nat} : c ∈ conAt cs v ↔ c ∈ cs ∧ mostC c = v := by simp [conAt]
theorem conAt_ok (h : SrchOk V n cs) {v : Nat} {c : Con} (hc : c ∈ conAt cs v) : ConOk ((v + 1 : Nat) : Int) (n : Int) c ∧ v < V := by
 obtain ⟨h1, h2⟩ := mem_conAt.1 hc
 have hk := h.con c h1
 obtain ⟨_, g2, g3⟩ := max_fold c.1 0
 have hv : v < V := by
  have hm := hk.ar
  have hsl := hk.sl
  have h0 := hk.sv 0 (by omega)
  have := g3 (V - 1) (by omega) fun w hw => by
   obtain ⟨i, hi, rfl⟩ := List.mem_iff_getElem.1 hw
   have := hk.sv i hi
   omega
  have : mostC c ≤ V - 1 := this
  omega
 refine ⟨⟨hk.ar, hk.sl, fun i hi => ?_, hk.tl, hk.tv, hk.inc, hk.many⟩, hv⟩
 have h3 := hk.sv i hi
 have h4 := g2 _ (List.getElem_mem hi)
 have h4 : (c.1[i]).toNat ≤ mostC c := h4
 omega
theorem conH_take (h : SrchOk V n cs) {v : Nat} {c : Con} (hc : c ∈ conAt cs v) (tab : List Int) : conH (tab.take (v + 1)) c = conH tab c := by
 have hk := (conAt_ok h hc).1
 unfold conH
 have : c.1.map (valI (tab.take (v + 1))) = c.1.map (valI tab) := List.map_congr_left fun x hx => by
  obtain ⟨i, hi, rfl⟩ := List.mem_iff_getElem.1 hx
  have := hk.sv i hi
  unfold valI
  rw [List.getD_eq_getElem?_getD, List.getD_eq_getElem?_getD, List.getElem?_take, if_pos (by omega)]
 rw [this]
theorem okN_take (h : SrchOk V n cs) {v : Nat} {tab : List Int} (hv : v < tab.length) : okN cs (tab.take (v + 1)) = (conAt cs v).all (conH tab) := by
 unfold okN
 rw [List.length_take, show min (v + 1) tab.length - 1 = v by omega, Bool.eq_iff_iff, List.all_eq_true, List.all_eq_true]
 exact ⟨fun g c hc => by rw [← conH_take h hc]; exact g c hc, fun g c hc => by rw [conH_take h hc]; exact g c hc⟩
theorem scopesN_get {v : Nat} (hv : v < V) : (scopesN cs V).length = V ∧ (scopesN cs V).getD v [] = (conAt cs v).map (·.1) := by
 refine ⟨by simp [scopesN], ?_⟩
 rw [getD_of (by simp [scopesN]; exact hv)]; simp [scopesN]
theorem setsN_get {v : Nat} (hv : v < V) : (setsN cs V).length = V ∧ (setsN cs V).getD v [] = (conAt cs v).map fun c => keys c.2.2 := by
 refine ⟨by simp [setsN], ?_⟩
 rw [getD_of (by simp [setsN]; exact hv)]; simp [setsN]
theorem hM_ok (h : SrchOk V n cs) {v : Nat} (hv : v < V) {tab : List Int} (ht : tab.length = V) (htv : ∀ x ∈ tab, 0 ≤ x ∧ x < 256) {σ : Type} (s : σ) (x : Int) :
    hM fuel ((v : Int), tab, s, (true, ((n : Int), (scopesN cs V, setsN cs V))), given, (), x, true, gd (scopesN cs V) (v : Int) [], ((gd (scopesN cs V) (v : Int) []).length : Int), 0) =
      some ((v : Int), tab, s, (true, ((n : Int), (scopesN cs V, setsN cs V))), given, (), x, okN cs (tab.take (v + 1))) := by
  obtain ⟨l1, e1⟩ := scopesN_get (cs := cs) hv
  obtain ⟨l2, e2⟩ := setsN_get (cs := cs) hv
  have hn := h.hn
  have hg1 : gd (scopesN cs V) (v : Int) [] = (conAt cs v).map (·.1) := e1
  have hg2 : gd (setsN cs V) (v : Int) [] = (conAt cs v).map fun c => keys c.2.2 := e2
  rw [okN_take h (by omega), hg1]
  have hlen : (conAt cs v).length ≤ 40 := Nat.le_trans (List.length_filter_le _ _) h.hc
  have := forS (conAt cs v).length (fun f (o : Bool) i => hM f ((v : Int), tab, s, (true, ((n : Int), (scopesN cs V, setsN cs V))), given, (), x, o, (conAt cs v).map (·.1), (((conAt cs v).map (·.1)).length : Int), i)) (fun k => ((conAt cs v).take k).all (conH tab)) (r := some ((v : Int), tab, s, (true, ((n : Int), (scopesN cs V, setsN cs V))), given, (), x, (conAt cs v).all (conH tab))) (fun f k hk => ?_) (fun f => ?_) (n := fuel) (by unfold fuel; omega)
  · exact this
  · have hmem := List.getElem_mem hk
    have hcon := (conAt_ok h hmem).1
    have hsl := hcon.sl
    have har := hcon.ar
    have hmany := hcon.many
    have hin : inb (k : Int) ((conAt cs v).map (·.1)) := by unfold inb; rw [List.length_map]; omega
    have hgk : gd ((conAt cs v).map (·.1)) (k : Int) [] = (conAt cs v)[k].1 := by
      have := gd_nat (xs := (conAt cs v).map (·.1)) (d := []) (k := k) (by simpa using hk)
      rw [this]; simp
    have hin2 : inb (k : Int) ((conAt cs v).map fun c => keys c.2.2) := by unfold inb; rw [List.length_map]; omega
    have hgk2 : gd ((conAt cs v).map fun c => keys c.2.2) (k : Int) [] = keys (conAt cs v)[k].2.2 := by
      have := gd_nat (xs := (conAt cs v).map fun c => keys c.2.2) (d := []) (k := k) (by simpa using hk)
      rw [this]; simp
    have hsc : ∀ y ∈ (conAt cs v)[k].1, 0 ≤ y ∧ y < tab.length := fun y hy => by
      obtain ⟨i, hi, rfl⟩ := List.mem_iff_getElem.1 hy
      have := hcon.sv i hi
      omega
    have hc := impl_compose_ok (f := (conAt cs v)[k].1) (g := tab) (by omega) hsc
    have hval : ∀ y ∈ (conAt cs v)[k].1.map (valI tab), 0 ≤ y ∧ y < 256 := fun y hy => by
      obtain ⟨z, hz, rfl⟩ := List.mem_map.1 hy
      have := hsc z hz
      exact htv _ (getD_mem (by omega))
    have hk2 := impl_keyOf_ok (l := (conAt cs v)[k].1.map (valI tab)) (by rw [List.length_map]; omega) hval
    have hmk := mhas_keys (l := (conAt cs v)[k].2.2) (t := (conAt cs v)[k].1.map (valI tab)) (fun t ht y hy => by
      obtain ⟨i, hi, rfl⟩ := List.mem_iff_getElem.1 hy
      have := hcon.tv t ht i hi
      omega) hval
    have hiv : inb (v : Int) (setsN cs V) := by unfold inb; omega
    have htk : ((conAt cs v).take (k + 1)).all (conH tab) = (((conAt cs v).take k).all (conH tab) && conH tab (conAt cs v)[k]) := by
      rw [List.take_succ_eq_append_getElem hk, List.all_append]; simp
    simp only [hM, hin, hgk, hc, hk2, hiv, hg2, hin2, hgk2, hmk, Option.bind_some, w64_succ (show k < 4611686018427387904 by omega), htk, if_true]
    rw [if_pos (by simp; omega)]
    cases ((conAt cs v).take k).all (conH tab) with
    | false => simp
    | true => simp [conH]
  · simp only [hM, List.take_length]
    rw [if_neg (by simp)]
end
end T
open Go Go.Va
namespace T
section
variable {V n : Nat} {cs : List Con} {given : List Int}
abbrev nsOf (V n : Nat) (cs : List Con) : NS := (true, ((n : Int), (scopesN cs V, setsN cs V)))
theorem hF_ok (h : SrchOk V n cs) (hg : given.length = V) {σ : Type} (cb : List Int → σ → Option (σ × Bool)) : ∀ (m d at' : Nat) (tab : List Int) (s : σ), at' + m = V → m < d → tab.length = V → (∀ x ∈ tab, 0 ≤ x ∧ x < 256) →
    ∀ s' b, foldU cb (extL n given (okN cs) m (tab.take at')) s = some (s', b) →
    ∃ tab' : List Int, tab'.length = V ∧ (∀ x ∈ tab', 0 ≤ x ∧ x < 256) ∧ tab'.take at' = tab.take at' ∧ hF cb d ((at' : Int), tab, s, nsOf V n cs, given, ()) = some (tab', s', nsOf V n cs, given, b) := by
  have hn := h.hn
  have hV := h.hv
  intro m
  induction m with
  | zero =>
    intro d a tab s ha hd ht hv s' b hf
    obtain ⟨d, rfl⟩ : ∃ z, d = z + 1 := ⟨d - 1, by omega⟩
    have e : tab.take a = tab := List.take_of_length_le (by omega)
    rw [e] at hf
    simp only [extL, foldU] at hf
    refine ⟨tab, ht, hv, rfl, ?_⟩
    simp only [hF, hBody]
    rw [if_pos (by simp; omega)]
    cases hc : cb tab s with
    | none => rw [hc] at hf; exact absurd hf (by simp)
    | some q =>
      obtain ⟨s1, b1⟩ := q
      rw [hc] at hf
      have : s1 = s' ∧ b1 = b := by cases b1 <;> simpa using hf
      obtain ⟨rfl, rfl⟩ := this
      rfl
  | succ m ih =>
    intro d a tab s ha hd ht hv s' b hf
    obtain ⟨d, rfl⟩ : ∃ z, d = z + 1 := ⟨d - 1, by omega⟩
    have hat : a < V := by omega
    have key : ∀ (c x f : Nat) (tab1 : List Int) (s1 : σ), x + c = n → c < f → tab1.length = V → (∀ x ∈ tab1, 0 ≤ x ∧ x < 256) → tab1.take a = tab.take a → ∀ s' b,
        foldU cb ((List.range' x c).flatMap fun x => if mstB given (tab.take a).length x && okN cs (tab.take a ++ [(x : Int)]) then extL n given (okN cs) m (tab.take a ++ [(x : Int)]) else []) s1 = some (s', b) →
        ∃ tab' : List Int, tab'.length = V ∧ (∀ x ∈ tab', 0 ≤ x ∧ x < 256) ∧ tab'.take a = tab.take a ∧ hL (hF cb d) f ((a : Int), tab1, s1, nsOf V n cs, given, (), (x : Int)) = some (if b then .inl (tab', s', nsOf V n cs, given, ()) else .inr (tab', s', nsOf V n cs, given, (), false)) := by
      intro c
      induction c with
      | zero =>
        intro x f tab1 s1 hx hf1 ht1 hv1 htk s' b hf2
        obtain ⟨f, rfl⟩ : ∃ z, f = z + 1 := ⟨f - 1, by omega⟩
        have : s1 = s' ∧ true = b := by simpa [foldU] using hf2
        obtain ⟨rfl, rfl⟩ := this
        refine ⟨tab1, ht1, hv1, htk, ?_⟩
        simp only [hL]
        rw [if_pos trivial, if_neg (by simp; omega)]; rfl
      | succ c ihc =>
        intro x f tab1 s1 hx hf1 ht1 hv1 htk s' b hf2
        obtain ⟨f, rfl⟩ : ∃ z, f = z + 1 := ⟨f - 1, by omega⟩
        have hlen : (tab.take a).length = a := by rw [List.length_take]; omega
        have hag : a < given.length := by omega
        have hat1 : a < tab1.length := by omega
        have hsc : a < (scopesN cs V).length := by rw [(scopesN_get (cs := cs) hat).1]; exact hat
        rw [List.range'_succ, List.flatMap_cons, foldU_append, hlen] at hf2
        rw [hlen] at ihc
        have hset : (tab1.set a (x : Int)).take (a + 1) = tab.take a ++ [(x : Int)] := by
          rw [List.take_succ_eq_append_getElem (by simp; omega), List.take_set_of_le (Nat.le_refl _), List.getElem_set_self, htk]
        have hsl : (tab1.set a (x : Int)).length = V := by simp [ht1]
        have hsv : ∀ y ∈ tab1.set a (x : Int), 0 ≤ y ∧ y < 256 := fun y hy => by
          rcases List.mem_or_eq_of_mem_set hy with h1 | h1
          · exact hv1 y h1
          · subst h1; omega
        have hst : (tab1.set a (x : Int)).take a = tab.take a := by rw [List.take_set_of_le (Nat.le_refl _), htk]
        have hfit := hM_ok (given := given) h hat hsl hsv s1 (x : Int)
        rw [hset] at hfit
        have hw : w64 ((x : Int) + 1) = ((x + 1 : Nat) : Int) := w64_succ (by omega)
        have hwa : w64 ((a : Int) + 1) = ((a + 1 : Nat) : Int) := w64_succ (by omega)
        have step : mstB given a x = true → ∀ R, R = (hM fuel ((a : Int), tab1.set a (x : Int), s1, nsOf V n cs, given, (), (x : Int), true, gd (scopesN cs V) (a : Int) [], ((gd (scopesN cs V) (a : Int) []).length : Int), 0)).bind (fun s4 =>
                if s4.2.2.2.2.2.2.2 then
                  (hF cb d (w64 (s4.1 + 1), s4.2.1, s4.2.2.1, s4.2.2.2.1, s4.2.2.2.2.1, ())).bind fun r5 =>
                    if !r5.2.2.2.2 then
                      some (.inr (r5.1, r5.2.1, r5.2.2.1, r5.2.2.2.1, (), false))
                    else
                      hL (hF cb d) f (s4.1, r5.1, r5.2.1, r5.2.2.1, r5.2.2.2.1, (), w64 (s4.2.2.2.2.2.2.1 + 1))
                else
                  hL (hF cb d) f (s4.1, s4.2.1, s4.2.2.1, s4.2.2.2.1, s4.2.2.2.2.1, (), w64 (s4.2.2.2.2.2.2.1 + 1))) →
            ∃ tab' : List Int, tab'.length = V ∧ (∀ x ∈ tab', 0 ≤ x ∧ x < 256) ∧ tab'.take a = tab.take a ∧ R = some (if b then .inl (tab', s', nsOf V n cs, given, ()) else .inr (tab', s', nsOf V n cs, given, (), false)) := by
          intro hm R hR
          rw [hfit] at hR
          simp only [Option.bind_some] at hR
          rw [hm] at hf2
          cases hfi : okN cs (tab.take a ++ [(x : Int)]) with
          | false =>
            rw [hfi] at hf2 hR
            simp only [Bool.and_false, Bool.false_eq_true, if_false, foldU] at hf2 hR
            rw [hw] at hR
            rw [hR]
            exact ihc (x + 1) f _ s1 (by omega) (by omega) hsl hsv hst s' b hf2
          | true =>
            rw [hfi] at hf2 hR
            simp only [Bool.and_true, if_true] at hf2 hR
            rw [hwa] at hR
            cases hq : foldU cb (extL n given (okN cs) m (tab.take a ++ [(x : Int)])) s1 with
            | none => rw [hq] at hf2; exact absurd hf2 (by simp)
            | some q =>
              obtain ⟨s2, b2⟩ := q
              rw [hq] at hf2
              rw [← hset] at hq
              obtain ⟨tab2, h1, h2, h3, h4⟩ := ih d (a + 1) _ s1 (by omega) (by omega) hsl hsv s2 b2 hq
              have h3' : tab2.take a = tab.take a := by
                have := congrArg (List.take a) h3
                rw [List.take_take, List.take_take, Nat.min_eq_left (by omega)] at this
                rw [this, hst]
              rw [h4] at hR
              simp only [Option.bind_some] at hR
              cases b2 with
              | false =>
                have : s2 = s' ∧ false = b := by simpa using hf2
                obtain ⟨rfl, rfl⟩ := this
                refine ⟨tab2, h1, h2, h3', ?_⟩
                rw [hR]; rfl
              | true =>
                simp only [Bool.not_true, Bool.false_eq_true, if_false, hw] at hR
                rw [hR]
                exact ihc (x + 1) f tab2 s2 (by omega) (by omega) h1 h2 h3' s' b hf2
        simp only [hL, stt_nat, inb_nat, hag, hat1, hsc, if_true]
        rw [if_pos (by simp; omega)]
        by_cases hc1 : gd given (a : Int) 0 ≥ 0
        · rw [if_pos (decide_eq_true hc1)]
          by_cases hc2 : gd given (a : Int) 0 = (x : Int)
          · rw [if_neg (by simpa using hc2)]
            exact step (by unfold mstB; rw [show given.getD a 0 = (x : Int) from hc2]; simp) _ rfl
          · rw [if_pos (by simpa using hc2), hw]
            have hm : mstB given a x = false := by
              unfold mstB
              rw [decide_eq_true (show given.getD a 0 ≥ 0 from hc1)]
              simp only [Bool.true_and, Bool.not_eq_false', bne_iff_ne]; exact hc2
            rw [hm] at hf2
            simp only [Bool.false_and, Bool.false_eq_true, if_false, foldU] at hf2
            exact ihc (x + 1) f tab1 s1 (by omega) (by omega) ht1 hv1 htk s' b hf2
        · rw [if_neg (by simpa using hc1)]
          exact step (by unfold mstB; rw [decide_eq_false (show ¬ given.getD a 0 ≥ 0 from hc1)]; rfl) _ rfl
    simp only [extL] at hf
    rw [List.range_eq_range'] at hf
    obtain ⟨tab', h1, h2, h3, h4⟩ := key n 0 fuel tab s (by omega) (by unfold fuel; omega) ht hv rfl s' b hf
    refine ⟨tab', h1, h2, h3, ?_⟩
    simp only [hF, hBody]
    rw [if_neg (by simp; omega)]
    have h4 : hL (hF cb d) fuel ((a : Int), tab, s, nsOf V n cs, given, (), 0) = _ := h4
    rw [h4]
    cases b <;> rfl
def solsN (V n : Nat) (cs : List Con) (given : List Int) : List (List Int) := extL n given (okN cs) V []
theorem maxI_of {a b : Nat} {x : Int} (hx : x = (b : Int)) : maxI (a : Int) x = ((max a b : Nat) : Int) := by
 subst hx; unfold maxI; split <;> omega
theorem newNet_ok (h : SrchOk V n cs) : impl_newNetSearch ((V : Int), ((n : Int), cs)) = some (nsOf V n cs) := by
 have hV := h.hv
 have hc := h.hc
 unfold impl_newNetSearch
 have h3 := forS cs.length (fun f (o : Int × (List (List (List Int)) × List (List (List ByteArray)))) i => impl_newNetSearch_L3 f (o, cs, (cs.length : Int), i)) (fun k => ((n : Int), (scopesN (cs.take k) V, setsN (cs.take k) V))) (r := some ((n : Int), (scopesN cs V, setsN cs V))) (fun f k hk => ?_) (fun f => ?_) (n := fuel) (by unfold fuel; omega)
 ·have e1 : scopesN (cs.take 0) V = List.replicate V [] := by
   unfold scopesN conAt; simp [List.map_const']
  have e2 : setsN (cs.take 0) V = List.replicate V [] := by
   unfold setsN conAt; simp [List.map_const']
  rw [e1, e2] at h3
  have h3 : impl_newNetSearch_L3 fuel (((n : Int), (List.replicate (Int.toNat (V : Int)) ([] : List (List Int)), List.replicate (Int.toNat (V : Int)) ([] : List (List ByteArray)))), cs, (cs.length : Int), 0) = _ := h3
  rw [if_pos (by unfold lim; omega), if_pos (by unfold lim; omega), h3]; rfl
 ·have hcon := h.con _ (List.getElem_mem hk)
  have hsl := hcon.sl
  have har := hcon.ar
  have hmany := hcon.many
  have h7 := forS cs[k].1.length (fun f (o : Int) i => impl_newNetSearch_L7 f (((n : Int), (scopesN (cs.take k) V, setsN (cs.take k) V)), cs[k], o, cs, (cs.length : Int), (k : Int), cs[k].1, (cs[k].1.length : Int), i)) (fun j => (((cs[k].1.take j).foldl (fun m v => max m v.toNat) 0 : Nat) : Int)) (r := some (((n : Int), (scopesN (cs.take k) V, setsN (cs.take k) V)), cs[k], (mostC cs[k] : Int), cs, (cs.length : Int), (k : Int))) (fun f j hj => ?_) (fun f => ?_) (n := fuel) (by unfold fuel; omega)
  ·have hm : mostC cs[k] < V := (conAt_ok h (mem_conAt.2 ⟨List.getElem_mem hk, rfl⟩)).2
   have h7 : impl_newNetSearch_L7 fuel (((n : Int), (scopesN (cs.take k) V, setsN (cs.take k) V)), (cs[k].1, (cs[k].2.1, cs[k].2.2)), 0, cs, (cs.length : Int), (k : Int), cs[k].1, (cs[k].1.length : Int), 0) = _ := h7
   obtain ⟨l1, e1⟩ := scopesN_get (cs := cs.take k) hm
   obtain ⟨l2, e2⟩ := setsN_get (cs := cs.take k) hm
   have hi1 : inb (mostC cs[k] : Int) (scopesN (cs.take k) V) := by unfold inb; omega
   have hi2 : inb (mostC cs[k] : Int) (setsN (cs.take k) V) := by unfold inb; omega
   have g1 : gd (scopesN (cs.take k) V) (mostC cs[k] : Int) [] = (conAt (cs.take k) (mostC cs[k])).map (·.1) := e1
   have g2 : gd (setsN (cs.take k) V) (mostC cs[k] : Int) [] = (conAt (cs.take k) (mostC cs[k])).map fun c => keys c.2.2 := e2
   have hts := impl_tupleSet_ok (r := (cs[k].2.1, cs[k].2.2)) (show cs[k].2.2.length ≤ 1048576 by omega) (fun t ht => ⟨by have := hcon.tl t ht; omega, fun y hy => by
    obtain ⟨i, hi, rfl⟩ := List.mem_iff_getElem.1 hy
    have := hcon.tv t ht i hi
    have := h.hn
    omega⟩)
   have hcl : (conAt (cs.take k) (mostC cs[k])).length ≤ 40 := Nat.le_trans (List.length_filter_le _ _) (by rw [List.length_take]; omega)
   have hca : ∀ v, conAt (cs.take (k + 1)) v = conAt (cs.take k) v ++ (if mostC cs[k] = v then [cs[k]] else []) := fun v => by
    unfold conAt
    rw [List.take_succ_eq_append_getElem hk, List.filter_append]
    congr 1
    by_cases e : mostC cs[k] = v <;> simp [e]
   have s1 : (scopesN (cs.take k) V).set (mostC cs[k]) ((conAt (cs.take k) (mostC cs[k])).map (·.1) ++ [cs[k].1]) = scopesN (cs.take (k + 1)) V := by
    apply List.ext_getElem
    ·simp [scopesN]
    ·intro v h1 h2
     rw [List.getElem_set]
     simp only [scopesN, List.getElem_map, List.getElem_range, hca, List.map_append]
     by_cases e : mostC cs[k] = v
     ·rw [if_pos e, if_pos e, ← e]; rfl
     ·rw [if_neg e, if_neg e]; simp
   have s2 : (setsN (cs.take k) V).set (mostC cs[k]) ((conAt (cs.take k) (mostC cs[k])).map (fun c => keys c.2.2) ++ [keys cs[k].2.2]) = setsN (cs.take (k + 1)) V := by
    apply List.ext_getElem
    ·simp [setsN]
    ·intro v h1 h2
     rw [List.getElem_set]
     simp only [setsN, List.getElem_map, List.getElem_range, hca, List.map_append]
     by_cases e : mostC cs[k] = v
     ·rw [if_pos e, if_pos e, ← e]; rfl
     ·rw [if_neg e, if_neg e]; simp
   simp only [impl_newNetSearch_L3, inb_nat, hk, gd_nat hk, h7, Option.bind_some, if_true, inb_nat.1 hi1, inb_nat.1 hi2, g1, g2, hts, stt_nat, s1, s2, w64_succ (show k < 4611686018427387904 by omega)]
   rw [if_pos (by simp; omega), if_pos (by simp; unfold lim; omega), if_pos (by simp; unfold lim; omega)]
  ·have hj' := hcon.sv j hj
   have e := maxI_of (a := (cs[k].1.take j).foldl (fun m v => max m v.toNat) 0) (b := (cs[k].1[j]).toNat) (x := cs[k].1[j]) (by omega)
   have e2 : (cs[k].1.take (j + 1)).foldl (fun m v => max m v.toNat) 0 = max ((cs[k].1.take j).foldl (fun m v => max m v.toNat) 0) (cs[k].1[j]).toNat := by
    rw [List.take_succ_eq_append_getElem hj, List.foldl_append]; rfl
   simp only [impl_newNetSearch_L7, inb_nat, hj, gd_nat hj, e, e2, if_true, w64_succ (show j < 4611686018427387904 by omega)]
   rw [if_pos (by simp; omega)]
  ·simp only [impl_newNetSearch_L7, List.take_length]
   rw [if_neg (by simp)]; rfl
 ·simp only [impl_newNetSearch_L3, List.take_length]
  rw [if_neg (by simp)]
def fsCb (t : List Int) (s : Bool × List Int) : Option ((Bool × List Int) × Bool) := (impl_firstSolution_c1 t (s.1, s.2)).bind fun r => some ((r.1.1, r.1.2), r.2)
theorem eachFS_M (rec) : ∀ f x, impl_netSearch_each_c1_impl_firstSolution_c1_L10 rec f x = hM f x
 | 0, _ => rfl
 | f + 1, (a, b, c, d, e, g, x, y, z, u, v) => by simp only [impl_netSearch_each_c1_impl_firstSolution_c1_L10, hM, eachFS_M rec f]
theorem eachFS_L (rec) : ∀ f x, impl_netSearch_each_c1_impl_firstSolution_c1_L4 rec f x = hL rec f x
 | 0, _ => rfl
 | f + 1, (a, b, c, d, e, g, x) => by simp only [impl_netSearch_each_c1_impl_firstSolution_c1_L4, hL, eachFS_L rec f, eachFS_M]
theorem eachFS : ∀ d x, impl_netSearch_each_c1_impl_firstSolution_c1 d x = hF fsCb d x
 | 0, _ => rfl
 | d + 1, (a, t, (s1, s2), ps, g, u) => by
  have e : impl_netSearch_each_c1_impl_firstSolution_c1 d = hF fsCb d := funext fun x => eachFS d x
  simp only [impl_netSearch_each_c1_impl_firstSolution_c1, hF, hBody, impl_netSearch_each_c1_impl_firstSolution_c1_body, eachFS_L, e]
  split
  ·unfold fsCb; cases impl_firstSolution_c1 t (s1, s2) <;> rfl
  ·congr 1; funext z; cases z <;> rfl
def firstN (l : List (List Int)) : Bool × List Int := match l with | [] => (false, []) | t :: _ => (true, t)
theorem firstSol_ok (h : SrchOk V n cs) (hg : given.length = V) : impl_firstSolution ((V : Int), ((n : Int), cs)) given = some (firstN (solsN V n cs given)) := by
 have hV := h.hv
 unfold impl_firstSolution
 have e1 := newNet_ok h
 have hcb : ∀ t s, t.length ≤ 1048576 → fsCb t s = some ((true, t), false) := fun t s ht => by
  unfold fsCb impl_firstSolution_c1 impl_clone_b
  rw [if_pos (by simp; unfold lim; omega)]; rfl
 have hfold : foldU fsCb (solsN V n cs given) (false, []) = some (firstN (solsN V n cs given), match solsN V n cs given with | [] => true | _ => false) := by
  cases hs : solsN V n cs given with
  | nil => rfl
  | cons t l =>
   have ht := (ext_mem (n := n) (given := given) (ok := okN cs) V [] t (by unfold solsN at hs; rw [hs]; exact List.mem_cons_self ..)).1
   simp only [foldU]
   rw [hcb t _ (by simp at ht; omega)]; rfl
 obtain ⟨tab', _, _, _, h4⟩ := hF_ok h hg fsCb V fuel 0 (List.replicate V 0) (false, []) (by omega) (by unfold fuel; omega) (by simp) (fun x hx => by rw [List.eq_of_mem_replicate hx]; omega) _ _ (by simpa [solsN] using hfold)
 have h4 : impl_netSearch_each_c1_impl_firstSolution_c1 fuel (0, List.replicate V 0, (false, []), nsOf V n cs, given, ()) = _ := (eachFS fuel _).trans h4
 simp only [e1, Option.bind_some]
 unfold impl_netSearch_each_impl_firstSolution_c1
 rw [if_pos (by unfold lim; omega)]
 have hr : List.replicate (Int.toNat (given.length : Int)) (0 : Int) = List.replicate V 0 := by rw [hg]; rfl
 rw [hr, h4]; rfl
end
end T
set_option linter.unusedVariables false
open Go Go.Va
namespace T
def spec_l8At_L3 : Nat → ((List Int) × (List Int) × (List Int) × Int) → Option ((List Int))
 | 0, _ => none
 | n + 1, (t, places, out, i) =>
  if decide (i < (places.length : Int)) then
   if inb i places then
    if inb (gd places i 0) t then
     if out.length + [gd t (gd places i 0) 0].length ≤ lim then
      spec_l8At_L3 n (t, places, out ++ [gd t (gd places i 0) 0], w64 (i + 1))
     else none
    else none
   else none
  else
   some out
def spec_l8At (t : List Int) (places : List Int) : Option ((List Int)) :=
 (spec_l8At_L3 fuel (t, places, [], 0)).bind fun s1 =>
  some s1
def spec_l8Put (list : List (List Int)) (t : List Int) : Option ((List (List Int))) :=
 (spec_l8Find list t).bind fun r1 =>
  if r1.2 then
   some list
  else
   if (0 : Int) ≤ 0 ∧ 0 ≤ r1.1 ∧ r1.1 ≤ (list.length : Int) then
    if ([] : List (List Int)).length + ((list.take (Int.toNat r1.1)).drop (Int.toNat 0)).length ≤ lim then
     if ([] ++ ((list.take (Int.toNat r1.1)).drop (Int.toNat 0))).length + [t].length ≤ lim then
      if (0 : Int) ≤ r1.1 ∧ r1.1 ≤ (list.length : Int) ∧ (list.length : Int) ≤ (list.length : Int) then
       if (([] ++ ((list.take (Int.toNat r1.1)).drop (Int.toNat 0))) ++ [t]).length + ((list.take (Int.toNat (list.length : Int))).drop (Int.toNat r1.1)).length ≤ lim then
        some ((([] ++ ((list.take (Int.toNat r1.1)).drop (Int.toNat 0))) ++ [t]) ++ ((list.take (Int.toNat (list.length : Int))).drop (Int.toNat r1.1)))
       else none
      else none
     else none
    else none
   else none
def spec_l13Project_L3 : Nat → ((List Int) × (Int × (List (List Int))) × (Int × (List (List Int))) × (Int × (List (List Int))) × Int) → Option ((Int × (List (List Int))) × (Int × (List (List Int))))
 | 0, _ => none
 | n + 1, (places, r, t4, out, i) =>
  if decide (i < (r.2.length : Int)) then
   if inb i r.2 then
    (spec_l8At (gd r.2 i []) places).bind fun r1 =>
     (spec_l8Put out.2 r1).bind fun r2 =>
      spec_l13Project_L3 n (places, (r.1, r.2), (t4.1, t4.2), (out.1, r2), w64 (i + 1))
   else none
  else
   some ((t4.1, t4.2), (out.1, out.2))
def spec_l13Project (r : Int × (List (List Int))) (places : List Int) : Option ((Int × (List (List Int)))) :=
 (spec_l13Project_L3 fuel (places, (r.1, r.2), (0, []), ((places.length : Int), []), 0)).bind fun s1 =>
  some (s1.2.1, s1.2.2)
def spec_l22Follows_L3 : Nat → ((Int × Int × (List ((List Int) × Int × (List (List Int))))) × (List (List Bool)) × Int) → Option ((Int × Int × (List ((List Int) × Int × (List (List Int))))) × (List (List Bool)))
 | 0, _ => none
 | n + 1, (t1, t3, t4) =>
  if decide (t4 < (w64 (2 * t1.1))) then
   if 0 ≤ (w64 (2 * t1.1)) ∧ (w64 (2 * t1.1)) ≤ (w64 (2 * t1.1)) ∧ (w64 (2 * t1.1)) ≤ lim then
    if t3.length + [List.replicate (Int.toNat (w64 (2 * t1.1))) (false : Bool)].length ≤ lim then
     spec_l22Follows_L3 n ((t1.1, (t1.2.1, t1.2.2)), t3 ++ [List.replicate (Int.toNat (w64 (2 * t1.1))) (false : Bool)], w64 (t4 + 1))
    else none
   else none
  else
   some ((t1.1, (t1.2.1, t1.2.2)), t3)
def spec_l22Follows_L18 : Nat → ((Int × Int × (List ((List Int) × Int × (List (List Int))))) × (List (List Bool)) × Int × ((List Int) × Int × (List (List Int))) × Int × Int × (Int × (List (List Int))) × Int) → Option ((Int × Int × (List ((List Int) × Int × (List (List Int))))) × (List (List Bool)) × Int × ((List Int) × Int × (List (List Int))) × Int × Int)
 | 0, _ => none
 | n + 1, (t1, t3, t5, t6, t7, t8, t9, t10) =>
  if decide (t10 < 4) then
   if (2 : Int) ≠ 0 then
    if (2 : Int) ≠ 0 then
     (spec_l13Has (t9.1, t9.2) [w64 (Int.tdiv t10 2), Int.tmod t10 2]).bind fun r3 =>
      if !r3 then
       if inb t7 t6.1 then
        if (2 : Int) ≠ 0 then
         if inb (w64 ((w64 (2 * (gd t6.1 t7 0))) + (w64 (Int.tdiv t10 2)))) t3 then
          if inb t8 t6.1 then
           if (2 : Int) ≠ 0 then
            if inb (w64 ((w64 ((w64 (2 * (gd t6.1 t8 0))) + 1)) - (Int.tmod t10 2))) (gd t3 (w64 ((w64 (2 * (gd t6.1 t7 0))) + (w64 (Int.tdiv t10 2)))) []) then
             spec_l22Follows_L18 n ((t1.1, (t1.2.1, t1.2.2)), stt t3 (w64 ((w64 (2 * (gd t6.1 t7 0))) + (w64 (Int.tdiv t10 2)))) (stt (gd t3 (w64 ((w64 (2 * (gd t6.1 t7 0))) + (w64 (Int.tdiv t10 2)))) []) (w64 ((w64 ((w64 (2 * (gd t6.1 t8 0))) + 1)) - (Int.tmod t10 2))) true), t5, (t6.1, (t6.2.1, t6.2.2)), t7, t8, (t9.1, t9.2), w64 (t10 + 1))
            else none
           else none
          else none
         else none
        else none
       else none
      else
       spec_l22Follows_L18 n ((t1.1, (t1.2.1, t1.2.2)), t3, t5, (t6.1, (t6.2.1, t6.2.2)), t7, t8, (t9.1, t9.2), w64 (t10 + 1))
    else none
   else none
  else
   some ((t1.1, (t1.2.1, t1.2.2)), t3, t5, (t6.1, (t6.2.1, t6.2.2)), t7, t8)
def spec_l22Follows_L14 : Nat → ((Int × Int × (List ((List Int) × Int × (List (List Int))))) × (List (List Bool)) × Int × ((List Int) × Int × (List (List Int))) × Int × Int) → Option ((Int × Int × (List ((List Int) × Int × (List (List Int))))) × (List (List Bool)) × Int × ((List Int) × Int × (List (List Int))) × Int)
 | 0, _ => none
 | n + 1, (t1, t3, t5, t6, t7, t8) =>
  if decide (t8 < (t6.1.length : Int)) then
   (spec_l13Project (t6.2.1, t6.2.2) [t7, t8]).bind fun r2 =>
    (spec_l22Follows_L18 fuel ((t1.1, (t1.2.1, t1.2.2)), t3, t5, (t6.1, (t6.2.1, t6.2.2)), t7, t8, (r2.1, r2.2), 0)).bind fun s3 =>
     spec_l22Follows_L14 n ((s3.1.1, (s3.1.2.1, s3.1.2.2)), s3.2.1, s3.2.2.1, (s3.2.2.2.1.1, (s3.2.2.2.1.2.1, s3.2.2.2.1.2.2)), s3.2.2.2.2.1, w64 (s3.2.2.2.2.2 + 1))
  else
   some ((t1.1, (t1.2.1, t1.2.2)), t3, t5, (t6.1, (t6.2.1, t6.2.2)), t7)
def spec_l22Follows_L11 : Nat → ((Int × Int × (List ((List Int) × Int × (List (List Int))))) × (List (List Bool)) × Int × ((List Int) × Int × (List (List Int))) × Int) → Option ((Int × Int × (List ((List Int) × Int × (List (List Int))))) × (List (List Bool)) × Int)
 | 0, _ => none
 | n + 1, (t1, t3, t5, t6, t7) =>
  if decide (t7 < (t6.1.length : Int)) then
   (spec_l22Follows_L14 fuel ((t1.1, (t1.2.1, t1.2.2)), t3, t5, (t6.1, (t6.2.1, t6.2.2)), t7, 0)).bind fun s2 =>
    spec_l22Follows_L11 n ((s2.1.1, (s2.1.2.1, s2.1.2.2)), s2.2.1, s2.2.2.1, (s2.2.2.2.1.1, (s2.2.2.2.1.2.1, s2.2.2.2.1.2.2)), w64 (s2.2.2.2.2 + 1))
  else
   some ((t1.1, (t1.2.1, t1.2.2)), t3, t5)
def spec_l22Follows_L7 : Nat → ((Int × Int × (List ((List Int) × Int × (List (List Int))))) × (List (List Bool)) × Int) → Option ((List (List Bool)))
 | 0, _ => none
 | n + 1, (t1, t3, t5) =>
  if decide (t5 < (t1.2.2.length : Int)) then
   if inb t5 t1.2.2 then
    (spec_l22Follows_L11 fuel ((t1.1, (t1.2.1, t1.2.2)), t3, t5, ((gd t1.2.2 t5 ([], (0, []))).1, (((gd t1.2.2 t5 ([], (0, []))).2).1, ((gd t1.2.2 t5 ([], (0, []))).2).2)), 0)).bind fun s2 =>
     spec_l22Follows_L7 n ((s2.1.1, (s2.1.2.1, s2.1.2.2)), s2.2.1, w64 (s2.2.2 + 1))
   else none
  else
   some t3
def spec_l22Follows (t0 : Int × Int × (List ((List Int) × Int × (List (List Int))))) : Option ((List (List Bool))) :=
 (spec_l22Follows_L3 fuel ((t0.1, (t0.2.1, t0.2.2)), [], 0)).bind fun s1 =>
  (spec_l22Follows_L7 fuel ((s1.1.1, (s1.1.2.1, s1.1.2.2)), s1.2, 0)).bind fun s2 =>
   some s2
def spec_l22Closed_L6 : Nat → ((List (List Bool)) × (List Int) × Int × Int) → Option ((List (List Bool)) × (List Int) × Int)
 | 0, _ => none
 | n + 1, (t0, t6, t7, t8) =>
  if decide (t8 < (t0.length : Int)) then
   if inb t7 t6 then
    if inb (gd t6 t7 0) t0 then
     if inb t8 (gd t0 (gd t6 t7 0) []) then
      if gd (gd t0 (gd t6 t7 0) []) t8 false then
       (spec_l1Has t6 t8).bind fun r2 =>
        if !r2 then
         if t6.length + [t8].length ≤ lim then
          spec_l22Closed_L6 n (t0, t6 ++ [t8], t7, w64 (t8 + 1))
         else none
        else
         spec_l22Closed_L6 n (t0, t6, t7, w64 (t8 + 1))
      else
       spec_l22Closed_L6 n (t0, t6, t7, w64 (t8 + 1))
     else none
    else none
   else none
  else
   some (t0, t6, t7)
def spec_l22Closed_L3 : Nat → ((List (List Bool)) × (List Int) × Int) → Option ((List Int))
 | 0, _ => none
 | n + 1, (t0, t6, t7) =>
  if decide (t7 < (t6.length : Int)) then
   (spec_l22Closed_L6 fuel (t0, t6, t7, 0)).bind fun s2 =>
    spec_l22Closed_L3 n (s2.1, s2.2.1, w64 (s2.2.2 + 1))
  else
   some t6
def spec_l22Closed_L11 : Nat → ((List Int) × Int) → Option (((List Int)) ⊕ ((List Int) × Bool))
 | 0, _ => none
 | n + 1, (t6, t9) =>
  if decide (t9 < (t6.length : Int)) then
   if inb t9 t6 then
    if (2 : Int) ≠ 0 then
     if inb t9 t6 then
      if (2 : Int) ≠ 0 then
       (spec_l1Has t6 (w64 ((w64 ((w64 ((w64 (Int.tdiv (gd t6 t9 0) 2)) * 2)) + 1)) - (Int.tmod (gd t6 t9 0) 2)))).bind fun r4 =>
        if r4 then
         some (.inr (t6, false))
        else
         spec_l22Closed_L11 n (t6, w64 (t9 + 1))
      else none
     else none
    else none
   else none
  else
   some (.inl t6)
def spec_l22Closed (t0 : List (List Bool)) (t1 : List Int) : Option ((List Int) × Bool) :=
 (spec_l1Own t1).bind fun r1 =>
  (spec_l22Closed_L3 fuel (t0, r1, 0)).bind fun s2 =>
   (spec_l22Closed_L11 fuel (s2, 0)).bind fun s3 =>
    match s3 with
    | .inl s4 =>
     some (s4, true)
    | .inr s5 =>
     some (s5.1, s5.2)
def spec_l22Pairs_L2 : Nat → ((Int × Int × (List ((List Int) × Int × (List (List Int))))) × Int) → Option (((Int × Int × (List ((List Int) × Int × (List (List Int)))))) ⊕ ((List Int) × Bool))
 | 0, _ => none
 | n + 1, (t1, t4) =>
  if decide (t4 < (t1.2.2.length : Int)) then
   if inb t4 t1.2.2 then
    if ((((gd t1.2.2 t4 ([], (0, []))).2).2).length : Int) == 0 then
     some (.inr ([], false))
    else
     spec_l22Pairs_L2 n ((t1.1, (t1.2.1, t1.2.2)), w64 (t4 + 1))
   else none
  else
   some (.inl (t1.1, (t1.2.1, t1.2.2)))
def spec_l22Pairs_L8 : Nat → ((Int × Int × (List ((List Int) × Int × (List (List Int))))) × (List (List Bool)) × (List Int) × Int) → Option (((Int × Int × (List ((List Int) × Int × (List (List Int))))) × (List Int)) ⊕ ((List Int) × Bool))
 | 0, _ => none
 | n + 1, (t1, t5, t6, t7) =>
  if decide (t7 < t1.1) then
   (spec_l1Has t6 (w64 (2 * t7))).bind fun r5 =>
    if r5 then
     spec_l22Pairs_L8 n ((t1.1, (t1.2.1, t1.2.2)), t5, t6, w64 (t7 + 1))
    else
     (spec_l1Has t6 (w64 ((w64 (2 * t7)) + 1))).bind fun r6 =>
      if r6 then
       spec_l22Pairs_L8 n ((t1.1, (t1.2.1, t1.2.2)), t5, t6, w64 (t7 + 1))
      else
       (spec_l1Own t6).bind fun r7 =>
        if r7.length + [w64 (2 * t7)].length ≤ lim then
         (spec_l22Closed t5 (r7 ++ [w64 (2 * t7)])).bind fun r8 =>
          if !r8.2 then
           (spec_l1Own t6).bind fun r9 =>
            if r9.length + [w64 ((w64 (2 * t7)) + 1)].length ≤ lim then
             (spec_l22Closed t5 (r9 ++ [w64 ((w64 (2 * t7)) + 1)])).bind fun r10 =>
              if !r10.2 then
               some (.inr ([], false))
              else
               spec_l22Pairs_L8 n ((t1.1, (t1.2.1, t1.2.2)), t5, r10.1, w64 (t7 + 1))
            else none
          else
           if !r8.2 then
            some (.inr ([], false))
           else
            spec_l22Pairs_L8 n ((t1.1, (t1.2.1, t1.2.2)), t5, r8.1, w64 (t7 + 1))
        else none
  else
   some (.inl ((t1.1, (t1.2.1, t1.2.2)), t6))
def spec_l22Pairs_L19 : Nat → ((Int × Int × (List ((List Int) × Int × (List (List Int))))) × (List Int) × (List Int) × Int) → Option ((List Int))
 | 0, _ => none
 | n + 1, (t1, t6, t10, t11) =>
  if decide (t11 < t1.1) then
   (spec_l1Has t6 (w64 ((w64 (2 * t11)) + 1))).bind fun r14 =>
    if r14 then
     if t10.length + [1].length ≤ lim then
      spec_l22Pairs_L19 n ((t1.1, (t1.2.1, t1.2.2)), t6, t10 ++ [1], w64 (t11 + 1))
     else none
    else
     if t10.length + [0].length ≤ lim then
      spec_l22Pairs_L19 n ((t1.1, (t1.2.1, t1.2.2)), t6, t10 ++ [0], w64 (t11 + 1))
     else none
  else
   some t10
def spec_l22Pairs (t0 : Int × Int × (List ((List Int) × Int × (List (List Int))))) : Option ((List Int) × Bool) :=
 (spec_l22Pairs_L2 fuel ((t0.1, (t0.2.1, t0.2.2)), 0)).bind fun s1 =>
  match s1 with
  | .inl s2 =>
   (spec_l22Follows (s2.1, (s2.2.1, s2.2.2))).bind fun r4 =>
    (spec_l22Pairs_L8 fuel ((s2.1, (s2.2.1, s2.2.2)), r4, [], 0)).bind fun s5 =>
     match s5 with
     | .inl s6 =>
      (spec_l22Pairs_L19 fuel ((s6.1.1, (s6.1.2.1, s6.1.2.2)), s6.2, [], 0)).bind fun s8 =>
       some (s8, true)
     | .inr s7 =>
      some (s7.1, s7.2)
  | .inr s3 =>
   some (s3.1, s3.2)
def spec_PairsAssignment (net : Int × Int × (List ((List Int) × Int × (List (List Int))))) : Option ((List Int) × Bool × Bool) :=
 (spec_l22Good (net.1, (net.2.1, net.2.2))).bind fun r1 =>
  if !r1 then
   some ([], false, false)
  else
   (spec_l22Is (net.1, (net.2.1, net.2.2)) 5).bind fun r2 =>
    if !r2 then
     some ([], false, false)
    else
     (spec_l22Pairs (net.1, (net.2.1, net.2.2))).bind fun r3 =>
      some (r3.1, r3.2, true)
def impl_anySolution (net : Int × Int × (List ((List Int) × Int × (List (List Int))))) : Option ((List Int) × Bool) :=
 (impl_freeTable net.1).bind fun r1 =>
  (impl_firstSolution (net.1, (net.2.1, net.2.2)) r1).bind fun r2 =>
   if !r2.1 then
    some ([], false)
   else
    some (r2.2, true)
def impl_PairsAssignment (net : Int × Int × (List ((List Int) × Int × (List (List Int))))) : Option ((List Int) × Bool × Bool) :=
 (impl_inClass (net.1, (net.2.1, net.2.2)) 5).bind fun r1 =>
  if !r1 then
   some ([], false, false)
  else
   (impl_anySolution (net.1, (net.2.1, net.2.2))).bind fun r2 =>
    some (r2.1, r2.2, true)
def laws_FnExactPairsAssignment (t0 : Int × Int × (List ((List Int) × Int × (List (List Int))))) : Option (Bool) :=
 (laws_szNetwork (t0.1, (t0.2.1, t0.2.2)) 1048576).bind fun r1 =>
  if decide (r1 < 0) then
   some true
  else
   (laws_toNetwork (t0.1, (t0.2.1, t0.2.2))).bind fun r2 =>
    (spec_PairsAssignment (r2.1, (r2.2.1, r2.2.2))).bind fun r3 =>
     (laws_toNetwork (t0.1, (t0.2.1, t0.2.2))).bind fun r4 =>
      (impl_PairsAssignment (r4.1, (r4.2.1, r4.2.2))).bind fun r5 =>
       (laws_eqIntS r5.1 r3.1).bind fun r6 =>
        if !r6 then
         some false
        else
         if r5.2.1 != r3.2.1 then
          some false
         else
          if r5.2.2 != r3.2.2 then
           some false
          else
           (laws_toNetwork (t0.1, (t0.2.1, t0.2.2))).bind fun r7 =>
            (laws_eqNetwork (r4.1, (r4.2.1, r4.2.2)) (r7.1, (r7.2.1, r7.2.2))).bind fun r8 =>
             if !r8 then
              some false
             else
              (laws_markNetwork (r4.1, (r4.2.1, r4.2.2)) 1).bind fun r9 =>
               if decide (r9.2 < 0) then
                some false
               else
                (laws_eqIntS r5.1 r3.1).bind fun r10 =>
                 if !r10 then
                  some false
                 else
                  if r5.2.1 != r3.2.1 then
                   some false
                  else
                   if r5.2.2 != r3.2.2 then
                    some false
                   else
                    (laws_markIntS r5.1 1).bind fun r11 =>
                     (laws_heldIntS r11.1 1).bind fun r12 =>
                      if decide (r12 < 0) then
                       some false
                      else
                       if r12 != r11.2 then
                        some false
                       else
                        (laws_toNetwork (t0.1, (t0.2.1, t0.2.2))).bind fun r13 =>
                         (impl_PairsAssignment (r13.1, (r13.2.1, r13.2.2))).bind fun r14 =>
                          (laws_eqIntS r14.1 r3.1).bind fun r15 =>
                           if !r15 then
                            some false
                           else
                            if r14.2.1 != r3.2.1 then
                             some false
                            else
                             if r14.2.2 != r3.2.2 then
                              some false
                             else
                              (laws_heldIntS r11.1 1).bind fun r16 =>
                               if decide (r16 < 0) then
                                some false
                               else
                                if r16 != r11.2 then
                                 some false
                                else
                                 some true
end T
open Go Go.Va
namespace T
def sortL (cmp : List Int → List Int → Int) (rows : List (List Int)) : List (List Int) := rows.mergeSort (fun x y => !decide (cmp y x < 0))
end T
open Go Go.Va
namespace T
theorem incB_pair {l : List (List Int)} : incB l = true ↔ l.Pairwise (fun a b => cmpL a b < 0) := by
 constructor
 ·intro h
  rw [List.pairwise_iff_getElem]
  exact fun i j hi hj hij => incB_lt h i j hij hj
 ·intro h
  rw [incB_iff]
  rw [List.pairwise_iff_getElem] at h
  exact fun i hi => h i (i + 1) (by omega) hi (by omega)
theorem spec_l8Put_ok {list : List (List Int)} {t : List Int} {k : Nat} (hl : list.length ≤ 1000000) (hk : k ≤ 1000000) (hv : ∀ u ∈ list, u.length = k) (ht : t.length = k) (hi : incB list = true) :
    ∃ out, spec_l8Put list t = some out ∧ incB out = true ∧ (∀ u, u ∈ out ↔ u = t ∨ u ∈ list) ∧ (t ∉ list → out.Perm (t :: list)) := by
  obtain ⟨c, e, k1, k2, k3⟩ := spec_l8Find_ok (by omega) (by omega) hv ht hi
  unfold spec_l8Put
  rw [e]
  simp only [Option.bind_some]
  by_cases hm : t ∈ list
  · rw [decide_eq_true hm, if_pos rfl]
    exact ⟨list, rfl, hi, fun u => ⟨Or.inr, fun h => h.elim (fun h => h ▸ hm) id⟩, fun h => absurd hm h⟩
  · rw [decide_eq_false hm, if_neg (by simp)]
    have e1 : (list.take (Int.toNat (c : Int))).drop (Int.toNat 0) = list.take c := by simp
    have e2 : (list.take (Int.toNat (list.length : Int))).drop (Int.toNat (c : Int)) = list.drop c := by simp
    have hlim : lim = 1099511627776 := rfl
    have t1 : (list.take c).length = c := by rw [List.length_take]; omega
    rw [e1, e2, if_pos (by omega), if_pos (by simp; omega), if_pos (by simp; omega), if_pos (by omega), if_pos (by simp; omega)]
    refine ⟨_, rfl, ?_, fun u => ?_, fun _ => ?_⟩
    · rw [incB_pair] at hi ⊢
      simp only [List.nil_append]
      have hsp : list = list.take c ++ list.drop c := (List.take_append_drop c list).symm
      rw [hsp, List.pairwise_append] at hi
      have h4 : ∀ u ∈ list.take c, cmpL u t < 0 := fun u hu => by
        obtain ⟨i, hi', rfl⟩ := List.mem_iff_getElem.1 hu
        rw [List.getElem_take]
        exact k2 i _ (by omega)
      have h5 : ∀ u ∈ list.drop c, cmpL t u < 0 := fun u hu => by
        obtain ⟨i, hi', rfl⟩ := List.mem_iff_getElem.1 hu
        rw [List.length_drop] at hi'
        rw [List.getElem_drop]
        have h6 := k3 (c + i) (by omega) (by omega)
        have h7 := cmpL_symm (list[c + i]'(by omega)) t
        have h8 : cmpL (list[c + i]'(by omega)) t ≠ 0 := fun h => hm (by rw [← cmpL_eq.1 h]; exact List.getElem_mem _)
        omega
      rw [List.pairwise_append, List.pairwise_append]
      refine ⟨⟨hi.1, List.pairwise_singleton _ _, fun a ha b hb => by rw [List.mem_singleton.1 hb]; exact h4 a ha⟩, hi.2.1, fun a ha b hb => ?_⟩
      rcases List.mem_append.1 ha with ha | ha
      · exact hi.2.2 a ha b hb
      · rw [List.mem_singleton.1 ha]; exact h5 b hb
    · have hsp : u ∈ list ↔ u ∈ list.take c ∨ u ∈ list.drop c := by rw [← List.mem_append, List.take_append_drop]
      simp only [List.nil_append, List.mem_append, List.mem_singleton, hsp]
      constructor
      · rintro ((h | h) | h)
        · exact Or.inr (Or.inl h)
        · exact Or.inl h
        · exact Or.inr (Or.inr h)
      · rintro (h | h | h)
        · exact Or.inl (Or.inr h)
        · exact Or.inl (Or.inl h)
        · exact Or.inr h
    · simp only [List.nil_append]
      refine (List.Perm.append_right _ (List.perm_append_comm)).trans ?_
      rw [List.append_assoc, List.take_append_drop]
      exact List.Perm.refl _
theorem cmpL_anti {x y : List Int} (h1 : ¬ cmpL y x < 0) (h2 : ¬ cmpL x y < 0) : x = y := by
 have := cmpL_symm x y
 exact cmpL_eq.1 (by omega)
theorem sortL_of {out l : List (List Int)} (hi : incB out = true) (hp : out.Perm l) : sortL cmpL l = out := by
 have hs : (sortL cmpL l).Pairwise fun x y => (!decide (cmpL y x < 0)) = true := by
  unfold sortL
  refine List.pairwise_mergeSort (fun a b c h1 h2 => ?_) (fun a b => ?_) l
  ·simp only [Bool.not_eq_true', decide_eq_false_iff_not] at *
   intro h3
   have q1 := cmpL_symm a b
   have q2 := cmpL_symm b c
   by_cases e : cmpL a b = 0
   ·rw [cmpL_eq.1 e] at h3; exact h2 h3
   ·exact h2 (cmpL_trans h3 (by omega))
  ·simp only [Bool.or_eq_true, Bool.not_eq_true', decide_eq_false_iff_not]
   have q1 := cmpL_symm a b
   omega
 have ho : out.Pairwise fun x y => (!decide (cmpL y x < 0)) = true := by
  refine (incB_pair.1 hi).imp ?_
  intro a b h
  simp only [Bool.not_eq_true', decide_eq_false_iff_not]
  have q1 := cmpL_symm a b
  omega
 have hpp : (sortL cmpL l).Perm out := (List.mergeSort_perm l _).trans hp.symm
 refine List.Perm.eq_of_pairwise (fun a b _ _ h1 h2 => ?_) hs ho hpp
 simp only [Bool.not_eq_true', decide_eq_false_iff_not] at h1 h2
 exact cmpL_anti h1 h2
end T
open Go Go.Va
namespace T
section
variable {p : Int} {W N V : Nat}
def coG (p : Int) (s : ES) (u : Nat) (f : Int) : Int := if posL s.2.1 u < 0 then (if f = (u : Int) then 1 else 0) else p - (s.1.getD (posL s.2.1 u).toNat []).getD f.toNat 0
def sumG (p : Int) (V : Nat) (s : ES) (F x : List Int) (u : Nat) : Nat → Int
 | 0 => solV V s u
 | k + 1 => sumG p V s F x u k + coG p s u (F.getD k 0) * x.getD k 0
def vecG (p : Int) (V : Nat) (s : ES) (F x : List Int) (k : Nat) : List Int := (List.range V).map fun u => sumG p V s F x u k % p
structure GenOk (p : Int) (W N V : Nat) (s : ES) (F x : List Int) : Prop where
 hp : pr4 p
 hs : ESok p W N V s
 hV : V < W
 hW : W ≤ 1000
 hN : N ≤ 100000
 hF : F = freeL V s.2.1
 hx : x.length = F.length
 xb : ∀ v ∈ x, 0 ≤ v ∧ v < p
variable {s : ES} {F x : List Int}
theorem GenOk.fl (g : GenOk p W N V s F x) : F.length ≤ V := by rw [g.hF]; exact freeL_le
theorem GenOk.fm (g : GenOk p W N V s F x) (k : Nat) (hk : k < F.length) : ∃ u : Nat, u < V ∧ F[k] = (u : Int) ∧ (u : Int) ∉ s.2.1 := by
 have h : F[k] ∈ freeL V s.2.1 := by rw [← g.hF]; exact List.getElem_mem hk
 unfold freeL at h
 obtain ⟨u, hu, e⟩ := List.mem_map.1 h
 rw [List.mem_filter] at hu
 exact ⟨u, List.mem_range.1 hu.1, e.symm, by simpa using hu.2⟩
theorem GenOk.xv (g : GenOk p W N V s F x) (k : Nat) (hk : k < F.length) : 0 ≤ x.getD k 0 ∧ x.getD k 0 < p := by
 have : k < x.length := by rw [g.hx]; exact hk
 rw [getD_of this]; exact g.xb _ (List.getElem_mem this)
theorem GenOk.pb (g : GenOk p W N V s F x) : 2 ≤ p ∧ p ≤ 7 := by have := g.hp; unfold pr4 at this; omega
theorem GenOk.row (g : GenOk p W N V s F x) {u : Nat} (hu : ¬ posL s.2.1 u < 0) : (posL s.2.1 u).toNat < s.1.length ∧ okRow p W (s.1.getD (posL s.2.1 u).toNat []) := by
 have hm : (u : Int) ∈ s.2.1 := by
  rcases Decidable.em ((u : Int) ∈ s.2.1) with h | h
  ·exact h
  ·exact absurd (posL_neg.2 h) hu
 obtain ⟨i, hi, g1, _⟩ := posL_at hm
 rw [g1, Int.toNat_natCast]
 have := g.hs.bl
 exact ⟨by omega, by rw [getD_of (by omega)]; exact g.hs.t _ (List.getElem_mem _)⟩
theorem GenOk.base (g : GenOk p W N V s F x) (u : Nat) : 0 ≤ solV V s u ∧ solV V s u < p := by
 have := g.pb
 unfold solV
 split
 ·omega
 ·rename_i h
  exact ok_get (g.row h).2 g.hV
theorem GenOk.co (g : GenOk p W N V s F x) (u : Nat) {k : Nat} (hk : k < F.length) : 0 ≤ coG p s u (F.getD k 0) ∧ coG p s u (F.getD k 0) ≤ 7 := by
 have := g.pb
 unfold coG
 split
 ·split <;> omega
 ·rename_i h
  obtain ⟨f, hf, e, _⟩ := g.fm k hk
  rw [getD_of hk, e, Int.toNat_natCast]
  have := ok_get (g.row h).2 (show f < W by have := g.hV; omega)
  omega
theorem GenOk.bound (g : GenOk p W N V s F x) (u : Nat) : ∀ k, k ≤ F.length → 0 ≤ sumG p V s F x u k ∧ sumG p V s F x u k ≤ 7 + 49 * k
 | 0, _ => by have := g.base u; have := g.pb; simp only [sumG]; omega
 | k + 1, hk => by
  have ih := g.bound u k (by omega)
  have h1 := g.co u (k := k) (by omega)
  have h2 := g.xv k (by omega)
  have := g.pb
  have h3 : 0 ≤ coG p s u (F.getD k 0) * x.getD k 0 := Int.mul_nonneg h1.1 h2.1
  have h4 : coG p s u (F.getD k 0) * x.getD k 0 ≤ 7 * 7 := Int.mul_le_mul h1.2 (by omega) h2.1 (by omega)
  simp only [sumG]
  omega
theorem GenOk.free (g : GenOk p W N V s F x) {u j : Nat} (hj : j < F.length) (hu : F[j] = (u : Int)) : ∀ k, k ≤ F.length → sumG p V s F x u k = if j < k then x.getD j 0 else 0
 | 0, _ => by
  obtain ⟨u', _, e, hn⟩ := g.fm j hj
  have : u' = u := by omega
  subst this
  simp only [sumG, solV]
  rw [if_pos (posL_neg.2 hn)]; simp
 | k + 1, hk => by
  have ih := g.free hj hu k (by omega)
  obtain ⟨u', _, e, hn⟩ := g.fm j hj
  have : u' = u := by omega
  subst this
  have hnd : F.Nodup := by
   rw [g.hF]; unfold freeL
   refine List.Pairwise.map _ ?_ (List.nodup_range.filter _)
   intro a b hab h; exact hab (by omega)
  simp only [sumG, ih, coG]
  rw [if_pos (posL_neg.2 hn), getD_of (show k < F.length by omega)]
  by_cases hkj : k = j
  ·subst hkj
   rw [if_pos hu, if_neg (by omega), if_pos (by omega)]; omega
  ·have : F[k] ≠ (u' : Int) := fun h => hkj ((List.getElem_inj hnd).1 (h.trans hu.symm))
   rw [if_neg this]
   by_cases c : j < k
   ·rw [if_pos c, if_pos (by omega)]; omega
   ·rw [if_neg c, if_neg (by omega)]; omega
end
end T
open Go Go.Va
namespace T
section
variable {p : Int} {W N V : Nat} {s : ES} {F x : List Int}
theorem GenOk.zero (g : GenOk p W N V s F x) : vecG p V s F x 0 = solL V s := by
 unfold vecG solL
 refine List.map_congr_left fun u _ => ?_
 have := g.base u
 simp only [sumG]
 exact Int.emod_eq_of_lt this.1 this.2
end
end T
open Go Go.Va
namespace T
section
variable {p : Int} {W N V : Nat} {s : ES} {F x : List Int}
def freG (p : Int) (V : Nat) (s : ES) (F x : List Int) (k : Nat) (u : Nat) : Int := if posL s.2.1 u < 0 then sumG p V s F x u k else 0
theorem GenOk.fre (g : GenOk p W N V s F x) {k f : Nat} (hk : k < F.length) (hf : F[k] = (f : Int)) : ((List.range V).map (freG p V s F x k)).set f (x.getD k 0) = (List.range V).map (freG p V s F x (k + 1)) := by
 obtain ⟨f', hf', e, hn⟩ := g.fm k hk
 have : f' = f := by omega
 subst this
 apply List.ext_getElem
 ·simp
 ·intro u h1 h2
  simp at h2
  rw [List.getElem_set]
  simp only [List.getElem_map, List.getElem_range]
  by_cases c : f' = u
  ·subst c
   rw [if_pos rfl]
   unfold freG
   rw [if_pos (posL_neg.2 hn), g.free hk hf (k + 1) (by omega), if_pos (by omega)]
  ·rw [if_neg c]
   unfold freG
   split
   ·rename_i hq
    simp only [sumG, coG]
    rw [if_pos hq, getD_of hk, hf, if_neg (by omega)]; omega
   ·rfl
theorem GenOk.sol (g : GenOk p W N V s F x) : impl_eliminated_solution_p (keptE p V s) x = some (vecG p V s F x F.length) := by
 have hp0 : p ≠ 0 := by have := g.pb; omega
 have hpb := g.pb
 have hV := g.hV
 have hN := g.hN
 have hW := g.hW
 have hFl := g.fl
 have hsb := g.hs.bl
 have hsn := g.hs.n
 generalize hE : keptE p V s = E
 have h1 : E.1 = true := by rw [← hE]; rfl
 have h2 : E.2.1 = p := by rw [← hE]; rfl
 have h3 : E.2.2.1 = (V : Int) := by rw [← hE]; rfl
 have h4 : E.2.2.2.1 = s.1 ++ s.2.2 := by rw [← hE]; rfl
 have h5 : E.2.2.2.2.2 = barr V s.2.1 := by rw [← hE]; rfl
 have hfr : impl_eliminated_freeVars_p E = some F := by rw [← hE, g.hF]; exact freeVars_ok (by omega)
 have l4 := forS F.length (fun f (o : List Int) i => impl_eliminated_solution_p_L4 f ((), E, x, o, F, (F.length : Int), i)) (fun k => (List.range V).map (freG p V s F x k)) (r := some (E, x, (List.range V).map (freG p V s F x F.length), F)) (fun f k hk => by
  obtain ⟨u, hu, e, _⟩ := g.fm k hk
  have hkx : k < x.length := by rw [g.hx]; exact hk
  have hu2 : u < ((List.range V).map (freG p V s F x k)).length := by simpa using hu
  simp only [impl_eliminated_solution_p_L4, inb_nat, hk, gd_nat hk, e, hkx, hu2, gd_D, stt_nat, g.fre hk e, if_true, w64_succ (show k < 4611686018427387904 by omega)]
  rw [if_pos (by simp; omega)]) (fun f => by
  simp only [impl_eliminated_solution_p_L4]
  rw [if_neg (by simp)]) (n := fuel) (by unfold fuel; omega)
 have e0 : (List.range V).map (freG p V s F x 0) = List.replicate V (0 : Int) := by
  apply List.ext_getElem
  ·simp
  ·intro u _ _
   simp only [List.getElem_map, List.getElem_range, List.getElem_replicate, freG, sumG, solV]
   split <;> rfl
 rw [e0] at l4
 have l14 : ∀ (out : List Int) (v : Nat), ¬ posL s.2.1 v < 0 → ∀ i : Nat, posL s.2.1 v = (i : Int) → impl_eliminated_solution_p_L14 fuel ((), E, x, out, F, (v : Int), (i : Int), solV V s v, barr V s.2.1, (V : Int), (v : Int), (F.length : Int), 0) = some (E, x, out, F, (v : Int), sumG p V s F x v F.length, barr V s.2.1, (V : Int), (v : Int)) := by
  intro out v hq i hi
  have hrow := g.row hq
  rw [hi, Int.toNat_natCast] at hrow
  refine forS F.length (fun f (y : Int) j => impl_eliminated_solution_p_L14 f ((), E, x, out, F, (v : Int), (i : Int), y, barr V s.2.1, (V : Int), (v : Int), (F.length : Int), j)) (fun k => sumG p V s F x v k) (r := some (E, x, out, F, (v : Int), sumG p V s F x v F.length, barr V s.2.1, (V : Int), (v : Int))) (fun f k hk => ?_) (fun f => ?_) (n := fuel) (by unfold fuel; omega)
  ·obtain ⟨u, hu, e, _⟩ := g.fm k hk
   have hkx : k < x.length := by rw [g.hx]; exact hk
   have hil : i < (s.1 ++ s.2.2).length := by rw [List.length_append]; omega
   have hr1 := hrow.1
   have hg : (s.1 ++ s.2.2).getD i [] = s.1.getD i [] := by rw [getD_of hil, List.getElem_append_left hr1, getD_of hr1]
   have hul : u < (s.1.getD i []).length := by rw [hrow.2.1]; omega
   have hro := ok_get hrow.2 (show u < W by omega)
   have hc : coG p s v (F.getD k 0) = p - (s.1.getD i []).getD u 0 := by unfold coG; rw [if_neg hq, hi, Int.toNat_natCast, getD_of hk, e, Int.toNat_natCast]
   have hb := g.bound v (k + 1) (by omega)
   have hb0 := g.bound v k (by omega)
   have hx := g.xv k hk
   have hxg : gd x (k : Int) 0 = x.getD k 0 := gd_D
   have h7 : 0 ≤ (p - (s.1.getD i []).getD u 0) * x.getD k 0 := Int.mul_nonneg (by omega) hx.1
   simp only [sumG, hc] at hb
   simp only [impl_eliminated_solution_p_L14, inb_nat, hk, gd_nat hk, e, h1, h2, h4, hil, hg, hul, hkx, gd_D, if_true, w64_succ (show k < 4611686018427387904 by omega), w64_small (x := p - (s.1.getD i []).getD u 0) (by omega) (by omega), w64_small (x := (p - (s.1.getD i []).getD u 0) * x.getD k 0) (by omega) (by omega), w64_small (x := sumG p V s F x v k + (p - (s.1.getD i []).getD u 0) * x.getD k 0) (by omega) (by omega)]
   rw [if_pos (by simp; omega)]
   simp only [sumG, hc]
  ·simp only [impl_eliminated_solution_p_L14]
   rw [if_neg (by simp)]
 have l9 := forS V (fun f (o : List Int) i => impl_eliminated_solution_p_L9 f (E, x, o, F, barr V s.2.1, (V : Int), i)) (fun v => mix (fun u => sumG p V s F x u F.length % p) (freG p V s F x F.length) V v) (r := some (vecG p V s F x F.length)) (fun f v hv => ?_) (fun f => ?_) (n := fuel) (by unfold fuel; omega)
 ·have e1 : mix (fun u => sumG p V s F x u F.length % p) (freG p V s F x F.length) V 0 = (List.range V).map (freG p V s F x F.length) := by
   unfold mix; simp
  rw [e1] at l9
  have l9 : impl_eliminated_solution_p_L9 fuel (E, x, (List.range V).map (freG p V s F x F.length), F, barr V s.2.1, (V : Int), 0) = _ := l9
  have l4 : impl_eliminated_solution_p_L4 fuel ((), E, x, List.replicate V (0 : Int), F, (F.length : Int), 0) = _ := l4
  unfold impl_eliminated_solution_p
  rw [if_pos h1, h3, if_pos (by unfold lim; omega), hfr]
  simp only [Option.bind_some, Int.toNat_natCast, l4]
  rw [if_pos h1, h5, barr_len, l9]; rfl
 ·have hvl : v < (barr V s.2.1).length := by rw [barr_len]; exact hv
  simp only [impl_eliminated_solution_p_L9, inb_nat, hvl, gd_D, barr_get hv, h1, h3, h4, if_true]
  rw [if_pos (by simp; omega)]
  by_cases hq : posL s.2.1 v < 0
  ·have hsm : sumG p V s F x v F.length % p = freG p V s F x F.length v := by
    unfold freG
    rw [if_pos hq]
    have hm : (v : Int) ∈ F := by
     rw [g.hF]; unfold freeL
     exact List.mem_map.2 ⟨v, List.mem_filter.2 ⟨List.mem_range.2 hv, by simpa using posL_neg.1 hq⟩, rfl⟩
    obtain ⟨j, hj, hjv⟩ := List.mem_iff_getElem.1 hm
    rw [g.free hj hjv F.length (Nat.le_refl _), if_pos hj]
    have := g.xv j hj
    exact Int.emod_eq_of_lt this.1 this.2
   rw [if_pos (by rw [decide_eq_true_iff]; exact hq), mix_same hv hsm, w64_succ (show v < 4611686018427387904 by omega)]
  ·obtain ⟨i, hi⟩ : ∃ i : Nat, posL s.2.1 v = (i : Int) := ⟨(posL s.2.1 v).toNat, by omega⟩
   have hrow := g.row hq
   rw [hi, Int.toNat_natCast] at hrow
   have hil : i < (s.1 ++ s.2.2).length := by rw [List.length_append]; omega
   have hr1 := hrow.1
   have hg : (s.1 ++ s.2.2).getD i [] = s.1.getD i [] := by rw [getD_of hil, List.getElem_append_left hr1, getD_of hr1]
   have hVl : V < (s.1.getD i []).length := by rw [hrow.2.1]; exact hV
   have hml : v < (mix (fun u => sumG p V s F x u F.length % p) (freG p V s F x F.length) V v).length := by rw [mix_len]; exact hv
   have hsv : solV V s v = (s.1.getD i []).getD V 0 := by unfold solV; rw [if_neg hq, hi, Int.toNat_natCast]
   have hst := mix_set (nw := fun u => sumG p V s F x u F.length % p) (old := freG p V s F x F.length) hv
   have hl := l14 (mix (fun u => sumG p V s F x u F.length % p) (freG p V s F x F.length) V v) v hq i hi
   rw [hsv] at hl
   have hb := g.bound v F.length (Nat.le_refl _)
   rw [hi, if_neg (by simp)]
   simp only [inb_nat, hil, hg, gd_D, hVl, if_true, barr_len]
   rw [hl]
   simp only [Option.bind_some, h1, h2, inb_nat, hml, if_true, stt_nat, w64_succ (show v < 4611686018427387904 by omega)]
   rw [if_pos hp0, Int.tmod_eq_emod_of_nonneg hb.1, hst]
 ·simp only [impl_eliminated_solution_p_L9, mix_full]
  rw [if_neg (by simp)]; rfl
end
end T
open Go Go.Va
namespace T
def keepI (xs : List (List Int)) : List Nat := (List.range xs.length).filter fun i => i == 0 || xs.getD (i - 1) [] != xs.getD i []
def diffL (xs : List (List Int)) : List (List Int) := (keepI xs).map fun i => xs.getD i []
def dgP : List Int → List (List Int) → List (List Int)
 | _, [] => []
 | p, x :: l => if p = x then dgP x l else x :: dgP x l
theorem diff_from : ∀ (l pre : List (List Int)) (p : List Int), ((List.range' (pre ++ [p]).length l.length).filter fun i => i == 0 || (pre ++ [p] ++ l).getD (i - 1) [] != (pre ++ [p] ++ l).getD i []).map (fun i => (pre ++ [p] ++ l).getD i []) = dgP p l
 | [], _, _ => rfl
 | x :: l, pre, p => by
  have ih := diff_from l (pre ++ [p]) x
  have e : pre ++ [p] ++ [x] ++ l = pre ++ [p] ++ (x :: l) := by simp
  rw [e] at ih
  have e2 : (pre ++ [p] ++ [x]).length = (pre ++ [p]).length + 1 := by simp
  rw [e2] at ih
  have g1 : (pre ++ [p] ++ (x :: l)).getD ((pre ++ [p]).length - 1) [] = p := by
   rw [List.getD_eq_getElem?_getD, List.getElem?_append_left (by simp), List.length_append, List.length_singleton, Nat.add_sub_cancel, List.getElem?_append_right (Nat.le_refl _), Nat.sub_self]; rfl
  have g2 : (pre ++ [p] ++ (x :: l)).getD (pre ++ [p]).length [] = x := by
   rw [List.getD_eq_getElem?_getD, List.getElem?_append_right (Nat.le_refl _), Nat.sub_self]; rfl
  have g3 : ((pre ++ [p]).length == 0) = false := by simp
  rw [List.length_cons, List.range'_succ, List.filter_cons, g1, g2, g3, dgP]
  by_cases h : p = x
  ·rw [if_neg (by simp [h]), if_pos h]; exact ih
  ·rw [if_pos (by simp [h]), if_neg h, List.map_cons, g2]; exact congrArg _ ih
theorem diffL_cons {x : List Int} {l : List (List Int)} : diffL (x :: l) = x :: dgP x l := by
 have h := diff_from l [] x
 unfold diffL keepI
 rw [List.range_eq_range', List.length_cons, List.range'_succ, List.filter_cons, if_pos (by simp), List.map_cons]
 exact congrArg _ h
theorem dgP_mem : ∀ {l : List (List Int)} {p u : List Int}, (u ∈ dgP p l ∨ u = p) ↔ (u ∈ l ∨ u = p)
 | [], _, _ => Iff.rfl
 | x :: l, p, u => by
  have ih := dgP_mem (l := l) (p := x) (u := u)
  unfold dgP
  by_cases h : p = x
  ·subst h
   rw [if_pos rfl, ih, List.mem_cons]
   exact ⟨fun h => h.elim (fun h => Or.inl (Or.inr h)) Or.inr, fun h => h.elim (fun h => h.elim Or.inr Or.inl) Or.inr⟩
  ·rw [if_neg h, List.mem_cons, List.mem_cons]
   constructor
   ·rintro ((h | h) | h)
    ·exact Or.inl (Or.inl h)
    ·exact Or.inl ((ih.1 (Or.inl h)).elim Or.inr Or.inl)
    ·exact Or.inr h
   ·rintro ((h | h) | h)
    ·exact Or.inl (Or.inl h)
    ·exact Or.inl ((ih.2 (Or.inl h)).elim Or.inr Or.inl)
    ·exact Or.inr h
theorem diffL_mem {l : List (List Int)} {u : List Int} : u ∈ diffL l ↔ u ∈ l := by
 cases l with
 | nil => exact Iff.rfl
 | cons x l =>
  rw [diffL_cons, List.mem_cons, List.mem_cons]
  have := dgP_mem (l := l) (p := x) (u := u)
  exact ⟨fun h => (this.1 h.symm).symm, fun h => (this.2 h.symm).symm⟩
theorem dgP_inc : ∀ {l : List (List Int)} {p : List Int}, (p :: l).Pairwise (fun a b => ¬ cmpL b a < 0) → (p :: dgP p l).Pairwise fun a b => cmpL a b < 0
 | [], _, _ => List.pairwise_singleton _ _
 | x :: l, p, h => by
  have h1 := List.pairwise_cons.1 h
  have ih := dgP_inc (l := l) (p := x) h1.2
  unfold dgP
  by_cases e : p = x
  ·subst e; rw [if_pos rfl]; exact ih
  ·rw [if_neg e]
   refine List.pairwise_cons.2 ⟨fun b hb => ?_, ih⟩
   have hlt : cmpL p x < 0 := by
    have h2 := h1.1 x (List.mem_cons_self ..)
    have h3 := cmpL_symm p x
    have h4 : cmpL p x ≠ 0 := fun h => e (cmpL_eq.1 h)
    omega
   rcases List.mem_cons.1 hb with rfl | hb
   ·exact hlt
   ·exact cmpL_trans hlt ((List.pairwise_cons.1 ih).1 b hb)
theorem sortL_le (l : List (List Int)) : (sortL cmpL l).Pairwise fun a b => ¬ cmpL b a < 0 := by
 have hs : (sortL cmpL l).Pairwise fun x y => (!decide (cmpL y x < 0)) = true := by
  unfold sortL
  refine List.pairwise_mergeSort (fun a b c h1 h2 => ?_) (fun a b => ?_) l
  ·simp only [Bool.not_eq_true', decide_eq_false_iff_not] at *
   intro h3
   have q1 := cmpL_symm a b
   have q2 := cmpL_symm b c
   by_cases e : cmpL a b = 0
   ·rw [cmpL_eq.1 e] at h3; exact h2 h3
   ·exact h2 (cmpL_trans h3 (by omega))
  ·simp only [Bool.or_eq_true, Bool.not_eq_true', decide_eq_false_iff_not]
   have q1 := cmpL_symm a b
   omega
 exact hs.imp fun {a b} h => by simpa using h
def setL (l : List (List Int)) : List (List Int) := diffL (sortL cmpL l)
theorem setL_mem {l : List (List Int)} {u : List Int} : u ∈ setL l ↔ u ∈ l := by
 unfold setL; rw [diffL_mem]; exact (List.mergeSort_perm l _).mem_iff
theorem setL_inc (l : List (List Int)) : incB (setL l) = true := by
 rw [incB_pair]
 unfold setL
 have h := sortL_le l
 generalize sortL cmpL l = s at h
 cases s with
 | nil => exact List.Pairwise.nil
 | cons x s => rw [diffL_cons]; exact dgP_inc h
theorem inc_uniq : ∀ {a b : List (List Int)}, incB a = true → incB b = true → (∀ u, u ∈ a ↔ u ∈ b) → a = b := by
 intro a b ha hb h
 have pa := incB_pair.1 ha
 have pb := incB_pair.1 hb
 have na : a.Nodup := pa.imp fun {x y} h e => by rw [e, cmpL_refl] at h; omega
 have nb : b.Nodup := pb.imp fun {x y} h e => by rw [e, cmpL_refl] at h; omega
 have hp : a.Perm b := (List.perm_ext_iff_of_nodup na nb).2 h
 rw [← sortL_of ha (List.Perm.refl _), ← sortL_of hb (List.Perm.refl _)]
 have h1 := sortL_of ha hp
 have h2 := sortL_of hb (List.Perm.refl b)
 have h3 := sortL_of ha (List.Perm.refl a)
 rw [h2, h3, ← h1, h2]
theorem setL_of {out l : List (List Int)} (hi : incB out = true) (hm : ∀ u, u ∈ out ↔ u ∈ l) : setL l = out :=
 inc_uniq (setL_inc l) hi fun u => setL_mem.trans (hm u).symm
theorem diffL_le (l : List (List Int)) : (diffL l).length ≤ l.length := by
 unfold diffL keepI
 rw [List.length_map]
 exact Nat.le_trans (List.length_filter_le _ _) (by rw [List.length_range]; exact Nat.le_refl _)
theorem setL_le (l : List (List Int)) : (setL l).length ≤ l.length := by
 unfold setL
 have := diffL_le (sortL cmpL l)
 rwa [show (sortL cmpL l).length = l.length from (List.mergeSort_perm l _).length_eq] at this
end T
open Go Go.Va
namespace T
structure TupS (n : Int) (k : Nat) (ts : List (List Int)) : Prop where
 hn : 1 ≤ n ∧ n ≤ 8
 hk : 1 ≤ k ∧ k ≤ 4
 len : ∀ t ∈ ts, t.length = k
 el : ∀ t ∈ ts, belowB n t = true
 inc : incB ts = true
section
variable {n : Int} {k : Nat} {ts : List (List Int)}
theorem TupS.le (h : TupS n k ts) {a b : Nat} (hab : a ≤ b) (hb : b < ts.length) : cmpL (ts.getD a []) (ts.getD b []) ≤ 0 := by
 rcases Nat.lt_or_ge a b with hlt | hge
 ·have := incB_lt h.inc a b hlt hb
  rw [getD_of hb, getD_of (show a < ts.length by omega)]; omega
 ·have : a = b := by omega
  subst this; rw [cmpL_refl]; omega
end
end T
open Go Go.Va
namespace T
section
variable {a : Net} {v n : Int}
def twoT (p q : Nat) (t : List Int) : List Int := [t.getD p 0, t.getD q 0]
def twoC (c : Con) (p q : Nat) : Con := (twoT p q c.1, (2, setL (c.2.2.map (twoT p q))))
theorem spec_At2 {t : List Int} {p q : Nat} (hp : p < t.length) (hq : q < t.length) : spec_l8At t [(p : Int), (q : Int)] = some (twoT p q t) := by
 unfold spec_l8At
 have e : fuel = (fuel - 3) + 1 + 1 + 1 := by unfold fuel; omega
 rw [e]
 have w1 : w64 (0 + 1) = 1 := by rw [w64_def]; rfl
 have w2 : w64 (1 + 1) = 2 := by rw [w64_def]; rfl
 have i0 : inb (0 : Int) [(p : Int), (q : Int)] := by unfold inb; simp
 have i1 : inb (1 : Int) [(p : Int), (q : Int)] := by unfold inb; simp
 have g0 : gd [(p : Int), (q : Int)] 0 0 = (p : Int) := rfl
 have g1 : gd [(p : Int), (q : Int)] 1 0 = (q : Int) := rfl
 simp only [spec_l8At_L3, w1, w2, i0, i1, g0, g1, inb_nat, hp, hq, if_true, gd_D]
 simp [twoT, lim]
structure TwoOk (c : Con) : Prop where
 sl : c.1.length ≤ 3
 tl : ∀ t ∈ c.2.2, t.length = c.1.length
 many : c.2.2.length ≤ 64
theorem two_put {c : Con} (h : TwoOk c) {p q : Nat} (hp : p < c.1.length) (hq : q < c.1.length) : spec_l13Project c.2 [(p : Int), (q : Int)] = some (twoC c p q).2 := by
 have hm := h.many
 have := forS c.2.2.length (fun m (o : List (List Int)) i => spec_l13Project_L3 m ([(p : Int), (q : Int)], c.2, (0, []), (2, o), i)) (fun k => setL ((c.2.2.take k).map (twoT p q))) (r := some ((0, []), (2, setL (c.2.2.map (twoT p q))))) (fun m k hk => ?_) (fun m => ?_) (n := fuel) (by unfold fuel; omega)
 ·have e0 : setL ((c.2.2.take 0).map (twoT p q)) = [] := by rw [List.take_zero, List.map_nil]; simp [setL, sortL, diffL, keepI]
  rw [e0] at this
  have this : spec_l13Project_L3 fuel ([(p : Int), (q : Int)], (c.2.1, c.2.2), (0, []), ((([(p : Int), (q : Int)] : List Int).length : Int), []), 0) = _ := this
  unfold spec_l13Project
  rw [this]; rfl
 ·have ht := h.tl _ (List.getElem_mem hk)
  have e1 := spec_At2 (t := c.2.2[k]) (show p < c.2.2[k].length by omega) (show q < c.2.2[k].length by omega)
  have hle := setL_le ((c.2.2.take k).map (twoT p q))
  rw [List.length_map, List.length_take] at hle
  obtain ⟨out, e2, g1, g2, _⟩ := spec_l8Put_ok (list := setL ((c.2.2.take k).map (twoT p q))) (t := twoT p q c.2.2[k]) (k := 2) (by omega) (by omega) (fun u hu => by
   obtain ⟨t, _, rfl⟩ := List.mem_map.1 (setL_mem.1 hu); rfl) rfl (setL_inc _)
  have e3 : out = setL ((c.2.2.take (k + 1)).map (twoT p q)) := (setL_of g1 fun u => by
   rw [g2, setL_mem, List.take_succ_eq_append_getElem hk, List.map_append, List.mem_append, List.map_cons, List.map_nil, List.mem_singleton]
   exact ⟨fun h => h.symm, fun h => h.symm⟩).symm
  simp only [spec_l13Project_L3, inb_nat, hk, gd_nat hk, if_true, e1, e2, Option.bind_some, w64_succ (show k < 4611686018427387904 by omega)]
  rw [if_pos (by simp; omega), e3]
 ·simp only [spec_l13Project_L3, List.take_length]
  rw [if_neg (by simp)]
end
end T
open Go Go.Va
namespace T
section
variable {V n k : Nat} {cs : List Con} {rels : List RelT}
theorem sols_mem {given : List Int} {t : List Int} (h : t ∈ solsN V n cs given) : t.length = V := by
 have := (ext_mem (n := n) (given := given) (ok := okN cs) V [] t h).1
 simpa using this
end
end T
open Go Go.Va
namespace T
section
variable {n k m : Nat} {r : RelT} {rels : List RelT} {given t : List Int}
def polK (n k : Nat) (rels : List RelT) (t : List Int) : Bool := rels.all fun r => kB n k r.1.toNat ((k : Int), t) r
theorem res_map {i : Nat} : resT n ((k : Int), t) r.2 r.1.toNat (dg r.2.length k i) = (cI (PL n k r i)).map (valI t) := by
 unfold resT PL cI
 rw [List.map_map, List.map_map]
 rfl
theorem polK_iff : polK n k rels t = true ↔ ∀ r ∈ rels, ∀ i, i < r.2.length ^ k → (cI (PL n k r i)).map (valI t) ∈ r.2 := by
 unfold polK kB
 simp only [List.all_eq_true, List.mem_range, decide_eq_true_eq, res_map]
theorem ext_iff {ok : List Int → Bool} : ∀ (m : Nat) (pre t : List Int), t ∈ extL n given ok m pre ↔ t.length = pre.length + m ∧ t.take pre.length = pre ∧
    ∀ q, pre.length ≤ q → q < t.length → (0 ≤ t.getD q 0 ∧ t.getD q 0 < (n : Int)) ∧ mstB given q (t.getD q 0).toNat = true ∧ ok (t.take (q + 1)) = true
  | 0, pre, t => by
    simp only [extL, List.mem_singleton, Nat.add_zero]
    constructor
    · rintro rfl
      exact ⟨rfl, by simp, fun q h1 h2 => by omega⟩
    · rintro ⟨h1, h2, _⟩
      rw [← h2, List.take_of_length_le (by omega)]
  | m + 1, pre, t => by
    simp only [extL, List.mem_flatMap, List.mem_range]
    constructor
    · rintro ⟨x, hx, h⟩
      by_cases hc : (mstB given pre.length x && ok (pre ++ [(x : Int)])) = true
      · rw [if_pos hc] at h
        obtain ⟨h1, h2, h3⟩ := (ext_iff m (pre ++ [(x : Int)]) t).1 h
        rw [Bool.and_eq_true] at hc
        rw [List.length_append, List.length_singleton] at h1 h2 h3
        have hv : t.getD pre.length 0 = (x : Int) := by
          have hl : pre.length < t.length := by omega
          have e : (t.take (pre.length + 1)).getD pre.length 0 = t.getD pre.length 0 := by simp [List.getD_eq_getElem?_getD, List.getElem?_take]
          rw [← e, h2]; simp [List.getD_eq_getElem?_getD]
        refine ⟨by omega, ?_, fun q h4 h5 => ?_⟩
        · have : (t.take (pre.length + 1)).take pre.length = pre := by rw [h2]; simp
          rw [List.take_take] at this
          rwa [Nat.min_eq_left (by omega)] at this
        · by_cases e : q = pre.length
          · subst e
            rw [hv, h2]
            exact ⟨by omega, by rw [Int.toNat_natCast]; exact hc.1, hc.2⟩
          · exact h3 q (by omega) h5
      · rw [if_neg hc] at h; simp at h
    · rintro ⟨h1, h2, h3⟩
      have hl : pre.length < t.length := by omega
      obtain ⟨a1, a2, a3⟩ := h3 pre.length (Nat.le_refl _) hl
      have hx : (((t.getD pre.length 0).toNat : Nat) : Int) = t.getD pre.length 0 := Int.toNat_of_nonneg a1.1
      have ht : t.take (pre.length + 1) = pre ++ [(((t.getD pre.length 0).toNat : Nat) : Int)] := by
        rw [hx, List.take_succ_eq_append_getElem hl, h2, getD_of hl]
      refine ⟨(t.getD pre.length 0).toNat, by omega, ?_⟩
      rw [if_pos (by rw [Bool.and_eq_true]; exact ⟨a2, by rw [← ht]; exact a3⟩)]
      refine (ext_iff m _ t).2 ⟨by simp; omega, by rw [List.length_append, List.length_singleton]; exact ht, fun q h4 h5 => h3 q (by rw [List.length_append, List.length_singleton] at h4; omega) h5⟩
theorem mst_free {N q x : Nat} (hq : q < N) : mstB (List.replicate N (-1)) q x = true := by
 unfold mstB
 rw [getD_of (by simpa using hq)]; simp
theorem dg_onto {b : Nat} : ∀ (k : Nat) (ys : List Nat), ys.length = k → (∀ y ∈ ys, y < b) → ∃ i, i < b ^ k ∧ dg b k i = ys := by
 intro k
 induction k with
 | zero => intro ys hl _; exact ⟨0, by simp, by rw [List.eq_nil_of_length_eq_zero hl]; rfl⟩
 | succ k ih =>
  intro ys hl hy
  obtain ⟨z, y, rfl⟩ : ∃ z y, ys = z ++ [y] := ⟨ys.dropLast, ys.getLast (by intro e; rw [e] at hl; simp at hl), (List.dropLast_concat_getLast _).symm⟩
  have hyb := hy y (by simp)
  obtain ⟨i, h1, h2⟩ := ih z (by simpa using hl) fun x hx => hy x (by simp [hx])
  refine ⟨i * b + y, ?_, ?_⟩
  ·rw [Nat.pow_succ]
   calc i * b + y < i * b + b := by omega
    _ = (i + 1) * b := by rw [Nat.succ_mul]
    _ ≤ b ^ k * b := Nat.mul_le_mul_right _ h1
  ·simp only [dg]
   have e1 : (i * b + y) / b = i := by rw [Nat.mul_comm, Nat.mul_add_div (by omega), Nat.div_eq_of_lt hyb]; omega
   have e2 : (i * b + y) % b = y := by rw [Nat.mul_comm, Nat.mul_add_mod, Nat.mod_eq_of_lt hyb]
   rw [e1, e2, h2]
theorem PL_val {i j : Nat} (hj : j < r.1.toNat) : ((cI (PL n k r i)).map (valI t)).getD j 0 = t.getD (atF n r.2 j (dg r.2.length k i)) 0 := by
 unfold PL cI
 rw [getD_of (by simpa using hj)]
 simp [valI]
theorem pol_app (h : ROk n m r) (hk : polK n k [r] t = true) {ys : List Nat} (hl : ys.length = k) (hy : ∀ y ∈ ys, y < r.2.length) :
    ∃ z, z < r.2.length ∧ ∀ j, j < m → t.getD (atF n r.2 j ys) 0 = (r.2.getD z []).getD j 0 := by
  obtain ⟨i, h1, h2⟩ := dg_onto (b := r.2.length) k ys hl hy
  have hm := polK_iff.1 hk r (by simp) i h1
  obtain ⟨z, hz, e⟩ := List.mem_iff_getElem.1 hm
  refine ⟨z, hz, fun j hj => ?_⟩
  rw [getD_of hz, e, ← h2, PL_val (by have := h.ar; omega)]
end
end T
open Go Go.Va
namespace T
def negL (l : Nat) : Nat := l / 2 * 2 + 1 - l % 2
theorem nodup_len : ∀ (W : Nat) (l : List Nat), l.Nodup → (∀ x ∈ l, x < W) → l.length ≤ W
 | 0, l, _, h => by
  cases l with
  | nil => simp
  | cons x l => exact absurd (h x (List.mem_cons_self ..)) (by omega)
 | W + 1, l, hn, h => by
  have h1 := nodup_len W (l.erase W) (hn.erase W) fun x hx => by
   have h2 := h x (List.mem_of_mem_erase hx)
   have h3 : x ≠ W := fun e => by subst e; exact absurd hx (hn.not_mem_erase)
   omega
  have := List.length_erase (a := W) (l := l)
  split at this <;> omega
structure LInv (F : Nat → Nat → Bool) (W : Nat) (S0 line : List Nat) (n : Nat) : Prop where
 le : n ≤ line.length
 nd : line.Nodup
 lt : ∀ x ∈ line, x < W
 sub : ∀ x ∈ S0, x ∈ line
 done : ∀ i, i < n → ∀ b, F (line.getD i 0) b = true → b ∈ line
 least : ∀ P : Nat → Prop, (∀ x ∈ S0, P x) → (∀ a b, P a → F a b = true → P b) → ∀ x ∈ line, P x
def addF (F : Nat → Nat → Bool) (a : Nat) (line : List Nat) (l : Nat) : List Nat := if F a l && !decide (l ∈ line) then line ++ [l] else line
def matF (F : Nat → Nat → Bool) (W : Nat) : List (List Bool) := (List.range W).map fun a => (List.range W).map (F a)
section
variable {F : Nat → Nat → Bool} {W : Nat} {S0 line : List Nat} {n a : Nat}
theorem addF_pre (l : Nat) : ∃ r, addF F a line l = line ++ r := by
 unfold addF; split
 ·exact ⟨[l], rfl⟩
 ·exact ⟨[], by simp⟩
theorem foldA_pre : ∀ (ls : List Nat) (line : List Nat), ∃ r, ls.foldl (addF F a) line = line ++ r
 | [], line => ⟨[], by simp⟩
 | l :: ls, line => by
  obtain ⟨r1, e1⟩ := addF_pre (F := F) (a := a) (line := line) l
  obtain ⟨r2, e2⟩ := foldA_pre ls (addF F a line l)
  exact ⟨r1 ++ r2, by rw [List.foldl_cons, e2, e1, List.append_assoc]⟩
theorem add_inv (hF : ∀ a b, F a b = true → b < W) (h : LInv F W S0 line n) (ha : a ∈ line) (l : Nat) : LInv F W S0 (addF F a line l) n := by
 unfold addF
 by_cases hc : (F a l && !decide (l ∈ line)) = true
 ·rw [if_pos hc]
  rw [Bool.and_eq_true] at hc
  obtain ⟨h1, h2⟩ := hc
  have h2 : l ∉ line := by simpa using h2
  refine ⟨by have := h.le; simp; omega, List.nodup_append.2 ⟨h.nd, by simp, fun x hx y hy => by rw [List.mem_singleton.1 hy]; exact fun e => h2 (e ▸ hx)⟩, fun x hx => ?_, fun x hx => List.mem_append_left _ (h.sub x hx), fun i hi b hb => ?_, fun P p1 p2 x hx => ?_⟩
  ·rcases List.mem_append.1 hx with hx | hx
   ·exact h.lt x hx
   ·rw [List.mem_singleton.1 hx]; exact hF a l h1
  ·have hil : i < line.length := Nat.lt_of_lt_of_le hi h.le
   have : (line ++ [l]).getD i 0 = line.getD i 0 := by
    rw [getD_of (by simp; omega), getD_of hil, List.getElem_append_left hil]
   rw [this] at hb
   exact List.mem_append_left _ (h.done i hi b hb)
  ·rcases List.mem_append.1 hx with hx | hx
   ·exact h.least P p1 p2 x hx
   ·rw [List.mem_singleton.1 hx]; exact p2 a l (h.least P p1 p2 a ha) h1
 ·rw [if_neg hc]; exact h
theorem foldA_inv (hF : ∀ a b, F a b = true → b < W) (ha : a ∈ S0 ∨ True) : ∀ (ls : List Nat) (line : List Nat), LInv F W S0 line n → a ∈ line → LInv F W S0 (ls.foldl (addF F a) line) n
 | [], line, h, _ => h
 | l :: ls, line, h, hm => by
  obtain ⟨r, e⟩ := addF_pre (F := F) (a := a) (line := line) l
  exact foldA_inv hF ha ls _ (add_inv hF h hm l) (by rw [e]; exact List.mem_append_left _ hm)
theorem foldA_all : ∀ (ls : List Nat) (line : List Nat) (b : Nat), b ∈ ls → F a b = true → b ∈ ls.foldl (addF F a) line
 | l :: ls, line, b, hb, hf => by
  rcases List.mem_cons.1 hb with rfl | hb
  ·obtain ⟨r, e⟩ := foldA_pre (F := F) (a := a) ls (addF F a line b)
   rw [List.foldl_cons, e]
   refine List.mem_append_left _ ?_
   unfold addF
   by_cases hc : b ∈ line
   ·rw [if_neg (by simp [hc])]; exact hc
   ·rw [if_pos (by simp [hc, hf])]; simp
  ·exact foldA_all ls _ b hb hf
theorem mat_len : (matF F W).length = W := by simp [matF]
theorem mat_row {i : Nat} (hi : i < W) : gd (matF F W) (i : Int) [] = (List.range W).map (F i) := by
 rw [gd_nat (by rw [mat_len]; exact hi)]; simp [matF]
theorem mat_get {i j : Nat} (hi : i < W) (hj : j < W) : j < (gd (matF F W) (i : Int) []).length ∧ gd (gd (matF F W) (i : Int) []) (j : Int) false = F i j := by
 rw [mat_row hi]
 have hl : j < ((List.range W).map (F i)).length := by simpa using hj
 exact ⟨hl, by rw [gd_nat hl]; simp⟩
theorem cI_mem {l : List Nat} {x : Nat} : ((x : Nat) : Int) ∈ cI l ↔ x ∈ l := by
 unfold cI
 rw [List.mem_map]
 constructor
 ·rintro ⟨y, hy, e⟩; rwa [Int.ofNat_inj.1 e] at hy
 ·intro h; exact ⟨x, h, rfl⟩
theorem cI_gd {l : List Nat} {i : Nat} (hi : i < l.length) : gd (cI l) (i : Int) 0 = ((l.getD i 0 : Nat) : Int) := by
 rw [gd_nat (by rw [cI_len]; exact hi), getD_of hi]; simp [cI]
theorem cl_L6 (hW : W ≤ 1000) (hF : ∀ a b, F a b = true → b < W) (h : LInv F W S0 line n) (hn : n < line.length) :
    spec_l22Closed_L6 fuel (matF F W, cI line, (n : Int), 0) = some (matF F W, cI ((List.range W).foldl (addF F (line.getD n 0)) line), (n : Int)) := by
  have hm : line.getD n 0 ∈ line := by rw [getD_of hn]; exact List.getElem_mem hn
  have haW := h.lt _ hm
  have := forS W (fun f (o : List Int) i => spec_l22Closed_L6 f (matF F W, o, (n : Int), i)) (fun i => cI ((List.range i).foldl (addF F (line.getD n 0)) line)) (r := some (matF F W, cI ((List.range W).foldl (addF F (line.getD n 0)) line), (n : Int))) (fun f i hi => ?_) (fun f => ?_) (n := fuel) (by unfold fuel; omega)
  · exact this
  · obtain ⟨r, e⟩ := foldA_pre (F := F) (a := line.getD n 0) (List.range i) line
    have hi2 := foldA_inv (n := n) (a := line.getD n 0) hF (.inr trivial) (List.range i) line h hm
    have hlen := nodup_len W _ hi2.nd hi2.lt
    have hnl : n < ((List.range i).foldl (addF F (line.getD n 0)) line).length := by rw [e]; simp; omega
    have hnc : n < (cI ((List.range i).foldl (addF F (line.getD n 0)) line)).length := by rw [cI_len]; exact hnl
    have hg : gd (cI ((List.range i).foldl (addF F (line.getD n 0)) line)) (n : Int) 0 = ((line.getD n 0 : Nat) : Int) := by
      rw [cI_gd hnl, e, getD_of (by simp; omega), getD_of hn, List.getElem_append_left hn]
    obtain ⟨m1, m2⟩ := mat_get (F := F) haW hi
    have hhas := spec_l1Has_ok (l := cI ((List.range i).foldl (addF F (line.getD n 0)) line)) (x := (i : Int)) (by rw [cI_len]; omega)
    have hdec : decide ((i : Int) ∈ cI ((List.range i).foldl (addF F (line.getD n 0)) line)) = decide (i ∈ (List.range i).foldl (addF F (line.getD n 0)) line) := by rw [decide_eq_decide]; exact cI_mem
    rw [hdec] at hhas
    have hstep : (List.range (i + 1)).foldl (addF F (line.getD n 0)) line = addF F (line.getD n 0) ((List.range i).foldl (addF F (line.getD n 0)) line) i := by rw [List.range_succ, List.foldl_append]; rfl
    simp only [spec_l22Closed_L6, mat_len, inb_nat, hnc, hg, haW, m1, m2, if_true, hhas, Option.bind_some, hstep, w64_succ (show i < 4611686018427387904 by omega)]
    rw [if_pos (by rw [decide_eq_true_eq]; omega)]
    generalize (List.range i).foldl (addF F (line.getD n 0)) line = L at *
    have hadd : addF F (line.getD n 0) L i = if F (line.getD n 0) i && !decide (i ∈ L) then L ++ [i] else L := rfl
    rw [hadd]
    cases hf : F (line.getD n 0) i with
    | false => simp
    | true =>
      by_cases hc : i ∈ L
      · simp [hc]
      · rw [if_pos rfl, if_pos (by simp [hc]), if_pos (by rw [cI_len, List.length_singleton]; unfold lim; omega), if_pos (by simp [hc])]
        simp [cI]
  · simp only [spec_l22Closed_L6, mat_len]
    rw [if_neg (by simp)]
theorem cl_L3 (hW : W ≤ 1000) (hF : ∀ a b, F a b = true → b < W) : ∀ (d f n : Nat) (line : List Nat), n + d = W → d < f → LInv F W S0 line n →
    ∃ out, spec_l22Closed_L3 f (matF F W, cI line, (n : Int)) = some (cI out) ∧ LInv F W S0 out out.length
  | d, f, n, line, hd, hf, h => by
    obtain ⟨f, rfl⟩ := Nat.exists_eq_add_of_le' (show 1 ≤ f by omega)
    have hlen := nodup_len W _ h.nd h.lt
    have hle := h.le
    by_cases hn : n < line.length
    · obtain ⟨d, rfl⟩ := Nat.exists_eq_add_of_le' (show 1 ≤ d by omega)
      have hm : line.getD n 0 ∈ line := by rw [getD_of hn]; exact List.getElem_mem hn
      have h2 := foldA_inv (n := n) (a := line.getD n 0) hF (.inr trivial) (List.range W) line h hm
      obtain ⟨r, e⟩ := foldA_pre (F := F) (a := line.getD n 0) (List.range W) line
      have h3 : LInv F W S0 ((List.range W).foldl (addF F (line.getD n 0)) line) (n + 1) := by
        refine ⟨by rw [e]; simp; omega, h2.nd, h2.lt, h2.sub, fun i hi b hb => ?_, h2.least⟩
        by_cases hi' : i < n
        · exact h2.done i hi' b hb
        · have : i = n := by omega
          subst this
          have hg : ((List.range W).foldl (addF F (line.getD i 0)) line).getD i 0 = line.getD i 0 := by
            rw [e, getD_of (by simp; omega), getD_of hn, List.getElem_append_left hn]
          rw [hg] at hb
          exact foldA_all _ _ b (List.mem_range.2 (hF _ _ hb)) hb
      obtain ⟨out, e1, h4⟩ := cl_L3 hW hF d f (n + 1) _ (by omega) (by omega) h3
      refine ⟨out, ?_, h4⟩
      simp only [spec_l22Closed_L3, cI_len, cl_L6 hW hF h hn, Option.bind_some, w64_succ (show n < 4611686018427387904 by omega)]
      rw [if_pos (by rw [decide_eq_true_eq]; omega)]
      exact e1
    · refine ⟨line, ?_, ?_⟩
      · simp only [spec_l22Closed_L3, cI_len]
        rw [if_neg (by rw [decide_eq_true_eq]; omega)]
      · have : n = line.length := by omega
        rw [← this]; exact h
end
end T
open Go Go.Va
namespace T
section
variable {F : Nat → Nat → Bool} {W V : Nat} {S0 line T taken : List Nat} {n a : Nat} {t t0 : List Int}
theorem negL_w (a : Nat) (h : a < 4000) : w64 ((w64 ((w64 ((w64 (Int.tdiv (a : Int) 2)) * 2)) + 1)) - (Int.tmod (a : Int) 2)) = ((negL a : Nat) : Int) := by
 have e1 : Int.tdiv (a : Int) 2 = ((a / 2 : Nat) : Int) := by rw [Int.tdiv_eq_ediv_of_nonneg (by omega)]; rfl
 have e2 : Int.tmod (a : Int) 2 = ((a % 2 : Nat) : Int) := by rw [Int.tmod_eq_emod_of_nonneg (by omega)]; rfl
 have e3 : w64 ((a / 2 : Nat) : Int) = ((a / 2 : Nat) : Int) := by rw [w64_def]; omega
 have e4 : w64 (((a / 2 : Nat) : Int) * 2) = ((a / 2 * 2 : Nat) : Int) := by rw [w64_def]; omega
 have e5 : w64 (((a / 2 * 2 : Nat) : Int) + 1) = ((a / 2 * 2 + 1 : Nat) : Int) := by rw [w64_def]; omega
 rw [e1, e2, e3, e4, e5, w64_def]
 unfold negL
 omega
def conB2 (l : List Nat) : Bool := l.all fun x => !decide (negL x ∈ l)
theorem conB2_iff {l : List Nat} : conB2 l = true ↔ ∀ x ∈ l, negL x ∉ l := by
 unfold conB2
 simp only [List.all_eq_true, Bool.not_eq_true', decide_eq_false_iff_not]
theorem cl_L11 {l : List Nat} (hl : l.length ≤ 1000) (hv : ∀ x ∈ l, x < 4000) : spec_l22Closed_L11 fuel (cI l, 0) = some (if conB2 l then .inl (cI l) else .inr (cI l, false)) := by
 have := allX l (fun f i => spec_l22Closed_L11 f (cI l, i)) (fun x => !decide (negL x ∈ l)) (.inr (cI l, false)) (.inl (cI l)) ?_ ?_ (n := fuel) (by unfold fuel; omega)
 ·exact this
 ·intro f i hi
  have hic : i < (cI l).length := by rw [cI_len]; exact hi
  have hg : gd (cI l) (i : Int) 0 = ((l[i] : Nat) : Int) := by rw [cI_gd hi, getD_of hi]
  have hw := negL_w l[i] (hv _ (List.getElem_mem hi))
  have hhas := spec_l1Has_ok (l := cI l) (x := ((negL l[i] : Nat) : Int)) (by rw [cI_len]; omega)
  have hdec : decide (((negL l[i] : Nat) : Int) ∈ cI l) = decide (negL l[i] ∈ l) := by rw [decide_eq_decide]; exact cI_mem
  rw [hdec] at hhas
  have h20 : (2 : Int) ≠ 0 := by decide
  simp only [spec_l22Closed_L11, inb_nat, hic, hg, hw, hhas, Option.bind_some, if_true, w64_succ (show i < 4611686018427387904 by omega)]
  rw [if_pos (by rw [decide_eq_true_eq, cI_len]; omega), if_pos h20, if_pos h20]
  by_cases hc : negL l[i] ∈ l <;> simp [hc]
 ·intro f
  simp only [spec_l22Closed_L11, cI_len]
  rw [if_neg (by simp)]
theorem Closed_ok (hW : W ≤ 1000) (hF : ∀ a b, F a b = true → b < W) (hn : S0.Nodup) (hlt : ∀ x ∈ S0, x < W) :
    ∃ out, spec_l22Closed (matF F W) (cI S0) = some (cI out, conB2 out) ∧ LInv F W S0 out out.length := by
  have hl := nodup_len W _ hn hlt
  obtain ⟨out, e1, h⟩ := cl_L3 (S0 := S0) hW hF W fuel 0 S0 (by omega) (by unfold fuel; omega) ⟨Nat.zero_le _, hn, hlt, fun x h => h, fun i hi => by omega, fun P p1 _ => p1⟩
  have hl2 := nodup_len W _ h.nd h.lt
  have e2 := cl_L11 (l := out) (by omega) (fun x hx => by have := h.lt x hx; omega)
  have e0 := spec_l1Own_ok (l := cI S0) (by rw [cI_len]; omega)
  have e1 : spec_l22Closed_L3 fuel (matF F W, cI S0, 0) = some (cI out) := e1
  refine ⟨out, ?_, h⟩
  unfold spec_l22Closed
  simp only [e0, e1, e2, Option.bind_some]
  cases conB2 out <;> rfl
def lit (t : List Int) (l : Nat) : Prop := t.getD (l / 2) 0 = ((l % 2 : Nat) : Int)
structure SolF (F : Nat → Nat → Bool) (V : Nat) (t : List Int) : Prop where
 len : t.length = V
 bin : ∀ u, u < V → t.getD u 0 = 0 ∨ t.getD u 0 = 1
 imp : ∀ a b, F a b = true → lit t a → lit t b
structure FirstF (F : Nat → Nat → Bool) (V : Nat) (t0 : List Int) : Prop where
 sol : SolF F V t0
 first : ∀ t, SolF F V t → ∀ v, v < V → t.take v = t0.take v → t0.getD v 0 ≤ t.getD v 0
structure GoodL (F : Nat → Nat → Bool) (W v : Nat) (T : List Nat) : Prop where
 nd : T.Nodup
 lt : ∀ x ∈ T, x < W
 cl : ∀ a ∈ T, ∀ b, F a b = true → b ∈ T
 con : ∀ x ∈ T, negL x ∉ T
 dec : ∀ u, u < v → 2 * u ∈ T ∨ 2 * u + 1 ∈ T
theorem goodL_of (h : LInv F W S0 line line.length) (hc : conB2 line = true) {v : Nat} (hd : ∀ u, u < v → 2 * u ∈ S0 ∨ 2 * u + 1 ∈ S0) : GoodL F W v line :=
 ⟨h.nd, h.lt, fun a ha b hb => by
  obtain ⟨i, hi, rfl⟩ := List.mem_iff_getElem.1 ha
  exact h.done i hi b (by rw [getD_of hi]; exact hb), conB2_iff.1 hc, fun u hu => (hd u hu).imp (h.sub _) (h.sub _)⟩
def mixA (V : Nat) (T : List Nat) (t0 : List Int) : List Int := (List.range V).map fun u => if 2 * u ∈ T then 0 else if 2 * u + 1 ∈ T then 1 else t0.getD u 0
theorem mixA_get {u : Nat} (hu : u < V) : (mixA V T t0).getD u 0 = if 2 * u ∈ T then 0 else if 2 * u + 1 ∈ T then 1 else t0.getD u 0 := by
 rw [getD_of (by simp [mixA]; exact hu)]; simp [mixA]
theorem lit_mix (hc : ∀ x ∈ T, negL x ∉ T) {a : Nat} (ha : a < 2 * V) : lit (mixA V T t0) a ↔ a ∈ T ∨ (negL a ∉ T ∧ lit t0 a) := by
 unfold lit
 rw [mixA_get (by omega)]
 have h2 : a % 2 = 0 ∨ a % 2 = 1 := by omega
 rcases h2 with h2 | h2
 ·have e1 : 2 * (a / 2) = a := by omega
  have e2 : 2 * (a / 2) + 1 = negL a := by unfold negL; omega
  rw [e2, e1, h2]
  by_cases c1 : a ∈ T
  ·simp [c1]
  ·by_cases c2 : negL a ∈ T
   ·simp [c1, c2]
   ·simp [c1, c2]
 ·have e1 : 2 * (a / 2) = negL a := by unfold negL; omega
  have e2 : 2 * (a / 2) + 1 = a := by omega
  rw [e2, e1, h2]
  by_cases c1 : a ∈ T
  ·have := hc a c1
   simp [c1, this]
  ·by_cases c2 : negL a ∈ T
   ·simp [c1, c2]
   ·simp [c1, c2]
theorem mix_sol (hF : ∀ a b, F a b = true → a < 2 * V ∧ b < 2 * V ∧ F (negL b) (negL a) = true) {v : Nat} (h : GoodL F W v T) (h0 : SolF F V t0) : SolF F V (mixA V T t0) := by
 refine ⟨by simp [mixA], fun u hu => ?_, fun a b hf ha => ?_⟩
 ·rw [mixA_get hu]
  split
  ·exact .inl rfl
  ·split
   ·exact .inr rfl
   ·exact h0.bin u hu
 ·obtain ⟨ha2, hb2, hn⟩ := hF a b hf
  rw [lit_mix h.con hb2]
  rcases (lit_mix h.con ha2).1 ha with h1 | ⟨h1, h2⟩
  ·exact .inl (h.cl a h1 b hf)
  ·by_cases hb : negL b ∈ T
   ·exact absurd (h.cl _ hb _ hn) h1
   ·exact .inr ⟨hb, h0.imp a b hf h2⟩
theorem good_sol (hF : ∀ a b, F a b = true → a < 2 * V ∧ b < 2 * V ∧ F (negL b) (negL a) = true) (h : GoodL F W V T) : SolF F V ((List.range V).map fun u => if 2 * u + 1 ∈ T then (1 : Int) else 0) := by
 have hg : ∀ u, u < V → ((List.range V).map fun u => if 2 * u + 1 ∈ T then (1 : Int) else 0).getD u 0 = if 2 * u + 1 ∈ T then 1 else 0 := fun u hu => by
  rw [getD_of (by simpa using hu)]; simp
 have hlit : ∀ a, a < 2 * V → (lit ((List.range V).map fun u => if 2 * u + 1 ∈ T then (1 : Int) else 0) a ↔ a ∈ T) := fun a ha => by
  unfold lit
  rw [hg _ (by omega)]
  have hd := h.dec (a / 2) (by omega)
  have h2 : a % 2 = 0 ∨ a % 2 = 1 := by omega
  rcases h2 with h2 | h2
  ·have e1 : 2 * (a / 2) = a := by omega
   have e2 : 2 * (a / 2) + 1 = negL a := by unfold negL; omega
   rw [e2, e1] at hd
   rw [e2, h2]
   by_cases c1 : a ∈ T
   ·have := h.con a c1
    simp [c1, this]
   ·have := hd.resolve_left c1
    simp [c1, this]
  ·have e2 : 2 * (a / 2) + 1 = a := by omega
   rw [e2, h2]
   by_cases c1 : a ∈ T <;> simp [c1]
 refine ⟨by simp, fun u hu => ?_, fun a b hf ha => ?_⟩
 ·rw [hg u hu]
  split
  ·exact .inr rfl
  ·exact .inl rfl
 ·obtain ⟨ha2, hb2, _⟩ := hF a b hf
  exact (hlit b hb2).2 (h.cl a ((hlit a ha2).1 ha) b hf)
theorem first_zero (hF : ∀ a b, F a b = true → a < 2 * V ∧ b < 2 * V ∧ F (negL b) (negL a) = true) {v : Nat} (hv : v < V) (h : GoodL F W v T) (h2 : 2 * v ∈ T) (hf : FirstF F V t0) (hd : ∀ u, u < v → (2 * u ∈ T ∧ lit t0 (2 * u)) ∨ (2 * u + 1 ∈ T ∧ lit t0 (2 * u + 1))) : lit t0 (2 * v) := by
 have hm := mix_sol hF h hf.sol
 have hl := hf.sol.len
 have htake : (mixA V T t0).take v = t0.take v := by
  refine List.ext_getElem (by simp [mixA]; omega) fun u h1 h3 => ?_
  have hu : u < v := by simp at h3; omega
  rw [List.getElem_take, List.getElem_take]
  have e1 := mixA_get (V := V) (T := T) (t0 := t0) (show u < V by omega)
  rw [getD_of (by simp [mixA]; omega)] at e1
  rw [e1]
  have e0 : t0.getD u 0 = t0[u]'(by omega) := getD_of (by omega)
  rcases hd u hu with ⟨c1, c2⟩ | ⟨c1, c2⟩
  ·rw [if_pos c1, ← e0]
   unfold lit at c2
   rw [show 2 * u / 2 = u by omega, show 2 * u % 2 = 0 by omega] at c2
   rw [c2]; rfl
  ·have c3 : 2 * u ∉ T := by have := h.con _ c1; unfold negL at this; rwa [show (2 * u + 1) / 2 * 2 + 1 - (2 * u + 1) % 2 = 2 * u by omega] at this
   rw [if_neg c3, if_pos c1, ← e0]
   unfold lit at c2
   rw [show (2 * u + 1) / 2 = u by omega, show (2 * u + 1) % 2 = 1 by omega] at c2
   rw [c2]; rfl
 have := hf.first _ hm v hv htake
 rw [mixA_get hv, if_pos h2] at this
 unfold lit
 rw [show 2 * v / 2 = v by omega, show 2 * v % 2 = 0 by omega]
 rcases hf.sol.bin v hv with h4 | h4
 ·rw [h4]; rfl
 ·omega
end
end T
open Go Go.Va
namespace T
section
variable {F : Nat → Nat → Bool} {V : Nat} {T taken : List Nat} {t t0 : List Int}
theorem lit0 {v : Nat} : lit t (2 * v) ↔ t.getD v 0 = 0 := by
 unfold lit
 rw [show 2 * v / 2 = v by omega, show 2 * v % 2 = 0 by omega]; rfl
theorem lit1 {v : Nat} : lit t (2 * v + 1) ↔ t.getD v 0 = 1 := by
 unfold lit
 rw [show (2 * v + 1) / 2 = v by omega, show (2 * v + 1) % 2 = 1 by omega]; rfl
theorem lit_con {out : List Nat} (hV : ∀ x ∈ out, x < 2 * V) (h : ∀ l ∈ out, lit t l) (hb : ∀ u, u < V → t.getD u 0 = 0 ∨ t.getD u 0 = 1) : conB2 out = true := by
 rw [conB2_iff]
 intro x hx hn
 have h1 := h x hx
 have h2 := h _ hn
 unfold lit negL at *
 have e1 : (x / 2 * 2 + 1 - x % 2) / 2 = x / 2 := by omega
 have e2 : (x / 2 * 2 + 1 - x % 2) % 2 = 1 - x % 2 := by omega
 rw [e1, e2] at h2
 omega
theorem own_add {l : List Nat} {x : Nat} : cI l ++ [((x : Nat) : Int)] = cI (l ++ [x]) := by simp [cI]
theorem pa_L8 (hV : V ≤ 9) (hF : ∀ a b, F a b = true → a < 2 * V ∧ b < 2 * V ∧ F (negL b) (negL a) = true) (n : Int) (cs : List Con) : ∀ (d f v : Nat) (taken : List Nat), v + d = V → d < f → GoodL F (2 * V) v taken →
    ∃ r, spec_l22Pairs_L8 f (((V : Int), (n, cs)), matF F (2 * V), cI taken, (v : Int)) = some r ∧
      ((r = .inr ([], false) ∧ ∀ t0, FirstF F V t0 → ¬ ∀ l ∈ taken, lit t0 l) ∨
        ∃ T, r = .inl (((V : Int), (n, cs)), cI T) ∧ GoodL F (2 * V) V T ∧ ∀ t0, FirstF F V t0 → (∀ l ∈ taken, lit t0 l) → ∀ l ∈ T, lit t0 l)
  | 0, f, v, taken, hd, hf, hg => by
    obtain ⟨f, rfl⟩ := Nat.exists_eq_add_of_le' (show 1 ≤ f by omega)
    have hv : v = V := by omega
    subst hv
    refine ⟨.inl (((v : Int), (n, cs)), cI taken), ?_, .inr ⟨taken, rfl, hg, fun t0 _ h => h⟩⟩
    simp only [spec_l22Pairs_L8]
    rw [if_neg (by simp)]
  | d + 1, f, v, taken, hd, hf, hg => by
    obtain ⟨f, rfl⟩ := Nat.exists_eq_add_of_le' (show 1 ≤ f by omega)
    have hv : v < V := by omega
    have hlen := nodup_len (2 * V) _ hg.nd hg.lt
    have w1 : w64 (2 * (v : Int)) = ((2 * v : Nat) : Int) := by rw [w64_def]; omega
    have w2 : w64 (((2 * v : Nat) : Int) + 1) = ((2 * v + 1 : Nat) : Int) := by rw [w64_def]; omega
    have hF' : ∀ a b, F a b = true → b < 2 * V := fun a b h => (hF a b h).2.1
    have hh : ∀ x : Nat, spec_l1Has (cI taken) (x : Int) = some (decide (x ∈ taken)) := fun x => by
      rw [spec_l1Has_ok (by rw [cI_len]; omega)]
      congr 1
      rw [decide_eq_decide]; exact cI_mem
    have hown := spec_l1Own_ok (l := cI taken) (by rw [cI_len]; omega)
    have hlim : ∀ x : Int, (cI taken).length + [x].length ≤ lim := fun x => by rw [cI_len, List.length_singleton]; unfold lim; omega
    have hcond : decide ((v : Int) < (V : Int)) = true := by rw [decide_eq_true_eq]; omega
    by_cases c0 : 2 * v ∈ taken
    · obtain ⟨r, e, hr⟩ := pa_L8 hV hF n cs d f (v + 1) taken (by omega) (by omega) ⟨hg.nd, hg.lt, hg.cl, hg.con, fun u hu => by
        by_cases hu' : u < v
        · exact hg.dec u hu'
        · rw [show u = v by omega]; exact .inl c0⟩
      refine ⟨r, ?_, hr⟩
      simp only [spec_l22Pairs_L8, hcond, w1, hh, c0, decide_true, Option.bind_some, if_true, w64_succ (show v < 4611686018427387904 by omega)]
      exact e
    · by_cases c1 : 2 * v + 1 ∈ taken
      · obtain ⟨r, e, hr⟩ := pa_L8 hV hF n cs d f (v + 1) taken (by omega) (by omega) ⟨hg.nd, hg.lt, hg.cl, hg.con, fun u hu => by
          by_cases hu' : u < v
          · exact hg.dec u hu'
          · rw [show u = v by omega]; exact .inr c1⟩
        refine ⟨r, ?_, hr⟩
        simp only [spec_l22Pairs_L8, hcond, w1, w2, hh, c0, c1, decide_true, decide_false, Bool.false_eq_true, if_false, Option.bind_some, if_true, w64_succ (show v < 4611686018427387904 by omega)]
        exact e
      · have nd0 : ∀ x, x ∉ taken → (taken ++ [x]).Nodup := fun x hx => List.nodup_append.2 ⟨hg.nd, by simp, fun y hy z hz => by rw [List.mem_singleton.1 hz]; exact fun e => hx (e ▸ hy)⟩
        have lt0 : ∀ x, x < 2 * V → ∀ y ∈ taken ++ [x], y < 2 * V := fun x hx y hy => by
          rcases List.mem_append.1 hy with hy | hy
          · exact hg.lt y hy
          · rw [List.mem_singleton.1 hy]; exact hx
        obtain ⟨o1, e1, i1⟩ := Closed_ok (F := F) (S0 := taken ++ [2 * v]) (W := 2 * V) (by omega) hF' (nd0 _ c0) (lt0 _ (by omega))
        obtain ⟨o2, e2, i2⟩ := Closed_ok (F := F) (S0 := taken ++ [2 * v + 1]) (W := 2 * V) (by omega) hF' (nd0 _ c1) (lt0 _ (by omega))
        have sub : ∀ {t0 : List Int} {o : List Nat} {x : Nat}, LInv F (2 * V) (taken ++ [x]) o o.length → SolF F V t0 → (∀ l ∈ taken, lit t0 l) → lit t0 x → ∀ l ∈ o, lit t0 l := fun hi hs ht hx =>
          hi.least (lit _) (fun y hy => by
            rcases List.mem_append.1 hy with hy | hy
            · exact ht y hy
            · rw [List.mem_singleton.1 hy]; exact hx) (fun a b h1 h2 => hs.imp a b h2 h1)
        have mem1 : ∀ {o : List Nat} {x : Nat}, LInv F (2 * V) (taken ++ [x]) o o.length → x ∈ o := fun hi => hi.sub _ (by simp)
        cases k1 : conB2 o1 with
        | true =>
          have g1 : GoodL F (2 * V) (v + 1) o1 := by
            have := goodL_of (v := v) i1 k1 fun u hu => (hg.dec u hu).imp (List.mem_append_left _) (List.mem_append_left _)
            refine ⟨this.nd, this.lt, this.cl, this.con, fun u hu => ?_⟩
            by_cases hu' : u < v
            · exact this.dec u hu'
            · rw [show u = v by omega]; exact .inl (mem1 i1)
          have keep : ∀ t0, FirstF F V t0 → (∀ l ∈ taken, lit t0 l) → ∀ l ∈ o1, lit t0 l := fun t0 hf0 ht => by
            refine sub i1 hf0.sol ht (first_zero (v := v) hF hv ⟨g1.nd, g1.lt, g1.cl, g1.con, fun u hu => g1.dec u (by omega)⟩ (mem1 i1) hf0 fun u hu => ?_)
            rcases hg.dec u hu with h5 | h5
            · exact .inl ⟨i1.sub _ (List.mem_append_left _ h5), ht _ h5⟩
            · exact .inr ⟨i1.sub _ (List.mem_append_left _ h5), ht _ h5⟩
          obtain ⟨r, e, hr⟩ := pa_L8 hV hF n cs d f (v + 1) o1 (by omega) (by omega) g1
          refine ⟨r, ?_, ?_⟩
          · rw [k1] at e1
            simp only [spec_l22Pairs_L8, hcond, w1, w2, hh, c0, c1, decide_false, Bool.false_eq_true, if_false, Option.bind_some, if_true, hown, hlim, own_add, e1, Bool.not_true, w64_succ (show v < 4611686018427387904 by omega)]
            exact e
          · rcases hr with ⟨h5, h6⟩ | ⟨T, h5, h6, h7⟩
            · exact .inl ⟨h5, fun t0 hf0 ht => h6 t0 hf0 (keep t0 hf0 ht)⟩
            · exact .inr ⟨T, h5, h6, fun t0 hf0 ht => h7 t0 hf0 (keep t0 hf0 ht)⟩
        | false =>
          have keep : ∀ t0, FirstF F V t0 → (∀ l ∈ taken, lit t0 l) → ∀ l ∈ o2, lit t0 l := fun t0 hf0 ht => by
            refine sub i2 hf0.sol ht (lit1.2 ?_)
            rcases hf0.sol.bin v hv with h5 | h5
            · have h6 := sub i1 hf0.sol ht (lit0.2 h5)
              have := lit_con i1.lt h6 hf0.sol.bin
              rw [k1] at this; simp at this
            · exact h5
          rw [k1] at e1
          cases k2 : conB2 o2 with
          | true =>
            have g2 : GoodL F (2 * V) (v + 1) o2 := by
              have := goodL_of (v := v) i2 k2 fun u hu => (hg.dec u hu).imp (List.mem_append_left _) (List.mem_append_left _)
              refine ⟨this.nd, this.lt, this.cl, this.con, fun u hu => ?_⟩
              by_cases hu' : u < v
              · exact this.dec u hu'
              · rw [show u = v by omega]; exact .inr (mem1 i2)
            obtain ⟨r, e, hr⟩ := pa_L8 hV hF n cs d f (v + 1) o2 (by omega) (by omega) g2
            refine ⟨r, ?_, ?_⟩
            · rw [k2] at e2
              simp only [spec_l22Pairs_L8, hcond, w1, w2, hh, c0, c1, decide_false, Bool.false_eq_true, if_false, Option.bind_some, if_true, hown, hlim, own_add, e1, e2, Bool.not_true, Bool.not_false, w64_succ (show v < 4611686018427387904 by omega)]
              exact e
            · rcases hr with ⟨h5, h6⟩ | ⟨T, h5, h6, h7⟩
              · exact .inl ⟨h5, fun t0 hf0 ht => h6 t0 hf0 (keep t0 hf0 ht)⟩
              · exact .inr ⟨T, h5, h6, fun t0 hf0 ht => h7 t0 hf0 (keep t0 hf0 ht)⟩
          | false =>
            refine ⟨.inr ([], false), ?_, .inl ⟨rfl, fun t0 hf0 ht => ?_⟩⟩
            · rw [k2] at e2
              simp only [spec_l22Pairs_L8, hcond, w1, w2, hh, c0, c1, decide_false, Bool.false_eq_true, if_false, Option.bind_some, if_true, hown, hlim, own_add, e1, e2, Bool.not_false]
            · have := lit_con i2.lt (keep t0 hf0 ht) hf0.sol.bin
              rw [k2] at this; simp at this
theorem pa_L19 (hV : V ≤ 9) (hl : T.length ≤ 1000) (n : Int) (cs : List Con) : spec_l22Pairs_L19 fuel (((V : Int), (n, cs)), cI T, [], 0) = some ((List.range V).map fun u => if 2 * u + 1 ∈ T then (1 : Int) else 0) := by
 have := forS V (fun f (o : List Int) v => spec_l22Pairs_L19 f (((V : Int), (n, cs)), cI T, o, v)) (fun v => (List.range v).map fun u => if 2 * u + 1 ∈ T then (1 : Int) else 0) (r := some ((List.range V).map fun u => if 2 * u + 1 ∈ T then (1 : Int) else 0)) (fun f v hv => ?_) (fun f => ?_) (n := fuel) (by unfold fuel; omega)
 ·exact this
 ·have w1 : w64 (2 * (v : Int)) = ((2 * v : Nat) : Int) := by rw [w64_def]; omega
  have w2 : w64 (((2 * v : Nat) : Int) + 1) = ((2 * v + 1 : Nat) : Int) := by rw [w64_def]; omega
  have hh : spec_l1Has (cI T) ((2 * v + 1 : Nat) : Int) = some (decide (2 * v + 1 ∈ T)) := by
   rw [spec_l1Has_ok (by rw [cI_len]; omega)]
   congr 1
   rw [decide_eq_decide]; exact cI_mem
  simp only [spec_l22Pairs_L19, w1, w2, hh, Option.bind_some, List.range_succ, List.map_append, List.map_cons, List.map_nil, w64_succ (show v < 4611686018427387904 by omega)]
  rw [if_pos (by rw [decide_eq_true_eq]; omega)]
  by_cases hc : 2 * v + 1 ∈ T
  ·rw [if_pos (by simp [hc]), if_pos (by simp; unfold lim; omega), if_pos hc]
  ·rw [if_neg (by simp [hc]), if_pos (by simp; unfold lim; omega), if_neg hc]
 ·simp only [spec_l22Pairs_L19]
  rw [if_neg (by simp)]
theorem pa_L2 {n : Int} {cs : List Con} (hl : cs.length ≤ 1000) : spec_l22Pairs_L2 fuel (((V : Int), (n, cs)), 0) = some (if cs.all fun c => !decide (c.2.2.length = 0) then .inl ((V : Int), (n, cs)) else .inr ([], false)) := by
 have := allX cs (fun f i => spec_l22Pairs_L2 f (((V : Int), (n, cs)), i)) (fun c => !decide (c.2.2.length = 0)) (.inr ([], false)) (.inl ((V : Int), (n, cs))) ?_ ?_ (n := fuel) (by unfold fuel; omega)
 ·exact this
 ·intro f i hi
  simp only [spec_l22Pairs_L2, inb_nat, hi, gd_nat hi, if_true, w64_succ (show i < 4611686018427387904 by omega)]
  rw [if_pos (by rw [decide_eq_true_eq]; omega)]
  by_cases hc : cs[i].2.2.length = 0
  ·rw [if_pos (by simp [hc])]; simp [hc]
  ·rw [if_neg (by simpa using fun h => hc (by rw [h]; rfl))]; simp [hc]
 ·intro f
  simp only [spec_l22Pairs_L2]
  rw [if_neg (by simp)]
theorem Pairs_ok (hV : V ≤ 9) (hF : ∀ a b, F a b = true → a < 2 * V ∧ b < 2 * V ∧ F (negL b) (negL a) = true) {n : Int} {cs : List Con} (hl : cs.length ≤ 1000) (hM : spec_l22Follows ((V : Int), (n, cs)) = some (matF F (2 * V)))
    (hne : (cs.all fun c => !decide (c.2.2.length = 0)) = true) :
    ∃ r, spec_l22Pairs ((V : Int), (n, cs)) = some r ∧ ((∃ t0, FirstF F V t0) → ∀ t0, FirstF F V t0 → r = (t0, true)) ∧ ((¬ ∃ t, SolF F V t) → r = ([], false)) := by
  obtain ⟨r, e, hr⟩ := pa_L8 hV hF n cs V fuel 0 [] (by omega) (by unfold fuel; omega) ⟨by simp, by simp, by simp, by simp, fun u hu => by omega⟩
  have e : spec_l22Pairs_L8 fuel (((V : Int), (n, cs)), matF F (2 * V), [], 0) = some r := e
  unfold spec_l22Pairs
  have h2 := pa_L2 (V := V) (n := n) hl
  rw [hne, if_pos rfl] at h2
  simp only [h2, Option.bind_some, hM, e]
  rcases hr with ⟨rfl, h6⟩ | ⟨T, rfl, h6, h7⟩
  · refine ⟨_, rfl, fun ⟨t0, h⟩ => absurd (by simp) (h6 t0 h), fun _ => rfl⟩
  · have h19 := pa_L19 (T := T) hV (by have := nodup_len _ _ h6.nd h6.lt; omega) n cs
    simp only [h19, Option.bind_some]
    refine ⟨_, rfl, fun _ t0 hf0 => ?_, fun h => absurd ⟨_, good_sol hF h6⟩ h⟩
    have ht := h7 t0 hf0 (by simp)
    have : ((List.range V).map fun u => if 2 * u + 1 ∈ T then (1 : Int) else 0) = t0 := by
      have hl0 := hf0.sol.len
      refine List.ext_getElem (by simp [hl0]) fun u h1 h2 => ?_
      have hu : u < V := by omega
      have e0 : t0.getD u 0 = t0[u] := getD_of h2
      simp only [List.getElem_map, List.getElem_range]
      rw [← e0]
      rcases h6.dec u hu with hd | hd
      · have h3 := lit0.1 (ht _ hd)
        have c3 : 2 * u + 1 ∉ T := by have := h6.con _ hd; unfold negL at this; rwa [show 2 * u / 2 * 2 + 1 - 2 * u % 2 = 2 * u + 1 by omega] at this
        rw [if_neg c3, h3]
      · rw [if_pos hd, lit1.1 (ht _ hd)]
    rw [this]
end
end T
open Go Go.Va
namespace T
section
variable {V : Nat} {c : Con} {cs : List Con}
def hasP (c : Con) (i j p q : Nat) : Bool := decide ([(p : Int), (q : Int)] ∈ c.2.2.map (twoT i j))
def fo1 (c : Con) (i j a b x : Nat) : Bool := !hasP c i j (x / 2) (x % 2) && decide (2 * (c.1.getD i 0).toNat + x / 2 = a ∧ 2 * (c.1.getD j 0).toNat + 1 - x % 2 = b)
def foJ (c : Con) (i a b j : Nat) : Bool := (List.range 4).any (fo1 c i j a b)
def foI (c : Con) (a b i : Nat) : Bool := (List.range c.1.length).any (foJ c i a b)
def foC (a b : Nat) (c : Con) : Bool := (List.range c.1.length).any (foI c a b)
def foA (cs : List Con) (a b : Nat) : Bool := cs.any (foC a b)
theorem two_has {v : Int} (h : ConOk v 2 c) {p q : Nat} (hp : p < c.1.length) (hq : q < c.1.length) (x y : Int) : spec_l13Has (twoC c p q).2 [x, y] = some (decide ([x, y] ∈ c.2.2.map (twoT p q))) := by
 have hm := h.many
 have hle := setL_le (c.2.2.map (twoT p q))
 rw [List.length_map] at hle
 have ho : ROk 2 2 (twoC c p q).2 := by
  refine ⟨rfl, by omega, fun t ht => ?_, fun t ht z hz => ?_, by show (setL (c.2.2.map (twoT p q))).length ≤ 64; omega, setL_inc _⟩
  ·have ht : t ∈ setL (c.2.2.map (twoT p q)) := ht
   obtain ⟨s, _, rfl⟩ := List.mem_map.1 (setL_mem.1 ht); rfl
  ·have ht : t ∈ setL (c.2.2.map (twoT p q)) := ht
   obtain ⟨s, hs, rfl⟩ := List.mem_map.1 (setL_mem.1 ht)
   have hl := h.tl s hs
   unfold twoT at hz
   rw [getD_of (show p < s.length by omega), getD_of (show q < s.length by omega)] at hz
   rcases List.mem_cons.1 hz with rfl | hz
   ·exact h.tv s hs p (by omega)
   ·rw [List.mem_singleton.1 hz]; exact h.tv s hs q (by omega)
 rw [spec_l13Has_ok ho rfl]
 congr 1
 rw [decide_eq_decide]
 exact setL_mem
theorem mat_set {G : Nat → Nat → Bool} {W a b : Nat} (ha : a < W) (hb : b < W) : stt (matF G W) (a : Int) (stt (gd (matF G W) (a : Int) []) (b : Int) true) = matF (fun x y => G x y || decide (a = x ∧ b = y)) W := by
 rw [mat_row ha, stt_nat, stt_nat]
 refine List.ext_getElem (by simp [matF]) fun x h1 h2 => ?_
 have hx : x < W := by simpa [matF] using h2
 rw [List.getElem_set]
 by_cases e : a = x
 ·subst e
  rw [if_pos rfl]
  simp only [matF, List.getElem_map, List.getElem_range]
  refine List.ext_getElem (by simp) fun y h3 h4 => ?_
  rw [List.getElem_set]
  by_cases e' : b = y
  ·subst e'; simp
  ·simp [e']
 ·rw [if_neg e]
  simp only [matF, List.getElem_map, List.getElem_range]
  refine List.map_congr_left fun y _ => by simp [e]
theorem any_succ {p : Nat → Bool} {k : Nat} : (List.range (k + 1)).any p = ((List.range k).any p || p k) := by
 rw [List.range_succ, List.any_append]; simp
theorem fo_L18 (hV : V ≤ 9) (h : ConOk (V : Int) 2 c) {i j : Nat} (hi : i < c.1.length) (hj : j < c.1.length) (N : Net) (t5 : Int) (G : Nat → Nat → Bool) :
    spec_l22Follows_L18 fuel (N, matF G (2 * V), t5, c, (i : Int), (j : Int), (twoC c i j).2, 0) = some (N, matF (fun a b => G a b || foJ c i a b j) (2 * V), t5, c, (i : Int), (j : Int)) := by
  have hsi := h.sv i hi
  have hsj := h.sv j hj
  obtain ⟨s, es, hs⟩ : ∃ s : Nat, c.1.getD i 0 = (s : Int) ∧ s < V := ⟨c.1[i].toNat, by rw [getD_of hi]; omega, by omega⟩
  obtain ⟨u, eu, hu⟩ : ∃ u : Nat, c.1.getD j 0 = (u : Int) ∧ u < V := ⟨c.1[j].toNat, by rw [getD_of hj]; omega, by omega⟩
  have := forS 4 (fun f (M : List (List Bool)) x => spec_l22Follows_L18 f (N, M, t5, c, (i : Int), (j : Int), (twoC c i j).2, x)) (fun k => matF (fun a b => G a b || (List.range k).any (fo1 c i j a b)) (2 * V)) (r := some (N, matF (fun a b => G a b || foJ c i a b j) (2 * V), t5, c, (i : Int), (j : Int))) (fun f x hx => ?_) (fun f => ?_) (n := fuel) (by unfold fuel; omega)
  · have e0 : (fun a b => G a b || (List.range 0).any (fo1 c i j a b)) = G := by funext a b; simp
    rw [e0] at this
    exact this
  · have d1 : Int.tdiv (x : Int) 2 = ((x / 2 : Nat) : Int) := by rw [Int.tdiv_eq_ediv_of_nonneg (by omega)]; rfl
    have d2 : Int.tmod (x : Int) 2 = ((x % 2 : Nat) : Int) := by rw [Int.tmod_eq_emod_of_nonneg (by omega)]; rfl
    have w0 : w64 ((x / 2 : Nat) : Int) = ((x / 2 : Nat) : Int) := by rw [w64_def]; omega
    have q1 : x / 2 < 2 := by omega
    have q2 : x % 2 < 2 := by omega
    have w1 : w64 (w64 (2 * (s : Int)) + ((x / 2 : Nat) : Int)) = ((2 * s + x / 2 : Nat) : Int) := by
      generalize x / 2 = z at q1
      have a1 : w64 (2 * (s : Int)) = 2 * (s : Int) := w64_id (by omega) (by omega)
      rw [a1, w64_id (by omega) (by omega)]; omega
    have w2 : w64 (w64 (w64 (2 * (u : Int)) + 1) - ((x % 2 : Nat) : Int)) = ((2 * u + 1 - x % 2 : Nat) : Int) := by
      generalize x % 2 = z at q2
      have a1 : w64 (2 * (u : Int)) = 2 * (u : Int) := w64_id (by omega) (by omega)
      have a2 : w64 (2 * (u : Int) + 1) = 2 * (u : Int) + 1 := w64_id (by omega) (by omega)
      rw [a1, a2, w64_id (by omega) (by omega)]; omega
    have ha : 2 * s + x / 2 < 2 * V := by omega
    have hb : 2 * u + 1 - x % 2 < 2 * V := by omega
    have hhas := two_has h hi hj ((x / 2 : Nat) : Int) ((x % 2 : Nat) : Int)
    have hhas : spec_l13Has ((twoC c i j).2.1, (twoC c i j).2.2) [((x / 2 : Nat) : Int), ((x % 2 : Nat) : Int)] = some (hasP c i j (x / 2) (x % 2)) := hhas
    have h20 : (2 : Int) ≠ 0 := by decide
    obtain ⟨m1, _⟩ := mat_get (F := fun a b => G a b || (List.range x).any (fo1 c i j a b)) ha hb
    have hset := mat_set (G := fun a b => G a b || (List.range x).any (fo1 c i j a b)) ha hb
    have hgi : gd c.1 (i : Int) 0 = (s : Int) := es
    have hgj : gd c.1 (j : Int) 0 = (u : Int) := eu
    simp only [spec_l22Follows_L18, d1, d2, w0, hhas, Option.bind_some, inb_nat, hi, hj, hgi, hgj, w1, w2, mat_len, ha, m1, hset, if_true, w64_succ (show x < 4611686018427387904 by omega)]
    rw [if_pos (by rw [decide_eq_true_eq]; omega), if_pos h20, if_pos h20]
    have key : ∀ b0 : Bool, hasP c i j (x / 2) (x % 2) = b0 → (fun a b => G a b || (List.range (x + 1)).any (fo1 c i j a b)) = if b0 then (fun a b => G a b || (List.range x).any (fo1 c i j a b)) else (fun a b => (G a b || (List.range x).any (fo1 c i j a b)) || decide (2 * s + x / 2 = a ∧ 2 * u + 1 - x % 2 = b)) := fun b0 hb0 => by
      cases b0 with
      | true => funext a b; simp only [any_succ, fo1, hb0]; simp
      | false =>
        funext a b
        simp only [any_succ, if_false, Bool.false_eq_true]
        have : fo1 c i j a b x = decide (2 * s + x / 2 = a ∧ 2 * u + 1 - x % 2 = b) := by
          unfold fo1; rw [hb0, es, eu]; simp
        rw [this, Bool.or_assoc]
    cases hh : hasP c i j (x / 2) (x % 2) with
    | true => rw [key true hh]; simp
    | false => rw [key false hh]; simp [h20]
  · simp only [spec_l22Follows_L18]
    rw [if_neg (by simp)]; rfl
theorem fo_L14 (hV : V ≤ 9) (h : ConOk (V : Int) 2 c) {i : Nat} (hi : i < c.1.length) (N : Net) (t5 : Int) (G : Nat → Nat → Bool) :
    spec_l22Follows_L14 fuel (N, matF G (2 * V), t5, c, (i : Int), 0) = some (N, matF (fun a b => G a b || foI c a b i) (2 * V), t5, c, (i : Int)) := by
  have har := h.ar
  have hsl := h.sl
  have := forS c.1.length (fun f (M : List (List Bool)) j => spec_l22Follows_L14 f (N, M, t5, c, (i : Int), j)) (fun k => matF (fun a b => G a b || (List.range k).any (foJ c i a b)) (2 * V)) (r := some (N, matF (fun a b => G a b || foI c a b i) (2 * V), t5, c, (i : Int))) (fun f j hj => ?_) (fun f => ?_) (n := fuel) (by unfold fuel; omega)
  · have e0 : (fun a b => G a b || (List.range 0).any (foJ c i a b)) = G := by funext a b; simp
    rw [e0] at this
    exact this
  · have ht : TwoOk c := ⟨by omega, h.tl, h.many⟩
    have e1 := two_put ht hi hj
    have e1 : spec_l13Project (c.2.1, c.2.2) [(i : Int), (j : Int)] = _ := e1
    have e2 := fo_L18 hV h hi hj N t5 (fun a b => G a b || (List.range j).any (foJ c i a b))
    have e2 : spec_l22Follows_L18 fuel ((N.1, (N.2.1, N.2.2)), matF (fun a b => G a b || (List.range j).any (foJ c i a b)) (2 * V), t5, (c.1, (c.2.1, c.2.2)), (i : Int), (j : Int), ((twoC c i j).2.1, (twoC c i j).2.2), 0) = _ := e2
    have e3 : (fun a b => G a b || (List.range (j + 1)).any (foJ c i a b)) = fun a b => (G a b || (List.range j).any (foJ c i a b)) || foJ c i a b j := by funext a b; rw [any_succ, Bool.or_assoc]
    simp only [spec_l22Follows_L14, e1, e2, Option.bind_some, e3, w64_succ (show j < 4611686018427387904 by omega)]
    rw [if_pos (by rw [decide_eq_true_eq]; omega)]
  · simp only [spec_l22Follows_L14]
    rw [if_neg (by simp)]; rfl
theorem fo_L11 (hV : V ≤ 9) (h : ConOk (V : Int) 2 c) (N : Net) (t5 : Int) (G : Nat → Nat → Bool) :
    spec_l22Follows_L11 fuel (N, matF G (2 * V), t5, c, 0) = some (N, matF (fun a b => G a b || foC a b c) (2 * V), t5) := by
  have har := h.ar
  have hsl := h.sl
  have := forS c.1.length (fun f (M : List (List Bool)) i => spec_l22Follows_L11 f (N, M, t5, c, i)) (fun k => matF (fun a b => G a b || (List.range k).any (foI c a b)) (2 * V)) (r := some (N, matF (fun a b => G a b || foC a b c) (2 * V), t5)) (fun f i hi => ?_) (fun f => ?_) (n := fuel) (by unfold fuel; omega)
  · have e0 : (fun a b => G a b || (List.range 0).any (foI c a b)) = G := by funext a b; simp
    rw [e0] at this
    exact this
  · have e2 := fo_L14 hV h hi N t5 (fun a b => G a b || (List.range i).any (foI c a b))
    have e2 : spec_l22Follows_L14 fuel ((N.1, (N.2.1, N.2.2)), matF (fun a b => G a b || (List.range i).any (foI c a b)) (2 * V), t5, (c.1, (c.2.1, c.2.2)), (i : Int), 0) = _ := e2
    have e3 : (fun a b => G a b || (List.range (i + 1)).any (foI c a b)) = fun a b => (G a b || (List.range i).any (foI c a b)) || foI c a b i := by funext a b; rw [any_succ, Bool.or_assoc]
    simp only [spec_l22Follows_L11, e2, Option.bind_some, e3, w64_succ (show i < 4611686018427387904 by omega)]
    rw [if_pos (by rw [decide_eq_true_eq]; omega)]
  · simp only [spec_l22Follows_L11]
    rw [if_neg (by simp)]; rfl
theorem Follows_ok (hV : V ≤ 9) (hl : cs.length ≤ 1000) (h : ∀ c ∈ cs, ConOk (V : Int) 2 c) : spec_l22Follows ((V : Int), ((2 : Int), cs)) = some (matF (foA cs) (2 * V)) := by
 have wV : w64 (2 * (V : Int)) = ((2 * V : Nat) : Int) := by rw [w64_def]; omega
 have h3 := forS (2 * V) (fun f (M : List (List Bool)) i => spec_l22Follows_L3 f (((V : Int), ((2 : Int), cs)), M, i)) (fun k => List.replicate k (List.replicate (2 * V) false)) (r := some (((V : Int), ((2 : Int), cs)), List.replicate (2 * V) (List.replicate (2 * V) false))) (fun f i hi => by
  simp only [spec_l22Follows_L3, wV, Int.toNat_natCast, w64_succ (show i < 4611686018427387904 by omega)]
  rw [if_pos (by rw [decide_eq_true_eq]; omega), if_pos (by unfold lim; omega), if_pos (by rw [List.length_replicate, List.length_singleton]; unfold lim; omega), List.replicate_succ']) (fun f => by
  simp only [spec_l22Follows_L3, wV]
  rw [if_neg (by simp)]) (n := fuel) (by unfold fuel; omega)
 have h3 : spec_l22Follows_L3 fuel (((V : Int), ((2 : Int), cs)), [], 0) = _ := h3
 have hz : List.replicate (2 * V) (List.replicate (2 * V) false) = matF (fun _ _ => false) (2 * V) := by
  refine List.ext_getElem (by simp [matF]) fun x h1 h2 => ?_
  simp only [matF, List.getElem_replicate, List.getElem_map, List.getElem_range]
  refine List.ext_getElem (by simp) fun y h3 h4 => by simp
 have h7 := forS cs.length (fun f (M : List (List Bool)) i => spec_l22Follows_L7 f (((V : Int), ((2 : Int), cs)), M, i)) (fun k => matF (fun a b => (cs.take k).any (foC a b)) (2 * V)) (r := some (matF (foA cs) (2 * V))) (fun f i hi => by
  have e2 := fo_L11 hV (h _ (List.getElem_mem hi)) ((V : Int), ((2 : Int), cs)) (i : Int) (fun a b => (cs.take i).any (foC a b))
  have e2 : spec_l22Follows_L11 fuel (((V : Int), ((2 : Int), cs)), matF (fun a b => (cs.take i).any (foC a b)) (2 * V), (i : Int), (cs[i].1, (cs[i].2.1, cs[i].2.2)), 0) = _ := e2
  have e3 : (fun a b => (cs.take (i + 1)).any (foC a b)) = fun a b => (cs.take i).any (foC a b) || foC a b cs[i] := by
   funext a b; rw [List.take_succ_eq_append_getElem hi, List.any_append]; simp
  simp only [spec_l22Follows_L7, inb_nat, hi, gd_nat hi, if_true, e2, Option.bind_some, e3, w64_succ (show i < 4611686018427387904 by omega)]
  rw [if_pos (by rw [decide_eq_true_eq]; omega)]) (fun f => by
  simp only [spec_l22Follows_L7, List.take_length]
  rw [if_neg (by simp)]; rfl) (n := fuel) (by unfold fuel; omega)
 have e0 : (fun a b => (cs.take 0).any (foC a b)) = fun _ _ => false := by funext a b; simp
 rw [e0] at h7
 have h7 : spec_l22Follows_L7 fuel (((V : Int), ((2 : Int), cs)), matF (fun _ _ => false) (2 * V), 0) = _ := h7
 unfold spec_l22Follows
 simp only [h3, Option.bind_some, hz, h7]
end
end T
open Go Go.Va
namespace T
section
variable {V : Nat} {c : Con} {cs : List Con} {t : List Int}
def majT : List Int := [0, 0, 0, 1, 0, 1, 1, 1]
theorem maj_val {a b c : Nat} (ha : a < 2) (hb : b < 2) (hc : c < 2) : majT.getD ((a * 2 + b) * 2 + c) 0 = if a + b + c < 2 then 0 else 1 := by
 have h1 : a = 0 ∨ a = 1 := by omega
 have h2 : b = 0 ∨ b = 1 := by omega
 have h3 : c = 0 ∨ c = 1 := by omega
 rcases h1 with rfl | rfl <;> rcases h2 with rfl | rfl <;> rcases h3 with rfl | rfl <;> decide
theorem con_rok (h : ConOk (V : Int) 2 c) : ROk 2 c.1.length c.2 := by
 have har := h.ar
 have hsl := h.sl
 exact ⟨by omega, by omega, h.tl, fun t ht x hx => by
  obtain ⟨j, hj, rfl⟩ := List.mem_iff_getElem.1 hx
  exact h.tv t ht j hj, h.many, h.inc⟩
theorem has_iff (h : ConOk (V : Int) 2 c) {i j p q : Nat} (hi : i < c.1.length) (hj : j < c.1.length) : hasP c i j p q = true ↔ ∃ z, z < c.2.2.length ∧ vt c.2.2 z i = p ∧ vt c.2.2 z j = q := by
 have ho := con_rok h
 unfold hasP
 rw [decide_eq_true_eq, List.mem_map]
 constructor
 ·rintro ⟨s, hs, e⟩
  obtain ⟨z, hz, rfl⟩ := List.mem_iff_getElem.1 hs
  obtain ⟨_, v2, _⟩ := ho.vt_lt hz hi
  obtain ⟨_, v4, _⟩ := ho.vt_lt hz hj
  rw [getD_of hz] at v2 v4
  unfold twoT at e
  rw [v2, v4] at e
  simp only [List.cons.injEq, and_true] at e
  exact ⟨z, hz, by omega, by omega⟩
 ·rintro ⟨z, hz, rfl, rfl⟩
  obtain ⟨_, v2, _⟩ := ho.vt_lt hz hi
  obtain ⟨_, v4, _⟩ := ho.vt_lt hz hj
  rw [getD_of hz] at v2 v4
  exact ⟨c.2.2[z], List.getElem_mem hz, by unfold twoT; rw [v2, v4]⟩
theorem row_of (h : ConOk (V : Int) 2 c) {u : List Int} (hl : u.length = c.1.length) {z : Nat} (hz : z < c.2.2.length) (he : ∀ j, j < c.1.length → ((vt c.2.2 z j : Nat) : Int) = u.getD j 0) : u ∈ c.2.2 := by
 have ho := con_rok h
 have hzl := h.tl _ (List.getElem_mem hz)
 have : u = c.2.2[z] := by
  refine List.ext_getElem (by omega) fun j h1 h2 => ?_
  obtain ⟨_, v2, _⟩ := ho.vt_lt hz (show j < c.1.length by omega)
  rw [getD_of hz, getD_of h2] at v2
  have := he j (by omega)
  rw [getD_of h1] at this
  rw [v2, this]
 rw [this]; exact List.getElem_mem hz
theorem decomp (h : ConOk (V : Int) 2 c) (hk : clsB c 5 = true) {u : List Int} (hl : u.length = c.1.length) (hu : ∀ j, j < c.1.length → u.getD j 0 = 0 ∨ u.getD j 0 = 1)
    (hp : ∀ i j, i < c.1.length → j < c.1.length → ∃ z, z < c.2.2.length ∧ ((vt c.2.2 z i : Nat) : Int) = u.getD i 0 ∧ ((vt c.2.2 z j : Nat) : Int) = u.getD j 0) : u ∈ c.2.2 := by
  have ho := con_rok h
  have har := h.ar
  have hsl := h.sl
  have hm : c.1.length = 1 ∨ c.1.length = 2 ∨ c.1.length = 3 := by omega
  rcases hm with hm | hm | hm
  · obtain ⟨z, hz, h1, _⟩ := hp 0 0 (by omega) (by omega)
    exact row_of h hl hz fun j hj => by rw [show j = 0 by omega]; exact h1
  · obtain ⟨z, hz, h1, h2⟩ := hp 0 1 (by omega) (by omega)
    exact row_of h hl hz fun j hj => by
      have : j = 0 ∨ j = 1 := by omega
      rcases this with rfl | rfl
      · exact h1
      · exact h2
  · obtain ⟨z1, hz1, a0, a1⟩ := hp 0 1 (by omega) (by omega)
    obtain ⟨z2, hz2, b0, b2⟩ := hp 0 2 (by omega) (by omega)
    obtain ⟨z3, hz3, d1, d2⟩ := hp 1 2 (by omega) (by omega)
    have hpol : polK 2 3 [c.2] majT = true := by
      unfold polK
      simp only [List.all_cons, List.all_nil, Bool.and_true]
      exact hk
    obtain ⟨z, hz, he⟩ := pol_app ho hpol (ys := [z1, z2, z3]) rfl (by simp [hz1, hz2, hz3])
    refine row_of h hl hz fun j hj => ?_
    have e := he j hj
    obtain ⟨p1, _, _⟩ := ho.vt_lt hz1 hj
    obtain ⟨p2, _, _⟩ := ho.vt_lt hz2 hj
    obtain ⟨p3, _, _⟩ := ho.vt_lt hz3 hj
    obtain ⟨_, v4, _⟩ := ho.vt_lt hz hj
    have ea : atF 2 c.2.2 j [z1, z2, z3] = (vt c.2.2 z1 j * 2 + vt c.2.2 z2 j) * 2 + vt c.2.2 z3 j := by
      unfold atF; simp
    rw [ea, maj_val p1 p2 p3, v4] at e
    have huj := hu j hj
    have h3 : j = 0 ∨ j = 1 ∨ j = 2 := by omega
    rcases h3 with rfl | rfl | rfl
    · rw [← e]
      split <;> omega
    · rw [← e]
      split <;> omega
    · rw [← e]
      split <;> omega
theorem foA_iff {a b : Nat} : foA cs a b = true ↔ ∃ c ∈ cs, ∃ i, i < c.1.length ∧ ∃ j, j < c.1.length ∧ ∃ x, x < 4 ∧ hasP c i j (x / 2) (x % 2) = false ∧ 2 * (c.1.getD i 0).toNat + x / 2 = a ∧ 2 * (c.1.getD j 0).toNat + 1 - x % 2 = b := by
 unfold foA foC foI foJ fo1
 simp only [List.any_eq_true, List.mem_range, Bool.and_eq_true, Bool.not_eq_true', decide_eq_true_eq]
theorem has_swap {i j p q : Nat} : hasP c i j p q = hasP c j i q p := by
 unfold hasP
 rw [decide_eq_decide, List.mem_map, List.mem_map]
 constructor <;> rintro ⟨s, hs, e⟩ <;> refine ⟨s, hs, ?_⟩ <;> unfold twoT at * <;> simp only [List.cons.injEq, and_true] at * <;> exact ⟨e.2, e.1⟩
theorem foA_ok (h : ∀ c ∈ cs, ConOk (V : Int) 2 c) : ∀ a b, foA cs a b = true → a < 2 * V ∧ b < 2 * V ∧ foA cs (negL b) (negL a) = true := fun a b hf => by
 obtain ⟨c, hc, i, hi, j, hj, x, hx, hh, ea, eb⟩ := foA_iff.1 hf
 have ho := h c hc
 have hsi := ho.sv i hi
 have hsj := ho.sv j hj
 rw [getD_of hi] at ea
 rw [getD_of hj] at eb
 refine ⟨by omega, by omega, foA_iff.2 ⟨c, hc, j, hj, i, hi, 2 * (x % 2) + x / 2, by omega, ?_, ?_, ?_⟩⟩
 ·rw [has_swap, show (2 * (x % 2) + x / 2) % 2 = x / 2 by omega, show (2 * (x % 2) + x / 2) / 2 = x % 2 by omega]
  exact hh
 ·rw [getD_of hj]; unfold negL; omega
 ·rw [getD_of hi]; unfold negL; omega
theorem sol_iff (h : ∀ c ∈ cs, ConOk (V : Int) 2 c) (hk : ∀ c ∈ cs, clsB c 5 = true) (hl : t.length = V) (hb : ∀ u, u < V → t.getD u 0 = 0 ∨ t.getD u 0 = 1) : SolF (foA cs) V t ↔ ∀ c ∈ cs, conH t c = true := by
 have hval : ∀ {c : Con}, ConOk (V : Int) 2 c → ∀ i, (hi : i < c.1.length) → (c.1.map (valI t)).getD i 0 = t.getD (c.1.getD i 0).toNat 0 ∧ (c.1.getD i 0).toNat < V := fun {c} ho i hi => by
  have := ho.sv i hi
  rw [getD_of (by simpa using hi), getD_of hi]
  exact ⟨by simp [valI], by omega⟩
 constructor
 ·intro hs c hc
  have ho := h c hc
  unfold conH
  rw [decide_eq_true_eq]
  refine decomp ho (hk c hc) (by simp) (fun j hj => ?_) fun i j hi hj => ?_
  ·rw [(hval ho j hj).1]; exact hb _ (hval ho j hj).2
  ·rw [(hval ho i hi).1, (hval ho j hj).1]
   have bi := hb _ (hval ho i hi).2
   have bj := hb _ (hval ho j hj).2
   obtain ⟨p, hp, ep⟩ : ∃ p : Nat, p < 2 ∧ t.getD (c.1.getD i 0).toNat 0 = (p : Int) := ⟨(t.getD (c.1.getD i 0).toNat 0).toNat, by omega, by omega⟩
   obtain ⟨q, hq, eq⟩ : ∃ q : Nat, q < 2 ∧ t.getD (c.1.getD j 0).toNat 0 = (q : Int) := ⟨(t.getD (c.1.getD j 0).toNat 0).toNat, by omega, by omega⟩
   rw [ep, eq]
   cases hh : hasP c i j p q with
   | true =>
    obtain ⟨z, hz, e1, e2⟩ := (has_iff ho hi hj).1 hh
    exact ⟨z, hz, by rw [e1], by rw [e2]⟩
   | false =>
    exfalso
    have hf : foA cs (2 * (c.1.getD i 0).toNat + p) (2 * (c.1.getD j 0).toNat + 1 - q) = true :=
     foA_iff.2 ⟨c, hc, i, hi, j, hj, 2 * p + q, by omega, by rw [show (2 * p + q) / 2 = p by omega, show (2 * p + q) % 2 = q by omega]; exact hh, by omega, by omega⟩
    have h1 := hs.imp _ _ hf (by
     unfold lit
     rw [show (2 * (c.1.getD i 0).toNat + p) / 2 = (c.1.getD i 0).toNat by omega, show (2 * (c.1.getD i 0).toNat + p) % 2 = p by omega]; exact ep)
    unfold lit at h1
    rw [show (2 * (c.1.getD j 0).toNat + 1 - q) / 2 = (c.1.getD j 0).toNat by omega, show (2 * (c.1.getD j 0).toNat + 1 - q) % 2 = 1 - q by omega, eq] at h1
    omega
 ·intro hs
  refine ⟨hl, hb, fun a b hf ha => ?_⟩
  obtain ⟨c, hc, i, hi, j, hj, x, hx, hh, ea, eb⟩ := foA_iff.1 hf
  have ho := h c hc
  have hcon := hs c hc
  unfold conH at hcon
  rw [decide_eq_true_eq] at hcon
  have bj := hb _ (hval ho j hj).2
  unfold lit at ha ⊢
  rw [← ea, show (2 * (c.1.getD i 0).toNat + x / 2) / 2 = (c.1.getD i 0).toNat by omega, show (2 * (c.1.getD i 0).toNat + x / 2) % 2 = x / 2 by omega] at ha
  rw [← eb, show (2 * (c.1.getD j 0).toNat + 1 - x % 2) / 2 = (c.1.getD j 0).toNat by omega, show (2 * (c.1.getD j 0).toNat + 1 - x % 2) % 2 = 1 - x % 2 by omega]
  by_cases hq : t.getD (c.1.getD j 0).toNat 0 = ((x % 2 : Nat) : Int)
  ·exfalso
   have : hasP c i j (x / 2) (x % 2) = true := by
    unfold hasP
    rw [decide_eq_true_eq, List.mem_map]
    refine ⟨_, hcon, ?_⟩
    unfold twoT
    rw [(hval ho i hi).1, (hval ho j hj).1, ha, hq]
   rw [hh] at this; simp at this
  ·omega
theorem head_min {n : Nat} {given : List Int} {ok : List Int → Bool} : ∀ (m : Nat) (pre t0 : List Int) (L : List (List Int)), extL n given ok m pre = t0 :: L → ∀ t ∈ extL n given ok m pre, ∀ v, t.take v = t0.take v → v < pre.length + m → t0.getD v 0 ≤ t.getD v 0
 | 0, pre, t0, L, h, t, ht, v, _, _ => by
  simp only [extL] at h ht
  rw [List.mem_singleton.1 ht, ← (List.cons.inj h).1]; omega
 | m + 1, pre, t0, L, h, t, ht, v, hv, hlt => by
  simp only [extL] at h ht
  have gen : ∀ (xs : List Nat), xs.Pairwise (· < ·) → ∀ (t0 : List Int) (L : List (List Int)), (xs.flatMap fun x => if (mstB given pre.length x && ok (pre ++ [(x : Int)])) then extL n given ok m (pre ++ [(x : Int)]) else []) = t0 :: L →
    t ∈ (xs.flatMap fun x => if (mstB given pre.length x && ok (pre ++ [(x : Int)])) then extL n given ok m (pre ++ [(x : Int)]) else []) → t.take v = t0.take v → t0.getD v 0 ≤ t.getD v 0 := by
   intro xs
   induction xs with
   | nil => intro _ t0 L h; simp at h
   | cons x xs ih =>
    intro hs t0 L h ht hv
    rw [List.flatMap_cons] at h ht
    cases hE : (if (mstB given pre.length x && ok (pre ++ [(x : Int)])) then extL n given ok m (pre ++ [(x : Int)]) else []) with
    | nil =>
     rw [hE, List.nil_append] at h ht
     exact ih (List.pairwise_cons.1 hs).2 t0 L h ht hv
    | cons s S =>
     rw [hE] at h ht
     have hs0 : s = t0 := (List.cons.inj h).1
     subst hs0
     by_cases hc : (mstB given pre.length x && ok (pre ++ [(x : Int)])) = true
     ·rw [if_pos hc] at hE
      have hsm : s ∈ extL n given ok m (pre ++ [(x : Int)]) := by rw [hE]; exact List.mem_cons_self ..
      obtain ⟨sl, sp, _⟩ := (ext_iff m _ s).1 hsm
      rw [List.length_append, List.length_singleton] at sl sp
      rcases List.mem_append.1 ht with ht | ht
      ·exact head_min m _ s S hE t (by rw [hE]; exact ht) v hv (by rw [List.length_append, List.length_singleton]; omega)
      ·obtain ⟨y, hy, ht⟩ := List.mem_flatMap.1 ht
       have hxy := (List.pairwise_cons.1 hs).1 y hy
       by_cases hcy : (mstB given pre.length y && ok (pre ++ [(y : Int)])) = true
       ·rw [if_pos hcy] at ht
        obtain ⟨tl, tp, _⟩ := (ext_iff m _ t).1 ht
        rw [List.length_append, List.length_singleton] at tl tp
        have gs : ∀ q, q < pre.length + 1 → s.getD q 0 = (pre ++ [(x : Int)]).getD q 0 := fun q hq => by rw [← sp]; simp [List.getD_eq_getElem?_getD, List.getElem?_take, hq]
        have gt : ∀ q, q < pre.length + 1 → t.getD q 0 = (pre ++ [(y : Int)]).getD q 0 := fun q hq => by rw [← tp]; simp [List.getD_eq_getElem?_getD, List.getElem?_take, hq]
        rcases Nat.lt_trichotomy v pre.length with h5 | h5 | h5
        ·rw [gs v (by omega), gt v (by omega)]
         simp [List.getD_eq_getElem?_getD, List.getElem?_append_left h5]
        ·rw [h5, gs _ (by omega), gt _ (by omega)]
         simp [List.getD_eq_getElem?_getD]; omega
        ·exfalso
         have e1 : (t.take v).getD pre.length 0 = (s.take v).getD pre.length 0 := by rw [hv]
         have e2 : ∀ l : List Int, (l.take v).getD pre.length 0 = l.getD pre.length 0 := fun l => by simp [List.getD_eq_getElem?_getD, List.getElem?_take, h5]
         rw [e2, e2, gs _ (by omega), gt _ (by omega)] at e1
         simp [List.getD_eq_getElem?_getD] at e1
         omega
       ·rw [if_neg hcy] at ht; simp at ht
     ·rw [if_neg hc] at hE; simp at hE
  exact gen _ List.pairwise_lt_range t0 L h ht hv
end
end T
open Go Go.Va
namespace T
section
variable {V : Nat} {cs : List Con} {t t0 : List Int} {a : Net}
theorem sols_iff (hS : SrchOk V 2 cs) : t ∈ solsN V 2 cs (List.replicate V (-1)) ↔ t.length = V ∧ (∀ u, u < V → t.getD u 0 = 0 ∨ t.getD u 0 = 1) ∧ ∀ c ∈ cs, conH t c = true := by
 unfold solsN
 rw [ext_iff]
 simp only [List.length_nil, Nat.zero_add, List.take_zero, true_and, Nat.zero_le, true_implies]
 constructor
 ·rintro ⟨h1, h2⟩
  refine ⟨h1, fun u hu => by have := (h2 u (by omega)).1; omega, fun c hc => ?_⟩
  have hm : c ∈ conAt cs (mostC c) := mem_conAt.2 ⟨hc, rfl⟩
  have hlt := (conAt_ok hS hm).2
  have := (h2 (mostC c) (by omega)).2.2
  rw [okN_take hS (by omega), List.all_eq_true] at this
  exact this c hm
 ·rintro ⟨h1, h2, h3⟩
  refine ⟨h1, fun q hq => ⟨by have := h2 q (by omega); omega, mst_free (by omega), ?_⟩⟩
  rw [okN_take hS hq, List.all_eq_true]
  exact fun c hc => h3 c (mem_conAt.1 hc).1
theorem sols_sol (hS : SrchOk V 2 cs) (hk : ∀ c ∈ cs, clsB c 5 = true) : t ∈ solsN V 2 cs (List.replicate V (-1)) ↔ SolF (foA cs) V t := by
 rw [sols_iff hS]
 constructor
 ·rintro ⟨h1, h2, h3⟩
  exact (sol_iff hS.con hk h1 h2).2 h3
 ·intro h
  exact ⟨h.len, h.bin, (sol_iff hS.con hk h.len h.bin).1 h⟩
def pairR (a : Net) : List Int × Bool × Bool := if boolB a && allB a.2.2 5 then match solsN a.1.toNat 2 a.2.2 (List.replicate a.1.toNat (-1)) with | [] => ([], false, true) | t :: _ => (t, true, true) else ([], false, false)
theorem spec_Pairs_val (hS : SrchOk V 2 cs) (hk : ∀ c ∈ cs, clsB c 5 = true) : spec_l22Pairs ((V : Int), ((2 : Int), cs)) = some (match solsN V 2 cs (List.replicate V (-1)) with | [] => ([], false) | t :: _ => (t, true)) := by
 have hV := hS.hv
 have hc := hS.hc
 cases hne : cs.all (fun c => !decide (c.2.2.length = 0)) with
 | false =>
  have h2 := pa_L2 (V := V) (n := 2) (cs := cs) (by omega)
  rw [hne, if_neg (by simp)] at h2
  have hnil : solsN V 2 cs (List.replicate V (-1)) = [] := by
   cases hl : solsN V 2 cs (List.replicate V (-1)) with
   | nil => rfl
   | cons t l =>
    exfalso
    have ht := (sols_iff hS).1 (show t ∈ solsN V 2 cs (List.replicate V (-1)) by rw [hl]; exact List.mem_cons_self ..)
    rw [List.all_eq_false] at hne
    obtain ⟨c, hc, he⟩ := hne
    have := ht.2.2 c hc
    unfold conH at this
    rw [decide_eq_true_eq] at this
    have hz : c.2.2.length = 0 := by simpa using he
    rw [List.eq_nil_of_length_eq_zero hz] at this
    simp at this
  unfold spec_l22Pairs
  simp only [h2, Option.bind_some, hnil]
 | true =>
  obtain ⟨r, e, h1, h2⟩ := Pairs_ok hV (foA_ok hS.con) (n := 2) (cs := cs) (by omega) (Follows_ok hV (by omega) hS.con) hne
  rw [e]
  cases hl : solsN V 2 cs (List.replicate V (-1)) with
  | nil =>
   rw [h2 fun ⟨t, ht⟩ => by
    have := (sols_sol hS hk).2 ht
    rw [hl] at this; simp at this]
  | cons t0 l =>
   have hf : FirstF (foA cs) V t0 := ⟨(sols_sol hS hk).1 (by rw [hl]; exact List.mem_cons_self ..), fun t ht v hv htk =>
    head_min V [] t0 l hl t ((sols_sol hS hk).2 ht) v htk (by simpa using hv)⟩
   rw [h1 ⟨t0, hf⟩ t0 hf]
theorem bool_srch (hb : boolB a = true) : SrchOk a.1.toNat 2 a.2.2 ∧ a = ((a.1.toNat : Int), ((2 : Int), a.2.2)) := by
 unfold boolB at hb
 rw [Bool.and_eq_true, decide_eq_true_eq] at hb
 obtain ⟨h1, h2⟩ := hb
 have hN := net_of h1
 have hv := hN.hv
 refine ⟨⟨by omega, by omega, hN.hc, fun c hc => ?_⟩, ?_⟩
 ·have := hN.con c hc
  rw [h2] at this
  rw [Int.toNat_of_nonneg hv.1]; exact this
 ·obtain ⟨x, y, l⟩ := a
  dsimp only at h2 hv ⊢
  rw [Int.toNat_of_nonneg hv.1, h2]
theorem PairsAssignment_ok (h : netS a) : impl_PairsAssignment a = some (pairR a) ∧ spec_PairsAssignment a = some (pairR a) := by
 have e1 := impl_inClass_ok h (x := 5) (by omega)
 have e1 : impl_inClass (a.1, (a.2.1, a.2.2)) 5 = _ := e1
 have e2 := spec_l22Good_ok h
 have e2 : spec_l22Good (a.1, (a.2.1, a.2.2)) = _ := e2
 unfold impl_PairsAssignment spec_PairsAssignment pairR
 rw [e1, e2]
 cases hb : boolB a with
 | false => simp
 | true =>
  have hb' := hb
  unfold boolB at hb'
  rw [Bool.and_eq_true, decide_eq_true_eq] at hb'
  have e3 := spec_l22Is_ok (net_of hb'.1) hb'.2 (x := 5) (by omega)
  have e3 : spec_l22Is (a.1, (a.2.1, a.2.2)) 5 = _ := e3
  simp only [Option.bind_some, Bool.not_true, Bool.false_eq_true, if_false, e3, Bool.true_and]
  cases hk : allB a.2.2 5 with
  | false => simp
  | true =>
   obtain ⟨hS, ea⟩ := bool_srch hb
   have hk' : ∀ c ∈ a.2.2, clsB c 5 = true := by unfold allB at hk; rwa [List.all_eq_true] at hk
   have hV := hS.hv
   have f1 := spec_Pairs_val hS hk'
   have f2 := firstSol_ok (given := List.replicate a.1.toNat (-1)) hS (by simp)
   have f3 := freeI_ok (show a.1.toNat ≤ 1000 by omega)
   have ex : ((a.1.toNat : Int), ((2 : Int), a.2.2)) = (a.1, (a.2.1, a.2.2)) := ea.symm
   have ey : ((a.1.toNat : Nat) : Int) = a.1 := congrArg Prod.fst ex
   rw [ex] at f1
   have f2 : impl_firstSolution ((a.1.toNat : Int), ((2 : Int), a.2.2)) (List.replicate a.1.toNat (-1)) = _ := f2
   rw [ex] at f2
   rw [ey] at f3
   unfold impl_anySolution
   simp only [Bool.not_true, Bool.false_eq_true, if_false, f1, f2, f3, Option.bind_some, if_true]
   cases solsN a.1.toNat 2 a.2.2 (List.replicate a.1.toNat (-1)) with
   | nil => exact ⟨rfl, rfl⟩
   | cons t l => exact ⟨rfl, rfl⟩
theorem pairR_len (h : netS a) : (pairR a).1.length ≤ 9 := by
 unfold pairR
 cases hb : boolB a with
 | false => simp
 | true =>
  obtain ⟨hS, _⟩ := bool_srch hb
  have hV := hS.hv
  cases hk : allB a.2.2 5 with
  | false => simp
  | true =>
   simp only [Bool.and_self, if_true]
   cases hl : solsN a.1.toNat 2 a.2.2 (List.replicate a.1.toNat (-1)) with
   | nil => simp
   | cons t l =>
    have := sols_mem (show t ∈ solsN a.1.toNat 2 a.2.2 (List.replicate a.1.toNat (-1)) by rw [hl]; exact List.mem_cons_self ..)
    show t.length ≤ 9
    omega
theorem FnExactPairsAssignment_law {a : Net} (h : wfT netT a) : laws_FnExactPairsAssignment a = some true := by
 unfold laws_FnExactPairsAssignment
 rw [szNetwork_ok (a := (a.1, (a.2.1, a.2.2))) h]
 simp only [Option.bind_some]
 rw [show totN (a.1, (a.2.1, a.2.2)) = totN a from rfl]
 by_cases h : szR (totN a) 1048576 < 0
 ·rw [if_pos (by simpa using h)]
 ·obtain ⟨hs, ht⟩ := szNetwork_small h
  obtain ⟨b, k, hm, hk0, hk1⟩ := markNetwork_ok hs ht
  obtain ⟨e1, e2⟩ := PairsAssignment_ok hs
  have hl := pairR_len hs
  rw [if_neg (by simpa using h)]
  have e3 := mIntS_far (pairR a).1 1
  have e4 : ¬ (mIntS (pairR a).1 1).2 < 0 := by omega
  simp only [toNetwork_ok hs, e1, e2, eqNetwork_ok hs, Option.bind_some, eqIntS_ok (show (pairR a).1.length ≤ 1099511627775 by omega), hm, markIntS_ok (l := (pairR a).1) (k := 1) (by omega) (by omega) (by unfold BM; omega), heldIntS_ok (l := (pairR a).1) (k := 1) (by omega) (by omega) (by unfold BM; omega)]
  simp [show ¬ k < 0 by omega, e4]
end
end T
