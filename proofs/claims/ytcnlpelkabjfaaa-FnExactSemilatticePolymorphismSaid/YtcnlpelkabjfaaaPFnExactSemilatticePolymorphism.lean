/- Plain lemmas on the typed functions of the program, and the plain law of FnExactSemilatticePolymorphism; no conditions. -/
import Derived.Test.YtcnlpelkabjfaaaV1
import Derived.Test.YtcnlpelkabjfaaaV5
import Derived.KernelRfl
import Derived.Test.YtcnlpelkabjfaaaOFnExactSemilatticePolymorphism
set_option linter.all false
open Go Go.Va
namespace T
structure RelsOk (n k : Nat) (rels : List RelT) : Prop where
 hn : 1 ≤ n ∧ n ≤ 4
 hk : 1 ≤ k ∧ k ≤ 3
 len : rels.length ≤ 8
 ok : ∀ r ∈ rels, ROk n r.1.toNat r
def demD (n k : Nat) (rels : List RelT) : DT := rels.foldl (relD n k) (List.replicate (n ^ k) [])
def demN (n k : Nat) (rels : List RelT) : NT := rels.foldl (relN n k) (List.replicate (n ^ k) [])
section
variable {n k m : Nat} {r : RelT} {rels : List RelT}
theorem RelsOk.cnt (h : RelsOk n k rels) (hr : r ∈ rels) : r.2.length ^ k ≤ 262144 := pow64 (h.ok r hr).many h.hk.2
theorem demD_inv (h : RelsOk n k rels) (t : Nat) (ht : t ≤ rels.length) : ((rels.take t).foldl (relD n k) (List.replicate (n ^ k) [])).length = n ^ k ∧ roomD ((rels.take t).foldl (relD n k) (List.replicate (n ^ k) [])) (262144 * t) := by
 induction t with
 | zero => exact ⟨by simp, fun p => by simp [List.getD_eq_getElem?_getD, List.getElem?_replicate]; split <;> simp⟩
 | succ t ih =>
  obtain ⟨h1, h2⟩ := ih (by omega)
  have htl : t < rels.length := by omega
  rw [List.take_succ_eq_append_getElem htl, List.foldl_append]
  simp only [List.foldl_cons, List.foldl_nil]
  refine ⟨by rw [relD_len]; exact h1, fun p => ?_⟩
  have h3 := h.cnt (List.getElem_mem htl)
  have := foldD_room (n := n) (k := k) (r := rels[t]) (List.range (rels[t].2.length ^ k)) (_, []) _ h2 p
  rw [List.length_range] at this
  exact Nat.le_trans this (by omega)
theorem impl_newPolySearch_ok (h : RelsOk n k rels) : impl_newPolySearch (n : Int) rels (k : Int) = some (true, (n : Int), (k : Int), demD n k rels) := by
 have hk := h.hk
 have hn := h.hn
 have hl := h.len
 have hp := pow_le3 (n := n) (k := k) hn.2 hk.2
 unfold impl_newPolySearch
 rw [impl_power64 (by omega) hk.2]
 simp only [Option.bind_some]
 have := forS rels.length (fun f (s : DT) i => impl_newPolySearch_L3 f ((n : Int), (k : Int), ((n : Int), ((k : Int), s)), rels, (rels.length : Int), i)) (fun t => (rels.take t).foldl (relD n k) (List.replicate (n ^ k) []))
  (r := some ((n : Int), ((k : Int), demD n k rels))) (fun f t ht => ?_) (fun f => ?_) (n := fuel) (by unfold fuel; omega)
 ·have e : ((rels.take 0).foldl (relD n k) (List.replicate (n ^ k) [])) = List.replicate (Int.toNat ((n ^ k : Nat) : Int)) ([] : List (List Int × List ByteArray)) := by rw [Int.toNat_natCast]; rfl
  rw [e] at this
  have this : impl_newPolySearch_L3 fuel ((n : Int), (k : Int), ((n : Int), ((k : Int), List.replicate (Int.toNat ((n ^ k : Nat) : Int)) ([] : List (List Int × List ByteArray)))), rels, (rels.length : Int), 0) = _ := this
  rw [this, if_pos (by unfold lim; omega)]; rfl
 ·have hr := h.ok _ (List.getElem_mem ht)
  obtain ⟨h1, h2⟩ := demD_inv h t (by omega)
  have hm := hr.hm
  have h8 := np_L8 hr hn hk.2 (by omega) h1 h2 (by omega) (n : Int) (k : Int) rels (rels.length : Int) (t : Int)
  have hts := impl_tupleSet_ok (r := rels[t]) (by have := hr.many; omega) (fun u hu => ⟨by have := hr.tl u hu; omega, fun x hx => by have := hr.tv u hu x hx; omega⟩)
  have hts : impl_tupleSet (rels[t].1, rels[t].2) = _ := hts
  have htk : (rels.take (t + 1)).foldl (relD n k) (List.replicate (n ^ k) []) = relD n k ((rels.take t).foldl (relD n k) (List.replicate (n ^ k) [])) rels[t] := by
   rw [List.take_succ_eq_append_getElem ht, List.foldl_append]; rfl
  simp only [impl_newPolySearch_L3, inb_nat, ht, gd_nat ht, hts, Option.bind_some, h8, htk, w64_succ (show t < 4611686018427387904 by omega)]
  rw [if_pos (by simp; omega)]; rfl
 ·simp only [impl_newPolySearch_L3, List.take_length]
  rw [if_neg (by simp)]; rfl
theorem nd_L21 (h : ROk n m r) (hn : 1 ≤ n ∧ n ≤ 4) {t : Nat} (ht : t < rels.length) (er : rels[t] = r) {args : List Nat} (hl : args.length ≤ 3) (ha : ∀ x ∈ args, x < r.2.length) {j : Nat} (hj : j < m)
    (t7 : NT) (t10 t11 : Int) (t13 : List Int × Int × List (List Int)) (t14 : Int) :
    spec_l14Needs_L21 fuel ((n : Int), rels, (args.length : Int), t7, (t : Int), t10, t11, cI args, (t13.1, (t13.2.1, t13.2.2)), t14, (j : Int), 0, 0)
      = some ((n : Int), rels, (args.length : Int), t7, (t : Int), t10, t11, cI args, (t13.1, (t13.2.1, t13.2.2)), t14, (j : Int), ((atF n r.2 j args : Nat) : Int)) := by
  have := forS args.length (fun f (s : Int) i => spec_l14Needs_L21 f ((n : Int), rels, (args.length : Int), t7, (t : Int), t10, t11, cI args, (t13.1, (t13.2.1, t13.2.2)), t14, (j : Int), s, i)) (fun z => ((atF n r.2 j (args.take z) : Nat) : Int))
    (r := some ((n : Int), rels, (args.length : Int), t7, (t : Int), t10, t11, cI args, (t13.1, (t13.2.1, t13.2.2)), t14, (j : Int), ((atF n r.2 j args : Nat) : Int))) (fun f z hz => ?_) (fun f => ?_) (n := fuel) (by unfold fuel; omega)
  · exact this
  · have hzc : z < (cI args).length := by rw [cI_len]; exact hz
    have hx := ha _ (List.getElem_mem hz)
    have hg : (cI args).getD z 0 = ((args[z] : Nat) : Int) := by rw [getD_of hzc]; simp [cI]
    obtain ⟨v1, v2, v3⟩ := h.vt_lt hx hj
    have hlt := h.at_lt hj (args.take z) fun x hx => ha x (List.mem_of_mem_take hx)
    have hp := pow_le3 (n := n) (k := (args.take z).length) hn.2 (by rw [List.length_take]; omega)
    have hstep := w64_step (n := n) hn.2 (x := atF n r.2 j (args.take z)) (v := vt r.2 args[z] j) (by omega) v1
    have htk : args.take (z + 1) = args.take z ++ [args[z]] := List.take_succ_eq_append_getElem hz
    simp only [spec_l14Needs_L21, inb_nat, ht, gd_nat ht, er, hzc, gd_D, hg, hx, v3, v2, hstep, htk, atF_append, w64_succ (show z < 4611686018427387904 by omega), if_true]
    rw [if_pos (by simp; omega)]
  · simp only [spec_l14Needs_L21, List.take_length]
    rw [if_neg (by simp)]
theorem spec_l1Most_nat (a b : Nat) : spec_l1Most (a : Int) (b : Int) = some ((max a b : Nat) : Int) := by
 unfold spec_l1Most
 by_cases h : (a : Int) > (b : Int)
 ·rw [if_pos (by simpa using h)]; congr 2; omega
 ·rw [if_neg (by simpa using h)]; congr 2; omega
theorem nd_L17 (h : ROk n m r) (hn : 1 ≤ n ∧ n ≤ 4) (hk : k ≤ 3) (hb : 0 < r.2.length) {t : Nat} (ht : t < rels.length) (er : rels[t] = r) (i : Nat) (t7 : NT) (t10 t11 : Int) (q : Int × List (List Int)) :
    spec_l14Needs_L17 fuel ((n : Int), rels, (k : Int), t7, (t : Int), t10, t11, cI (dg r.2.length k i), ([], (q.1, q.2)), 0, 0)
      = some ((n : Int), rels, (k : Int), t7, (t : Int), t10, t11, (cI (PL n k r i), (q.1, q.2)), ((lastP (PL n k r i) : Nat) : Int)) := by
  have hm := h.hm
  have har := h.ar
  have hpl := h.pl_len (k := k) (i := i)
  have := forS m (fun f (s : List Int × Int) j => spec_l14Needs_L17 f ((n : Int), rels, (k : Int), t7, (t : Int), t10, t11, cI (dg r.2.length k i), (s.1, (q.1, q.2)), s.2, j))
    (fun j => (cI ((PL n k r i).take j), ((lastP ((PL n k r i).take j) : Nat) : Int)))
    (r := some ((n : Int), rels, (k : Int), t7, (t : Int), t10, t11, (cI (PL n k r i), (q.1, q.2)), ((lastP (PL n k r i) : Nat) : Int))) (fun f j hj => ?_) (fun f => ?_) (n := fuel) (by unfold fuel; omega)
  · exact this
  · have hjl : j < (PL n k r i).length := by omega
    have htl : ((PL n k r i).take j).length = j := by rw [List.length_take]; omega
    have h21 := nd_L21 h hn ht er (args := dg r.2.length k i) (by rw [dg_len]; exact hk) (dg_lt hb) hj t7 t10 t11 (cI ((PL n k r i).take j), (q.1, q.2)) ((lastP ((PL n k r i).take j) : Nat) : Int)
    rw [dg_len] at h21
    have e1 : cI ((PL n k r i).take (j + 1)) = cI ((PL n k r i).take j) ++ [((atF n r.2 j (dg r.2.length k i) : Nat) : Int)] := by
      rw [List.take_succ_eq_append_getElem hjl, PL_get hjl, cI_append]; rfl
    have e2 : lastP ((PL n k r i).take (j + 1)) = max (lastP ((PL n k r i).take j)) (atF n r.2 j (dg r.2.length k i)) := by rw [lastP_take hjl, PL_get hjl]
    simp only [spec_l14Needs_L17, inb_nat, ht, gd_nat ht, er, har, h21, Option.bind_some, spec_l1Most_nat, e1, e2, w64_succ (show j < 4611686018427387904 by omega), if_true]
    rw [if_pos (by simp; omega), if_pos (by rw [cI_len, htl, List.length_singleton]; unfold lim; omega)]
  · have e : (PL n k r i).take m = PL n k r i := List.take_of_length_le (by omega)
    simp only [spec_l14Needs_L17, inb_nat, ht, gd_nat ht, er, har, e, if_true]
    rw [if_neg (by simp)]
theorem stepN_len (X : NT) (i : Nat) : (stepN n k r X i).length = X.length := addAt_len
theorem foldN_len : ∀ (l : List Nat) (X : NT), (l.foldl (stepN n k r) X).length = X.length
 | [], X => rfl
 | i :: l, X => by rw [List.foldl_cons, foldN_len l]; exact stepN_len X i
theorem foldN_room : ∀ (l : List Nat) (X : NT) (B : Nat), roomD X B → roomD (l.foldl (stepN n k r) X) (B + l.length)
 | [], X, B, h => h
 | i :: l, X, B, h => by
  have := foldN_room l _ _ (addAt_room (p := lastP (PL n k r i)) (d := (cI (PL n k r i), r)) h)
  rw [List.foldl_cons, List.length_cons, show B + (l.length + 1) = B + 1 + l.length by omega]
  exact this
theorem nd_L11 (h : ROk n m r) (hn : 1 ≤ n ∧ n ≤ 4) (hk : k ≤ 3) (hk1 : 0 < k) {t : Nat} (ht : t < rels.length) (er : rels[t] = r) {X : NT} (hX : X.length = n ^ k) {B : Nat} (hroom : roomD X B) (hB : B ≤ 100000000) :
    spec_l14Needs_L11 fuel ((n : Int), rels, (k : Int), X, (t : Int), (r.2.length : Int), 0) = some ((n : Int), rels, (k : Int), relN n k X r, (t : Int)) := by
  have hm := h.hm
  have hN := pow64 h.many hk
  have hmany := h.many
  have := forS (r.2.length ^ k) (fun f (s : NT) i => spec_l14Needs_L11 f ((n : Int), rels, (k : Int), s, (t : Int), (r.2.length : Int), i)) (fun i => (List.range i).foldl (stepN n k r) X)
    (r := some ((n : Int), rels, (k : Int), relN n k X r, (t : Int))) (fun f i hi => ?_) (fun f => ?_) (n := fuel) (by unfold fuel; omega)
  · exact this
  · have hb : 0 < r.2.length := by
      rcases Nat.eq_zero_or_pos r.2.length with e2 | e2
      · rw [e2, Nat.zero_pow hk1] at hi; omega
      · exact e2
    have hlen : ((List.range i).foldl (stepN n k r) X).length = n ^ k := by rw [foldN_len]; exact hX
    have hro := foldN_room (n := n) (k := k) (r := r) (List.range i) X B hroom
    rw [List.length_range] at hro
    generalize hY : (List.range i).foldl (stepN n k r) X = Y at hlen hro
    have hlast : lastP (PL n k r i) < Y.length := by
      rw [hlen]; exact lastP_lt (Nat.pow_pos (by omega)) (h.pl_lt hb)
    have h17 := nd_L17 h hn hk hb ht er i Y (r.2.length : Int) (i : Int) r
    have hlim := hro (lastP (PL n k r i))
    rw [range_fold, hY]
    simp only [spec_l14Needs_L11, spec_pow64 hmany hk, spec_l2Args_ok (k := k) hb (by omega) (show i < 4611686018427387904 by omega), Option.bind_some, inb_nat, ht, gd_nat ht, er, h17, hlast, gd_D, stt_nat, w64_succ (show i < 4611686018427387904 by omega), if_true]
    rw [if_pos (decide_eq_true (show (i : Int) < ((r.2.length ^ k : Nat) : Int) from Int.ofNat_lt.2 hi)), if_pos (by rw [List.length_singleton]; unfold lim; omega)]
    rfl
  · simp only [spec_l14Needs_L11, spec_pow64 hmany hk, Option.bind_some]
    rw [if_neg (by simp)]; rfl
theorem demN_inv (h : RelsOk n k rels) (t : Nat) (ht : t ≤ rels.length) : ((rels.take t).foldl (relN n k) (List.replicate (n ^ k) [])).length = n ^ k ∧ roomD ((rels.take t).foldl (relN n k) (List.replicate (n ^ k) [])) (262144 * t) := by
 induction t with
 | zero => exact ⟨by simp, fun p => by simp [List.getD_eq_getElem?_getD, List.getElem?_replicate]; split <;> simp⟩
 | succ t ih =>
  obtain ⟨h1, h2⟩ := ih (by omega)
  have htl : t < rels.length := by omega
  rw [List.take_succ_eq_append_getElem htl, List.foldl_append]
  simp only [List.foldl_cons, List.foldl_nil]
  refine ⟨by unfold relN; rw [foldN_len]; exact h1, fun p => ?_⟩
  have h3 := h.cnt (List.getElem_mem htl)
  have := foldN_room (n := n) (k := k) (r := rels[t]) (List.range (rels[t].2.length ^ k)) _ _ h2 p
  rw [List.length_range] at this
  exact Nat.le_trans this (by omega)
theorem spec_l14Needs_ok (h : RelsOk n k rels) : spec_l14Needs (n : Int) rels (k : Int) = some (demN n k rels) := by
 have hk := h.hk
 have hn := h.hn
 have hl := h.len
 have hp := pow_le3 (n := n) (k := k) hn.2 hk.2
 unfold spec_l14Needs
 have h3 := forS (n ^ k) (fun f (s : NT) i => spec_l14Needs_L3 f ((n : Int), rels, (k : Int), s, i)) (fun t => List.replicate t []) (r := some ((n : Int), rels, (k : Int), List.replicate (n ^ k) [])) (fun f t ht => ?_) (fun f => ?_) (n := fuel) (by unfold fuel; omega)
 ·have h3 : spec_l14Needs_L3 fuel ((n : Int), rels, (k : Int), [], 0) = _ := h3
  simp only [h3, Option.bind_some]
  have := forS rels.length (fun f (s : NT) i => spec_l14Needs_L7 f ((n : Int), rels, (k : Int), s, i)) (fun t => (rels.take t).foldl (relN n k) (List.replicate (n ^ k) [])) (r := some (demN n k rels)) (fun f t ht => ?_) (fun f => ?_) (n := fuel) (by unfold fuel; omega)
  ·have e : ((rels.take 0).foldl (relN n k) (List.replicate (n ^ k) [])) = List.replicate (n ^ k) [] := by simp
   rw [e] at this
   have this : spec_l14Needs_L7 fuel ((n : Int), rels, (k : Int), List.replicate (n ^ k) [], 0) = _ := this
   rw [this]; rfl
  ·have hr := h.ok _ (List.getElem_mem ht)
   obtain ⟨h1, h2⟩ := demN_inv h t (by omega)
   have h11 := nd_L11 hr hn hk.2 (by omega) ht rfl h1 h2 (by omega)
   have htk : (rels.take (t + 1)).foldl (relN n k) (List.replicate (n ^ k) []) = relN n k ((rels.take t).foldl (relN n k) (List.replicate (n ^ k) [])) rels[t] := by
    rw [List.take_succ_eq_append_getElem ht, List.foldl_append]; rfl
   simp only [spec_l14Needs_L7, inb_nat, ht, gd_nat ht, Option.bind_some, h11, htk, w64_succ (show t < 4611686018427387904 by omega)]
   rw [if_pos (by simp; omega)]; rfl
  ·simp only [spec_l14Needs_L7, List.take_length]
   rw [if_neg (by simp)]; rfl
 ·simp only [spec_l14Needs_L3, spec_pow64 (show n ≤ 64 by omega) hk.2, Option.bind_some, List.replicate_succ', w64_succ (show t < 4611686018427387904 by omega)]
  rw [if_pos (decide_eq_true (show (t : Int) < ((n ^ k : Nat) : Int) from Int.ofNat_lt.2 ht)), if_pos (by simp; unfold lim; omega)]
 ·simp only [spec_l14Needs_L3, spec_pow64 (show n ≤ 64 by omega) hk.2, Option.bind_some]
  rw [if_neg (by simp)]
end
end T
open Go Go.Va
namespace T
section
variable {n k m : Nat} {r : RelT} {rels : List RelT}
theorem last_lt (h : ROk n m r) (hn : 1 ≤ n ∧ n ≤ 4) (hk1 : 0 < k) {i : Nat} (hi : i < r.2.length ^ k) : lastP (PL n k r i) < n ^ k := by
 have hb : 0 < r.2.length := by
  rcases Nat.eq_zero_or_pos r.2.length with e2 | e2
  ·rw [e2, Nat.zero_pow hk1] at hi; omega
  ·exact e2
 exact lastP_lt (Nat.pow_pos (by omega)) (h.pl_lt hb)
theorem foldN_mem (h : ROk n m r) (hn : 1 ≤ n ∧ n ≤ 4) (hk1 : 0 < k) {X : NT} (hX : X.length = n ^ k) : ∀ (i : Nat), i ≤ r.2.length ^ k → ∀ at' d, d ∈ ((List.range i).foldl (stepN n k r) X).getD at' [] ↔ d ∈ X.getD at' [] ∨ ∃ j, j < i ∧ lastP (PL n k r j) = at' ∧ d = (cI (PL n k r j), r) := by
 intro i
 induction i with
 | zero => intro _ a d; simp
 | succ i ih =>
  intro hi a d
  have hlen : ((List.range i).foldl (stepN n k r) X).length = n ^ k := by rw [foldN_len]; exact hX
  have hl := last_lt h hn hk1 (i := i) (by omega)
  have ih := ih (by omega)
  rw [range_fold]
  generalize (List.range i).foldl (stepN n k r) X = Y at ih hlen
  unfold stepN
  rw [addAt_get (by rw [hlen]; exact hl)]
  by_cases e : a = lastP (PL n k r i)
  ·rw [if_pos e, List.mem_append, ← e, ih, List.mem_singleton]
   constructor
   ·rintro ((h1 | ⟨j, h1, h2⟩) | h1)
    ·exact .inl h1
    ·exact .inr ⟨j, by omega, h2⟩
    ·exact .inr ⟨i, by omega, e.symm, h1⟩
   ·rintro (h1 | ⟨j, h1, h2, h3⟩)
    ·exact .inl (.inl h1)
    ·by_cases e2 : j = i
     ·subst e2; exact .inr h3
     ·exact .inl (.inr ⟨j, by omega, h2, h3⟩)
  ·rw [if_neg e, ih]
   constructor
   ·rintro (h1 | ⟨j, h1, h2⟩)
    ·exact .inl h1
    ·exact .inr ⟨j, by omega, h2⟩
   ·rintro (h1 | ⟨j, h1, h2, h3⟩)
    ·exact .inl h1
    ·by_cases e2 : j = i
     ·subst e2; exact absurd h2.symm e
     ·exact .inr ⟨j, by omega, h2, h3⟩
theorem relN_len {X : NT} : (relN n k X r).length = X.length := by unfold relN; rw [foldN_len]
theorem foldRN_mem (hn : 1 ≤ n ∧ n ≤ 4) (hk1 : 0 < k) : ∀ (l : List RelT) (X : NT), X.length = n ^ k → (∀ r ∈ l, ROk n r.1.toNat r) → ∀ at' d, d ∈ (l.foldl (relN n k) X).getD at' [] ↔ d ∈ X.getD at' [] ∨ ∃ r ∈ l, ∃ j, j < r.2.length ^ k ∧ lastP (PL n k r j) = at' ∧ d = (cI (PL n k r j), r)
 | [], X, _, _, a, d => by simp
 | r :: l, X, hX, hl, a, d => by
  rw [List.foldl_cons, foldRN_mem hn hk1 l _ (by rw [relN_len]; exact hX) (fun r hr => hl r (List.mem_cons_of_mem _ hr))]
  unfold relN
  rw [foldN_mem (hl r (by simp)) hn hk1 hX _ (Nat.le_refl _)]
  constructor
  ·rintro ((h1 | ⟨j, h1⟩) | ⟨q, h1, h2⟩)
   ·exact .inl h1
   ·exact .inr ⟨r, by simp, j, h1⟩
   ·exact .inr ⟨q, by simp [h1], h2⟩
  ·rintro (h1 | ⟨q, h1, h2⟩)
   ·exact .inl (.inl h1)
   ·rcases List.mem_cons.1 h1 with rfl | h1
    ·exact .inl (.inr h2)
    ·exact .inr ⟨q, h1, h2⟩
theorem repl_mem {α : Type} {N a : Nat} {d : α} : ¬ d ∈ (List.replicate N ([] : List α)).getD a [] := by
 simp [List.getD_eq_getElem?_getD, List.getElem?_replicate]; split <;> simp
theorem demN_mem (h : RelsOk n k rels) (at' : Nat) (d) : d ∈ (demN n k rels).getD at' [] ↔ ∃ r ∈ rels, ∃ j, j < r.2.length ^ k ∧ lastP (PL n k r j) = at' ∧ d = (cI (PL n k r j), r) := by
 unfold demN
 rw [foldRN_mem h.hn h.hk.1 rels _ (by simp) h.ok]
 constructor
 ·rintro (h1 | h1)
  ·exact absurd h1 repl_mem
  ·exact h1
 ·exact .inr
theorem cI_inj {a b : List Nat} (h : cI a = cI b) : a = b := by
 unfold cI at h
 exact List.map_inj_right (fun x y e => by exact Int.ofNat_inj.1 e) |>.1 h
theorem foldD_mem (h : ROk n m r) (hn : 1 ≤ n ∧ n ≤ 4) (hk : k ≤ 3) (hk1 : 0 < k) {X : DT} (hX : X.length = n ^ k) : ∀ (i : Nat), i ≤ r.2.length ^ k →
    (∀ at' d, d ∈ ((List.range i).foldl (stepD n k r) (X, [])).1.getD at' [] ↔ d ∈ X.getD at' [] ∨ ∃ j, j < i ∧ lastP (PL n k r j) = at' ∧ d = (cI (PL n k r j), keys r.2)) ∧
    (∀ s, s ∈ ((List.range i).foldl (stepD n k r) (X, [])).2 ↔ ∃ j, j < i ∧ s = keyB (cI (PL n k r j))) := by
  intro i
  induction i with
  | zero => intro _; exact ⟨fun a d => by simp, fun s => by simp⟩
  | succ i ih =>
    intro hi
    obtain ⟨ih1, ih2⟩ := ih (by omega)
    have hlen : ((List.range i).foldl (stepD n k r) (X, [])).1.length = n ^ k := by rw [foldD_len]; exact hX
    have hl := last_lt h hn hk1 (i := i) (by omega)
    have hb : 0 < r.2.length := by
      rcases Nat.eq_zero_or_pos r.2.length with e2 | e2
      · rw [e2, Nat.zero_pow hk1] at hi; omega
      · exact e2
    rw [range_fold]
    generalize (List.range i).foldl (stepD n k r) (X, []) = Y at ih1 ih2 hlen
    unfold stepD
    by_cases hc : mhas Y.2 (keyB (cI (PL n k r i))) = true
    · rw [if_pos hc]
      obtain ⟨j0, hj0, e0⟩ := (ih2 _).1 (mhas_mem.1 hc)
      have e1 := keyB_inj (pl_small h hn hk hb i) (pl_small h hn hk hb j0) e0
      have e2 := cI_inj e1
      refine ⟨fun a d => ?_, fun s => ?_⟩
      · rw [ih1]
        constructor
        · rintro (h1 | ⟨j, h1, h2⟩)
          · exact .inl h1
          · exact .inr ⟨j, by omega, h2⟩
        · rintro (h1 | ⟨j, h1, h2, h3⟩)
          · exact .inl h1
          · by_cases e3 : j = i
            · subst e3; exact .inr ⟨j0, hj0, by rw [← e2]; exact h2, by rw [← e2]; exact h3⟩
            · exact .inr ⟨j, by omega, h2, h3⟩
      · rw [ih2]
        constructor
        · rintro ⟨j, h1, h2⟩; exact ⟨j, by omega, h2⟩
        · rintro ⟨j, h1, h2⟩
          by_cases e3 : j = i
          · subst e3; exact ⟨j0, hj0, by rw [← e2]; exact h2⟩
          · exact ⟨j, by omega, h2⟩
    · rw [if_neg hc]
      refine ⟨fun a d => ?_, fun s => ?_⟩
      · rw [addAt_get (by rw [hlen]; exact hl)]
        by_cases e : a = lastP (PL n k r i)
        · rw [if_pos e, List.mem_append, ← e, ih1, List.mem_singleton]
          constructor
          · rintro ((h1 | ⟨j, h1, h2⟩) | h1)
            · exact .inl h1
            · exact .inr ⟨j, by omega, h2⟩
            · exact .inr ⟨i, by omega, e.symm, h1⟩
          · rintro (h1 | ⟨j, h1, h2, h3⟩)
            · exact .inl (.inl h1)
            · by_cases e2 : j = i
              · subst e2; exact .inr h3
              · exact .inl (.inr ⟨j, by omega, h2, h3⟩)
        · rw [if_neg e, ih1]
          constructor
          · rintro (h1 | ⟨j, h1, h2⟩)
            · exact .inl h1
            · exact .inr ⟨j, by omega, h2⟩
          · rintro (h1 | ⟨j, h1, h2, h3⟩)
            · exact .inl h1
            · by_cases e2 : j = i
              · subst e2; exact absurd h2.symm e
              · exact .inr ⟨j, by omega, h2, h3⟩
      · rw [mput_mem, ih2]
        constructor
        · rintro (⟨j, h1, h2⟩ | h1)
          · exact ⟨j, by omega, h2⟩
          · exact ⟨i, by omega, h1⟩
        · rintro ⟨j, h1, h2⟩
          by_cases e2 : j = i
          · subst e2; exact .inr h2
          · exact .inl ⟨j, by omega, h2⟩
theorem foldRD_mem (hn : 1 ≤ n ∧ n ≤ 4) (hk : k ≤ 3) (hk1 : 0 < k) : ∀ (l : List RelT) (X : DT), X.length = n ^ k → (∀ r ∈ l, ROk n r.1.toNat r) → ∀ at' d, d ∈ (l.foldl (relD n k) X).getD at' [] ↔ d ∈ X.getD at' [] ∨ ∃ r ∈ l, ∃ j, j < r.2.length ^ k ∧ lastP (PL n k r j) = at' ∧ d = (cI (PL n k r j), keys r.2)
 | [], X, _, _, a, d => by simp
 | r :: l, X, hX, hl, a, d => by
  rw [List.foldl_cons, foldRD_mem hn hk hk1 l _ (by rw [relD_len]; exact hX) (fun r hr => hl r (List.mem_cons_of_mem _ hr))]
  unfold relD
  rw [(foldD_mem (hl r (by simp)) hn hk hk1 hX _ (Nat.le_refl _)).1]
  constructor
  ·rintro ((h1 | ⟨j, h1⟩) | ⟨q, h1, h2⟩)
   ·exact .inl h1
   ·exact .inr ⟨r, by simp, j, h1⟩
   ·exact .inr ⟨q, by simp [h1], h2⟩
  ·rintro (h1 | ⟨q, h1, h2⟩)
   ·exact .inl (.inl h1)
   ·rcases List.mem_cons.1 h1 with rfl | h1
    ·exact .inl (.inr h2)
    ·exact .inr ⟨q, h1, h2⟩
theorem demD_mem (h : RelsOk n k rels) (at' : Nat) (d) : d ∈ (demD n k rels).getD at' [] ↔ ∃ r ∈ rels, ∃ j, j < r.2.length ^ k ∧ lastP (PL n k r j) = at' ∧ d = (cI (PL n k r j), keys r.2) := by
 unfold demD
 rw [foldRD_mem h.hn h.hk.2 h.hk.1 rels _ (by simp) h.ok]
 constructor
 ·rintro (h1 | h1)
  ·exact absurd h1 repl_mem
  ·exact h1
 ·exact .inr
def metB (n k : Nat) (rels : List RelT) (at' : Nat) (tab : List Int) : Bool :=
 rels.all fun r => (List.range (r.2.length ^ k)).all fun j => !decide (lastP (PL n k r j) = at') || decide ((cI (PL n k r j)).map (valI tab) ∈ r.2)
theorem valI_take {t : List Int} {x q : Nat} (h : x < q) : valI (t.take q) (x : Int) = valI t (x : Int) := by
 simp [valI, List.getD_eq_getElem?_getD, List.getElem?_take, h]
theorem metB_take {at' : Nat} {tab : List Int} : metB n k rels at' (tab.take (at' + 1)) = metB n k rels at' tab := by
 unfold metB
 congr 1; funext r; congr 1; funext j
 by_cases e : lastP (PL n k r j) = at'
 ·have : (cI (PL n k r j)).map (valI (tab.take (at' + 1))) = (cI (PL n k r j)).map (valI tab) := by
   refine List.map_congr_left fun x hx => ?_
   unfold cI at hx
   obtain ⟨y, hy, rfl⟩ := List.mem_map.1 hx
   have := (lastP_le (PL n k r j) 0).2 y hy
   unfold lastP at e
   exact valI_take (by omega)
  rw [this]
 ·simp [e]
theorem dem_len (h : RelsOk n k rels) : (demD n k rels).length = n ^ k ∧ roomD (demD n k rels) 2097152 := by
 have := demD_inv h rels.length (Nat.le_refl _)
 rw [List.take_length] at this
 have hl := h.len
 exact ⟨this.1, fun p => by have := this.2 p; unfold demD; omega⟩
theorem demN_len (h : RelsOk n k rels) : (demN n k rels).length = n ^ k ∧ roomD (demN n k rels) 2097152 := by
 have := demN_inv h rels.length (Nat.le_refl _)
 rw [List.take_length] at this
 have hl := h.len
 exact ⟨this.1, fun p => by have := this.2 p; unfold demN; omega⟩
theorem fits_ok (h : RelsOk n k rels) {tab : List Int} (ht : tab.length = n ^ k) (hv : ∀ x ∈ tab, 0 ≤ x ∧ x < 256) {at' : Nat} (ha : at' < n ^ k) :
    impl_polySearch_fits_p (true, (n : Int), (k : Int), demD n k rels) tab (at' : Int) = some (metB n k rels at' tab) := by
  obtain ⟨hlen, hroom⟩ := dem_len h
  have hp := pow_le3 h.hn.2 h.hk.2
  have hkey : ∀ d ∈ (demD n k rels).getD at' [], ∃ r ∈ rels, ∃ j, j < r.2.length ^ k ∧ lastP (PL n k r j) = at' ∧ d = (cI (PL n k r j), keys r.2) ∧ impl_compose d.1 tab = some (d.1.map (valI tab)) ∧ impl_keyOf (d.1.map (valI tab)) = some (keyB (d.1.map (valI tab))) ∧ mhas d.2 (keyB (d.1.map (valI tab))) = decide (d.1.map (valI tab) ∈ r.2) := fun d hd => by
    obtain ⟨r, hr, j, hj, hla, rfl⟩ := (demD_mem h at' d).1 hd
    have hrk := h.ok r hr
    have hm := hrk.hm
    have hpl : ∀ v ∈ cI (PL n k r j), 0 ≤ v ∧ v < tab.length := fun v hv => by
      unfold cI at hv
      obtain ⟨y, hy, rfl⟩ := List.mem_map.1 hv
      have := (lastP_le (PL n k r j) 0).2 y hy
      unfold lastP at hla
      omega
    have hval : ∀ x ∈ (cI (PL n k r j)).map (valI tab), 0 ≤ x ∧ x < 256 := fun x hx => by
      obtain ⟨v, hvv, rfl⟩ := List.mem_map.1 hx
      obtain ⟨h1, h2⟩ := hpl v hvv
      have : v.toNat < tab.length := by omega
      unfold valI
      rw [getD_of this]
      exact hv _ (List.getElem_mem this)
    refine ⟨r, hr, j, hj, hla, rfl, impl_compose_ok (by rw [cI_len, hrk.pl_len]; omega) hpl, impl_keyOf_ok (by rw [List.length_map, cI_len, hrk.pl_len]; omega) hval, ?_⟩
    exact mhas_keys (fun u hu x hx => by have := hrk.tv u hu x hx; have := h.hn; omega) hval
  have e : metB n k rels at' tab = ((demD n k rels).getD at' []).all fun d => mhas d.2 (keyB (d.1.map (valI tab))) := by
    rw [Bool.eq_iff_iff, List.all_eq_true]
    unfold metB
    simp only [List.all_eq_true, Bool.or_eq_true, Bool.not_eq_true', decide_eq_false_iff_not, decide_eq_true_eq, List.mem_range]
    constructor
    · intro h1 d hd
      obtain ⟨r, hr, j, hj, hla, e1, _, _, h2⟩ := hkey d hd
      rw [h2, decide_eq_true_eq, e1]
      rcases h1 r hr j hj with h3 | h3
      · exact absurd hla h3
      · exact h3
    · intro h1 r hr j hj
      by_cases hla : lastP (PL n k r j) = at'
      · right
        have hd := (demD_mem h at' (cI (PL n k r j), keys r.2)).2 ⟨r, hr, j, hj, hla, rfl⟩
        have h2 := h1 _ hd
        have hrk := h.ok r hr
        rw [mhas_keys (fun u hu x hx => by have := hrk.tv u hu x hx; have := h.hn; omega) (fun x hx => by
          obtain ⟨v, hvv, rfl⟩ := List.mem_map.1 hx
          unfold cI at hvv
          obtain ⟨y, hy, rfl⟩ := List.mem_map.1 hvv
          have := (lastP_le (PL n k r j) 0).2 y hy
          unfold lastP at hla
          have hyt : y < tab.length := by omega
          unfold valI
          rw [getD_of (by simpa using hyt)]
          exact hv _ (List.getElem_mem _)), decide_eq_true_eq] at h2
        exact h2
      · exact .inl hla
  have hgd : gd (demD n k rels) (at' : Int) [] = (demD n k rels).getD at' [] := rfl
  unfold impl_polySearch_fits_p
  simp only [if_true, inb_nat, hlen, ha, hgd]
  have hro := hroom at'
  generalize (demD n k rels).getD at' [] = l at hkey e hro
  rw [e]
  have := allX l (fun f i => impl_polySearch_fits_p_L2 f (tab, l, (l.length : Int), i)) (fun d => mhas d.2 (keyB (d.1.map (valI tab)))) (.inr false) (.inl ()) (fun f i hi => ?_) (fun f => ?_) (n := fuel) (by unfold fuel; omega)
  · have this : impl_polySearch_fits_p_L2 fuel (tab, l, (l.length : Int), 0) = _ := this
    rw [this]
    cases l.all fun d => mhas d.2 (keyB (d.1.map (valI tab))) <;> rfl
  · obtain ⟨r, hr, j, hj, hla, e1, h1, h2, _⟩ := hkey _ (List.getElem_mem hi)
    simp only [impl_polySearch_fits_p_L2, inb_nat, hi, gd_nat hi, h1, h2, Option.bind_some, w64_succ (show i < 4611686018427387904 by omega)]
    rw [if_pos (by simp; omega)]
    cases mhas l[i].2 (keyB (l[i].1.map (valI tab))) <;> simp
  · simp [impl_polySearch_fits_p_L2]
end
end T
open Go Go.Va
namespace T
abbrev PS := Bool × Int × Int × DT
abbrev SIn (σ : Type) := Int × List Int × σ × PS × List Int × Unit
abbrev SOut (σ : Type) := List Int × σ × PS × List Int × Bool
def gL {σ : Type} (rec : SIn σ → Option (SOut σ)) : Nat → (Int × List Int × σ × PS × List Int × Unit × Int) → Option ((List Int × σ × PS × List Int × Unit) ⊕ (List Int × σ × PS × List Int × Unit × Bool))
 | 0, _ => none
 | n + 1, (at_, t1, t2, t3, t4, t5, x) =>
  if t3.1 = true then
   if decide (x < t3.2.1) then
    if inb at_ t4 then
     if decide ((gd t4 at_ 0) ≥ 0) then
      if inb at_ t4 then
       if (gd t4 at_ 0) != x then
        gL rec n (at_, t1, t2, t3, t4, (), w64 (x + 1))
       else
        if inb at_ t1 then
         (impl_polySearch_fits_p t3 (stt t1 at_ x) at_).bind fun r2 =>
          if r2 then
           (rec (w64 (at_ + 1), stt t1 at_ x, t2, t3, t4, ())).bind fun r3 =>
            if !r3.2.2.2.2 then
             some (.inr (r3.1, r3.2.1, r3.2.2.1, r3.2.2.2.1, (), false))
            else
             gL rec n (at_, r3.1, r3.2.1, r3.2.2.1, r3.2.2.2.1, (), w64 (x + 1))
          else
           gL rec n (at_, stt t1 at_ x, t2, t3, t4, (), w64 (x + 1))
        else none
      else none
     else
      if inb at_ t1 then
       (impl_polySearch_fits_p t3 (stt t1 at_ x) at_).bind fun r4 =>
        if r4 then
         (rec (w64 (at_ + 1), stt t1 at_ x, t2, t3, t4, ())).bind fun r5 =>
          if !r5.2.2.2.2 then
           some (.inr (r5.1, r5.2.1, r5.2.2.1, r5.2.2.2.1, (), false))
          else
           gL rec n (at_, r5.1, r5.2.1, r5.2.2.1, r5.2.2.2.1, (), w64 (x + 1))
        else
         gL rec n (at_, stt t1 at_ x, t2, t3, t4, (), w64 (x + 1))
      else none
    else none
   else
    some (.inl (t1, t2, t3, t4, ()))
  else none
def gBody {σ : Type} (cb : List Int → σ → Option (σ × Bool)) (rec : SIn σ → Option (SOut σ)) (x : SIn σ) : Option (SOut σ) :=
 if x.1 == (x.2.1.length : Int) then
  (cb x.2.1 x.2.2.1).bind fun r1 => some (x.2.1, r1.1, x.2.2.2.1, x.2.2.2.2.1, r1.2)
 else
  (gL rec fuel (x.1, x.2.1, x.2.2.1, x.2.2.2.1, x.2.2.2.2.1, (), 0)).bind fun s2 =>
   match s2 with
   | .inl s3 => some (s3.1, s3.2.1, s3.2.2.1, s3.2.2.2.1, true)
   | .inr s4 => some (s4.1, s4.2.1, s4.2.2.1, s4.2.2.2.1, s4.2.2.2.2.2)
def gF {σ : Type} (cb : List Int → σ → Option (σ × Bool)) : Nat → SIn σ → Option (SOut σ)
 | 0, _ => none
 | d + 1, x => gBody cb (gF cb d) x
def foldU {σ : Type} (cb : List Int → σ → Option (σ × Bool)) : List (List Int) → σ → Option (σ × Bool)
 | [], s => some (s, true)
 | t :: l, s => match cb t s with | some (s', true) => foldU cb l s' | some (s', false) => some (s', false) | none => none
theorem foldU_append {σ : Type} {cb : List Int → σ → Option (σ × Bool)} : ∀ (l l' : List (List Int)) (s : σ), foldU cb (l ++ l') s = match foldU cb l s with | some (s', true) => foldU cb l' s' | some (s', false) => some (s', false) | none => none
 | [], l', s => rfl
 | t :: l, l', s => by
  simp only [List.cons_append, foldU]
  cases hc : cb t s with
  | none => rfl
  | some q =>
   obtain ⟨s', b⟩ := q
   cases b with
   | false => rfl
   | true => exact foldU_append l l' s'
def mstB (given : List Int) (at' x : Nat) : Bool := !(decide (given.getD at' 0 ≥ 0) && given.getD at' 0 != (x : Int))
def extL (n : Nat) (given : List Int) (ok : List Int → Bool) : Nat → List Int → List (List Int)
 | 0, pre => [pre]
 | m + 1, pre => (List.range n).flatMap fun x => if mstB given pre.length x && ok (pre ++ [(x : Int)]) then extL n given ok m (pre ++ [(x : Int)]) else []
section
variable {n k : Nat} {rels : List RelT} {given : List Int}
def okB (n k : Nat) (rels : List RelT) (pre : List Int) : Bool := metB n k rels (pre.length - 1) pre
theorem gF_ok (h : RelsOk n k rels) (hg : given.length = n ^ k) {σ : Type} (cb : List Int → σ → Option (σ × Bool)) : ∀ (m d at' : Nat) (tab : List Int) (s : σ), at' + m = n ^ k → m < d → tab.length = n ^ k → (∀ x ∈ tab, 0 ≤ x ∧ x < 256) →
    ∀ s' b, foldU cb (extL n given (okB n k rels) m (tab.take at')) s = some (s', b) →
    ∃ tab' : List Int, tab'.length = n ^ k ∧ (∀ x ∈ tab', 0 ≤ x ∧ x < 256) ∧ tab'.take at' = tab.take at' ∧ gF cb d ((at' : Int), tab, s, (true, (n : Int), (k : Int), demD n k rels), given, ()) = some (tab', s', (true, (n : Int), (k : Int), demD n k rels), given, b) := by
  have hn := h.hn
  have hp := pow_le3 (n := n) (k := k) hn.2 h.hk.2
  intro m
  induction m with
  | zero =>
    intro d a tab s ha hd ht hv s' b hf
    obtain ⟨d, rfl⟩ : ∃ z, d = z + 1 := ⟨d - 1, by omega⟩
    have e : tab.take a = tab := List.take_of_length_le (by omega)
    rw [e] at hf
    simp only [extL, foldU] at hf
    refine ⟨tab, ht, hv, rfl, ?_⟩
    simp only [gF, gBody]
    rw [if_pos (by simp; omega)]
    cases hc : cb tab s with
    | none => rw [hc] at hf; exact absurd hf (by simp)
    | some q =>
      obtain ⟨s1, b1⟩ := q
      rw [hc] at hf
      have : s1 = s' ∧ b1 = b := by cases b1 <;> simpa using hf
      obtain ⟨rfl, rfl⟩ := this
      rfl
  | succ m ih =>
    intro d a tab s ha hd ht hv s' b hf
    obtain ⟨d, rfl⟩ : ∃ z, d = z + 1 := ⟨d - 1, by omega⟩
    have hat : a < n ^ k := by omega
    have key : ∀ (c x f : Nat) (tab1 : List Int) (s1 : σ), x + c = n → c < f → tab1.length = n ^ k → (∀ x ∈ tab1, 0 ≤ x ∧ x < 256) → tab1.take a = tab.take a → ∀ s' b,
        foldU cb ((List.range' x c).flatMap fun x => if mstB given (tab.take a).length x && okB n k rels (tab.take a ++ [(x : Int)]) then extL n given (okB n k rels) m (tab.take a ++ [(x : Int)]) else []) s1 = some (s', b) →
        ∃ tab' : List Int, tab'.length = n ^ k ∧ (∀ x ∈ tab', 0 ≤ x ∧ x < 256) ∧ tab'.take a = tab.take a ∧ gL (gF cb d) f ((a : Int), tab1, s1, (true, (n : Int), (k : Int), demD n k rels), given, (), (x : Int)) = some (if b then .inl (tab', s', (true, (n : Int), (k : Int), demD n k rels), given, ()) else .inr (tab', s', (true, (n : Int), (k : Int), demD n k rels), given, (), false)) := by
      intro c
      induction c with
      | zero =>
        intro x f tab1 s1 hx hf1 ht1 hv1 htk s' b hf2
        obtain ⟨f, rfl⟩ : ∃ z, f = z + 1 := ⟨f - 1, by omega⟩
        have : s1 = s' ∧ true = b := by simpa [foldU] using hf2
        obtain ⟨rfl, rfl⟩ := this
        refine ⟨tab1, ht1, hv1, htk, ?_⟩
        simp only [gL]
        rw [if_pos trivial, if_neg (by simp; omega)]; rfl
      | succ c ihc =>
        intro x f tab1 s1 hx hf1 ht1 hv1 htk s' b hf2
        obtain ⟨f, rfl⟩ : ∃ z, f = z + 1 := ⟨f - 1, by omega⟩
        have hlen : (tab.take a).length = a := by rw [List.length_take]; omega
        have hag : a < given.length := by omega
        have hat1 : a < tab1.length := by omega
        rw [List.range'_succ, List.flatMap_cons, foldU_append, hlen] at hf2
        rw [hlen] at ihc
        have hset : (tab1.set a (x : Int)).take (a + 1) = tab.take a ++ [(x : Int)] := by
          rw [List.take_succ_eq_append_getElem (by simp; omega), List.take_set_of_le (Nat.le_refl _), List.getElem_set_self, htk]
        have hsl : (tab1.set a (x : Int)).length = n ^ k := by simp [ht1]
        have hsv : ∀ y ∈ tab1.set a (x : Int), 0 ≤ y ∧ y < 256 := fun y hy => by
          rcases List.mem_or_eq_of_mem_set hy with h1 | h1
          · exact hv1 y h1
          · subst h1; omega
        have hst : (tab1.set a (x : Int)).take a = tab.take a := by rw [List.take_set_of_le (Nat.le_refl _), htk]
        have hfit := fits_ok h hsl hsv hat
        have hokB : okB n k rels (tab.take a ++ [(x : Int)]) = metB n k rels a (tab1.set a (x : Int)) := by
          unfold okB
          rw [List.length_append, hlen, List.length_singleton, Nat.add_sub_cancel, ← hset, metB_take]
        have hw : w64 ((x : Int) + 1) = ((x + 1 : Nat) : Int) := w64_succ (by omega)
        have hwa : w64 ((a : Int) + 1) = ((a + 1 : Nat) : Int) := w64_succ (by omega)
        have step : mstB given a x = true → ∀ R, R = (impl_polySearch_fits_p (true, (n : Int), (k : Int), demD n k rels) (tab1.set a (x : Int)) (a : Int)).bind (fun r4 =>
                if r4 then
                  (gF cb d (w64 ((a : Int) + 1), tab1.set a (x : Int), s1, (true, (n : Int), (k : Int), demD n k rels), given, ())).bind fun r5 =>
                    if !r5.2.2.2.2 then
                      some (.inr (r5.1, r5.2.1, r5.2.2.1, r5.2.2.2.1, (), false))
                    else
                      gL (gF cb d) f ((a : Int), r5.1, r5.2.1, r5.2.2.1, r5.2.2.2.1, (), w64 ((x : Int) + 1))
                else
                  gL (gF cb d) f ((a : Int), tab1.set a (x : Int), s1, (true, (n : Int), (k : Int), demD n k rels), given, (), w64 ((x : Int) + 1))) →
            ∃ tab' : List Int, tab'.length = n ^ k ∧ (∀ x ∈ tab', 0 ≤ x ∧ x < 256) ∧ tab'.take a = tab.take a ∧ R = some (if b then .inl (tab', s', (true, (n : Int), (k : Int), demD n k rels), given, ()) else .inr (tab', s', (true, (n : Int), (k : Int), demD n k rels), given, (), false)) := by
          intro hm R hR
          rw [hfit] at hR
          simp only [Option.bind_some] at hR
          rw [hm, hokB] at hf2
          cases hfi : metB n k rels a (tab1.set a (x : Int)) with
          | false =>
            rw [hfi] at hf2 hR
            simp only [Bool.and_false, Bool.false_eq_true, if_false, foldU] at hf2 hR
            rw [hw] at hR
            rw [hR]
            exact ihc (x + 1) f _ s1 (by omega) (by omega) hsl hsv hst s' b hf2
          | true =>
            rw [hfi] at hf2 hR
            simp only [Bool.and_true, if_true] at hf2 hR
            rw [hwa] at hR
            cases hq : foldU cb (extL n given (okB n k rels) m (tab.take a ++ [(x : Int)])) s1 with
            | none => rw [hq] at hf2; exact absurd hf2 (by simp)
            | some q =>
              obtain ⟨s2, b2⟩ := q
              rw [hq] at hf2
              rw [← hset] at hq
              obtain ⟨tab2, h1, h2, h3, h4⟩ := ih d (a + 1) _ s1 (by omega) (by omega) hsl hsv s2 b2 hq
              have h3' : tab2.take a = tab.take a := by
                have := congrArg (List.take a) h3
                rw [List.take_take, List.take_take, Nat.min_eq_left (by omega)] at this
                rw [this, hst]
              rw [h4] at hR
              simp only [Option.bind_some] at hR
              cases b2 with
              | false =>
                have : s2 = s' ∧ false = b := by simpa using hf2
                obtain ⟨rfl, rfl⟩ := this
                refine ⟨tab2, h1, h2, h3', ?_⟩
                rw [hR]; rfl
              | true =>
                simp only [Bool.not_true, Bool.false_eq_true, if_false, hw] at hR
                rw [hR]
                exact ihc (x + 1) f tab2 s2 (by omega) (by omega) h1 h2 h3' s' b hf2
        simp only [gL, stt_nat, inb_nat, hag, hat1, if_true]
        rw [if_pos (by simp; omega)]
        by_cases hc1 : gd given (a : Int) 0 ≥ 0
        · rw [if_pos (decide_eq_true hc1)]
          by_cases hc2 : gd given (a : Int) 0 = (x : Int)
          · rw [if_neg (by simpa using hc2)]
            exact step (by unfold mstB; rw [show given.getD a 0 = (x : Int) from hc2]; simp) _ rfl
          · rw [if_pos (by simpa using hc2), hw]
            have hm : mstB given a x = false := by
              unfold mstB
              rw [decide_eq_true (show given.getD a 0 ≥ 0 from hc1)]
              simp only [Bool.true_and, Bool.not_eq_false', bne_iff_ne]; exact hc2
            rw [hm] at hf2
            simp only [Bool.false_and, Bool.false_eq_true, if_false, foldU] at hf2
            exact ihc (x + 1) f tab1 s1 (by omega) (by omega) ht1 hv1 htk s' b hf2
        · rw [if_neg (by simpa using hc1)]
          exact step (by unfold mstB; rw [decide_eq_false (show ¬ given.getD a 0 ≥ 0 from hc1)]; rfl) _ rfl
    simp only [extL] at hf
    rw [List.range_eq_range'] at hf
    obtain ⟨tab', h1, h2, h3, h4⟩ := key n 0 fuel tab s (by omega) (by unfold fuel; omega) ht hv rfl s' b hf
    refine ⟨tab', h1, h2, h3, ?_⟩
    simp only [gF, gBody]
    rw [if_neg (by simp; omega)]
    have h4 : gL (gF cb d) fuel ((a : Int), tab, s, (true, (n : Int), (k : Int), demD n k rels), given, (), 0) = _ := h4
    rw [h4]
    cases b <;> rfl
end
end T
open Go Go.Va
namespace T
section
variable {n k : Nat} {rels : List RelT} {given : List Int}
theorem spec_l13Has_ok {m : Nat} {r : RelT} (h : ROk n m r) {t : List Int} (ht : t.length = m) : spec_l13Has r t = some (decide (t ∈ r.2)) := by
 have hm := h.hm
 have har := h.ar
 have hmany := h.many
 unfold spec_l13Has
 obtain ⟨q, h3, _⟩ := spec_l8Find_ok (list := r.2) (t := t) (k := m) (by omega) (by omega) h.tl ht h.inc
 rw [if_neg (by simp; omega), h3]; rfl
theorem holds_ok (h : RelsOk n k rels) {tab : List Int} {at' : Nat} (ht : tab.length = at' + 1) : spec_l14Holds ((demN n k rels).getD at' []) tab = some (okB n k rels tab) := by
 obtain ⟨hlen, hroom⟩ := demN_len h
 have hkey : ∀ d ∈ (demN n k rels).getD at' [], ∃ r ∈ rels, ∃ j, j < r.2.length ^ k ∧ lastP (PL n k r j) = at' ∧ d = (cI (PL n k r j), r) ∧ (∀ v ∈ d.1, 0 ≤ v ∧ v < tab.length) ∧ d.1.length ≤ 3 ∧ spec_l13Has d.2 (d.1.map (valI tab)) = some (decide (d.1.map (valI tab) ∈ d.2.2)) := fun d hd => by
  obtain ⟨r, hr, j, hj, hla, rfl⟩ := (demN_mem h at' d).1 hd
  have hrk := h.ok r hr
  have hm := hrk.hm
  have hpl : ∀ v ∈ cI (PL n k r j), 0 ≤ v ∧ v < tab.length := fun v hv => by
   unfold cI at hv
   obtain ⟨y, hy, rfl⟩ := List.mem_map.1 hv
   have := (lastP_le (PL n k r j) 0).2 y hy
   unfold lastP at hla
   omega
  refine ⟨r, hr, j, hj, hla, rfl, hpl, by rw [cI_len, hrk.pl_len]; omega, spec_l13Has_ok hrk (by rw [List.length_map, cI_len, hrk.pl_len])⟩
 have e : okB n k rels tab = ((demN n k rels).getD at' []).all fun d => decide (d.1.map (valI tab) ∈ d.2.2) := by
  rw [Bool.eq_iff_iff, List.all_eq_true]
  unfold okB metB
  rw [show tab.length - 1 = at' by omega]
  simp only [List.all_eq_true, Bool.or_eq_true, Bool.not_eq_true', decide_eq_false_iff_not, decide_eq_true_eq, List.mem_range]
  constructor
  ·intro h1 d hd
   obtain ⟨r, hr, j, hj, hla, e1, _⟩ := hkey d hd
   rw [e1]
   rcases h1 r hr j hj with h3 | h3
   ·exact absurd hla h3
   ·exact h3
  ·intro h1 r hr j hj
   by_cases hla : lastP (PL n k r j) = at'
   ·right
    exact h1 _ ((demN_mem h at' (cI (PL n k r j), r)).2 ⟨r, hr, j, hj, hla, rfl⟩)
   ·exact .inl hla
 have hro := hroom at'
 rw [e]
 generalize (demN n k rels).getD at' [] = l at hkey hro
 unfold spec_l14Holds
 have := allX l (fun f i => spec_l14Holds_L2 f (l, tab, i)) (fun d => decide (d.1.map (valI tab) ∈ d.2.2)) (.inr false) (.inl ()) (fun f i hi => ?_) (fun f => ?_) (n := fuel) (by unfold fuel; omega)
 ·have this : spec_l14Holds_L2 fuel (l, tab, 0) = _ := this
  rw [this]
  cases l.all fun d => decide (d.1.map (valI tab) ∈ d.2.2) <;> rfl
 ·obtain ⟨r, hr, j, hj, hla, e1, h1, h2, h3⟩ := hkey _ (List.getElem_mem hi)
  have h6 := forS l[i].1.length (fun f (o : List Int) q => spec_l14Holds_L6 f (l, tab, (i : Int), o, q)) (fun q => (l[i].1.take q).map (valI tab)) (r := some (l, tab, (i : Int), l[i].1.map (valI tab))) (fun f q hq => ?_) (fun f => ?_) (n := fuel) (by unfold fuel; omega)
  ·have h6 : spec_l14Holds_L6 fuel (l, tab, (i : Int), [], 0) = _ := h6
   simp only [spec_l14Holds_L2, h6, Option.bind_some, inb_nat, hi, gd_nat hi, h3, w64_succ (show i < 4611686018427387904 by omega), if_true]
   rw [if_pos (by simp; omega)]
   by_cases hc : l[i].1.map (valI tab) ∈ l[i].2.2
   ·rw [decide_eq_true hc]; simp
   ·rw [decide_eq_false hc]; simp
  ·obtain ⟨hv0, hv1⟩ := h1 _ (List.getElem_mem hq)
   have hin : inb l[i].1[q] tab := ⟨hv0, hv1⟩
   have hval : gd tab l[i].1[q] 0 = valI tab l[i].1[q] := rfl
   have htk : (l[i].1.take (q + 1)).map (valI tab) = (l[i].1.take q).map (valI tab) ++ [valI tab l[i].1[q]] := by
    rw [List.take_succ_eq_append_getElem hq, List.map_append]; rfl
   simp only [spec_l14Holds_L6, inb_nat, hi, gd_nat hi, hq, gd_nat hq, hin, hval, htk, if_true, w64_succ (show q < 4611686018427387904 by omega)]
   rw [if_pos (by simp; omega), if_pos (by simp; unfold lim; omega)]
  ·simp only [spec_l14Holds_L6, inb_nat, hi, gd_nat hi, List.take_length, if_true]
   rw [if_neg (by simp)]
 ·simp [spec_l14Holds_L2]
abbrev SS := List (List Int) × Int × Int
def stopB (s : SS) : Bool := s.2.2 == 1 && decide (s.2.1 > 0)
def sCb (t : List Int) (s : SS) : Option (SS × Bool) :=
 let s' : SS := (if decide ((s.1.length : Int) < s.2.2) then s.1 ++ [t] else s.1, s.2.1 + 1, s.2.2)
 some (s', !stopB s')
theorem foldS_cnt : ∀ (l : List (List Int)) (s s' : SS) (b : Bool), foldU sCb l s = some (s', b) → s.2.1 ≤ s'.2.1 ∧ s'.2.1 ≤ s.2.1 + l.length ∧ s'.1.length ≤ s.1.length + l.length ∧ s'.2.2 = s.2.2 ∧ (stopB s = false → b = !stopB s')
 | [], s, s', b, h => by
  have : s = s' ∧ true = b := by simpa [foldU] using h
  obtain ⟨rfl, rfl⟩ := this
  exact ⟨by omega, by simp, by simp, rfl, fun h => by simp [h]⟩
 | t :: l, s, s', b, h => by
  simp only [foldU, sCb] at h
  generalize hs1 : ((if decide ((s.1.length : Int) < s.2.2) then s.1 ++ [t] else s.1, s.2.1 + 1, s.2.2) : SS) = s1 at h
  have h1 : s1.2.1 = s.2.1 + 1 := by rw [← hs1]
  have h2 : s1.1.length ≤ s.1.length + 1 := by
   rw [← hs1]
   show (if decide ((s.1.length : Int) < s.2.2) then s.1 ++ [t] else s.1).length ≤ _
   split <;> simp
  have h3 : s1.2.2 = s.2.2 := by rw [← hs1]
  cases hb : stopB s1 with
  | true =>
   rw [hb] at h
   have : s1 = s' ∧ false = b := by simpa using h
   obtain ⟨rfl, rfl⟩ := this
   rw [List.length_cons]
   exact ⟨by omega, by omega, by omega, h3, fun _ => by rw [hb]; rfl⟩
  | false =>
   rw [hb] at h
   obtain ⟨g1, g2, g3, g4, g5⟩ := foldS_cnt l s1 s' b h
   rw [List.length_cons]
   exact ⟨by omega, by push_cast; omega, by omega, by omega, fun _ => g5 hb⟩
theorem foldS_tot : ∀ (l : List (List Int)) (s : SS), ∃ q, foldU sCb l s = some q
 | [], s => ⟨_, rfl⟩
 | t :: l, s => by
  simp only [foldU, sCb]
  generalize ((if decide ((s.1.length : Int) < s.2.2) then s.1 ++ [t] else s.1, s.2.1 + 1, s.2.2) : SS) = s1
  cases hb : stopB s1 with
  | true => exact ⟨_, rfl⟩
  | false => exact foldS_tot l s1
theorem go_ok (h : RelsOk n k rels) (hg : given.length = n ^ k) : ∀ (m d : Nat) (pre : List Int) (s : SS), pre.length + m = n ^ k → m < d → stopB s = false → 0 ≤ s.2.1 → s.2.2 ≤ 1000000 → s.2.1 + (extL n given (okB n k rels) m pre).length ≤ 4611686018427387904 →
    ∀ s' b, foldU sCb (extL n given (okB n k rels) m pre) s = some (s', b) → spec_l14Go d ((n : Int), demN n k rels, given, pre, s) = some s' := by
  have hn := h.hn
  have hp := pow_le3 (n := n) (k := k) hn.2 h.hk.2
  obtain ⟨hlenN, _⟩ := demN_len h
  intro m
  induction m with
  | zero =>
    intro d pre s hpre hd hst h0 hr1 hr2 s' b hf
    obtain ⟨d, rfl⟩ : ∃ z, d = z + 1 := ⟨d - 1, by omega⟩
    simp only [extL, foldU, sCb] at hf
    simp only [spec_l14Go, spec_l14Go_body]
    simp only [extL, List.length_singleton] at hr2
    have hs' : s' = (if decide ((s.1.length : Int) < s.2.2) then s.1 ++ [pre] else s.1, s.2.1 + 1, s.2.2) := by
      cases hb : stopB ((if decide ((s.1.length : Int) < s.2.2) then s.1 ++ [pre] else s.1, s.2.1 + 1, s.2.2) : SS) <;> rw [hb] at hf <;> simp at hf <;> rw [← hf.1] <;> simp
    have hw : w64 (s.2.1 + 1) = s.2.1 + 1 := w64_id (by omega) (by omega)
    rw [if_pos (by simp; omega), hs', hw, spec_l1Own_ok (by omega)]
    by_cases hc : (s.1.length : Int) < s.2.2
    · rw [if_pos (decide_eq_true hc), if_pos (decide_eq_true hc)]
      simp only [Option.bind_some]
      rw [if_pos (by rw [List.length_singleton]; unfold lim; omega)]
    · rw [if_neg (by simpa using hc), if_neg (by simpa using hc)]
  | succ m ih =>
    intro d pre s hpre hd hst h0 hr1 hr2 s' b hf
    obtain ⟨d, rfl⟩ : ∃ z, d = z + 1 := ⟨d - 1, by omega⟩
    have hat : pre.length < n ^ k := by omega
    have key : ∀ (c x f : Nat) (s1 : SS), x + c = n → c < f → stopB s1 = false → 0 ≤ s1.2.1 →
        s1.2.2 ≤ 1000000 →
        s1.2.1 + ((List.range' x c).flatMap fun x => if mstB given pre.length x && okB n k rels (pre ++ [(x : Int)]) then extL n given (okB n k rels) m (pre ++ [(x : Int)]) else []).length ≤ 4611686018427387904 → ∀ s' b,
        foldU sCb ((List.range' x c).flatMap fun x => if mstB given pre.length x && okB n k rels (pre ++ [(x : Int)]) then extL n given (okB n k rels) m (pre ++ [(x : Int)]) else []) s1 = some (s', b) →
        spec_l14Go_L8 (spec_l14Go d) f ((n : Int), demN n k rels, given, pre, s1, ([], (0, 0)), (pre.length : Int), (x : Int)) = some (if b then .inl (s', ([], (0, 0))) else .inr s') := by
      intro c
      induction c with
      | zero =>
        intro x f s1 hx hf1 hst1 h01 hr1 hr2 s' b hf2
        obtain ⟨f, rfl⟩ : ∃ z, f = z + 1 := ⟨f - 1, by omega⟩
        have : s1 = s' ∧ true = b := by simpa [foldU] using hf2
        obtain ⟨rfl, rfl⟩ := this
        simp only [spec_l14Go_L8]
        rw [if_neg (by simp; omega)]; rfl
      | succ c ihc =>
        intro x f s1 hx hf1 hst1 h01 hr1 hr2 s' b hf2
        obtain ⟨f, rfl⟩ : ∃ z, f = z + 1 := ⟨f - 1, by omega⟩
        have hag : pre.length < given.length := by omega
        have haN : pre.length < (demN n k rels).length := by omega
        rw [List.range'_succ, List.flatMap_cons, foldU_append] at hf2
        rw [List.range'_succ, List.flatMap_cons, List.length_append] at hr2
        have hol := holds_ok h (tab := pre ++ [(x : Int)]) (at' := pre.length) (by simp)
        have hw : w64 ((x : Int) + 1) = ((x + 1 : Nat) : Int) := w64_succ (by omega)
        have step : mstB given pre.length x = true → ∀ R, R = (spec_l14Holds (gd (demN n k rels) (pre.length : Int) []) (pre ++ [(x : Int)])).bind (fun r6 =>
                  if r6 then
                    (spec_l14Go d ((n : Int), demN n k rels, given, pre ++ [(x : Int)], (s1.1, (s1.2.1, s1.2.2)))).bind fun r7 =>
                      if r7.2.2 == 1 then
                        if decide (r7.2.1 > 0) then
                          some (.inr (r7.1, (r7.2.1, r7.2.2)))
                        else
                          spec_l14Go_L8 (spec_l14Go d) f ((n : Int), demN n k rels, given, pre, (r7.1, (r7.2.1, r7.2.2)), ([], (0, 0)), (pre.length : Int), w64 ((x : Int) + 1))
                      else
                        spec_l14Go_L8 (spec_l14Go d) f ((n : Int), demN n k rels, given, pre, (r7.1, (r7.2.1, r7.2.2)), ([], (0, 0)), (pre.length : Int), w64 ((x : Int) + 1))
                  else
                    if s1.2.2 == 1 then
                      if decide (s1.2.1 > 0) then
                        some (.inr (s1.1, (s1.2.1, s1.2.2)))
                      else
                        spec_l14Go_L8 (spec_l14Go d) f ((n : Int), demN n k rels, given, pre, (s1.1, (s1.2.1, s1.2.2)), ([], (0, 0)), (pre.length : Int), w64 ((x : Int) + 1))
                    else
                      spec_l14Go_L8 (spec_l14Go d) f ((n : Int), demN n k rels, given, pre, (s1.1, (s1.2.1, s1.2.2)), ([], (0, 0)), (pre.length : Int), w64 ((x : Int) + 1))) →
            R = some (if b then .inl (s', ([], (0, 0))) else .inr s') := by
          intro hm R hR
          have hgd : gd (demN n k rels) (pre.length : Int) [] = (demN n k rels).getD pre.length [] := rfl
          rw [hgd, hol] at hR
          simp only [Option.bind_some, hw] at hR
          rw [hm] at hf2 hr2
          have hnst : ∀ (z : SS) {γ : Type} (A B : γ), stopB z = false → (if z.2.2 == 1 then if decide (z.2.1 > 0) then A else B else B) = B := fun z γ A B hz => by
            unfold stopB at hz
            by_cases h1 : z.2.2 = 1
            · rw [if_pos (by simpa using h1), if_neg (by simp [h1] at hz; simpa using hz)]
            · rw [if_neg (by simpa using h1)]
          have hyst : ∀ (z : SS) {γ : Type} (A B : γ), stopB z = true → (if z.2.2 == 1 then if decide (z.2.1 > 0) then A else B else B) = A := fun z γ A B hz => by
            unfold stopB at hz
            simp only [Bool.and_eq_true] at hz
            rw [if_pos hz.1, if_pos hz.2]
          cases hfi : okB n k rels (pre ++ [(x : Int)]) with
          | false =>
            rw [hfi] at hf2 hr2 hR
            simp only [Bool.and_false, Bool.false_eq_true, if_false, foldU, List.length_nil, Nat.zero_add] at hf2 hr2 hR
            rw [hnst s1 _ _ hst1] at hR
            rw [hR]
            exact ihc (x + 1) f s1 (by omega) (by omega) hst1 h01 hr1 hr2 s' b hf2
          | true =>
            rw [hfi] at hf2 hr2 hR
            simp only [Bool.and_true, if_true] at hf2 hr2 hR
            obtain ⟨⟨s2, b2⟩, hq⟩ := foldS_tot (extL n given (okB n k rels) m (pre ++ [(x : Int)])) s1
            obtain ⟨g1, g2, g3, g4, g5⟩ := foldS_cnt _ _ _ _ hq
            have g5 := g5 hst1
            rw [hq] at hf2
            have hrec := ih d (pre ++ [(x : Int)]) s1 (by simp; omega) (by omega) hst1 h01 (by omega) (by push_cast at hr2; omega) s2 b2 hq
            have hrec : spec_l14Go d ((n : Int), demN n k rels, given, pre ++ [(x : Int)], (s1.1, (s1.2.1, s1.2.2))) = some s2 := hrec
            rw [hrec] at hR
            simp only [Option.bind_some] at hR
            cases hb2 : stopB s2 with
            | true =>
              rw [hb2] at g5
              subst g5
              have : s2 = s' ∧ false = b := by simpa using hf2
              obtain ⟨rfl, rfl⟩ := this
              rw [hyst s2 _ _ hb2] at hR
              rw [hR]; rfl
            | false =>
              rw [hb2] at g5
              subst g5
              rw [hnst s2 _ _ hb2] at hR
              rw [hR]
              exact ihc (x + 1) f s2 (by omega) (by omega) hb2 (by omega) (by push_cast at hr2; omega) (by push_cast at hr2; omega) s' b hf2
        simp only [spec_l14Go_L8, inb_nat, hag, haN, if_true, spec_l1Own_ok (show pre.length ≤ 1099511627775 by omega), Option.bind_some]
        rw [if_pos (by simp; omega)]
        have hlim : pre.length + [(x : Int)].length ≤ lim := by rw [List.length_singleton]; unfold lim; omega
        rw [if_pos hlim]
        by_cases hc1 : gd given (pre.length : Int) 0 ≥ 0
        · rw [if_pos (decide_eq_true hc1)]
          by_cases hc2 : gd given (pre.length : Int) 0 = (x : Int)
          · rw [if_neg (by simpa using hc2)]
            exact step (by unfold mstB; rw [show given.getD pre.length 0 = (x : Int) from hc2]; simp) _ rfl
          · rw [if_pos (by simpa using hc2), hw]
            have hm : mstB given pre.length x = false := by
              unfold mstB
              rw [decide_eq_true (show given.getD pre.length 0 ≥ 0 from hc1)]
              simp only [Bool.true_and, Bool.not_eq_false', bne_iff_ne]; exact hc2
            rw [hm] at hf2 hr2
            simp only [Bool.false_and, Bool.false_eq_true, if_false, foldU, List.length_nil, Nat.zero_add] at hf2 hr2
            exact ihc (x + 1) f s1 (by omega) (by omega) hst1 h01 hr1 hr2 s' b hf2
        · rw [if_neg (by simpa using hc1)]
          exact step (by unfold mstB; rw [decide_eq_false (show ¬ given.getD pre.length 0 ≥ 0 from hc1)]; rfl) _ rfl
    simp only [extL] at hf hr2
    rw [List.range_eq_range'] at hf hr2
    have h4 := key n 0 fuel s (by omega) (by unfold fuel; omega) hst h0 hr1 hr2 s' b hf
    simp only [spec_l14Go, spec_l14Go_body]
    rw [if_neg (by simp; omega)]
    have h4 : spec_l14Go_L8 (spec_l14Go d) fuel ((n : Int), demN n k rels, given, pre, (s.1, (s.2.1, s.2.2)), ([], (0, 0)), (pre.length : Int), 0) = _ := h4
    rw [h4]
    cases b <;> rfl
end
end T
open Go Go.Va
namespace T
section
variable {n k : Nat} {rels : List RelT} {given : List Int}
theorem ext_len {ok : List Int → Bool} : ∀ (m : Nat) (pre : List Int), (extL n given ok m pre).length ≤ n ^ m
 | 0, pre => by simp [extL]
 | m + 1, pre => by
  simp only [extL]
  have key : ∀ (l : List Nat), (l.flatMap fun x => if mstB given pre.length x && ok (pre ++ [(x : Int)]) then extL n given ok m (pre ++ [(x : Int)]) else []).length ≤ l.length * n ^ m := by
   intro l
   induction l with
   | nil => simp
   | cons x l ih =>
    rw [List.flatMap_cons, List.length_append, List.length_cons, Nat.succ_mul]
    have : (if mstB given pre.length x && ok (pre ++ [(x : Int)]) then extL n given ok m (pre ++ [(x : Int)]) else []).length ≤ n ^ m := by
     split
     ·exact ext_len m _
     ·simp
    omega
  have := key (List.range n)
  rw [List.length_range] at this
  rw [Nat.pow_succ, Nat.mul_comm]
  exact this
def allT (n k : Nat) (rels : List RelT) (given : List Int) : List (List Int) := extL n given (okB n k rels) (n ^ k) []
theorem allT_len : (allT n k rels given).length ≤ n ^ n ^ k := ext_len _ _
theorem foldS_many {most : Int} (h1 : most ≠ 1) : ∀ (l : List (List Int)) (f : List (List Int)) (c : Int), foldU sCb l (f, c, most) = some ((f ++ l.take (most - f.length).toNat, c + l.length, most), true)
 | [], f, c => by simp [foldU]
 | t :: l, f, c => by
  have hns : ∀ (f' : List (List Int)) (c' : Int), stopB (f', c', most) = false := fun f' c' => by unfold stopB; simp [h1]
  simp only [foldU, sCb, hns, Bool.not_false]
  rw [foldS_many h1 l]
  by_cases hc : (f.length : Int) < most
  ·rw [if_pos (by simpa using hc)]
   have e1 : (most - (f.length : Int)).toNat = (most - ((f ++ [t]).length : Int)).toNat + 1 := by rw [List.length_append, List.length_singleton]; omega
   rw [e1, List.take_succ_cons]
   simp; omega
  ·rw [if_neg (by simpa using hc)]
   have e1 : (most - (f.length : Int)).toNat = 0 := by omega
   rw [e1]; simp; omega
theorem spec_l14All_ok (h : RelsOk n k rels) (hg : given.length = n ^ k) (hz : n ^ n ^ k ≤ 4611686018427387904) {most : Int} (hm : most ≤ 1000000) :
    ∃ s b, foldU sCb (allT n k rels given) ([], 0, most) = some (s, b) ∧ spec_l14All (n : Int) rels (k : Int) given most = some s := by
  obtain ⟨⟨s, b⟩, hf⟩ := foldS_tot (allT n k rels given) ([], 0, most)
  refine ⟨s, b, hf, ?_⟩
  have := go_ok h hg (n ^ k) fuel [] ([], 0, most) (by simp) (by have := pow_le3 (n := n) (k := k) h.hn.2 h.hk.2; unfold fuel; omega) (by unfold stopB; simp) (by simp) hm (by have := allT_len (n := n) (k := k) (rels := rels) (given := given); unfold allT at this; simp; omega) s b hf
  unfold spec_l14All
  rw [spec_l14Needs_ok h]
  simp only [Option.bind_some, this]
theorem each_ok (h : RelsOk n k rels) (hg : given.length = n ^ k) {σ : Type} (cb : List Int → σ → Option (σ × Bool)) {s s' : σ} {b : Bool} (hf : foldU cb (allT n k rels given) s = some (s', b)) :
    ∃ r : SOut σ, gF cb fuel (0, List.replicate (Int.toNat (given.length : Int)) (0 : Int), s, (true, (n : Int), (k : Int), demD n k rels), given, ()) = some r ∧ r.2.1 = s' := by
  have hp := pow_le3 (n := n) (k := k) h.hn.2 h.hk.2
  obtain ⟨tab', h1, h2, h3, h4⟩ := gF_ok h hg cb (n ^ k) fuel 0 (List.replicate (Int.toNat (given.length : Int)) (0 : Int)) s (by omega) (by unfold fuel; omega) (by rw [List.length_replicate, hg, Int.toNat_natCast]) (fun x hx => by rw [(List.mem_replicate.1 hx).2]; omega) s' b hf
  exact ⟨_, h4, rfl⟩
def firstR (k : Nat) (l : List (List Int)) : Opn × Bool := match l with | [] => ((0, []), false) | t :: _ => (((k : Int), t), true)
end
end T
open Go Go.Va
namespace T
abbrev relsT : Ty := .slice (.pair .int (.slice (.slice .int)))
def relsS (a : List RelT) : Prop := a.length ≤ 1048576 ∧ ∀ r ∈ a, rowsS r.2
def totR (r : RelT) : Nat := totSS r.2
def totRS (a : List RelT) : Nat := a.length + (a.map totR).sum
theorem szRelationS_ok {a : List RelT} {left : Int} (h : wfT relsT a) (h0 : 0 ≤ left) (h1 : left ≤ 1099511627775) : laws_szRelationS a left = some (szR (totRS a) left) := by
 refine szX0 a laws_szRelation totR (fun n s i => laws_szRelationS_L5 n (a, s, i)) _ h0 h1 (fun r hm s h0 h1 => ?_) h.1 (fun n s k hk hk4 => ?_) (fun n s => ?_) rfl
 ·have := h.2 r hm
  unfold laws_szRelation
  rw [szIntSS_ok h0 h1 this.2.1 fun t ht => (this.2.2 t ht).1]
  simp only [Option.bind_some]
  unfold totR szR
  split
  ·rw [if_neg (by simp; omega)]
  ·rfl
 ·simp only [laws_szRelationS_L5, inb_nat, gd_nat hk, w64_succ hk4]
  simp [hk]
 ·simp [laws_szRelationS_L5]
theorem relsS_of {a : List RelT} {left : Int} (hl : left ≤ 1048576) (h : ¬ szR (totRS a) left < 0) : relsS a ∧ (totRS a : Int) ≤ left := by
 unfold szR at h
 split at h
 ·refine ⟨⟨by unfold totRS at *; omega, fun r hr => ?_⟩, by omega⟩
  have h1 := sum_mem totR hr
  have h2 : totR r ≤ 1048576 := by unfold totRS at *; omega
  unfold totR totSS at h2
  exact ⟨by omega, fun t ht => by have := mem_sum ht; omega⟩
 ·omega
theorem toRelation_ok {r : RelT} (h : rowsS r.2) : laws_toRelation r = some r := by
 unfold laws_toRelation
 rw [toIntSS_ok (by have := h.1; omega) fun t ht => by have := h.2 t ht; omega]
 rfl
theorem toRelationS_ok {a : List RelT} (h : relsS a) : laws_toRelationS a = some a := by
 refine toX a laws_toRelation (0, []) (fun n out i => laws_toRelationS_L3 n (a, out, i)) _ h.1 (fun c hc => toRelation_ok (h.2 c hc)) (fun n out k hk hl hk4 => ?_) (fun n out hl => ?_) rfl
 ·simp only [laws_toRelationS_L3, inb_nat, gd_nat hk, stt_nat, w64_succ hk4]
  simp [hk, hl]
 ·simp [laws_toRelationS_L3]
theorem eqRelation_ok {a b : RelT} (h : rowsS a.2) : laws_eqRelation a b = some (decide (a = b)) := by
 unfold laws_eqRelation
 rw [eqIntSS_ok (by have := h.1; omega) fun r hr => by have := h.2 r hr; omega]
 obtain ⟨a1, a2⟩ := a
 obtain ⟨b1, b2⟩ := b
 by_cases h1 : a1 = b1
 ·by_cases h2 : a2 = b2 <;> simp [h1, h2]
 ·simp [h1]
theorem eqRelationS_ok {a b : List RelT} (h : relsS a) : laws_eqRelationS a b = some (decide (a = b)) := by
 refine eqXX a b laws_eqRelation (fun n i => laws_eqRelationS_L4 n (a, b, i)) _ h.1 (fun x hx y => eqRelation_ok (h.2 x hx)) (fun n k h1 h2 hk4 => ?_) (fun n => ?_) rfl
 ·simp only [laws_eqRelationS_L4, inb_nat, gd_nat h1, gd_nat h2, w64_succ hk4]
  simp [h1, h2]
 ·simp [laws_eqRelationS_L4]
def mRel (r : RelT) (k : Int) : RelT × Int := ((k, (mIntSS r.2 (k + 1)).1), (mIntSS r.2 (k + 1)).2)
def wR (r : RelT) : Nat := 1 + (r.2.map List.length).sum
theorem mRel_far (r : RelT) (k : Int) : (mRel r k).2 = k + wR r := by
 unfold mRel wR; dsimp only
 rw [mIntSS_far]; push_cast; omega
theorem markRelationS_ok {l : List RelT} {k : Int} (h : relsS l) (h0 : 0 ≤ k) (hB : k + ((l.map wR).sum : Nat) ≤ BM) : laws_markRelationS l k = some (mkL mRel l k) := by
 have hl := h.1
 unfold laws_markRelationS
 have := markX l.length (fun n a k i => laws_markRelationS_L2 n (a, k, i)) mRel wR BM (fun a k => some (a, k)) l k rfl (fun x _ k => mRel_far x k) h0 hB (fun n a k i hi hl' hm hk0 hkB => ?_) (fun n a k hl' => ?_) (n := fuel) (by unfold fuel; omega)
 ·rw [this]; rfl
 ·have hia : i < a.length := by omega
  have hc := h.2 _ hm
  have hkB' : k + 1 + ((a[i].2.map List.length).sum : Nat) ≤ BM := by unfold wR at hkB; push_cast at hkB; omega
  have hk1 : w64 (k + 1) = k + 1 := w64_id (by omega) (by unfold BM at hkB'; omega)
  have hia1 : ∀ y, i < (a.set i y).length := fun y => by simpa using hia
  simp only [laws_markRelationS_L2, inb_nat, stt_nat, gd_nat hia, w64_succ (show i < 4611686018427387904 by omega), Option.bind_some, gd_nat (hia1 _), List.getElem_set_self, List.set_set, hk1, markIntSS_ok hc.1 hc.2 (show 0 ≤ k + 1 by omega) hkB']
  simp [hl', hi, mRel]
 ·simp [laws_markRelationS_L2, hl']
theorem sum_wR {l : List RelT} : (l.map wR).sum ≤ totRS l := by
 unfold totRS
 induction l with
 | nil => simp
 | cons c l ih =>
  simp only [List.map_cons, List.sum_cons, List.length_cons]
  have : wR c ≤ 1 + totR c := by unfold wR totR totSS; omega
  omega
theorem markRels_ok {a : List RelT} {k : Int} (h : relsS a) (ht : totRS a ≤ 1048576) (h0 : 0 ≤ k) (hk : k ≤ 1000000000) : ∃ b k', laws_markRelationS a k = some (b, k') ∧ 0 ≤ k' ∧ k' ≤ k + 1048576 := by
 have h1 := @sum_wR a
 have e := markRelationS_ok h h0 (by unfold BM; omega)
 refine ⟨_, _, e, ?_, ?_⟩
 ·rw [mkL_far (w := wR) _ _ fun c _ k => mRel_far c k]; omega
 ·rw [mkL_far (w := wR) _ _ fun c _ k => mRel_far c k]; omega
def tmplB (n : Int) (rels : List RelT) : Bool := decide (1 ≤ n ∧ n ≤ 4) && decide (rels.length ≤ 4) && rels.all (relB n)
def fewB (k : Int) (rels : List RelT) : Bool := rels.all fun r => !(k == 3 && decide ((r.2.length : Int) > 12))
theorem impl_canAsk_ok {n k : Int} {rels : List RelT} (h : relsS rels) : impl_canAsk n rels k = some (tmplB n rels && fewB k rels) := by
 have hl := h.1
 unfold impl_canAsk impl_isTemplateSize impl_isTemplate tmplB
 by_cases h1 : 1 ≤ n ∧ n ≤ 4
 ·rw [if_pos (by simp; omega)]
  simp only [Option.bind_some]
  rw [if_neg (by simp; omega)]
  by_cases h2 : rels.length ≤ 4
  ·rw [if_neg (by simp; omega)]
   have e1 := allX rels (fun f i => impl_isTemplate_L4 f (n, rels, (rels.length : Int), i)) (relB n) (.inr false) (.inl ()) (fun f i hi => by
    have := h.2 _ (List.getElem_mem hi)
    simp only [impl_isTemplate_L4, inb_nat, hi, gd_nat hi, impl_isRelation_ok (r := (rels[i].1, rels[i].2)) this, Option.bind_some, w64_succ (show i < 4611686018427387904 by omega)]
    rw [if_pos (by simp; omega)]
    cases relB n rels[i] <;> simp) (fun f => by simp [impl_isTemplate_L4]) (n := fuel) (by unfold fuel; omega)
   have e2 := allX rels (fun f i => impl_canAsk_L4 f (k, rels, (rels.length : Int), i)) (fun r => !(k == 3 && decide ((r.2.length : Int) > 12))) (.inr false) (.inl ()) (fun f i hi => by
    simp only [impl_canAsk_L4, inb_nat, hi, gd_nat hi, w64_succ (show i < 4611686018427387904 by omega)]
    rw [if_pos (by simp; omega)]
    by_cases c1 : k = 3
    ·by_cases c2 : (rels[i].2.length : Int) > 12
     ·simp [c1, c2]
     ·simp [c1, c2]
    ·simp [c1]) (fun f => by simp [impl_canAsk_L4]) (n := fuel) (by unfold fuel; omega)
   rw [e1]
   unfold fewB
   cases hr : rels.all (relB n) with
   | false => simp
   | true =>
    simp only [Option.bind_some, if_true, Bool.not_true, Bool.false_eq_true, if_false]
    rw [e2]
    cases rels.all fun r => !(k == 3 && decide ((r.2.length : Int) > 12)) <;> simp [h1, h2]
  ·rw [if_pos (by simp; omega)]
   simp [h2]
 ·by_cases h2 : n ≥ 1
  ·rw [if_pos (by simpa using h2)]
   have : ¬ n ≤ 4 := by omega
   simp [this]
  ·rw [if_neg (by simpa using h2)]
   have : ¬ 1 ≤ n := by omega
   simp [this]
theorem spec_l14Takes_ok {n k : Int} {rels : List RelT} (h : relsS rels) : spec_l14Takes n rels k = some (tmplB n rels && decide (1 ≤ k ∧ k ≤ 3) && fewB k rels) := by
 have hl := h.1
 unfold spec_l14Takes spec_l14Size spec_l14Rels tmplB
 rw [spec_l1In_ok, spec_l1In_ok]
 by_cases h1 : 1 ≤ n ∧ n ≤ 4
 ·simp only [Option.bind_some]
  rw [if_neg (by simp; omega)]
  by_cases h2 : rels.length ≤ 4
  ·rw [if_neg (by simp; omega)]
   have e1 := allX rels (fun f i => spec_l14Rels_L4 f (n, rels, i)) (relB n) (.inr false) (.inl ()) (fun f i hi => by
    have := h.2 _ (List.getElem_mem hi)
    simp only [spec_l14Rels_L4, inb_nat, hi, gd_nat hi, spec_l13Good_ok (n := n) this (by omega), Option.bind_some, w64_succ (show i < 4611686018427387904 by omega)]
    rw [if_pos (by simp; omega)]
    cases relB n rels[i] <;> simp) (fun f => by simp [spec_l14Rels_L4]) (n := fuel) (by unfold fuel; omega)
   have e2 := allX rels (fun f i => spec_l14Takes_L4 f (rels, k, i)) (fun r => !(k == 3 && decide ((r.2.length : Int) > 12))) (.inr false) (.inl ()) (fun f i hi => by
    simp only [spec_l14Takes_L4, inb_nat, hi, gd_nat hi, w64_succ (show i < 4611686018427387904 by omega)]
    rw [if_pos (by simp; omega)]
    by_cases c1 : k = 3
    ·by_cases c2 : (rels[i].2.length : Int) > 12
     ·simp [c1, c2]
     ·simp [c1, c2]
    ·simp [c1]) (fun f => by simp [spec_l14Takes_L4]) (n := fuel) (by unfold fuel; omega)
   rw [e1]
   unfold fewB
   cases hr : rels.all (relB n) with
   | false => simp
   | true =>
    simp only [Option.bind_some, if_true, Bool.not_true, Bool.false_eq_true, if_false]
    rw [e2]
    by_cases hk : 1 ≤ k ∧ k ≤ 3
    ·rw [if_neg (by simp; omega)]
     cases rels.all fun r => !(k == 3 && decide ((r.2.length : Int) > 12)) <;> simp [h1, h2, hk]
    ·rw [if_pos (by simp; omega)]; simp [hk]
  ·rw [if_pos (by simp; omega)]
   simp [h2]
 ·simp [h1]
theorem tmpl_of {n : Int} {rels : List RelT} (h : tmplB n rels = true) : (1 ≤ n ∧ n ≤ 4) ∧ rels.length ≤ 4 ∧ ∀ r ∈ rels, ROk n.toNat r.1.toNat r := by
 unfold tmplB at h
 simp only [Bool.and_eq_true, decide_eq_true_eq, List.all_eq_true] at h
 obtain ⟨⟨h1, h2⟩, h3⟩ := h
 refine ⟨h1, h2, fun r hr => rok_of (by omega) ?_⟩
 rw [Int.toNat_of_nonneg (by omega)]; exact h3 r hr
theorem rels_of {n : Int} {rels : List RelT} {k : Nat} (h : tmplB n rels = true) (hk : 1 ≤ k ∧ k ≤ 3) : RelsOk n.toNat k rels := by
 obtain ⟨h1, h2, h3⟩ := tmpl_of h
 exact ⟨by omega, hk, by omega, h3⟩
theorem freeI_ok {N : Nat} (h : N ≤ 1000) : impl_freeTable (N : Int) = some (List.replicate N (-1)) := by
 unfold impl_freeTable
 rw [Int.toNat_natCast, if_pos (by unfold lim; omega)]
 have := forS N (fun f o i => impl_freeTable_L3 f (o, ((List.replicate N (0 : Int)).length : Int), i)) (fun j => List.replicate j (-1) ++ List.replicate (N - j) (0 : Int)) (r := some (List.replicate N (-1))) (fun f j hj => ?_) (fun f => ?_) (n := fuel) (by unfold fuel; omega)
 ·have this : impl_freeTable_L3 fuel (List.replicate N (0 : Int), ((List.replicate N (0 : Int)).length : Int), 0) = _ := this
  rw [this]; rfl
 ·have hin : j < (List.replicate j (-1) ++ List.replicate (N - j) (0 : Int)).length := by simp; omega
  have e : (List.replicate j (-1) ++ List.replicate (N - j) (0 : Int)).set j (-1) = List.replicate (j + 1) (-1) ++ List.replicate (N - (j + 1)) (0 : Int) := by
   rw [show N - j = (N - (j + 1)) + 1 by omega, List.replicate_succ, List.set_append_right _ _ (by simp), List.replicate_succ']
   simp
  simp only [impl_freeTable_L3, inb_nat, hin, stt_nat, e, if_true, w64_succ (show j < 4611686018427387904 by omega)]
  rw [if_pos (by simp; omega)]
 ·simp only [impl_freeTable_L3]
  rw [if_neg (by simp)]; simp
theorem freeS_ok {N : Nat} (h : N ≤ 1000) : spec_l14Free (N : Int) = some (List.replicate N (-1)) := by
 unfold spec_l14Free
 have := forS N (fun f o i => spec_l14Free_L3 f ((N : Int), o, i)) (fun j => List.replicate j (-1)) (r := some (List.replicate N (-1))) (fun f j hj => ?_) (fun f => ?_) (n := fuel) (by unfold fuel; omega)
 ·have this : spec_l14Free_L3 fuel ((N : Int), [], 0) = _ := this
  rw [this]; rfl
 ·simp only [spec_l14Free_L3, List.replicate_succ', w64_succ (show j < 4611686018427387904 by omega)]
  rw [if_pos (by simp; omega), if_pos (by simp; unfold lim; omega)]
 ·simp only [spec_l14Free_L3]
  rw [if_neg (by simp)]
end T
open Go Go.Va
namespace T
section
variable {n k : Int} {rels : List RelT}
def idemAt (n k x : Nat) : Nat := (List.range k).foldl (fun a _ => a * n + x) 0
theorem idemAt_lt {n x : Nat} (hx : x < n) (hn : n ≤ 4) : ∀ k, k ≤ 3 → idemAt n k x < n ^ k ∧ idemAt n k x ≤ 64 := by
 intro k hk
 have : ∀ k, idemAt n k x < n ^ k := by
  intro k
  induction k with
  | zero => simp [idemAt]
  | succ k ih =>
   have e : idemAt n (k + 1) x = idemAt n k x * n + x := by unfold idemAt; rw [range_fold]
   rw [e, Nat.pow_succ]
   have : (idemAt n k x + 1) * n ≤ n ^ k * n := Nat.mul_le_mul_right _ ih
   rw [Nat.succ_mul] at this
   omega
 have h1 := this k
 have h2 := pow_le3 hn hk
 omega
def idemT (n k : Nat) : List Int := (List.range n).foldl (fun o x => o.set (idemAt n k x) (x : Int)) (List.replicate (n ^ k) (-1))
theorem idemT_len {n k : Nat} : (idemT n k).length = n ^ k := by
 unfold idemT
 have : ∀ (l : List Nat) (o : List Int), (l.foldl (fun o x => o.set (idemAt n k x) (x : Int)) o).length = o.length := by
  intro l
  induction l with
  | nil => intro o; rfl
  | cons x l ih => intro o; rw [List.foldl_cons, ih]; simp
 rw [this]; simp
theorem idemO_len {n k : Nat} : ∀ (l : List Nat) (o : List Int), (l.foldl (fun o x => o.set (idemAt n k x) (x : Int)) o).length = o.length
 | [], o => rfl
 | x :: l, o => by rw [List.foldl_cons, idemO_len l]; simp
theorem idem_ok {n k : Nat} (hn : 1 ≤ n ∧ n ≤ 4) (hk : 1 ≤ k ∧ k ≤ 3) : impl_idempotentTable (n : Int) (k : Int) = some (idemT n k) ∧ spec_l14Idempotent (n : Int) (k : Int) = some (idemT n k) := by
 have h64 := pow_le3 hn.2 hk.2
 have i7 : ∀ (o : List Int) (x : Nat), x < n → impl_idempotentTable_L7 fuel ((n : Int), (k : Int), o, (x : Int), 0, 0) = some ((n : Int), (k : Int), o, (x : Int), ((idemAt n k x : Nat) : Int)) := fun o x hx => by
  have := forS k (fun f s i => impl_idempotentTable_L7 f ((n : Int), (k : Int), o, (x : Int), s, i)) (fun i => ((idemAt n i x : Nat) : Int)) (r := some ((n : Int), (k : Int), o, (x : Int), ((idemAt n k x : Nat) : Int))) (fun f i hi => by
   have e : idemAt n (i + 1) x = idemAt n i x * n + x := by unfold idemAt; rw [range_fold]
   have := idemAt_lt hx hn.2 i (by omega)
   simp only [impl_idempotentTable_L7, w64_step hn.2 this.2 hx, e, w64_succ (show i < 4611686018427387904 by omega)]
   rw [if_pos (by simp; omega)]) (fun f => by simp [impl_idempotentTable_L7]) (n := fuel) (by unfold fuel; omega)
  exact this
 have s7 : ∀ (o : List Int) (x : Nat), x < n → spec_l14Idempotent_L7 fuel ((n : Int), (k : Int), o, (x : Int), 0, 0) = some ((n : Int), (k : Int), o, (x : Int), ((idemAt n k x : Nat) : Int)) := fun o x hx => by
  have := forS k (fun f s i => spec_l14Idempotent_L7 f ((n : Int), (k : Int), o, (x : Int), s, i)) (fun i => ((idemAt n i x : Nat) : Int)) (r := some ((n : Int), (k : Int), o, (x : Int), ((idemAt n k x : Nat) : Int))) (fun f i hi => by
   have e : idemAt n (i + 1) x = idemAt n i x * n + x := by unfold idemAt; rw [range_fold]
   have := idemAt_lt hx hn.2 i (by omega)
   simp only [spec_l14Idempotent_L7, w64_step hn.2 this.2 hx, e, w64_succ (show i < 4611686018427387904 by omega)]
   rw [if_pos (by simp; omega)]) (fun f => by simp [spec_l14Idempotent_L7]) (n := fuel) (by unfold fuel; omega)
  exact this
 have i3 := forS n (fun f o x => impl_idempotentTable_L3 f ((n : Int), (k : Int), o, x)) (fun j => (List.range j).foldl (fun o x => o.set (idemAt n k x) (x : Int)) (List.replicate (n ^ k) (-1))) (r := some (idemT n k)) (fun f x hx => by
  have h1 := idemAt_lt hx hn.2 k hk.2
  have h2 : idemAt n k x < ((List.range x).foldl (fun o x => o.set (idemAt n k x) (x : Int)) (List.replicate (n ^ k) (-1))).length := by rw [idemO_len]; simp; exact h1.1
  simp only [impl_idempotentTable_L3, i7 _ x hx, Option.bind_some, inb_nat, h2, stt_nat, range_fold, if_true, w64_succ (show x < 4611686018427387904 by omega)]
  rw [if_pos (by simp; omega)]) (fun f => by simp only [impl_idempotentTable_L3]; rw [if_neg (by simp)]; rfl) (n := fuel) (by unfold fuel; omega)
 have s3 := forS n (fun f o x => spec_l14Idempotent_L3 f ((n : Int), (k : Int), o, x)) (fun j => (List.range j).foldl (fun o x => o.set (idemAt n k x) (x : Int)) (List.replicate (n ^ k) (-1))) (r := some (idemT n k)) (fun f x hx => by
  have h1 := idemAt_lt hx hn.2 k hk.2
  have h2 : idemAt n k x < ((List.range x).foldl (fun o x => o.set (idemAt n k x) (x : Int)) (List.replicate (n ^ k) (-1))).length := by rw [idemO_len]; simp; exact h1.1
  simp only [spec_l14Idempotent_L3, s7 _ x hx, Option.bind_some, inb_nat, h2, stt_nat, range_fold, if_true, w64_succ (show x < 4611686018427387904 by omega)]
  rw [if_pos (by simp; omega)]) (fun f => by simp only [spec_l14Idempotent_L3]; rw [if_neg (by simp)]; rfl) (n := fuel) (by unfold fuel; omega)
 have i3 : impl_idempotentTable_L3 fuel ((n : Int), (k : Int), List.replicate (n ^ k) (-1), 0) = _ := i3
 have s3 : spec_l14Idempotent_L3 fuel ((n : Int), (k : Int), List.replicate (n ^ k) (-1), 0) = _ := s3
 unfold impl_idempotentTable spec_l14Idempotent
 rw [impl_power64 (by omega) hk.2, spec_pow64 (by omega) hk.2]
 simp only [Option.bind_some, freeI_ok (show n ^ k ≤ 1000 by omega), freeS_ok (show n ^ k ≤ 1000 by omega), i3, s3, and_self]
end
end T
open Go Go.Va
namespace T
def cg (p a b : Int) : Prop := ∃ k, a = b + p * k
section
variable {p a b c d : Int}
end
inductive Sp (p : Int) (V : Nat) (A : List (List Int)) : (Nat → Int) → Prop
 | zero : Sp p V A fun _ => 0
 | add {f : Nat → Int} (r : List Int) (c : Int) : r ∈ A → Sp p V A f → Sp p V A fun i => f i + c * r.getD i 0
 | cgr {f g : Nat → Int} : Sp p V A f → (∀ i, i < V → cg p (g i) (f i)) → Sp p V A g
section
variable {p : Int} {V W N : Nat} {A B : List (List Int)} {f g : Nat → Int}
def eqSp (p : Int) (V : Nat) (A B : List (List Int)) : Prop := ∀ f, Sp p V A f ↔ Sp p V B f
end
end T
open Go Go.Va
namespace T
section
variable {p : Int} {V W N : Nat} {A B C D : List (List Int)} {f g : Nat → Int}
theorem eqSp.symm (h : eqSp p V A B) : eqSp p V B A := fun f => (h f).symm
theorem eqSp.trans (h : eqSp p V A B) (g : eqSp p V B C) : eqSp p V A C := fun f => (h f).trans (g f)
end
end T
open Go Go.Va
namespace T
def i64 (x : Int) : Prop := -9223372036854775808 ≤ x ∧ x ≤ 9223372036854775807
section
variable {c : List Int} {ar : Int}
end
end T
open Go Go.Va
namespace T
abbrev NS := Bool × Int × List (List (List Int)) × List (List (List ByteArray))
abbrev NIn (σ : Type) := Int × List Int × σ × NS × List Int × Unit
abbrev NOut (σ : Type) := List Int × σ × NS × List Int × Bool
def hM {σ : Type} : Nat → (Int × List Int × σ × NS × List Int × Unit × Int × Bool × List (List Int) × Int × Int) → Option (Int × List Int × σ × NS × List Int × Unit × Int × Bool)
 | 0, _ => none
 | n + 1, (t0, t1, t2, t3, t4, t5, t8, t9, t50, t51, t52) =>
  if decide (t52 < t51) then
   if inb t52 t50 then
    if t9 then
     if t3.1 = true then
      if inb t0 t3.2.2.2 then
       if inb t52 (gd t3.2.2.2 t0 []) then
        (impl_compose (gd t50 t52 []) t1).bind fun r2 =>
         (impl_keyOf r2).bind fun r3 =>
          hM n (t0, t1, t2, t3, t4, (), t8, mhas (gd (gd t3.2.2.2 t0 []) t52 []) r3, t50, t51, w64 (t52 + 1))
       else none
      else none
     else none
    else
     hM n (t0, t1, t2, t3, t4, (), t8, false, t50, t51, w64 (t52 + 1))
   else none
  else
   some (t0, t1, t2, t3, t4, (), t8, t9)
def hL {σ : Type} (rec : NIn σ → Option (NOut σ)) : Nat → (Int × List Int × σ × NS × List Int × Unit × Int) → Option ((List Int × σ × NS × List Int × Unit) ⊕ (List Int × σ × NS × List Int × Unit × Bool))
 | 0, _ => none
 | n + 1, (t0, t1, t2, t3, t4, t5, t8) =>
  if t3.1 = true then
   if decide (t8 < t3.2.1) then
    if inb t0 t4 then
     if decide ((gd t4 t0 0) ≥ 0) then
      if inb t0 t4 then
       if (gd t4 t0 0) != t8 then
        hL rec n (t0, t1, t2, t3, t4, (), w64 (t8 + 1))
       else
        if inb t0 t1 then
         if t3.1 = true then
          if inb t0 t3.2.2.1 then
           (hM fuel (t0, stt t1 t0 t8, t2, t3, t4, (), t8, true, gd t3.2.2.1 t0 [], ((gd t3.2.2.1 t0 []).length : Int), 0)).bind fun s2 =>
            if s2.2.2.2.2.2.2.2 then
             (rec (w64 (s2.1 + 1), s2.2.1, s2.2.2.1, s2.2.2.2.1, s2.2.2.2.2.1, ())).bind fun r3 =>
              if !r3.2.2.2.2 then
               some (.inr (r3.1, r3.2.1, r3.2.2.1, r3.2.2.2.1, (), false))
              else
               hL rec n (s2.1, r3.1, r3.2.1, r3.2.2.1, r3.2.2.2.1, (), w64 (s2.2.2.2.2.2.2.1 + 1))
            else
             hL rec n (s2.1, s2.2.1, s2.2.2.1, s2.2.2.2.1, s2.2.2.2.2.1, (), w64 (s2.2.2.2.2.2.2.1 + 1))
          else none
         else none
        else none
      else none
     else
      if inb t0 t1 then
       if t3.1 = true then
        if inb t0 t3.2.2.1 then
         (hM fuel (t0, stt t1 t0 t8, t2, t3, t4, (), t8, true, gd t3.2.2.1 t0 [], ((gd t3.2.2.1 t0 []).length : Int), 0)).bind fun s4 =>
          if s4.2.2.2.2.2.2.2 then
           (rec (w64 (s4.1 + 1), s4.2.1, s4.2.2.1, s4.2.2.2.1, s4.2.2.2.2.1, ())).bind fun r5 =>
            if !r5.2.2.2.2 then
             some (.inr (r5.1, r5.2.1, r5.2.2.1, r5.2.2.2.1, (), false))
            else
             hL rec n (s4.1, r5.1, r5.2.1, r5.2.2.1, r5.2.2.2.1, (), w64 (s4.2.2.2.2.2.2.1 + 1))
          else
           hL rec n (s4.1, s4.2.1, s4.2.2.1, s4.2.2.2.1, s4.2.2.2.2.1, (), w64 (s4.2.2.2.2.2.2.1 + 1))
        else none
       else none
      else none
    else none
   else
    some (.inl (t1, t2, t3, t4, ()))
  else none
def hBody {σ : Type} (cb : List Int → σ → Option (σ × Bool)) (rec : NIn σ → Option (NOut σ)) (x : NIn σ) : Option (NOut σ) :=
 if x.1 == (x.2.1.length : Int) then
  (cb x.2.1 x.2.2.1).bind fun r1 => some (x.2.1, r1.1, x.2.2.2.1, x.2.2.2.2.1, r1.2)
 else
  (hL rec fuel (x.1, x.2.1, x.2.2.1, x.2.2.2.1, x.2.2.2.2.1, (), 0)).bind fun s2 =>
   match s2 with
   | .inl s3 => some (s3.1, s3.2.1, s3.2.2.1, s3.2.2.2.1, true)
   | .inr s4 => some (s4.1, s4.2.1, s4.2.2.1, s4.2.2.2.1, s4.2.2.2.2.2)
def hF {σ : Type} (cb : List Int → σ → Option (σ × Bool)) : Nat → NIn σ → Option (NOut σ)
 | 0, _ => none
 | d + 1, x => hBody cb (hF cb d) x
section
variable {V n : Nat} {cs : List Con} {given : List Int}
end
end T
open Go Go.Va
namespace T
section
variable {n k m : Nat} {r : RelT} {rels : List RelT} {given t : List Int}
def polK (n k : Nat) (rels : List RelT) (t : List Int) : Bool := rels.all fun r => kB n k r.1.toNat ((k : Int), t) r
theorem res_map {i : Nat} : resT n ((k : Int), t) r.2 r.1.toNat (dg r.2.length k i) = (cI (PL n k r i)).map (valI t) := by
 unfold resT PL cI
 rw [List.map_map, List.map_map]
 rfl
theorem polK_iff : polK n k rels t = true ↔ ∀ r ∈ rels, ∀ i, i < r.2.length ^ k → (cI (PL n k r i)).map (valI t) ∈ r.2 := by
 unfold polK kB
 simp only [List.all_eq_true, List.mem_range, decide_eq_true_eq, res_map]
theorem ext_iff {ok : List Int → Bool} : ∀ (m : Nat) (pre t : List Int), t ∈ extL n given ok m pre ↔ t.length = pre.length + m ∧ t.take pre.length = pre ∧
    ∀ q, pre.length ≤ q → q < t.length → (0 ≤ t.getD q 0 ∧ t.getD q 0 < (n : Int)) ∧ mstB given q (t.getD q 0).toNat = true ∧ ok (t.take (q + 1)) = true
  | 0, pre, t => by
    simp only [extL, List.mem_singleton, Nat.add_zero]
    constructor
    · rintro rfl
      exact ⟨rfl, by simp, fun q h1 h2 => by omega⟩
    · rintro ⟨h1, h2, _⟩
      rw [← h2, List.take_of_length_le (by omega)]
  | m + 1, pre, t => by
    simp only [extL, List.mem_flatMap, List.mem_range]
    constructor
    · rintro ⟨x, hx, h⟩
      by_cases hc : (mstB given pre.length x && ok (pre ++ [(x : Int)])) = true
      · rw [if_pos hc] at h
        obtain ⟨h1, h2, h3⟩ := (ext_iff m (pre ++ [(x : Int)]) t).1 h
        rw [Bool.and_eq_true] at hc
        rw [List.length_append, List.length_singleton] at h1 h2 h3
        have hv : t.getD pre.length 0 = (x : Int) := by
          have hl : pre.length < t.length := by omega
          have e : (t.take (pre.length + 1)).getD pre.length 0 = t.getD pre.length 0 := by simp [List.getD_eq_getElem?_getD, List.getElem?_take]
          rw [← e, h2]; simp [List.getD_eq_getElem?_getD]
        refine ⟨by omega, ?_, fun q h4 h5 => ?_⟩
        · have : (t.take (pre.length + 1)).take pre.length = pre := by rw [h2]; simp
          rw [List.take_take] at this
          rwa [Nat.min_eq_left (by omega)] at this
        · by_cases e : q = pre.length
          · subst e
            rw [hv, h2]
            exact ⟨by omega, by rw [Int.toNat_natCast]; exact hc.1, hc.2⟩
          · exact h3 q (by omega) h5
      · rw [if_neg hc] at h; simp at h
    · rintro ⟨h1, h2, h3⟩
      have hl : pre.length < t.length := by omega
      obtain ⟨a1, a2, a3⟩ := h3 pre.length (Nat.le_refl _) hl
      have hx : (((t.getD pre.length 0).toNat : Nat) : Int) = t.getD pre.length 0 := Int.toNat_of_nonneg a1.1
      have ht : t.take (pre.length + 1) = pre ++ [(((t.getD pre.length 0).toNat : Nat) : Int)] := by
        rw [hx, List.take_succ_eq_append_getElem hl, h2, getD_of hl]
      refine ⟨(t.getD pre.length 0).toNat, by omega, ?_⟩
      rw [if_pos (by rw [Bool.and_eq_true]; exact ⟨a2, by rw [← ht]; exact a3⟩)]
      refine (ext_iff m _ t).2 ⟨by simp; omega, by rw [List.length_append, List.length_singleton]; exact ht, fun q h4 h5 => h3 q (by rw [List.length_append, List.length_singleton] at h4; omega) h5⟩
theorem allT_iff (h : RelsOk n k rels) : t ∈ allT n k rels given ↔ t.length = n ^ k ∧ (∀ x ∈ t, 0 ≤ x ∧ x < (n : Int)) ∧ (∀ q, q < n ^ k → mstB given q (t.getD q 0).toNat = true) ∧ polK n k rels t = true := by
 unfold allT
 rw [ext_iff, polK_iff]
 simp only [List.length_nil, Nat.zero_add, List.take_zero, true_and, Nat.zero_le, true_implies]
 have hok : ∀ q, q < t.length → (okB n k rels (t.take (q + 1)) = true ↔ metB n k rels q t = true) := fun q hq => by
  unfold okB
  rw [List.length_take, Nat.min_eq_left (by omega), Nat.add_sub_cancel, metB_take]
 constructor
 ·rintro ⟨h1, h3⟩
  refine ⟨h1, fun x hx => ?_, fun q hq => (h3 q (by omega)).2.1, fun r hr i hi => ?_⟩
  ·obtain ⟨j, hj, rfl⟩ := List.mem_iff_getElem.1 hx
   have := (h3 j hj).1
   rwa [getD_of hj] at this
  ·have hlt := last_lt (h.ok r hr) h.hn h.hk.1 hi
   have hm := (hok _ (by omega)).1 (h3 _ (show lastP (PL n k r i) < t.length by omega)).2.2
   unfold metB at hm
   simp only [List.all_eq_true, List.mem_range, Bool.or_eq_true, Bool.not_eq_true', decide_eq_false_iff_not, decide_eq_true_eq] at hm
   exact (hm r hr i hi).resolve_left fun hne => hne rfl
 ·rintro ⟨h1, h2, h3, h4⟩
  refine ⟨h1, fun q hq => ⟨?_, h3 q (by omega), (hok q hq).2 ?_⟩⟩
  ·rw [getD_of hq]; exact h2 _ (List.getElem_mem hq)
  ·unfold metB
   simp only [List.all_eq_true, List.mem_range, Bool.or_eq_true, Bool.not_eq_true', decide_eq_false_iff_not, decide_eq_true_eq]
   exact fun r hr i hi => .inr (h4 r hr i hi)
end
end T
open Go Go.Va
namespace T
theorem ite_map {c : Prop} [Decidable c] {α β : Type} {g : α → β} {a b : Option β} {a' b' : Option α} (h1 : a = a'.map g) (h2 : b = b'.map g) : (if c then a else b) = (if c then a' else b').map g := by
 by_cases h : c
 ·rw [if_pos h, if_pos h, h1]
 ·rw [if_neg h, if_neg h, h2]
section
variable {vars : List Int}
variable {V n : Nat}
end
end T
set_option linter.unusedVariables false
open Go Go.Va
namespace T
def spec_l2Good_L4 : Nat → ((Int × (List (Int × (List Int)))) × Int) → Option ((Unit) ⊕ (Bool))
 | 0, _ => none
 | n + 1, (a, i) =>
  if decide (i < (a.2.length : Int)) then
   if inb i a.2 then
    (spec_l2Op a.1 (gd a.2 i (0, []))).bind fun r2 =>
     if !r2 then
      some (.inr false)
     else
      spec_l2Good_L4 n ((a.1, a.2), w64 (i + 1))
   else none
  else
   some (.inl ())
def spec_l2Good (a : Int × (List (Int × (List Int)))) : Option (Bool) :=
 (spec_l1In a.1 1 8).bind fun r1 =>
  if !r1 then
   some false
  else
   if decide ((a.2.length : Int) > 4) then
    some false
   else
    (spec_l2Good_L4 fuel ((a.1, a.2), 0)).bind fun s2 =>
     match s2 with
     | .inl s3 =>
      some true
     | .inr s4 =>
      some s4
def spec_l2Takes (a : Int × (List (Int × (List Int)))) (op : Int) : Option (Bool) :=
 (spec_l2Good (a.1, a.2)).bind fun r1 =>
  if r1 then
   (spec_l1In op 0 (w64 ((a.2.length : Int) - 1))).bind fun r2 =>
    some r2
  else
   some false
def spec_l2Value_L3 : Nat → (Int × (List Int) × (Int × (List (Int × (List Int)))) × Int × Int) → Option (Int × (Int × (List (Int × (List Int)))) × Int)
 | 0, _ => none
 | n + 1, (op, args, a, at_, i) =>
  if decide (i < (args.length : Int)) then
   if inb i args then
    spec_l2Value_L3 n (op, args, (a.1, a.2), w64 ((w64 (at_ * a.1)) + (gd args i 0)), w64 (i + 1))
   else none
  else
   some (op, (a.1, a.2), at_)
def spec_l2Value (a : Int × (List (Int × (List Int)))) (op : Int) (args : List Int) : Option (Int) :=
 (spec_l2Value_L3 fuel (op, args, (a.1, a.2), 0, 0)).bind fun s1 =>
  if inb s1.1 s1.2.1.2 then
   if inb s1.2.2 ((gd s1.2.1.2 s1.1 (0, [])).2) then
    some (gd ((gd s1.2.1.2 s1.1 (0, [])).2) s1.2.2 0)
   else none
  else none
def spec_IsCommutative_L7 : Nat → (Int × (Int × (List (Int × (List Int)))) × Int × Int) → Option ((Int × (Int × (List (Int × (List Int)))) × Int) ⊕ (Bool × Bool))
 | 0, _ => none
 | n + 1, (op, a, x, y) =>
  if decide (y < x) then
   (spec_l2Value (a.1, a.2) op [x, y]).bind fun r2 =>
    (spec_l2Value (a.1, a.2) op [y, x]).bind fun r3 =>
     if r2 != r3 then
      some (.inr (false, true))
     else
      spec_IsCommutative_L7 n (op, (a.1, a.2), x, w64 (y + 1))
  else
   some (.inl (op, (a.1, a.2), x))
def spec_IsCommutative_L4 : Nat → (Int × (Int × (List (Int × (List Int)))) × Int) → Option ((Unit) ⊕ (Bool × Bool))
 | 0, _ => none
 | n + 1, (op, a, x) =>
  if decide (x < a.1) then
   (spec_IsCommutative_L7 fuel (op, (a.1, a.2), x, 0)).bind fun s2 =>
    match s2 with
    | .inl s3 =>
     spec_IsCommutative_L4 n (s3.1, (s3.2.1.1, s3.2.1.2), w64 (s3.2.2 + 1))
    | .inr s4 =>
     some (.inr (s4.1, s4.2))
  else
   some (.inl ())
def spec_IsCommutative (a : Int × (List (Int × (List Int)))) (op : Int) : Option (Bool × Bool) :=
 (spec_l2Takes (a.1, a.2) op).bind fun r1 =>
  if !r1 then
   some (false, false)
  else
   if inb op a.2 then
    if ((gd a.2 op (0, [])).1) != 2 then
     some (false, false)
    else
     (spec_IsCommutative_L4 fuel (op, (a.1, a.2), 0)).bind fun s2 =>
      match s2 with
      | .inl s3 =>
       some (true, true)
      | .inr s4 =>
       some (s4.1, s4.2)
   else none
def spec_IsAssociative_L10 : Nat → (Int × (Int × (List (Int × (List Int)))) × Int × Int × Int) → Option ((Int × (Int × (List (Int × (List Int)))) × Int × Int) ⊕ (Bool × Bool))
 | 0, _ => none
 | n + 1, (op, a, x, y, z) =>
  if decide (z < a.1) then
   (spec_l2Value (a.1, a.2) op [x, y]).bind fun r2 =>
    (spec_l2Value (a.1, a.2) op [r2, z]).bind fun r3 =>
     (spec_l2Value (a.1, a.2) op [y, z]).bind fun r4 =>
      (spec_l2Value (a.1, a.2) op [x, r4]).bind fun r5 =>
       if r3 != r5 then
        some (.inr (false, true))
       else
        spec_IsAssociative_L10 n (op, (a.1, a.2), x, y, w64 (z + 1))
  else
   some (.inl (op, (a.1, a.2), x, y))
def spec_IsAssociative_L7 : Nat → (Int × (Int × (List (Int × (List Int)))) × Int × Int) → Option ((Int × (Int × (List (Int × (List Int)))) × Int) ⊕ (Bool × Bool))
 | 0, _ => none
 | n + 1, (op, a, x, y) =>
  if decide (y < a.1) then
   (spec_IsAssociative_L10 fuel (op, (a.1, a.2), x, y, 0)).bind fun s2 =>
    match s2 with
    | .inl s3 =>
     spec_IsAssociative_L7 n (s3.1, (s3.2.1.1, s3.2.1.2), s3.2.2.1, w64 (s3.2.2.2 + 1))
    | .inr s4 =>
     some (.inr (s4.1, s4.2))
  else
   some (.inl (op, (a.1, a.2), x))
def spec_IsAssociative_L4 : Nat → (Int × (Int × (List (Int × (List Int)))) × Int) → Option ((Unit) ⊕ (Bool × Bool))
 | 0, _ => none
 | n + 1, (op, a, x) =>
  if decide (x < a.1) then
   (spec_IsAssociative_L7 fuel (op, (a.1, a.2), x, 0)).bind fun s2 =>
    match s2 with
    | .inl s3 =>
     spec_IsAssociative_L4 n (s3.1, (s3.2.1.1, s3.2.1.2), w64 (s3.2.2 + 1))
    | .inr s4 =>
     some (.inr (s4.1, s4.2))
  else
   some (.inl ())
def spec_IsAssociative (a : Int × (List (Int × (List Int)))) (op : Int) : Option (Bool × Bool) :=
 (spec_l2Takes (a.1, a.2) op).bind fun r1 =>
  if !r1 then
   some (false, false)
  else
   if inb op a.2 then
    if ((gd a.2 op (0, [])).1) != 2 then
     some (false, false)
    else
     (spec_IsAssociative_L4 fuel (op, (a.1, a.2), 0)).bind fun s2 =>
      match s2 with
      | .inl s3 =>
       some (true, true)
      | .inr s4 =>
       some (s4.1, s4.2)
   else none
def spec_SemilatticePolymorphism_L5 : Nat → (Int × (Int × (List Int)) × (List (List Int)) × Int) → Option (((Int × (List Int))) ⊕ ((Int × (List Int)) × Bool))
 | 0, _ => none
 | n + 1, (n_, t4, all, i) =>
  if decide (i < (all.length : Int)) then
   if inb i all then
    (spec_IsCommutative (n_, [(2, gd all i [])]) 0).bind fun r4 =>
     (spec_IsAssociative (n_, [(2, gd all i [])]) 0).bind fun r5 =>
      if r4.1 then
       if r5.1 then
        if inb 0 [(2, gd all i [])] then
         some (.inr (((gd [(2, gd all i [])] 0 (0, [])).1, (gd [(2, gd all i [])] 0 (0, [])).2), true))
        else none
       else
        spec_SemilatticePolymorphism_L5 n (n_, (t4.1, t4.2), all, w64 (i + 1))
      else
       spec_SemilatticePolymorphism_L5 n (n_, (t4.1, t4.2), all, w64 (i + 1))
   else none
  else
   some (.inl (t4.1, t4.2))
def spec_SemilatticePolymorphism (n_ : Int) (rels : List (Int × (List (List Int)))) : Option ((Int × (List Int)) × Bool) :=
 (spec_l14Takes n_ rels 2).bind fun r1 =>
  if !r1 then
   some ((0, []), false)
  else
   if decide (n_ > 3) then
    some ((0, []), false)
   else
    (spec_l14Idempotent n_ 2).bind fun r2 =>
     (spec_l14All n_ rels 2 r2 729).bind fun r3 =>
      (spec_SemilatticePolymorphism_L5 fuel (n_, (0, []), r3.1, 0)).bind fun s4 =>
       match s4 with
       | .inl s5 =>
        some ((0, []), false)
       | .inr s6 =>
        some ((s6.1.1, s6.1.2), s6.2)
def impl_IsAlgebra_L4 : Nat → ((Int × (List (Int × (List Int)))) × (List (Int × (List Int))) × Int × Int) → Option ((Unit) ⊕ (Bool))
 | 0, _ => none
 | n + 1, (a, t20, t21, t22) =>
  if decide (t22 < t21) then
   if inb t22 t20 then
    (impl_isOp ((gd t20 t22 (0, [])).1, (gd t20 t22 (0, [])).2) a.1).bind fun r1 =>
     if !r1 then
      some (.inr false)
     else
      impl_IsAlgebra_L4 n ((a.1, a.2), t20, t21, w64 (t22 + 1))
   else none
  else
   some (.inl ())
def impl_IsAlgebra (a : Int × (List (Int × (List Int)))) : Option (Bool) :=
 if decide (a.1 < 1) then
  some false
 else
  if decide (a.1 > 8) then
   some false
  else
   if decide ((a.2.length : Int) > 4) then
    some false
   else
    (impl_IsAlgebra_L4 fuel ((a.1, a.2), a.2, (a.2.length : Int), 0)).bind fun s1 =>
     match s1 with
     | .inl s2 =>
      some true
     | .inr s3 =>
      some s3
def impl_hasOp (a : Int × (List (Int × (List Int)))) (op : Int) : Option (Bool) :=
 (impl_IsAlgebra (a.1, a.2)).bind fun r1 =>
  if r1 then
   if decide (op ≥ 0) then
    some (decide (op < (a.2.length : Int)))
   else
    some false
  else
   some false
def impl_IsIdempotent_L11 : Nat → ((Int × (List (Int × (List Int)))) × (Int × (List Int)) × Int × Int × Int) → Option ((Int × (List (Int × (List Int)))) × (Int × (List Int)) × Int × Int)
 | 0, _ => none
 | n + 1, (a, f, x, i, k) =>
  if decide (k < f.1) then
   impl_IsIdempotent_L11 n ((a.1, a.2), (f.1, f.2), x, w64 ((w64 (i * a.1)) + x), w64 (k + 1))
  else
   some ((a.1, a.2), (f.1, f.2), x, i)
def impl_IsIdempotent_L7 : Nat → ((Int × (List (Int × (List Int)))) × (Int × (List Int)) × Int) → Option ((Unit) ⊕ (Bool × Bool))
 | 0, _ => none
 | n + 1, (a, f, x) =>
  if decide (x < a.1) then
   (impl_IsIdempotent_L11 fuel ((a.1, a.2), (f.1, f.2), x, 0, 0)).bind fun s2 =>
    if inb s2.2.2.2 s2.2.1.2 then
     if (gd s2.2.1.2 s2.2.2.2 0) != s2.2.2.1 then
      some (.inr (false, true))
     else
      impl_IsIdempotent_L7 n ((s2.1.1, s2.1.2), (s2.2.1.1, s2.2.1.2), w64 (s2.2.2.1 + 1))
    else none
  else
   some (.inl ())
def impl_IsIdempotent (a : Int × (List (Int × (List Int)))) (op : Int) : Option (Bool × Bool) :=
 (impl_hasOp (a.1, a.2) op).bind fun r1 =>
  if !r1 then
   some (false, false)
  else
   if inb op a.2 then
    if ((gd a.2 op (0, [])).1) == 0 then
     some (a.1 == 1, true)
    else
     (impl_IsIdempotent_L7 fuel ((a.1, a.2), ((gd a.2 op (0, [])).1, (gd a.2 op (0, [])).2), 0)).bind fun s2 =>
      match s2 with
      | .inl s3 =>
       some (true, true)
      | .inr s4 =>
       some (s4.1, s4.2)
   else none
def impl_isBinary (a : Int × (List (Int × (List Int)))) (op : Int) : Option (Bool) :=
 (impl_hasOp (a.1, a.2) op).bind fun r1 =>
  if r1 then
   if inb op a.2 then
    some (((gd a.2 op (0, [])).1) == 2)
   else none
  else
   some false
def impl_IsCommutative_L8 : Nat → (Int × (List Int) × Int × Int) → Option ((Int × (List Int) × Int) ⊕ (Bool × Bool))
 | 0, _ => none
 | n + 1, (n_, t, x, y) =>
  if decide (y < x) then
   if inb (w64 ((w64 (x * n_)) + y)) t then
    if inb (w64 ((w64 (y * n_)) + x)) t then
     if (gd t (w64 ((w64 (x * n_)) + y)) 0) != (gd t (w64 ((w64 (y * n_)) + x)) 0) then
      some (.inr (false, true))
     else
      impl_IsCommutative_L8 n (n_, t, x, w64 (y + 1))
    else none
   else none
  else
   some (.inl (n_, t, x))
def impl_IsCommutative_L5 : Nat → (Int × (List Int) × Int) → Option ((Unit) ⊕ (Bool × Bool))
 | 0, _ => none
 | n + 1, (n_, t, x) =>
  if decide (x < n_) then
   (impl_IsCommutative_L8 fuel (n_, t, x, 0)).bind fun s2 =>
    match s2 with
    | .inl s3 =>
     impl_IsCommutative_L5 n (s3.1, s3.2.1, w64 (s3.2.2 + 1))
    | .inr s4 =>
     some (.inr (s4.1, s4.2))
  else
   some (.inl ())
def impl_IsCommutative (a : Int × (List (Int × (List Int)))) (op : Int) : Option (Bool × Bool) :=
 (impl_isBinary (a.1, a.2) op).bind fun r1 =>
  if !r1 then
   some (false, false)
  else
   if inb op a.2 then
    (impl_IsCommutative_L5 fuel (a.1, (gd a.2 op (0, [])).2, 0)).bind fun s2 =>
     match s2 with
     | .inl s3 =>
      some (true, true)
     | .inr s4 =>
      some (s4.1, s4.2)
   else none
def impl_IsAssociative_L11 : Nat → (Int × (List Int) × Int × Int × Int) → Option ((Int × (List Int) × Int × Int) ⊕ (Bool × Bool))
 | 0, _ => none
 | n + 1, (t6, t7, t8, t9, t10) =>
  if decide (t10 < t6) then
   if inb (w64 ((w64 (t8 * t6)) + t9)) t7 then
    if inb (w64 ((w64 ((gd t7 (w64 ((w64 (t8 * t6)) + t9)) 0) * t6)) + t10)) t7 then
     if inb (w64 ((w64 (t9 * t6)) + t10)) t7 then
      if inb (w64 ((w64 (t8 * t6)) + (gd t7 (w64 ((w64 (t9 * t6)) + t10)) 0))) t7 then
       if (gd t7 (w64 ((w64 ((gd t7 (w64 ((w64 (t8 * t6)) + t9)) 0) * t6)) + t10)) 0) != (gd t7 (w64 ((w64 (t8 * t6)) + (gd t7 (w64 ((w64 (t9 * t6)) + t10)) 0))) 0) then
        some (.inr (false, true))
       else
        impl_IsAssociative_L11 n (t6, t7, t8, t9, w64 (t10 + 1))
      else none
     else none
    else none
   else none
  else
   some (.inl (t6, t7, t8, t9))
def impl_IsAssociative_L8 : Nat → (Int × (List Int) × Int × Int) → Option ((Int × (List Int) × Int) ⊕ (Bool × Bool))
 | 0, _ => none
 | n + 1, (t6, t7, t8, t9) =>
  if decide (t9 < t6) then
   (impl_IsAssociative_L11 fuel (t6, t7, t8, t9, 0)).bind fun s2 =>
    match s2 with
    | .inl s3 =>
     impl_IsAssociative_L8 n (s3.1, s3.2.1, s3.2.2.1, w64 (s3.2.2.2 + 1))
    | .inr s4 =>
     some (.inr (s4.1, s4.2))
  else
   some (.inl (t6, t7, t8))
def impl_IsAssociative_L5 : Nat → (Int × (List Int) × Int) → Option ((Unit) ⊕ (Bool × Bool))
 | 0, _ => none
 | n + 1, (t6, t7, t8) =>
  if decide (t8 < t6) then
   (impl_IsAssociative_L8 fuel (t6, t7, t8, 0)).bind fun s2 =>
    match s2 with
    | .inl s3 =>
     impl_IsAssociative_L5 n (s3.1, s3.2.1, w64 (s3.2.2 + 1))
    | .inr s4 =>
     some (.inr (s4.1, s4.2))
  else
   some (.inl ())
def impl_IsAssociative (t0 : Int × (List (Int × (List Int)))) (t1 : Int) : Option (Bool × Bool) :=
 (impl_isBinary (t0.1, t0.2) t1).bind fun r1 =>
  if !r1 then
   some (false, false)
  else
   if inb t1 t0.2 then
    (impl_IsAssociative_L5 fuel (t0.1, (gd t0.2 t1 (0, [])).2, 0)).bind fun s2 =>
     match s2 with
     | .inl s3 =>
      some (true, true)
     | .inr s4 =>
      some (s4.1, s4.2)
   else none
def impl_isSemilattice (n_ : Int) (table : List Int) : Option (Bool) :=
 (impl_IsIdempotent (n_, [(2, table)]) 0).bind fun r1 =>
  (impl_IsCommutative (n_, [(2, table)]) 0).bind fun r2 =>
   (impl_IsAssociative (n_, [(2, table)]) 0).bind fun r3 =>
    if r1.1 then
     if r2.1 then
      some r3.1
     else
      some false
    else
     some false
def impl_SemilatticePolymorphism_c1_p (table : List Int) (t1 : Bool × Int) : Option (Bool) :=
 if t1.1 = true then
  (impl_isSemilattice t1.2 table).bind fun r1 =>
   some r1
 else none
def impl_firstPoly_c1_impl_SemilatticePolymorphism_c1 (table : List Int) (t1 : Bool × Int) (t2 : Int) (t3 : Int × (List Int)) (t4 : Bool) : Option (Int × (Int × (List Int)) × Bool × Bool) :=
 (impl_SemilatticePolymorphism_c1_p table t1).bind fun r1 =>
  if r1 then
   (impl_clone table).bind fun r2 =>
    some (t2, (t2, r2), true, !true)
  else
   some (t2, (t3.1, t3.2), t4, !t4)
def impl_polySearch_each_c1_impl_firstPoly_c1_impl_SemilatticePolymorphism_c1_L4 (rec : (Int × (List Int) × ((Bool × Int) × (Int × ((Int × (List Int)) × Bool))) × (Bool × Int × Int × (List (List ((List Int) × (List ByteArray))))) × (List Int) × Unit) → Option ((List Int) × (Unit × (Int × ((Int × (List Int)) × Bool))) × (Bool × Int × Int × (List (List ((List Int) × (List ByteArray))))) × (List Int) × Bool)) : Nat → (Int × (List Int) × ((Bool × Int) × (Int × ((Int × (List Int)) × Bool))) × (Bool × Int × Int × (List (List ((List Int) × (List ByteArray))))) × (List Int) × Unit × Int) → Option (((List Int) × ((Bool × Int) × (Int × ((Int × (List Int)) × Bool))) × (Bool × Int × Int × (List (List ((List Int) × (List ByteArray))))) × (List Int) × Unit) ⊕ ((List Int) × ((Bool × Int) × (Int × ((Int × (List Int)) × Bool))) × (Bool × Int × Int × (List (List ((List Int) × (List ByteArray))))) × (List Int) × Unit × Bool))
 | 0, _ => none
 | n + 1, (at_, t1, t2, t3, t4, t5, x) =>
  if t3.1 = true then
   if decide (x < t3.2.1) then
    if inb at_ t4 then
     if decide ((gd t4 at_ 0) ≥ 0) then
      if inb at_ t4 then
       if (gd t4 at_ 0) != x then
        impl_polySearch_each_c1_impl_firstPoly_c1_impl_SemilatticePolymorphism_c1_L4 rec n (at_, t1, (t2.1, (t2.2.1, ((t2.2.2.1.1, t2.2.2.1.2), t2.2.2.2))), t3, t4, (), w64 (x + 1))
       else
        if inb at_ t1 then
         (impl_polySearch_fits_p t3 (stt t1 at_ x) at_).bind fun r2 =>
          if r2 then
           (rec (w64 (at_ + 1), stt t1 at_ x, (t2.1, (t2.2.1, ((t2.2.2.1.1, t2.2.2.1.2), t2.2.2.2))), t3, t4, ())).bind fun r3 =>
            if !r3.2.2.2.2 then
             some (.inr (r3.1, (t2.1, (r3.2.1.2.1, ((r3.2.1.2.2.1.1, r3.2.1.2.2.1.2), r3.2.1.2.2.2))), r3.2.2.1, r3.2.2.2.1, (), false))
            else
             impl_polySearch_each_c1_impl_firstPoly_c1_impl_SemilatticePolymorphism_c1_L4 rec n (at_, r3.1, (t2.1, (r3.2.1.2.1, ((r3.2.1.2.2.1.1, r3.2.1.2.2.1.2), r3.2.1.2.2.2))), r3.2.2.1, r3.2.2.2.1, (), w64 (x + 1))
          else
           impl_polySearch_each_c1_impl_firstPoly_c1_impl_SemilatticePolymorphism_c1_L4 rec n (at_, stt t1 at_ x, (t2.1, (t2.2.1, ((t2.2.2.1.1, t2.2.2.1.2), t2.2.2.2))), t3, t4, (), w64 (x + 1))
        else none
      else none
     else
      if inb at_ t1 then
       (impl_polySearch_fits_p t3 (stt t1 at_ x) at_).bind fun r4 =>
        if r4 then
         (rec (w64 (at_ + 1), stt t1 at_ x, (t2.1, (t2.2.1, ((t2.2.2.1.1, t2.2.2.1.2), t2.2.2.2))), t3, t4, ())).bind fun r5 =>
          if !r5.2.2.2.2 then
           some (.inr (r5.1, (t2.1, (r5.2.1.2.1, ((r5.2.1.2.2.1.1, r5.2.1.2.2.1.2), r5.2.1.2.2.2))), r5.2.2.1, r5.2.2.2.1, (), false))
          else
           impl_polySearch_each_c1_impl_firstPoly_c1_impl_SemilatticePolymorphism_c1_L4 rec n (at_, r5.1, (t2.1, (r5.2.1.2.1, ((r5.2.1.2.2.1.1, r5.2.1.2.2.1.2), r5.2.1.2.2.2))), r5.2.2.1, r5.2.2.2.1, (), w64 (x + 1))
        else
         impl_polySearch_each_c1_impl_firstPoly_c1_impl_SemilatticePolymorphism_c1_L4 rec n (at_, stt t1 at_ x, (t2.1, (t2.2.1, ((t2.2.2.1.1, t2.2.2.1.2), t2.2.2.2))), t3, t4, (), w64 (x + 1))
      else none
    else none
   else
    some (.inl (t1, (t2.1, (t2.2.1, ((t2.2.2.1.1, t2.2.2.1.2), t2.2.2.2))), t3, t4, ()))
  else none
def impl_polySearch_each_c1_impl_firstPoly_c1_impl_SemilatticePolymorphism_c1_body (rec : (Int × (List Int) × ((Bool × Int) × (Int × ((Int × (List Int)) × Bool))) × (Bool × Int × Int × (List (List ((List Int) × (List ByteArray))))) × (List Int) × Unit) → Option ((List Int) × (Unit × (Int × ((Int × (List Int)) × Bool))) × (Bool × Int × Int × (List (List ((List Int) × (List ByteArray))))) × (List Int) × Bool)) (at_ : Int) (t1 : List Int) (t2 : (Bool × Int) × (Int × ((Int × (List Int)) × Bool))) (t3 : Bool × Int × Int × (List (List ((List Int) × (List ByteArray))))) (t4 : List Int) (t5 : Unit) : Option ((List Int) × (Unit × (Int × ((Int × (List Int)) × Bool))) × (Bool × Int × Int × (List (List ((List Int) × (List ByteArray))))) × (List Int) × Bool) :=
 if at_ == (t1.length : Int) then
  (impl_firstPoly_c1_impl_SemilatticePolymorphism_c1 t1 t2.1 t2.2.1 (t2.2.2.1.1, t2.2.2.1.2) t2.2.2.2).bind fun r1 =>
   some (t1, ((), (r1.1, ((r1.2.1.1, r1.2.1.2), r1.2.2.1))), t3, t4, r1.2.2.2)
 else
  (impl_polySearch_each_c1_impl_firstPoly_c1_impl_SemilatticePolymorphism_c1_L4 rec fuel (at_, t1, (t2.1, (t2.2.1, ((t2.2.2.1.1, t2.2.2.1.2), t2.2.2.2))), t3, t4, (), 0)).bind fun s2 =>
   match s2 with
   | .inl s3 =>
    some (s3.1, ((), (s3.2.1.2.1, ((s3.2.1.2.2.1.1, s3.2.1.2.2.1.2), s3.2.1.2.2.2))), s3.2.2.1, s3.2.2.2.1, true)
   | .inr s4 =>
    some (s4.1, ((), (s4.2.1.2.1, ((s4.2.1.2.2.1.1, s4.2.1.2.2.1.2), s4.2.1.2.2.2))), s4.2.2.1, s4.2.2.2.1, s4.2.2.2.2.2)
def impl_polySearch_each_c1_impl_firstPoly_c1_impl_SemilatticePolymorphism_c1 : Nat → (Int × (List Int) × ((Bool × Int) × (Int × ((Int × (List Int)) × Bool))) × (Bool × Int × Int × (List (List ((List Int) × (List ByteArray))))) × (List Int) × Unit) → Option ((List Int) × (Unit × (Int × ((Int × (List Int)) × Bool))) × (Bool × Int × Int × (List (List ((List Int) × (List ByteArray))))) × (List Int) × Bool)
 | 0, _ => none
 | d + 1, x => impl_polySearch_each_c1_impl_firstPoly_c1_impl_SemilatticePolymorphism_c1_body (impl_polySearch_each_c1_impl_firstPoly_c1_impl_SemilatticePolymorphism_c1 d) x.1 x.2.1 x.2.2.1 x.2.2.2.1 x.2.2.2.2.1 x.2.2.2.2.2
def impl_polySearch_each_impl_firstPoly_c1_impl_SemilatticePolymorphism_c1 (s : Bool × Int × Int × (List (List ((List Int) × (List ByteArray))))) (given : List Int) (found : (Bool × Int) × (Int × ((Int × (List Int)) × Bool))) : Option ((Unit × (Int × ((Int × (List Int)) × Bool)))) :=
 if 0 ≤ (given.length : Int) ∧ (given.length : Int) ≤ (given.length : Int) ∧ (given.length : Int) ≤ lim then
  (impl_polySearch_each_c1_impl_firstPoly_c1_impl_SemilatticePolymorphism_c1 fuel (0, List.replicate (Int.toNat (given.length : Int)) (0 : Int), (found.1, (found.2.1, ((found.2.2.1.1, found.2.2.1.2), found.2.2.2))), s, given, ())).bind fun r1 =>
   some ((), (r1.2.1.2.1, ((r1.2.1.2.2.1.1, r1.2.1.2.2.1.2), r1.2.1.2.2.2)))
 else none
def impl_firstPoly_impl_SemilatticePolymorphism_c1 (n_ : Int) (rels : List (Int × (List (List Int)))) (k : Int) (given : List Int) (good : Bool × Int) : Option ((Int × (List Int)) × Bool) :=
 (impl_newPolySearch n_ rels k).bind fun r1 =>
  (impl_polySearch_each_impl_firstPoly_c1_impl_SemilatticePolymorphism_c1 r1 given (good, (k, ((0, []), false)))).bind fun r2 =>
   some ((r2.2.2.1.1, r2.2.2.1.2), r2.2.2.2)
def impl_SemilatticePolymorphism (n_ : Int) (rels : List (Int × (List (List Int)))) : Option ((Int × (List Int)) × Bool) :=
 (impl_canAsk n_ rels 2).bind fun r1 =>
  if !r1 then
   some ((0, []), false)
  else
   if decide (n_ > 3) then
    some ((0, []), false)
   else
    (impl_idempotentTable n_ 2).bind fun r2 =>
     (impl_firstPoly_impl_SemilatticePolymorphism_c1 n_ rels 2 r2 (true, n_)).bind fun r3 =>
      some ((r3.1.1, r3.1.2), r3.2)
def laws_FnExactSemilatticePolymorphism (t0 : Int) (t1 : List (Int × (List (List Int)))) : Option (Bool) :=
 (laws_szRelationS t1 1048576).bind fun r1 =>
  if decide (r1 < 0) then
   some true
  else
   (laws_toRelationS t1).bind fun r2 =>
    (spec_SemilatticePolymorphism t0 r2).bind fun r3 =>
     (laws_toRelationS t1).bind fun r4 =>
      (impl_SemilatticePolymorphism t0 r4).bind fun r5 =>
       (laws_eqOp (r5.1.1, r5.1.2) (r3.1.1, r3.1.2)).bind fun r6 =>
        if !r6 then
         some false
        else
         if r5.2 != r3.2 then
          some false
         else
          (laws_toRelationS t1).bind fun r7 =>
           (laws_eqRelationS r4 r7).bind fun r8 =>
            if !r8 then
             some false
            else
             (laws_markRelationS r4 1).bind fun r9 =>
              if decide (r9.2 < 0) then
               some false
              else
               (laws_eqOp (r5.1.1, r5.1.2) (r3.1.1, r3.1.2)).bind fun r10 =>
                if !r10 then
                 some false
                else
                 if r5.2 != r3.2 then
                  some false
                 else
                  (laws_markOp (r5.1.1, r5.1.2) 1).bind fun r11 =>
                   (laws_heldOp (r5.1.1, r11.1.2) 1).bind fun r12 =>
                    if decide (r12 < 0) then
                     some false
                    else
                     if r12 != r11.2 then
                      some false
                     else
                      (laws_toRelationS t1).bind fun r13 =>
                       (impl_SemilatticePolymorphism t0 r13).bind fun r14 =>
                        (laws_eqOp (r14.1.1, r14.1.2) (r3.1.1, r3.1.2)).bind fun r15 =>
                         if !r15 then
                          some false
                         else
                          if r14.2 != r3.2 then
                           some false
                          else
                           (laws_heldOp (r5.1.1, r11.1.2) 1).bind fun r16 =>
                            if decide (r16 < 0) then
                             some false
                            else
                             if r16 != r11.2 then
                              some false
                             else
                              some true
end T
open Go Go.Va
namespace T
abbrev GS := Int × (Opn × Bool)
abbrev GSin := Int × List Int × ((Bool × Int) × GS) × PS × List Int × Unit
abbrev GSout := List Int × (Unit × GS) × PS × List Int × Bool
def gsCb (good : List Int → Option Bool) (t : List Int) (s : GS) : Option (GS × Bool) := (good t).bind fun r1 => if r1 then (impl_clone t).bind fun r2 => some ((s.1, ((s.1, r2), true)), !true) else some ((s.1, ((s.2.1.1, s.2.1.2), s.2.2)), !s.2.2)
theorem eachSM_L {g : Bool × Int} (rec : GSin → Option GSout) (rec0 : SIn GS → Option (SOut GS)) (hrec : ∀ a t (s : GS) n q u, rec (a, t, (g, s), n, q, u) = (rec0 (a, t, s, n, q, u)).map fun y => (y.1, ((), y.2.1), y.2.2)) :
    ∀ f at_ t1 (s : GS) t3 t4 t5 x, impl_polySearch_each_c1_impl_firstPoly_c1_impl_SemilatticePolymorphism_c1_L4 rec f (at_, t1, (g, s), t3, t4, t5, x) = (gL rec0 f (at_, t1, s, t3, t4, t5, x)).map fun y => match y with
      | .inl y => .inl (y.1, (g, y.2.1), y.2.2)
      | .inr y => .inr (y.1, (g, y.2.1), y.2.2)
  | 0, _, _, _, _, _, _, _ => rfl
  | f + 1, at_, t1, (p, ((q1, q2), r)), t3, t4, t5, x => by
    have ih := eachSM_L rec rec0 hrec f
    have key : (impl_polySearch_fits_p t3 (stt t1 at_ x) at_).bind (fun r2 =>
                    if r2 then
                      (rec (w64 (at_ + 1), stt t1 at_ x, (g, (p, ((q1, q2), r))), t3, t4, ())).bind fun r3 =>
                        if !r3.2.2.2.2 then
                          some (.inr (r3.1, (g, (r3.2.1.2.1, ((r3.2.1.2.2.1.1, r3.2.1.2.2.1.2), r3.2.1.2.2.2))), r3.2.2.1, r3.2.2.2.1, (), false))
                        else
                          impl_polySearch_each_c1_impl_firstPoly_c1_impl_SemilatticePolymorphism_c1_L4 rec f (at_, r3.1, (g, (r3.2.1.2.1, ((r3.2.1.2.2.1.1, r3.2.1.2.2.1.2), r3.2.1.2.2.2))), r3.2.2.1, r3.2.2.2.1, (), w64 (x + 1))
                    else
                      impl_polySearch_each_c1_impl_firstPoly_c1_impl_SemilatticePolymorphism_c1_L4 rec f (at_, stt t1 at_ x, (g, (p, ((q1, q2), r))), t3, t4, (), w64 (x + 1)))
        = ((impl_polySearch_fits_p t3 (stt t1 at_ x) at_).bind fun r2 =>
                    if r2 then
                      (rec0 (w64 (at_ + 1), stt t1 at_ x, (p, ((q1, q2), r)), t3, t4, ())).bind fun r3 =>
                        if !r3.2.2.2.2 then
                          some (.inr (r3.1, r3.2.1, r3.2.2.1, r3.2.2.2.1, (), false))
                        else
                          gL rec0 f (at_, r3.1, r3.2.1, r3.2.2.1, r3.2.2.2.1, (), w64 (x + 1))
                    else
                      gL rec0 f (at_, stt t1 at_ x, (p, ((q1, q2), r)), t3, t4, (), w64 (x + 1))).map fun y => match y with
      | .inl y => .inl (y.1, (g, y.2.1), y.2.2)
      | .inr y => .inr (y.1, (g, y.2.1), y.2.2) := by
      generalize impl_polySearch_fits_p t3 (stt t1 at_ x) at_ = o
      cases o with
      | none => rfl
      | some b =>
        rw [Option.bind_some, Option.bind_some]
        cases b with
        | false => exact ih ..
        | true =>
          rw [if_pos rfl, if_pos rfl, hrec]
          generalize rec0 (w64 (at_ + 1), stt t1 at_ x, (p, ((q1, q2), r)), t3, t4, ()) = o
          cases o with
          | none => rfl
          | some z =>
            obtain ⟨z0, ⟨z1, ⟨⟨z2, z3⟩, z4⟩⟩, z5, z6, z7⟩ := z
            rw [Option.map_some, Option.bind_some, Option.bind_some]
            dsimp only
            cases z7 with
            | false => rfl
            | true => exact ih ..
    rw [impl_polySearch_each_c1_impl_firstPoly_c1_impl_SemilatticePolymorphism_c1_L4, gL]
    dsimp only
    rw [key]
    exact ite_map (ite_map (ite_map (ite_map (ite_map (ite_map (ih ..) (ite_map rfl rfl)) rfl) (ite_map rfl rfl)) rfl) rfl) rfl
theorem eachSM {g : Bool × Int} : ∀ d a t (s : GS) n q u, impl_polySearch_each_c1_impl_firstPoly_c1_impl_SemilatticePolymorphism_c1 d (a, t, (g, s), n, q, u) = (gF (gsCb fun t => impl_SemilatticePolymorphism_c1_p t g) d (a, t, s, n, q, u)).map fun y => (y.1, ((), y.2.1), y.2.2)
 | 0, _, _, _, _, _, _ => rfl
 | d + 1, a, t, (p, ((q1, q2), r)), n, q, u => by
  have ih := eachSM d (g := g)
  rw [impl_polySearch_each_c1_impl_firstPoly_c1_impl_SemilatticePolymorphism_c1, gF]
  unfold gBody impl_polySearch_each_c1_impl_firstPoly_c1_impl_SemilatticePolymorphism_c1_body
  dsimp only
  split
  ·unfold gsCb impl_firstPoly_c1_impl_SemilatticePolymorphism_c1
   dsimp only
   cases impl_SemilatticePolymorphism_c1_p t g with
   | none => rfl
   | some b =>
    rw [Option.bind_some, Option.bind_some]
    cases b with
    | false => rfl
    | true => cases impl_clone t <;> rfl
  ·have := eachSM_L _ (gF (gsCb fun t => impl_SemilatticePolymorphism_c1_p t g) d) ih fuel a t (p, ((q1, q2), r)) n q () 0
   rw [this]
   cases gL (gF (gsCb fun t => impl_SemilatticePolymorphism_c1_p t g) d) fuel (a, t, (p, ((q1, q2), r)), n, q, (), 0) with
   | none => rfl
   | some z => cases z <;> rfl
theorem fold_gs {good : List Int → Option Bool} {p : List Int → Bool} {k : Nat} : ∀ (l : List (List Int)), (∀ t ∈ l, t.length ≤ 1000 ∧ good t = some (p t)) → ∃ b, foldU (gsCb good) l ((k : Int), ((0, []), false)) = some (((k : Int), firstR k (l.filter p)), b)
 | [], _ => ⟨true, rfl⟩
 | t :: l, h => by
  obtain ⟨h1, h2⟩ := h t (List.mem_cons_self ..)
  obtain ⟨b, ih⟩ := fold_gs (k := k) l fun t ht => h t (List.mem_cons_of_mem _ ht)
  simp only [foldU, gsCb, h2, Option.bind_some, List.filter_cons]
  cases p t with
  | false => exact ⟨b, ih⟩
  | true =>
   have hcl : impl_clone t = some t := by
    unfold impl_clone
    rw [if_pos (by simp; unfold lim; omega)]; simp
   simp only [hcl, Option.bind_some, if_true]
   exact ⟨false, rfl⟩
end T
open Go Go.Va
namespace T
section
variable {n : Nat} {t : List Int}
def bopT (n : Nat) (t : List Int) (x y : Nat) : Nat := (t.getD (x * n + y) 0).toNat
def commB (n : Nat) (t : List Int) : Bool := (List.range n).all fun x => (List.range x).all fun y => bopT n t x y == bopT n t y x
def assocB (n : Nat) (t : List Int) : Bool := (List.range n).all fun x => (List.range n).all fun y => (List.range n).all fun z => bopT n t (bopT n t x y) z == bopT n t x (bopT n t y z)
def idemB (n : Nat) (t : List Int) : Bool := (List.range n).all fun x => bopT n t x x == x
structure TabOk (n : Nat) (t : List Int) : Prop where
 hn : 1 ≤ n ∧ n ≤ 4
 len : t.length = n * n
 val : ∀ x ∈ t, 0 ≤ x ∧ x < (n : Int)
theorem ix2 (hn : n ≤ 4) {x y : Nat} (hx : x < n) (hy : y < n) : w64 (w64 ((x : Int) * (n : Int)) + (y : Int)) = ((x * n + y : Nat) : Int) ∧ x * n + y < n * n := by
 have h1 : x * n + y < n * n := by
  calc x * n + y < x * n + n := by omega
   _ = (x + 1) * n := by rw [Nat.succ_mul]
   _ ≤ n * n := Nat.mul_le_mul_right _ hx
 have h2 : n * n ≤ 4 * 4 := Nat.mul_le_mul hn hn
 have e : (x : Int) * (n : Int) = ((x * n : Nat) : Int) := by simp
 have a1 : w64 ((x * n : Nat) : Int) = ((x * n : Nat) : Int) := w64_id (by omega) (by omega)
 rw [e, a1, w64_id (by omega) (by omega)]
 exact ⟨by omega, h1⟩
theorem TabOk.at (h : TabOk n t) {x y : Nat} (hx : x < n) (hy : y < n) : w64 (w64 ((x : Int) * (n : Int)) + (y : Int)) = ((x * n + y : Nat) : Int) ∧ inb ((x * n + y : Nat) : Int) t ∧ gd t ((x * n + y : Nat) : Int) 0 = ((bopT n t x y : Nat) : Int) ∧ bopT n t x y < n := by
 obtain ⟨h1, h2⟩ := ix2 h.hn.2 hx hy
 have hl : x * n + y < t.length := by rw [h.len]; exact h2
 have hv := h.val _ (List.getElem_mem hl)
 refine ⟨h1, by rw [inb_nat]; exact hl, ?_, ?_⟩
 ·rw [gd_nat hl]; unfold bopT; rw [getD_of hl]; omega
 ·unfold bopT; rw [getD_of hl]; omega
theorem TabOk.op (h : TabOk n t) : opB (n : Int) (2, t) = true := by
 have hn := h.hn
 have h1 := h.len
 have e : ((t.length : Nat) : Int) = (n : Int) ^ 2 := by rw [h1, Int.pow_succ, Int.pow_succ, Int.pow_zero, Int.one_mul]; simp
 have hb : belowB (n : Int) t = true := by
  unfold belowB
  rw [List.all_eq_true]
  exact fun x hx => by simpa using h.val x hx
 unfold opB
 rw [Bool.and_eq_true, Bool.and_eq_true]
 exact ⟨⟨by simp, decide_eq_true e⟩, hb⟩
theorem impl_hasOp_ok (h : TabOk n t) : impl_hasOp ((n : Int), [(2, t)]) 0 = some true := by
 have hn := h.hn
 have h1 := h.len
 have h2 : n * n ≤ 4 * 4 := Nat.mul_le_mul hn.2 hn.2
 have e := impl_isOp_ok (n := (n : Int)) (by omega) (f := (2, t)) (by dsimp only; omega)
 rw [h.op] at e
 unfold impl_hasOp impl_IsAlgebra
 obtain ⟨f, hf⟩ : ∃ f, fuel = f + 3 := ⟨fuel - 3, by unfold fuel; omega⟩
 have hL : impl_IsAlgebra_L4 fuel (((n : Int), [(2, t)]), [(2, t)], (([(2, t)] : List Opn).length : Int), 0) = some (.inl ()) := by
  rw [hf]
  simp only [impl_IsAlgebra_L4, List.length_singleton]
  have e0 : gd ([(2, t)] : List Opn) (0 : Int) (0, []) = (2, t) := rfl
  have w1 : w64 (0 + 1) = 1 := by decide
  have i0 : inb (0 : Int) ([(2, t)] : List Opn) := by unfold inb; simp
  simp [e0, e, w1, show w64 1 = 1 from by decide, i0]
 dsimp only
 rw [if_neg (by simp; omega), if_neg (by simp; omega), if_neg (by simp), hL]
 simp
theorem spec_takes_ok (h : TabOk n t) : spec_l2Takes ((n : Int), [(2, t)]) 0 = some true := by
 have hn := h.hn
 have h1 := h.len
 have h2 : n * n ≤ 4 * 4 := Nat.mul_le_mul hn.2 hn.2
 have e := spec_l2Op_ok (n := (n : Int)) (by omega) (f := (2, t)) (by dsimp only; omega)
 rw [h.op] at e
 unfold spec_l2Takes spec_l2Good
 obtain ⟨f, hf⟩ : ∃ f, fuel = f + 3 := ⟨fuel - 3, by unfold fuel; omega⟩
 have hL : spec_l2Good_L4 fuel (((n : Int), [(2, t)]), 0) = some (.inl ()) := by
  rw [hf]
  simp only [spec_l2Good_L4, List.length_singleton]
  have e0 : gd ([(2, t)] : List Opn) (0 : Int) (0, []) = (2, t) := rfl
  have w1 : w64 (0 + 1) = 1 := by decide
  have i0 : inb (0 : Int) ([(2, t)] : List Opn) := by unfold inb; simp
  simp [e0, e, w1, show w64 1 = 1 from by decide, i0]
 have c1 : decide ((1 : Int) ≤ (n : Int) ∧ (n : Int) ≤ 8) = true := by simp; omega
 have w0 : w64 (((1 : Nat) : Int) - 1) = 0 := by decide
 dsimp only
 rw [spec_l1In_ok, c1, hL]
 simp only [Option.bind_some, Bool.not_true, Bool.false_eq_true, if_false]
 rw [if_neg (by simp)]
 simp only [Option.bind_some, if_true]
 rw [show (([(2, t)] : List Opn).length : Int) = ((1 : Nat) : Int) from rfl, w0, spec_l1In_ok]
 rfl
theorem spec_value_ok (h : TabOk n t) {x y : Nat} (hx : x < n) (hy : y < n) : spec_l2Value ((n : Int), [(2, t)]) 0 [(x : Int), (y : Int)] = some ((bopT n t x y : Nat) : Int) := by
 obtain ⟨h1, h2, h3, _⟩ := h.at hx hy
 obtain ⟨f, hf⟩ : ∃ f, fuel = f + 3 := ⟨fuel - 3, by unfold fuel; omega⟩
 have hL : spec_l2Value_L3 fuel (0, [(x : Int), (y : Int)], ((n : Int), [(2, t)]), 0, 0) = some (0, ((n : Int), [(2, t)]), ((x * n + y : Nat) : Int)) := by
  rw [hf]
  have a0 : gd [(x : Int), (y : Int)] (0 : Int) 0 = x := rfl
  have a1 : gd [(x : Int), (y : Int)] (1 : Int) 0 = y := rfl
  have i0 : inb (0 : Int) [(x : Int), (y : Int)] := by unfold inb; simp
  have i1 : inb (1 : Int) [(x : Int), (y : Int)] := by unfold inb; simp
  have w1 : w64 (0 + 1) = 1 := by decide
  have w2 : w64 (1 + 1) = 2 := by decide
  have w3 : w64 (w64 (0 * (n : Int)) + (x : Int)) = x := by have := h.hn; rw [Int.zero_mul, show w64 0 = 0 from by decide, w64_id (by omega) (by omega)]; omega
  simp only [spec_l2Value_L3, List.length_cons, List.length_nil, a0, a1, i0, i1, w1, w2, w3, h1, if_true]
  simp
 unfold spec_l2Value
 have e0 : gd ([(2, t)] : List Opn) (0 : Int) (0, []) = (2, t) := rfl
 have i0 : inb (0 : Int) ([(2, t)] : List Opn) := by unfold inb; simp
 simp only [hL, Option.bind_some, e0, i0, if_true]
 rw [if_pos h2, h3]
theorem ne_nat (a b : Nat) : (((a : Nat) : Int) != ((b : Nat) : Int)) = !(a == b) := by
 rw [bne]
 congr 1
 rw [Bool.eq_iff_iff, beq_iff_eq, beq_iff_eq]
 omega
theorem impl_idem_ok (h : TabOk n t) : impl_IsIdempotent ((n : Int), [(2, t)]) 0 = some (idemB n t, true) := by
 have hn := h.hn
 unfold impl_IsIdempotent
 have e0 : gd ([(2, t)] : List Opn) (0 : Int) (0, []) = (2, t) := rfl
 have i0 : inb (0 : Int) ([(2, t)] : List Opn) := by unfold inb; simp
 have hL11 : ∀ x : Nat, x < n → impl_IsIdempotent_L11 fuel (((n : Int), [(2, t)]), (2, t), (x : Int), 0, 0) = some (((n : Int), [(2, t)]), (2, t), (x : Int), ((x * n + x : Nat) : Int)) := fun x hx => by
  obtain ⟨h1, _⟩ := h.at hx hx
  obtain ⟨f, hf⟩ : ∃ f, fuel = f + 3 := ⟨fuel - 3, by unfold fuel; omega⟩
  rw [hf]
  have w1 : w64 (0 + 1) = 1 := by decide
  have w2 : w64 (1 + 1) = 2 := by decide
  have w3 : w64 (w64 (0 * (n : Int)) + (x : Int)) = x := by rw [Int.zero_mul, show w64 0 = 0 from by decide, w64_id (by omega) (by omega)]; omega
  simp only [impl_IsIdempotent_L11, w1, w2, w3, h1]
  simp
 have := forA n (fun f (_ : Unit) x => impl_IsIdempotent_L7 f (((n : Int), [(2, t)]), (2, t), x)) (fun _ => ()) (fun x => bopT n t x x == x) (r := some (.inr (false, true))) (e := some (.inl ())) (fun f x hx => by
  obtain ⟨_, h2, h3, _⟩ := h.at hx hx
  simp only [impl_IsIdempotent_L7, hL11 x hx, Option.bind_some, h2, h3, if_true, ne_nat, w64_succ (show x < 4611686018427387904 by omega)]
  rw [if_pos (by rw [decide_eq_true_eq]; omega)]
  cases bopT n t x x == x <;> rfl) (fun f => by simp only [impl_IsIdempotent_L7]; rw [if_neg (by simp)]) (n := fuel) (by unfold fuel; omega)
 have this : impl_IsIdempotent_L7 fuel (((n : Int), [(2, t)]), (2, t), 0) = _ := this
 simp only [impl_hasOp_ok h, Option.bind_some, e0, i0, if_true, this]
 show (if !true = true then _ else if (2 : Int) == 0 then _ else _) = _
 rw [if_neg (by simp), if_neg (by decide)]
 unfold idemB
 cases (List.range n).all fun x => bopT n t x x == x <;> rfl
theorem impl_binary_ok (h : TabOk n t) : impl_isBinary ((n : Int), [(2, t)]) 0 = some true := by
 unfold impl_isBinary
 have e0 : gd ([(2, t)] : List Opn) (0 : Int) (0, []) = (2, t) := rfl
 have i0 : inb (0 : Int) ([(2, t)] : List Opn) := by unfold inb; simp
 simp only [impl_hasOp_ok h, Option.bind_some, e0, i0, if_true]
 rfl
theorem impl_comm_ok (h : TabOk n t) : impl_IsCommutative ((n : Int), [(2, t)]) 0 = some (commB n t, true) := by
 have hn := h.hn
 unfold impl_IsCommutative
 have e0 : gd ([(2, t)] : List Opn) (0 : Int) (0, []) = (2, t) := rfl
 have i0 : inb (0 : Int) ([(2, t)] : List Opn) := by unfold inb; simp
 have hL8 : ∀ x : Nat, x < n → impl_IsCommutative_L8 fuel ((n : Int), t, (x : Int), 0) = if (List.range x).all fun y => bopT n t x y == bopT n t y x then some (.inl ((n : Int), t, (x : Int))) else some (.inr (false, true)) := fun x hx => by
  have := forA x (fun f (_ : Unit) y => impl_IsCommutative_L8 f ((n : Int), t, (x : Int), y)) (fun _ => ()) (fun y => bopT n t x y == bopT n t y x) (r := some (.inr (false, true))) (e := some (.inl ((n : Int), t, (x : Int)))) (fun f y hy => by
   obtain ⟨h1, h2, h3, _⟩ := h.at hx (show y < n by omega)
   obtain ⟨g1, g2, g3, _⟩ := h.at (show y < n by omega) hx
   simp only [impl_IsCommutative_L8, h1, h2, h3, g1, g2, g3, if_true, ne_nat, w64_succ (show y < 4611686018427387904 by omega)]
   rw [if_pos (by rw [decide_eq_true_eq]; omega)]
   cases bopT n t x y == bopT n t y x <;> rfl) (fun f => by simp only [impl_IsCommutative_L8]; rw [if_neg (by simp)]) (n := fuel) (by unfold fuel; omega)
  exact this
 have := forA n (fun f (_ : Unit) x => impl_IsCommutative_L5 f ((n : Int), t, x)) (fun _ => ()) (fun x => (List.range x).all fun y => bopT n t x y == bopT n t y x) (r := some (.inr (false, true))) (e := some (.inl ())) (fun f x hx => by
  simp only [impl_IsCommutative_L5, hL8 x hx]
  rw [if_pos (by rw [decide_eq_true_eq]; omega)]
  cases (List.range x).all fun y => bopT n t x y == bopT n t y x
  ·rfl
  ·simp only [if_true, Option.bind_some, w64_succ (show x < 4611686018427387904 by omega)]) (fun f => by simp only [impl_IsCommutative_L5]; rw [if_neg (by simp)]) (n := fuel) (by unfold fuel; omega)
 have this : impl_IsCommutative_L5 fuel ((n : Int), t, 0) = _ := this
 simp only [impl_binary_ok h, Option.bind_some, e0, i0, if_true, this, Bool.not_true, Bool.false_eq_true, if_false]
 unfold commB
 cases (List.range n).all fun x => (List.range x).all fun y => bopT n t x y == bopT n t y x <;> rfl
theorem impl_assoc_ok (h : TabOk n t) : impl_IsAssociative ((n : Int), [(2, t)]) 0 = some (assocB n t, true) := by
 have hn := h.hn
 unfold impl_IsAssociative
 have e0 : gd ([(2, t)] : List Opn) (0 : Int) (0, []) = (2, t) := rfl
 have i0 : inb (0 : Int) ([(2, t)] : List Opn) := by unfold inb; simp
 have hL11 : ∀ x y : Nat, x < n → y < n → impl_IsAssociative_L11 fuel ((n : Int), t, (x : Int), (y : Int), 0) = if (List.range n).all fun z => bopT n t (bopT n t x y) z == bopT n t x (bopT n t y z) then some (.inl ((n : Int), t, (x : Int), (y : Int))) else some (.inr (false, true)) := fun x y hx hy => by
  have := forA n (fun f (_ : Unit) z => impl_IsAssociative_L11 f ((n : Int), t, (x : Int), (y : Int), z)) (fun _ => ()) (fun z => bopT n t (bopT n t x y) z == bopT n t x (bopT n t y z)) (r := some (.inr (false, true))) (e := some (.inl ((n : Int), t, (x : Int), (y : Int)))) (fun f z hz => by
   obtain ⟨a1, a2, a3, a4⟩ := h.at hx hy
   obtain ⟨b1, b2, b3, b4⟩ := h.at hy hz
   obtain ⟨c1, c2, c3, _⟩ := h.at a4 hz
   obtain ⟨d1, d2, d3, _⟩ := h.at hx b4
   simp only [impl_IsAssociative_L11, a1, a2, a3, b1, b2, b3, c1, c2, c3, d1, d2, d3, if_true, ne_nat, w64_succ (show z < 4611686018427387904 by omega)]
   rw [if_pos (by rw [decide_eq_true_eq]; omega)]
   cases bopT n t (bopT n t x y) z == bopT n t x (bopT n t y z) <;> rfl) (fun f => by simp only [impl_IsAssociative_L11]; rw [if_neg (by simp)]) (n := fuel) (by unfold fuel; omega)
  exact this
 have hL8 : ∀ x : Nat, x < n → impl_IsAssociative_L8 fuel ((n : Int), t, (x : Int), 0) = if (List.range n).all fun y => (List.range n).all fun z => bopT n t (bopT n t x y) z == bopT n t x (bopT n t y z) then some (.inl ((n : Int), t, (x : Int))) else some (.inr (false, true)) := fun x hx => by
  have := forA n (fun f (_ : Unit) y => impl_IsAssociative_L8 f ((n : Int), t, (x : Int), y)) (fun _ => ()) (fun y => (List.range n).all fun z => bopT n t (bopT n t x y) z == bopT n t x (bopT n t y z)) (r := some (.inr (false, true))) (e := some (.inl ((n : Int), t, (x : Int)))) (fun f y hy => by
   simp only [impl_IsAssociative_L8, hL11 x y hx hy]
   rw [if_pos (by rw [decide_eq_true_eq]; omega)]
   cases (List.range n).all fun z => bopT n t (bopT n t x y) z == bopT n t x (bopT n t y z)
   ·rfl
   ·simp only [if_true, Option.bind_some, w64_succ (show y < 4611686018427387904 by omega)]) (fun f => by simp only [impl_IsAssociative_L8]; rw [if_neg (by simp)]) (n := fuel) (by unfold fuel; omega)
  exact this
 have := forA n (fun f (_ : Unit) x => impl_IsAssociative_L5 f ((n : Int), t, x)) (fun _ => ()) (fun x => (List.range n).all fun y => (List.range n).all fun z => bopT n t (bopT n t x y) z == bopT n t x (bopT n t y z)) (r := some (.inr (false, true))) (e := some (.inl ())) (fun f x hx => by
  simp only [impl_IsAssociative_L5, hL8 x hx]
  rw [if_pos (by rw [decide_eq_true_eq]; omega)]
  cases (List.range n).all fun y => (List.range n).all fun z => bopT n t (bopT n t x y) z == bopT n t x (bopT n t y z)
  ·rfl
  ·simp only [if_true, Option.bind_some, w64_succ (show x < 4611686018427387904 by omega)]) (fun f => by simp only [impl_IsAssociative_L5]; rw [if_neg (by simp)]) (n := fuel) (by unfold fuel; omega)
 have this : impl_IsAssociative_L5 fuel ((n : Int), t, 0) = _ := this
 simp only [impl_binary_ok h, Option.bind_some, e0, i0, if_true, this, Bool.not_true, Bool.false_eq_true, if_false]
 unfold assocB
 cases (List.range n).all fun x => (List.range n).all fun y => (List.range n).all fun z => bopT n t (bopT n t x y) z == bopT n t x (bopT n t y z) <;> rfl
theorem spec_comm_ok (h : TabOk n t) : spec_IsCommutative ((n : Int), [(2, t)]) 0 = some (commB n t, true) := by
 have hn := h.hn
 unfold spec_IsCommutative
 have e0 : gd ([(2, t)] : List Opn) (0 : Int) (0, []) = (2, t) := rfl
 have i0 : inb (0 : Int) ([(2, t)] : List Opn) := by unfold inb; simp
 have hL7 : ∀ x : Nat, x < n → spec_IsCommutative_L7 fuel (0, ((n : Int), [(2, t)]), (x : Int), 0) = if (List.range x).all fun y => bopT n t x y == bopT n t y x then some (.inl (0, ((n : Int), [(2, t)]), (x : Int))) else some (.inr (false, true)) := fun x hx => by
  have := forA x (fun f (_ : Unit) y => spec_IsCommutative_L7 f (0, ((n : Int), [(2, t)]), (x : Int), y)) (fun _ => ()) (fun y => bopT n t x y == bopT n t y x) (r := some (.inr (false, true))) (e := some (.inl (0, ((n : Int), [(2, t)]), (x : Int)))) (fun f y hy => by
   simp only [spec_IsCommutative_L7, spec_value_ok h hx (show y < n by omega), spec_value_ok h (show y < n by omega) hx, Option.bind_some, ne_nat, w64_succ (show y < 4611686018427387904 by omega)]
   rw [if_pos (by rw [decide_eq_true_eq]; omega)]
   cases bopT n t x y == bopT n t y x <;> rfl) (fun f => by simp only [spec_IsCommutative_L7]; rw [if_neg (by simp)]) (n := fuel) (by unfold fuel; omega)
  exact this
 have := forA n (fun f (_ : Unit) x => spec_IsCommutative_L4 f (0, ((n : Int), [(2, t)]), x)) (fun _ => ()) (fun x => (List.range x).all fun y => bopT n t x y == bopT n t y x) (r := some (.inr (false, true))) (e := some (.inl ())) (fun f x hx => by
  simp only [spec_IsCommutative_L4, hL7 x hx]
  rw [if_pos (by rw [decide_eq_true_eq]; omega)]
  cases (List.range x).all fun y => bopT n t x y == bopT n t y x
  ·rfl
  ·simp only [if_true, Option.bind_some, w64_succ (show x < 4611686018427387904 by omega)]) (fun f => by simp only [spec_IsCommutative_L4]; rw [if_neg (by simp)]) (n := fuel) (by unfold fuel; omega)
 have this : spec_IsCommutative_L4 fuel (0, ((n : Int), [(2, t)]), 0) = _ := this
 simp only [spec_takes_ok h, Option.bind_some, e0, i0, if_true, this, Bool.not_true, Bool.false_eq_true, if_false]
 show (if (2 : Int) != 2 then _ else _) = _
 rw [if_neg (by decide)]
 unfold commB
 cases (List.range n).all fun x => (List.range x).all fun y => bopT n t x y == bopT n t y x <;> rfl
theorem spec_assoc_ok (h : TabOk n t) : spec_IsAssociative ((n : Int), [(2, t)]) 0 = some (assocB n t, true) := by
 have hn := h.hn
 unfold spec_IsAssociative
 have e0 : gd ([(2, t)] : List Opn) (0 : Int) (0, []) = (2, t) := rfl
 have i0 : inb (0 : Int) ([(2, t)] : List Opn) := by unfold inb; simp
 have hL10 : ∀ x y : Nat, x < n → y < n → spec_IsAssociative_L10 fuel (0, ((n : Int), [(2, t)]), (x : Int), (y : Int), 0) = if (List.range n).all fun z => bopT n t (bopT n t x y) z == bopT n t x (bopT n t y z) then some (.inl (0, ((n : Int), [(2, t)]), (x : Int), (y : Int))) else some (.inr (false, true)) := fun x y hx hy => by
  have := forA n (fun f (_ : Unit) z => spec_IsAssociative_L10 f (0, ((n : Int), [(2, t)]), (x : Int), (y : Int), z)) (fun _ => ()) (fun z => bopT n t (bopT n t x y) z == bopT n t x (bopT n t y z)) (r := some (.inr (false, true))) (e := some (.inl (0, ((n : Int), [(2, t)]), (x : Int), (y : Int)))) (fun f z hz => by
   obtain ⟨_, _, _, a4⟩ := h.at hx hy
   obtain ⟨_, _, _, b4⟩ := h.at hy hz
   simp only [spec_IsAssociative_L10, spec_value_ok h hx hy, spec_value_ok h hy hz, spec_value_ok h a4 hz, spec_value_ok h hx b4, Option.bind_some, ne_nat, w64_succ (show z < 4611686018427387904 by omega)]
   rw [if_pos (by rw [decide_eq_true_eq]; omega)]
   cases bopT n t (bopT n t x y) z == bopT n t x (bopT n t y z) <;> rfl) (fun f => by simp only [spec_IsAssociative_L10]; rw [if_neg (by simp)]) (n := fuel) (by unfold fuel; omega)
  exact this
 have hL7 : ∀ x : Nat, x < n → spec_IsAssociative_L7 fuel (0, ((n : Int), [(2, t)]), (x : Int), 0) = if (List.range n).all fun y => (List.range n).all fun z => bopT n t (bopT n t x y) z == bopT n t x (bopT n t y z) then some (.inl (0, ((n : Int), [(2, t)]), (x : Int))) else some (.inr (false, true)) := fun x hx => by
  have := forA n (fun f (_ : Unit) y => spec_IsAssociative_L7 f (0, ((n : Int), [(2, t)]), (x : Int), y)) (fun _ => ()) (fun y => (List.range n).all fun z => bopT n t (bopT n t x y) z == bopT n t x (bopT n t y z)) (r := some (.inr (false, true))) (e := some (.inl (0, ((n : Int), [(2, t)]), (x : Int)))) (fun f y hy => by
   simp only [spec_IsAssociative_L7, hL10 x y hx hy]
   rw [if_pos (by rw [decide_eq_true_eq]; omega)]
   cases (List.range n).all fun z => bopT n t (bopT n t x y) z == bopT n t x (bopT n t y z)
   ·rfl
   ·simp only [if_true, Option.bind_some, w64_succ (show y < 4611686018427387904 by omega)]) (fun f => by simp only [spec_IsAssociative_L7]; rw [if_neg (by simp)]) (n := fuel) (by unfold fuel; omega)
  exact this
 have := forA n (fun f (_ : Unit) x => spec_IsAssociative_L4 f (0, ((n : Int), [(2, t)]), x)) (fun _ => ()) (fun x => (List.range n).all fun y => (List.range n).all fun z => bopT n t (bopT n t x y) z == bopT n t x (bopT n t y z)) (r := some (.inr (false, true))) (e := some (.inl ())) (fun f x hx => by
  simp only [spec_IsAssociative_L4, hL7 x hx]
  rw [if_pos (by rw [decide_eq_true_eq]; omega)]
  cases (List.range n).all fun y => (List.range n).all fun z => bopT n t (bopT n t x y) z == bopT n t x (bopT n t y z)
  ·rfl
  ·simp only [if_true, Option.bind_some, w64_succ (show x < 4611686018427387904 by omega)]) (fun f => by simp only [spec_IsAssociative_L4]; rw [if_neg (by simp)]) (n := fuel) (by unfold fuel; omega)
 have this : spec_IsAssociative_L4 fuel (0, ((n : Int), [(2, t)]), 0) = _ := this
 simp only [spec_takes_ok h, Option.bind_some, e0, i0, if_true, this, Bool.not_true, Bool.false_eq_true, if_false]
 show (if (2 : Int) != 2 then _ else _) = _
 rw [if_neg (by decide)]
 unfold assocB
 cases (List.range n).all fun x => (List.range n).all fun y => (List.range n).all fun z => bopT n t (bopT n t x y) z == bopT n t x (bopT n t y z) <;> rfl
theorem impl_semi_ok (h : TabOk n t) : impl_SemilatticePolymorphism_c1_p t (true, (n : Int)) = some (idemB n t && commB n t && assocB n t) := by
 unfold impl_SemilatticePolymorphism_c1_p impl_isSemilattice
 simp only [impl_idem_ok h, impl_comm_ok h, impl_assoc_ok h, Option.bind_some, if_true]
 cases idemB n t <;> cases commB n t <;> rfl
end
end T
open Go Go.Va
namespace T
def frN (given : List Int) : Nat → Nat → Nat
 | _, 0 => 0
 | q, m + 1 => (if given.getD q 0 < 0 then 1 else 0) + frN given (q + 1) m
section
variable {n : Nat} {given : List Int}
theorem ext_free {ok : List Int → Bool} : ∀ (m : Nat) (pre : List Int), (extL n given ok m pre).length ≤ n ^ frN given pre.length m
 | 0, pre => by simp [extL, frN]
 | m + 1, pre => by
  simp only [extL, frN]
  have hx : ∀ x : Nat, (if mstB given pre.length x && ok (pre ++ [(x : Int)]) then extL n given ok m (pre ++ [(x : Int)]) else []).length ≤ n ^ frN given (pre.length + 1) m := fun x => by
   split
   ·have := ext_free (ok := ok) m (pre ++ [(x : Int)])
    rw [List.length_append, List.length_singleton] at this
    exact this
   ·simp
  by_cases h : given.getD pre.length 0 < 0
  ·rw [if_pos h]
   have key : ∀ (l : List Nat), (l.flatMap fun x => if mstB given pre.length x && ok (pre ++ [(x : Int)]) then extL n given ok m (pre ++ [(x : Int)]) else []).length ≤ l.length * n ^ frN given (pre.length + 1) m := by
    intro l
    induction l with
    | nil => simp
    | cons x l ih =>
     rw [List.flatMap_cons, List.length_append, List.length_cons, Nat.succ_mul]
     have := hx x
     omega
   have := key (List.range n)
   rw [List.length_range] at this
   rw [Nat.add_comm, Nat.pow_succ, Nat.mul_comm]
   exact this
  ·rw [if_neg h, Nat.zero_add]
   have key : ∀ (l : List Nat), l.Nodup → (l.flatMap fun x => if mstB given pre.length x && ok (pre ++ [(x : Int)]) then extL n given ok m (pre ++ [(x : Int)]) else []).length ≤ if (given.getD pre.length 0).toNat ∈ l then n ^ frN given (pre.length + 1) m else 0 := by
    intro l
    induction l with
    | nil => intro _; simp
    | cons x l ih =>
     intro hn
     obtain ⟨h1, h2⟩ := List.nodup_cons.1 hn
     have ih := ih h2
     rw [List.flatMap_cons, List.length_append]
     by_cases e : (given.getD pre.length 0).toNat = x
     ·rw [e, if_neg h1] at ih
      rw [e, if_pos (List.mem_cons_self ..)]
      have := hx x
      omega
     ·have hm : mstB given pre.length x = false := by
       unfold mstB
       have a1 : given.getD pre.length 0 ≥ 0 := by omega
       have a2 : (given.getD pre.length 0 != (x : Int)) = true := by
        rw [bne_iff_ne]; intro e'; exact e (by rw [e']; rfl)
       rw [decide_eq_true a1, a2]; rfl
      rw [hm, Bool.false_and, if_neg (by simp), List.length_nil, Nat.zero_add]
      refine Nat.le_trans ih ?_
      split
      ·rename_i hm'
       rw [if_pos (List.mem_cons_of_mem _ hm')]; exact Nat.le_refl _
      ·exact Nat.zero_le _
   have := key (List.range n) List.nodup_range
   refine Nat.le_trans this ?_
   split
   ·exact Nat.le_refl _
   ·exact Nat.zero_le _
end
theorem idem_tab : ∀ n : Fin 4, (1 ≤ n.val → n.val ^ frN (idemT n.val 2) 0 (n.val ^ 2) ≤ 729) ∧ ∀ x : Fin 4, x.val < n.val → (idemT n.val 2).getD (x.val * n.val + x.val) 0 = (x.val : Int) := by decide +kernel
section
variable {n : Nat} {rels : List RelT} {t : List Int}
theorem idem_all (hR : RelsOk n 2 rels) (h3 : n ≤ 3) : (allT n 2 rels (idemT n 2)).length ≤ 729 ∧ ∀ t ∈ allT n 2 rels (idemT n 2), TabOk n t ∧ idemB n t = true := by
 have hn := hR.hn
 obtain ⟨b1, b2⟩ := idem_tab ⟨n, by omega⟩
 refine ⟨Nat.le_trans (ext_free _ _) (b1 hn.1), fun t ht => ?_⟩
 obtain ⟨h1, h2, h4, _⟩ := (allT_iff hR).1 ht
 have hl : t.length = n * n := by rw [h1, Nat.pow_succ, Nat.pow_one]
 have hT : TabOk n t := ⟨hn, hl, h2⟩
 refine ⟨hT, ?_⟩
 unfold idemB
 rw [List.all_eq_true]
 intro x hx
 have hx := List.mem_range.1 hx
 obtain ⟨a1, a2⟩ := ix2 hn.2 hx hx
 have hq : x * n + x < n ^ 2 := by rw [Nat.pow_succ, Nat.pow_one]; exact a2
 have := h4 _ hq
 unfold mstB at this
 rw [b2 ⟨x, by omega⟩ hx] at this
 unfold bopT
 simp only [Bool.not_eq_true', Bool.and_eq_false_iff, decide_eq_false_iff_not, bne_eq_false_iff_eq] at this
 rw [beq_iff_eq]
 rcases this with h | h
 ·omega
 ·omega
theorem spec_sem_L5 (N : Opn) : ∀ (l : List (List Int)), l.length ≤ 1000000 → (∀ t ∈ l, TabOk n t) → spec_SemilatticePolymorphism_L5 fuel ((n : Int), N, l, 0) = match firstR 2 (l.filter fun t => commB n t && assocB n t) with | (_, false) => some (.inl N) | (R, true) => some (.inr (R, true)) := fun l hl ht => by
 have := loopX0 l (fun f (N : Opn) i => spec_SemilatticePolymorphism_L5 f ((n : Int), N, l, i)) (fun N t => if commB n t && assocB n t then some (.inr (.inr ((2, t), true))) else some (.inl N)) (fun N => some (.inl N)) (fun f N k hk => ?_) (fun f N => ?_) (n := fuel) (by unfold fuel; omega) N
 ·rw [this]
  clear this ht hl
  induction l with
  | nil => rfl
  | cons t l ih =>
   simp only [runX, List.filter_cons]
   cases commB n t && assocB n t with
   | false => exact ih
   | true => rfl
 ·have hT := ht _ (List.getElem_mem hk)
  have e0 : gd ([(2, l[k])] : List Opn) (0 : Int) (0, []) = (2, l[k]) := rfl
  have i0 : inb (0 : Int) ([(2, l[k])] : List Opn) := by unfold inb; simp
  simp only [spec_SemilatticePolymorphism_L5, inb_nat, hk, gd_nat hk, spec_comm_ok hT, spec_assoc_ok hT, Option.bind_some, if_true, e0, i0, w64_succ (show k < 4611686018427387904 by omega)]
  rw [if_pos (by rw [decide_eq_true_eq]; omega)]
  cases commB n l[k] <;> cases assocB n l[k] <;> rfl
 ·simp only [spec_SemilatticePolymorphism_L5]
  rw [if_neg (by simp)]
theorem impl_firstSM (h : RelsOk n 2 rels) (h3 : n ≤ 3) : impl_firstPoly_impl_SemilatticePolymorphism_c1 (n : Int) rels ((2 : Nat) : Int) (idemT n 2) (true, (n : Int)) = some (firstR 2 ((allT n 2 rels (idemT n 2)).filter fun t => commB n t && assocB n t)) := by
 have hp := pow_le3 (n := n) (k := 2) h.hn.2 (by omega)
 obtain ⟨_, hA⟩ := idem_all h h3
 have hg : (idemT n 2).length = n ^ 2 := idemT_len
 obtain ⟨b, h1⟩ := fold_gs (good := fun t => impl_SemilatticePolymorphism_c1_p t (true, (n : Int))) (p := fun t => commB n t && assocB n t) (k := 2) (allT n 2 rels (idemT n 2)) (fun t ht => by
  obtain ⟨h4, h5⟩ := hA t ht
  refine ⟨by rw [h4.len]; have := h4.hn; have : n * n ≤ 4 * 4 := Nat.mul_le_mul h4.hn.2 h4.hn.2; omega, ?_⟩
  rw [impl_semi_ok h4, h5, Bool.true_and])
 obtain ⟨r, h4, h5⟩ := each_ok h hg (gsCb fun t => impl_SemilatticePolymorphism_c1_p t (true, (n : Int))) h1
 have h6 := eachSM (g := (true, (n : Int))) fuel 0 (List.replicate (Int.toNat ((idemT n 2).length : Int)) (0 : Int)) (((2 : Nat) : Int), ((0, []), false)) (true, (n : Int), ((2 : Nat) : Int), demD n 2 rels) (idemT n 2) ()
 rw [h4] at h6
 unfold impl_firstPoly_impl_SemilatticePolymorphism_c1 impl_polySearch_each_impl_firstPoly_c1_impl_SemilatticePolymorphism_c1
 rw [impl_newPolySearch_ok h]
 simp only [Option.bind_some, h6, Option.map_some]
 rw [if_pos (by rw [hg]; unfold lim; omega)]
 simp only [Option.bind_some, h5]
end
section
variable {n : Int} {rels : List RelT}
theorem firstR_le {k B : Nat} {l : List (List Int)} (h : ∀ t ∈ l, t.length ≤ B) : (firstR k l).1.2.length ≤ B := by
 cases l with
 | nil => simp [firstR]
 | cons t l => exact h t (List.mem_cons_self ..)
theorem SemilatticePolymorphism_ok (h : relsS rels) : ∃ R : Opn × Bool, impl_SemilatticePolymorphism n rels = some R ∧ spec_SemilatticePolymorphism n rels = some R ∧ R.1.2.length ≤ 1000 := by
 unfold impl_SemilatticePolymorphism spec_SemilatticePolymorphism
 rw [impl_canAsk_ok h, spec_l14Takes_ok h]
 rw [show (tmplB n rels && decide (1 ≤ (2 : Int) ∧ (2 : Int) ≤ 3) && fewB 2 rels) = (tmplB n rels && fewB 2 rels) by simp]
 cases hc : tmplB n rels && fewB 2 rels with
 | false => exact ⟨((0, []), false), by simp, by simp, by simp⟩
 | true =>
  rw [Bool.and_eq_true] at hc
  obtain ⟨hn, _⟩ := tmpl_of hc.1
  have hR := rels_of (k := 2) hc.1 (by omega)
  simp only [Option.bind_some, Bool.not_true, Bool.false_eq_true, if_false]
  by_cases h3 : n > 3
  ·rw [if_pos (by simpa using h3), if_pos (by simpa using h3)]; exact ⟨((0, []), false), rfl, rfl, by simp⟩
  ·rw [if_neg (by simpa using h3), if_neg (by simpa using h3)]
   obtain ⟨m, rfl⟩ : ∃ m : Nat, n = m := ⟨n.toNat, by omega⟩
   rw [Int.toNat_natCast] at hR
   have hm3 : m ≤ 3 := by omega
   obtain ⟨i1, i2⟩ := idem_ok (n := m) (k := 2) (by omega) (by omega)
   have i1 : impl_idempotentTable (m : Int) 2 = _ := i1
   have i2 : spec_l14Idempotent (m : Int) 2 = _ := i2
   obtain ⟨hA1, hA2⟩ := idem_all hR hm3
   have hz : m ^ m ^ 2 ≤ 4611686018427387904 := by
    have : m = 1 ∨ m = 2 ∨ m = 3 := by omega
    rcases this with rfl | rfl | rfl <;> decide
   obtain ⟨s, b, s1, s2⟩ := spec_l14All_ok hR (given := idemT m 2) idemT_len hz (most := 729) (by omega)
   rw [foldS_many (by omega)] at s1
   have s3 := (Option.some.inj s1).symm
   simp only [Prod.mk.injEq] at s3
   obtain ⟨rfl, rfl⟩ := s3
   have s2 : spec_l14All (m : Int) rels 2 (idemT m 2) 729 = _ := s2
   have et : ([] ++ (allT m 2 rels (idemT m 2)).take ((729 : Int) - (([] : List (List Int)).length : Int)).toNat) = allT m 2 rels (idemT m 2) := by
    rw [List.nil_append, List.take_of_length_le (by simp; omega)]
   rw [et] at s2
   have q1 := impl_firstSM hR hm3
   have q1 : impl_firstPoly_impl_SemilatticePolymorphism_c1 (m : Int) rels 2 (idemT m 2) (true, (m : Int)) = _ := q1
   have q2 := spec_sem_L5 (n := m) (0, []) (allT m 2 rels (idemT m 2)) (by omega) (fun t ht => (hA2 t ht).1)
   have q3 := firstR_le (k := 2) (B := 1000) (l := (allT m 2 rels (idemT m 2)).filter fun t => commB m t && assocB m t) (fun t ht => by
    have h4 := (hA2 t (List.mem_filter.1 ht).1).1
    rw [h4.len]; have : m * m ≤ 4 * 4 := Nat.mul_le_mul h4.hn.2 h4.hn.2; omega)
   simp only [i1, i2, s2, q1, q2, Option.bind_some]
   have hfr : ∀ l : List (List Int), (firstR 2 l).2 = false → firstR 2 l = ((0, []), false) := fun l hl => by
    cases l with
    | nil => rfl
    | cons => simp [firstR] at hl
   generalize hF : firstR 2 ((allT m 2 rels (idemT m 2)).filter fun t => commB m t && assocB m t) = F at *
   obtain ⟨⟨f1, f2⟩, fb⟩ := F
   cases fb with
   | false =>
    have := hfr _ (by rw [hF])
    rw [hF] at this
    obtain ⟨e1, _⟩ := Prod.mk.inj this
    obtain ⟨rfl, rfl⟩ := Prod.mk.inj e1
    exact ⟨_, rfl, rfl, by simp⟩
   | true => exact ⟨_, rfl, rfl, q3⟩
theorem FnExactSemilatticePolymorphism_law (_ : wfT .int n) (h : wfT relsT rels) : laws_FnExactSemilatticePolymorphism n rels = some true := by
 unfold laws_FnExactSemilatticePolymorphism
 rw [szRelationS_ok h (by omega) (by omega)]
 simp only [Option.bind_some]
 by_cases hz : szR (totRS rels) 1048576 < 0
 ·rw [if_pos (by simpa using hz)]
 ·obtain ⟨hs, ht⟩ := relsS_of (by omega) hz
  rw [if_neg (by simpa using hz)]
  obtain ⟨b, k', hm, hk0, hk1⟩ := markRels_ok (k := 1) hs (by omega) (by omega) (by omega)
  obtain ⟨R, e1, e2, hR⟩ := SemilatticePolymorphism_ok (n := n) hs
  have e3 := mIntS_far R.1.2 1
  have e4 : ¬ (mIntS R.1.2 1).2 < 0 := by omega
  have e5 := eqOp_ok (f := R.1) (g := R.1) (by omega)
  have e5 : laws_eqOp (R.1.1, R.1.2) (R.1.1, R.1.2) = _ := e5
  simp only [toRelationS_ok hs, e1, e2, eqRelationS_ok hs, Option.bind_some, e5, hm]
  unfold laws_markOp laws_heldOp
  simp only [markIntS_ok (l := R.1.2) (k := 1) (by omega) (by omega) (by unfold BM; omega), Option.bind_some, heldIntS_ok (l := R.1.2) (k := 1) (by omega) (by omega) (by unfold BM; omega)]
  simp [e4, show ¬ k' < 0 by omega]
end
end T
