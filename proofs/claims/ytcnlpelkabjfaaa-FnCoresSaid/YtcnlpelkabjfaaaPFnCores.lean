/- Plain lemmas on the typed functions of the program, and the plain law of FnCores; no conditions. -/
import Derived.Test.YtcnlpelkabjfaaaV1
import Derived.Test.YtcnlpelkabjfaaaV5
import Derived.KernelRfl
import Derived.Test.YtcnlpelkabjfaaaOFnCores
set_option linter.all false
open Go Go.Va
namespace T
def relsS (a : List RelT) : Prop := a.length ≤ 1048576 ∧ ∀ r ∈ a, rowsS r.2
def wR (r : RelT) : Nat := 1 + (r.2.map List.length).sum
def opsS (l : List Opn) : Prop := l.length ≤ 1000 ∧ ∀ f ∈ l, f.2.length ≤ 1000
def tmplB (n : Int) (rels : List RelT) : Bool := decide (1 ≤ n ∧ n ≤ 4) && decide (rels.length ≤ 4) && rels.all (relB n)
def fewB (k : Int) (rels : List RelT) : Bool := rels.all fun r => !(k == 3 && decide ((r.2.length : Int) > 12))
theorem impl_canAsk_ok {n k : Int} {rels : List RelT} (h : relsS rels) : impl_canAsk n rels k = some (tmplB n rels && fewB k rels) := by
 have hl := h.1
 unfold impl_canAsk impl_isTemplateSize impl_isTemplate tmplB
 by_cases h1 : 1 ≤ n ∧ n ≤ 4
 ·rw [if_pos (by simp; omega)]
  simp only [Option.bind_some]
  rw [if_neg (by simp; omega)]
  by_cases h2 : rels.length ≤ 4
  ·rw [if_neg (by simp; omega)]
   have e1 := allX rels (fun f i => impl_isTemplate_L4 f (n, rels, (rels.length : Int), i)) (relB n) (.inr false) (.inl ()) (fun f i hi => by
    have := h.2 _ (List.getElem_mem hi)
    simp only [impl_isTemplate_L4, inb_nat, hi, gd_nat hi, impl_isRelation_ok (r := (rels[i].1, rels[i].2)) this, Option.bind_some, w64_succ (show i < 4611686018427387904 by omega)]
    rw [if_pos (by simp; omega)]
    cases relB n rels[i] <;> simp) (fun f => by simp [impl_isTemplate_L4]) (n := fuel) (by unfold fuel; omega)
   have e2 := allX rels (fun f i => impl_canAsk_L4 f (k, rels, (rels.length : Int), i)) (fun r => !(k == 3 && decide ((r.2.length : Int) > 12))) (.inr false) (.inl ()) (fun f i hi => by
    simp only [impl_canAsk_L4, inb_nat, hi, gd_nat hi, w64_succ (show i < 4611686018427387904 by omega)]
    rw [if_pos (by simp; omega)]
    by_cases c1 : k = 3
    ·by_cases c2 : (rels[i].2.length : Int) > 12
     ·simp [c1, c2]
     ·simp [c1, c2]
    ·simp [c1]) (fun f => by simp [impl_canAsk_L4]) (n := fuel) (by unfold fuel; omega)
   rw [e1]
   unfold fewB
   cases hr : rels.all (relB n) with
   | false => simp
   | true =>
    simp only [Option.bind_some, if_true, Bool.not_true, Bool.false_eq_true, if_false]
    rw [e2]
    cases rels.all fun r => !(k == 3 && decide ((r.2.length : Int) > 12)) <;> simp [h1, h2]
  ·rw [if_pos (by simp; omega)]
   simp [h2]
 ·by_cases h2 : n ≥ 1
  ·rw [if_pos (by simpa using h2)]
   have : ¬ n ≤ 4 := by omega
   simp [this]
  ·rw [if_neg (by simpa using h2)]
   have : ¬ 1 ≤ n := by omega
   simp [this]
theorem spec_l14Takes_ok {n k : Int} {rels : List RelT} (h : relsS rels) : spec_l14Takes n rels k = some (tmplB n rels && decide (1 ≤ k ∧ k ≤ 3) && fewB k rels) := by
 have hl := h.1
 unfold spec_l14Takes spec_l14Size spec_l14Rels tmplB
 rw [spec_l1In_ok, spec_l1In_ok]
 by_cases h1 : 1 ≤ n ∧ n ≤ 4
 ·simp only [Option.bind_some]
  rw [if_neg (by simp; omega)]
  by_cases h2 : rels.length ≤ 4
  ·rw [if_neg (by simp; omega)]
   have e1 := allX rels (fun f i => spec_l14Rels_L4 f (n, rels, i)) (relB n) (.inr false) (.inl ()) (fun f i hi => by
    have := h.2 _ (List.getElem_mem hi)
    simp only [spec_l14Rels_L4, inb_nat, hi, gd_nat hi, spec_l13Good_ok (n := n) this (by omega), Option.bind_some, w64_succ (show i < 4611686018427387904 by omega)]
    rw [if_pos (by simp; omega)]
    cases relB n rels[i] <;> simp) (fun f => by simp [spec_l14Rels_L4]) (n := fuel) (by unfold fuel; omega)
   have e2 := allX rels (fun f i => spec_l14Takes_L4 f (rels, k, i)) (fun r => !(k == 3 && decide ((r.2.length : Int) > 12))) (.inr false) (.inl ()) (fun f i hi => by
    simp only [spec_l14Takes_L4, inb_nat, hi, gd_nat hi, w64_succ (show i < 4611686018427387904 by omega)]
    rw [if_pos (by simp; omega)]
    by_cases c1 : k = 3
    ·by_cases c2 : (rels[i].2.length : Int) > 12
     ·simp [c1, c2]
     ·simp [c1, c2]
    ·simp [c1]) (fun f => by simp [spec_l14Takes_L4]) (n := fuel) (by unfold fuel; omega)
   rw [e1]
   unfold fewB
   cases hr : rels.all (relB n) with
   | false => simp
   | true =>
    simp only [Option.bind_some, if_true, Bool.not_true, Bool.false_eq_true, if_false]
    rw [e2]
    by_cases hk : 1 ≤ k ∧ k ≤ 3
    ·rw [if_neg (by simp; omega)]
     cases rels.all fun r => !(k == 3 && decide ((r.2.length : Int) > 12)) <;> simp [h1, h2, hk]
    ·rw [if_pos (by simp; omega)]; simp [hk]
  ·rw [if_pos (by simp; omega)]
   simp [h2]
 ·simp [h1]
theorem tmpl_of {n : Int} {rels : List RelT} (h : tmplB n rels = true) : (1 ≤ n ∧ n ≤ 4) ∧ rels.length ≤ 4 ∧ ∀ r ∈ rels, ROk n.toNat r.1.toNat r := by
 unfold tmplB at h
 simp only [Bool.and_eq_true, decide_eq_true_eq, List.all_eq_true] at h
 obtain ⟨⟨h1, h2⟩, h3⟩ := h
 refine ⟨h1, h2, fun r hr => rok_of (by omega) ?_⟩
 rw [Int.toNat_of_nonneg (by omega)]; exact h3 r hr
theorem rels_of {n : Int} {rels : List RelT} {k : Nat} (h : tmplB n rels = true) (hk : 1 ≤ k ∧ k ≤ 3) : RelsOk n.toNat k rels := by
 obtain ⟨h1, h2, h3⟩ := tmpl_of h
 exact ⟨by omega, hk, by omega, h3⟩
def polyB (n : Int) (rels : List RelT) (k : Int) : Bool := tmplB n rels && fewB k rels && (decide (1 ≤ k ∧ k ≤ 3) && decide (n.toNat ^ k.toNat ≤ 9))
theorem spec_l14Small_ok {n k : Int} {rels : List RelT} (h : relsS rels) : spec_l14Small n rels k = some (polyB n rels k) := by
 unfold spec_l14Small polyB
 rw [spec_l14Takes_ok h]
 simp only [Option.bind_some]
 cases ht : tmplB n rels with
 | false => simp
 | true =>
  obtain ⟨h1, _⟩ := tmpl_of ht
  by_cases hk : 1 ≤ k ∧ k ≤ 3
  ·have e := spec_pow64 (b := n.toNat) (k := k.toNat) (by omega) (by omega)
   rw [Int.toNat_of_nonneg (by omega), Int.toNat_of_nonneg (by omega)] at e
   have h9 : (((n.toNat ^ k.toNat : Nat) : Int) ≤ 9) ↔ n.toNat ^ k.toNat ≤ 9 := by omega
   rw [decide_eq_true hk, Bool.true_and, Bool.true_and, Bool.true_and]
   cases fewB k rels with
   | false => simp
   | true =>
    rw [if_pos rfl, e]
    simp only [Option.bind_some, decide_eq_decide.2 h9, Bool.true_and]
  ·simp [hk]
theorem impl_range_ok {n k : Int} (h1 : 1 ≤ n ∧ n ≤ 4) : impl_isPolyRange n k = some (decide (1 ≤ k ∧ k ≤ 3) && decide (n.toNat ^ k.toNat ≤ 9)) := by
 unfold impl_isPolyRange
 by_cases hk : 1 ≤ k ∧ k ≤ 3
 ·have e := impl_power64 (b := n.toNat) (k := k.toNat) (by omega) (by omega)
  rw [Int.toNat_of_nonneg (by omega), Int.toNat_of_nonneg (by omega)] at e
  have h9 : (((n.toNat ^ k.toNat : Nat) : Int) ≤ 9) ↔ n.toNat ^ k.toNat ≤ 9 := by omega
  rw [decide_eq_true hk, Bool.true_and, if_pos (by simp; omega), if_pos (by simp; omega), e]
  simp only [Option.bind_some, decide_eq_decide.2 h9]
 ·by_cases h2 : k ≥ 1
  ·rw [if_pos (by simpa using h2), if_neg (by simp; omega)]; simp [hk]
  ·rw [if_neg (by simpa using h2)]; simp [hk]
theorem freeI_ok {N : Nat} (h : N ≤ 1000) : impl_freeTable (N : Int) = some (List.replicate N (-1)) := by
 unfold impl_freeTable
 rw [Int.toNat_natCast, if_pos (by unfold lim; omega)]
 have := forS N (fun f o i => impl_freeTable_L3 f (o, ((List.replicate N (0 : Int)).length : Int), i)) (fun j => List.replicate j (-1) ++ List.replicate (N - j) (0 : Int)) (r := some (List.replicate N (-1))) (fun f j hj => ?_) (fun f => ?_) (n := fuel) (by unfold fuel; omega)
 ·have this : impl_freeTable_L3 fuel (List.replicate N (0 : Int), ((List.replicate N (0 : Int)).length : Int), 0) = _ := this
  rw [this]; rfl
 ·have hin : j < (List.replicate j (-1) ++ List.replicate (N - j) (0 : Int)).length := by simp; omega
  have e : (List.replicate j (-1) ++ List.replicate (N - j) (0 : Int)).set j (-1) = List.replicate (j + 1) (-1) ++ List.replicate (N - (j + 1)) (0 : Int) := by
   rw [show N - j = (N - (j + 1)) + 1 by omega, List.replicate_succ, List.set_append_right _ _ (by simp), List.replicate_succ']
   simp
  simp only [impl_freeTable_L3, inb_nat, hin, stt_nat, e, if_true, w64_succ (show j < 4611686018427387904 by omega)]
  rw [if_pos (by simp; omega)]
 ·simp only [impl_freeTable_L3]
  rw [if_neg (by simp)]; simp
theorem freeS_ok {N : Nat} (h : N ≤ 1000) : spec_l14Free (N : Int) = some (List.replicate N (-1)) := by
 unfold spec_l14Free
 have := forS N (fun f o i => spec_l14Free_L3 f ((N : Int), o, i)) (fun j => List.replicate j (-1)) (r := some (List.replicate N (-1))) (fun f j hj => ?_) (fun f => ?_) (n := fuel) (by unfold fuel; omega)
 ·have this : spec_l14Free_L3 fuel ((N : Int), [], 0) = _ := this
  rw [this]; rfl
 ·simp only [spec_l14Free_L3, List.replicate_succ', w64_succ (show j < 4611686018427387904 by omega)]
  rw [if_pos (by simp; omega), if_pos (by simp; unfold lim; omega)]
 ·simp only [spec_l14Free_L3]
  rw [if_neg (by simp)]
theorem small9 {n k : Nat} (hn : 1 ≤ n ∧ n ≤ 4) (hz : n ^ k ≤ 9) : n ^ n ^ k ≤ 4611686018427387904 := by
 have h1 : n ^ n ^ k ≤ 4 ^ n ^ k := Nat.pow_le_pow_left hn.2 _
 have h2 : 4 ^ n ^ k ≤ 4 ^ 9 := Nat.pow_le_pow_right (by omega) hz
 have : (4 : Nat) ^ 9 = 262144 := by decide
 omega
end T
open Go Go.Va
namespace T
section
variable {n k : Int} {rels : List RelT}
theorem listR_bd {n k : Nat} {l : List (List Int)} (h : ∀ t ∈ l, t.length ≤ 1000) : opsS (listR k l).1 := by
 unfold listR
 split
 ·refine ⟨by simp; omega, fun f hf => ?_⟩
  obtain ⟨t, ht, rfl⟩ := List.mem_map.1 hf
  exact h t ht
 ·exact ⟨by simp, fun f hf => by simp at hf⟩
theorem list_same {n k : Nat} {rels : List RelT} {given : List Int} (h : RelsOk n k rels) (hg : given.length = n ^ k) (h9 : n ^ k ≤ 9) :
    impl_listPolys (n : Int) rels (k : Int) given = some (listR k (allT n k rels given)) ∧
    ((spec_l14All (n : Int) rels (k : Int) given 300).bind fun r4 => if decide (r4.2.1 > 300) then some ([], false) else (spec_l12Ops (k : Int) r4.1).bind fun r5 => some (r5, true)) = some (listR k (allT n k rels given)) ∧ opsS (listR k (allT n k rels given)).1 := by
  have hlen : ∀ t ∈ allT n k rels given, t.length ≤ 1000 := fun t ht => by rw [(allT_mem ht).1]; omega
  obtain ⟨s, h1, h2, h3⟩ := spec_list_ok h hg (small9 h.hn h9)
  refine ⟨impl_listPolys_ok h hg, ?_, listR_bd (n := n) hlen⟩
  rw [h1]
  simp only [Option.bind_some, h2]
  unfold listR
  by_cases hc : (allT n k rels given).length ≤ 300
  · rw [if_neg (by simp; omega), if_pos hc, h3 hc, spec_l12Ops_ok (by omega) hlen]; rfl
  · rw [if_pos (by simp; omega), if_neg hc]
theorem polyB_of (h : polyB n rels k = true) : (1 ≤ n ∧ n ≤ 4) ∧ (1 ≤ k ∧ k ≤ 3) ∧ n.toNat ^ k.toNat ≤ 9 ∧ RelsOk n.toNat k.toNat rels := by
 unfold polyB at h
 simp only [Bool.and_eq_true, decide_eq_true_eq] at h
 obtain ⟨⟨h1, _⟩, h2, h3⟩ := h
 exact ⟨(tmpl_of h1).1, h2, h3, rels_of h1 (by omega)⟩
def idemAt (n k x : Nat) : Nat := (List.range k).foldl (fun a _ => a * n + x) 0
theorem idemAt_lt {n x : Nat} (hx : x < n) (hn : n ≤ 4) : ∀ k, k ≤ 3 → idemAt n k x < n ^ k ∧ idemAt n k x ≤ 64 := by
 intro k hk
 have : ∀ k, idemAt n k x < n ^ k := by
  intro k
  induction k with
  | zero => simp [idemAt]
  | succ k ih =>
   have e : idemAt n (k + 1) x = idemAt n k x * n + x := by unfold idemAt; rw [range_fold]
   rw [e, Nat.pow_succ]
   have : (idemAt n k x + 1) * n ≤ n ^ k * n := Nat.mul_le_mul_right _ ih
   rw [Nat.succ_mul] at this
   omega
 have h1 := this k
 have h2 := pow_le3 hn hk
 omega
def idemT (n k : Nat) : List Int := (List.range n).foldl (fun o x => o.set (idemAt n k x) (x : Int)) (List.replicate (n ^ k) (-1))
theorem idemT_len {n k : Nat} : (idemT n k).length = n ^ k := by
 unfold idemT
 have : ∀ (l : List Nat) (o : List Int), (l.foldl (fun o x => o.set (idemAt n k x) (x : Int)) o).length = o.length := by
  intro l
  induction l with
  | nil => intro o; rfl
  | cons x l ih => intro o; rw [List.foldl_cons, ih]; simp
 rw [this]; simp
theorem idemO_len {n k : Nat} : ∀ (l : List Nat) (o : List Int), (l.foldl (fun o x => o.set (idemAt n k x) (x : Int)) o).length = o.length
 | [], o => rfl
 | x :: l, o => by rw [List.foldl_cons, idemO_len l]; simp
theorem idem_ok {n k : Nat} (hn : 1 ≤ n ∧ n ≤ 4) (hk : 1 ≤ k ∧ k ≤ 3) : impl_idempotentTable (n : Int) (k : Int) = some (idemT n k) ∧ spec_l14Idempotent (n : Int) (k : Int) = some (idemT n k) := by
 have h64 := pow_le3 hn.2 hk.2
 have i7 : ∀ (o : List Int) (x : Nat), x < n → impl_idempotentTable_L7 fuel ((n : Int), (k : Int), o, (x : Int), 0, 0) = some ((n : Int), (k : Int), o, (x : Int), ((idemAt n k x : Nat) : Int)) := fun o x hx => by
  have := forS k (fun f s i => impl_idempotentTable_L7 f ((n : Int), (k : Int), o, (x : Int), s, i)) (fun i => ((idemAt n i x : Nat) : Int)) (r := some ((n : Int), (k : Int), o, (x : Int), ((idemAt n k x : Nat) : Int))) (fun f i hi => by
   have e : idemAt n (i + 1) x = idemAt n i x * n + x := by unfold idemAt; rw [range_fold]
   have := idemAt_lt hx hn.2 i (by omega)
   simp only [impl_idempotentTable_L7, w64_step hn.2 this.2 hx, e, w64_succ (show i < 4611686018427387904 by omega)]
   rw [if_pos (by simp; omega)]) (fun f => by simp [impl_idempotentTable_L7]) (n := fuel) (by unfold fuel; omega)
  exact this
 have s7 : ∀ (o : List Int) (x : Nat), x < n → spec_l14Idempotent_L7 fuel ((n : Int), (k : Int), o, (x : Int), 0, 0) = some ((n : Int), (k : Int), o, (x : Int), ((idemAt n k x : Nat) : Int)) := fun o x hx => by
  have := forS k (fun f s i => spec_l14Idempotent_L7 f ((n : Int), (k : Int), o, (x : Int), s, i)) (fun i => ((idemAt n i x : Nat) : Int)) (r := some ((n : Int), (k : Int), o, (x : Int), ((idemAt n k x : Nat) : Int))) (fun f i hi => by
   have e : idemAt n (i + 1) x = idemAt n i x * n + x := by unfold idemAt; rw [range_fold]
   have := idemAt_lt hx hn.2 i (by omega)
   simp only [spec_l14Idempotent_L7, w64_step hn.2 this.2 hx, e, w64_succ (show i < 4611686018427387904 by omega)]
   rw [if_pos (by simp; omega)]) (fun f => by simp [spec_l14Idempotent_L7]) (n := fuel) (by unfold fuel; omega)
  exact this
 have i3 := forS n (fun f o x => impl_idempotentTable_L3 f ((n : Int), (k : Int), o, x)) (fun j => (List.range j).foldl (fun o x => o.set (idemAt n k x) (x : Int)) (List.replicate (n ^ k) (-1))) (r := some (idemT n k)) (fun f x hx => by
  have h1 := idemAt_lt hx hn.2 k hk.2
  have h2 : idemAt n k x < ((List.range x).foldl (fun o x => o.set (idemAt n k x) (x : Int)) (List.replicate (n ^ k) (-1))).length := by rw [idemO_len]; simp; exact h1.1
  simp only [impl_idempotentTable_L3, i7 _ x hx, Option.bind_some, inb_nat, h2, stt_nat, range_fold, if_true, w64_succ (show x < 4611686018427387904 by omega)]
  rw [if_pos (by simp; omega)]) (fun f => by simp only [impl_idempotentTable_L3]; rw [if_neg (by simp)]; rfl) (n := fuel) (by unfold fuel; omega)
 have s3 := forS n (fun f o x => spec_l14Idempotent_L3 f ((n : Int), (k : Int), o, x)) (fun j => (List.range j).foldl (fun o x => o.set (idemAt n k x) (x : Int)) (List.replicate (n ^ k) (-1))) (r := some (idemT n k)) (fun f x hx => by
  have h1 := idemAt_lt hx hn.2 k hk.2
  have h2 : idemAt n k x < ((List.range x).foldl (fun o x => o.set (idemAt n k x) (x : Int)) (List.replicate (n ^ k) (-1))).length := by rw [idemO_len]; simp; exact h1.1
  simp only [spec_l14Idempotent_L3, s7 _ x hx, Option.bind_some, inb_nat, h2, stt_nat, range_fold, if_true, w64_succ (show x < 4611686018427387904 by omega)]
  rw [if_pos (by simp; omega)]) (fun f => by simp only [spec_l14Idempotent_L3]; rw [if_neg (by simp)]; rfl) (n := fuel) (by unfold fuel; omega)
 have i3 : impl_idempotentTable_L3 fuel ((n : Int), (k : Int), List.replicate (n ^ k) (-1), 0) = _ := i3
 have s3 : spec_l14Idempotent_L3 fuel ((n : Int), (k : Int), List.replicate (n ^ k) (-1), 0) = _ := s3
 unfold impl_idempotentTable spec_l14Idempotent
 rw [impl_power64 (by omega) hk.2, spec_pow64 (by omega) hk.2]
 simp only [Option.bind_some, freeI_ok (show n ^ k ≤ 1000 by omega), freeS_ok (show n ^ k ≤ 1000 by omega), i3, s3, and_self]
theorem IdempotentPolymorphisms_ok (h : relsS rels) : ∃ R : List Opn × Bool, impl_IdempotentPolymorphisms n rels k = some R ∧ spec_IdempotentPolymorphisms n rels k = some R ∧ opsS R.1 := by
 unfold impl_IdempotentPolymorphisms spec_IdempotentPolymorphisms
 rw [impl_canAsk_ok h, spec_l14Small_ok h]
 cases hb : polyB n rels k with
 | false =>
  refine ⟨([], false), ?_, by simp, by simp, fun f hf => by simp at hf⟩
  cases hc : tmplB n rels && fewB k rels with
  | false => simp
  | true =>
   unfold polyB at hb
   rw [hc, Bool.true_and] at hb
   rw [Bool.and_eq_true] at hc
   simp only [Option.bind_some, Bool.not_true, Bool.false_eq_true, if_false, impl_range_ok (k := k) (tmpl_of hc.1).1, hb]
   rfl
 | true =>
  obtain ⟨hn, hk, h9, hR⟩ := polyB_of hb
  have hb' := hb
  unfold polyB at hb'
  simp only [Bool.and_eq_true] at hb'
  obtain ⟨⟨ht, hf⟩, hr⟩ := hb'
  obtain ⟨i1, i2⟩ := idem_ok (n := n.toNat) (k := k.toNat) (by omega) (by omega)
  obtain ⟨q1, q2, q3⟩ := list_same hR (given := idemT n.toNat k.toNat) idemT_len h9
  rw [Int.toNat_of_nonneg (by omega), Int.toNat_of_nonneg (by omega)] at q1 q2 i1 i2
  refine ⟨_, ?_, ?_, q3⟩
  ·rw [ht, hf]
   simp only [Option.bind_some, Bool.and_self, Bool.not_true, Bool.false_eq_true, if_false, impl_range_ok (k := k) hn, hr.1, hr.2, i1, q1]
  ·simp only [Option.bind_some, Bool.not_true, Bool.false_eq_true, if_false, i2, q2]
end
end T
set_option linter.unusedVariables false
open Go Go.Va
namespace T
def spec_l14Core_L4 : Nat → ((List Int) × (List (List Int)) × Int) → Option ((List Int))
 | 0, _ => none
 | n + 1, (best, all, i) =>
  if decide (i < (all.length : Int)) then
   if inb i all then
    (spec_l14Values (gd all i [])).bind fun r3 =>
     (spec_l14Values best).bind fun r4 =>
      if decide ((r3.length : Int) < (r4.length : Int)) then
       if inb i all then
        spec_l14Core_L4 n (gd all i [], all, w64 (i + 1))
       else none
      else
       spec_l14Core_L4 n (best, all, w64 (i + 1))
   else none
  else
   some best
def spec_l14Core (n_ : Int) (rels : List (Int × (List (List Int)))) : Option ((List Int)) :=
 (spec_l14Free n_).bind fun r1 =>
  (spec_l14All n_ rels 1 r1 300).bind fun r2 =>
   if inb 0 r2.1 then
    (spec_l14Core_L4 fuel (gd r2.1 0 [], r2.1, 1)).bind fun s3 =>
     some s3
   else none
def spec_CoreMap (n_ : Int) (rels : List (Int × (List (List Int)))) : Option ((Int × (List Int)) × Bool) :=
 (spec_l14Takes n_ rels 1).bind fun r1 =>
  if !r1 then
   some ((0, []), false)
  else
   (spec_l14Core n_ rels).bind fun r2 =>
    (spec_l1Own r2).bind fun r3 =>
     some ((1, r3), true)
def spec_CoreTemplate_L14 : Nat → ((List (Int × (List (List Int)))) × (List (Int × (List (List Int)))) × (List Int) × Int × (Int × (List (List Int))) × Int × (List Int) × Int) → Option ((List (Int × (List (List Int)))) × (List (Int × (List (List Int)))) × (List Int) × Int × (Int × (List (List Int))) × Int × (List Int))
 | 0, _ => none
 | n + 1, (t1, t7, t8, t9, t10, t11, t12, t13) =>
  if inb t9 t1 then
   if inb t11 ((gd t1 t9 (0, [])).2) then
    if decide (t13 < ((gd ((gd t1 t9 (0, [])).2) t11 []).length : Int)) then
     if inb t9 t1 then
      if inb t11 ((gd t1 t9 (0, [])).2) then
       if inb t13 (gd ((gd t1 t9 (0, [])).2) t11 []) then
        (spec_l5Place t8 (gd (gd ((gd t1 t9 (0, [])).2) t11 []) t13 0)).bind fun r4 =>
         if decide (r4 ≥ 0) then
          if t12.length + [r4].length ≤ lim then
           spec_CoreTemplate_L14 n (t1, t7, t8, t9, (t10.1, t10.2), t11, t12 ++ [r4], w64 (t13 + 1))
          else none
         else
          spec_CoreTemplate_L14 n (t1, t7, t8, t9, (t10.1, t10.2), t11, t12, w64 (t13 + 1))
       else none
      else none
     else none
    else
     some (t1, t7, t8, t9, (t10.1, t10.2), t11, t12)
   else none
  else none
def spec_CoreTemplate_L10 : Nat → ((List (Int × (List (List Int)))) × (List (Int × (List (List Int)))) × (List Int) × Int × (Int × (List (List Int))) × Int) → Option ((List (Int × (List (List Int)))) × (List (Int × (List (List Int)))) × (List Int) × Int × (Int × (List (List Int))))
 | 0, _ => none
 | n + 1, (t1, t7, t8, t9, t10, t11) =>
  if inb t9 t1 then
   if decide (t11 < (((gd t1 t9 (0, [])).2).length : Int)) then
    (spec_CoreTemplate_L14 fuel (t1, t7, t8, t9, (t10.1, t10.2), t11, [], 0)).bind fun s4 =>
     if (s4.2.2.2.2.2.2.length : Int) == s4.2.2.2.2.1.1 then
      if s4.2.2.2.2.1.2.length + [s4.2.2.2.2.2.2].length ≤ lim then
       spec_CoreTemplate_L10 n (s4.1, s4.2.1, s4.2.2.1, s4.2.2.2.1, (s4.2.2.2.2.1.1, s4.2.2.2.2.1.2 ++ [s4.2.2.2.2.2.2]), w64 (s4.2.2.2.2.2.1 + 1))
      else none
     else
      spec_CoreTemplate_L10 n (s4.1, s4.2.1, s4.2.2.1, s4.2.2.2.1, (s4.2.2.2.2.1.1, s4.2.2.2.2.1.2), w64 (s4.2.2.2.2.2.1 + 1))
   else
    some (t1, t7, t8, t9, (t10.1, t10.2))
  else none
def spec_CoreTemplate_L6 : Nat → ((List (Int × (List (List Int)))) × (List (Int × (List (List Int)))) × (List Int) × Int) → Option ((List (Int × (List (List Int)))) × (List Int))
 | 0, _ => none
 | n + 1, (t1, t7, t8, t9) =>
  if decide (t9 < (t1.length : Int)) then
   if inb t9 t1 then
    (spec_CoreTemplate_L10 fuel (t1, t7, t8, t9, ((gd t1 t9 (0, [])).1, []), 0)).bind fun s4 =>
     if s4.2.1.length + [(s4.2.2.2.2.1, s4.2.2.2.2.2)].length ≤ lim then
      spec_CoreTemplate_L6 n (s4.1, s4.2.1 ++ [(s4.2.2.2.2.1, s4.2.2.2.2.2)], s4.2.2.1, w64 (s4.2.2.2.1 + 1))
     else none
   else none
  else
   some (t7, t8)
def spec_CoreTemplate (t0 : Int) (t1 : List (Int × (List (List Int)))) : Option (Int × (List (Int × (List (List Int)))) × Bool) :=
 (spec_l14Takes t0 t1 1).bind fun r1 =>
  if !r1 then
   some (0, [], false)
  else
   (spec_l14Core t0 t1).bind fun r2 =>
    (spec_l14Values r2).bind fun r3 =>
     (spec_CoreTemplate_L6 fuel (t1, [], r3, 0)).bind fun s4 =>
      some ((s4.2.length : Int), s4.1, true)
end T
open Go Go.Va
namespace T
def subB (a b c d : Bool) : List Int := (if a then [0] else []) ++ ((if b then [1] else []) ++ ((if c then [2] else []) ++ (if d then [3] else [])))
theorem put4 : ∀ a b c d : Bool, ∀ x : Fin 4, spec_l1Put (subB a b c d) (x.val : Int) = some (subB (a || x.val == 0) (b || x.val == 1) (c || x.val == 2) (d || x.val == 3)) := by decide +kernel
def imgL (t : List Int) : List Int := subB (decide ((0 : Int) ∈ t)) (decide ((1 : Int) ∈ t)) (decide ((2 : Int) ∈ t)) (decide ((3 : Int) ∈ t))
theorem bit_or {t : List Int} {y c : Nat} : decide ((c : Int) ∈ t ++ [(y : Int)]) = (decide ((c : Int) ∈ t) || y == c) := by
 rw [Bool.eq_iff_iff]
 simp only [decide_eq_true_eq, List.mem_append, List.mem_singleton, Bool.or_eq_true, beq_iff_eq]
 constructor
 ·rintro (h | h)
  ·exact .inl h
  ·exact .inr (by omega)
 ·rintro (h | h)
  ·exact .inl h
  ·exact .inr (by omega)
theorem spec_l14Values_ok {t : List Int} (hl : t.length ≤ 1000) (hv : ∀ x ∈ t, 0 ≤ x ∧ x < 4) : spec_l14Values t = some (imgL t) := by
 unfold spec_l14Values
 have := forS t.length (fun f o i => spec_l14Values_L3 f (t, o, i)) (fun j => imgL (t.take j)) (r := some (imgL t)) (fun f j hj => ?_) (fun f => ?_) (n := fuel) (by unfold fuel; omega)
 ·have this : spec_l14Values_L3 fuel (t, [], 0) = _ := this
  rw [this]; rfl
 ·have hx := hv _ (List.getElem_mem hj)
  obtain ⟨x, hx1⟩ : ∃ x : Fin 4, t[j] = (x.val : Int) := ⟨⟨t[j].toNat, by omega⟩, by simp; omega⟩
  have e : imgL (t.take (j + 1)) = subB (decide ((0 : Int) ∈ t.take j) || x.val == 0) (decide ((1 : Int) ∈ t.take j) || x.val == 1) (decide ((2 : Int) ∈ t.take j) || x.val == 2) (decide ((3 : Int) ∈ t.take j) || x.val == 3) := by
   unfold imgL
   rw [List.take_succ_eq_append_getElem hj, hx1]
   rw [show decide ((0 : Int) ∈ t.take j ++ [(x.val : Int)]) = _ from bit_or (c := 0), show decide ((1 : Int) ∈ t.take j ++ [(x.val : Int)]) = _ from bit_or (c := 1), show decide ((2 : Int) ∈ t.take j ++ [(x.val : Int)]) = _ from bit_or (c := 2), show decide ((3 : Int) ∈ t.take j ++ [(x.val : Int)]) = _ from bit_or (c := 3)]
   rfl
  have hp := put4 (decide ((0 : Int) ∈ t.take j)) (decide ((1 : Int) ∈ t.take j)) (decide ((2 : Int) ∈ t.take j)) (decide ((3 : Int) ∈ t.take j)) x
  rw [← e] at hp
  have hp : spec_l1Put (imgL (t.take j)) (x.val : Int) = _ := hp
  simp only [spec_l14Values_L3, inb_nat, hj, gd_nat hj, hx1, hp, Option.bind_some, if_true, w64_succ (show j < 4611686018427387904 by omega)]
  rw [if_pos (by simp; omega)]
 ·simp only [spec_l14Values_L3, List.take_length]
  rw [if_neg (by simp)]
section
variable {n : Nat} {rels : List RelT}
theorem mk4 {p : Nat → Bool} (hn : 1 ≤ n ∧ n ≤ 4) (hp : ∀ x, n ≤ x → p x = false) : mk ((List.range n).map p) = subB (p 0) (p 1) (p 2) (p 3) ∧ (subB (p 0) (p 1) (p 2) (p 3)).length ≤ n := by
 have h : n = 1 ∨ n = 2 ∨ n = 3 ∨ n = 4 := by omega
 rcases h with rfl | rfl | rfl | rfl
 ·rw [hp 1 (by omega), hp 2 (by omega), hp 3 (by omega)]; simp only [List.range_succ, List.range_zero, List.nil_append, List.map_append, List.map_cons, List.map_nil, List.cons_append]
  cases p 0 <;> decide
 ·rw [hp 2 (by omega), hp 3 (by omega)]; simp only [List.range_succ, List.range_zero, List.nil_append, List.map_append, List.map_cons, List.map_nil, List.cons_append]
  cases p 0 <;> cases p 1 <;> decide
 ·rw [hp 3 (by omega)]; simp only [List.range_succ, List.range_zero, List.nil_append, List.map_append, List.map_cons, List.map_nil, List.cons_append]
  cases p 0 <;> cases p 1 <;> cases p 2 <;> decide
 ·simp only [List.range_succ, List.range_zero, List.nil_append, List.map_append, List.map_cons, List.map_nil, List.cons_append]
  cases p 0 <;> cases p 1 <;> cases p 2 <;> cases p 3 <;> decide
theorem img_bits {t : List Int} (hn : 1 ≤ n ∧ n ≤ 4) (hv : ∀ x ∈ t, 0 ≤ x ∧ x < (n : Int)) : mk ((List.range n).map fun x : Nat => decide ((x : Int) ∈ t)) = imgL t ∧ (imgL t).length ≤ n :=
 mk4 (p := fun x => decide ((x : Int) ∈ t)) hn fun x hx => decide_eq_false fun h => by have := hv _ h; omega
theorem impl_imagesOf_ok {t : List Int} (hn : 1 ≤ n ∧ n ≤ 4) (hl : t.length ≤ 1000) (hv : ∀ x ∈ t, 0 ≤ x ∧ x < (n : Int)) : impl_imagesOf t (n : Int) = some (imgL t) := by
 unfold impl_imagesOf impl_marks
 rw [Int.toNat_natCast, if_pos (by unfold lim; omega)]
 have := forS t.length (fun f o i => impl_marks_L3 f (o, t, (t.length : Int), i)) (fun j => (List.range n).map fun x : Nat => decide ((x : Int) ∈ t.take j)) (r := some ((List.range n).map fun x : Nat => decide ((x : Int) ∈ t))) (fun f j hj => ?_) (fun f => ?_) (n := fuel) (by unfold fuel; omega)
 ·have e : ((List.range n).map fun x : Nat => decide ((x : Int) ∈ t.take 0)) = List.replicate n false := by
   apply List.ext_getElem <;> simp
  rw [e] at this
  have this : impl_marks_L3 fuel (List.replicate n false, t, (t.length : Int), 0) = _ := this
  simp only [this, Option.bind_some]
  rw [impl_marked_ok (by simp; omega), (img_bits hn hv).1]; rfl
 ·obtain ⟨h0, h1⟩ := hv _ (List.getElem_mem hj)
  obtain ⟨x, hx⟩ : ∃ x : Nat, t[j] = (x : Int) := ⟨t[j].toNat, by omega⟩
  have hin : x < ((List.range n).map fun y : Nat => decide ((y : Int) ∈ t.take j)).length := by simp; omega
  have e : ((List.range n).map fun y : Nat => decide ((y : Int) ∈ t.take j)).set x true = (List.range n).map fun y : Nat => decide ((y : Int) ∈ t.take (j + 1)) := by
   apply List.ext_getElem
   ·simp
   ·intro i h2 h3
    rw [List.getElem_set]
    simp only [List.getElem_map, List.getElem_range]
    rw [List.take_succ_eq_append_getElem hj, hx]
    simp only [List.mem_append, List.mem_singleton]
    by_cases e : x = i
    ·subst e; simp
    ·rw [if_neg e, decide_eq_decide]
     constructor
     ·exact .inl
     ·rintro (h | h)
      ·exact h
      ·omega
  simp only [impl_marks_L3, inb_nat, hj, gd_nat hj, hx, hin, stt_nat, e, if_true, w64_succ (show j < 4611686018427387904 by omega)]
  rw [if_pos (by simp; omega)]
 ·simp only [impl_marks_L3, List.take_length]
  rw [if_neg (by simp)]
theorem ext_in {given : List Int} {ok : List Int → Bool} : ∀ (m : Nat) (pre t : List Int), t.length = pre.length + m → t.take pre.length = pre → (∀ j, pre.length ≤ j → j < t.length → ∃ x : Nat, x < n ∧ t.getD j 0 = (x : Int) ∧ mstB given j x = true ∧ ok (t.take (j + 1)) = true) → t ∈ extL n given ok m pre
 | 0, pre, t, hl, ht, _ => by
  rw [List.take_of_length_le (by omega)] at ht
  simp [extL, ht]
 | m + 1, pre, t, hl, ht, h => by
  obtain ⟨x, hx, hg, hm, ho⟩ := h pre.length (Nat.le_refl _) (by omega)
  have htk : t.take (pre.length + 1) = pre ++ [(x : Int)] := by
   rw [List.take_succ_eq_append_getElem (by omega), ht]
   rw [getD_of (by omega)] at hg
   rw [hg]
  rw [htk] at ho
  simp only [extL, List.mem_flatMap]
  refine ⟨x, List.mem_range.2 hx, ?_⟩
  rw [hm, ho]
  simp only [Bool.and_self, if_true]
  refine ext_in m _ t (by simp; omega) (by rw [List.length_append, List.length_singleton]; exact htk) fun j h1 h2 => h j (by simp at h1; omega) h2
theorem id_in (h : RelsOk n 1 rels) : (List.range n).map (fun x : Nat => (x : Int)) ∈ allT n 1 rels (List.replicate (n ^ 1) (-1)) := by
 have hn := h.hn
 unfold allT
 refine ext_in _ _ _ (by simp) (by simp) fun j _ hj => ?_
 simp only [List.length_map, List.length_range] at hj
 refine ⟨j, hj, by rw [getD_of (by simp; exact hj)]; simp, ?_, ?_⟩
 ·unfold mstB
  rw [getD_of (by simp; exact hj)]; simp
 ·unfold okB
  rw [show (((List.range n).map (fun x : Nat => (x : Int))).take (j + 1)).length - 1 = j by simp; omega, metB_take]
  unfold metB
  rw [List.all_eq_true]
  intro r hr
  rw [List.all_eq_true]
  intro i hi
  have hi := List.mem_range.1 hi
  have hrk := h.ok r hr
  have hb : 0 < r.2.length := by
   rcases Nat.eq_zero_or_pos r.2.length with e2 | e2
   ·rw [e2] at hi; simp at hi
   ·exact e2
  have hmod : i % r.2.length < r.2.length := Nat.mod_lt _ hb
  have e : (cI (PL n 1 r i)).map (valI ((List.range n).map (fun x : Nat => (x : Int)))) = r.2[i % r.2.length] := by
   have htl := hrk.tl _ (List.getElem_mem hmod)
   apply List.ext_getElem
   ·simp [cI, PL]; omega
   ·intro q h1 h2
    have hq : q < r.1.toNat := by simpa [cI, PL] using h1
    obtain ⟨v1, v2, v3⟩ := hrk.vt_lt hmod hq
    have hat : atF n r.2 q (dg r.2.length 1 i) = vt r.2 (i % r.2.length) q := by simp [atF, dg]
    simp only [cI, PL, List.getElem_map, List.getElem_range, hat]
    rw [getD_of hmod, getD_of h2] at v2
    rw [v2]
    simp [valI, List.getD_eq_getElem?_getD, v1]
  rw [e, decide_eq_true (List.getElem_mem hmod)]; simp
def coreF (b : List Int) (l : List (List Int)) : List Int := l.foldl (fun b t => if (imgL t).length < (imgL b).length then t else b) b
theorem coreF_mem : ∀ (l : List (List Int)) (b : List Int), coreF b l = b ∨ coreF b l ∈ l
 | [], b => .inl rfl
 | t :: l, b => by
  unfold coreF
  rw [List.foldl_cons]
  by_cases hc : (imgL t).length < (imgL b).length
  ·rw [if_pos hc]
   rcases coreF_mem l t with h | h
   ·exact .inr (by show coreF t l ∈ t :: l; rw [h]; simp)
   ·exact .inr (List.mem_cons_of_mem _ h)
  ·rw [if_neg hc]
   rcases coreF_mem l b with h | h
   ·exact .inl h
   ·exact .inr (List.mem_cons_of_mem _ h)
abbrev CS := Int × (Int × Opn)
def cmCb (t : List Int) (s : CS) : Option (CS × Bool) := (impl_CoreMap_c1 t s.1 s.2.1 s.2.2).bind fun r => some ((r.1, (r.2.1, r.2.2.1)), r.2.2.2)
theorem eachCM_L (rec) : ∀ f x, impl_polySearch_each_c1_impl_CoreMap_c1_L4 rec f x = gL rec f x
 | 0, _ => rfl
 | f + 1, (a, b, c, d, e, g, x) => by simp only [impl_polySearch_each_c1_impl_CoreMap_c1_L4, gL, eachCM_L rec f]
theorem eachCM : ∀ d x, impl_polySearch_each_c1_impl_CoreMap_c1 d x = gF cmCb d x
 | 0, _ => rfl
 | d + 1, (a, t, (s1, (s2, s3)), ps, g, u) => by
  have e : impl_polySearch_each_c1_impl_CoreMap_c1 d = gF cmCb d := funext fun x => eachCM d x
  simp only [impl_polySearch_each_c1_impl_CoreMap_c1, gF, gBody, impl_polySearch_each_c1_impl_CoreMap_c1_body, eachCM_L, e]
  split
  ·unfold cmCb; cases impl_CoreMap_c1 t s1 s2 s3 <;> rfl
  ·congr 1; funext z; cases z <;> rfl
theorem cm_fold (hn : 1 ≤ n ∧ n ≤ 4) : ∀ (l : List (List Int)) (b : List Int), (∀ t ∈ l, t.length ≤ 1000 ∧ ∀ x ∈ t, 0 ≤ x ∧ x < (n : Int)) →
    foldU cmCb l ((n : Int), (((imgL b).length : Int), (1, b))) = some (((n : Int), (((imgL (coreF b l)).length : Int), (1, coreF b l))), true)
  | [], b, _ => rfl
  | t :: l, b, h => by
    obtain ⟨h1, h2⟩ := h t (by simp)
    have hcl : impl_clone t = some t := by
      unfold impl_clone
      rw [if_pos (by simp; unfold lim; omega)]; simp
    have ih := fun b => cm_fold hn l b fun t ht => h t (List.mem_cons_of_mem _ ht)
    have hcb : cmCb t ((n : Int), (((imgL b).length : Int), (1, b))) = some (((n : Int), (((imgL (if (imgL t).length < (imgL b).length then t else b)).length : Int), (1, if (imgL t).length < (imgL b).length then t else b))), true) := by
      unfold cmCb impl_CoreMap_c1
      simp only [impl_imagesOf_ok hn h1 h2, Option.bind_some, hcl]
      by_cases hc : (imgL t).length < (imgL b).length
      · rw [if_pos (by simpa using hc), if_pos hc]; rfl
      · rw [if_neg (by simpa using hc), if_neg hc]; rfl
    simp only [foldU, hcb]
    exact ih _
def coreT (n : Nat) (rels : List RelT) : List Int := coreF ((allT n 1 rels (List.replicate (n ^ 1) (-1))).getD 0 []) ((allT n 1 rels (List.replicate (n ^ 1) (-1))).drop 1)
theorem impl_CoreMap_in (h : RelsOk n 1 rels) : ∃ q, (impl_newPolySearch (n : Int) rels 1).bind (fun r2 => (impl_freeTable (n : Int)).bind fun r3 => (impl_polySearch_each_impl_CoreMap_c1 r2 r3 ((n : Int), (w64 ((n : Int) + 1), (0, []))))) = some q ∧ q.2.2 = (1, coreT n rels) ∧ coreT n rels ∈ allT n 1 rels (List.replicate (n ^ 1) (-1)) := by
 have hn := h.hn
 have hin := id_in h
 have hall : ∀ t ∈ allT n 1 rels (List.replicate (n ^ 1) (-1)), t.length ≤ 1000 ∧ ∀ x ∈ t, 0 ≤ x ∧ x < (n : Int) := fun t ht => by
  obtain ⟨h1, h2⟩ := allT_mem ht
  exact ⟨by rw [h1]; simp; omega, h2⟩
 have hp : n ^ 1 = n := by simp
 have hne := impl_newPolySearch_ok h
 have hne : impl_newPolySearch (n : Int) rels 1 = _ := hne
 have hfr := freeI_ok (N := n) (by omega)
 have hfold : foldU cmCb (allT n 1 rels (List.replicate (n ^ 1) (-1))) ((n : Int), (w64 ((n : Int) + 1), (0, []))) = some (((n : Int), (((imgL (coreT n rels)).length : Int), (1, coreT n rels))), true) ∧ coreT n rels ∈ allT n 1 rels (List.replicate (n ^ 1) (-1)) := by
  unfold coreT
  generalize allT n 1 rels (List.replicate (n ^ 1) (-1)) = l at hin hall
  cases l with
  | nil => simp at hin
  | cons t l =>
   obtain ⟨h1, h2⟩ := hall t (by simp)
   have hcl : impl_clone t = some t := by
    unfold impl_clone
    rw [if_pos (by simp; unfold lim; omega)]; simp
   have hle := (img_bits hn h2).2
   have hw : w64 ((n : Int) + 1) = (n : Int) + 1 := w64_id (by omega) (by omega)
   have hcb : cmCb t ((n : Int), (w64 ((n : Int) + 1), (0, []))) = some (((n : Int), (((imgL t).length : Int), (1, t))), true) := by
    unfold cmCb impl_CoreMap_c1
    simp only [impl_imagesOf_ok hn h1 h2, Option.bind_some, hcl, hw]
    rw [if_pos (by simp; omega)]; rfl
   refine ⟨?_, ?_⟩
   ·simp only [foldU, hcb]
    exact cm_fold hn l t fun t ht => hall t (List.mem_cons_of_mem _ ht)
   ·simp only [List.getD_cons_zero, List.drop_succ_cons, List.drop_zero]
    rcases coreF_mem l t with h3 | h3
    ·rw [h3]; simp
    ·exact List.mem_cons_of_mem _ h3
 obtain ⟨hfold, hmem⟩ := hfold
 obtain ⟨r, h4, h5⟩ := each_ok h (given := List.replicate (n ^ 1) (-1)) (by simp) cmCb hfold
 rw [hne]
 simp only [Option.bind_some, hfr]
 unfold impl_polySearch_each_impl_CoreMap_c1
 rw [hp] at h4
 rw [if_pos (by simp; unfold lim; omega)]
 simp only [eachCM]
 have h4 : gF cmCb fuel (0, List.replicate (Int.toNat ((List.replicate n (-1 : Int)).length : Int)) 0, ((n : Int), (w64 ((n : Int) + 1), (0, []))), (true, ((n : Int), (((1 : Nat) : Int), demD n 1 rels))), List.replicate n (-1), ()) = some r := h4
 rw [h4]
 simp only [Option.bind_some]
 exact ⟨_, rfl, by rw [h5], hmem⟩
theorem spec_l14Core_ok (h : RelsOk n 1 rels) : spec_l14Core (n : Int) rels = some (coreT n rels) := by
 have hn := h.hn
 have hin := id_in h
 have hall : ∀ t ∈ allT n 1 rels (List.replicate (n ^ 1) (-1)), t.length ≤ 1000 ∧ ∀ x ∈ t, 0 ≤ x ∧ x < (n : Int) := fun t ht => by
  obtain ⟨h1, h2⟩ := allT_mem ht
  exact ⟨by rw [h1]; simp; omega, h2⟩
 have hle : (allT n 1 rels (List.replicate (n ^ 1) (-1))).length ≤ 256 := by
  have h1 := allT_len (n := n) (k := 1) (rels := rels) (given := List.replicate (n ^ 1) (-1))
  have h2 : n ^ n ^ 1 ≤ 256 := by
   have : n = 1 ∨ n = 2 ∨ n = 3 ∨ n = 4 := by omega
   rcases this with rfl | rfl | rfl | rfl <;> decide
  omega
 have hz : n ^ n ^ 1 ≤ 4611686018427387904 := by
  have : n = 1 ∨ n = 2 ∨ n = 3 ∨ n = 4 := by omega
  rcases this with rfl | rfl | rfl | rfl <;> decide
 obtain ⟨s, h1, h2, h3⟩ := spec_list_ok h (given := List.replicate (n ^ 1) (-1)) (by simp) hz
 have h3 := h3 (by omega)
 have h1 : spec_l14All (n : Int) rels 1 (List.replicate (n ^ 1) (-1)) 300 = some s := h1
 have hp : n ^ 1 = n := by simp
 unfold spec_l14Core
 rw [freeS_ok (N := n) (by omega)]
 simp only [Option.bind_some]
 rw [hp] at h1
 rw [h1]
 simp only [Option.bind_some, h3]
 unfold coreT
 generalize allT n 1 rels (List.replicate (n ^ 1) (-1)) = l at hin hall hle
 cases l with
 | nil => simp at hin
 | cons t l =>
  have hi : inb (0 : Int) (t :: l) := ⟨by omega, by simp⟩
  rw [if_pos hi]
  have g0 : gd (t :: l) 0 [] = t := rfl
  rw [g0]
  have key : ∀ (c j f : Nat) (b : List Int), j + c = (t :: l).length → c < f → (∀ x ∈ b, 0 ≤ x ∧ x < (n : Int)) → b.length ≤ 1000 → spec_l14Core_L4 f (b, t :: l, (j : Int)) = some (coreF b ((t :: l).drop j)) := by
   intro c
   induction c with
   | zero =>
    intro j f b hj hf hb hbl
    obtain ⟨f, rfl⟩ : ∃ z, f = z + 1 := ⟨f - 1, by omega⟩
    simp only [spec_l14Core_L4]
    rw [if_neg (by simp at hj ⊢; omega), List.drop_of_length_le (by omega)]; rfl
   | succ c ih =>
    intro j f b hj hf hb hbl
    obtain ⟨f, rfl⟩ : ∃ z, f = z + 1 := ⟨f - 1, by omega⟩
    have hjl : j < (t :: l).length := by omega
    obtain ⟨q1, q2⟩ := hall _ (List.getElem_mem hjl)
    have v1 := spec_l14Values_ok q1 fun x hx => by have := q2 x hx; omega
    have v2 := spec_l14Values_ok hbl fun x hx => by have := hb x hx; omega
    simp only [spec_l14Core_L4, inb_nat, hjl, gd_nat hjl, v1, v2, Option.bind_some, if_true, w64_succ (show j < 4611686018427387904 by omega)]
    rw [if_pos (decide_eq_true (Int.ofNat_lt.2 hjl)), List.drop_eq_getElem_cons hjl]
    unfold coreF
    rw [List.foldl_cons]
    by_cases hc : (imgL (t :: l)[j]).length < (imgL b).length
    ·rw [if_pos (by simpa using hc), if_pos hc]
     exact ih (j + 1) f _ (by omega) (by omega) q2 q1
    ·rw [if_neg (by simpa using hc), if_neg hc]
     exact ih (j + 1) f _ (by omega) (by omega) hb hbl
  obtain ⟨q1, q2⟩ := hall t (by simp)
  have := key l.length 1 fuel t (by simp; omega) (by unfold fuel; simp at hle; omega) q2 q1
  have this : spec_l14Core_L4 fuel (t, t :: l, 1) = _ := this
  rw [this]; rfl
end
end T
open Go Go.Va
namespace T
section
variable {n : Int} {rels : List RelT}
theorem CoreMap_in (h : relsS rels) : (tmplB n rels && fewB 1 rels) = tmplB n rels := by
 have : fewB 1 rels = true := by
  unfold fewB
  rw [List.all_eq_true]; intro r _; simp
 rw [this, Bool.and_true]
theorem CoreMap_ok (h : relsS rels) : (tmplB n rels = false ∧ impl_CoreMap n rels = some ((0, []), false) ∧ spec_CoreMap n rels = some ((0, []), false)) ∨
    (tmplB n rels = true ∧ RelsOk n.toNat 1 rels ∧ impl_CoreMap n rels = some ((1, coreT n.toNat rels), true) ∧ spec_CoreMap n rels = some ((1, coreT n.toNat rels), true) ∧ (coreT n.toNat rels).length = n.toNat ∧ ∀ x ∈ coreT n.toNat rels, 0 ≤ x ∧ x < n) := by
  unfold impl_CoreMap spec_CoreMap
  rw [impl_canAsk_ok h, spec_l14Takes_ok h]
  rw [show (tmplB n rels && decide (1 ≤ (1 : Int) ∧ (1 : Int) ≤ 3) && fewB 1 rels) = (tmplB n rels && fewB 1 rels) by simp, CoreMap_in h]
  cases hc : tmplB n rels with
  | false => left; exact ⟨rfl, by simp, by simp⟩
  | true =>
    right
    obtain ⟨hn, _⟩ := tmpl_of hc
    have hR := rels_of (k := 1) hc (by omega)
    obtain ⟨q, e1, e2, e3⟩ := impl_CoreMap_in hR
    have e4 := spec_l14Core_ok hR
    rw [Int.toNat_of_nonneg (by omega)] at e1 e4
    obtain ⟨t1, t2⟩ := allT_mem e3
    rw [Nat.pow_one] at t1
    refine ⟨rfl, hR, ?_, ?_, t1, fun x hx => by have := t2 x hx; omega⟩
    · simp only [Option.bind_some, Bool.not_true, Bool.false_eq_true, if_false]
      cases hn1 : impl_newPolySearch n rels 1 with
      | none => rw [hn1] at e1; exact absurd e1 (by simp)
      | some r2 =>
        rw [hn1] at e1
        simp only [Option.bind_some] at e1 ⊢
        cases hn2 : impl_freeTable n with
        | none => rw [hn2] at e1; exact absurd e1 (by simp)
        | some r3 =>
          rw [hn2] at e1
          simp only [Option.bind_some] at e1 ⊢
          rw [e1]
          simp only [Option.bind_some, e2]
    · simp only [Option.bind_some, Bool.not_true, Bool.false_eq_true, if_false, e4, spec_l1Own_ok (show (coreT n.toNat rels).length ≤ 1099511627775 by omega)]
end
theorem filt1 {α : Type} {p : α → Bool} {x : α} : [x].filter p = if p x then [x] else [] := by cases h : p x <;> simp [h]
def posL (V : List Int) (x : Nat) : Int := match V.findIdx? (fun y => y == (x : Int)) with | some i => (i : Int) | none => -1
theorem place4 : ∀ a b c d : Bool, ∀ x : Fin 4, spec_l5Place (subB a b c d) (x.val : Int) = some (posL (subB a b c d) x.val) := by decide +kernel
def namF (V : List Int) (n j : Nat) : List Int := (List.range j).foldl (fun o i => o.set (V.getD i 0).toNat (i : Int)) (List.replicate n (-1))
theorem namF_len {V : List Int} {n : Nat} : ∀ j, (namF V n j).length = n := by
 intro j
 induction j with
 | zero => simp [namF]
 | succ j ih => unfold namF at ih ⊢; rw [range_fold, List.length_set]; exact ih
theorem nam4 : ∀ a b c d : Bool,
    (namF (subB a false false false) 1 (subB a false false false).length = (List.range 1).map (posL (subB a false false false)) ∧
    namF (subB a b false false) 2 (subB a b false false).length = (List.range 2).map (posL (subB a b false false)) ∧
    namF (subB a b c false) 3 (subB a b c false).length = (List.range 3).map (posL (subB a b c false)) ∧
    namF (subB a b c d) 4 (subB a b c d).length = (List.range 4).map (posL (subB a b c d))) := by decide +kernel
theorem sub_lt : ∀ a b c d : Bool, (subB a b c d).all (fun x => decide (0 ≤ x ∧ x < 4)) = true ∧ ∀ x : Fin 4, -1 ≤ posL (subB a b c d) x.val ∧ posL (subB a b c d) x.val < (subB a b c d).length := by decide +kernel
section
variable {n : Nat} {t : List Int}
theorem img_nam (hn : 1 ≤ n ∧ n ≤ 4) (hv : ∀ x ∈ t, 0 ≤ x ∧ x < (n : Int)) : namF (imgL t) n (imgL t).length = (List.range n).map (posL (imgL t)) ∧ ∀ x ∈ imgL t, 0 ≤ x ∧ x < (n : Int) := by
 have hf : ∀ c : Nat, n ≤ c → decide ((c : Int) ∈ t) = false := fun c hc => decide_eq_false fun h => by have := hv _ h; omega
 have hm : ∀ x ∈ imgL t, 0 ≤ x ∧ x < (n : Int) := fun x hx => by
  have hb := (img_bits hn hv).1
  rw [← hb] at hx
  unfold mk at hx
  obtain ⟨i, hi, rfl⟩ := List.mem_map.1 hx
  have := List.mem_range.1 (List.mem_filter.1 hi).1
  simp at this; omega
 refine ⟨?_, hm⟩
 have h4 := nam4 (decide ((0 : Int) ∈ t)) (decide ((1 : Int) ∈ t)) (decide ((2 : Int) ∈ t)) (decide ((3 : Int) ∈ t))
 have h : n = 1 ∨ n = 2 ∨ n = 3 ∨ n = 4 := by omega
 rcases h with rfl | rfl | rfl | rfl
 ·have e : imgL t = subB (decide ((0 : Int) ∈ t)) false false false := by
   unfold imgL; rw [show decide ((1 : Int) ∈ t) = false from hf 1 (by omega), show decide ((2 : Int) ∈ t) = false from hf 2 (by omega), show decide ((3 : Int) ∈ t) = false from hf 3 (by omega)]
  rw [e]; exact h4.1
 ·have e : imgL t = subB (decide ((0 : Int) ∈ t)) (decide ((1 : Int) ∈ t)) false false := by
   unfold imgL; rw [show decide ((2 : Int) ∈ t) = false from hf 2 (by omega), show decide ((3 : Int) ∈ t) = false from hf 3 (by omega)]
  rw [e]; exact h4.2.1
 ·have e : imgL t = subB (decide ((0 : Int) ∈ t)) (decide ((1 : Int) ∈ t)) (decide ((2 : Int) ∈ t)) false := by
   unfold imgL; rw [show decide ((3 : Int) ∈ t) = false from hf 3 (by omega)]
  rw [e]; exact h4.2.2.1
 ·exact h4.2.2.2
theorem img_pos {x : Nat} (hx : x < 4) : spec_l5Place (imgL t) (x : Int) = some (posL (imgL t) x) ∧ -1 ≤ posL (imgL t) x ∧ posL (imgL t) x < (imgL t).length :=
 ⟨place4 _ _ _ _ ⟨x, hx⟩, (sub_lt _ _ _ _).2 ⟨x, hx⟩⟩
def tmT (V : List Int) (u : List Int) : List Int := u.map fun x => posL V x.toNat
def goodT (u : List Int) : Bool := u.all fun v => decide (0 ≤ v)
def relC (V : List Int) (r : RelT) : RelT := (r.1, (r.2.map (tmT V)).filter goodT)
end
section
variable {n m : Nat} {t : List Int} {r : RelT} {rels : List RelT}
theorem names_val (hn : 1 ≤ n ∧ n ≤ 4) {u : List Int} (hu : ∀ x ∈ u, 0 ≤ x ∧ x < (n : Int)) : u.map (valI ((List.range n).map (posL (imgL t)))) = tmT (imgL t) u := by
 unfold tmT
 refine List.map_congr_left fun x hx => ?_
 have := hu x hx
 unfold valI
 rw [getD_of (by simp; omega)]; simp
theorem tmT_in (hn : 1 ≤ n ∧ n ≤ 4) (hv : ∀ x ∈ t, 0 ≤ x ∧ x < (n : Int)) {u : List Int} (hu : ∀ x ∈ u, 0 ≤ x ∧ x < (n : Int)) : belowB (n : Int) (tmT (imgL t) u) = goodT (tmT (imgL t) u) := by
 have hle := (img_bits hn hv).2
 unfold belowB goodT tmT
 rw [List.all_map, List.all_map, Bool.eq_iff_iff, List.all_eq_true, List.all_eq_true]
 constructor
 ·intro h x hx
  have := h x hx
  simp at this ⊢; omega
 ·intro h x hx
  have := h x hx
  have h2 := hu x hx
  have h3 := (img_pos (t := t) (x := x.toNat) (by omega)).2
  simp at this ⊢; omega
theorem impl_CT_L22 (h : ROk n m r) (hn : 1 ≤ n ∧ n ≤ 4) (hv : ∀ x ∈ t, 0 ≤ x ∧ x < (n : Int)) (t9 : List Int) (t14 : List RelT) (a : Int) (t58 : List RelT) (t59 t60 : Int) :
    impl_CoreTemplate_L22 fuel ((n : Int), t9, (List.range n).map (posL (imgL t)), t14, (a, []), t58, t59, t60, r.2, (r.2.length : Int), 0)
      = some ((n : Int), t9, (List.range n).map (posL (imgL t)), t14, (a, (r.2.map (tmT (imgL t))).filter goodT), t58, t59, t60) := by
  have hmany := h.many
  have hm := h.hm
  have := forS r.2.length (fun f (o : List (List Int)) i => impl_CoreTemplate_L22 f ((n : Int), t9, (List.range n).map (posL (imgL t)), t14, (a, o), t58, t59, t60, r.2, (r.2.length : Int), i)) (fun j => ((r.2.take j).map (tmT (imgL t))).filter goodT) (r := some ((n : Int), t9, (List.range n).map (posL (imgL t)), t14, (a, (r.2.map (tmT (imgL t))).filter goodT), t58, t59, t60)) (fun f j hj => ?_) (fun f => ?_) (n := fuel) (by unfold fuel; omega)
  · exact this
  · have hmem := List.getElem_mem hj
    have htl := h.tl _ hmem
    have htv := h.tv _ hmem
    have hcomp := impl_compose_ok (f := r.2[j]) (g := (List.range n).map (posL (imgL t))) (by omega) (fun x hx => by have := htv x hx; simp; omega)
    rw [names_val hn htv] at hcomp
    have hsz := impl_inSize_ok (n : Int) (l := tmT (imgL t) r.2[j]) (by unfold tmT; rw [List.length_map]; omega)
    rw [tmT_in hn hv htv] at hsz
    have e : ((r.2.take (j + 1)).map (tmT (imgL t))).filter goodT = ((r.2.take j).map (tmT (imgL t))).filter goodT ++ (if goodT (tmT (imgL t) r.2[j]) then [tmT (imgL t) r.2[j]] else []) := by
      rw [List.take_succ_eq_append_getElem hj, List.map_append, List.filter_append]
      congr 1
      exact filt1
    have hlen : (((r.2.take j).map (tmT (imgL t))).filter goodT).length ≤ 64 := by
      have := List.length_filter_le goodT ((r.2.take j).map (tmT (imgL t)))
      rw [List.length_map, List.length_take] at this
      omega
    simp only [impl_CoreTemplate_L22, inb_nat, hj, gd_nat hj, hcomp, hsz, Option.bind_some, e, if_true, w64_succ (show j < 4611686018427387904 by omega)]
    rw [if_pos (by simp; omega)]
    cases goodT (tmT (imgL t) r.2[j]) with
    | true =>
      simp only [if_true]
      rw [if_pos (by rw [List.length_singleton]; unfold lim; omega)]
    | false => simp
  · simp only [impl_CoreTemplate_L22, List.take_length]
    rw [if_neg (by simp)]
theorem CoreTemplate_val {n : Int} (h : relsS rels) : ∃ R : Int × List RelT × Bool, (impl_CoreTemplate n rels = some R ∧ spec_CoreTemplate n rels = some R ∧ relsS R.2.1 ∧ (R.2.1.map wR).sum ≤ 1000) ∧ R = if tmplB n rels then (((imgL (coreT n.toNat rels)).length : Int), rels.map (relC (imgL (coreT n.toNat rels))), true) else (0, [], false) := by
 unfold impl_CoreTemplate spec_CoreTemplate
 rw [spec_l14Takes_ok h, show (tmplB n rels && decide (1 ≤ (1 : Int) ∧ (1 : Int) ≤ 3) && fewB 1 rels) = (tmplB n rels && fewB 1 rels) by simp, CoreMap_in h]
 rcases CoreMap_ok (n := n) h with ⟨hc, e1, _⟩ | ⟨hc, hR, e1, _, e3, e4⟩
 ·rw [e1, hc]
  exact ⟨(0, [], false), ⟨by simp, by simp, ⟨by simp, fun r hr => by simp at hr⟩, by simp⟩, by simp⟩
 ·obtain ⟨hn, hl4, _⟩ := tmpl_of hc
  obtain ⟨n, rfl⟩ : ∃ z : Nat, n = (z : Int) := ⟨n.toNat, by omega⟩
  rw [Int.toNat_natCast] at hR e1 e3 e4
  have hs := spec_l14Core_ok hR
  rw [e1, hc, hs, Int.toNat_natCast]
  generalize coreT n rels = t at e3 e4
  have hnn : 1 ≤ n ∧ n ≤ 4 := hR.hn
  have hi := impl_imagesOf_ok hnn (t := t) (by omega) e4
  have hsv := spec_l14Values_ok (t := t) (by omega) fun x hx => by have := e4 x hx; omega
  obtain ⟨hnam, himg⟩ := img_nam hnn e4
  have hile := (img_bits hnn e4).2
  have i7 := forS n (fun f o i => impl_CoreTemplate_L7 f ((n : Int), rels, imgL t, o, ((List.replicate n (0 : Int)).length : Int), i)) (fun j => List.replicate j (-1) ++ List.replicate (n - j) (0 : Int)) (r := some ((n : Int), rels, imgL t, List.replicate n (-1))) (fun f j hj => by
   have hin : j < (List.replicate j (-1) ++ List.replicate (n - j) (0 : Int)).length := by simp; omega
   have e : (List.replicate j (-1) ++ List.replicate (n - j) (0 : Int)).set j (-1) = List.replicate (j + 1) (-1) ++ List.replicate (n - (j + 1)) (0 : Int) := by
    rw [show n - j = (n - (j + 1)) + 1 by omega, List.replicate_succ, List.set_append_right _ _ (by simp), List.replicate_succ']
    simp
   simp only [impl_CoreTemplate_L7, inb_nat, hin, stt_nat, e, if_true, w64_succ (show j < 4611686018427387904 by omega)]
   rw [if_pos (by simp; omega)]) (fun f => by
   simp only [impl_CoreTemplate_L7]
   rw [if_neg (by simp)]; simp) (n := fuel) (by unfold fuel; omega)
  have i7 : impl_CoreTemplate_L7 fuel ((n : Int), rels, imgL t, List.replicate n (0 : Int), ((List.replicate n (0 : Int)).length : Int), 0) = _ := i7
  have i12 := forS (imgL t).length (fun f o i => impl_CoreTemplate_L12 f ((), (n : Int), rels, imgL t, o, ((imgL t).length : Int), i)) (fun j => namF (imgL t) n j) (r := some ((n : Int), rels, imgL t, (List.range n).map (posL (imgL t)))) (fun f j hj => by
   have hx := himg _ (List.getElem_mem hj)
   have e : namF (imgL t) n (j + 1) = (namF (imgL t) n j).set ((imgL t)[j]).toNat (j : Int) := by
    unfold namF; rw [range_fold, getD_of hj]
   have hst : stt (namF (imgL t) n j) (imgL t)[j] (j : Int) = namF (imgL t) n (j + 1) := by rw [e]; rfl
   have hin : inb (imgL t)[j] (namF (imgL t) n j) := ⟨hx.1, by rw [namF_len]; exact hx.2⟩
   simp only [impl_CoreTemplate_L12, inb_nat, hj, gd_nat hj, hin, hst, if_true, w64_succ (show j < 4611686018427387904 by omega)]
   rw [if_pos (by simp; omega)]) (fun f => by
   simp only [impl_CoreTemplate_L12]
   rw [if_neg (by simp), hnam]) (n := fuel) (by unfold fuel; omega)
  have i12 : impl_CoreTemplate_L12 fuel ((), (n : Int), rels, imgL t, List.replicate n (-1), ((imgL t).length : Int), 0) = _ := i12
  have i18 := forS rels.length (fun f o i => impl_CoreTemplate_L18 f ((n : Int), imgL t, (List.range n).map (posL (imgL t)), o, rels, (rels.length : Int), i)) (fun j => (rels.take j).map (relC (imgL t))) (r := some (imgL t, rels.map (relC (imgL t)))) (fun f j hj => by
   have h22 := impl_CT_L22 (hR.ok _ (List.getElem_mem hj)) hnn e4 (imgL t) ((rels.take j).map (relC (imgL t))) rels[j].1 rels (rels.length : Int) (j : Int)
   have e : (rels.take (j + 1)).map (relC (imgL t)) = (rels.take j).map (relC (imgL t)) ++ [(rels[j].1, (rels[j].2.map (tmT (imgL t))).filter goodT)] := by
    rw [List.take_succ_eq_append_getElem hj, List.map_append]; rfl
   simp only [impl_CoreTemplate_L18, inb_nat, hj, gd_nat hj, h22, e, Option.bind_some, if_true, w64_succ (show j < 4611686018427387904 by omega)]
   rw [if_pos (by simp; omega), if_pos (by simp; unfold lim; omega)]) (fun f => by
   simp only [impl_CoreTemplate_L18, List.take_length]
   rw [if_neg (by simp)]) (n := fuel) (by unfold fuel; omega)
  have i18 : impl_CoreTemplate_L18 fuel ((n : Int), imgL t, (List.range n).map (posL (imgL t)), [], rels, (rels.length : Int), 0) = _ := i18
  have s6 := forS rels.length (fun f o i => spec_CoreTemplate_L6 f (rels, o, imgL t, i)) (fun j => (rels.take j).map (relC (imgL t))) (r := some (rels.map (relC (imgL t)), imgL t)) (fun f j hj => by
   have hrk := hR.ok _ (List.getElem_mem hj)
   have hmany := hrk.many
   have har := hrk.ar
   have hm3 := hrk.hm
   have s10 := forS rels[j].2.length (fun f o i => spec_CoreTemplate_L10 f (rels, (rels.take j).map (relC (imgL t)), imgL t, (j : Int), (rels[j].1, o), i)) (fun q => ((rels[j].2.take q).map (tmT (imgL t))).filter goodT) (r := some (rels, (rels.take j).map (relC (imgL t)), imgL t, (j : Int), (rels[j].1, (rels[j].2.map (tmT (imgL t))).filter goodT))) (fun f q hq => by
    have htl := hrk.tl _ (List.getElem_mem hq)
    have htv := hrk.tv _ (List.getElem_mem hq)
    have s14 := forS rels[j].2[q].length (fun f o i => spec_CoreTemplate_L14 f (rels, (rels.take j).map (relC (imgL t)), imgL t, (j : Int), (rels[j].1, ((rels[j].2.take q).map (tmT (imgL t))).filter goodT), (q : Int), o, i)) (fun p => (tmT (imgL t) (rels[j].2[q].take p)).filter fun v => decide (v ≥ 0))
     (r := some (rels, (rels.take j).map (relC (imgL t)), imgL t, (j : Int), (rels[j].1, ((rels[j].2.take q).map (tmT (imgL t))).filter goodT), (q : Int), (tmT (imgL t) rels[j].2[q]).filter fun v => decide (v ≥ 0))) (fun f p hp => by
     have hx := htv _ (List.getElem_mem hp)
     obtain ⟨x, hx1⟩ : ∃ x : Nat, rels[j].2[q][p] = (x : Int) := ⟨rels[j].2[q][p].toNat, by omega⟩
     have hpl := (img_pos (t := t) (x := x) (by omega)).1
     have e : (tmT (imgL t) (rels[j].2[q].take (p + 1))).filter (fun v => decide (v ≥ 0)) = (tmT (imgL t) (rels[j].2[q].take p)).filter (fun v => decide (v ≥ 0)) ++ (if posL (imgL t) x ≥ 0 then [posL (imgL t) x] else []) := by
      unfold tmT
      rw [List.take_succ_eq_append_getElem hp, List.map_append, List.filter_append, hx1]
      congr 1
      by_cases hc : posL (imgL t) x ≥ 0 <;> simp [hc]
     have hlen : ((tmT (imgL t) (rels[j].2[q].take p)).filter fun v => decide (v ≥ 0)).length ≤ 3 := by
      have := List.length_filter_le (fun v : Int => decide (v ≥ 0)) (tmT (imgL t) (rels[j].2[q].take p))
      unfold tmT at this ⊢
      rw [List.length_map, List.length_take] at this
      omega
     simp only [spec_CoreTemplate_L14, inb_nat, hj, gd_nat hj, hq, gd_nat hq, hp, gd_nat hp, hx1, hpl, e, Option.bind_some, if_true, w64_succ (show p < 4611686018427387904 by omega)]
     rw [if_pos (by simp; omega)]
     by_cases hc : posL (imgL t) x ≥ 0
     ·rw [if_pos (by simpa using hc), if_pos hc, if_pos (by rw [List.length_singleton]; unfold lim; omega)]
     ·rw [if_neg (by simpa using hc), if_neg hc, List.append_nil]) (fun f => by
     simp only [spec_CoreTemplate_L14, inb_nat, hj, gd_nat hj, hq, gd_nat hq, List.take_length, if_true]
     rw [if_neg (by simp)]) (n := fuel) (by unfold fuel; omega)
    have s14 : spec_CoreTemplate_L14 fuel (rels, (rels.take j).map (relC (imgL t)), imgL t, (j : Int), (rels[j].1, ((rels[j].2.take q).map (tmT (imgL t))).filter goodT), (q : Int), [], 0) = _ := s14
    have e : ((rels[j].2.take (q + 1)).map (tmT (imgL t))).filter goodT = ((rels[j].2.take q).map (tmT (imgL t))).filter goodT ++ (if goodT (tmT (imgL t) rels[j].2[q]) then [tmT (imgL t) rels[j].2[q]] else []) := by
     rw [List.take_succ_eq_append_getElem hq, List.map_append, List.filter_append]
     congr 1
     exact filt1
    have hlen : (((rels[j].2.take q).map (tmT (imgL t))).filter goodT).length ≤ 64 := by
     have := List.length_filter_le goodT ((rels[j].2.take q).map (tmT (imgL t)))
     rw [List.length_map, List.length_take] at this
     omega
    have htt : (tmT (imgL t) rels[j].2[q]).length = rels[j].1.toNat := by unfold tmT; rw [List.length_map, htl]
    simp only [spec_CoreTemplate_L10, inb_nat, hj, gd_nat hj, hq, s14, e, Option.bind_some, if_true, w64_succ (show q < 4611686018427387904 by omega)]
    rw [if_pos (by simp; omega)]
    cases hg : goodT (tmT (imgL t) rels[j].2[q]) with
    | true =>
     have hf : (tmT (imgL t) rels[j].2[q]).filter (fun v => decide (v ≥ 0)) = tmT (imgL t) rels[j].2[q] := List.filter_eq_self.2 fun v hv => by
      unfold goodT at hg
      rw [List.all_eq_true] at hg
      exact hg v hv
     rw [hf, if_pos (by simp; omega), if_pos (by rw [List.length_singleton]; unfold lim; omega)]; rfl
    | false =>
     have hf : ((tmT (imgL t) rels[j].2[q]).filter (fun v => decide (v ≥ 0))).length < (tmT (imgL t) rels[j].2[q]).length := by
      rcases Nat.lt_or_ge ((tmT (imgL t) rels[j].2[q]).filter (fun v => decide (v ≥ 0))).length (tmT (imgL t) rels[j].2[q]).length with h1 | h1
      ·exact h1
      ·exfalso
       have h2 := List.length_filter_le (fun v : Int => decide (v ≥ 0)) (tmT (imgL t) rels[j].2[q])
       have h3 := List.length_filter_eq_length_iff.1 (Nat.le_antisymm h2 h1)
       have : goodT (tmT (imgL t) rels[j].2[q]) = true := by unfold goodT; rw [List.all_eq_true]; exact h3
       rw [this] at hg; exact absurd hg (by simp)
     rw [if_neg (by rw [beq_iff_eq]; omega)]; simp) (fun f => by
    simp only [spec_CoreTemplate_L10, inb_nat, hj, gd_nat hj, List.take_length, if_true]
    rw [if_neg (by simp)]) (n := fuel) (by unfold fuel; omega)
   have s10 : spec_CoreTemplate_L10 fuel (rels, (rels.take j).map (relC (imgL t)), imgL t, (j : Int), (rels[j].1, []), 0) = _ := s10
   have e : (rels.take (j + 1)).map (relC (imgL t)) = (rels.take j).map (relC (imgL t)) ++ [(rels[j].1, (rels[j].2.map (tmT (imgL t))).filter goodT)] := by
    rw [List.take_succ_eq_append_getElem hj, List.map_append]; rfl
   simp only [spec_CoreTemplate_L6, inb_nat, hj, gd_nat hj, s10, e, Option.bind_some, if_true, w64_succ (show j < 4611686018427387904 by omega)]
   rw [if_pos (by simp; omega), if_pos (by simp; unfold lim; omega)]) (fun f => by
   simp only [spec_CoreTemplate_L6, List.take_length]
   rw [if_neg (by simp)]) (n := fuel) (by unfold fuel; omega)
  have s6 : spec_CoreTemplate_L6 fuel (rels, [], imgL t, 0) = _ := s6
  have hrow : ∀ r ∈ rels.map (relC (imgL t)), r.2.length ≤ 64 ∧ ∀ u ∈ r.2, u.length ≤ 3 := fun r hr => by
   obtain ⟨q, hq, rfl⟩ := List.mem_map.1 hr
   have hrk := hR.ok q hq
   have hm3 := hrk.hm
   refine ⟨Nat.le_trans (List.length_filter_le _ _) (by rw [List.length_map]; exact hrk.many), fun u hu => ?_⟩
   obtain ⟨v, hv, rfl⟩ := List.mem_map.1 (List.mem_filter.1 hu).1
   have := hrk.tl v hv
   unfold tmT; rw [List.length_map]; omega
  refine ⟨(((imgL t).length : Int), rels.map (relC (imgL t)), true), ⟨?_, ?_, ⟨by simp; omega, fun r hr => ⟨by have := (hrow r hr).1; omega, fun u hu => by have := (hrow r hr).2 u hu; omega⟩⟩, ?_⟩, by simp⟩
  ·simp only [Option.bind_some, Bool.not_true, Bool.false_eq_true, if_false, hi, Int.toNat_natCast, i7, i12, i18]
   rw [if_pos (by unfold lim; omega)]
  ·simp only [Option.bind_some, Bool.not_true, Bool.false_eq_true, if_false, hsv, s6]
  ·have hsum : ∀ (l : List RelT), (∀ r ∈ l, r.2.length ≤ 64 ∧ ∀ u ∈ r.2, u.length ≤ 3) → (l.map wR).sum ≤ 200 * l.length := by
    intro l
    induction l with
    | nil => simp
    | cons r l ih =>
     intro hl
     rw [List.map_cons, List.sum_cons, List.length_cons]
     have h1 := ih fun q hq => hl q (List.mem_cons_of_mem _ hq)
     obtain ⟨h2, h3⟩ := hl r (by simp)
     have h4 : (r.2.map List.length).sum ≤ 3 * r.2.length := by
      generalize r.2 = l2 at h3
      clear h2
      induction l2 with
      | nil => simp
      | cons u l2 ih2 =>
       rw [List.map_cons, List.sum_cons, List.length_cons]
       have h5 := ih2 fun q hq => h3 q (List.mem_cons_of_mem _ hq)
       have h6 := h3 u (by simp)
       omega
     have h7 : wR r = 1 + (r.2.map List.length).sum := rfl
     omega
   have := hsum _ hrow
   rw [List.length_map] at this
   show ((rels.map (relC (imgL t))).map wR).sum ≤ 1000
   omega
end
end T
open Go Go.Va
namespace T
section
variable {α : Type} {nw old : Nat → α} {N i : Nat}
end
def pr4 (p : Int) : Prop := p = 2 ∨ p = 3 ∨ p = 5 ∨ p = 7
def okRow (p : Int) (W : Nat) (r : List Int) : Prop := r.length = W ∧ ∀ x ∈ r, 0 ≤ x ∧ x < p
section
variable {p : Int} {W : Nat} {r row : List Int}
theorem ok_get (h : okRow p W r) {i : Nat} (hi : i < W) : 0 ≤ r.getD i 0 ∧ r.getD i 0 < p := by
 have : i < r.length := by rw [h.1]; exact hi
 rw [getD_of this]; exact h.2 _ (List.getElem_mem this)
end
abbrev ES := List (List Int) × List Int × List (List Int)
structure ESok (p : Int) (W N v : Nat) (s : ES) : Prop where
 t : ∀ r ∈ s.1, okRow p W r
 l : ∀ r ∈ s.2.2, okRow p W r
 bl : s.2.1.length = s.1.length
 n : s.1.length + s.2.2.length = N
 bv : ∀ x ∈ s.2.1, 0 ≤ x ∧ x < (v : Int)
 bn : s.2.1.Nodup
section
variable {p : Int} {W N : Nat}
end
end T
open Go Go.Va
namespace T
section
variable {p : Int} {W N V : Nat}
theorem posL_none {b : List Int} {u : Nat} (h : (u : Int) ∉ b) : posL b u = -1 := by
 unfold posL
 have h1 : (b.findIdx? fun y => y == (u : Int)) = none := by
  rw [List.findIdx?_eq_none_iff]
  intro y hy
  simp only [beq_eq_false_iff_ne]
  intro e; exact h (e ▸ hy)
 rw [h1]
theorem posL_at {b : List Int} {u : Nat} (h : (u : Int) ∈ b) : ∃ i, ∃ hi : i < b.length, posL b u = (i : Int) ∧ b[i] = (u : Int) := by
 unfold posL
 have h1 : (b.findIdx? fun y => y == (u : Int)).isSome = true := by
  rw [List.findIdx?_isSome, List.any_eq_true]
  exact ⟨_, h, by simp⟩
 obtain ⟨i, hi⟩ := Option.isSome_iff_exists.1 h1
 rw [hi]
 obtain ⟨g1, g2, _⟩ := List.findIdx?_eq_some_iff_getElem.1 hi
 exact ⟨i, g1, rfl, by simpa using g2⟩
end
end T
open Go Go.Va
namespace T
def freeL (N : Nat) (b : List Int) : List Int := ((List.range N).filter fun v : Nat => !decide ((v : Int) ∈ b)).map fun v : Nat => (v : Int)
section
variable {p : Int} {W N V : Nat}
theorem posL_neg {b : List Int} {u : Nat} : posL b u < 0 ↔ (u : Int) ∉ b := by
 by_cases h : (u : Int) ∈ b
 ·obtain ⟨i, hi, h1, _⟩ := posL_at h
  rw [h1]; simp [h]
 ·rw [posL_none h]; simp [h]
def solV (V : Nat) (s : ES) (u : Nat) : Int := if posL s.2.1 u < 0 then 0 else (s.1.getD (posL s.2.1 u).toNat []).getD V 0
def solL (V : Nat) (s : ES) : List Int := (List.range V).map (solV V s)
end
end T
open Go Go.Va
namespace T
def cg (p a b : Int) : Prop := ∃ k, a = b + p * k
section
variable {p a b c d : Int}
theorem cg_of (h : a = b) : cg p a b := ⟨0, by rw [h]; simp⟩
theorem cg_add (h : cg p a b) (g : cg p c d) : cg p (a + c) (b + d) := by obtain ⟨k, h⟩ := h; obtain ⟨m, g⟩ := g; exact ⟨k + m, by grind⟩
theorem cg_mul (x : Int) (h : cg p a b) : cg p (x * a) (x * b) := by obtain ⟨k, h⟩ := h; exact ⟨x * k, by grind⟩
end
inductive Sp (p : Int) (V : Nat) (A : List (List Int)) : (Nat → Int) → Prop
 | zero : Sp p V A fun _ => 0
 | add {f : Nat → Int} (r : List Int) (c : Int) : r ∈ A → Sp p V A f → Sp p V A fun i => f i + c * r.getD i 0
 | cgr {f g : Nat → Int} : Sp p V A f → (∀ i, i < V → cg p (g i) (f i)) → Sp p V A g
section
variable {p : Int} {V W N : Nat} {A B : List (List Int)} {f g : Nat → Int}
theorem Sp.lin (hf : Sp p V A f) (hg : Sp p V A g) (c : Int) : Sp p V A fun i => f i + c * g i := by
 induction hg with
 | zero => exact hf.cgr fun i _ => cg_of (by simp)
 | add r d hr _ ih => exact (ih.add r (c * d) hr).cgr fun i _ => cg_of (by grind)
 | cgr _ h ih => exact ih.cgr fun i hi => cg_add (cg_of rfl) (cg_mul c (h i hi))
theorem Sp.mem {r : List Int} (h : r ∈ A) : Sp p V A fun i => r.getD i 0 := (Sp.add r 1 h .zero).cgr fun i _ => cg_of (by simp)
theorem Sp.sub (h : ∀ r ∈ A, Sp p V B fun i => r.getD i 0) (hf : Sp p V A f) : Sp p V B f := by
 induction hf with
 | zero => exact .zero
 | add r c hr _ ih => exact ih.lin (h r hr) c
 | cgr _ h ih => exact ih.cgr h
def eqSp (p : Int) (V : Nat) (A B : List (List Int)) : Prop := ∀ f, Sp p V A f ↔ Sp p V B f
theorem eqSp_of (h : ∀ r ∈ A, Sp p V B fun i => r.getD i 0) (g : ∀ r ∈ B, Sp p V A fun i => r.getD i 0) : eqSp p V A B := fun _ => ⟨Sp.sub h, Sp.sub g⟩
end
end T
open Go Go.Va
namespace T
section
variable {p : Int} {V W N : Nat} {A B : List (List Int)} {f g : Nat → Int}
theorem getD_mem {α : Type} {l : List α} {i : Nat} {d : α} (hi : i < l.length) : l.getD i d ∈ l := by rw [getD_of hi]; exact List.getElem_mem hi
end
end T
open Go Go.Va
namespace T
section
variable {p : Int} {V W N : Nat} {A B C D : List (List Int)} {f g : Nat → Int}
theorem eqSp.symm (h : eqSp p V A B) : eqSp p V B A := fun f => (h f).symm
theorem eqSp.trans (h : eqSp p V A B) (g : eqSp p V B C) : eqSp p V A C := fun f => (h f).trans (g f)
theorem eqSp.app (h : eqSp p V A B) : eqSp p V (A ++ C) (B ++ C) := by
 have key : ∀ {A B : List (List Int)}, eqSp p V A B → ∀ r ∈ A ++ C, Sp p V (B ++ C) fun i => r.getD i 0 := fun {A B} h r hr => by
  rcases List.mem_append.1 hr with hr | hr
  ·exact Sp.sub (fun q hq => Sp.mem (List.mem_append_left _ hq)) ((h _).1 (Sp.mem hr))
  ·exact Sp.mem (List.mem_append_right _ hr)
 exact eqSp_of (key h) (key h.symm)
end
end T
open Go Go.Va
namespace T
def i64 (x : Int) : Prop := -9223372036854775808 ≤ x ∧ x ≤ 9223372036854775807
section
variable {c : List Int} {ar : Int}
end
end T
open Go Go.Va
namespace T
abbrev NS := Bool × Int × List (List (List Int)) × List (List (List ByteArray))
abbrev NIn (σ : Type) := Int × List Int × σ × NS × List Int × Unit
abbrev NOut (σ : Type) := List Int × σ × NS × List Int × Bool
def hM {σ : Type} : Nat → (Int × List Int × σ × NS × List Int × Unit × Int × Bool × List (List Int) × Int × Int) → Option (Int × List Int × σ × NS × List Int × Unit × Int × Bool)
 | 0, _ => none
 | n + 1, (t0, t1, t2, t3, t4, t5, t8, t9, t50, t51, t52) =>
  if decide (t52 < t51) then
   if inb t52 t50 then
    if t9 then
     if t3.1 = true then
      if inb t0 t3.2.2.2 then
       if inb t52 (gd t3.2.2.2 t0 []) then
        (impl_compose (gd t50 t52 []) t1).bind fun r2 =>
         (impl_keyOf r2).bind fun r3 =>
          hM n (t0, t1, t2, t3, t4, (), t8, mhas (gd (gd t3.2.2.2 t0 []) t52 []) r3, t50, t51, w64 (t52 + 1))
       else none
      else none
     else none
    else
     hM n (t0, t1, t2, t3, t4, (), t8, false, t50, t51, w64 (t52 + 1))
   else none
  else
   some (t0, t1, t2, t3, t4, (), t8, t9)
def hL {σ : Type} (rec : NIn σ → Option (NOut σ)) : Nat → (Int × List Int × σ × NS × List Int × Unit × Int) → Option ((List Int × σ × NS × List Int × Unit) ⊕ (List Int × σ × NS × List Int × Unit × Bool))
 | 0, _ => none
 | n + 1, (t0, t1, t2, t3, t4, t5, t8) =>
  if t3.1 = true then
   if decide (t8 < t3.2.1) then
    if inb t0 t4 then
     if decide ((gd t4 t0 0) ≥ 0) then
      if inb t0 t4 then
       if (gd t4 t0 0) != t8 then
        hL rec n (t0, t1, t2, t3, t4, (), w64 (t8 + 1))
       else
        if inb t0 t1 then
         if t3.1 = true then
          if inb t0 t3.2.2.1 then
           (hM fuel (t0, stt t1 t0 t8, t2, t3, t4, (), t8, true, gd t3.2.2.1 t0 [], ((gd t3.2.2.1 t0 []).length : Int), 0)).bind fun s2 =>
            if s2.2.2.2.2.2.2.2 then
             (rec (w64 (s2.1 + 1), s2.2.1, s2.2.2.1, s2.2.2.2.1, s2.2.2.2.2.1, ())).bind fun r3 =>
              if !r3.2.2.2.2 then
               some (.inr (r3.1, r3.2.1, r3.2.2.1, r3.2.2.2.1, (), false))
              else
               hL rec n (s2.1, r3.1, r3.2.1, r3.2.2.1, r3.2.2.2.1, (), w64 (s2.2.2.2.2.2.2.1 + 1))
            else
             hL rec n (s2.1, s2.2.1, s2.2.2.1, s2.2.2.2.1, s2.2.2.2.2.1, (), w64 (s2.2.2.2.2.2.2.1 + 1))
          else none
         else none
        else none
      else none
     else
      if inb t0 t1 then
       if t3.1 = true then
        if inb t0 t3.2.2.1 then
         (hM fuel (t0, stt t1 t0 t8, t2, t3, t4, (), t8, true, gd t3.2.2.1 t0 [], ((gd t3.2.2.1 t0 []).length : Int), 0)).bind fun s4 =>
          if s4.2.2.2.2.2.2.2 then
           (rec (w64 (s4.1 + 1), s4.2.1, s4.2.2.1, s4.2.2.2.1, s4.2.2.2.2.1, ())).bind fun r5 =>
            if !r5.2.2.2.2 then
             some (.inr (r5.1, r5.2.1, r5.2.2.1, r5.2.2.2.1, (), false))
            else
             hL rec n (s4.1, r5.1, r5.2.1, r5.2.2.1, r5.2.2.2.1, (), w64 (s4.2.2.2.2.2.2.1 + 1))
          else
           hL rec n (s4.1, s4.2.1, s4.2.2.1, s4.2.2.2.1, s4.2.2.2.2.1, (), w64 (s4.2.2.2.2.2.2.1 + 1))
        else none
       else none
      else none
    else none
   else
    some (.inl (t1, t2, t3, t4, ()))
  else none
def hBody {σ : Type} (cb : List Int → σ → Option (σ × Bool)) (rec : NIn σ → Option (NOut σ)) (x : NIn σ) : Option (NOut σ) :=
 if x.1 == (x.2.1.length : Int) then
  (cb x.2.1 x.2.2.1).bind fun r1 => some (x.2.1, r1.1, x.2.2.2.1, x.2.2.2.2.1, r1.2)
 else
  (hL rec fuel (x.1, x.2.1, x.2.2.1, x.2.2.2.1, x.2.2.2.2.1, (), 0)).bind fun s2 =>
   match s2 with
   | .inl s3 => some (s3.1, s3.2.1, s3.2.2.1, s3.2.2.2.1, true)
   | .inr s4 => some (s4.1, s4.2.1, s4.2.2.1, s4.2.2.2.1, s4.2.2.2.2.2)
def hF {σ : Type} (cb : List Int → σ → Option (σ × Bool)) : Nat → NIn σ → Option (NOut σ)
 | 0, _ => none
 | d + 1, x => hBody cb (hF cb d) x
section
variable {V n : Nat} {cs : List Con} {given : List Int}
end
end T
set_option linter.unusedVariables false
open Go Go.Va
namespace T
def spec_l1Cur_next (c : (List Int) × Int × Int) : Option (((List Int) × Int × Int) × Int) :=
 if decide (c.2.1 < (c.1.length : Int)) then
  if inb c.2.1 c.1 then
   if decide ((w64 (c.2.1 + 1)) ≤ (c.1.length : Int)) then
    some ((c.1, (w64 (c.2.1 + 1), IntKind.wrap .u64 ((IntKind.wrap .u64 ((IntKind.wrap .u64 (c.2.2 * 6364136223846793005)) + (IntKind.wrap .u64 (w64 (gd c.1 c.2.1 0))))) + 550289))), w64 (gd c.1 c.2.1 0))
   else
    if (0 : Int) ≤ 40 then
     some ((c.1, (w64 (c.2.1 + 1), IntKind.wrap .u64 ((IntKind.wrap .u64 ((IntKind.wrap .u64 (c.2.2 * 6364136223846793005)) + (IntKind.wrap .u64 (w64 (gd c.1 c.2.1 0))))) + 550289))), w64 (andI .u64 (shrI .u64 (IntKind.wrap .u64 ((IntKind.wrap .u64 ((IntKind.wrap .u64 (c.2.2 * 6364136223846793005)) + (IntKind.wrap .u64 (w64 (gd c.1 c.2.1 0))))) + 550289)) 40) 255))
    else none
  else none
 else
  if decide ((w64 (c.2.1 + 1)) ≤ (c.1.length : Int)) then
   some ((c.1, (w64 (c.2.1 + 1), IntKind.wrap .u64 ((IntKind.wrap .u64 ((IntKind.wrap .u64 (c.2.2 * 6364136223846793005)) + (IntKind.wrap .u64 (0)))) + 550289))), 0)
  else
   if (0 : Int) ≤ 40 then
    some ((c.1, (w64 (c.2.1 + 1), IntKind.wrap .u64 ((IntKind.wrap .u64 ((IntKind.wrap .u64 (c.2.2 * 6364136223846793005)) + (IntKind.wrap .u64 (0)))) + 550289))), w64 (andI .u64 (shrI .u64 (IntKind.wrap .u64 ((IntKind.wrap .u64 ((IntKind.wrap .u64 (c.2.2 * 6364136223846793005)) + (IntKind.wrap .u64 (0)))) + 550289)) 40) 255))
   else none
def spec_l1Cur_pick (c : (List Int) × Int × Int) (n_ : Int) : Option (((List Int) × Int × Int) × Int) :=
 if decide (n_ ≤ 1) then
  some ((c.1, (c.2.1, c.2.2)), 0)
 else
  (spec_l1Cur_next (c.1, (c.2.1, c.2.2))).bind fun r1 =>
   if decide (n_ > 200) then
    (spec_l1Cur_next (r1.1.1, (r1.1.2.1, r1.1.2.2))).bind fun r2 =>
     if n_ ≠ 0 then
      some ((r2.1.1, (r2.1.2.1, r2.1.2.2)), Int.tmod (w64 ((w64 (r1.2 * 256)) + r2.2)) n_)
     else none
   else
    if n_ ≠ 0 then
     some ((r1.1.1, (r1.1.2.1, r1.1.2.2)), Int.tmod r1.2 n_)
    else none
def spec_l1Cur_among (c : (List Int) × Int × Int) (list : List Int) : Option (((List Int) × Int × Int) × Int) :=
 (spec_l1Cur_pick (c.1, (c.2.1, c.2.2)) (list.length : Int)).bind fun r1 =>
  if inb r1.2 list then
   some ((r1.1.1, (r1.1.2.1, r1.1.2.2)), gd list r1.2 0)
  else none
def spec_l1Cur_one (c : (List Int) × Int × Int) (n_ : Int) : Option (((List Int) × Int × Int) × Bool) :=
 (spec_l1Cur_pick (c.1, (c.2.1, c.2.2)) n_).bind fun r1 =>
  some ((r1.1.1, (r1.1.2.1, r1.1.2.2)), r1.2 == 0)
end T
open Go Go.Va
namespace T
abbrev CurT := List Int × Int × Int
def Cur (k : Nat) (c : CurT) : Prop := c.1.length ≤ 65536 ∧ (∀ x ∈ c.1, 0 ≤ x ∧ x < 256) ∧ 0 ≤ c.2.1 ∧ c.2.1 ≤ (k : Int)
theorem and255 (x : Int) : 0 ≤ w64 (andI .u64 x 255) ∧ w64 (andI .u64 x 255) < 256 := by
 have h1 : (BitVec.ofInt 64 x &&& BitVec.ofInt 64 255).toNat ≤ 255 := by
  rw [BitVec.toNat_and]
  have : (BitVec.ofInt 64 255).toNat = 255 := by decide
  rw [this]
  exact Nat.and_le_right
 have h2 : andI .u64 x 255 = ((BitVec.ofInt 64 x &&& BitVec.ofInt 64 255).toNat : Int) := by
  unfold andI
  have e : ∀ n : Nat, n ≤ 255 → IntKind.wrap .u64 (n : Int) = (n : Int) := fun n hn => by
   simp [IntKind.wrap, IntKind.bits, IntKind.signed]
   omega
  exact e _ h1
 rw [h2, w64_id (by omega) (by omega)]
 omega
theorem next_ok {k : Nat} {c : CurT} (h : Cur k c) (hk : k ≤ 1000000000) : ∃ c' x, spec_l1Cur_next c = some (c', x) ∧ Cur (k + 1) c' ∧ 0 ≤ x ∧ x < 256 := by
 obtain ⟨code, at', seed⟩ := c
 obtain ⟨h1, h2, h3, h4⟩ := h
 dsimp only at h1 h2 h3 h4
 have hw : w64 (at' + 1) = at' + 1 := w64_id (by omega) (by omega)
 have hC : ∀ s, Cur (k + 1) (code, (at' + 1, s)) := fun s => ⟨h1, h2, by dsimp only; omega, by dsimp only; omega⟩
 unfold spec_l1Cur_next
 simp only [hw]
 by_cases hc : at' < (code.length : Int)
 ·have hin : inb at' code := ⟨h3, hc⟩
  have hle : at' + 1 ≤ (code.length : Int) := by omega
  have hb : 0 ≤ gd code at' 0 ∧ gd code at' 0 < 256 := by
   have : gd code at' 0 = code.getD at'.toNat 0 := rfl
   rw [this, getD_of (by omega)]
   exact h2 _ (List.getElem_mem _)
  rw [if_pos (decide_eq_true hc), if_pos hin, if_pos (decide_eq_true hle)]
  exact ⟨_, _, rfl, hC _, by rw [w64_id (by omega) (by omega)]; exact hb⟩
 ·have hle : ¬ at' + 1 ≤ (code.length : Int) := by omega
  rw [if_neg (by simpa using hc), if_neg (by simpa using hle), if_pos (by decide)]
  exact ⟨_, _, rfl, hC _, and255 _⟩
theorem pick_ok {k : Nat} {c : CurT} (h : Cur k c) (hk : k ≤ 100000000) (n : Int) (hn : n ≤ 1000000) : ∃ c' x, spec_l1Cur_pick c n = some (c', x) ∧ Cur (k + 2) c' ∧ 0 ≤ x ∧ (1 ≤ n → x < n) ∧ (n ≤ 1 → x = 0) := by
 have mono : ∀ {c : CurT} {i j : Nat}, i ≤ j → Cur i c → Cur j c := fun hij ⟨a, b, d, e⟩ => ⟨a, b, d, by omega⟩
 unfold spec_l1Cur_pick
 by_cases h1 : n ≤ 1
 ·rw [if_pos (decide_eq_true h1)]
  exact ⟨_, _, rfl, mono (by omega) h, by omega, fun _ => by omega, fun _ => rfl⟩
 ·rw [if_neg (by simpa using h1)]
  obtain ⟨c1, x1, e1, g1, a1, b1⟩ := next_ok h (by omega)
  have e1 : spec_l1Cur_next (c.1, (c.2.1, c.2.2)) = _ := e1
  simp only [e1, Option.bind_some]
  by_cases h2 : n > 200
  ·obtain ⟨c2, x2, e2, g2, a2, b2⟩ := next_ok g1 (by omega)
   have e2 : spec_l1Cur_next (c1.1, (c1.2.1, c1.2.2)) = _ := e2
   rw [if_pos (decide_eq_true h2)]
   simp only [e2, Option.bind_some]
   rw [if_pos (by omega)]
   have w1 : w64 (x1 * 256) = x1 * 256 := w64_id (by omega) (by omega)
   have w2 : w64 (x1 * 256 + x2) = x1 * 256 + x2 := w64_id (by omega) (by omega)
   refine ⟨_, _, rfl, g2, ?_, fun _ => ?_, fun h => absurd h h1⟩
   ·rw [w1, w2, Int.tmod_eq_emod_of_nonneg (by omega)]; exact Int.emod_nonneg _ (by omega)
   ·rw [w1, w2, Int.tmod_eq_emod_of_nonneg (by omega)]; exact Int.emod_lt_of_pos _ (by omega)
  ·rw [if_neg (by simpa using h2), if_pos (by omega)]
   refine ⟨_, _, rfl, mono (by omega) g1, ?_, fun _ => ?_, fun h => absurd h h1⟩
   ·rw [Int.tmod_eq_emod_of_nonneg a1]; exact Int.emod_nonneg _ (by omega)
   ·rw [Int.tmod_eq_emod_of_nonneg a1]; exact Int.emod_lt_of_pos _ (by omega)
theorem among_ok {k : Nat} {c : CurT} (h : Cur k c) (hk : k ≤ 100000000) {l : List Int} (h0 : 0 < l.length) (hl : l.length ≤ 1000) : ∃ c' x, spec_l1Cur_among c l = some (c', x) ∧ Cur (k + 2) c' ∧ x ∈ l := by
 obtain ⟨c1, x1, e1, g1, a1, b1, _⟩ := pick_ok h hk (l.length : Int) (by omega)
 have b1 := b1 (by omega)
 unfold spec_l1Cur_among
 have e1 : spec_l1Cur_pick (c.1, (c.2.1, c.2.2)) (l.length : Int) = _ := e1
 simp only [e1, Option.bind_some]
 have hin : inb x1 l := ⟨a1, b1⟩
 rw [if_pos hin]
 refine ⟨_, _, rfl, g1, ?_⟩
 have : gd l x1 0 = l.getD x1.toNat 0 := rfl
 rw [this]
 exact getD_mem (by omega)
theorem one_ok {k : Nat} {c : CurT} (h : Cur k c) (hk : k ≤ 100000000) (n : Int) (hn : n ≤ 1000000) : ∃ c' x, spec_l1Cur_one c n = some (c', x) ∧ Cur (k + 2) c' := by
 obtain ⟨c1, x1, e1, g1, _⟩ := pick_ok h hk n hn
 unfold spec_l1Cur_one
 have e1 : spec_l1Cur_pick (c.1, (c.2.1, c.2.2)) n = _ := e1
 simp only [e1, Option.bind_some]
 exact ⟨_, _, rfl, g1⟩
theorem Cur.mono {c : CurT} {i j : Nat} (hij : i ≤ j) : Cur i c → Cur j c := fun ⟨a, b, d, e⟩ => ⟨a, b, d, by omega⟩
end T
set_option linter.unusedVariables false
open Go Go.Va
namespace T
def spec_l8Put (list : List (List Int)) (t : List Int) : Option ((List (List Int))) :=
 (spec_l8Find list t).bind fun r1 =>
  if r1.2 then
   some list
  else
   if (0 : Int) ≤ 0 ∧ 0 ≤ r1.1 ∧ r1.1 ≤ (list.length : Int) then
    if ([] : List (List Int)).length + ((list.take (Int.toNat r1.1)).drop (Int.toNat 0)).length ≤ lim then
     if ([] ++ ((list.take (Int.toNat r1.1)).drop (Int.toNat 0))).length + [t].length ≤ lim then
      if (0 : Int) ≤ r1.1 ∧ r1.1 ≤ (list.length : Int) ∧ (list.length : Int) ≤ (list.length : Int) then
       if (([] ++ ((list.take (Int.toNat r1.1)).drop (Int.toNat 0))) ++ [t]).length + ((list.take (Int.toNat (list.length : Int))).drop (Int.toNat r1.1)).length ≤ lim then
        some ((([] ++ ((list.take (Int.toNat r1.1)).drop (Int.toNat 0))) ++ [t]) ++ ((list.take (Int.toNat (list.length : Int))).drop (Int.toNat r1.1)))
       else none
      else none
     else none
    else none
   else none
end T
open Go Go.Va
namespace T
def sortL (cmp : List Int → List Int → Int) (rows : List (List Int)) : List (List Int) := rows.mergeSort (fun x y => !decide (cmp y x < 0))
end T
open Go Go.Va
namespace T
theorem incB_pair {l : List (List Int)} : incB l = true ↔ l.Pairwise (fun a b => cmpL a b < 0) := by
 constructor
 ·intro h
  rw [List.pairwise_iff_getElem]
  exact fun i j hi hj hij => incB_lt h i j hij hj
 ·intro h
  rw [incB_iff]
  rw [List.pairwise_iff_getElem] at h
  exact fun i hi => h i (i + 1) (by omega) hi (by omega)
theorem spec_l8Put_ok {list : List (List Int)} {t : List Int} {k : Nat} (hl : list.length ≤ 1000000) (hk : k ≤ 1000000) (hv : ∀ u ∈ list, u.length = k) (ht : t.length = k) (hi : incB list = true) :
    ∃ out, spec_l8Put list t = some out ∧ incB out = true ∧ (∀ u, u ∈ out ↔ u = t ∨ u ∈ list) ∧ (t ∉ list → out.Perm (t :: list)) := by
  obtain ⟨c, e, k1, k2, k3⟩ := spec_l8Find_ok (by omega) (by omega) hv ht hi
  unfold spec_l8Put
  rw [e]
  simp only [Option.bind_some]
  by_cases hm : t ∈ list
  · rw [decide_eq_true hm, if_pos rfl]
    exact ⟨list, rfl, hi, fun u => ⟨Or.inr, fun h => h.elim (fun h => h ▸ hm) id⟩, fun h => absurd hm h⟩
  · rw [decide_eq_false hm, if_neg (by simp)]
    have e1 : (list.take (Int.toNat (c : Int))).drop (Int.toNat 0) = list.take c := by simp
    have e2 : (list.take (Int.toNat (list.length : Int))).drop (Int.toNat (c : Int)) = list.drop c := by simp
    have hlim : lim = 1099511627776 := rfl
    have t1 : (list.take c).length = c := by rw [List.length_take]; omega
    rw [e1, e2, if_pos (by omega), if_pos (by simp; omega), if_pos (by simp; omega), if_pos (by omega), if_pos (by simp; omega)]
    refine ⟨_, rfl, ?_, fun u => ?_, fun _ => ?_⟩
    · rw [incB_pair] at hi ⊢
      simp only [List.nil_append]
      have hsp : list = list.take c ++ list.drop c := (List.take_append_drop c list).symm
      rw [hsp, List.pairwise_append] at hi
      have h4 : ∀ u ∈ list.take c, cmpL u t < 0 := fun u hu => by
        obtain ⟨i, hi', rfl⟩ := List.mem_iff_getElem.1 hu
        rw [List.getElem_take]
        exact k2 i _ (by omega)
      have h5 : ∀ u ∈ list.drop c, cmpL t u < 0 := fun u hu => by
        obtain ⟨i, hi', rfl⟩ := List.mem_iff_getElem.1 hu
        rw [List.length_drop] at hi'
        rw [List.getElem_drop]
        have h6 := k3 (c + i) (by omega) (by omega)
        have h7 := cmpL_symm (list[c + i]'(by omega)) t
        have h8 : cmpL (list[c + i]'(by omega)) t ≠ 0 := fun h => hm (by rw [← cmpL_eq.1 h]; exact List.getElem_mem _)
        omega
      rw [List.pairwise_append, List.pairwise_append]
      refine ⟨⟨hi.1, List.pairwise_singleton _ _, fun a ha b hb => by rw [List.mem_singleton.1 hb]; exact h4 a ha⟩, hi.2.1, fun a ha b hb => ?_⟩
      rcases List.mem_append.1 ha with ha | ha
      · exact hi.2.2 a ha b hb
      · rw [List.mem_singleton.1 ha]; exact h5 b hb
    · have hsp : u ∈ list ↔ u ∈ list.take c ∨ u ∈ list.drop c := by rw [← List.mem_append, List.take_append_drop]
      simp only [List.nil_append, List.mem_append, List.mem_singleton, hsp]
      constructor
      · rintro ((h | h) | h)
        · exact Or.inr (Or.inl h)
        · exact Or.inl h
        · exact Or.inr (Or.inr h)
      · rintro (h | h | h)
        · exact Or.inl (Or.inr h)
        · exact Or.inl (Or.inl h)
        · exact Or.inr h
    · simp only [List.nil_append]
      refine (List.Perm.append_right _ (List.perm_append_comm)).trans ?_
      rw [List.append_assoc, List.take_append_drop]
      exact List.Perm.refl _
theorem cmpL_anti {x y : List Int} (h1 : ¬ cmpL y x < 0) (h2 : ¬ cmpL x y < 0) : x = y := by
 have := cmpL_symm x y
 exact cmpL_eq.1 (by omega)
theorem sortL_of {out l : List (List Int)} (hi : incB out = true) (hp : out.Perm l) : sortL cmpL l = out := by
 have hs : (sortL cmpL l).Pairwise fun x y => (!decide (cmpL y x < 0)) = true := by
  unfold sortL
  refine List.pairwise_mergeSort (fun a b c h1 h2 => ?_) (fun a b => ?_) l
  ·simp only [Bool.not_eq_true', decide_eq_false_iff_not] at *
   intro h3
   have q1 := cmpL_symm a b
   have q2 := cmpL_symm b c
   by_cases e : cmpL a b = 0
   ·rw [cmpL_eq.1 e] at h3; exact h2 h3
   ·exact h2 (cmpL_trans h3 (by omega))
  ·simp only [Bool.or_eq_true, Bool.not_eq_true', decide_eq_false_iff_not]
   have q1 := cmpL_symm a b
   omega
 have ho : out.Pairwise fun x y => (!decide (cmpL y x < 0)) = true := by
  refine (incB_pair.1 hi).imp ?_
  intro a b h
  simp only [Bool.not_eq_true', decide_eq_false_iff_not]
  have q1 := cmpL_symm a b
  omega
 have hpp : (sortL cmpL l).Perm out := (List.mergeSort_perm l _).trans hp.symm
 refine List.Perm.eq_of_pairwise (fun a b _ _ h1 h2 => ?_) hs ho hpp
 simp only [Bool.not_eq_true', decide_eq_false_iff_not] at h1 h2
 exact cmpL_anti h1 h2
end T
open Go Go.Va
namespace T
section
variable {p : Int} {W N V : Nat}
def coG (p : Int) (s : ES) (u : Nat) (f : Int) : Int := if posL s.2.1 u < 0 then (if f = (u : Int) then 1 else 0) else p - (s.1.getD (posL s.2.1 u).toNat []).getD f.toNat 0
def sumG (p : Int) (V : Nat) (s : ES) (F x : List Int) (u : Nat) : Nat → Int
 | 0 => solV V s u
 | k + 1 => sumG p V s F x u k + coG p s u (F.getD k 0) * x.getD k 0
def vecG (p : Int) (V : Nat) (s : ES) (F x : List Int) (k : Nat) : List Int := (List.range V).map fun u => sumG p V s F x u k % p
structure GenOk (p : Int) (W N V : Nat) (s : ES) (F x : List Int) : Prop where
 hp : pr4 p
 hs : ESok p W N V s
 hV : V < W
 hW : W ≤ 1000
 hN : N ≤ 100000
 hF : F = freeL V s.2.1
 hx : x.length = F.length
 xb : ∀ v ∈ x, 0 ≤ v ∧ v < p
variable {s : ES} {F x : List Int}
theorem GenOk.pb (g : GenOk p W N V s F x) : 2 ≤ p ∧ p ≤ 7 := by have := g.hp; unfold pr4 at this; omega
theorem GenOk.row (g : GenOk p W N V s F x) {u : Nat} (hu : ¬ posL s.2.1 u < 0) : (posL s.2.1 u).toNat < s.1.length ∧ okRow p W (s.1.getD (posL s.2.1 u).toNat []) := by
 have hm : (u : Int) ∈ s.2.1 := by
  rcases Decidable.em ((u : Int) ∈ s.2.1) with h | h
  ·exact h
  ·exact absurd (posL_neg.2 h) hu
 obtain ⟨i, hi, g1, _⟩ := posL_at hm
 rw [g1, Int.toNat_natCast]
 have := g.hs.bl
 exact ⟨by omega, by rw [getD_of (by omega)]; exact g.hs.t _ (List.getElem_mem _)⟩
theorem GenOk.base (g : GenOk p W N V s F x) (u : Nat) : 0 ≤ solV V s u ∧ solV V s u < p := by
 have := g.pb
 unfold solV
 split
 ·omega
 ·rename_i h
  exact ok_get (g.row h).2 g.hV
end
end T
open Go Go.Va
namespace T
section
variable {p : Int} {W N V : Nat} {s : ES} {F x : List Int}
theorem GenOk.zero (g : GenOk p W N V s F x) : vecG p V s F x 0 = solL V s := by
 unfold vecG solL
 refine List.map_congr_left fun u _ => ?_
 have := g.base u
 simp only [sumG]
 exact Int.emod_eq_of_lt this.1 this.2
end
end T
open Go Go.Va
namespace T
theorem inc_uniq : ∀ {a b : List (List Int)}, incB a = true → incB b = true → (∀ u, u ∈ a ↔ u ∈ b) → a = b := by
 intro a b ha hb h
 have pa := incB_pair.1 ha
 have pb := incB_pair.1 hb
 have na : a.Nodup := pa.imp fun {x y} h e => by rw [e, cmpL_refl] at h; omega
 have nb : b.Nodup := pb.imp fun {x y} h e => by rw [e, cmpL_refl] at h; omega
 have hp : a.Perm b := (List.perm_ext_iff_of_nodup na nb).2 h
 rw [← sortL_of ha (List.Perm.refl _), ← sortL_of hb (List.Perm.refl _)]
 have h1 := sortL_of ha hp
 have h2 := sortL_of hb (List.Perm.refl b)
 have h3 := sortL_of ha (List.Perm.refl a)
 rw [h2, h3, ← h1, h2]
end T
open Go Go.Va
namespace T
section
variable {n : Int} {k : Nat} {ts : List (List Int)}
theorem put_len {out list : List (List Int)} {t : List Int} (h1 : incB out = true) (h0 : incB list = true) (h2 : ∀ u, u ∈ out ↔ u = t ∨ u ∈ list) (h3 : t ∉ list → out.Perm (t :: list)) : out.length ≤ list.length + 1 := by
 by_cases hm : t ∈ list
 ·have : out = list := inc_uniq h1 h0 fun u => (h2 u).trans ⟨fun h => h.elim (fun h => h ▸ hm) id, Or.inr⟩
  rw [this]; omega
 ·rw [(h3 hm).length_eq]; simp
end
end T
set_option linter.unusedVariables false
open Go Go.Va
namespace T
def laws_rBig (code : List Int) : Option (Bool) :=
 some (decide ((code.length : Int) > 65536))
def spec_l14Known (t0 : Int) : Option (Int × (List (Int × (List (List Int))))) :=
 if t0 == 0 then
  some (2, [(2, [[0, 0], [0, 1], [1, 1]])])
 else
  if t0 == 1 then
   some (2, [(2, [[0, 1], [1, 0], [1, 1]]), (2, [[0, 0], [0, 1], [1, 0]])])
  else
   if t0 == 2 then
    some (2, [(3, [[0, 0, 0], [0, 1, 1], [1, 0, 1], [1, 1, 0]])])
   else
    if t0 == 3 then
     some (2, [(3, [[0, 0, 1], [0, 1, 0], [1, 0, 0]])])
    else
     if t0 == 4 then
      some (2, [(3, [[0, 0, 0], [0, 0, 1], [0, 1, 0], [0, 1, 1], [1, 0, 0], [1, 0, 1], [1, 1, 1]]), (1, [[1]])])
     else
      if t0 == 5 then
       some (3, [(2, [[0, 1], [0, 2], [1, 0], [1, 2], [2, 0], [2, 1]])])
      else
       if t0 == 6 then
        some (3, [(2, [[0, 0], [0, 1], [0, 2], [1, 1], [1, 2], [2, 2]])])
       else
        if t0 == 7 then
         some (3, [(2, [[0, 1], [1, 2], [2, 0]])])
        else
         if t0 == 8 then
          some (2, [(2, [[0, 1], [1, 0]])])
         else
          if t0 == 9 then
           some (4, [(2, [[0, 1], [1, 0], [1, 2], [2, 1], [2, 3], [3, 2]])])
          else
           some (2, [])
def spec_l1Cur_partition13_L3 : Nat → (((List Int) × Int × Int) × Int × (List Int) × Int) → Option (((List Int) × Int × Int) × (List Int))
 | 0, _ => none
 | n + 1, (c, n_, out, x) =>
  if decide (x < n_) then
   (spec_l1Cur_pick (c.1, (c.2.1, c.2.2)) (w64 (x + 1))).bind fun r1 =>
    if decide (r1.2 < x) then
     if inb r1.2 out then
      if out.length + [gd out r1.2 0].length ≤ lim then
       spec_l1Cur_partition13_L3 n ((r1.1.1, (r1.1.2.1, r1.1.2.2)), n_, out ++ [gd out r1.2 0], w64 (x + 1))
      else none
     else none
    else
     if out.length + [r1.2].length ≤ lim then
      spec_l1Cur_partition13_L3 n ((r1.1.1, (r1.1.2.1, r1.1.2.2)), n_, out ++ [r1.2], w64 (x + 1))
     else none
  else
   some ((c.1, (c.2.1, c.2.2)), out)
def spec_l1Cur_partition13 (c : (List Int) × Int × Int) (n_ : Int) : Option (((List Int) × Int × Int) × (List Int)) :=
 (spec_l1Cur_partition13_L3 fuel ((c.1, (c.2.1, c.2.2)), n_, [], 0)).bind fun s1 =>
  some ((s1.1.1, (s1.1.2.1, s1.1.2.2)), s1.2)
def spec_l13OfPartition_L6 : Nat → ((List Int) × (Int × (List (List Int))) × (Int × (List (List Int))) × Int × Int) → Option ((List Int) × (Int × (List (List Int))) × (Int × (List (List Int))) × Int)
 | 0, _ => none
 | n + 1, (p, t2, out, x, y) =>
  if decide (y < (p.length : Int)) then
   if inb x p then
    if inb y p then
     if (gd p x 0) == (gd p y 0) then
      if out.2.length + [[x, y]].length ≤ lim then
       spec_l13OfPartition_L6 n (p, (t2.1, t2.2), (out.1, out.2 ++ [[x, y]]), x, w64 (y + 1))
      else none
     else
      spec_l13OfPartition_L6 n (p, (t2.1, t2.2), (out.1, out.2), x, w64 (y + 1))
    else none
   else none
  else
   some (p, (t2.1, t2.2), (out.1, out.2), x)
def spec_l13OfPartition_L3 : Nat → ((List Int) × (Int × (List (List Int))) × (Int × (List (List Int))) × Int) → Option ((Int × (List (List Int))) × (Int × (List (List Int))))
 | 0, _ => none
 | n + 1, (p, t2, out, x) =>
  if decide (x < (p.length : Int)) then
   (spec_l13OfPartition_L6 fuel (p, (t2.1, t2.2), (out.1, out.2), x, 0)).bind fun s1 =>
    spec_l13OfPartition_L3 n (s1.1, (s1.2.1.1, s1.2.1.2), (s1.2.2.1.1, s1.2.2.1.2), w64 (s1.2.2.2 + 1))
  else
   some ((t2.1, t2.2), (out.1, out.2))
def spec_l13OfPartition (p : List Int) : Option ((Int × (List (List Int)))) :=
 (spec_l13OfPartition_L3 fuel (p, (0, []), (2, []), 0)).bind fun s1 =>
  some (s1.2.1, s1.2.2)
def spec_l13Full_L3 : Nat → (Int × Int × (Int × (List (List Int))) × (Int × (List (List Int))) × Int) → Option ((Int × (List (List Int))) × (Int × (List (List Int))))
 | 0, _ => none
 | n + 1, (n_, arity, t4, out, at_) =>
  (spec_l2Pow n_ arity).bind fun r1 =>
   if decide (at_ < r1) then
    (spec_l2Args n_ arity at_).bind fun r2 =>
     if out.2.length + [r2].length ≤ lim then
      spec_l13Full_L3 n (n_, arity, (t4.1, t4.2), (out.1, out.2 ++ [r2]), w64 (at_ + 1))
     else none
   else
    some ((t4.1, t4.2), (out.1, out.2))
def spec_l13Full (n_ : Int) (arity : Int) : Option ((Int × (List (List Int)))) :=
 (spec_l13Full_L3 fuel (n_, arity, (0, []), (arity, []), 0)).bind fun s1 =>
  some (s1.2.1, s1.2.2)
def spec_l8Put_b (list : List (List Int)) (t : List Int) : Option ((List (List Int))) :=
 (spec_l8Find list t).bind fun r1 =>
  if r1.2 then
   some list
  else
   if (0 : Int) ≤ 0 ∧ 0 ≤ r1.1 ∧ r1.1 ≤ (list.length : Int) then
    if ([] : List (List Int)).length + ((list.take (Int.toNat r1.1)).drop (Int.toNat 0)).length ≤ lim then
     if ([] ++ ((list.take (Int.toNat r1.1)).drop (Int.toNat 0))).length + [t].length ≤ lim then
      if (0 : Int) ≤ r1.1 ∧ r1.1 ≤ (list.length : Int) ∧ (list.length : Int) ≤ (list.length : Int) then
       if (([] ++ ((list.take (Int.toNat r1.1)).drop (Int.toNat 0))) ++ [t]).length + ((list.take (Int.toNat (list.length : Int))).drop (Int.toNat r1.1)).length ≤ lim then
        some ((([] ++ ((list.take (Int.toNat r1.1)).drop (Int.toNat 0))) ++ [t]) ++ ((list.take (Int.toNat (list.length : Int))).drop (Int.toNat r1.1)))
       else none
      else none
     else none
    else none
   else none
def spec_l1Cur_relation_L9 : Nat → (((List Int) × Int × Int) × Int × Int × (Int × (List (List Int))) × (Int × (List (List Int))) × Int × (List Int) × Int) → Option (((List Int) × Int × Int) × Int × Int × (Int × (List (List Int))) × (Int × (List (List Int))) × Int × (List Int))
 | 0, _ => none
 | n + 1, (t0, t1, t2, t6, t7, t8, t9, t10) =>
  if decide (t10 < t2) then
   (spec_l1Cur_pick (t0.1, (t0.2.1, t0.2.2)) t1).bind fun r4 =>
    if t9.length + [r4.2].length ≤ lim then
     spec_l1Cur_relation_L9 n ((r4.1.1, (r4.1.2.1, r4.1.2.2)), t1, t2, (t6.1, t6.2), (t7.1, t7.2), t8, t9 ++ [r4.2], w64 (t10 + 1))
    else none
  else
   some ((t0.1, (t0.2.1, t0.2.2)), t1, t2, (t6.1, t6.2), (t7.1, t7.2), t8, t9)
def spec_l1Cur_relation_L5 : Nat → (((List Int) × Int × Int) × Int × Int × (Int × (List (List Int))) × (Int × (List (List Int))) × Int) → Option (((List Int) × Int × Int) × Int × Int × (Int × (List (List Int))) × (Int × (List (List Int))))
 | 0, _ => none
 | n + 1, (t0, t1, t2, t6, t7, t8) =>
  if decide (t8 > 0) then
   (spec_l1Cur_relation_L9 fuel ((t0.1, (t0.2.1, t0.2.2)), t1, t2, (t6.1, t6.2), (t7.1, t7.2), t8, [], 0)).bind fun s4 =>
    (spec_l8Put_b s4.2.2.2.2.1.2 s4.2.2.2.2.2.2).bind fun r5 =>
     spec_l1Cur_relation_L5 n ((s4.1.1, (s4.1.2.1, s4.1.2.2)), s4.2.1, s4.2.2.1, (s4.2.2.2.1.1, s4.2.2.2.1.2), (s4.2.2.2.2.1.1, r5), w64 (s4.2.2.2.2.2.1 - 1))
  else
   some ((t0.1, (t0.2.1, t0.2.2)), t1, t2, (t6.1, t6.2), (t7.1, t7.2))
def spec_l1Cur_relation (t0 : (List Int) × Int × Int) (t1 : Int) (t2 : Int) : Option (((List Int) × Int × Int) × (Int × (List (List Int)))) :=
 (spec_l6Size t1).bind fun r1 =>
  if !r1 then
   some ((t0.1, (t0.2.1, t0.2.2)), (t2, []))
  else
   (spec_l1In t2 1 3).bind fun r2 =>
    if !r2 then
     some ((t0.1, (t0.2.1, t0.2.2)), (t2, []))
    else
     (spec_l1Cur_among (t0.1, (t0.2.1, t0.2.2)) [0, 1, 2, 3, 4, 6, 9]).bind fun r3 =>
      (spec_l1Cur_relation_L5 fuel ((r3.1.1, (r3.1.2.1, r3.1.2.2)), t1, t2, (0, []), (t2, []), r3.2)).bind fun s4 =>
       if s4.2.2.1 == 2 then
        (spec_l1Cur_one (s4.1.1, (s4.1.2.1, s4.1.2.2)) 3).bind fun r5 =>
         if r5.2 then
          (spec_l1Cur_partition13 (r5.1.1, (r5.1.2.1, r5.1.2.2)) s4.2.1).bind fun r6 =>
           (spec_l13OfPartition r6.2).bind fun r7 =>
            (spec_l1Cur_one (r6.1.1, (r6.1.2.1, r6.1.2.2)) 12).bind fun r8 =>
             if r8.2 then
              (spec_l13Full s4.2.1 s4.2.2.1).bind fun r9 =>
               (spec_l1Cur_pick (r8.1.1, (r8.1.2.1, r8.1.2.2)) 40).bind fun r10 =>
                if r10.2 == 0 then
                 (spec_l1Cur_among (r10.1.1, (r10.1.2.1, r10.1.2.2)) [0, 4, (-1)]).bind fun r11 =>
                  some ((r11.1.1, (r11.1.2.1, r11.1.2.2)), (r11.2, r9.2))
                else
                 if r10.2 == 1 then
                  if 0 ≤ s4.2.2.1 ∧ s4.2.2.1 ≤ s4.2.2.1 ∧ s4.2.2.1 ≤ lim then
                   if r9.2.length + [List.replicate (Int.toNat s4.2.2.1) (0 : Int)].length ≤ lim then
                    some ((r10.1.1, (r10.1.2.1, r10.1.2.2)), (r9.1, r9.2 ++ [List.replicate (Int.toNat s4.2.2.1) (0 : Int)]))
                   else none
                  else none
                 else
                  if r10.2 == 2 then
                   if decide ((r9.2.length : Int) > 0) then
                    (spec_l1Cur_among (r10.1.1, (r10.1.2.1, r10.1.2.2)) [(-1), s4.2.1, 0]).bind fun r12 =>
                     if inb 0 r9.2 then
                      some ((r12.1.1, (r12.1.2.1, r12.1.2.2)), (r9.1, stt r9.2 0 [r12.2]))
                     else none
                   else
                    some ((r10.1.1, (r10.1.2.1, r10.1.2.2)), (r9.1, r9.2))
                  else
                   some ((r10.1.1, (r10.1.2.1, r10.1.2.2)), (r9.1, r9.2))
             else
              (spec_l1Cur_pick (r8.1.1, (r8.1.2.1, r8.1.2.2)) 40).bind fun r13 =>
               if r13.2 == 0 then
                (spec_l1Cur_among (r13.1.1, (r13.1.2.1, r13.1.2.2)) [0, 4, (-1)]).bind fun r14 =>
                 some ((r14.1.1, (r14.1.2.1, r14.1.2.2)), (r14.2, r7.2))
               else
                if r13.2 == 1 then
                 if 0 ≤ s4.2.2.1 ∧ s4.2.2.1 ≤ s4.2.2.1 ∧ s4.2.2.1 ≤ lim then
                  if r7.2.length + [List.replicate (Int.toNat s4.2.2.1) (0 : Int)].length ≤ lim then
                   some ((r13.1.1, (r13.1.2.1, r13.1.2.2)), (r7.1, r7.2 ++ [List.replicate (Int.toNat s4.2.2.1) (0 : Int)]))
                  else none
                 else none
                else
                 if r13.2 == 2 then
                  if decide ((r7.2.length : Int) > 0) then
                   (spec_l1Cur_among (r13.1.1, (r13.1.2.1, r13.1.2.2)) [(-1), s4.2.1, 0]).bind fun r15 =>
                    if inb 0 r7.2 then
                     some ((r15.1.1, (r15.1.2.1, r15.1.2.2)), (r7.1, stt r7.2 0 [r15.2]))
                    else none
                  else
                   some ((r13.1.1, (r13.1.2.1, r13.1.2.2)), (r7.1, r7.2))
                 else
                  some ((r13.1.1, (r13.1.2.1, r13.1.2.2)), (r7.1, r7.2))
         else
          (spec_l1Cur_one (r5.1.1, (r5.1.2.1, r5.1.2.2)) 12).bind fun r16 =>
           if r16.2 then
            (spec_l13Full s4.2.1 s4.2.2.1).bind fun r17 =>
             (spec_l1Cur_pick (r16.1.1, (r16.1.2.1, r16.1.2.2)) 40).bind fun r18 =>
              if r18.2 == 0 then
               (spec_l1Cur_among (r18.1.1, (r18.1.2.1, r18.1.2.2)) [0, 4, (-1)]).bind fun r19 =>
                some ((r19.1.1, (r19.1.2.1, r19.1.2.2)), (r19.2, r17.2))
              else
               if r18.2 == 1 then
                if 0 ≤ s4.2.2.1 ∧ s4.2.2.1 ≤ s4.2.2.1 ∧ s4.2.2.1 ≤ lim then
                 if r17.2.length + [List.replicate (Int.toNat s4.2.2.1) (0 : Int)].length ≤ lim then
                  some ((r18.1.1, (r18.1.2.1, r18.1.2.2)), (r17.1, r17.2 ++ [List.replicate (Int.toNat s4.2.2.1) (0 : Int)]))
                 else none
                else none
               else
                if r18.2 == 2 then
                 if decide ((r17.2.length : Int) > 0) then
                  (spec_l1Cur_among (r18.1.1, (r18.1.2.1, r18.1.2.2)) [(-1), s4.2.1, 0]).bind fun r20 =>
                   if inb 0 r17.2 then
                    some ((r20.1.1, (r20.1.2.1, r20.1.2.2)), (r17.1, stt r17.2 0 [r20.2]))
                   else none
                 else
                  some ((r18.1.1, (r18.1.2.1, r18.1.2.2)), (r17.1, r17.2))
                else
                 some ((r18.1.1, (r18.1.2.1, r18.1.2.2)), (r17.1, r17.2))
           else
            (spec_l1Cur_pick (r16.1.1, (r16.1.2.1, r16.1.2.2)) 40).bind fun r21 =>
             if r21.2 == 0 then
              (spec_l1Cur_among (r21.1.1, (r21.1.2.1, r21.1.2.2)) [0, 4, (-1)]).bind fun r22 =>
               some ((r22.1.1, (r22.1.2.1, r22.1.2.2)), (r22.2, s4.2.2.2.2.2))
             else
              if r21.2 == 1 then
               if 0 ≤ s4.2.2.1 ∧ s4.2.2.1 ≤ s4.2.2.1 ∧ s4.2.2.1 ≤ lim then
                if s4.2.2.2.2.2.length + [List.replicate (Int.toNat s4.2.2.1) (0 : Int)].length ≤ lim then
                 some ((r21.1.1, (r21.1.2.1, r21.1.2.2)), (s4.2.2.2.2.1, s4.2.2.2.2.2 ++ [List.replicate (Int.toNat s4.2.2.1) (0 : Int)]))
                else none
               else none
              else
               if r21.2 == 2 then
                if decide ((s4.2.2.2.2.2.length : Int) > 0) then
                 (spec_l1Cur_among (r21.1.1, (r21.1.2.1, r21.1.2.2)) [(-1), s4.2.1, 0]).bind fun r23 =>
                  if inb 0 s4.2.2.2.2.2 then
                   some ((r23.1.1, (r23.1.2.1, r23.1.2.2)), (s4.2.2.2.2.1, stt s4.2.2.2.2.2 0 [r23.2]))
                  else none
                else
                 some ((r21.1.1, (r21.1.2.1, r21.1.2.2)), (s4.2.2.2.2.1, s4.2.2.2.2.2))
               else
                some ((r21.1.1, (r21.1.2.1, r21.1.2.2)), (s4.2.2.2.2.1, s4.2.2.2.2.2))
       else
        (spec_l1Cur_one (s4.1.1, (s4.1.2.1, s4.1.2.2)) 12).bind fun r24 =>
         if r24.2 then
          (spec_l13Full s4.2.1 s4.2.2.1).bind fun r25 =>
           (spec_l1Cur_pick (r24.1.1, (r24.1.2.1, r24.1.2.2)) 40).bind fun r26 =>
            if r26.2 == 0 then
             (spec_l1Cur_among (r26.1.1, (r26.1.2.1, r26.1.2.2)) [0, 4, (-1)]).bind fun r27 =>
              some ((r27.1.1, (r27.1.2.1, r27.1.2.2)), (r27.2, r25.2))
            else
             if r26.2 == 1 then
              if 0 ≤ s4.2.2.1 ∧ s4.2.2.1 ≤ s4.2.2.1 ∧ s4.2.2.1 ≤ lim then
               if r25.2.length + [List.replicate (Int.toNat s4.2.2.1) (0 : Int)].length ≤ lim then
                some ((r26.1.1, (r26.1.2.1, r26.1.2.2)), (r25.1, r25.2 ++ [List.replicate (Int.toNat s4.2.2.1) (0 : Int)]))
               else none
              else none
             else
              if r26.2 == 2 then
               if decide ((r25.2.length : Int) > 0) then
                (spec_l1Cur_among (r26.1.1, (r26.1.2.1, r26.1.2.2)) [(-1), s4.2.1, 0]).bind fun r28 =>
                 if inb 0 r25.2 then
                  some ((r28.1.1, (r28.1.2.1, r28.1.2.2)), (r25.1, stt r25.2 0 [r28.2]))
                 else none
               else
                some ((r26.1.1, (r26.1.2.1, r26.1.2.2)), (r25.1, r25.2))
              else
               some ((r26.1.1, (r26.1.2.1, r26.1.2.2)), (r25.1, r25.2))
         else
          (spec_l1Cur_pick (r24.1.1, (r24.1.2.1, r24.1.2.2)) 40).bind fun r29 =>
           if r29.2 == 0 then
            (spec_l1Cur_among (r29.1.1, (r29.1.2.1, r29.1.2.2)) [0, 4, (-1)]).bind fun r30 =>
             some ((r30.1.1, (r30.1.2.1, r30.1.2.2)), (r30.2, s4.2.2.2.2.2))
           else
            if r29.2 == 1 then
             if 0 ≤ s4.2.2.1 ∧ s4.2.2.1 ≤ s4.2.2.1 ∧ s4.2.2.1 ≤ lim then
              if s4.2.2.2.2.2.length + [List.replicate (Int.toNat s4.2.2.1) (0 : Int)].length ≤ lim then
               some ((r29.1.1, (r29.1.2.1, r29.1.2.2)), (s4.2.2.2.2.1, s4.2.2.2.2.2 ++ [List.replicate (Int.toNat s4.2.2.1) (0 : Int)]))
              else none
             else none
            else
             if r29.2 == 2 then
              if decide ((s4.2.2.2.2.2.length : Int) > 0) then
               (spec_l1Cur_among (r29.1.1, (r29.1.2.1, r29.1.2.2)) [(-1), s4.2.1, 0]).bind fun r31 =>
                if inb 0 s4.2.2.2.2.2 then
                 some ((r31.1.1, (r31.1.2.1, r31.1.2.2)), (s4.2.2.2.2.1, stt s4.2.2.2.2.2 0 [r31.2]))
                else none
              else
               some ((r29.1.1, (r29.1.2.1, r29.1.2.2)), (s4.2.2.2.2.1, s4.2.2.2.2.2))
             else
              some ((r29.1.1, (r29.1.2.1, r29.1.2.2)), (s4.2.2.2.2.1, s4.2.2.2.2.2))
def spec_l1Cur_template_L9 : Nat → (((List Int) × Int × Int) × Int × (List (Int × (List (List Int)))) × (List (Int × (List (List Int)))) × Int × (Int × (List (List Int))) × Int) → Option (((List Int) × Int × Int) × Int × (List (Int × (List (List Int)))) × (List (Int × (List (List Int)))) × Int × (Int × (List (List Int))))
 | 0, _ => none
 | n + 1, (t0, t4, t5, t6, t7, t8, t9) =>
  if inb t7 t5 then
   if decide (t9 < (((gd t5 t7 (0, [])).2).length : Int)) then
    if inb t7 t5 then
     if inb t9 ((gd t5 t7 (0, [])).2) then
      (spec_l1Own (gd ((gd t5 t7 (0, [])).2) t9 [])).bind fun r4 =>
       if t8.2.length + [r4].length ≤ lim then
        spec_l1Cur_template_L9 n ((t0.1, (t0.2.1, t0.2.2)), t4, t5, t6, t7, (t8.1, t8.2 ++ [r4]), w64 (t9 + 1))
       else none
     else none
    else none
   else
    some ((t0.1, (t0.2.1, t0.2.2)), t4, t5, t6, t7, (t8.1, t8.2))
  else none
def spec_l1Cur_template_L5 : Nat → (((List Int) × Int × Int) × Int × (List (Int × (List (List Int)))) × (List (Int × (List (List Int)))) × Int) → Option (((List Int) × Int × Int) × Int × (List (Int × (List (List Int)))))
 | 0, _ => none
 | n + 1, (t0, t4, t5, t6, t7) =>
  if decide (t7 < (t5.length : Int)) then
   if inb t7 t5 then
    (spec_l1Cur_template_L9 fuel ((t0.1, (t0.2.1, t0.2.2)), t4, t5, t6, t7, ((gd t5 t7 (0, [])).1, []), 0)).bind fun s4 =>
     if s4.2.2.2.1.length + [(s4.2.2.2.2.2.1, s4.2.2.2.2.2.2)].length ≤ lim then
      spec_l1Cur_template_L5 n ((s4.1.1, (s4.1.2.1, s4.1.2.2)), s4.2.1, s4.2.2.1, s4.2.2.2.1 ++ [(s4.2.2.2.2.2.1, s4.2.2.2.2.2.2)], w64 (s4.2.2.2.2.1 + 1))
     else none
   else none
  else
   some ((t0.1, (t0.2.1, t0.2.2)), t4, t6)
def spec_l1Cur_template_L17 : Nat → (((List Int) × Int × Int) × Int × (List (Int × (List (List Int)))) × Int) → Option (((List Int) × Int × Int) × Int × (List (Int × (List (List Int)))))
 | 0, _ => none
 | n + 1, (t0, t10, t11, t12) =>
  if decide (t12 > 0) then
   (spec_l1Cur_among (t0.1, (t0.2.1, t0.2.2)) [1, 2, 2, 3]).bind fun r10 =>
    (spec_l1Cur_relation (r10.1.1, (r10.1.2.1, r10.1.2.2)) t10 r10.2).bind fun r11 =>
     if t11.length + [r11.2].length ≤ lim then
      spec_l1Cur_template_L17 n ((r11.1.1, (r11.1.2.1, r11.1.2.2)), t10, t11 ++ [r11.2], w64 (t12 - 1))
     else none
  else
   some ((t0.1, (t0.2.1, t0.2.2)), t10, t11)
def spec_l1Cur_template (t0 : (List Int) × Int × Int) : Option (((List Int) × Int × Int) × Int × (List (Int × (List (List Int))))) :=
 (spec_l1Cur_one (t0.1, (t0.2.1, t0.2.2)) 3).bind fun r1 =>
  if !r1.2 then
   (spec_l1Cur_pick (r1.1.1, (r1.1.2.1, r1.1.2.2)) 11).bind fun r2 =>
    (spec_l14Known r2.2).bind fun r3 =>
     (spec_l1Cur_template_L5 fuel ((r2.1.1, (r2.1.2.1, r2.1.2.2)), r3.1, r3.2, [], 0)).bind fun s4 =>
      some ((s4.1.1, (s4.1.2.1, s4.1.2.2)), s4.2.1, s4.2.2)
  else
   (spec_l1Cur_pick (r1.1.1, (r1.1.2.1, r1.1.2.2)) 24).bind fun r5 =>
    if (11 : Int) ≠ 0 then
     if (0 : Int) ≤ 0 ∧ 0 ≤ (w64 (7 + (w64 (Int.tdiv r5.2 11)))) ∧ (w64 (7 + (w64 (Int.tdiv r5.2 11)))) ≤ ([1, 2, 2, 2, 3, 3, 4, 0, 5].length : Int) then
      (spec_l1Cur_among (r5.1.1, (r5.1.2.1, r5.1.2.2)) (([1, 2, 2, 2, 3, 3, 4, 0, 5].take (Int.toNat (w64 (7 + (w64 (Int.tdiv r5.2 11)))))).drop (Int.toNat 0))).bind fun r6 =>
       (spec_l1Cur_pick (r6.1.1, (r6.1.2.1, r6.1.2.2)) 24).bind fun r7 =>
        if (23 : Int) ≠ 0 then
         if (0 : Int) ≤ 0 ∧ 0 ≤ (w64 (5 + (w64 (Int.tdiv r7.2 23)))) ∧ (w64 (5 + (w64 (Int.tdiv r7.2 23)))) ≤ ([0, 1, 1, 2, 4, 5].length : Int) then
          (spec_l1Cur_among (r7.1.1, (r7.1.2.1, r7.1.2.2)) (([0, 1, 1, 2, 4, 5].take (Int.toNat (w64 (5 + (w64 (Int.tdiv r7.2 23)))))).drop (Int.toNat 0))).bind fun r8 =>
           (spec_l1Cur_template_L17 fuel ((r8.1.1, (r8.1.2.1, r8.1.2.2)), r6.2, [], r8.2)).bind fun s9 =>
            some ((s9.1.1, (s9.1.2.1, s9.1.2.2)), s9.2.1, s9.2.2)
         else none
        else none
     else none
    else none
def laws_rInts_L4 : Nat → ((List Int) × (List Int) × Int) → Option ((Unit) ⊕ (Bool))
 | 0, _ => none
 | n + 1, (a, b, i) =>
  if decide (i < (a.length : Int)) then
   if inb i a then
    if inb i b then
     if (gd a i 0) != (gd b i 0) then
      some (.inr false)
     else
      laws_rInts_L4 n (a, b, w64 (i + 1))
    else none
   else none
  else
   some (.inl ())
def laws_rInts (a : List Int) (b : List Int) : Option (Bool) :=
 if (a.length : Int) != (b.length : Int) then
  some false
 else
  (laws_rInts_L4 fuel (a, b, 0)).bind fun s1 =>
   match s1 with
   | .inl s2 =>
    some true
   | .inr s3 =>
    some s3
def laws_rTable_L4 : Nat → ((List (List Int)) × (List (List Int)) × Int) → Option ((Unit) ⊕ (Bool))
 | 0, _ => none
 | n + 1, (a, b, i) =>
  if decide (i < (a.length : Int)) then
   if inb i a then
    if inb i b then
     (laws_rInts (gd a i []) (gd b i [])).bind fun r1 =>
      if !r1 then
       some (.inr false)
      else
       laws_rTable_L4 n (a, b, w64 (i + 1))
    else none
   else none
  else
   some (.inl ())
def laws_rTable (a : List (List Int)) (b : List (List Int)) : Option (Bool) :=
 if (a.length : Int) != (b.length : Int) then
  some false
 else
  (laws_rTable_L4 fuel (a, b, 0)).bind fun s1 =>
   match s1 with
   | .inl s2 =>
    some true
   | .inr s3 =>
    some s3
end T
set_option linter.unusedVariables false
open Go Go.Va
namespace T
def laws_rOp (a : Int × (List Int)) (b : Int × (List Int)) : Option (Bool) :=
 if a.1 == b.1 then
  (laws_rInts a.2 b.2).bind fun r1 =>
   some r1
 else
  some false
def laws_rOps_L4 : Nat → ((List (Int × (List Int))) × (List (Int × (List Int))) × Int) → Option ((Unit) ⊕ (Bool))
 | 0, _ => none
 | n + 1, (a, b, i) =>
  if decide (i < (a.length : Int)) then
   if inb i a then
    if inb i b then
     (laws_rOp (gd a i (0, [])) (gd b i (0, []))).bind fun r1 =>
      if !r1 then
       some (.inr false)
      else
       laws_rOps_L4 n (a, b, w64 (i + 1))
    else none
   else none
  else
   some (.inl ())
def laws_rOps (a : List (Int × (List Int))) (b : List (Int × (List Int))) : Option (Bool) :=
 if (a.length : Int) != (b.length : Int) then
  some false
 else
  (laws_rOps_L4 fuel (a, b, 0)).bind fun s1 =>
   match s1 with
   | .inl s2 =>
    some true
   | .inr s3 =>
    some s3
def impl_IsPolymorphism (n_ : Int) (rels : List (Int × (List (List Int)))) (op : Int × (List Int)) : Option (Bool × Bool) :=
 (impl_canAsk n_ rels op.1).bind fun r1 =>
  if !r1 then
   some (false, false)
  else
   (impl_isOp (op.1, op.2) n_).bind fun r2 =>
    if !r2 then
     some (false, false)
    else
     if decide (op.1 > 0) then
      (impl_keepsAll n_ rels (op.1, op.2)).bind fun r3 =>
       some (r3, true)
     else
      some (false, true)
end T
open Go Go.Va
namespace T
def rowsB (R W : Nat) (l : List (List Int)) : Prop := l.length ≤ R ∧ ∀ r ∈ l, r.length ≤ W
theorem rowsB.mono {R W R' W' : Nat} {l : List (List Int)} (h : rowsB R W l) (h1 : R ≤ R') (h2 : W ≤ W') : rowsB R' W' l := ⟨by have := h.1; omega, fun r hr => by have := h.2 r hr; omega⟩
theorem rowsB.app {R W : Nat} {l : List (List Int)} {t : List Int} (h : rowsB R W l) (ht : t.length ≤ W) : rowsB (R + 1) W (l ++ [t]) := ⟨by rw [List.length_append, List.length_singleton]; have := h.1; omega, fun r hr => by
 rcases List.mem_append.1 hr with hr | hr
 ·exact h.2 r hr
 ·rw [List.mem_singleton.1 hr]; exact ht⟩
theorem put_b : spec_l8Put_b = spec_l8Put := rfl
theorem part_L3 {N : Nat} (hN : N ≤ 8) : ∀ (d f k x : Nat) (c : CurT) (o : List Int), x + d = N → d < f → Cur k c → k + 2 * d ≤ 1000000 → o.length = x →
    ∃ c' o', spec_l1Cur_partition13_L3 f (c, (N : Int), o, (x : Int)) = some (c', o') ∧ Cur (k + 2 * d) c' ∧ o'.length = N := by
  intro d
  induction d with
  | zero =>
    intro f k x c o hx hf hc hk ho
    obtain ⟨f, rfl⟩ : ∃ z, f = z + 1 := ⟨f - 1, by omega⟩
    refine ⟨c, o, ?_, hc, by omega⟩
    simp only [spec_l1Cur_partition13_L3]
    rw [if_neg (by simp; omega)]
  | succ d ih =>
    intro f k x c o hx hf hc hk ho
    obtain ⟨f, rfl⟩ : ∃ z, f = z + 1 := ⟨f - 1, by omega⟩
    obtain ⟨c1, x1, e1, g1, a1, b1, _⟩ := pick_ok hc (by omega) ((x + 1 : Nat) : Int) (by omega)
    have b1 := b1 (by omega)
    have e1 : spec_l1Cur_pick (c.1, (c.2.1, c.2.2)) ((x + 1 : Nat) : Int) = _ := e1
    have ew := w64_succ (show x < 4611686018427387904 by omega)
    simp only [spec_l1Cur_partition13_L3, ew, e1, Option.bind_some]
    rw [if_pos (by simp; omega)]
    by_cases h : x1 < (x : Int)
    · obtain ⟨c', o', e2, g2, l2⟩ := ih f (k + 2) (x + 1) c1 (o ++ [gd o x1 0]) (by omega) (by omega) g1 (by omega) (by simp; omega)
      refine ⟨c', o', ?_, g2.mono (by omega), l2⟩
      rw [if_pos (by simpa using h), if_pos (by unfold inb; omega), if_pos (by simp; unfold lim; omega)]
      exact e2
    · obtain ⟨c', o', e2, g2, l2⟩ := ih f (k + 2) (x + 1) c1 (o ++ [x1]) (by omega) (by omega) g1 (by omega) (by simp; omega)
      refine ⟨c', o', ?_, g2.mono (by omega), l2⟩
      rw [if_neg (by simpa using h), if_pos (by simp; unfold lim; omega)]
      exact e2
theorem partition_ok {N k : Nat} {c : CurT} (hN : N ≤ 8) (hc : Cur k c) (hk : k ≤ 500000) : ∃ c' o, spec_l1Cur_partition13 c (N : Int) = some (c', o) ∧ Cur (k + 16) c' ∧ o.length = N := by
 obtain ⟨c', o, e, g, l⟩ := part_L3 hN N fuel k 0 c [] (by omega) (by unfold fuel; omega) hc (by omega) rfl
 refine ⟨c', o, ?_, g.mono (by omega), l⟩
 unfold spec_l1Cur_partition13
 have e : spec_l1Cur_partition13_L3 fuel ((c.1, (c.2.1, c.2.2)), (N : Int), [], 0) = _ := e
 rw [e]; rfl
theorem ofPart_ok {p : List Int} (hp : p.length ≤ 8) : ∃ out, spec_l13OfPartition p = some (2, out) ∧ rowsB 64 2 out := by
  have in6 : ∀ (x : Nat), x < p.length → ∀ (d f y : Nat) (o : List (List Int)), y + d = p.length → d < f → rowsB (8 * x + y) 2 o →
      ∃ o', spec_l13OfPartition_L6 f (p, (0, []), (2, o), (x : Int), (y : Int)) = some (p, (0, []), (2, o'), (x : Int)) ∧ rowsB (8 * x + p.length) 2 o' := by
    intro x hx d
    induction d with
    | zero =>
      intro f y o hy hf ho
      obtain ⟨f, rfl⟩ : ∃ z, f = z + 1 := ⟨f - 1, by omega⟩
      refine ⟨o, ?_, ho.mono (by omega) (by omega)⟩
      simp only [spec_l13OfPartition_L6]
      rw [if_neg (by simp; omega)]
    | succ d ih =>
      intro f y o hy hf ho
      obtain ⟨f, rfl⟩ : ∃ z, f = z + 1 := ⟨f - 1, by omega⟩
      have hyl : y < p.length := by omega
      have hol := ho.1
      simp only [spec_l13OfPartition_L6, inb_nat, hx, hyl, if_true, w64_succ (show y < 4611686018427387904 by omega)]
      rw [if_pos (by simp; omega)]
      by_cases h : (gd p (x : Int) 0 == gd p (y : Int) 0) = true
      · obtain ⟨o', e, g⟩ := ih f (y + 1) (o ++ [[(x : Int), (y : Int)]]) (by omega) (by omega) (by rw [← Nat.add_assoc]; exact ho.app (by simp))
        refine ⟨o', ?_, g⟩
        rw [if_pos h, if_pos (by simp; unfold lim; omega)]
        exact e
      · obtain ⟨o', e, g⟩ := ih f (y + 1) o (by omega) (by omega) (ho.mono (by omega) (by omega))
        refine ⟨o', ?_, g⟩
        rw [if_neg h]
        exact e
  have in3 : ∀ (d f x : Nat) (o : List (List Int)), x + d = p.length → d < f → rowsB (8 * x) 2 o →
      ∃ o', spec_l13OfPartition_L3 f (p, (0, []), (2, o), (x : Int)) = some ((0, []), (2, o')) ∧ rowsB 64 2 o' := by
    intro d
    induction d with
    | zero =>
      intro f x o hx hf ho
      obtain ⟨f, rfl⟩ : ∃ z, f = z + 1 := ⟨f - 1, by omega⟩
      refine ⟨o, ?_, ho.mono (by omega) (by omega)⟩
      simp only [spec_l13OfPartition_L3]
      rw [if_neg (by simp; omega)]
    | succ d ih =>
      intro f x o hx hf ho
      obtain ⟨f, rfl⟩ : ∃ z, f = z + 1 := ⟨f - 1, by omega⟩
      obtain ⟨o1, e1, g1⟩ := in6 x (by omega) p.length fuel 0 o (by omega) (by unfold fuel; omega) ho
      have e1 : spec_l13OfPartition_L6 fuel (p, (0, []), (2, o), (x : Int), 0) = _ := e1
      obtain ⟨o', e2, g2⟩ := ih f (x + 1) o1 (by omega) (by omega) (g1.mono (by omega) (by omega))
      refine ⟨o', ?_, g2⟩
      simp only [spec_l13OfPartition_L3, e1, Option.bind_some, w64_succ (show x < 4611686018427387904 by omega)]
      rw [if_pos (by simp; omega)]
      exact e2
  obtain ⟨o, e, g⟩ := in3 p.length fuel 0 [] (by omega) (by unfold fuel; omega) ⟨by simp, by simp⟩
  refine ⟨o, ?_, g⟩
  unfold spec_l13OfPartition
  have e : spec_l13OfPartition_L3 fuel (p, (0, []), (2, []), 0) = _ := e
  rw [e]; rfl
theorem full13_ok {N A : Nat} (hN : 1 ≤ N ∧ N ≤ 8) (hA : 1 ≤ A ∧ A ≤ 3) : ∃ out, spec_l13Full (N : Int) (A : Int) = some ((A : Int), out) ∧ rowsB 512 3 out := by
  have hp : N ^ A ≤ 512 := by
    have : N ^ A ≤ 8 ^ 3 := Nat.le_trans (Nat.pow_le_pow_left hN.2 A) (Nat.pow_le_pow_right (by omega) hA.2)
    omega
  have e1 := spec_l2Pow_ok (n := (N : Int)) (by omega) (by omega) (k := A) (by omega)
  have e0 : (N : Int) ^ A = ((N ^ A : Nat) : Int) := by rw [Int.natCast_pow]
  rw [e0] at e1
  have key : ∀ (d f x : Nat) (o : List (List Int)), x + d = N ^ A → d < f → rowsB x 3 o →
      ∃ o', spec_l13Full_L3 f ((N : Int), (A : Int), (0, []), ((A : Int), o), (x : Int)) = some ((0, []), ((A : Int), o')) ∧ rowsB (N ^ A) 3 o' := by
    intro d
    induction d with
    | zero =>
      intro f x o hx hf ho
      obtain ⟨f, rfl⟩ : ∃ z, f = z + 1 := ⟨f - 1, by omega⟩
      refine ⟨o, ?_, ho.mono (by omega) (by omega)⟩
      simp only [spec_l13Full_L3, e1, Option.bind_some]
      rw [if_neg (by simp only [decide_eq_true_eq]; omega)]
    | succ d ih =>
      intro f x o hx hf ho
      obtain ⟨f, rfl⟩ : ∃ z, f = z + 1 := ⟨f - 1, by omega⟩
      have hol := ho.1
      have e2 := spec_l2Args_ok (b := N) (k := A) (i := x) (by omega) (by omega) (by omega)
      have hl2 : (cI (dg N A x)).length = A := by rw [cI_len, dg_len]
      obtain ⟨o', e3, g3⟩ := ih f (x + 1) (o ++ [cI (dg N A x)]) (by omega) (by omega) (ho.app (by omega))
      refine ⟨o', ?_, g3⟩
      simp only [spec_l13Full_L3, e1, e2, Option.bind_some, w64_succ (show x < 4611686018427387904 by omega)]
      rw [if_pos (by simp only [decide_eq_true_eq]; omega), if_pos (by simp; unfold lim; omega)]
      exact e3
  obtain ⟨o, e, g⟩ := key (N ^ A) fuel 0 [] (by omega) (by unfold fuel; omega) ⟨by simp, by simp⟩
  refine ⟨o, ?_, g.mono hp (by omega)⟩
  unfold spec_l13Full
  have e : spec_l13Full_L3 fuel ((N : Int), (A : Int), (0, []), ((A : Int), []), 0) = _ := e
  rw [e]; rfl
theorem rel_L9 {N : Int} (hN : N ≤ 100) {A : Nat} (hA : A ≤ 3) (t6 t7 : Int × List (List Int)) (t8 : Int) : ∀ (d f k x : Nat) (c : CurT) (o : List Int), x + d = A → d < f → Cur k c → k + 2 * d ≤ 1000000 → o.length = x →
    ∃ c' o', spec_l1Cur_relation_L9 f (c, N, (A : Int), t6, t7, t8, o, (x : Int)) = some (c', N, (A : Int), t6, t7, t8, o') ∧ Cur (k + 2 * d) c' ∧ o'.length = A := by
  intro d
  induction d with
  | zero =>
    intro f k x c o hx hf hc hk ho
    obtain ⟨f, rfl⟩ : ∃ z, f = z + 1 := ⟨f - 1, by omega⟩
    refine ⟨c, o, ?_, hc, by omega⟩
    simp only [spec_l1Cur_relation_L9]
    rw [if_neg (by simp; omega)]
  | succ d ih =>
    intro f k x c o hx hf hc hk ho
    obtain ⟨f, rfl⟩ : ∃ z, f = z + 1 := ⟨f - 1, by omega⟩
    obtain ⟨c1, x1, e1, g1, _⟩ := pick_ok hc (by omega) N (by omega)
    have e1 : spec_l1Cur_pick (c.1, (c.2.1, c.2.2)) N = _ := e1
    obtain ⟨c', o', e2, g2, l2⟩ := ih f (k + 2) (x + 1) c1 (o ++ [x1]) (by omega) (by omega) g1 (by omega) (by simp; omega)
    refine ⟨c', o', ?_, g2.mono (by omega), l2⟩
    simp only [spec_l1Cur_relation_L9, e1, Option.bind_some, w64_succ (show x < 4611686018427387904 by omega)]
    rw [if_pos (by simp; omega), if_pos (by simp; unfold lim; omega)]
    exact e2
theorem rel_L5 {N : Int} (hN : N ≤ 100) {A : Nat} (hA : A ≤ 3) (t6 : Int × List (List Int)) : ∀ (d f k : Nat) (c : CurT) (o : List (List Int)), d < f → Cur k c → k + 10 * d ≤ 500000 → o.length + d ≤ 1000 → incB o = true → (∀ u ∈ o, u.length = A) →
    ∃ c' o', spec_l1Cur_relation_L5 f (c, N, (A : Int), t6, ((A : Int), o), (d : Int)) = some (c', N, (A : Int), t6, ((A : Int), o')) ∧ Cur (k + 10 * d) c' ∧ rowsB (o.length + d) A o' := by
  intro d
  induction d with
  | zero =>
    intro f k c o hf hc hk ho hi hl
    obtain ⟨f, rfl⟩ : ∃ z, f = z + 1 := ⟨f - 1, by omega⟩
    refine ⟨c, o, ?_, hc, ⟨by omega, fun u hu => by rw [hl u hu]; exact Nat.le_refl _⟩⟩
    simp only [spec_l1Cur_relation_L5]
    rw [if_neg (by simp)]
  | succ d ih =>
    intro f k c o hf hc hk ho hi hl
    obtain ⟨f, rfl⟩ : ∃ z, f = z + 1 := ⟨f - 1, by omega⟩
    obtain ⟨c1, t, e1, g1, l1⟩ := rel_L9 hN hA t6 ((A : Int), o) ((d + 1 : Nat) : Int) A fuel k 0 c [] (by omega) (by unfold fuel; omega) hc (by omega) rfl
    have e1 : spec_l1Cur_relation_L9 fuel ((c.1, (c.2.1, c.2.2)), N, (A : Int), (t6.1, t6.2), ((A : Int), o), ((d + 1 : Nat) : Int), [], 0) = _ := e1
    obtain ⟨o1, p1, p2, p3, p4⟩ := spec_l8Put_ok (list := o) (t := t) (k := A) (by omega) (by omega) hl l1 hi
    have z1 := put_len p2 hi p3 p4
    obtain ⟨c', o', e2, g2, l2⟩ := ih f (k + 2 * A) c1 o1 (by omega) g1 (by omega) (by omega) p2 (fun u hu => ((p3 u).1 hu).elim (fun h => by rw [h]; exact l1) (hl u))
    refine ⟨c', o', ?_, g2.mono (by omega), l2.mono (by omega) (by omega)⟩
    have ew : w64 (((d + 1 : Nat) : Int) - 1) = (d : Int) := by rw [w64_id (by omega) (by omega)]; omega
    simp only [spec_l1Cur_relation_L5, e1, put_b, p1, Option.bind_some, ew]
    rw [if_pos (by simp)]
    exact e2
def relTail (c : CurT) (N A : Int) (out : Int × List (List Int)) : Option (CurT × (Int × List (List Int))) :=
 (spec_l1Cur_pick (c.1, (c.2.1, c.2.2)) 40).bind fun r10 =>
  if r10.2 == 0 then
   (spec_l1Cur_among (r10.1.1, (r10.1.2.1, r10.1.2.2)) [0, 4, (-1)]).bind fun r11 =>
    some ((r11.1.1, (r11.1.2.1, r11.1.2.2)), (r11.2, out.2))
  else
   if r10.2 == 1 then
    if 0 ≤ A ∧ A ≤ A ∧ A ≤ lim then
     if out.2.length + [List.replicate (Int.toNat A) (0 : Int)].length ≤ lim then
      some ((r10.1.1, (r10.1.2.1, r10.1.2.2)), (out.1, out.2 ++ [List.replicate (Int.toNat A) (0 : Int)]))
     else none
    else none
   else
    if r10.2 == 2 then
     if decide ((out.2.length : Int) > 0) then
      (spec_l1Cur_among (r10.1.1, (r10.1.2.1, r10.1.2.2)) [(-1), N, 0]).bind fun r12 =>
       if inb 0 out.2 then
        some ((r12.1.1, (r12.1.2.1, r12.1.2.2)), (out.1, stt out.2 0 [r12.2]))
       else none
     else
      some ((r10.1.1, (r10.1.2.1, r10.1.2.2)), (out.1, out.2))
    else
     some ((r10.1.1, (r10.1.2.1, r10.1.2.2)), (out.1, out.2))
theorem relTail_ok {k : Nat} {c : CurT} (hc : Cur k c) (hk : k ≤ 1000000) {N : Int} {A : Nat} (hA : A ≤ 3) {out : Int × List (List Int)} (ho : rowsB 600 3 out.2) : ∃ c' r, relTail c N (A : Int) out = some (c', r) ∧ Cur (k + 4) c' ∧ rowsB 601 3 r.2 := by
 obtain ⟨c1, x1, e1, g1, _⟩ := pick_ok hc (by omega) 40 (by omega)
 have e1 : spec_l1Cur_pick (c.1, (c.2.1, c.2.2)) 40 = _ := e1
 have hol := ho.1
 unfold relTail
 simp only [e1, Option.bind_some]
 by_cases h0 : x1 = 0
 ·rw [if_pos (by simpa using h0)]
  obtain ⟨c2, x2, e2, g2, _⟩ := among_ok g1 (by omega) (l := [0, 4, (-1)]) (by simp) (by simp)
  have e2 : spec_l1Cur_among (c1.1, (c1.2.1, c1.2.2)) [0, 4, (-1)] = _ := e2
  simp only [e2, Option.bind_some]
  exact ⟨_, _, rfl, g2.mono (by omega), ho.mono (by omega) (by omega)⟩
 ·rw [if_neg (by simpa using h0)]
  by_cases h1 : x1 = 1
  ·rw [if_pos (by simpa using h1), if_pos (by unfold lim; omega), if_pos (by simp; unfold lim; omega)]
   exact ⟨_, _, rfl, g1.mono (by omega), ho.app (by simp; omega)⟩
  ·rw [if_neg (by simpa using h1)]
   by_cases h2 : x1 = 2
   ·rw [if_pos (by simpa using h2)]
    by_cases h3 : (out.2.length : Int) > 0
    ·rw [if_pos (by simpa using h3)]
     obtain ⟨c2, x2, e2, g2, _⟩ := among_ok g1 (by omega) (l := [(-1), N, 0]) (by simp) (by simp)
     have e2 : spec_l1Cur_among (c1.1, (c1.2.1, c1.2.2)) [(-1), N, 0] = _ := e2
     simp only [e2, Option.bind_some]
     rw [if_pos (by unfold inb; omega)]
     refine ⟨_, _, rfl, g2.mono (by omega), ⟨by show (List.set out.2 _ _).length ≤ 601; rw [List.length_set]; omega, fun r hr => ?_⟩⟩
     have hr : r ∈ List.set out.2 (0 : Int).toNat [x2] := hr
     rcases List.mem_or_eq_of_mem_set hr with hr | rfl
     ·exact ho.2 r hr
     ·simp
    ·rw [if_neg (by simpa using h3)]
     exact ⟨_, _, rfl, g1.mono (by omega), ho.mono (by omega) (by omega)⟩
   ·rw [if_neg (by simpa using h2)]
    exact ⟨_, _, rfl, g1.mono (by omega), ho.mono (by omega) (by omega)⟩
theorem relation_ok {k : Nat} {c : CurT} (hc : Cur k c) (hk : k ≤ 100000) {N A : Int} (hN : N ≤ 100) : ∃ c' r, spec_l1Cur_relation c N A = some (c', r) ∧ Cur (k + 200) c' ∧ rowsB 601 3 r.2 := by
 unfold spec_l1Cur_relation
 rw [spec_l6Size_ok, spec_l1In_ok]
 simp only [Option.bind_some]
 cases hs : sizeB N with
 | false => exact ⟨_, _, rfl, hc.mono (by omega), ⟨by simp, by simp⟩⟩
 | true =>
  simp only [Bool.not_true, Bool.false_eq_true, if_false]
  by_cases hA : 1 ≤ A ∧ A ≤ 3
  ·rw [if_neg (by simp; omega)]
   obtain ⟨a, rfl⟩ : ∃ a : Nat, A = (a : Int) := ⟨A.toNat, by omega⟩
   have hn : 1 ≤ N ∧ N ≤ 8 := by unfold sizeB at hs; simpa using hs
   obtain ⟨n, rfl⟩ : ∃ n : Nat, N = (n : Int) := ⟨N.toNat, by omega⟩
   obtain ⟨c1, x1, e1, g1, m1⟩ := among_ok hc (by omega) (l := [0, 1, 2, 3, 4, 6, 9]) (by simp) (by simp)
   have hx1 : 0 ≤ x1 ∧ x1 ≤ 9 := by simp at m1; omega
   obtain ⟨m, rfl⟩ : ∃ m : Nat, x1 = (m : Int) := ⟨x1.toNat, by omega⟩
   obtain ⟨c2, o, e2, g2, r2⟩ := rel_L5 (N := (n : Int)) (by omega) (A := a) (by omega) (0, []) m fuel (k + 2) c1 [] (by unfold fuel; omega) g1 (by omega) (by simp; omega) rfl (by simp)
   have r2 : rowsB 600 3 o := r2.mono (by simp; omega) (by omega)
   have e1 : spec_l1Cur_among (c.1, (c.2.1, c.2.2)) [0, 1, 2, 3, 4, 6, 9] = _ := e1
   have e2 : spec_l1Cur_relation_L5 fuel ((c1.1, (c1.2.1, c1.2.2)), (n : Int), (a : Int), (0, []), ((a : Int), []), (m : Int)) = _ := e2
   simp only [e1, e2, Option.bind_some]
   have hn' : 1 ≤ n ∧ n ≤ 8 := by omega
   have ha' : 1 ≤ a ∧ a ≤ 3 := by omega
   have fin : ∀ (c : CurT) (out : Int × List (List Int)), Cur (k + 150) c → rowsB 600 3 out.2 → ∃ c' r, relTail c (n : Int) (a : Int) out = some (c', r) ∧ Cur (k + 200) c' ∧ rowsB 601 3 r.2 := fun c out hc ho => by
    obtain ⟨c', r, e, g, h⟩ := relTail_ok hc (by omega) (N := (n : Int)) (A := a) (by omega) ho
    exact ⟨c', r, e, g.mono (by omega), h⟩
   have mid : ∀ (c : CurT) (out : Int × List (List Int)), Cur (k + 130) c → rowsB 600 3 out.2 → ∃ c' r, ((spec_l1Cur_one (c.1, (c.2.1, c.2.2)) 12).bind fun r8 => if r8.2 then (spec_l13Full (n : Int) (a : Int)).bind fun r9 => relTail r8.1 (n : Int) (a : Int) r9 else relTail r8.1 (n : Int) (a : Int) out) = some (c', r) ∧ Cur (k + 200) c' ∧ rowsB 601 3 r.2 := fun c out hc ho => by
    obtain ⟨c3, b3, e3, g3⟩ := one_ok hc (by omega) 12 (by omega)
    have e3 : spec_l1Cur_one (c.1, (c.2.1, c.2.2)) 12 = _ := e3
    simp only [e3, Option.bind_some]
    cases b3 with
    | true =>
     obtain ⟨w, e4, h4⟩ := full13_ok hn' ha'
     simp only [if_true, e4, Option.bind_some]
     exact fin c3 ((a : Int), w) (g3.mono (by omega)) (h4.mono (by omega) (by omega))
    | false =>
     simp only [Bool.false_eq_true, if_false]
     exact fin c3 out (g3.mono (by omega)) ho
   by_cases h2 : ((a : Int) == 2) = true
   ·rw [if_pos h2]
    obtain ⟨c3, b3, e3, g3⟩ := one_ok g2 (by omega) 3 (by omega)
    have e3 : spec_l1Cur_one (c2.1, (c2.2.1, c2.2.2)) 3 = _ := e3
    simp only [e3, Option.bind_some]
    cases b3 with
    | true =>
     obtain ⟨c4, p, e4, g4, l4⟩ := partition_ok (N := n) (by omega) g3 (by omega)
     have e4 : spec_l1Cur_partition13 (c3.1, (c3.2.1, c3.2.2)) (n : Int) = _ := e4
     obtain ⟨w, e5, h5⟩ := ofPart_ok (p := p) (by omega)
     simp only [if_true, e4, e5, Option.bind_some]
     exact mid c4 (2, w) (g4.mono (by omega)) (h5.mono (by omega) (by omega))
    | false =>
     simp only [Bool.false_eq_true, if_false]
     exact mid c3 ((a : Int), o) (g3.mono (by omega)) r2
   ·rw [if_neg h2]
    exact mid c2 ((a : Int), o) (g2.mono (by omega)) r2
  ·rw [if_pos (by simp; omega)]
   exact ⟨_, _, rfl, hc.mono (by omega), ⟨by simp, by simp⟩⟩
end T
open Go Go.Va
namespace T
def relsB (l : List RelT) : Prop := l.length ≤ 5 ∧ ∀ r ∈ l, rowsB 601 3 r.2
def knownC (o : Option (Int × List RelT)) : Bool := match o with
 | some (n, rels) => decide (0 ≤ n ∧ n ≤ 5) && (decide (rels.length ≤ 5) && rels.all fun r => decide (r.2.length ≤ 601) && r.2.all fun t => decide (t.length ≤ 3))
 | none => false
theorem known_c (x : Int) : knownC (spec_l14Known x) = true := by
 unfold spec_l14Known
 repeat' split
 all_goals rfl
theorem known_ok (x : Int) : ∃ n rels, spec_l14Known x = some (n, rels) ∧ 0 ≤ n ∧ n ≤ 5 ∧ relsB rels := by
 have h := known_c x
 unfold knownC at h
 split at h
 ·rename_i n rels e
  simp only [Bool.and_eq_true, decide_eq_true_eq, List.all_eq_true] at h
  exact ⟨n, rels, e, h.1.1, h.1.2, h.2.1, fun r hr => h.2.2 r hr⟩
 ·simp at h
theorem tmp_L9 {l : List RelT} {i : Nat} (hi : i < l.length) (hr : rowsB 1000 1000 l[i].2) (c : CurT) (n : Int) (o : List RelT) (ar : Int) : spec_l1Cur_template_L9 fuel (c, n, l, o, (i : Int), (ar, []), 0) = some (c, n, l, o, (i : Int), (ar, l[i].2)) := by
 have h1 := hr.1
 have := forS l[i].2.length (fun m (q : List (List Int)) k => spec_l1Cur_template_L9 m (c, n, l, o, (i : Int), (ar, q), k)) (fun k => l[i].2.take k) (r := some (c, n, l, o, (i : Int), (ar, l[i].2))) (fun m k hk => ?_) (fun m => ?_) (n := fuel) (by unfold fuel; omega)
 ·exact this
 ·have e := spec_l1Own_ok (l := l[i].2[k]) (by have := hr.2 _ (List.getElem_mem hk); omega)
  simp only [spec_l1Cur_template_L9, inb_nat, hi, gd_nat hi, hk, gd_nat hk, if_true, e, Option.bind_some, w64_succ (show k < 4611686018427387904 by omega)]
  rw [if_pos (by simp; omega), if_pos (by simp; unfold lim; omega), List.take_succ_eq_append_getElem hk]
 ·simp only [spec_l1Cur_template_L9, inb_nat, hi, gd_nat hi, if_true, List.take_length]
  rw [if_neg (by simp)]
theorem tmp_L5 {l : List RelT} (h : relsB l) (c : CurT) (n : Int) : spec_l1Cur_template_L5 fuel (c, n, l, [], 0) = some (c, n, l) := by
 have h1 := h.1
 have := forS l.length (fun m (q : List RelT) k => spec_l1Cur_template_L5 m (c, n, l, q, k)) (fun k => l.take k) (r := some (c, n, l)) (fun m k hk => ?_) (fun m => ?_) (n := fuel) (by unfold fuel; omega)
 ·exact this
 ·have e := tmp_L9 hk ((h.2 _ (List.getElem_mem hk)).mono (by omega) (by omega)) c n (l.take k) l[k].1
  have e : spec_l1Cur_template_L9 fuel ((c.1, (c.2.1, c.2.2)), n, l, l.take k, (k : Int), (l[k].1, []), 0) = _ := e
  simp only [spec_l1Cur_template_L5, inb_nat, hk, gd_nat hk, if_true, e, Option.bind_some, w64_succ (show k < 4611686018427387904 by omega)]
  rw [if_pos (by simp; omega), if_pos (by simp; unfold lim; omega), List.take_succ_eq_append_getElem hk]
 ·simp only [spec_l1Cur_template_L5, List.take_length]
  rw [if_neg (by simp)]
theorem tmp_L17 {n : Int} (hn : n ≤ 100) : ∀ (d f k : Nat) (c : CurT) (o : List RelT), d < f → Cur k c → k + 300 * d ≤ 50000 → o.length + d ≤ 5 → (∀ r ∈ o, rowsB 601 3 r.2) →
    ∃ c' o', spec_l1Cur_template_L17 f (c, n, o, (d : Int)) = some (c', n, o') ∧ Cur (k + 300 * d) c' ∧ relsB o' := by
  intro d
  induction d with
  | zero =>
    intro f k c o hf hc hk ho hr
    obtain ⟨f, rfl⟩ : ∃ z, f = z + 1 := ⟨f - 1, by omega⟩
    refine ⟨c, o, ?_, hc, ⟨by omega, hr⟩⟩
    simp only [spec_l1Cur_template_L17]
    rw [if_neg (by simp)]
  | succ d ih =>
    intro f k c o hf hc hk ho hr
    obtain ⟨f, rfl⟩ : ∃ z, f = z + 1 := ⟨f - 1, by omega⟩
    obtain ⟨c1, x1, e1, g1, _⟩ := among_ok hc (by omega) (l := [1, 2, 2, 3]) (by simp) (by simp)
    have e1 : spec_l1Cur_among (c.1, (c.2.1, c.2.2)) [1, 2, 2, 3] = _ := e1
    obtain ⟨c2, r, e2, g2, h2⟩ := relation_ok (N := n) (A := x1) g1 (by omega) hn
    have e2 : spec_l1Cur_relation (c1.1, (c1.2.1, c1.2.2)) n x1 = _ := e2
    obtain ⟨c', o', e3, g3, h3⟩ := ih f (k + 202) c2 (o ++ [r]) (by omega) (g2.mono (by omega)) (by omega) (by simp; omega) (fun q hq => by
      rcases List.mem_append.1 hq with hq | hq
      · exact hr q hq
      · rw [List.mem_singleton.1 hq]; exact h2)
    refine ⟨c', o', ?_, g3.mono (by omega), h3⟩
    have ew : w64 (((d + 1 : Nat) : Int) - 1) = (d : Int) := by rw [w64_id (by omega) (by omega)]; omega
    simp only [spec_l1Cur_template_L17, e1, e2, Option.bind_some, ew]
    rw [if_pos (by simp), if_pos (by simp; unfold lim; omega)]
    exact e3
theorem part_draw {k : Nat} {c : CurT} (hc : Cur k c) (hk : k ≤ 1000000) (l : List Int) (b m : Nat) (hm : 11 ≤ m ∧ m ≤ 24) (hb : 0 < b) (hl : b + (23 / m) ≤ l.length) (hl2 : l.length ≤ 100) :
    ∃ c1 x1 c' x, spec_l1Cur_pick (c.1, (c.2.1, c.2.2)) 24 = some (c1, x1) ∧ ((0 : Int) ≤ 0 ∧ 0 ≤ (w64 ((b : Int) + (w64 (Int.tdiv x1 (m : Int))))) ∧ (w64 ((b : Int) + (w64 (Int.tdiv x1 (m : Int))))) ≤ (l.length : Int)) ∧
      spec_l1Cur_among (c1.1, (c1.2.1, c1.2.2)) ((l.take (Int.toNat (w64 ((b : Int) + (w64 (Int.tdiv x1 (m : Int))))))).drop (Int.toNat 0)) = some (c', x) ∧ Cur (k + 4) c' ∧ x ∈ l := by
  obtain ⟨c1, x1, e1, g1, a1, b1, _⟩ := pick_ok hc (by omega) 24 (by omega)
  have b1 := b1 (by omega)
  obtain ⟨y, rfl⟩ : ∃ y : Nat, x1 = (y : Int) := ⟨x1.toNat, by omega⟩
  have hqb : y / m ≤ 23 / m := Nat.div_le_div_right (by omega)
  have hq : Int.tdiv (y : Int) (m : Int) = ((y / m : Nat) : Int) := by rw [Int.tdiv_eq_ediv_of_nonneg (by omega)]; rfl
  obtain ⟨q, eq⟩ : ∃ q, q = y / m := ⟨_, rfl⟩
  obtain ⟨z, ez⟩ : ∃ z, z = 23 / m := ⟨_, rfl⟩
  rw [← ez] at hqb hl
  rw [← eq] at hqb hq
  clear eq ez
  refine ⟨c1, (y : Int), ?_⟩
  rw [hq]
  clear hq
  have w1 : w64 ((q : Nat) : Int) = (q : Int) := w64_id (by omega) (by omega)
  have w2 : w64 ((b : Int) + (q : Int)) = ((b + q : Nat) : Int) := by rw [w64_id (by omega) (by omega)]; omega
  rw [w1, w2]
  have e0 : (l.take (Int.toNat ((b + q : Nat) : Int))).drop (Int.toNat 0) = l.take (b + q) := by rw [Int.toNat_natCast]; rfl
  rw [e0]
  obtain ⟨c2, x2, e2, g2, m2⟩ := among_ok g1 (by omega) (l := l.take (b + q)) (by rw [List.length_take]; omega) (by rw [List.length_take]; omega)
  exact ⟨c2, x2, e1, by omega, e2, g2.mono (by omega), List.mem_of_mem_take m2⟩
theorem template_ok {k : Nat} {c : CurT} (hc : Cur k c) (hk : k ≤ 10000) : ∃ c' n rels, spec_l1Cur_template c = some (c', n, rels) ∧ Cur (k + 2000) c' ∧ 0 ≤ n ∧ n ≤ 5 ∧ relsB rels := by
 obtain ⟨c1, b1, e1, g1⟩ := one_ok hc (by omega) 3 (by omega)
 have e1 : spec_l1Cur_one (c.1, (c.2.1, c.2.2)) 3 = _ := e1
 unfold spec_l1Cur_template
 simp only [e1, Option.bind_some]
 cases b1 with
 | false =>
  obtain ⟨c2, x2, e2, g2, _⟩ := pick_ok g1 (by omega) 11 (by omega)
  have e2 : spec_l1Cur_pick (c1.1, (c1.2.1, c1.2.2)) 11 = _ := e2
  obtain ⟨n, rels, e3, h1, h2, h3⟩ := known_ok x2
  have e4 := tmp_L5 h3 c2 n
  have e4 : spec_l1Cur_template_L5 fuel ((c2.1, (c2.2.1, c2.2.2)), n, rels, [], 0) = _ := e4
  simp only [Bool.not_false, if_true, e2, e3, e4, Option.bind_some]
  exact ⟨_, _, _, rfl, g2.mono (by omega), h1, h2, h3⟩
 | true =>
  simp only [Bool.not_true, Bool.false_eq_true, if_false]
  obtain ⟨d1, y1, c2, n, e2, i2, f2, g2, m2⟩ := part_draw g1 (by omega) [1, 2, 2, 2, 3, 3, 4, 0, 5] 7 11 (by omega) (by omega) (by simp) (by simp)
  obtain ⟨d2, y2, c3, d, e3, i3, f3, g3, m3⟩ := part_draw g2 (by omega) [0, 1, 1, 2, 4, 5] 5 23 (by omega) (by omega) (by simp) (by simp)
  have hn : 0 ≤ n ∧ n ≤ 5 := by simp at m2; omega
  have hd : 0 ≤ d ∧ d ≤ 5 := by simp at m3; omega
  obtain ⟨D, rfl⟩ : ∃ D : Nat, d = (D : Int) := ⟨d.toNat, by omega⟩
  obtain ⟨c4, rels, e4, g4, h4⟩ := tmp_L17 (n := n) (by omega) D fuel (k + 10) c3 [] (by unfold fuel; omega) (g3.mono (by omega)) (by omega) (by simp; omega) (by simp)
  have e4 : spec_l1Cur_template_L17 fuel ((c3.1, (c3.2.1, c3.2.2)), n, [], (D : Int)) = _ := e4
  simp only [e2, Option.bind_some]
  rw [if_pos (by decide), if_pos (show (0 : Int) ≤ 0 ∧ 0 ≤ (w64 (7 + (w64 (Int.tdiv y1 11)))) ∧ (w64 (7 + (w64 (Int.tdiv y1 11)))) ≤ ([1, 2, 2, 2, 3, 3, 4, 0, 5].length : Int) from i2)]
  have f2 : spec_l1Cur_among (d1.1, (d1.2.1, d1.2.2)) (([1, 2, 2, 2, 3, 3, 4, 0, 5].take (Int.toNat (w64 (7 + (w64 (Int.tdiv y1 11)))))).drop (Int.toNat 0)) = _ := f2
  rw [f2]
  simp only [Option.bind_some, e3]
  rw [if_pos (by decide), if_pos (show (0 : Int) ≤ 0 ∧ 0 ≤ (w64 (5 + (w64 (Int.tdiv y2 23)))) ∧ (w64 (5 + (w64 (Int.tdiv y2 23)))) ≤ ([0, 1, 1, 2, 4, 5].length : Int) from i3)]
  have f3 : spec_l1Cur_among (d2.1, (d2.2.1, d2.2.2)) (([0, 1, 1, 2, 4, 5].take (Int.toNat (w64 (5 + (w64 (Int.tdiv y2 23)))))).drop (Int.toNat 0)) = _ := f3
  rw [f3]
  simp only [Option.bind_some, e4]
  exact ⟨_, _, _, rfl, g4.mono (by omega), hn.1, hn.2, h4⟩
end T
open Go Go.Va
namespace T
theorem all_eqD {α : Type} [DecidableEq α] {l l' : List α} (d : α) (h : l.length = l'.length) : (List.range l.length).all (fun k => decide (l.getD k d = l'.getD k d)) = decide (l = l') := by
 rw [Bool.eq_iff_iff]
 simp only [List.all_eq_true, List.mem_range, decide_eq_true_eq]
 constructor
 ·intro hx
  refine List.ext_getElem h fun i h1 h2 => ?_
  have := hx i h1
  rwa [getD_of h1, getD_of h2] at this
 ·rintro rfl _ _; rfl
section
variable {A B : Nat → Nat} {m j : Nat}
end
section
variable {n k m : Nat} {r : RelT} {rels : List RelT}
end
end T
open Go Go.Va
namespace T
section
variable {V n k : Nat} {cs : List Con} {rels : List RelT}
theorem rInts_ok {a b : List Int} (h : a.length ≤ 1048576) : laws_rInts a b = some (decide (a = b)) := by
 unfold laws_rInts
 by_cases h2 : a.length = b.length
 ·rw [if_neg (by simp [h2])]
  have := forA a.length (fun n (_ : Unit) i => laws_rInts_L4 n (a, b, i)) (fun _ => ()) (fun k => decide (a.getD k 0 = b.getD k 0)) (r := some (.inr false)) (e := some (.inl ())) (fun f k hk => ?_) (fun f => ?_) (n := fuel) (by unfold fuel; omega)
  ·rw [all_eqD 0 h2] at this
   have this : laws_rInts_L4 fuel (a, b, 0) = _ := this
   rw [this]
   by_cases e : a = b
   ·subst e; simp
   ·simp [e]
  ·simp only [laws_rInts_L4, inb_nat, hk, gd_nat hk, h2 ▸ hk, gd_nat (h2 ▸ hk), if_true, getD_of hk, getD_of (h2 ▸ hk : k < b.length), w64_succ (show k < 4611686018427387904 by omega)]
   rw [if_pos (by simp; omega)]
   by_cases e : a[k] = b[k] <;> simp [e]
  ·simp only [laws_rInts_L4]
   rw [if_neg (by simp)]
 ·rw [if_pos (by simpa using fun h => h2 (by omega))]
  rw [decide_eq_false fun h => h2 (by rw [h])]
theorem rTable_ok {a b : List (List Int)} (h : a.length ≤ 1048576) (ht : ∀ t ∈ a, t.length ≤ 1048576) : laws_rTable a b = some (decide (a = b)) := by
 unfold laws_rTable
 by_cases h2 : a.length = b.length
 ·rw [if_neg (by simp [h2])]
  have := forA a.length (fun n (_ : Unit) i => laws_rTable_L4 n (a, b, i)) (fun _ => ()) (fun k => decide (a.getD k [] = b.getD k [])) (r := some (.inr false)) (e := some (.inl ())) (fun f k hk => ?_) (fun f => ?_) (n := fuel) (by unfold fuel; omega)
  ·rw [all_eqD [] h2] at this
   have this : laws_rTable_L4 fuel (a, b, 0) = _ := this
   rw [this]
   by_cases e : a = b
   ·subst e; simp
   ·simp [e]
  ·have e := rInts_ok (a := a[k]) (b := b[k]) (ht _ (List.getElem_mem hk))
   simp only [laws_rTable_L4, inb_nat, hk, gd_nat hk, h2 ▸ hk, gd_nat (h2 ▸ hk), e, Option.bind_some, if_true, getD_of hk, getD_of (h2 ▸ hk : k < b.length), w64_succ (show k < 4611686018427387904 by omega)]
   rw [if_pos (by simp; omega)]
   by_cases e : a[k] = b[k] <;> simp [e]
  ·simp only [laws_rTable_L4]
   rw [if_neg (by simp)]
 ·rw [if_pos (by simpa using fun h => h2 (by omega))]
  rw [decide_eq_false fun h => h2 (by rw [h])]
theorem relsB_S (h : relsB rels) : relsS rels := ⟨by have := h.1; omega, fun r hr => by
 have := h.2 r hr
 exact ⟨by have := this.1; omega, fun t ht => by have := (this.2 t ht); omega⟩⟩
end
end T
open Go Go.Va
namespace T
section
variable {n k m : Nat} {r : RelT} {rels : List RelT} {given t : List Int}
def polK (n k : Nat) (rels : List RelT) (t : List Int) : Bool := rels.all fun r => kB n k r.1.toNat ((k : Int), t) r
theorem res_map {i : Nat} : resT n ((k : Int), t) r.2 r.1.toNat (dg r.2.length k i) = (cI (PL n k r i)).map (valI t) := by
 unfold resT PL cI
 rw [List.map_map, List.map_map]
 rfl
theorem polK_iff : polK n k rels t = true ↔ ∀ r ∈ rels, ∀ i, i < r.2.length ^ k → (cI (PL n k r i)).map (valI t) ∈ r.2 := by
 unfold polK kB
 simp only [List.all_eq_true, List.mem_range, decide_eq_true_eq, res_map]
theorem ext_iff {ok : List Int → Bool} : ∀ (m : Nat) (pre t : List Int), t ∈ extL n given ok m pre ↔ t.length = pre.length + m ∧ t.take pre.length = pre ∧
    ∀ q, pre.length ≤ q → q < t.length → (0 ≤ t.getD q 0 ∧ t.getD q 0 < (n : Int)) ∧ mstB given q (t.getD q 0).toNat = true ∧ ok (t.take (q + 1)) = true
  | 0, pre, t => by
    simp only [extL, List.mem_singleton, Nat.add_zero]
    constructor
    · rintro rfl
      exact ⟨rfl, by simp, fun q h1 h2 => by omega⟩
    · rintro ⟨h1, h2, _⟩
      rw [← h2, List.take_of_length_le (by omega)]
  | m + 1, pre, t => by
    simp only [extL, List.mem_flatMap, List.mem_range]
    constructor
    · rintro ⟨x, hx, h⟩
      by_cases hc : (mstB given pre.length x && ok (pre ++ [(x : Int)])) = true
      · rw [if_pos hc] at h
        obtain ⟨h1, h2, h3⟩ := (ext_iff m (pre ++ [(x : Int)]) t).1 h
        rw [Bool.and_eq_true] at hc
        rw [List.length_append, List.length_singleton] at h1 h2 h3
        have hv : t.getD pre.length 0 = (x : Int) := by
          have hl : pre.length < t.length := by omega
          have e : (t.take (pre.length + 1)).getD pre.length 0 = t.getD pre.length 0 := by simp [List.getD_eq_getElem?_getD, List.getElem?_take]
          rw [← e, h2]; simp [List.getD_eq_getElem?_getD]
        refine ⟨by omega, ?_, fun q h4 h5 => ?_⟩
        · have : (t.take (pre.length + 1)).take pre.length = pre := by rw [h2]; simp
          rw [List.take_take] at this
          rwa [Nat.min_eq_left (by omega)] at this
        · by_cases e : q = pre.length
          · subst e
            rw [hv, h2]
            exact ⟨by omega, by rw [Int.toNat_natCast]; exact hc.1, hc.2⟩
          · exact h3 q (by omega) h5
      · rw [if_neg hc] at h; simp at h
    · rintro ⟨h1, h2, h3⟩
      have hl : pre.length < t.length := by omega
      obtain ⟨a1, a2, a3⟩ := h3 pre.length (Nat.le_refl _) hl
      have hx : (((t.getD pre.length 0).toNat : Nat) : Int) = t.getD pre.length 0 := Int.toNat_of_nonneg a1.1
      have ht : t.take (pre.length + 1) = pre ++ [(((t.getD pre.length 0).toNat : Nat) : Int)] := by
        rw [hx, List.take_succ_eq_append_getElem hl, h2, getD_of hl]
      refine ⟨(t.getD pre.length 0).toNat, by omega, ?_⟩
      rw [if_pos (by rw [Bool.and_eq_true]; exact ⟨a2, by rw [← ht]; exact a3⟩)]
      refine (ext_iff m _ t).2 ⟨by simp; omega, by rw [List.length_append, List.length_singleton]; exact ht, fun q h4 h5 => h3 q (by rw [List.length_append, List.length_singleton] at h4; omega) h5⟩
theorem allT_iff (h : RelsOk n k rels) : t ∈ allT n k rels given ↔ t.length = n ^ k ∧ (∀ x ∈ t, 0 ≤ x ∧ x < (n : Int)) ∧ (∀ q, q < n ^ k → mstB given q (t.getD q 0).toNat = true) ∧ polK n k rels t = true := by
 unfold allT
 rw [ext_iff, polK_iff]
 simp only [List.length_nil, Nat.zero_add, List.take_zero, true_and, Nat.zero_le, true_implies]
 have hok : ∀ q, q < t.length → (okB n k rels (t.take (q + 1)) = true ↔ metB n k rels q t = true) := fun q hq => by
  unfold okB
  rw [List.length_take, Nat.min_eq_left (by omega), Nat.add_sub_cancel, metB_take]
 constructor
 ·rintro ⟨h1, h3⟩
  refine ⟨h1, fun x hx => ?_, fun q hq => (h3 q (by omega)).2.1, fun r hr i hi => ?_⟩
  ·obtain ⟨j, hj, rfl⟩ := List.mem_iff_getElem.1 hx
   have := (h3 j hj).1
   rwa [getD_of hj] at this
  ·have hlt := last_lt (h.ok r hr) h.hn h.hk.1 hi
   have hm := (hok _ (by omega)).1 (h3 _ (show lastP (PL n k r i) < t.length by omega)).2.2
   unfold metB at hm
   simp only [List.all_eq_true, List.mem_range, Bool.or_eq_true, Bool.not_eq_true', decide_eq_false_iff_not, decide_eq_true_eq] at hm
   exact (hm r hr i hi).resolve_left fun hne => hne rfl
 ·rintro ⟨h1, h2, h3, h4⟩
  refine ⟨h1, fun q hq => ⟨?_, h3 q (by omega), (hok q hq).2 ?_⟩⟩
  ·rw [getD_of hq]; exact h2 _ (List.getElem_mem hq)
  ·unfold metB
   simp only [List.all_eq_true, List.mem_range, Bool.or_eq_true, Bool.not_eq_true', decide_eq_false_iff_not, decide_eq_true_eq]
   exact fun r hr i hi => .inr (h4 r hr i hi)
theorem mst_free {N q x : Nat} (hq : q < N) : mstB (List.replicate N (-1)) q x = true := by
 unfold mstB
 rw [getD_of (by simpa using hq)]; simp
end
end T
open Go Go.Va
namespace T
section
variable {n k m : Nat} {r : RelT} {rels : List RelT} {given t f : List Int} {inner : List (List Int)}
def tabB (n k : Nat) (t : List Int) : Prop := t.length = n ^ k ∧ ∀ x ∈ t, 0 ≤ x ∧ x < (n : Int)
end
end T
open Go Go.Va
namespace T
section
variable {n k : Int} {rels : List RelT} {op : Opn}
def isPR (n : Int) (rels : List RelT) (op : Opn) : Bool × Bool := if tmplB n rels && fewB op.1 rels && opB n op then (decide (op.1 > 0) && polK n.toNat op.1.toNat rels op.2, true) else (false, false)
theorem op_parts (h : opB n op = true) : (0 ≤ op.1 ∧ op.1 ≤ 3) ∧ (op.2.length : Int) = n ^ op.1.toNat ∧ ∀ x ∈ op.2, 0 ≤ x ∧ x < n := by
 unfold opB belowB at h
 simp only [Bool.and_eq_true, decide_eq_true_eq, List.all_eq_true] at h
 exact ⟨h.1.1, h.1.2, h.2⟩
theorem op_tab (hn : 1 ≤ n ∧ n ≤ 4) (h : opB n op = true) : tabB n.toNat op.1.toNat op.2 := by
 obtain ⟨h1, h2, h3⟩ := op_parts h
 refine ⟨?_, fun x hx => by have := h3 x hx; omega⟩
 have e : ((n.toNat ^ op.1.toNat : Nat) : Int) = n ^ op.1.toNat := by rw [Int.natCast_pow, Int.toNat_of_nonneg (by omega)]
 rw [← e] at h2
 exact Int.ofNat_inj.1 h2
theorem kok_of {n k m : Nat} {r : RelT} {op : Opn} (h : ROk n m r) (hn : 1 ≤ n ∧ n ≤ 4) (hk : 1 ≤ k ∧ k ≤ 3) (ho : op.1 = (k : Int)) (ht : tabB n k op.2) : KOk n k m op r :=
 ⟨ho, hk, hn, ht.1, ht.2, h.ar, h.hm, h.tl, h.tv, h.many, h.inc⟩
theorem keepsAll_ok {n k : Nat} (hR : RelsOk n k rels) (ho : op.1 = (k : Int)) (ht : tabB n k op.2) : impl_keepsAll (n : Int) rels op = some (polK n k rels op.2) := by
 have hl := hR.len
 obtain ⟨o1, o2⟩ := op
 unfold impl_keepsAll
 rw [allX rels (fun f i => impl_keepsAll_L2 f ((n : Int), (o1, o2), rels, (rels.length : Int), i)) (fun r => kB n k r.1.toNat ((k : Int), o2) r) (.inr false) (.inl ()) ?_ ?_ (by unfold fuel; omega)]
 ·unfold polK
  dsimp only
  cases rels.all (fun r => kB n k r.1.toNat ((k : Int), o2) r) <;> simp
 ·intro f i hi
  obtain ⟨z, e, hz⟩ := impl_firstBreak_ok (kok_of (op := (o1, o2)) (hR.ok _ (List.getElem_mem hi)) hR.hn hR.hk ho ht)
  have e : impl_firstBreak (n : Int) (o1, o2) (rels[i].1, rels[i].2) = some z := e
  have hz : z.2.2 = !kB n k rels[i].1.toNat ((k : Int), o2) rels[i] := hz
  simp only [impl_keepsAll_L2, inb_nat, hi, gd_nat hi, e, hz, Option.bind_some, if_true, w64_succ (show i < 4611686018427387904 by omega)]
  rw [if_pos (by simp; omega)]
  cases kB n k rels[i].1.toNat ((k : Int), o2) rels[i] <;> simp
 ·intro f
  simp only [impl_keepsAll_L2]
  rw [if_neg (by simp)]
theorem impl_IsPol_ok (hs : relsS rels) (ho : op.2.length ≤ 1048576) : impl_IsPolymorphism n rels op = some (isPR n rels op) := by
 unfold impl_IsPolymorphism isPR
 rw [impl_canAsk_ok hs]
 cases hc : tmplB n rels && fewB op.1 rels with
 | false => simp
 | true =>
  have hc' := hc
  rw [Bool.and_eq_true] at hc'
  obtain ⟨hn, _, _⟩ := tmpl_of hc'.1
  have e1 := impl_isOp_ok (n := n) (f := op) (by omega) ho
  have e1 : impl_isOp (op.1, op.2) n = _ := e1
  simp only [Option.bind_some, Bool.not_true, Bool.false_eq_true, if_false, e1, Bool.true_and]
  cases hb : opB n op with
  | false => simp
  | true =>
   simp only [Bool.not_true, Bool.false_eq_true, if_false, if_true]
   by_cases h0 : op.1 > 0
   ·rw [if_pos (by simpa using h0)]
    have hp := (op_parts hb).1
    have hR := rels_of (k := op.1.toNat) hc'.1 (by omega)
    have e2 := keepsAll_ok (op := op) hR (by omega) (op_tab hn hb)
    rw [Int.toNat_of_nonneg (show 0 ≤ n by omega)] at e2
    have e2 : impl_keepsAll n rels (op.1, op.2) = _ := e2
    rw [e2, decide_eq_true h0]; rfl
   ·rw [if_neg (by simpa using h0), decide_eq_false h0]; rfl
end
end T
open Go Go.Va
namespace T
section
variable {n k : Nat} {t f : List Int} {inner : List (List Int)}
theorem opB_of (hn : 1 ≤ n ∧ n ≤ 4) (hk : k ≤ 3) (h : tabB n k t) : opB (n : Int) ((k : Int), t) = true := by
 unfold opB belowB
 simp only [Bool.and_eq_true, decide_eq_true_eq, List.all_eq_true]
 refine ⟨⟨by omega, ?_⟩, fun x hx => h.2 x hx⟩
 rw [h.1, Int.toNat_natCast, Int.natCast_pow]
end
theorem rOp_ok {a b : Opn} (h : a.2.length ≤ 1048576) : laws_rOp a b = some (decide (a = b)) := by
 obtain ⟨a1, a2⟩ := a
 obtain ⟨b1, b2⟩ := b
 dsimp only at h
 unfold laws_rOp
 dsimp only
 by_cases e : a1 = b1
 ·subst e
  rw [if_pos (by simp), rInts_ok h]
  by_cases e' : a2 = b2
  ·subst e'; simp
  ·simp [e']
 ·rw [if_neg (by simpa using e)]
  simp [e]
theorem rOps_same {l : List Opn} (hl : l.length ≤ 1000) (h : ∀ f ∈ l, f.2.length ≤ 1000) : laws_rOps l l = some true := by
 unfold laws_rOps
 rw [if_neg (by simp)]
 have := forS l.length (fun f (_ : Unit) i => laws_rOps_L4 f (l, l, i)) (fun _ => ()) (r := some (.inl ())) (fun f i hi => ?_) (fun f => ?_) (n := fuel) (by unfold fuel; omega)
 ·have this : laws_rOps_L4 fuel (l, l, 0) = _ := this
  rw [this]; rfl
 ·have e := rOp_ok (a := l[i]) (b := l[i]) (by have := h _ (List.getElem_mem hi); omega)
  simp only [laws_rOps_L4, inb_nat, hi, gd_nat hi, e, Option.bind_some, if_true, decide_true, Bool.not_true, Bool.false_eq_true, if_false, w64_succ (show i < 4611686018427387904 by omega)]
  rw [if_pos (by simp; omega)]
 ·simp only [laws_rOps_L4]
  rw [if_neg (by simp)]
end T
open Go Go.Va
namespace T
theorem ite_map {c : Prop} [Decidable c] {α β : Type} {g : α → β} {a b : Option β} {a' b' : Option α} (h1 : a = a'.map g) (h2 : b = b'.map g) : (if c then a else b) = (if c then a' else b').map g := by
 by_cases h : c
 ·rw [if_pos h, if_pos h, h1]
 ·rw [if_neg h, if_neg h, h2]
section
variable {vars : List Int}
variable {V n : Nat}
end
end T
open Go Go.Va
namespace T
abbrev GS := Int × (Opn × Bool)
abbrev GSin := Int × List Int × ((Bool × Int) × GS) × PS × List Int × Unit
abbrev GSout := List Int × (Unit × GS) × PS × List Int × Bool
def gsCb (good : List Int → Option Bool) (t : List Int) (s : GS) : Option (GS × Bool) := (good t).bind fun r1 => if r1 then (impl_clone t).bind fun r2 => some ((s.1, ((s.1, r2), true)), !true) else some ((s.1, ((s.2.1.1, s.2.1.2), s.2.2)), !s.2.2)
theorem fold_gs {good : List Int → Option Bool} {p : List Int → Bool} {k : Nat} : ∀ (l : List (List Int)), (∀ t ∈ l, t.length ≤ 1000 ∧ good t = some (p t)) → ∃ b, foldU (gsCb good) l ((k : Int), ((0, []), false)) = some (((k : Int), firstR k (l.filter p)), b)
 | [], _ => ⟨true, rfl⟩
 | t :: l, h => by
  obtain ⟨h1, h2⟩ := h t (List.mem_cons_self ..)
  obtain ⟨b, ih⟩ := fold_gs (k := k) l fun t ht => h t (List.mem_cons_of_mem _ ht)
  simp only [foldU, gsCb, h2, Option.bind_some, List.filter_cons]
  cases p t with
  | false => exact ⟨b, ih⟩
  | true =>
   have hcl : impl_clone t = some t := by
    unfold impl_clone
    rw [if_pos (by simp; unfold lim; omega)]; simp
   simp only [hcl, Option.bind_some, if_true]
   exact ⟨false, rfl⟩
end T
open Go Go.Va
namespace T
section
variable {n : Nat} {t : List Int}
def bopT (n : Nat) (t : List Int) (x y : Nat) : Nat := (t.getD (x * n + y) 0).toNat
def idemB (n : Nat) (t : List Int) : Bool := (List.range n).all fun x => bopT n t x x == x
structure TabOk (n : Nat) (t : List Int) : Prop where
 hn : 1 ≤ n ∧ n ≤ 4
 len : t.length = n * n
 val : ∀ x ∈ t, 0 ≤ x ∧ x < (n : Int)
theorem ix2 (hn : n ≤ 4) {x y : Nat} (hx : x < n) (hy : y < n) : w64 (w64 ((x : Int) * (n : Int)) + (y : Int)) = ((x * n + y : Nat) : Int) ∧ x * n + y < n * n := by
 have h1 : x * n + y < n * n := by
  calc x * n + y < x * n + n := by omega
   _ = (x + 1) * n := by rw [Nat.succ_mul]
   _ ≤ n * n := Nat.mul_le_mul_right _ hx
 have h2 : n * n ≤ 4 * 4 := Nat.mul_le_mul hn hn
 have e : (x : Int) * (n : Int) = ((x * n : Nat) : Int) := by simp
 have a1 : w64 ((x * n : Nat) : Int) = ((x * n : Nat) : Int) := w64_id (by omega) (by omega)
 rw [e, a1, w64_id (by omega) (by omega)]
 exact ⟨by omega, h1⟩
theorem TabOk.at (h : TabOk n t) {x y : Nat} (hx : x < n) (hy : y < n) : w64 (w64 ((x : Int) * (n : Int)) + (y : Int)) = ((x * n + y : Nat) : Int) ∧ inb ((x * n + y : Nat) : Int) t ∧ gd t ((x * n + y : Nat) : Int) 0 = ((bopT n t x y : Nat) : Int) ∧ bopT n t x y < n := by
 obtain ⟨h1, h2⟩ := ix2 h.hn.2 hx hy
 have hl : x * n + y < t.length := by rw [h.len]; exact h2
 have hv := h.val _ (List.getElem_mem hl)
 refine ⟨h1, by rw [inb_nat]; exact hl, ?_, ?_⟩
 ·rw [gd_nat hl]; unfold bopT; rw [getD_of hl]; omega
 ·unfold bopT; rw [getD_of hl]; omega
end
end T
open Go Go.Va
namespace T
def frN (given : List Int) : Nat → Nat → Nat
 | _, 0 => 0
 | q, m + 1 => (if given.getD q 0 < 0 then 1 else 0) + frN given (q + 1) m
section
variable {n : Nat} {given : List Int}
theorem ext_free {ok : List Int → Bool} : ∀ (m : Nat) (pre : List Int), (extL n given ok m pre).length ≤ n ^ frN given pre.length m
 | 0, pre => by simp [extL, frN]
 | m + 1, pre => by
  simp only [extL, frN]
  have hx : ∀ x : Nat, (if mstB given pre.length x && ok (pre ++ [(x : Int)]) then extL n given ok m (pre ++ [(x : Int)]) else []).length ≤ n ^ frN given (pre.length + 1) m := fun x => by
   split
   ·have := ext_free (ok := ok) m (pre ++ [(x : Int)])
    rw [List.length_append, List.length_singleton] at this
    exact this
   ·simp
  by_cases h : given.getD pre.length 0 < 0
  ·rw [if_pos h]
   have key : ∀ (l : List Nat), (l.flatMap fun x => if mstB given pre.length x && ok (pre ++ [(x : Int)]) then extL n given ok m (pre ++ [(x : Int)]) else []).length ≤ l.length * n ^ frN given (pre.length + 1) m := by
    intro l
    induction l with
    | nil => simp
    | cons x l ih =>
     rw [List.flatMap_cons, List.length_append, List.length_cons, Nat.succ_mul]
     have := hx x
     omega
   have := key (List.range n)
   rw [List.length_range] at this
   rw [Nat.add_comm, Nat.pow_succ, Nat.mul_comm]
   exact this
  ·rw [if_neg h, Nat.zero_add]
   have key : ∀ (l : List Nat), l.Nodup → (l.flatMap fun x => if mstB given pre.length x && ok (pre ++ [(x : Int)]) then extL n given ok m (pre ++ [(x : Int)]) else []).length ≤ if (given.getD pre.length 0).toNat ∈ l then n ^ frN given (pre.length + 1) m else 0 := by
    intro l
    induction l with
    | nil => intro _; simp
    | cons x l ih =>
     intro hn
     obtain ⟨h1, h2⟩ := List.nodup_cons.1 hn
     have ih := ih h2
     rw [List.flatMap_cons, List.length_append]
     by_cases e : (given.getD pre.length 0).toNat = x
     ·rw [e, if_neg h1] at ih
      rw [e, if_pos (List.mem_cons_self ..)]
      have := hx x
      omega
     ·have hm : mstB given pre.length x = false := by
       unfold mstB
       have a1 : given.getD pre.length 0 ≥ 0 := by omega
       have a2 : (given.getD pre.length 0 != (x : Int)) = true := by
        rw [bne_iff_ne]; intro e'; exact e (by rw [e']; rfl)
       rw [decide_eq_true a1, a2]; rfl
      rw [hm, Bool.false_and, if_neg (by simp), List.length_nil, Nat.zero_add]
      refine Nat.le_trans ih ?_
      split
      ·rename_i hm'
       rw [if_pos (List.mem_cons_of_mem _ hm')]; exact Nat.le_refl _
      ·exact Nat.zero_le _
   have := key (List.range n) List.nodup_range
   refine Nat.le_trans this ?_
   split
   ·exact Nat.le_refl _
   ·exact Nat.zero_le _
end
theorem idem_tab : ∀ n : Fin 4, (1 ≤ n.val → n.val ^ frN (idemT n.val 2) 0 (n.val ^ 2) ≤ 729) ∧ ∀ x : Fin 4, x.val < n.val → (idemT n.val 2).getD (x.val * n.val + x.val) 0 = (x.val : Int) := by decide +kernel
section
variable {n : Nat} {rels : List RelT} {t : List Int}
theorem idem_all (hR : RelsOk n 2 rels) (h3 : n ≤ 3) : (allT n 2 rels (idemT n 2)).length ≤ 729 ∧ ∀ t ∈ allT n 2 rels (idemT n 2), TabOk n t ∧ idemB n t = true := by
 have hn := hR.hn
 obtain ⟨b1, b2⟩ := idem_tab ⟨n, by omega⟩
 refine ⟨Nat.le_trans (ext_free _ _) (b1 hn.1), fun t ht => ?_⟩
 obtain ⟨h1, h2, h4, _⟩ := (allT_iff hR).1 ht
 have hl : t.length = n * n := by rw [h1, Nat.pow_succ, Nat.pow_one]
 have hT : TabOk n t := ⟨hn, hl, h2⟩
 refine ⟨hT, ?_⟩
 unfold idemB
 rw [List.all_eq_true]
 intro x hx
 have hx := List.mem_range.1 hx
 obtain ⟨a1, a2⟩ := ix2 hn.2 hx hx
 have hq : x * n + x < n ^ 2 := by rw [Nat.pow_succ, Nat.pow_one]; exact a2
 have := h4 _ hq
 unfold mstB at this
 rw [b2 ⟨x, by omega⟩ hx] at this
 unfold bopT
 simp only [Bool.not_eq_true', Bool.and_eq_false_iff, decide_eq_false_iff_not, bne_eq_false_iff_eq] at this
 rw [beq_iff_eq]
 rcases this with h | h
 ·omega
 ·omega
end
section
variable {n : Int} {rels : List RelT}
end
end T
set_option linter.unusedVariables false
open Go Go.Va
namespace T
def spec_DrawIsTemplate (code : List Int) : Option (Int × (List (Int × (List (List Int))))) :=
 (spec_l1Cur_template (code, (0, 0))).bind fun r1 =>
  some (r1.2.1, r1.2.2)
def spec_DrawCoreTemplate (code : List Int) : Option (Int × (List (Int × (List (List Int))))) :=
 (spec_DrawIsTemplate code).bind fun r1 =>
  some (r1.1, r1.2)
def impl_IsCore_c1_p (table : List Int) (t1 : Bool × Int) : Option (Bool) :=
 if t1.1 = true then
  (impl_imagesOf table t1.2).bind fun r1 =>
   if t1.1 = true then
    some (decide ((r1.length : Int) < t1.2))
   else none
 else none
def impl_firstPoly_c1_impl_IsCore_c1 (table : List Int) (t1 : Bool × Int) (t2 : Int) (t3 : Int × (List Int)) (t4 : Bool) : Option (Int × (Int × (List Int)) × Bool × Bool) :=
 (impl_IsCore_c1_p table t1).bind fun r1 =>
  if r1 then
   (impl_clone table).bind fun r2 =>
    some (t2, (t2, r2), true, !true)
  else
   some (t2, (t3.1, t3.2), t4, !t4)
def impl_polySearch_each_c1_impl_firstPoly_c1_impl_IsCore_c1_L4 (rec : (Int × (List Int) × ((Bool × Int) × (Int × ((Int × (List Int)) × Bool))) × (Bool × Int × Int × (List (List ((List Int) × (List ByteArray))))) × (List Int) × Unit) → Option ((List Int) × (Unit × (Int × ((Int × (List Int)) × Bool))) × (Bool × Int × Int × (List (List ((List Int) × (List ByteArray))))) × (List Int) × Bool)) : Nat → (Int × (List Int) × ((Bool × Int) × (Int × ((Int × (List Int)) × Bool))) × (Bool × Int × Int × (List (List ((List Int) × (List ByteArray))))) × (List Int) × Unit × Int) → Option (((List Int) × ((Bool × Int) × (Int × ((Int × (List Int)) × Bool))) × (Bool × Int × Int × (List (List ((List Int) × (List ByteArray))))) × (List Int) × Unit) ⊕ ((List Int) × ((Bool × Int) × (Int × ((Int × (List Int)) × Bool))) × (Bool × Int × Int × (List (List ((List Int) × (List ByteArray))))) × (List Int) × Unit × Bool))
 | 0, _ => none
 | n + 1, (at_, t1, t2, t3, t4, t5, x) =>
  if t3.1 = true then
   if decide (x < t3.2.1) then
    if inb at_ t4 then
     if decide ((gd t4 at_ 0) ≥ 0) then
      if inb at_ t4 then
       if (gd t4 at_ 0) != x then
        impl_polySearch_each_c1_impl_firstPoly_c1_impl_IsCore_c1_L4 rec n (at_, t1, (t2.1, (t2.2.1, ((t2.2.2.1.1, t2.2.2.1.2), t2.2.2.2))), t3, t4, (), w64 (x + 1))
       else
        if inb at_ t1 then
         (impl_polySearch_fits_p t3 (stt t1 at_ x) at_).bind fun r2 =>
          if r2 then
           (rec (w64 (at_ + 1), stt t1 at_ x, (t2.1, (t2.2.1, ((t2.2.2.1.1, t2.2.2.1.2), t2.2.2.2))), t3, t4, ())).bind fun r3 =>
            if !r3.2.2.2.2 then
             some (.inr (r3.1, (t2.1, (r3.2.1.2.1, ((r3.2.1.2.2.1.1, r3.2.1.2.2.1.2), r3.2.1.2.2.2))), r3.2.2.1, r3.2.2.2.1, (), false))
            else
             impl_polySearch_each_c1_impl_firstPoly_c1_impl_IsCore_c1_L4 rec n (at_, r3.1, (t2.1, (r3.2.1.2.1, ((r3.2.1.2.2.1.1, r3.2.1.2.2.1.2), r3.2.1.2.2.2))), r3.2.2.1, r3.2.2.2.1, (), w64 (x + 1))
          else
           impl_polySearch_each_c1_impl_firstPoly_c1_impl_IsCore_c1_L4 rec n (at_, stt t1 at_ x, (t2.1, (t2.2.1, ((t2.2.2.1.1, t2.2.2.1.2), t2.2.2.2))), t3, t4, (), w64 (x + 1))
        else none
      else none
     else
      if inb at_ t1 then
       (impl_polySearch_fits_p t3 (stt t1 at_ x) at_).bind fun r4 =>
        if r4 then
         (rec (w64 (at_ + 1), stt t1 at_ x, (t2.1, (t2.2.1, ((t2.2.2.1.1, t2.2.2.1.2), t2.2.2.2))), t3, t4, ())).bind fun r5 =>
          if !r5.2.2.2.2 then
           some (.inr (r5.1, (t2.1, (r5.2.1.2.1, ((r5.2.1.2.2.1.1, r5.2.1.2.2.1.2), r5.2.1.2.2.2))), r5.2.2.1, r5.2.2.2.1, (), false))
          else
           impl_polySearch_each_c1_impl_firstPoly_c1_impl_IsCore_c1_L4 rec n (at_, r5.1, (t2.1, (r5.2.1.2.1, ((r5.2.1.2.2.1.1, r5.2.1.2.2.1.2), r5.2.1.2.2.2))), r5.2.2.1, r5.2.2.2.1, (), w64 (x + 1))
        else
         impl_polySearch_each_c1_impl_firstPoly_c1_impl_IsCore_c1_L4 rec n (at_, stt t1 at_ x, (t2.1, (t2.2.1, ((t2.2.2.1.1, t2.2.2.1.2), t2.2.2.2))), t3, t4, (), w64 (x + 1))
      else none
    else none
   else
    some (.inl (t1, (t2.1, (t2.2.1, ((t2.2.2.1.1, t2.2.2.1.2), t2.2.2.2))), t3, t4, ()))
  else none
def impl_polySearch_each_c1_impl_firstPoly_c1_impl_IsCore_c1_body (rec : (Int × (List Int) × ((Bool × Int) × (Int × ((Int × (List Int)) × Bool))) × (Bool × Int × Int × (List (List ((List Int) × (List ByteArray))))) × (List Int) × Unit) → Option ((List Int) × (Unit × (Int × ((Int × (List Int)) × Bool))) × (Bool × Int × Int × (List (List ((List Int) × (List ByteArray))))) × (List Int) × Bool)) (at_ : Int) (t1 : List Int) (t2 : (Bool × Int) × (Int × ((Int × (List Int)) × Bool))) (t3 : Bool × Int × Int × (List (List ((List Int) × (List ByteArray))))) (t4 : List Int) (t5 : Unit) : Option ((List Int) × (Unit × (Int × ((Int × (List Int)) × Bool))) × (Bool × Int × Int × (List (List ((List Int) × (List ByteArray))))) × (List Int) × Bool) :=
 if at_ == (t1.length : Int) then
  (impl_firstPoly_c1_impl_IsCore_c1 t1 t2.1 t2.2.1 (t2.2.2.1.1, t2.2.2.1.2) t2.2.2.2).bind fun r1 =>
   some (t1, ((), (r1.1, ((r1.2.1.1, r1.2.1.2), r1.2.2.1))), t3, t4, r1.2.2.2)
 else
  (impl_polySearch_each_c1_impl_firstPoly_c1_impl_IsCore_c1_L4 rec fuel (at_, t1, (t2.1, (t2.2.1, ((t2.2.2.1.1, t2.2.2.1.2), t2.2.2.2))), t3, t4, (), 0)).bind fun s2 =>
   match s2 with
   | .inl s3 =>
    some (s3.1, ((), (s3.2.1.2.1, ((s3.2.1.2.2.1.1, s3.2.1.2.2.1.2), s3.2.1.2.2.2))), s3.2.2.1, s3.2.2.2.1, true)
   | .inr s4 =>
    some (s4.1, ((), (s4.2.1.2.1, ((s4.2.1.2.2.1.1, s4.2.1.2.2.1.2), s4.2.1.2.2.2))), s4.2.2.1, s4.2.2.2.1, s4.2.2.2.2.2)
def impl_polySearch_each_c1_impl_firstPoly_c1_impl_IsCore_c1 : Nat → (Int × (List Int) × ((Bool × Int) × (Int × ((Int × (List Int)) × Bool))) × (Bool × Int × Int × (List (List ((List Int) × (List ByteArray))))) × (List Int) × Unit) → Option ((List Int) × (Unit × (Int × ((Int × (List Int)) × Bool))) × (Bool × Int × Int × (List (List ((List Int) × (List ByteArray))))) × (List Int) × Bool)
 | 0, _ => none
 | d + 1, x => impl_polySearch_each_c1_impl_firstPoly_c1_impl_IsCore_c1_body (impl_polySearch_each_c1_impl_firstPoly_c1_impl_IsCore_c1 d) x.1 x.2.1 x.2.2.1 x.2.2.2.1 x.2.2.2.2.1 x.2.2.2.2.2
def impl_polySearch_each_impl_firstPoly_c1_impl_IsCore_c1 (s : Bool × Int × Int × (List (List ((List Int) × (List ByteArray))))) (given : List Int) (found : (Bool × Int) × (Int × ((Int × (List Int)) × Bool))) : Option ((Unit × (Int × ((Int × (List Int)) × Bool)))) :=
 if 0 ≤ (given.length : Int) ∧ (given.length : Int) ≤ (given.length : Int) ∧ (given.length : Int) ≤ lim then
  (impl_polySearch_each_c1_impl_firstPoly_c1_impl_IsCore_c1 fuel (0, List.replicate (Int.toNat (given.length : Int)) (0 : Int), (found.1, (found.2.1, ((found.2.2.1.1, found.2.2.1.2), found.2.2.2))), s, given, ())).bind fun r1 =>
   some ((), (r1.2.1.2.1, ((r1.2.1.2.2.1.1, r1.2.1.2.2.1.2), r1.2.1.2.2.2)))
 else none
def impl_firstPoly_impl_IsCore_c1 (n_ : Int) (rels : List (Int × (List (List Int)))) (k : Int) (given : List Int) (good : Bool × Int) : Option ((Int × (List Int)) × Bool) :=
 (impl_newPolySearch n_ rels k).bind fun r1 =>
  (impl_polySearch_each_impl_firstPoly_c1_impl_IsCore_c1 r1 given (good, (k, ((0, []), false)))).bind fun r2 =>
   some ((r2.2.2.1.1, r2.2.2.1.2), r2.2.2.2)
def impl_IsCore (n_ : Int) (rels : List (Int × (List (List Int)))) : Option (Bool × Bool) :=
 (impl_canAsk n_ rels 1).bind fun r1 =>
  if !r1 then
   some (false, false)
  else
   (impl_freeTable n_).bind fun r2 =>
    (impl_firstPoly_impl_IsCore_c1 n_ rels 1 r2 (true, n_)).bind fun r3 =>
     some (!r3.2, true)
def spec_IsCore (n_ : Int) (rels : List (Int × (List (List Int)))) : Option (Bool × Bool) :=
 (spec_l14Takes n_ rels 1).bind fun r1 =>
  if !r1 then
   some (false, false)
  else
   (spec_l14Core n_ rels).bind fun r2 =>
    (spec_l14Values r2).bind fun r3 =>
     some ((r3.length : Int) == n_, true)
def impl_ConstantPolymorphisms_L9 : Nat → (Int × (List (Int × (List (List Int)))) × (List Int) × Int × (List Int) × Int × Int) → Option (Int × (List (Int × (List (List Int)))) × (List Int) × Int × (List Int))
 | 0, _ => none
 | n + 1, (n_, rels, list, x, table, t24, t25) =>
  if decide (t25 < t24) then
   if inb t25 table then
    impl_ConstantPolymorphisms_L9 n (n_, rels, list, x, stt table t25 x, t24, w64 (t25 + 1))
   else none
  else
   some (n_, rels, list, x, table)
def impl_ConstantPolymorphisms_L5 : Nat → (Int × (List (Int × (List (List Int)))) × (List Int) × Int) → Option ((List Int))
 | 0, _ => none
 | n + 1, (n_, rels, list, x) =>
  if decide (x < n_) then
   if 0 ≤ n_ ∧ n_ ≤ n_ ∧ n_ ≤ lim then
    (impl_ConstantPolymorphisms_L9 fuel (n_, rels, list, x, List.replicate (Int.toNat n_) (0 : Int), ((List.replicate (Int.toNat n_) (0 : Int)).length : Int), 0)).bind fun s2 =>
     (impl_keepsAll s2.1 s2.2.1 (1, s2.2.2.2.2)).bind fun r3 =>
      if r3 then
       if s2.2.2.1.length + [s2.2.2.2.1].length ≤ lim then
        impl_ConstantPolymorphisms_L5 n (s2.1, s2.2.1, s2.2.2.1 ++ [s2.2.2.2.1], w64 (s2.2.2.2.1 + 1))
       else none
      else
       impl_ConstantPolymorphisms_L5 n (s2.1, s2.2.1, s2.2.2.1, w64 (s2.2.2.2.1 + 1))
   else none
  else
   some list
def impl_ConstantPolymorphisms (n_ : Int) (rels : List (Int × (List (List Int)))) : Option ((List Int) × Bool) :=
 (impl_canAsk n_ rels 1).bind fun r1 =>
  if !r1 then
   some ([], false)
  else
   (impl_ConstantPolymorphisms_L5 fuel (n_, rels, [], 0)).bind fun s2 =>
    some (s2, true)
def spec_ConstantPolymorphisms_L13 : Nat → (Int × (List (Int × (List (List Int)))) × (List Int) × Int × Bool × Int × (List Int) × Int) → Option (Int × (List (Int × (List (List Int)))) × (List Int) × Int × Bool × Int × (List Int))
 | 0, _ => none
 | n + 1, (t0, t1, t6, t7, t8, t9, t10, t11) =>
  if inb t9 t1 then
   if decide (t11 < ((gd t1 t9 (0, [])).1)) then
    if t10.length + [t7].length ≤ lim then
     spec_ConstantPolymorphisms_L13 n (t0, t1, t6, t7, t8, t9, t10 ++ [t7], w64 (t11 + 1))
    else none
   else
    some (t0, t1, t6, t7, t8, t9, t10)
  else none
def spec_ConstantPolymorphisms_L9 : Nat → (Int × (List (Int × (List (List Int)))) × (List Int) × Int × Bool × Int) → Option (Int × (List (Int × (List (List Int)))) × (List Int) × Int × Bool)
 | 0, _ => none
 | n + 1, (t0, t1, t6, t7, t8, t9) =>
  if decide (t9 < (t1.length : Int)) then
   (spec_ConstantPolymorphisms_L13 fuel (t0, t1, t6, t7, t8, t9, [], 0)).bind fun s2 =>
    if s2.2.2.2.2.1 then
     if inb s2.2.2.2.2.2.1 s2.2.1 then
      if (((gd s2.2.1 s2.2.2.2.2.2.1 (0, [])).2).length : Int) == 0 then
       spec_ConstantPolymorphisms_L9 n (s2.1, s2.2.1, s2.2.2.1, s2.2.2.2.1, true, w64 (s2.2.2.2.2.2.1 + 1))
      else
       if inb s2.2.2.2.2.2.1 s2.2.1 then
        (spec_l13Has (gd s2.2.1 s2.2.2.2.2.2.1 (0, [])) s2.2.2.2.2.2.2).bind fun r3 =>
         spec_ConstantPolymorphisms_L9 n (s2.1, s2.2.1, s2.2.2.1, s2.2.2.2.1, r3, w64 (s2.2.2.2.2.2.1 + 1))
       else none
     else none
    else
     spec_ConstantPolymorphisms_L9 n (s2.1, s2.2.1, s2.2.2.1, s2.2.2.2.1, false, w64 (s2.2.2.2.2.2.1 + 1))
  else
   some (t0, t1, t6, t7, t8)
def spec_ConstantPolymorphisms_L5 : Nat → (Int × (List (Int × (List (List Int)))) × (List Int) × Int) → Option ((List Int))
 | 0, _ => none
 | n + 1, (t0, t1, t6, t7) =>
  if decide (t7 < t0) then
   (spec_ConstantPolymorphisms_L9 fuel (t0, t1, t6, t7, true, 0)).bind fun s2 =>
    if s2.2.2.2.2 then
     if s2.2.2.1.length + [s2.2.2.2.1].length ≤ lim then
      spec_ConstantPolymorphisms_L5 n (s2.1, s2.2.1, s2.2.2.1 ++ [s2.2.2.2.1], w64 (s2.2.2.2.1 + 1))
     else none
    else
     spec_ConstantPolymorphisms_L5 n (s2.1, s2.2.1, s2.2.2.1, w64 (s2.2.2.2.1 + 1))
  else
   some t6
def spec_ConstantPolymorphisms (t0 : Int) (t1 : List (Int × (List (List Int)))) : Option ((List Int) × Bool) :=
 (spec_l14Takes t0 t1 1).bind fun r1 =>
  if !r1 then
   some ([], false)
  else
   (spec_ConstantPolymorphisms_L5 fuel (t0, t1, [], 0)).bind fun s2 =>
    some (s2, true)
def laws_FnCores_L9 : Nat → (Int × (List (Int × (List (List Int)))) × Int × (List (Int × (List (List Int)))) × Bool × (List (Int × (List (List Int)))) × Int) → Option ((Int × (List (Int × (List (List Int)))) × Int × (List (Int × (List (List Int)))) × Bool) ⊕ (Bool))
 | 0, _ => none
 | n + 1, (t3, t4, t5, t6, t7, t9, t11) =>
  if decide (t11 < (t6.length : Int)) then
   if inb t11 t6 then
    if inb t11 t9 then
     if ((gd t6 t11 (0, [])).1) != ((gd t9 t11 (0, [])).1) then
      some (.inr false)
     else
      if inb t11 t6 then
       if inb t11 t9 then
        (laws_rTable ((gd t6 t11 (0, [])).2) ((gd t9 t11 (0, [])).2)).bind fun r5 =>
         if !r5 then
          some (.inr false)
         else
          laws_FnCores_L9 n (t3, t4, t5, t6, t7, t9, w64 (t11 + 1))
       else none
      else none
    else none
   else none
  else
   some (.inl (t3, t4, t5, t6, t7))
def laws_FnCores_L43 : Nat → (Int × (List (Int × (List Int))) × Int × Int) → Option ((Int × (List (Int × (List Int))) × Int) ⊕ (Bool))
 | 0, _ => none
 | n + 1, (t3, t28, t32, t33) =>
  if decide (t33 < t3) then
   if inb t32 t28 then
    if inb (w64 ((w64 (t33 * t3)) + t33)) ((gd t28 t32 (0, [])).2) then
     if (gd ((gd t28 t32 (0, [])).2) (w64 ((w64 (t33 * t3)) + t33)) 0) != t33 then
      some (.inr false)
     else
      laws_FnCores_L43 n (t3, t28, t32, w64 (t33 + 1))
    else none
   else none
  else
   some (.inl (t3, t28, t32))
def laws_FnCores_L38 : Nat → (Int × (List (Int × (List Int))) × Int) → Option ((Unit) ⊕ (Bool))
 | 0, _ => none
 | n + 1, (t3, t28, t32) =>
  if decide (t32 < (t28.length : Int)) then
   if inb t32 t28 then
    if ((gd t28 t32 (0, [])).1) != 2 then
     some (.inr false)
    else
     (laws_FnCores_L43 fuel (t3, t28, t32, 0)).bind fun s22 =>
      match s22 with
      | .inl s23 =>
       laws_FnCores_L38 n (s23.1, s23.2.1, w64 (s23.2.2 + 1))
      | .inr s24 =>
       some (.inr s24)
   else none
  else
   some (.inl ())
def laws_FnCores (t0 : List Int) : Option (Bool) :=
 (laws_rBig t0).bind fun r1 =>
  if r1 then
   some true
  else
   (spec_DrawCoreTemplate t0).bind fun r2 =>
    (impl_CoreTemplate r2.1 r2.2).bind fun r3 =>
     (spec_CoreTemplate r2.1 r2.2).bind fun r4 =>
      if r3.1 != r4.1 then
       some false
      else
       if r3.2.2 != r4.2.2 then
        some false
       else
        if (r3.2.1.length : Int) != (r4.2.1.length : Int) then
         some false
        else
         (laws_FnCores_L9 fuel (r2.1, r2.2, r3.1, r3.2.1, r3.2.2, r4.2.1, 0)).bind fun s5 =>
          match s5 with
          | .inl s6 =>
           (impl_IsCore s6.1 s6.2.1).bind fun r8 =>
            (spec_IsCore s6.1 s6.2.1).bind fun r9 =>
             if r8.1 != r9.1 then
              some false
             else
              if r8.2 != r9.2 then
               some false
              else
               if r8.2 != s6.2.2.2.2 then
                some false
               else
                if !s6.2.2.2.2 then
                 some true
                else
                 (impl_IsCore s6.2.2.1 s6.2.2.2.1).bind fun r10 =>
                  if !r10.2 then
                   some false
                  else
                   if !r10.1 then
                    some false
                   else
                    if r8.1 != (s6.2.2.1 == s6.1) then
                     some false
                    else
                     (impl_CoreMap s6.1 s6.2.1).bind fun r11 =>
                      (spec_CoreMap s6.1 s6.2.1).bind fun r12 =>
                       if r11.2 != r12.2 then
                        some false
                       else
                        if !r11.2 then
                         some false
                        else
                         (laws_rOp (r11.1.1, r11.1.2) (r12.1.1, r12.1.2)).bind fun r13 =>
                          if !r13 then
                           some false
                          else
                           (impl_IsPolymorphism s6.1 s6.2.1 (r11.1.1, r11.1.2)).bind fun r14 =>
                            if !r14.2 then
                             some false
                            else
                             if !r14.1 then
                              some false
                             else
                              (impl_ConstantPolymorphisms s6.1 s6.2.1).bind fun r15 =>
                               (spec_ConstantPolymorphisms s6.1 s6.2.1).bind fun r16 =>
                                if r15.2 != r16.2 then
                                 some false
                                else
                                 if !r15.2 then
                                  some false
                                 else
                                  (laws_rInts r15.1 r16.1).bind fun r17 =>
                                   if !r17 then
                                    some false
                                   else
                                    if (decide ((r15.1.length : Int) > 0)) != (s6.2.2.1 == 1) then
                                     some false
                                    else
                                     (impl_IdempotentPolymorphisms s6.1 s6.2.1 2).bind fun r18 =>
                                      (spec_IdempotentPolymorphisms s6.1 s6.2.1 2).bind fun r19 =>
                                       if r18.2 != r19.2 then
                                        some false
                                       else
                                        (laws_rOps r18.1 r19.1).bind fun r20 =>
                                         if !r20 then
                                          some false
                                         else
                                          (laws_FnCores_L38 fuel (s6.1, r18.1, 0)).bind fun s21 =>
                                           match s21 with
                                           | .inl s22 =>
                                            some true
                                           | .inr s23 =>
                                            some s23
          | .inr s7 =>
           some s7
end T
open Go Go.Va
namespace T
theorem eachIC_L {g : Bool × Int} (rec : GSin → Option GSout) (rec0 : SIn GS → Option (SOut GS)) (hrec : ∀ a t (s : GS) n q u, rec (a, t, (g, s), n, q, u) = (rec0 (a, t, s, n, q, u)).map fun y => (y.1, ((), y.2.1), y.2.2)) :
    ∀ f at_ t1 (s : GS) t3 t4 t5 x, impl_polySearch_each_c1_impl_firstPoly_c1_impl_IsCore_c1_L4 rec f (at_, t1, (g, s), t3, t4, t5, x) = (gL rec0 f (at_, t1, s, t3, t4, t5, x)).map fun y => match y with
      | .inl y => .inl (y.1, (g, y.2.1), y.2.2)
      | .inr y => .inr (y.1, (g, y.2.1), y.2.2)
  | 0, _, _, _, _, _, _, _ => rfl
  | f + 1, at_, t1, (p, ((q1, q2), r)), t3, t4, t5, x => by
    have ih := eachIC_L rec rec0 hrec f
    have key : (impl_polySearch_fits_p t3 (stt t1 at_ x) at_).bind (fun r2 =>
                    if r2 then
                      (rec (w64 (at_ + 1), stt t1 at_ x, (g, (p, ((q1, q2), r))), t3, t4, ())).bind fun r3 =>
                        if !r3.2.2.2.2 then
                          some (.inr (r3.1, (g, (r3.2.1.2.1, ((r3.2.1.2.2.1.1, r3.2.1.2.2.1.2), r3.2.1.2.2.2))), r3.2.2.1, r3.2.2.2.1, (), false))
                        else
                          impl_polySearch_each_c1_impl_firstPoly_c1_impl_IsCore_c1_L4 rec f (at_, r3.1, (g, (r3.2.1.2.1, ((r3.2.1.2.2.1.1, r3.2.1.2.2.1.2), r3.2.1.2.2.2))), r3.2.2.1, r3.2.2.2.1, (), w64 (x + 1))
                    else
                      impl_polySearch_each_c1_impl_firstPoly_c1_impl_IsCore_c1_L4 rec f (at_, stt t1 at_ x, (g, (p, ((q1, q2), r))), t3, t4, (), w64 (x + 1)))
        = ((impl_polySearch_fits_p t3 (stt t1 at_ x) at_).bind fun r2 =>
                    if r2 then
                      (rec0 (w64 (at_ + 1), stt t1 at_ x, (p, ((q1, q2), r)), t3, t4, ())).bind fun r3 =>
                        if !r3.2.2.2.2 then
                          some (.inr (r3.1, r3.2.1, r3.2.2.1, r3.2.2.2.1, (), false))
                        else
                          gL rec0 f (at_, r3.1, r3.2.1, r3.2.2.1, r3.2.2.2.1, (), w64 (x + 1))
                    else
                      gL rec0 f (at_, stt t1 at_ x, (p, ((q1, q2), r)), t3, t4, (), w64 (x + 1))).map fun y => match y with
      | .inl y => .inl (y.1, (g, y.2.1), y.2.2)
      | .inr y => .inr (y.1, (g, y.2.1), y.2.2) := by
      generalize impl_polySearch_fits_p t3 (stt t1 at_ x) at_ = o
      cases o with
      | none => rfl
      | some b =>
        rw [Option.bind_some, Option.bind_some]
        cases b with
        | false => exact ih ..
        | true =>
          rw [if_pos rfl, if_pos rfl, hrec]
          generalize rec0 (w64 (at_ + 1), stt t1 at_ x, (p, ((q1, q2), r)), t3, t4, ()) = o
          cases o with
          | none => rfl
          | some z =>
            obtain ⟨z0, ⟨z1, ⟨⟨z2, z3⟩, z4⟩⟩, z5, z6, z7⟩ := z
            rw [Option.map_some, Option.bind_some, Option.bind_some]
            dsimp only
            cases z7 with
            | false => rfl
            | true => exact ih ..
    rw [impl_polySearch_each_c1_impl_firstPoly_c1_impl_IsCore_c1_L4, gL]
    dsimp only
    rw [key]
    exact ite_map (ite_map (ite_map (ite_map (ite_map (ite_map (ih ..) (ite_map rfl rfl)) rfl) (ite_map rfl rfl)) rfl) rfl) rfl
theorem eachIC {g : Bool × Int} : ∀ d a t (s : GS) n q u, impl_polySearch_each_c1_impl_firstPoly_c1_impl_IsCore_c1 d (a, t, (g, s), n, q, u) = (gF (gsCb fun t => impl_IsCore_c1_p t g) d (a, t, s, n, q, u)).map fun y => (y.1, ((), y.2.1), y.2.2)
 | 0, _, _, _, _, _, _ => rfl
 | d + 1, a, t, (p, ((q1, q2), r)), n, q, u => by
  have ih := eachIC d (g := g)
  rw [impl_polySearch_each_c1_impl_firstPoly_c1_impl_IsCore_c1, gF]
  unfold gBody impl_polySearch_each_c1_impl_firstPoly_c1_impl_IsCore_c1_body
  dsimp only
  split
  ·unfold gsCb impl_firstPoly_c1_impl_IsCore_c1
   dsimp only
   cases impl_IsCore_c1_p t g with
   | none => rfl
   | some b =>
    rw [Option.bind_some, Option.bind_some]
    cases b with
    | false => rfl
    | true => cases impl_clone t <;> rfl
  ·have := eachIC_L _ (gF (gsCb fun t => impl_IsCore_c1_p t g) d) ih fuel a t (p, ((q1, q2), r)) n q () 0
   rw [this]
   cases gL (gF (gsCb fun t => impl_IsCore_c1_p t g) d) fuel (a, t, (p, ((q1, q2), r)), n, q, (), 0) with
   | none => rfl
   | some z => cases z <;> rfl
theorem impl_icp_ok {n : Nat} {t : List Int} (hn : 1 ≤ n ∧ n ≤ 4) (hl : t.length ≤ 1000) (hv : ∀ x ∈ t, 0 ≤ x ∧ x < (n : Int)) : impl_IsCore_c1_p t (true, (n : Int)) = some (decide ((imgL t).length < n)) := by
 unfold impl_IsCore_c1_p
 simp only [impl_imagesOf_ok hn hl hv, Option.bind_some, if_true]
 congr 1
 exact decide_eq_decide.2 (by omega)
section
variable {n : Nat} {rels : List RelT}
theorem impl_firstIC (h : RelsOk n 1 rels) : impl_firstPoly_impl_IsCore_c1 (n : Int) rels ((1 : Nat) : Int) (List.replicate (n ^ 1) (-1)) (true, (n : Int)) = some (firstR 1 ((allT n 1 rels (List.replicate (n ^ 1) (-1))).filter fun t => decide ((imgL t).length < n))) := by
 have hp := pow_le3 (n := n) (k := 1) h.hn.2 (by omega)
 have hg : (List.replicate (n ^ 1) (-1 : Int)).length = n ^ 1 := by simp
 obtain ⟨b, h1⟩ := fold_gs (good := fun t => impl_IsCore_c1_p t (true, (n : Int))) (p := fun t => decide ((imgL t).length < n)) (k := 1) (allT n 1 rels (List.replicate (n ^ 1) (-1))) (fun t ht => by
  obtain ⟨h4, h5⟩ := allT_mem ht
  have h6 := h.hn
  have h7 : t.length ≤ 1000 := by rw [h4, Nat.pow_one]; omega
  exact ⟨h7, impl_icp_ok h6 h7 h5⟩)
 obtain ⟨r, h4, h5⟩ := each_ok h hg (gsCb fun t => impl_IsCore_c1_p t (true, (n : Int))) h1
 have h6 := eachIC (g := (true, (n : Int))) fuel 0 (List.replicate (Int.toNat ((List.replicate (n ^ 1) (-1 : Int)).length : Int)) (0 : Int)) (((1 : Nat) : Int), ((0, []), false)) (true, (n : Int), ((1 : Nat) : Int), demD n 1 rels) (List.replicate (n ^ 1) (-1)) ()
 rw [h4] at h6
 unfold impl_firstPoly_impl_IsCore_c1 impl_polySearch_each_impl_firstPoly_c1_impl_IsCore_c1
 rw [impl_newPolySearch_ok h]
 simp only [Option.bind_some, h6, Option.map_some]
 rw [if_pos (by rw [hg]; unfold lim; omega)]
 simp only [Option.bind_some, h5]
def coreB (n : Nat) (rels : List RelT) : Bool := (allT n 1 rels (List.replicate (n ^ 1) (-1))).all fun t => !decide ((imgL t).length < n)
theorem firstR_none {k : Nat} {l : List (List Int)} {p : List Int → Bool} : (!(firstR k (l.filter p)).2) = l.all fun t => !p t := by
 induction l with
 | nil => rfl
 | cons t l ih =>
  rw [List.filter_cons, List.all_cons]
  cases p t with
  | false => simpa using ih
  | true => rfl
end
section
variable {n : Int} {rels : List RelT}
theorem impl_IsCore_ok (h : relsS rels) : impl_IsCore n rels = some (if tmplB n rels then (coreB n.toNat rels, true) else (false, false)) := by
 unfold impl_IsCore
 rw [impl_canAsk_ok h, CoreMap_in h]
 cases hc : tmplB n rels with
 | false => simp
 | true =>
  obtain ⟨hn, _⟩ := tmpl_of hc
  have hR := rels_of (k := 1) hc (by omega)
  obtain ⟨m, rfl⟩ : ∃ m : Nat, n = m := ⟨n.toNat, by omega⟩
  rw [Int.toNat_natCast] at hR ⊢
  have q1 := impl_firstIC hR
  rw [Nat.pow_one] at q1
  have q1 : impl_firstPoly_impl_IsCore_c1 (m : Int) rels 1 (List.replicate m (-1)) (true, (m : Int)) = _ := q1
  simp only [Option.bind_some, Bool.not_true, Bool.false_eq_true, if_false, freeI_ok (show m ≤ 1000 by omega), q1, if_true, firstR_none]
  unfold coreB
  rw [Nat.pow_one]
theorem coreF_min : ∀ (l : List (List Int)) (b : List Int), (imgL (coreF b l)).length ≤ (imgL b).length ∧ ∀ t ∈ l, (imgL (coreF b l)).length ≤ (imgL t).length
 | [], b => ⟨Nat.le_refl _, by simp⟩
 | t :: l, b => by
  unfold coreF
  rw [List.foldl_cons]
  by_cases hc : (imgL t).length < (imgL b).length
  ·rw [if_pos hc]
   obtain ⟨h1, h2⟩ := coreF_min l t
   have h1 : (imgL (l.foldl (fun b t => if (imgL t).length < (imgL b).length then t else b) t)).length ≤ _ := h1
   refine ⟨by omega, fun s hs => ?_⟩
   rcases List.mem_cons.1 hs with rfl | hs
   ·exact h1
   ·exact h2 s hs
  ·rw [if_neg hc]
   obtain ⟨h1, h2⟩ := coreF_min l b
   have h1 : (imgL (l.foldl (fun b t => if (imgL t).length < (imgL b).length then t else b) b)).length ≤ _ := h1
   refine ⟨h1, fun s hs => ?_⟩
   rcases List.mem_cons.1 hs with rfl | hs
   ·omega
   ·exact h2 s hs
theorem core_min {n : Nat} (h : RelsOk n 1 rels) : coreT n rels ∈ allT n 1 rels (List.replicate (n ^ 1) (-1)) ∧ ∀ t ∈ allT n 1 rels (List.replicate (n ^ 1) (-1)), (imgL (coreT n rels)).length ≤ (imgL t).length := by
 unfold coreT
 have hne := id_in h
 cases hl : allT n 1 rels (List.replicate (n ^ 1) (-1)) with
 | nil => rw [hl] at hne; simp at hne
 | cons t l =>
  show coreF t l ∈ t :: l ∧ ∀ s ∈ t :: l, (imgL (coreF t l)).length ≤ (imgL s).length
  obtain ⟨h1, h2⟩ := coreF_min l t
  refine ⟨?_, fun s hs => ?_⟩
  ·rcases coreF_mem l t with h | h
   ·rw [h]; exact List.mem_cons_self ..
   ·exact List.mem_cons_of_mem _ h
  ·rcases List.mem_cons.1 hs with rfl | hs
   ·exact h1
   ·exact h2 s hs
theorem coreB_eq {n : Nat} (h : RelsOk n 1 rels) : coreB n rels = (((imgL (coreT n rels)).length : Int) == (n : Int)) := by
 obtain ⟨h1, h2⟩ := core_min h
 obtain ⟨_, h4⟩ := allT_mem h1
 have h5 := (img_bits h.hn h4).2
 unfold coreB
 rw [Bool.eq_iff_iff, List.all_eq_true, beq_iff_eq]
 constructor
 ·intro h6
  have := h6 _ h1
  simp at this
  omega
 ·intro h6 t ht
  have := h2 t ht
  simp; omega
theorem spec_IsCore_ok (h : relsS rels) : spec_IsCore n rels = some (if tmplB n rels then (coreB n.toNat rels, true) else (false, false)) := by
 unfold spec_IsCore
 rw [spec_l14Takes_ok h, show (tmplB n rels && decide (1 ≤ (1 : Int) ∧ (1 : Int) ≤ 3) && fewB 1 rels) = (tmplB n rels && fewB 1 rels) by simp, CoreMap_in h]
 cases hc : tmplB n rels with
 | false => simp
 | true =>
  obtain ⟨hn, _⟩ := tmpl_of hc
  have hR := rels_of (k := 1) hc (by omega)
  obtain ⟨m, rfl⟩ : ∃ m : Nat, n = m := ⟨n.toNat, by omega⟩
  rw [Int.toNat_natCast] at hR ⊢
  obtain ⟨h1, h2⟩ := core_min hR
  obtain ⟨h3, h4⟩ := allT_mem h1
  rw [Nat.pow_one] at h3
  have hs := spec_l14Core_ok hR
  have hv := spec_l14Values_ok (t := coreT m rels) (by omega) fun x hx => by have := h4 x hx; omega
  simp only [Option.bind_some, Bool.not_true, Bool.false_eq_true, if_false, hs, hv, if_true, coreB_eq hR]
end
end T
open Go Go.Va
namespace T
section
variable {n m : Nat} {rels : List RelT} {r : RelT} {t : List Int}
theorem PL1 (h : ROk n m r) {i : Nat} (hi : i < r.2.length) : cI (PL n 1 r i) = r.2[i] := by
  have htl := h.tl _ (List.getElem_mem hi)
  have har := h.ar
  apply List.ext_getElem
  · simp [cI, PL]; omega
  · intro q h1 h2
    have hq : q < m := by have : q < r.1.toNat := by simpa [cI, PL] using h1
                          omega
    obtain ⟨v1, v2, v3⟩ := h.vt_lt hi hq
    have hat : atF n r.2 q (dg r.2.length 1 i) = vt r.2 i q := by simp [atF, dg, Nat.mod_eq_of_lt hi]
    simp only [cI, PL, List.getElem_map, List.getElem_range, hat]
    rw [getD_of hi, getD_of h2] at v2
    rw [v2]
theorem pol1 (h : ∀ r ∈ rels, ROk n r.1.toNat r) : polK n 1 rels t = true ↔ ∀ r ∈ rels, ∀ u ∈ r.2, u.map (valI t) ∈ r.2 := by
 rw [polK_iff]
 constructor
 ·intro hp r hr u hu
  obtain ⟨i, hi, rfl⟩ := List.mem_iff_getElem.1 hu
  have := hp r hr i (by rw [Nat.pow_one]; exact hi)
  rw [PL1 (h r hr) hi] at this
  exact this
 ·intro hp r hr i hi
  rw [Nat.pow_one] at hi
  rw [PL1 (h r hr) hi]
  exact hp r hr _ (List.getElem_mem hi)
theorem all1 (h : RelsOk n 1 rels) : t ∈ allT n 1 rels (List.replicate (n ^ 1) (-1)) ↔ t.length = n ∧ (∀ x ∈ t, 0 ≤ x ∧ x < (n : Int)) ∧ ∀ r ∈ rels, ∀ u ∈ r.2, u.map (valI t) ∈ r.2 := by
 rw [allT_iff h, pol1 h.ok, Nat.pow_one]
 constructor
 ·rintro ⟨h1, h2, _, h4⟩; exact ⟨h1, h2, h4⟩
 ·rintro ⟨h1, h2, h4⟩; exact ⟨h1, h2, fun q hq => mst_free hq, h4⟩
end
theorem nodup_le : ∀ {l m : List Int}, l.Nodup → (∀ x ∈ l, x ∈ m) → l.length ≤ m.length
 | [], _, _, _ => Nat.zero_le _
 | x :: l, m, hn, h => by
  obtain ⟨h1, h2⟩ := List.nodup_cons.1 hn
  have hx := h x (List.mem_cons_self ..)
  have := nodup_le (m := m.erase x) h2 fun y hy => (List.mem_erase_of_ne (fun e : y = x => h1 (by rw [← e]; exact hy))).2 (h y (List.mem_cons_of_mem _ hy))
  rw [List.length_erase_of_mem hx] at this
  have : 0 < m.length := List.length_pos_of_mem hx
  simp only [List.length_cons]; omega
theorem sub_tab : ∀ a b c d : Bool, (subB a b c d).Nodup ∧ (∀ x : Fin 4, ((x.val : Int) ∈ subB a b c d ↔ 0 ≤ posL (subB a b c d) x.val) ∧ ((x.val : Int) ∈ subB a b c d → posL (subB a b c d) x.val < (subB a b c d).length ∧ (subB a b c d).getD (posL (subB a b c d) x.val).toNat 0 = (x.val : Int))) ∧
    (∀ x y : Fin 4, x.val < y.val → (x.val : Int) ∈ subB a b c d → (y.val : Int) ∈ subB a b c d → posL (subB a b c d) x.val < posL (subB a b c d) y.val) ∧
    (∀ i : Fin 4, i.val < (subB a b c d).length → posL (subB a b c d) ((subB a b c d).getD i.val 0).toNat = (i.val : Int)) ∧ (subB a b c d).length ≤ 4 := by decide +kernel
theorem sub_mem : ∀ a b c d : Bool, ∀ x : Fin 4, ((x.val : Int) ∈ subB a b c d ↔ (if x.val = 0 then a else if x.val = 1 then b else if x.val = 2 then c else d) = true) := by decide +kernel
theorem imgL_nodup (t : List Int) : (imgL t).Nodup := (sub_tab _ _ _ _).1
theorem imgL_mem {t : List Int} {x : Int} (h : 0 ≤ x ∧ x < 4) : x ∈ imgL t ↔ x ∈ t := by
 obtain ⟨y, rfl⟩ : ∃ y : Nat, x = y := ⟨x.toNat, by omega⟩
 have := sub_mem (decide ((0 : Int) ∈ t)) (decide ((1 : Int) ∈ t)) (decide ((2 : Int) ∈ t)) (decide ((3 : Int) ∈ t)) ⟨y, by omega⟩
 unfold imgL
 rw [this]
 have : y = 0 ∨ y = 1 ∨ y = 2 ∨ y = 3 := by omega
 rcases this with rfl | rfl | rfl | rfl <;> simp
theorem pos_in {t : List Int} {x : Int} (h : 0 ≤ x ∧ x < 4) : (x ∈ imgL t ↔ 0 ≤ posL (imgL t) x.toNat) ∧ (x ∈ imgL t → posL (imgL t) x.toNat < (imgL t).length ∧ (imgL t).getD (posL (imgL t) x.toNat).toNat 0 = x) := by
 obtain ⟨y, rfl⟩ : ∃ y : Nat, x = y := ⟨x.toNat, by omega⟩
 exact (sub_tab (decide ((0 : Int) ∈ t)) (decide ((1 : Int) ∈ t)) (decide ((2 : Int) ∈ t)) (decide ((3 : Int) ∈ t))).2.1 ⟨y, by omega⟩
theorem pos_lt {t : List Int} {x y : Int} (hx : 0 ≤ x ∧ x < 4) (hy : 0 ≤ y ∧ y < 4) (h : x < y) (h1 : x ∈ imgL t) (h2 : y ∈ imgL t) : posL (imgL t) x.toNat < posL (imgL t) y.toNat := by
 obtain ⟨a, rfl⟩ : ∃ a : Nat, x = a := ⟨x.toNat, by omega⟩
 obtain ⟨b, rfl⟩ : ∃ a : Nat, y = a := ⟨y.toNat, by omega⟩
 exact (sub_tab (decide ((0 : Int) ∈ t)) (decide ((1 : Int) ∈ t)) (decide ((2 : Int) ∈ t)) (decide ((3 : Int) ∈ t))).2.2.1 ⟨a, by omega⟩ ⟨b, by omega⟩ (by dsimp only; omega) h1 h2
theorem pos_at {t : List Int} {i : Nat} (h : i < (imgL t).length) : posL (imgL t) ((imgL t).getD i 0).toNat = (i : Int) := by
 have := sub_tab (decide ((0 : Int) ∈ t)) (decide ((1 : Int) ∈ t)) (decide ((2 : Int) ∈ t)) (decide ((3 : Int) ∈ t))
 exact this.2.2.2.1 ⟨i, by have := this.2.2.2.2; have h' : i < (imgL t).length := h; unfold imgL at h'; omega⟩ h
theorem cmp_mono {p : Int → Int} {P : Int → Prop} (hp : ∀ x y, P x → P y → x < y → p x < p y) : ∀ {u w : List Int}, (∀ x ∈ u, P x) → (∀ x ∈ w, P x) → cmpL u w < 0 → cmpL (u.map p) (w.map p) < 0
 | [], [], _, _, h => h
 | [], _ :: _, _, _, h => by simpa [cmpL] using h
 | _ :: _, [], _, _, h => by simp [cmpL] at h
 | a :: u, b :: w, hu, hw, h => by
  have ha := hu a (List.mem_cons_self ..)
  have hb := hw b (List.mem_cons_self ..)
  simp only [cmpL, List.map_cons] at h ⊢
  by_cases e : a = b
  ·subst e
   rw [if_pos rfl] at h ⊢
   exact cmp_mono hp (fun x hx => hu x (List.mem_cons_of_mem _ hx)) (fun x hx => hw x (List.mem_cons_of_mem _ hx)) h
  ·rw [if_neg e] at h
   have hab : a < b := by
    by_cases h1 : a < b
    ·exact h1
    ·rw [if_neg h1] at h; omega
   have := hp a b ha hb hab
   rw [if_neg (by omega), if_pos this]; omega
section
variable {n : Nat} {rels : List RelT} {f : List Int}
theorem goodT_in {u : List Int} (hn : n ≤ 4) (hu : ∀ x ∈ u, 0 ≤ x ∧ x < (n : Int)) : goodT (tmT (imgL f) u) = true ↔ ∀ x ∈ u, x ∈ imgL f := by
 unfold goodT tmT
 rw [List.all_eq_true]
 constructor
 ·intro h x hx
  have h1 := hu x hx
  have := h _ (List.mem_map_of_mem hx)
  exact (pos_in (by omega)).1.2 (by simpa using this)
 ·intro h v hv
  obtain ⟨x, hx, rfl⟩ := List.mem_map.1 hv
  have h1 := hu x hx
  simpa using (pos_in (by omega)).1.1 (h x hx)
theorem relC_mem {r : RelT} {v : List Int} (hn : n ≤ 4) (hr : ∀ u ∈ r.2, ∀ x ∈ u, 0 ≤ x ∧ x < (n : Int)) : v ∈ (relC (imgL f) r).2 ↔ ∃ u ∈ r.2, (∀ x ∈ u, x ∈ imgL f) ∧ v = tmT (imgL f) u := by
 unfold relC
 rw [List.mem_filter, List.mem_map]
 constructor
 ·rintro ⟨⟨u, h1, rfl⟩, h2⟩
  exact ⟨u, h1, (goodT_in hn (hr u h1)).1 h2, rfl⟩
 ·rintro ⟨u, h1, h2, rfl⟩
  exact ⟨⟨u, h1, rfl⟩, (goodT_in hn (hr u h1)).2 h2⟩
theorem core_rels (hR : RelsOk n 1 rels) (hl : rels.length ≤ 4) (hf : f.length = n) (hv : ∀ x ∈ f, 0 ≤ x ∧ x < (n : Int)) : tmplB ((imgL f).length : Int) (rels.map (relC (imgL f))) = true ∧ 1 ≤ (imgL f).length := by
 have hn := hR.hn
 have h1 : 1 ≤ (imgL f).length := by
  cases f with
  | nil => simp at hf; omega
  | cons x f =>
   have := hv x (List.mem_cons_self ..)
   have hm : x ∈ imgL (x :: f) := (imgL_mem (by omega)).2 (List.mem_cons_self ..)
   exact List.length_pos_of_mem hm
 have h4 := (img_bits hn hv).2
 refine ⟨?_, h1⟩
 unfold tmplB
 rw [Bool.and_eq_true, Bool.and_eq_true]
 refine ⟨⟨by simp; omega, by simp; omega⟩, ?_⟩
 rw [List.all_eq_true]
 intro q hq
 obtain ⟨r, hr, rfl⟩ := List.mem_map.1 hq
 have hrk := hR.ok r hr
 have hm := hrk.hm
 have har := hrk.ar
 unfold relB
 rw [Bool.and_eq_true, Bool.and_eq_true]
 refine ⟨⟨by show decide (1 ≤ r.1 ∧ r.1 ≤ 3) = true; simp; omega, ?_⟩, ?_⟩
 ·rw [List.all_eq_true]
  intro v hv'
  obtain ⟨u, hu, h2, rfl⟩ := (relC_mem hn.2 fun u hu => hrk.tv u hu).1 hv'
  rw [Bool.and_eq_true]
  refine ⟨?_, ?_⟩
  ·have := hrk.tl u hu
   show decide (((tmT (imgL f) u).length : Int) = r.1) = true
   unfold tmT
   rw [List.length_map, decide_eq_true_eq]; omega
  ·unfold belowB
   rw [List.all_eq_true]
   intro y hy
   unfold tmT at hy
   obtain ⟨x, hx, rfl⟩ := List.mem_map.1 hy
   have hx4 := hrk.tv u hu x hx
   have h5 := (pos_in (t := f) (x := x) (by omega))
   have h6 := h5.1.1 (h2 x hx)
   have h7 := (h5.2 (h2 x hx)).1
   simp; omega
 ·rw [incB_pair]
  show List.Pairwise _ ((r.2.map (tmT (imgL f))).filter goodT)
  rw [List.filter_map, List.pairwise_map]
  have hp := (incB_pair.1 hrk.inc).filter (goodT ∘ tmT (imgL f))
  refine List.Pairwise.imp_of_mem ?_ hp
  intro u w hu hw huw
  obtain ⟨hu1, hu2⟩ := List.mem_filter.1 hu
  obtain ⟨hw1, hw2⟩ := List.mem_filter.1 hw
  have a1 := (goodT_in hn.2 (hrk.tv u hu1)).1 hu2
  have a2 := (goodT_in hn.2 (hrk.tv w hw1)).1 hw2
  exact cmp_mono (P := fun x => (0 ≤ x ∧ x < 4) ∧ x ∈ imgL f) (fun x y hx hy hxy => pos_lt hx.1 hy.1 hxy hx.2 hy.2) (fun x hx => ⟨by have := hrk.tv u hu1 x hx; omega, a1 x hx⟩) (fun x hx => ⟨by have := hrk.tv w hw1 x hx; omega, a2 x hx⟩) huw
theorem core_core (hR : RelsOk n 1 rels) (hl : rels.length ≤ 4) : coreB (imgL (coreT n rels)).length (rels.map (relC (imgL (coreT n rels)))) = true := by
 obtain ⟨hf0, hmin⟩ := core_min hR
 obtain ⟨hf, hv, hpol⟩ := (all1 hR).1 hf0
 have hn := hR.hn
 obtain ⟨hC, hm1⟩ := core_rels hR hl hf hv
 generalize hF : coreT n rels = f at *
 have hRc : RelsOk (imgL f).length 1 (rels.map (relC (imgL f))) := by
  have := rels_of (k := 1) hC (by omega)
  rwa [Int.toNat_natCast] at this
 have hfv : ∀ x : Nat, x < n → 0 ≤ f.getD x 0 ∧ f.getD x 0 < (n : Int) ∧ f.getD x 0 ∈ imgL f := fun x hx => by
  have hx' : x < f.length := by omega
  rw [getD_of hx']
  have := hv _ (List.getElem_mem hx')
  exact ⟨this.1, this.2, (imgL_mem (by omega)).2 (List.getElem_mem hx')⟩
 unfold coreB
 rw [List.all_eq_true]
 intro g hg
 obtain ⟨hgl, hgv, hgp⟩ := (all1 hRc).1 hg
 rw [Bool.not_eq_true', decide_eq_false_iff_not]
 intro hlt
 have hgm : ∀ y : Nat, y < (imgL f).length → 0 ≤ g.getD y 0 ∧ g.getD y 0 < ((imgL f).length : Int) ∧ g.getD y 0 ∈ g := fun y hy => by
  have hy' : y < g.length := by omega
  rw [getD_of hy']
  have := hgv _ (List.getElem_mem hy')
  exact ⟨this.1, this.2, List.getElem_mem hy'⟩
 have h4 := (img_bits hn hv).2
 have hVv : ∀ y : Nat, y < (imgL f).length → 0 ≤ (imgL f).getD y 0 ∧ (imgL f).getD y 0 < (n : Int) ∧ (imgL f).getD y 0 ∈ imgL f := fun y hy => by
  have hm := getD_mem (d := 0) hy
  have := (img_nam hn hv).2 _ hm
  exact ⟨this.1, this.2, hm⟩
 obtain ⟨P, hP⟩ : ∃ P : Int → Int, P = fun x => (imgL f).getD (g.getD (posL (imgL f) x.toNat).toNat 0).toNat 0 := ⟨_, rfl⟩
 have hPv : ∀ x, 0 ≤ x ∧ x < (n : Int) → x ∈ imgL f → 0 ≤ P x ∧ P x < (n : Int) ∧ P x ∈ imgL f ∧ ∃ y ∈ g, 0 ≤ y ∧ y < ((imgL f).length : Int) ∧ P x = (imgL f).getD y.toNat 0 ∧ posL (imgL f) (P x).toNat = y ∧ y = g.getD (posL (imgL f) x.toNat).toNat 0 := fun x hx hxm => by
  have h5 := pos_in (t := f) (x := x) (by omega)
  have h6 := h5.1.1 hxm
  have h7 := (h5.2 hxm).1
  obtain ⟨b1, b2, b3⟩ := hgm (posL (imgL f) x.toNat).toNat (by omega)
  obtain ⟨c1, c2, c3⟩ := hVv (g.getD (posL (imgL f) x.toNat).toNat 0).toNat (by omega)
  have c4 := pos_at (t := f) (i := (g.getD (posL (imgL f) x.toNat).toNat 0).toNat) (by omega)
  rw [hP]
  exact ⟨c1, c2, c3, _, b3, b1, b2, rfl, by rw [c4]; omega, rfl⟩
 obtain ⟨h, hh⟩ : ∃ h : List Int, h = (List.range n).map fun x => P (f.getD x 0) := ⟨_, rfl⟩
 have hhl : h.length = n := by rw [hh]; simp
 have hhv : ∀ x ∈ h, 0 ≤ x ∧ x < (n : Int) ∧ ∃ y ∈ g, 0 ≤ y ∧ y < ((imgL f).length : Int) ∧ x = (imgL f).getD y.toNat 0 := fun x hx => by
  rw [hh] at hx
  obtain ⟨i, hi, rfl⟩ := List.mem_map.1 hx
  obtain ⟨d1, d2, d3⟩ := hfv i (List.mem_range.1 hi)
  obtain ⟨e1, e2, _, y, e4, e5, e6, e7, _⟩ := hPv _ ⟨d1, d2⟩ d3
  exact ⟨e1, e2, y, e4, e5, e6, e7⟩
 have hhm : h ∈ allT n 1 rels (List.replicate (n ^ 1) (-1)) := by
  refine (all1 hR).2 ⟨hhl, fun x hx => ⟨(hhv x hx).1, (hhv x hx).2.1⟩, fun r hr u hu => ?_⟩
  have hrk := hR.ok r hr
  have hu2 := hrk.tv u hu
  have hw := hpol r hr u hu
  have hwv : ∀ x ∈ u.map (valI f), x ∈ imgL f := fun x hx => by
   obtain ⟨z, hz, rfl⟩ := List.mem_map.1 hx
   have := hu2 z hz
   exact (hfv z.toNat (by omega)).2.2
  have hwr := hrk.tv _ hw
  have h8 : tmT (imgL f) (u.map (valI f)) ∈ (relC (imgL f) r).2 := (relC_mem hn.2 fun u hu => hrk.tv u hu).2 ⟨_, hw, hwv, rfl⟩
  have h9 := hgp _ (List.mem_map_of_mem hr) _ h8
  obtain ⟨w, hw1, hw2, hw3⟩ := (relC_mem hn.2 fun u hu => hrk.tv u hu).1 h9
  have hwl := hrk.tl w hw1
  have hul := hrk.tl u hu
  have : u.map (valI h) = w := by
   refine List.ext_getElem (by simp; omega) fun i i1 i2 => ?_
   have hi : i < u.length := by simpa using i1
   have e1 : ((tmT (imgL f) (u.map (valI f))).map (valI g))[i]? = (tmT (imgL f) w)[i]? := by rw [hw3]
   simp only [tmT, List.getElem?_map, List.getElem?_eq_getElem hi, List.getElem?_eq_getElem i2, Option.map_some, Option.some.injEq] at e1
   have hui := hu2 _ (List.getElem_mem hi)
   obtain ⟨d1, d2, d3⟩ := hfv (u[i]).toNat (by omega)
   have hwi := hrk.tv w hw1 _ (List.getElem_mem i2)
   have hwm := hw2 _ (List.getElem_mem i2)
   have g1 := pos_in (t := f) (x := w[i]) (by omega)
   have g2 := (g1.2 hwm).2
   have e2 : g.getD (posL (imgL f) (f.getD (u[i]).toNat 0).toNat).toNat 0 = posL (imgL f) (w[i]).toNat := e1
   have hin : (u[i]).toNat < (List.range n).length := by simp; omega
   rw [List.getElem_map]
   show h.getD (u[i]).toNat 0 = w[i]
   rw [hh, getD_of (by simpa using hin), List.getElem_map, List.getElem_range, hP]
   show (imgL f).getD (g.getD (posL (imgL f) (f.getD (u[i]).toNat 0).toNat).toNat 0).toNat 0 = w[i]
   rw [e2, g2]
  rw [this]; exact hw1
 have hle := hmin h hhm
 have hge : (imgL h).length ≤ (imgL g).length := by
  have := nodup_le (l := imgL h) (m := (imgL g).map fun y => (imgL f).getD y.toNat 0) (imgL_nodup h) fun x hx => by
   have hx4 : 0 ≤ x ∧ x < 4 := by
    have := (img_nam hn (t := h) fun x hx => ⟨(hhv x hx).1, (hhv x hx).2.1⟩).2 x hx
    omega
   obtain ⟨_, _, y, y1, y2, y3, y4⟩ := hhv x ((imgL_mem hx4).1 hx)
   exact List.mem_map.2 ⟨y, (imgL_mem (by omega)).2 y1, y4.symm⟩
  rwa [List.length_map] at this
 omega
end
end T
open Go Go.Va
namespace T
section
variable {n : Nat} {rels : List RelT}
def constB (rels : List RelT) (x : Nat) : Bool := rels.all fun r => r.2.length == 0 || decide (List.replicate r.1.toNat (x : Int) ∈ r.2)
def constL (n : Nat) (rels : List RelT) : List Int := ((List.range n).filter (constB rels)).map fun x : Nat => (x : Int)
theorem con_map {u : List Int} {x : Nat} (hu : ∀ y ∈ u, 0 ≤ y ∧ y < (n : Int)) : u.map (valI (List.replicate n (x : Int))) = List.replicate u.length (x : Int) := by
 refine List.ext_getElem (by simp) fun i h1 h2 => ?_
 have hi : i < u.length := by simpa using h1
 have := hu _ (List.getElem_mem hi)
 rw [List.getElem_map, List.getElem_replicate]
 unfold valI
 rw [getD_of (by simp; omega), List.getElem_replicate]
theorem con_pol (hR : RelsOk n 1 rels) {x : Nat} : polK n 1 rels (List.replicate n (x : Int)) = constB rels x := by
 rw [Bool.eq_iff_iff, pol1 hR.ok]
 unfold constB
 rw [List.all_eq_true]
 refine ⟨fun h r hr => ?_, fun h r hr u hu => ?_⟩
 ·have hrk := hR.ok r hr
  cases hl : r.2 with
  | nil => simp
  | cons u l =>
   have hu : u ∈ r.2 := by rw [hl]; exact List.mem_cons_self ..
   have := h r hr u hu
   rw [con_map (hrk.tv u hu), hrk.tl u hu] at this
   rw [← hl, decide_eq_true this]; simp
 ·have hrk := hR.ok r hr
  have := h r hr
  rw [con_map (hrk.tv u hu), hrk.tl u hu]
  rw [Bool.or_eq_true] at this
  rcases this with h1 | h1
  ·have : r.2.length = 0 := by simpa using h1
   rw [List.eq_nil_of_length_eq_zero this] at hu; simp at hu
  ·simpa using h1
theorem constL_snoc {j : Nat} : constL (j + 1) rels = if constB rels j then constL j rels ++ [(j : Int)] else constL j rels := by
 unfold constL
 rw [List.range_succ, List.filter_append, List.map_append]
 cases h : constB rels j <;> simp [h]
theorem constL_le {j : Nat} : (constL j rels).length ≤ j := by
 unfold constL
 rw [List.length_map]
 exact Nat.le_trans (List.length_filter_le _ _) (by simp)
theorem icp_L9 (hn : n ≤ 100) (L : List Int) (x : Nat) : impl_ConstantPolymorphisms_L9 fuel ((n : Int), rels, L, (x : Int), List.replicate n (0 : Int), (n : Int), 0) = some ((n : Int), rels, L, (x : Int), List.replicate n (x : Int)) := by
 have := forS n (fun f (o : List Int) i => impl_ConstantPolymorphisms_L9 f ((n : Int), rels, L, (x : Int), o, (n : Int), i)) (fun j => List.replicate j (x : Int) ++ List.replicate (n - j) (0 : Int)) (r := some ((n : Int), rels, L, (x : Int), List.replicate n (x : Int))) (fun f j hj => by
  have hin : j < (List.replicate j (x : Int) ++ List.replicate (n - j) (0 : Int)).length := by simp; omega
  have e : (List.replicate j (x : Int) ++ List.replicate (n - j) (0 : Int)).set j (x : Int) = List.replicate (j + 1) (x : Int) ++ List.replicate (n - (j + 1)) (0 : Int) := by
   rw [show n - j = (n - (j + 1)) + 1 by omega, List.replicate_succ, List.set_append_right _ _ (by simp), List.replicate_succ']
   simp
  simp only [impl_ConstantPolymorphisms_L9, inb_nat, hin, stt_nat, e, if_true, w64_succ (show j < 4611686018427387904 by omega)]
  rw [if_pos (by simp; omega)]) (fun f => by
  simp only [impl_ConstantPolymorphisms_L9]
  rw [if_neg (by simp)]; simp) (n := fuel) (by unfold fuel; omega)
 exact this
theorem impl_con_L5 (hR : RelsOk n 1 rels) : impl_ConstantPolymorphisms_L5 fuel ((n : Int), rels, [], 0) = some (constL n rels) := by
 have hn := hR.hn
 have := forS n (fun f (o : List Int) i => impl_ConstantPolymorphisms_L5 f ((n : Int), rels, o, i)) (fun j => constL j rels) (r := some (constL n rels)) (fun f j hj => by
  have e1 := icp_L9 (n := n) (rels := rels) (by omega) (constL j rels) j
  have ht : tabB n 1 (List.replicate n (j : Int)) := ⟨by rw [Nat.pow_one]; simp, fun x hx => by rw [List.eq_of_mem_replicate hx]; omega⟩
  have e2 := keepsAll_ok hR (op := ((1 : Nat), List.replicate n (j : Int))) rfl ht
  have e2 : impl_keepsAll (n : Int) rels (1, List.replicate n (j : Int)) = _ := e2
  have hl : ((List.replicate n (0 : Int)).length : Int) = (n : Int) := by simp
  have := constL_le (rels := rels) (j := j)
  simp only [impl_ConstantPolymorphisms_L5, Int.toNat_natCast, hl, e1, e2, Option.bind_some, w64_succ (show j < 4611686018427387904 by omega), con_pol hR, constL_snoc]
  rw [if_pos (by rw [decide_eq_true_eq]; omega), if_pos (by unfold lim; omega)]
  cases constB rels j with
  | false => rfl
  | true => rw [if_pos rfl, if_pos (by unfold lim; simp only [List.length_singleton]; omega)]; rfl) (fun f => by
  simp only [impl_ConstantPolymorphisms_L5]
  rw [if_neg (by simp)]) (n := fuel) (by unfold fuel; omega)
 exact this
theorem scp_L13 {i : Nat} (hi : i < rels.length) (ha : 1 ≤ rels[i].1.toNat ∧ rels[i].1.toNat ≤ 3) (h0 : rels[i].1 = (rels[i].1.toNat : Int)) (N : Int) (L : List Int) (x : Nat) (g : Bool) :
    spec_ConstantPolymorphisms_L13 fuel (N, rels, L, (x : Int), g, (i : Int), [], 0) = some (N, rels, L, (x : Int), g, (i : Int), List.replicate rels[i].1.toNat (x : Int)) := by
  have := forS rels[i].1.toNat (fun f (o : List Int) k => spec_ConstantPolymorphisms_L13 f (N, rels, L, (x : Int), g, (i : Int), o, k)) (fun j => List.replicate j (x : Int)) (r := some (N, rels, L, (x : Int), g, (i : Int), List.replicate rels[i].1.toNat (x : Int))) (fun f j hj => by
    simp only [spec_ConstantPolymorphisms_L13, inb_nat, hi, gd_nat hi, if_true, w64_succ (show j < 4611686018427387904 by omega), List.length_replicate, List.length_singleton]
    rw [if_pos (by rw [decide_eq_true_eq]; omega), if_pos (by unfold lim; omega), List.replicate_succ']) (fun f => by
    simp only [spec_ConstantPolymorphisms_L13, inb_nat, hi, gd_nat hi, if_true]
    rw [if_neg (by rw [decide_eq_true_eq]; omega)]) (n := fuel) (by unfold fuel; omega)
  exact this
theorem scp_L9 (hR : RelsOk n 1 rels) (N : Int) (L : List Int) (x : Nat) : spec_ConstantPolymorphisms_L9 fuel (N, rels, L, (x : Int), true, 0) = some (N, rels, L, (x : Int), constB rels x) := by
 have hl := hR.len
 have := forS rels.length (fun f (g : Bool) i => spec_ConstantPolymorphisms_L9 f (N, rels, L, (x : Int), g, i)) (fun j => constB (rels.take j) x) (r := some (N, rels, L, (x : Int), constB rels x)) (fun f j hj => by
  have hrk := hR.ok _ (List.getElem_mem hj)
  have hm := hrk.hm
  have har := hrk.ar
  have e1 := fun g => scp_L13 hj hm har N L x g
  have e2 := spec_l13Has_ok hrk (t := List.replicate rels[j].1.toNat (x : Int)) (by simp)
  have e : constB (rels.take (j + 1)) x = (constB (rels.take j) x && (rels[j].2.length == 0 || decide (List.replicate rels[j].1.toNat (x : Int) ∈ rels[j].2))) := by
   unfold constB
   rw [List.take_succ_eq_append_getElem hj, List.all_append]; simp
  simp only [spec_ConstantPolymorphisms_L9, e1, Option.bind_some, inb_nat, hj, gd_nat hj, if_true, e2, e, w64_succ (show j < 4611686018427387904 by omega)]
  rw [if_pos (by rw [decide_eq_true_eq]; omega)]
  cases constB (rels.take j) x with
  | false => rfl
  | true =>
   rw [if_pos rfl]
   by_cases h0 : rels[j].2.length = 0
   ·simp [h0]
   ·have h1 : ((rels[j].2.length : Int) == 0) = false := by simp; intro h; rw [h] at h0; simp at h0
    have h2 : (rels[j].2.length == 0) = false := by simpa using h0
    rw [h1, h2]; rfl) (fun f => by
  simp only [spec_ConstantPolymorphisms_L9, List.take_length]
  rw [if_neg (by simp)]) (n := fuel) (by unfold fuel; omega)
 exact this
theorem spec_con_L5 (hR : RelsOk n 1 rels) : spec_ConstantPolymorphisms_L5 fuel ((n : Int), rels, [], 0) = some (constL n rels) := by
 have hn := hR.hn
 have := forS n (fun f (o : List Int) i => spec_ConstantPolymorphisms_L5 f ((n : Int), rels, o, i)) (fun j => constL j rels) (r := some (constL n rels)) (fun f j hj => by
  have e1 := scp_L9 hR (n : Int) (constL j rels) j
  have := constL_le (rels := rels) (j := j)
  simp only [spec_ConstantPolymorphisms_L5, e1, Option.bind_some, w64_succ (show j < 4611686018427387904 by omega), constL_snoc]
  rw [if_pos (by rw [decide_eq_true_eq]; omega)]
  cases constB rels j with
  | false => rfl
  | true => rw [if_pos rfl, if_pos (by unfold lim; simp only [List.length_singleton]; omega)]; rfl) (fun f => by
  simp only [spec_ConstantPolymorphisms_L5]
  rw [if_neg (by simp)]) (n := fuel) (by unfold fuel; omega)
 exact this
theorem con_core (hR : RelsOk n 1 rels) : decide (0 < (constL n rels).length) = decide ((imgL (coreT n rels)).length = 1) := by
 obtain ⟨hf0, hmin⟩ := core_min hR
 obtain ⟨hf, hv, hpol⟩ := (all1 hR).1 hf0
 have hn := hR.hn
 have him : ∀ x ∈ coreT n rels, x ∈ imgL (coreT n rels) := fun x hx => (imgL_mem (by have := hv x hx; omega)).2 hx
 rw [decide_eq_decide]
 constructor
 ·intro h
  cases hc : (List.range n).filter (constB rels) with
  | nil => unfold constL at h; rw [hc] at h; simp at h
  | cons x l =>
   obtain ⟨h1, h2⟩ := List.mem_filter.1 (show x ∈ (List.range n).filter (constB rels) by rw [hc]; exact List.mem_cons_self ..)
   have hx := List.mem_range.1 h1
   rw [← con_pol hR] at h2
   have hm : List.replicate n (x : Int) ∈ allT n 1 rels (List.replicate (n ^ 1) (-1)) := (allT_iff hR).2 ⟨by rw [Nat.pow_one]; simp, fun y hy => by rw [List.eq_of_mem_replicate hy]; omega, fun q hq => mst_free hq, h2⟩
   have h3 := hmin _ hm
   have h4 : (imgL (List.replicate n (x : Int))).length ≤ 1 := by
    refine nodup_le (m := [(x : Int)]) (imgL_nodup _) fun y hy => ?_
    have hy4 : 0 ≤ y ∧ y < 4 := by
     have := (img_nam hn (t := List.replicate n (x : Int)) fun z hz => by rw [List.eq_of_mem_replicate hz]; omega).2 y hy
     omega
    have := (imgL_mem hy4).1 hy
    rw [List.eq_of_mem_replicate this]; simp
   have h5 : 0 < (imgL (coreT n rels)).length := by
    have : 0 < (coreT n rels).length := by omega
    exact List.length_pos_of_mem (him _ (List.getElem_mem this))
   omega
 ·intro h
  obtain ⟨y, hy⟩ : ∃ y, imgL (coreT n rels) = [y] := by
   match hl : imgL (coreT n rels), h with
   | [y], _ => exact ⟨y, rfl⟩
  have hall : ∀ x ∈ coreT n rels, x = y := fun x hx => by
   have := him x hx
   rw [hy] at this; simpa using this
  have h0 : 0 < (coreT n rels).length := by omega
  have hy0 := hv y (by rw [← hall _ (List.getElem_mem h0)]; exact List.getElem_mem h0)
  have he : coreT n rels = List.replicate n y := List.eq_replicate_iff.2 ⟨hf, hall⟩
  obtain ⟨z, rfl⟩ : ∃ z : Nat, y = (z : Int) := ⟨y.toNat, by omega⟩
  have hp : constB rels z = true := by
   rw [← con_pol hR, ← he]
   exact ((allT_iff hR).1 hf0).2.2.2
  unfold constL
  rw [List.length_map]
  exact List.length_pos_of_mem (List.mem_filter.2 ⟨List.mem_range.2 (by omega), hp⟩)
end
section
variable {n : Int} {rels : List RelT}
theorem Constant_ok (h : relsS rels) : impl_ConstantPolymorphisms n rels = some (if tmplB n rels then (constL n.toNat rels, true) else ([], false)) ∧ spec_ConstantPolymorphisms n rels = some (if tmplB n rels then (constL n.toNat rels, true) else ([], false)) := by
 unfold impl_ConstantPolymorphisms spec_ConstantPolymorphisms
 rw [impl_canAsk_ok h, spec_l14Takes_ok h, show (tmplB n rels && decide (1 ≤ (1 : Int) ∧ (1 : Int) ≤ 3) && fewB 1 rels) = (tmplB n rels && fewB 1 rels) by simp, CoreMap_in h]
 cases hc : tmplB n rels with
 | false => simp
 | true =>
  obtain ⟨hn, _⟩ := tmpl_of hc
  have hR := rels_of (k := 1) hc (by omega)
  obtain ⟨m, rfl⟩ : ∃ m : Nat, n = m := ⟨n.toNat, by omega⟩
  rw [Int.toNat_natCast] at hR ⊢
  simp only [Option.bind_some, Bool.not_true, Bool.false_eq_true, if_false, impl_con_L5 hR, spec_con_L5 hR, if_true, and_self]
theorem Idem_val (h : relsS rels) : ∃ R : List Opn × Bool, impl_IdempotentPolymorphisms n rels 2 = some R ∧ spec_IdempotentPolymorphisms n rels 2 = some R ∧ opsS R.1 ∧ ∀ f ∈ R.1, f.1 = 2 ∧ f.2.length = n.toNat * n.toNat ∧ 1 ≤ n ∧ n ≤ 4 ∧ ∀ x : Nat, (x : Int) < n → f.2.getD (x * n.toNat + x) 0 = (x : Int) := by
 obtain ⟨R, e1, e2, e3⟩ := IdempotentPolymorphisms_ok (n := n) (k := 2) h
 refine ⟨R, e1, e2, e3, ?_⟩
 unfold impl_IdempotentPolymorphisms at e1
 rw [impl_canAsk_ok h] at e1
 cases hb : polyB n rels 2 with
 | false =>
  have : R = ([], false) := by
   cases hc : tmplB n rels && fewB 2 rels with
   | false => rw [hc] at e1; simp at e1; exact e1.symm
   | true =>
    rw [hc] at e1
    unfold polyB at hb
    rw [hc, Bool.true_and] at hb
    rw [Bool.and_eq_true] at hc
    simp only [Option.bind_some, Bool.not_true, Bool.false_eq_true, if_false, impl_range_ok (k := 2) (tmpl_of hc.1).1, hb] at e1
    simp at e1; exact e1.symm
  subst this
  intro f hf; simp at hf
 | true =>
  obtain ⟨hn, hk, h9, hR⟩ := polyB_of hb
  have hb' := hb
  unfold polyB at hb'
  simp only [Bool.and_eq_true] at hb'
  obtain ⟨⟨ht, hf⟩, hr⟩ := hb'
  obtain ⟨m, rfl⟩ : ∃ m : Nat, n = m := ⟨n.toNat, by omega⟩
  simp only [Int.toNat_natCast] at h9 hR hr ⊢
  have hR : RelsOk m 2 rels := hR
  have h9 : m ^ 2 ≤ 9 := h9
  have hm3 : m ≤ 3 := by
   rcases Nat.lt_or_ge m 4 with h1 | h1
   ·omega
   ·have : m * m ≤ 9 := by rw [Nat.pow_succ, Nat.pow_one] at h9; exact h9
    have : 4 * 4 ≤ m * m := Nat.mul_le_mul h1 h1
    omega
  obtain ⟨i1, i2⟩ := idem_ok (n := m) (k := 2) (by omega) (by omega)
  obtain ⟨q1, _, _⟩ := list_same hR (given := idemT m 2) idemT_len h9
  have i1 : impl_idempotentTable (m : Int) 2 = _ := i1
  have q1 : impl_listPolys (m : Int) rels 2 (idemT m 2) = _ := q1
  rw [ht, hf] at e1
  have hrr := impl_range_ok (n := (m : Int)) (k := 2) hn
  simp only [Int.toNat_natCast] at hrr
  simp only [Option.bind_some, Bool.and_self, Bool.not_true, Bool.false_eq_true, if_false, hrr, hr.1, hr.2, i1, q1] at e1
  have e1 := Option.some.inj e1
  subst e1
  obtain ⟨_, hA⟩ := idem_all hR hm3
  intro f hf
  unfold listR at hf
  split at hf
  ·obtain ⟨t, ht, rfl⟩ := List.mem_map.1 hf
   obtain ⟨hT, hi⟩ := hA t ht
   refine ⟨rfl, hT.len, by omega, by omega, fun x hx => ?_⟩
   have hx : x < m := by omega
   unfold idemB at hi
   have := List.all_eq_true.1 hi x (List.mem_range.2 hx)
   unfold bopT at this
   have h1 : x * m + x < t.length := by rw [hT.len]; exact (ix2 hT.hn.2 hx hx).2
   have h2 := hT.val _ (List.getElem_mem h1)
   rw [getD_of h1] at this
   show t.getD (x * m + x) 0 = _
   rw [getD_of h1]
   have this : (t[x * m + x]).toNat = x := by simpa using this
   omega
  ·simp at hf
end
end T
open Go Go.Va
namespace T
theorem DrawCoreTemplate_ok {code : List Int} (h1 : code.length ≤ 65536) (h2 : ∀ x ∈ code, 0 ≤ x ∧ x < 256) : ∃ n rels, spec_DrawCoreTemplate code = some (n, rels) ∧ 0 ≤ n ∧ n ≤ 5 ∧ relsB rels := by
 obtain ⟨c1, n, rels, e1, g1, a, b, c⟩ := template_ok (k := 0) (c := (code, (0, 0))) ⟨h1, h2, by simp, by simp⟩ (by omega)
 unfold spec_DrawCoreTemplate spec_DrawIsTemplate
 simp only [e1, Option.bind_some]
 exact ⟨n, rels, rfl, a, b, c⟩
theorem fc_L9 {C : List RelT} (hl : C.length ≤ 1048576) (hr : ∀ r ∈ C, rowsS r.2) (n : Int) (rels : List RelT) (m : Int) (b : Bool) :
    laws_FnCores_L9 fuel (n, rels, m, C, b, C, 0) = some (.inl (n, rels, m, C, b)) := by
  have := forS C.length (fun f (_ : Unit) i => laws_FnCores_L9 f (n, rels, m, C, b, C, i)) (fun _ => ()) (r := some (.inl (n, rels, m, C, b))) (fun f k hk => by
    have h := hr _ (List.getElem_mem hk)
    have e := rTable_ok (a := C[k].2) (b := C[k].2) h.1 h.2
    rw [decide_eq_true rfl] at e
    simp only [laws_FnCores_L9, inb_nat, hk, gd_nat hk, if_true, bne_self_eq_false, Bool.false_eq_true, if_false, e, Option.bind_some, Bool.not_true, w64_succ (show k < 4611686018427387904 by omega)]
    rw [if_pos (by rw [decide_eq_true_eq]; omega)]) (fun f => by
    simp only [laws_FnCores_L9]
    rw [if_neg (by simp)]) (n := fuel) (by unfold fuel; omega)
  exact this
theorem fc_L43 {n : Nat} {L : List Opn} {i : Nat} (hi : i < L.length) (hn : n ≤ 4) (hl : (L[i]).2.length = n * n) (hv : ∀ x : Nat, x < n → (L[i]).2.getD (x * n + x) 0 = (x : Int)) :
    laws_FnCores_L43 fuel ((n : Int), L, (i : Int), 0) = some (.inl ((n : Int), L, (i : Int))) := by
  have := forS n (fun f (_ : Unit) x => laws_FnCores_L43 f ((n : Int), L, (i : Int), x)) (fun _ => ()) (r := some (.inl ((n : Int), L, (i : Int)))) (fun f x hx => by
    obtain ⟨a1, a2⟩ := ix2 hn hx hx
    have hlt : x * n + x < (L[i]).2.length := by rw [hl]; exact a2
    have e := hv x hx
    rw [getD_of hlt] at e
    simp only [laws_FnCores_L43, inb_nat, hi, gd_nat hi, a1, hlt, gd_nat hlt, e, if_true, bne_self_eq_false, Bool.false_eq_true, if_false, w64_succ (show x < 4611686018427387904 by omega)]
    rw [if_pos (by rw [decide_eq_true_eq]; omega)]) (fun f => by
    simp only [laws_FnCores_L43]
    rw [if_neg (by simp)]) (n := fuel) (by unfold fuel; omega)
  exact this
theorem fc_L38 {n : Int} {L : List Opn} (hl : L.length ≤ 1000) (h : ∀ f ∈ L, f.1 = 2 ∧ f.2.length = n.toNat * n.toNat ∧ 1 ≤ n ∧ n ≤ 4 ∧ ∀ x : Nat, (x : Int) < n → f.2.getD (x * n.toNat + x) 0 = (x : Int)) :
    laws_FnCores_L38 fuel (n, L, 0) = some (.inl ()) := by
  have := forS L.length (fun f (_ : Unit) i => laws_FnCores_L38 f (n, L, i)) (fun _ => ()) (r := some (.inl ())) (fun f i hi => by
    obtain ⟨b1, b2, b3, b4, b5⟩ := h _ (List.getElem_mem hi)
    have e := fc_L43 (n := n.toNat) hi (by omega) b2 (fun x hx => b5 x (by omega))
    rw [Int.toNat_of_nonneg (by omega)] at e
    simp only [laws_FnCores_L38, inb_nat, hi, gd_nat hi, b1, e, if_true, bne_self_eq_false, Bool.false_eq_true, if_false, Option.bind_some, w64_succ (show i < 4611686018427387904 by omega)]
    rw [if_pos (by rw [decide_eq_true_eq]; omega)]) (fun f => by
    simp only [laws_FnCores_L38]
    rw [if_neg (by simp)]) (n := fuel) (by unfold fuel; omega)
  exact this
theorem FnCores_law {code : List Int} (h : wfT (.slice (.num .u8)) code) : laws_FnCores code = some true := by
 unfold laws_FnCores laws_rBig
 simp only [Option.bind_some]
 by_cases hb : (code.length : Int) > 65536
 ·rw [if_pos (decide_eq_true hb)]
 ·rw [if_neg (by simpa using hb)]
  have h1 : code.length ≤ 65536 := by omega
  have h2 : ∀ x ∈ code, 0 ≤ x ∧ x < 256 := fun x hx => by
   have : IntKind.u8.min ≤ x ∧ x ≤ IntKind.u8.max := h.2 x hx
   have e1 : IntKind.u8.min = 0 := by decide
   have e2 : IntKind.u8.max = 255 := by decide
   omega
  obtain ⟨n, rels, ed, a1, a2, a3⟩ := DrawCoreTemplate_ok h1 h2
  have hs := relsB_S a3
  obtain ⟨R, ⟨c1, c2, c3, _⟩, c4⟩ := CoreTemplate_val (n := n) hs
  have e9 := fc_L9 (C := R.2.1) c3.1 (fun r hr => c3.2 r hr) n rels R.1 R.2.2
  have i1 := impl_IsCore_ok (n := n) hs
  have i2 := spec_IsCore_ok (n := n) hs
  simp only [ed, Option.bind_some, c1, c2, e9, i1, i2, bne_self_eq_false, Bool.false_eq_true, if_false]
  cases hc : tmplB n rels with
  | false =>
   rw [hc, if_neg (by simp)] at c4
   subst c4
   simp
  | true =>
   rw [hc, if_pos rfl] at c4
   obtain ⟨hn, hl4, _⟩ := tmpl_of hc
   have hR := rels_of (k := 1) hc (by omega)
   obtain ⟨N, rfl⟩ : ∃ N : Nat, n = (N : Int) := ⟨n.toNat, by omega⟩
   rw [Int.toNat_natCast] at hR c4
   obtain ⟨hf0, hmin⟩ := core_min hR
   obtain ⟨hf, hv, _⟩ := (all1 hR).1 hf0
   obtain ⟨hC, hm1⟩ := core_rels hR hl4 hf hv
   have hcc := core_core hR hl4
   have i3 := impl_IsCore_ok (n := ((imgL (coreT N rels)).length : Int)) (rels := rels.map (relC (imgL (coreT N rels)))) (by have := c3; rw [c4] at this; exact this)
   rw [hC, if_pos rfl, Int.toNat_natCast, hcc] at i3
   rcases CoreMap_ok (n := (N : Int)) hs with ⟨hc', _⟩ | ⟨_, _, m1, m2, m3, m4⟩
   ·rw [hc] at hc'; cases hc'
   rw [Int.toNat_natCast] at m1 m2 m3 m4
   have q1 := rOp_ok (a := ((1 : Int), coreT N rels)) (b := ((1 : Int), coreT N rels)) (by dsimp only; omega)
   rw [decide_eq_true rfl] at q1
   have q2 := impl_IsPol_ok (n := (N : Int)) (rels := rels) (op := ((1 : Int), coreT N rels)) hs (by dsimp only; omega)
   have q3 : isPR (N : Int) rels ((1 : Int), coreT N rels) = (true, true) := by
    unfold isPR
    have ht : tabB N 1 (coreT N rels) := ⟨by rw [Nat.pow_one]; exact hf, hv⟩
    have ho := opB_of (n := N) (k := 1) hR.hn (by omega) ht
    have ho : opB (N : Int) ((1 : Int), coreT N rels) = true := ho
    have hp : polK N 1 rels (coreT N rels) = true := ((allT_iff hR).1 hf0).2.2.2
    rw [hc, ho]
    have hfw : fewB 1 rels = true := by have := CoreMap_in (n := (N : Int)) hs; rw [hc, Bool.true_and] at this; exact this
    simp only [hfw, Bool.and_self, if_true, Int.toNat_natCast, show (1 : Int).toNat = 1 from rfl, hp]
    simp
   rw [q3] at q2
   obtain ⟨k1, k2⟩ := Constant_ok (n := (N : Int)) hs
   rw [hc, if_pos rfl, Int.toNat_natCast] at k1 k2
   have hcl := constL_le (rels := rels) (j := N)
   have r1 := rInts_ok (a := constL N rels) (b := constL N rels) (by omega)
   rw [decide_eq_true rfl] at r1
   obtain ⟨I, d1, d2, d3, d4⟩ := Idem_val (n := (N : Int)) hs
   have r2 := rOps_same d3.1 d3.2
   have e38 := fc_L38 (n := (N : Int)) d3.1 d4
   have hcb := coreB_eq hR
   have hcon := con_core hR
   have hcon : decide (((constL N rels).length : Int) > 0) = (((imgL (coreT N rels)).length : Int) == 1) := by
    rw [show decide (((constL N rels).length : Int) > 0) = decide (0 < (constL N rels).length) from decide_eq_decide.2 (by omega), hcon, Bool.eq_iff_iff, decide_eq_true_eq, beq_iff_eq]
    omega
   subst c4
   simp only [if_true, Int.toNat_natCast, i3, Option.bind_some, bne_self_eq_false, Bool.false_eq_true, if_false, Bool.not_true, hcb, m1, m2, q1, q2, k1, k2, r1, hcon, d1, d2, r2, e38]
end T
