/- Plain lemmas on the typed functions of the program, and the plain law of FnExactRemovedCounts; no conditions. -/
import Derived.Test.YtcdjlpcapanibadV1
import Derived.Test.YtcdjlpcapanibadV5
import Derived.KernelRfl
import Derived.Test.YtcdjlpcapanibadOFnExactRemovedCounts
set_option linter.all false
open Go Go.Va
namespace T
def fixD (d : Dom) (v x : Nat) : Dom := d.set v ((d.getD v []).mapIdx fun i _ => decide (i = x))
theorem mk_one {r : List Bool} {x : Nat} (h : x < r.length) : mk (r.mapIdx fun i _ => decide (i = x)) = [(x : Int)] := by
 unfold mk
 rw [List.length_mapIdx]
 have e : (List.range r.length).filter (fun i => (r.mapIdx fun i _ => decide (i = x)).getD i false) = (List.range r.length).filter (fun i => i == x) := by
  apply List.filter_congr
  intro i hi
  have := List.mem_range.1 hi
  rw [getD_of (by simpa using this), List.getElem_mapIdx]
  rw [Bool.eq_iff_iff]; simp
 rw [e, List.filter_beq, List.nodup_range.count, if_pos (List.mem_range.2 h)]
 rfl
section
variable {a : Net}
theorem fixD_ok {d : Dom} {v x : Nat} (h : DomOk a d) : DomOk a (fixD d v x) := by
 refine ⟨by unfold fixD; rw [List.length_set]; exact h.len, fun r hr => ?_⟩
 unfold fixD at hr
 rcases Nat.lt_or_ge v d.length with hv | hv
 ·rcases List.mem_or_eq_of_mem_set hr with hr | rfl
  ·exact h.row r hr
  ·rw [List.length_mapIdx, getD_of hv]; exact h.row _ (List.getElem_mem hv)
 ·rw [List.set_eq_of_length_le hv] at hr; exact h.row r hr
theorem fixD_map {d : Dom} {v x : Nat} (hv : v < d.length) (hx : x < d[v].length) : (fixD d v x).map mk = (d.map mk).set v [(x : Int)] := by
 unfold fixD; rw [List.map_set, getD_of hv, mk_one hx]
theorem impl_fix_ok (hN : NetOk a) {d : Dom} (h : DomOk a d) {v : Nat} (hv : v < d.length) (x : Nat) : impl_domains_fix d (v : Int) (x : Int) = some (fixD d v x) := by
 have hn := hN.hn
 have hr := h.row _ (List.getElem_mem hv)
 unfold impl_domains_fix
 rw [if_pos (by rw [inb_nat]; exact hv), gd_nat hv]
 have := inplX d[v].length (fun n r i => impl_domains_fix_L1 n (d.set v r, (v : Int), (x : Int), (d[v].length : Int), i)) (fun i _ => decide (i = x)) (fun r => some (d.set v r)) (fun n r k hk hl => ?_) (fun n r hl => ?_) (n := fuel) (by unfold fuel; omega) (a := d[v]) rfl
 ·simp only [List.set_getElem_self] at this
  rw [this, Option.bind_some]; unfold fixD; rw [getD_of hv]
 ·have hv' : v < (d.set v r).length := by simpa using hv
  have e : ((k : Int) == (x : Int)) = decide (k = x) := by rw [beq_dec, Bool.eq_iff_iff]; simp; omega
  simp only [impl_domains_fix_L1, inb_nat, gd_nat hv', List.getElem_set_self, stt_nat, List.set_set, e, w64_succ (show k < 4611686018427387904 by omega)]
  rw [if_pos (by simp; omega), if_pos (by simpa using hv), if_pos (by omega)]
 ·simp [impl_domains_fix_L1]
end
end T
open Go Go.Va
namespace T
def stepS (a : Net) (v : Nat) (d : Dom) (x : Nat) : Dom := if d2 d v x && emptyD (arcR a (fixD d v x)).1 then set2 d v x else d
def rowS (a : Net) (d : Dom) (v : Nat) : Dom := (List.range a.2.1.toNat).foldl (stepS a v) d
def passS (a : Net) (d : Dom) : Dom := (List.range a.1.toNat).foldl (rowS a) d
def singG (a : Net) : Nat → Dom → Dom
 | 0, d => d
 | k + 1, d => if mu (passS a d) < mu d then singG a k (passS a d) else passS a d
section
variable {a : Net}
def SInv (a : Net) (d0 d : Dom) : Prop := DomOk a d ∧ mu d ≤ mu d0
theorem stepS_inv {v x : Nat} {d0 d : Dom} (h : SInv a d0 d) : SInv a d0 (stepS a v d x) := by
 unfold stepS
 split
 ·rename_i hb
  rw [Bool.and_eq_true] at hb
  exact ⟨set2_ok h.1 (d2_in hb.1).1, by have := mu_set2 hb.1; have := h.2; omega⟩
 ·exact h
theorem rowS_inv {v : Nat} {d0 : Dom} (l : List Nat) {d : Dom} (h : SInv a d0 d) : SInv a d0 (l.foldl (stepS a v) d) := fold_inv (P := SInv a d0) l (fun _ _ _ hs => stepS_inv hs) d h
theorem passS_inv {d0 : Dom} (l : List Nat) {d : Dom} (h : SInv a d0 d) : SInv a d0 (l.foldl (rowS a) d) := fold_inv (P := SInv a d0) l (fun _ _ _ hs => rowS_inv _ hs) d h
theorem singG_ok : ∀ (k : Nat) {d : Dom}, DomOk a d → DomOk a (singG a k d)
 | 0, _, h => h
 | k + 1, d, h => by
  simp only [singG]
  split
  ·exact singG_ok k (passS_inv (d0 := d) _ ⟨h, Nat.le_refl _⟩).1
  ·exact (passS_inv (d0 := d) _ ⟨h, Nat.le_refl _⟩).1
theorem impl_copyOf_ok (hN : NetOk a) {d : Dom} (h : DomOk a d) : impl_domains_copyOf d = some d := by
 have hl := h.len
 have hv := hN.hv
 have hn := hN.hn
 unfold impl_domains_copyOf
 rw [if_pos (by unfold lim; omega)]
 have := fillX0 d (fun n o i => impl_domains_copyOf_L3 n (d, o, (d.length : Int), i)) id some (fun n o k hk hlo => ?_) (fun n o hlo => ?_) (n := fuel) (out := List.replicate (Int.toNat (d.length : Int)) ([] : List Bool)) (by simp) (by unfold fuel; omega)
 ·rw [this]; simp
 ·have hr := h.row _ (List.getElem_mem hk)
  have hko : k < o.length := by omega
  simp only [impl_domains_copyOf_L3, inb_nat, gd_nat hk, stt_nat, w64_succ (show k < 4611686018427387904 by omega)]
  rw [if_pos (by simp; omega), if_pos hk, if_pos (by unfold lim; simp; omega), if_pos hko]; rfl
 ·simp [impl_domains_copyOf_L3]
theorem single_L9 (hN : NetOk a) {v : Nat} (hva : (v : Int) < a.1) {d0 d : Dom} (h : SInv a d0 d) (t12 t13 : Int) :
    impl_singleDomains_L9 fuel ((a.1, (a.2.1, a.2.2)), d, decide (mu d < mu d0), (v : Int), t12, t13, ((a.2.1.toNat : Nat) : Int), 0) = some ((a.1, (a.2.1, a.2.2)), rowS a d v, decide (mu (rowS a d v) < mu d0), t12, t13) := by
  have hn := hN.hn
  have hv9 := hN.hv
  unfold rowS
  obtain ⟨N, hNN⟩ : ∃ N : Nat, a.2.1.toNat = N := ⟨_, rfl⟩
  rw [hNN]
  have := forS N (fun n (s : Dom × Bool) k => impl_singleDomains_L9 n ((a.1, (a.2.1, a.2.2)), s.1, s.2, (v : Int), t12, t13, (N : Int), k)) (fun k => ((List.range k).foldl (stepS a v) d, decide (mu ((List.range k).foldl (stepS a v) d) < mu d0)))
    (r := some ((a.1, (a.2.1, a.2.2)), (List.range N).foldl (stepS a v) d, decide (mu ((List.range N).foldl (stepS a v) d) < mu d0), t12, t13)) (fun n k hk => ?_) (fun n => ?_) (n := fuel) (by unfold fuel; omega)
  · exact this
  · have hin := rowS_inv (v := v) (List.range k) h
    rw [List.range_succ, List.foldl_append, List.foldl_cons, List.foldl_nil]
    generalize (List.range k).foldl (stepS a v) d = s at hin ⊢
    obtain ⟨hok, hle⟩ := hin
    have hvs : v < s.length := by have := hok.len; omega
    have hrow := hok.row _ (List.getElem_mem hvs)
    have hk2 : k < s[v].length := by omega
    have ed : d2 s v k = s[v][k] := by unfold d2; rw [getD_of hvs, getD_of hk2]
    have hfx := fixD_ok (v := v) (x := k) hok
    simp only [impl_singleDomains_L9, inb_nat, gd_nat hvs, gd_nat hk2, impl_copyOf_ok hN hok, impl_fix_ok hN hok hvs k, impl_reduce_ok hN hfx, impl_hasEmpty_ok hN (arcR_ok hN hfx).1, Option.bind_some, stt_nat, w64_succ (show k < 4611686018427387904 by omega), stepS, ed]
    cases hb : s[v][k] with
    | false => simp [hk, hvs, hk2, hb]
    | true =>
      cases emptyD (arcR a (fixD s v k)).1 with
      | false => simp [hk, hvs, hk2, hb]
      | true =>
        have e2 : mu (set2 s v k) < mu d0 := by have := mu_set2 (ed.trans hb); omega
        simp only [Bool.and_self, if_true, e2, decide_true]
        simp [hk, hvs, hk2, hb, set2, getD_of hvs]
  · simp [impl_singleDomains_L9]
theorem single_L6 (hN : NetOk a) {d : Dom} (h : DomOk a d) :
    impl_singleDomains_L6 fuel ((a.1, (a.2.1, a.2.2)), d, false, (d.length : Int), 0) = some ((a.1, (a.2.1, a.2.2)), passS a d, decide (mu (passS a d) < mu d)) := by
  have hn := hN.hn
  have hv9 := hN.hv
  have hl := h.len
  have hi : SInv a d d := ⟨h, Nat.le_refl _⟩
  have := forS a.1.toNat (fun n (s : Dom × Bool) k => impl_singleDomains_L6 n ((a.1, (a.2.1, a.2.2)), s.1, s.2, (d.length : Int), k)) (fun k => ((List.range k).foldl (rowS a) d, decide (mu ((List.range k).foldl (rowS a) d) < mu d)))
    (r := some ((a.1, (a.2.1, a.2.2)), passS a d, decide (mu (passS a d) < mu d))) (fun n k hk => ?_) (fun n => ?_) (n := fuel) (by unfold fuel; omega)
  · simpa using this
  · have hin := passS_inv (List.range k) hi
    rw [List.range_succ, List.foldl_append, List.foldl_cons, List.foldl_nil]
    generalize (List.range k).foldl (rowS a) d = s at hin ⊢
    have hvs : k < s.length := by have := hin.1.len; omega
    have hrow := hin.1.row _ (List.getElem_mem hvs)
    have e0 : ((s[k]).length : Int) = ((a.2.1.toNat : Nat) : Int) := by omega
    have key := single_L9 hN (v := k) (by omega) hin (d.length : Int) (k : Int)
    rw [← e0] at key
    simp only [impl_singleDomains_L6, inb_nat, gd_nat hvs, key, Option.bind_some, w64_succ (show k < 4611686018427387904 by omega)]
    rw [if_pos (by simp; omega), if_pos hvs]
  · simp only [impl_singleDomains_L6]
    rw [if_neg (by simp; omega)]; rfl
theorem single_L3 (hN : NetOk a) : ∀ (k : Nat) (d : Dom), DomOk a d → mu d < k → ∀ n, k + 1 ≤ n → impl_singleDomains_L3 n ((a.1, (a.2.1, a.2.2)), d, true) = some (singG a k d) := by
 intro k
 induction k with
 | zero => intro d _ h; omega
 | succ k ih =>
  intro d hd hmu n hn
  obtain ⟨n, rfl⟩ : ∃ m, n = m + 1 := ⟨n - 1, by omega⟩
  have hp := (passS_inv (d0 := d) (List.range a.1.toNat) ⟨hd, Nat.le_refl _⟩).1
  simp only [impl_singleDomains_L3, if_true, single_L6 hN hd, Option.bind_some, singG]
  by_cases h : mu (passS a d) < mu d
  ·rw [if_pos h, decide_eq_true h]
   exact ih (passS a d) hp (by omega) n (by omega)
  ·rw [if_neg h, decide_eq_false h]
   obtain ⟨n, rfl⟩ : ∃ m, n = m + 1 := ⟨n - 1, by omega⟩
   simp [impl_singleDomains_L3]
theorem fold_valsS {v n : Nat} {d : Dom} (hn : (d.getD v []).length = n) :
    (mk (d.getD v [])).foldl (fun s x => if emptyD (arcR a (fixD s v x.toNat)).1 then set2 s v x.toNat else s) d = (List.range n).foldl (stepS a v) d := by
  have key : ∀ (r0 : List Bool) (l : List Nat) (s : Dom), l.Nodup → (∀ y ∈ l, d2 s v y = r0.getD y false) →
      l.foldl (fun s y => if r0.getD y false = true then (if emptyD (arcR a (fixD s v ((y : Int).toNat))).1 then set2 s v ((y : Int).toNat) else s) else s) s = l.foldl (stepS a v) s := by
    intro r0 l
    induction l with
    | nil => intro s _ _; rfl
    | cons y l ih =>
      intro s hnd hr
      rw [List.foldl_cons, List.foldl_cons]
      rw [List.nodup_cons] at hnd
      have e : (if r0.getD y false = true then (if emptyD (arcR a (fixD s v ((y : Int).toNat))).1 then set2 s v ((y : Int).toNat) else s) else s) = stepS a v s y := by
        unfold stepS
        rw [hr y (by simp), Int.toNat_natCast]
        cases r0.getD y false <;> cases emptyD (arcR a (fixD s v y)).1 <;> simp
      rw [e]
      refine ih _ hnd.2 fun z hz => ?_
      rw [← hr z (List.mem_cons_of_mem _ hz)]
      have hzy : z ≠ y := fun e => hnd.1 (e ▸ hz)
      unfold stepS
      split
      · exact d2_set2 hzy
      · rfl
  rw [← hn]
  have h := key (d.getD v []) (List.range (d.getD v []).length) d List.nodup_range (fun y _ => rfl)
  rw [← h]
  unfold mk
  rw [List.foldl_map, List.foldl_filter]
theorem single_L10 (hN : NetOk a) {v : Nat} (hva : (v : Int) < a.1) {d0 d : Dom} (h : SInv a d0 d) :
    spec_l20Single_L10 fuel ((a.1, (a.2.1, a.2.2)), d.map mk, decide (mu d < mu d0), (v : Int), mk (d.getD v []), 0) = some ((a.1, (a.2.1, a.2.2)), (rowS a d v).map mk, decide (mu (rowS a d v) < mu d0), (v : Int)) := by
  have hn := hN.hn
  have hv9 := hN.hv
  have hvd : v < d.length := by have := h.1.len; omega
  have hrow0 := h.1.row _ (List.getElem_mem hvd)
  have hfv := fold_valsS (a := a) (v := v) (d := d) (n := a.2.1.toNat) (by rw [getD_of hvd]; omega)
  unfold rowS
  rw [← hfv]
  have hcur : ∀ (l : List Nat) (s : Dom), l.Nodup → SInv a d0 s → ∀ (pre : List Nat), True := fun _ _ _ _ _ => trivial
  obtain ⟨vals, hvals⟩ : ∃ vals, mk (d.getD v []) = vals := ⟨_, rfl⟩
  rw [hvals]
  have hvl : vals.length ≤ 4 := by rw [← hvals]; exact Nat.le_trans mk_len (by rw [getD_of hvd]; omega)
  have hnd : vals.Nodup := by
    rw [← hvals]; unfold mk
    exact List.Pairwise.map (fun i : Nat => (i : Int)) (fun a b h e => h (Int.ofNat.inj e)) (List.Pairwise.filter _ List.nodup_range)
  have hin : ∀ y ∈ vals, 0 ≤ y ∧ d2 d v y.toNat = true := fun y hy => by
    rw [← hvals, mem_mk] at hy; exact hy
  let S : Nat → Dom := fun k => (vals.take k).foldl (fun s x => if emptyD (arcR a (fixD s v x.toNat)).1 then set2 s v x.toNat else s) d
  have hS : ∀ k, k ≤ vals.length → SInv a d0 (S k) ∧ ∀ j (hj : j < vals.length), k ≤ j → d2 (S k) v vals[j].toNat = true := by
    intro k
    induction k with
    | zero => intro _; exact ⟨by simpa [S] using h, fun j hj _ => by simpa [S] using (hin _ (List.getElem_mem hj)).2⟩
    | succ k ih =>
      intro hk
      obtain ⟨h1, h2⟩ := ih (by omega)
      have hcurr := h2 k (by omega) (Nat.le_refl _)
      have e : S (k + 1) = if emptyD (arcR a (fixD (S k) v (vals[k]'(by omega)).toNat)).1 then set2 (S k) v (vals[k]'(by omega)).toNat else S k := by
        simp only [S]; rw [List.take_succ_eq_append_getElem (by omega), List.foldl_append]; rfl
      rw [e]
      split
      · refine ⟨⟨set2_ok h1.1 (d2_in hcurr).1, by have := mu_set2 hcurr; have := h1.2; omega⟩, fun j hj hkj => ?_⟩
        have hne : vals[j] ≠ vals[k]'(by omega) := fun e => by
          have := (List.getElem_inj hnd).1 e; omega
        have h3 := (hin _ (List.getElem_mem hj)).1
        have h4 := (hin _ (List.getElem_mem (show k < vals.length by omega))).1
        rw [d2_set2 (by omega)]
        exact h2 j hj (by omega)
      · exact ⟨h1, fun j hj hkj => h2 j hj (by omega)⟩
  have := forS vals.length (fun n (s : Dom × Bool) k => spec_l20Single_L10 n ((a.1, (a.2.1, a.2.2)), s.1.map mk, s.2, (v : Int), vals, k)) (fun k => (S k, decide (mu (S k) < mu d0)))
    (r := some ((a.1, (a.2.1, a.2.2)), (S vals.length).map mk, decide (mu (S vals.length) < mu d0), (v : Int))) (fun n k hk => ?_) (fun n => ?_) (n := fuel) (by unfold fuel; omega)
  · have e0 : S 0 = d := rfl
    have e1 : S vals.length = vals.foldl (fun s x => if emptyD (arcR a (fixD s v x.toNat)).1 then set2 s v x.toNat else s) d := by simp only [S]; rw [List.take_length]
    rw [e1] at this
    dsimp only at this
    rw [e0] at this
    exact this
  · obtain ⟨hsi, hcu⟩ := hS k (by omega)
    have hcu := hcu k hk (Nat.le_refl _)
    have e : S (k + 1) = if emptyD (arcR a (fixD (S k) v (vals[k]'(by omega)).toNat)).1 then set2 (S k) v (vals[k]'(by omega)).toNat else S k := by
      simp only [S]; rw [List.take_succ_eq_append_getElem (by omega), List.foldl_append]; rfl
    simp only [e]
    generalize S k = s at hsi hcu ⊢
    obtain ⟨hok, hle⟩ := hsi
    have hvs : v < s.length := by have := hok.len; omega
    have hvs' : v < (s.map mk).length := by simpa using hvs
    have hrow := hok.row _ (List.getElem_mem hvs)
    have hx := (hin _ (List.getElem_mem hk)).1
    have ex : vals[k] = ((vals[k].toNat : Nat) : Int) := by omega
    have hxl : vals[k].toNat < s[v].length := by have := (d2_in hcu).2; rwa [getD_of hvs] at this
    have hfx := fixD_ok (v := v) (x := vals[k].toNat) hok
    have hfm := fixD_map hvs hxl
    rw [← ex] at hfm
    have hw := spec_l20Without_ok (l := mk s[v]) (x := vals[k]) (Nat.le_trans mk_len (by omega))
    have hmk : (mk s[v]).filter (fun y => y != vals[k]) = mk ((s.getD v []).set vals[k].toNat false) := by rw [mk_set, getD_of hvs, ← ex]
    have hl1 : (s.map mk).length ≤ lim := by have := hok.len; unfold lim; simp; omega
    simp only [spec_l20Single_L10, inb_nat, gd_nat hk, List.nil_append, hvs', stt_nat, ← hfm, spec_l20Arc_ok hN hfx, spec_l20Empty_ok hN (arcR_ok hN hfx).1, Option.bind_some, gd_nat hvs', List.getElem_map, hw, hmk, w64_succ (show k < 4611686018427387904 by omega)]
    cases emptyD (arcR a (fixD s v vals[k].toNat)).1 with
    | false =>
      simp only [Bool.false_eq_true, if_false]
      rw [if_pos (by simp; omega), if_pos (by simpa using hl1), if_pos hk, if_pos trivial]
    | true =>
      have e2 : mu (set2 s v vals[k].toNat) < mu d0 := by have := mu_set2 hcu; omega
      simp only [if_true, set2_map, e2, decide_true]
      rw [if_pos (by simp; omega), if_pos (by simpa using hl1), if_pos hk]
      simp [hk]
  · simp [spec_l20Single_L10]
theorem spec_single_L6 (hN : NetOk a) {d : Dom} (h : DomOk a d) :
    spec_l20Single_L6 fuel ((a.1, (a.2.1, a.2.2)), d.map mk, false, 0) = some ((a.1, (a.2.1, a.2.2)), (passS a d).map mk, decide (mu (passS a d) < mu d)) := by
  have hv9 := hN.hv
  have hl := h.len
  have hi : SInv a d d := ⟨h, Nat.le_refl _⟩
  have := forS a.1.toNat (fun n (s : Dom × Bool) k => spec_l20Single_L6 n ((a.1, (a.2.1, a.2.2)), s.1.map mk, s.2, k)) (fun k => ((List.range k).foldl (rowS a) d, decide (mu ((List.range k).foldl (rowS a) d) < mu d)))
    (r := some ((a.1, (a.2.1, a.2.2)), (passS a d).map mk, decide (mu (passS a d) < mu d))) (fun n k hk => ?_) (fun n => ?_) (n := fuel) (by unfold fuel; omega)
  · simpa using this
  · have hin := passS_inv (List.range k) hi
    rw [List.range_succ, List.foldl_append, List.foldl_cons, List.foldl_nil]
    generalize (List.range k).foldl (rowS a) d = s at hin ⊢
    have hvs : k < s.length := by have := hin.1.len; omega
    have hvs' : k < (s.map mk).length := by simpa using hvs
    have key := single_L10 hN (v := k) (by omega) hin
    rw [getD_of hvs] at key
    simp only [spec_l20Single_L6, inb_nat, gd_nat hvs', List.getElem_map, key, Option.bind_some, w64_succ (show k < 4611686018427387904 by omega)]
    rw [if_pos (by simp; omega), if_pos hvs']
  · simp only [spec_l20Single_L6]
    rw [if_neg (by simp; omega)]; rfl
theorem spec_single_L3 (hN : NetOk a) : ∀ (k : Nat) (d : Dom), DomOk a d → mu d < k → ∀ n, k + 1 ≤ n → spec_l20Single_L3 n ((a.1, (a.2.1, a.2.2)), d.map mk, true) = some ((singG a k d).map mk) := by
 intro k
 induction k with
 | zero => intro d _ h; omega
 | succ k ih =>
  intro d hd hmu n hn
  obtain ⟨n, rfl⟩ : ∃ m, n = m + 1 := ⟨n - 1, by omega⟩
  have hp := (passS_inv (d0 := d) (List.range a.1.toNat) ⟨hd, Nat.le_refl _⟩).1
  simp only [spec_l20Single_L3, if_true, spec_single_L6 hN hd, Option.bind_some, singG]
  by_cases h : mu (passS a d) < mu d
  ·rw [if_pos h, decide_eq_true h]
   exact ih (passS a d) hp (by omega) n (by omega)
  ·rw [if_neg h, decide_eq_false h]
   obtain ⟨n, rfl⟩ : ∃ m, n = m + 1 := ⟨n - 1, by omega⟩
   simp [spec_l20Single_L3]
end
end T
set_option linter.unusedVariables false
open Go Go.Va
namespace T
def spec_l13Has (r : Int × (List (List Int))) (t : List Int) : Option (Bool) :=
 if (t.length : Int) != r.1 then
  some false
 else
  (spec_l8Find r.2 t).bind fun r1 =>
   some r1.2
def spec_l19Satisfies_L3 : Nat → ((List Int) × ((List Int) × Int × (List (List Int))) × (List Int) × Int) → Option (((List Int) × Int × (List (List Int))) × (List Int))
 | 0, _ => none
 | n + 1, (values, c, t, i) =>
  if decide (i < (c.1.length : Int)) then
   if inb i c.1 then
    if inb (gd c.1 i 0) values then
     if t.length + [gd values (gd c.1 i 0) 0].length ≤ lim then
      spec_l19Satisfies_L3 n (values, (c.1, (c.2.1, c.2.2)), t ++ [gd values (gd c.1 i 0) 0], w64 (i + 1))
     else none
    else none
   else none
  else
   some ((c.1, (c.2.1, c.2.2)), t)
def spec_l19Satisfies (c : (List Int) × Int × (List (List Int))) (values : List Int) : Option (Bool) :=
 (spec_l19Satisfies_L3 fuel (values, (c.1, (c.2.1, c.2.2)), [], 0)).bind fun s1 =>
  (spec_l13Has (s1.1.2.1, s1.1.2.2) s1.2).bind fun r2 =>
   some r2
def impl_compose_L3 : Nat → ((List Int) × (List Int) × (List Int) × Int × Int) → Option ((List Int))
 | 0, _ => none
 | n + 1, (g, h, t11, t12, t13) =>
  if decide (t13 < t12) then
   if inb t13 t11 then
    if inb (gd t11 t13 0) g then
     if inb t13 h then
      impl_compose_L3 n (g, stt h t13 (gd g (gd t11 t13 0) 0), t11, t12, w64 (t13 + 1))
     else none
    else none
   else none
  else
   some h
def impl_compose (f : List Int) (g : List Int) : Option ((List Int)) :=
 if 0 ≤ (f.length : Int) ∧ (f.length : Int) ≤ (f.length : Int) ∧ (f.length : Int) ≤ lim then
  (impl_compose_L3 fuel (g, List.replicate (Int.toNat (f.length : Int)) (0 : Int), f, (f.length : Int), 0)).bind fun s1 =>
   some s1
 else none
end T
open Go Go.Va
namespace T
def valI (vs : List Int) (v : Int) : Int := vs.getD v.toNat 0
def conH (vs : List Int) (c : Con) : Bool := decide (c.1.map (valI vs) ∈ c.2.2)
section
variable {a : Net}
theorem impl_compose_ok {f g : List Int} (hf : f.length ≤ 1048576) (hg : ∀ v ∈ f, 0 ≤ v ∧ v < g.length) : impl_compose f g = some (f.map (valI g)) := by
 unfold impl_compose
 rw [if_pos (by unfold lim; omega)]
 have := fillX0 f (fun n o i => impl_compose_L3 n (g, o, f, (f.length : Int), i)) (valI g) some (fun n o k hk hlo => ?_) (fun n o hlo => ?_) (n := fuel) (out := List.replicate (Int.toNat (f.length : Int)) (0 : Int)) (by simp) (by unfold fuel; omega)
 ·simp only [this, Option.bind_some]
 ·have hko : k < o.length := by omega
  have hv := hg _ (List.getElem_mem hk)
  have e : gd g f[k] 0 = valI g f[k] := rfl
  simp only [impl_compose_L3, inb_nat, gd_nat hk, stt_nat, w64_succ (show k < 4611686018427387904 by omega), e]
  rw [if_pos (by simp; omega), if_pos hk, if_pos (show inb f[k] g from hv), if_pos hko]
 ·simp [impl_compose_L3]
theorem spec_l19Satisfies_ok {v n : Int} {c : Con} (h : ConOk v n c) {vs : List Int} (hv : (vs.length : Int) = v) : spec_l19Satisfies c vs = some (conH vs c) := by
 unfold spec_l19Satisfies
 have hsl := h.sl
 have har := h.ar
 have hm := h.many
 have := forS c.1.length (fun n (o : List Int) i => spec_l19Satisfies_L3 n (vs, (c.1, (c.2.1, c.2.2)), o, i)) (fun k => (c.1.take k).map (valI vs)) (r := some ((c.1, (c.2.1, c.2.2)), c.1.map (valI vs))) (fun n k hk => ?_) (fun n => ?_) (n := fuel) (by unfold fuel; omega)
 ·simp only [List.take_zero, List.map_nil] at this
  simp only [this, Option.bind_some]
  unfold spec_l13Has
  have hl : ((c.1.map (valI vs)).length : Int) = c.2.1 := by rw [List.length_map]; exact hsl
  rw [if_neg (by simpa using hsl)]
  obtain ⟨q, e, _⟩ := spec_l8Find_ok (list := c.2.2) (t := c.1.map (valI vs)) (k := c.1.length) (by omega) (by omega) h.tl (by simp) h.inc
  simp only [e, Option.bind_some]; rfl
 ·have hvk := h.sv k hk
  have e : gd vs c.1[k] 0 = valI vs c.1[k] := rfl
  have hi : inb c.1[k] vs := by unfold inb; omega
  simp only [spec_l19Satisfies_L3, inb_nat, gd_nat hk, e, w64_succ (show k < 4611686018427387904 by omega)]
  rw [List.take_succ_eq_append_getElem hk, List.map_append]
  rw [if_pos (by simp; omega), if_pos hk, if_pos hi, if_pos (by unfold lim; simp; omega)]; rfl
 ·simp only [spec_l19Satisfies_L3, List.take_length]
  rw [if_neg (by simp)]
end
end T
open Go Go.Va
namespace T
abbrev T3 := List (List (List Bool))
abbrev T4 := List (List (List (List Bool)))
def Cell4 (s : Nat) (c : List (List Bool)) : Prop := c.length = s ∧ ∀ x, x < s → (c.getD x []).length = s
def Row4 (n s : Nat) (r : T3) : Prop := r.length = n ∧ ∀ j, j < n → Cell4 s (r.getD j [])
def Ok4 (n s : Nat) (t : T4) : Prop := t.length = n ∧ ∀ i, i < n → Row4 n s (t.getD i [])
def r4 (t : T4) (i j x y : Nat) : Bool := (((t.getD i []).getD j []).getD x []).getD y false
def s4 (t : T4) (i j x y : Nat) (b : Bool) : T4 := t.set i ((t.getD i []).set j (((t.getD i []).getD j []).set x ((((t.getD i []).getD j []).getD x []).set y b)))
def Ok3 (n m : Nat) (u : T3) : Prop := u.length = n ∧ ∀ i, i < n → (u.getD i []).length = n ∧ ∀ j, j < n → ((u.getD i []).getD j []).length = m
def r3 (u : T3) (i j p : Nat) : Bool := ((u.getD i []).getD j []).getD p false
def s3 (u : T3) (i j p : Nat) (b : Bool) : T3 := u.set i ((u.getD i []).set j (((u.getD i []).getD j []).set p b))
section
variable {n s m : Nat} {t : T4} {u : T3}
theorem Ok4.at (h : Ok4 n s t) {i j x : Nat} (hi : i < n) (hj : j < n) (hx : x < s) : i < t.length ∧ j < (t.getD i []).length ∧ x < ((t.getD i []).getD j []).length ∧ (((t.getD i []).getD j []).getD x []).length = s :=
 ⟨by rw [h.1]; exact hi, by rw [(h.2 i hi).1]; exact hj, by rw [((h.2 i hi).2 j hj).1]; exact hx, ((h.2 i hi).2 j hj).2 x hx⟩
theorem Ok3.at (h : Ok3 n m u) {i j : Nat} (hi : i < n) (hj : j < n) : i < u.length ∧ j < (u.getD i []).length ∧ ((u.getD i []).getD j []).length = m :=
 ⟨by rw [h.1]; exact hi, by rw [(h.2 i hi).1]; exact hj, (h.2 i hi).2 j hj⟩
theorem s4_ok (h : Ok4 n s t) {i j x y : Nat} {b : Bool} : Ok4 n s (s4 t i j x y b) := by
 unfold s4
 refine ⟨by rw [List.length_set]; exact h.1, fun i' hi' => ?_⟩
 rw [getD_set_of]
 split
 ·rename_i hc
  obtain ⟨rfl, _⟩ := hc
  have hr := h.2 i hi'
  refine ⟨by rw [List.length_set]; exact hr.1, fun j' hj' => ?_⟩
  rw [getD_set_of]
  split
  ·rename_i hc
   obtain ⟨rfl, _⟩ := hc
   have hcl := hr.2 j hj'
   refine ⟨by rw [List.length_set]; exact hcl.1, fun x' hx' => ?_⟩
   rw [getD_set_of]
   split
   ·rename_i hc
    obtain ⟨rfl, _⟩ := hc
    rw [List.length_set]; exact hcl.2 x hx'
   ·exact hcl.2 x' hx'
  ·exact hr.2 j' hj'
 ·exact h.2 i' hi'
theorem s3_ok (h : Ok3 n m u) {i j p : Nat} {b : Bool} : Ok3 n m (s3 u i j p b) := by
 unfold s3
 refine ⟨by rw [List.length_set]; exact h.1, fun i' hi' => ?_⟩
 rw [getD_set_of]
 split
 ·rename_i hc
  obtain ⟨rfl, _⟩ := hc
  have hr := h.2 i hi'
  refine ⟨by rw [List.length_set]; exact hr.1, fun j' hj' => ?_⟩
  rw [getD_set_of]
  split
  ·rename_i hc
   obtain ⟨rfl, _⟩ := hc
   rw [List.length_set]; exact hr.2 j hj'
  ·exact hr.2 j' hj'
 ·exact h.2 i' hi'
theorem r4_s4 (h : Ok4 n s t) {i j x y : Nat} {b : Bool} (hi : i < n) (hj : j < n) (hx : x < s) (hy : y < s) (i' j' x' y' : Nat) :
    r4 (s4 t i j x y b) i' j' x' y' = if i = i' ∧ j = j' ∧ x = x' ∧ y = y' then b else r4 t i' j' x' y' := by
  obtain ⟨h1, h2, h3, h4⟩ := h.at hi hj hx
  unfold r4 s4
  rw [getD_set_of]
  by_cases e1 : i = i'
  · subst e1
    rw [if_pos ⟨rfl, h1⟩, getD_set_of]
    by_cases e2 : j = j'
    · subst e2
      rw [if_pos ⟨rfl, h2⟩, getD_set_of]
      by_cases e3 : x = x'
      · subst e3
        rw [if_pos ⟨rfl, h3⟩, getD_set_of]
        by_cases e4 : y = y'
        · subst e4; rw [if_pos ⟨rfl, by omega⟩, if_pos ⟨rfl, rfl, rfl, rfl⟩]
        · rw [if_neg (by omega), if_neg (by omega)]
      · rw [if_neg (by omega), if_neg (by omega)]
    · rw [if_neg (by omega), if_neg (by omega)]
  · rw [if_neg (by omega), if_neg (by omega)]
theorem r3_s3 (h : Ok3 n m u) {i j p : Nat} {b : Bool} (hi : i < n) (hj : j < n) (hp : p < m) (i' j' p' : Nat) :
    r3 (s3 u i j p b) i' j' p' = if i = i' ∧ j = j' ∧ p = p' then b else r3 u i' j' p' := by
  obtain ⟨h1, h2, h3⟩ := h.at hi hj
  unfold r3 s3
  rw [getD_set_of]
  by_cases e1 : i = i'
  · subst e1
    rw [if_pos ⟨rfl, h1⟩, getD_set_of]
    by_cases e2 : j = j'
    · subst e2
      rw [if_pos ⟨rfl, h2⟩, getD_set_of]
      by_cases e3 : p = p'
      · subst e3; rw [if_pos ⟨rfl, by omega⟩, if_pos ⟨rfl, rfl, rfl⟩]
      · rw [if_neg (by omega), if_neg (by omega)]
    · rw [if_neg (by omega), if_neg (by omega)]
  · rw [if_neg (by omega), if_neg (by omega)]
end
structure Rel34 (n s : Nat) (t : T4) (u : T3) : Prop where
 o4 : Ok4 n s t
 o3 : Ok3 n (s * s) u
 eq : ∀ i j x y, i < j → j < n → x < s → y < s → r4 t i j x y = r3 u i j (x * s + y) ∧ r4 t j i y x = r3 u i j (x * s + y)
theorem cell_lt {s x y : Nat} (hx : x < s) (hy : y < s) : x * s + y < s * s := by
 have : (x + 1) * s ≤ s * s := Nat.mul_le_mul_right _ hx
 rw [Nat.succ_mul] at this; omega
theorem cell_inj {s x y x' y' : Nat} (hy : y < s) (hy' : y' < s) (h : x * s + y = x' * s + y') : x = x' ∧ y = y' := by
 have h1 : (x * s + y) / s = x := by rw [Nat.mul_comm, Nat.mul_add_div (by omega), Nat.div_eq_of_lt hy]; omega
 have h2 : (x' * s + y') / s = x' := by rw [Nat.mul_comm, Nat.mul_add_div (by omega), Nat.div_eq_of_lt hy']; omega
 have : x = x' := by rw [← h1, ← h2, h]
 subst this
 exact ⟨rfl, by omega⟩
theorem Rel34.drop {n s : Nat} {t : T4} {u : T3} (h : Rel34 n s t u) {i j x y : Nat} (hij : i < j) (hj : j < n) (hx : x < s) (hy : y < s) :
    Rel34 n s (s4 (s4 t i j x y false) j i y x false) (s3 u i j (x * s + y) false) := by
  refine ⟨s4_ok (s4_ok h.o4), s3_ok h.o3, fun i' j' x' y' h1 h2 h3 h4 => ?_⟩
  have hi : i < n := by omega
  rw [r4_s4 (s4_ok h.o4) hj hi hy hx, r4_s4 h.o4 hi hj hx hy, r4_s4 (s4_ok h.o4) hj hi hy hx, r4_s4 h.o4 hi hj hx hy, r3_s3 h.o3 hi hj (cell_lt hx hy)]
  obtain ⟨e1, e2⟩ := h.eq i' j' x' y' h1 h2 h3 h4
  by_cases e : i = i' ∧ j = j' ∧ x = x' ∧ y = y'
  · obtain ⟨rfl, rfl, rfl, rfl⟩ := e
    simp
  · have e3 : ¬ (i = i' ∧ j = j' ∧ x * s + y = x' * s + y') := fun ⟨q1, q2, q3⟩ => by
      have := cell_inj hy h4 q3
      exact e ⟨q1, q2, this.1, this.2⟩
    have e4 : ¬ (j = i' ∧ i = j' ∧ y = x' ∧ x = y') := by omega
    have e5 : ¬ (i = j' ∧ j = i' ∧ x = y' ∧ y = x') := by omega
    have e6 : ¬ (j = j' ∧ i = i' ∧ y = y' ∧ x = x') := by omega
    simp only [if_neg e, if_neg e3, if_neg e4, if_neg e5, if_neg e6]
    exact ⟨e1, e2⟩
end T
open Go Go.Va
namespace T
section
variable {a : Net} {n s : Nat} {t : T4} {u : T3}
def PA (n s i : Nat) (t : T4) : Prop := t.length = n ∧ ∀ i', i' < i → Row4 n s (t.getD i' [])
def PB (n s i j : Nat) (t : T4) : Prop := PA n s i t ∧ (t.getD i []).length = n ∧ ∀ j', j' < j → Cell4 s ((t.getD i []).getD j' [])
theorem PA.set {i : Nat} (h : PA n s i t) (r : T3) : PA n s i (t.set i r) := by
 refine ⟨by rw [List.length_set]; exact h.1, fun i' hi' => ?_⟩
 rw [getD_set_of, if_neg (by omega)]; exact h.2 i' hi'
theorem PB.set {i j : Nat} (h : PB n s i j t) (hi : i < n) (c : List (List Bool)) : PB n s i j (t.set i ((t.getD i []).set j c)) := by
 have hl := h.1.1
 refine ⟨h.1.set _, ?_, fun j' hj' => ?_⟩
 ·rw [getD_set_of, if_pos ⟨rfl, by omega⟩, List.length_set]; exact h.2.1
 ·rw [getD_set_of, if_pos ⟨rfl, by omega⟩, getD_set_of, if_neg (by omega)]; exact h.2.2 j' hj'
end
end T
set_option linter.unusedVariables false
open Go Go.Va
namespace T
def impl_keyOf_L3 : Nat → ((List Int) × (List Int) × Int × Int) → Option ((List Int))
 | 0, _ => none
 | n + 1, (b, t10, t11, t12) =>
  if decide (t12 < t11) then
   if inb t12 t10 then
    if (0 : Int) ≤ 8 then
     if b.length + [IntKind.wrap .u8 (shrI .i64 (gd t10 t12 0) 8), IntKind.wrap .u8 (gd t10 t12 0)].length ≤ lim then
      impl_keyOf_L3 n (b ++ [IntKind.wrap .u8 (shrI .i64 (gd t10 t12 0) 8), IntKind.wrap .u8 (gd t10 t12 0)], t10, t11, w64 (t12 + 1))
     else none
    else none
   else none
  else
   some b
def impl_keyOf (list : List Int) : Option (ByteArray) :=
 if (0 : Int) ≤ 0 ∧ (0 : Int) ≤ (w64 (2 * (list.length : Int))) ∧ (w64 (2 * (list.length : Int))) ≤ lim then
  (impl_keyOf_L3 fuel (List.replicate (Int.toNat 0) (0 : Int), list, (list.length : Int), 0)).bind fun s1 =>
   some (bytesOf s1)
 else none
def impl_tupleSet_L3 : Nat → ((List ByteArray) × (List (List Int)) × Int × Int) → Option ((List ByteArray))
 | 0, _ => none
 | n + 1, (set, t8, t9, t10) =>
  if decide (t10 < t9) then
   if inb t10 t8 then
    (impl_keyOf (gd t8 t10 [])).bind fun r1 =>
     impl_tupleSet_L3 n (mput set r1, t8, t9, w64 (t10 + 1))
   else none
  else
   some set
def impl_tupleSet (r : Int × (List (List Int))) : Option ((List ByteArray)) :=
 (impl_tupleSet_L3 fuel ([], r.2, (r.2.length : Int), 0)).bind fun s1 =>
  some s1
end T
open Go Go.Va
namespace T
def kb (l : List Int) : List Int := l.flatMap fun x => [0, x]
def keyB (l : List Int) : ByteArray := bytesOf (kb l)
theorem u8_small {x : Int} (h0 : 0 ≤ x) (h1 : x < 256) : IntKind.wrap .u8 x = x := by
 simp [IntKind.wrap, IntKind.bits, IntKind.signed]
 omega
theorem shr_small {x : Int} (h0 : 0 ≤ x) (h1 : x < 256) : shrI .i64 x 8 = 0 := by
 unfold shrI
 have : (min (8 : Int).toNat IntKind.i64.bits) = 8 := by decide
 rw [this, Int.fdiv_eq_ediv_of_nonneg _ (by decide)]
 have : (2 : Int) ^ 8 = 256 := by decide
 rw [this]; omega
theorem impl_keyOf_ok {l : List Int} (hl : l.length ≤ 1048576) (hv : ∀ x ∈ l, 0 ≤ x ∧ x < 256) : impl_keyOf l = some (keyB l) := by
 unfold impl_keyOf
 have e2 : w64 (2 * (l.length : Int)) = 2 * (l.length : Int) := w64_id (by omega) (by omega)
 rw [e2, if_pos (by unfold lim; omega)]
 have kbl : ∀ k, k ≤ l.length → (kb (l.take k)).length = 2 * k := by
  intro k hk
  have : ∀ l : List Int, (kb l).length = 2 * l.length := by
   intro l
   induction l with
   | nil => rfl
   | cons x l ih => unfold kb at ih ⊢; simp only [List.flatMap_cons, List.length_append, ih, List.length_cons, List.length_nil]; omega
  rw [this]; simp; omega
 have := forS l.length (fun m o i => impl_keyOf_L3 m (o, l, (l.length : Int), i)) (fun k => kb (l.take k)) (r := some (kb l)) (fun m k hk => ?_) (fun m => ?_) (n := fuel) (by unfold fuel; omega)
 ·have e0 : kb (l.take 0) = [] := rfl
  rw [e0] at this
  have : impl_keyOf_L3 fuel (List.replicate (Int.toNat 0) (0 : Int), l, (l.length : Int), 0) = some (kb l) := this
  rw [this]; rfl
 ·have hx := hv _ (List.getElem_mem hk)
  have hlen := kbl k (by omega)
  have e : kb (l.take (k + 1)) = kb (l.take k) ++ [0, l[k]] := by
   unfold kb; rw [List.take_succ_eq_append_getElem hk, List.flatMap_append]; simp
  simp only [impl_keyOf_L3, inb_nat, gd_nat hk, w64_succ (show k < 4611686018427387904 by omega), u8_small hx.1 hx.2, shr_small hx.1 hx.2, u8_small (show (0 : Int) ≤ 0 by omega) (show (0 : Int) < 256 by omega), e]
  rw [if_pos (by simp; omega), if_pos hk, if_pos (by omega), if_pos (by unfold lim; simp; omega)]
 ·simp only [impl_keyOf_L3, List.take_length]
  rw [if_neg (by simp)]
theorem bytes_data : ∀ (xs : List Int) (s : ByteArray), (xs.foldl (fun s n => s.push (UInt8.ofNat n.toNat)) s).data = s.data ++ (xs.map fun n => UInt8.ofNat n.toNat).toArray
 | [], s => by simp
 | x :: xs, s => by
  rw [List.foldl_cons, bytes_data xs]
  apply Array.ext'
  simp [ByteArray.push]
theorem kb_inj : ∀ (l l' : List Int), (∀ x ∈ l, 0 ≤ x ∧ x < 256) → (∀ x ∈ l', 0 ≤ x ∧ x < 256) → (kb l).map (fun n => UInt8.ofNat n.toNat) = (kb l').map (fun n => UInt8.ofNat n.toNat) → l = l'
 | [], [], _, _, _ => rfl
 | [], y :: l', _, _, h => by simp [kb] at h
 | x :: l, [], _, _, h => by simp [kb] at h
 | x :: l, y :: l', hv, hv', h => by
  simp only [kb, List.flatMap_cons, List.map_append, List.map_cons, List.map_nil, List.cons_append, List.nil_append, List.cons.injEq, true_and] at h
  obtain ⟨h1, h2⟩ := h
  have hx := hv x (by simp)
  have hy := hv' y (by simp)
  have h1 := congrArg UInt8.toNat h1
  simp only [UInt8.toNat_ofNat'] at h1
  have : x = y := by omega
  rw [this, kb_inj l l' (fun z hz => hv z (List.mem_cons_of_mem _ hz)) (fun z hz => hv' z (List.mem_cons_of_mem _ hz)) h2]
theorem keyB_inj {l l' : List Int} (hv : ∀ x ∈ l, 0 ≤ x ∧ x < 256) (hv' : ∀ x ∈ l', 0 ≤ x ∧ x < 256) (h : keyB l = keyB l') : l = l' := by
 have h := congrArg ByteArray.data h
 unfold keyB bytesOf at h
 rw [bytes_data, bytes_data] at h
 have h := congrArg Array.toList h
 simp only [Array.toList_append] at h
 exact kb_inj l l' hv hv' (List.append_cancel_left h)
theorem ba_eq' {a b : ByteArray} : (a == b) = decide (a = b) := by
 show (a.data == b.data) = _
 rw [Bool.eq_iff_iff, beq_iff_eq, decide_eq_true_eq]
 exact ⟨fun h => ByteArray.ext h, fun h => congrArg ByteArray.data h⟩
theorem mhas_mem {ks : List ByteArray} {s : ByteArray} : mhas ks s = true ↔ s ∈ ks := by
 unfold mhas
 rw [List.any_eq_true]
 constructor
 ·rintro ⟨k, h1, h2⟩; rw [ba_eq', decide_eq_true_eq] at h2; subst h2; exact h1
 ·intro h; exact ⟨s, h, by rw [ba_eq']; simp⟩
theorem mput_mem {ks : List ByteArray} {s t : ByteArray} : t ∈ mput ks s ↔ t ∈ ks ∨ t = s := by
 unfold mput
 by_cases h : mhas ks s = true
 ·rw [if_pos h]
  exact ⟨.inl, fun h' => h'.elim id fun e => e ▸ mhas_mem.1 h⟩
 ·rw [if_neg h]; simp
def keys (l : List (List Int)) : List ByteArray := l.foldl (fun ks t => mput ks (keyB t)) []
theorem keys_mem {l : List (List Int)} {s : ByteArray} : s ∈ keys l ↔ ∃ t ∈ l, s = keyB t := by
 have key : ∀ (l : List (List Int)) (ks : List ByteArray), s ∈ l.foldl (fun ks t => mput ks (keyB t)) ks ↔ s ∈ ks ∨ ∃ t ∈ l, s = keyB t := by
  intro l
  induction l with
  | nil => intro ks; simp
  | cons t l ih =>
   intro ks
   rw [List.foldl_cons, ih, mput_mem]
   simp only [List.mem_cons, exists_eq_or_imp, or_assoc]
 unfold keys; rw [key]; simp
theorem impl_tupleSet_ok {r : Int × List (List Int)} (hl : r.2.length ≤ 1048576) (hv : ∀ t ∈ r.2, t.length ≤ 1048576 ∧ ∀ x ∈ t, 0 ≤ x ∧ x < 256) : impl_tupleSet r = some (keys r.2) := by
 unfold impl_tupleSet
 have := forS r.2.length (fun m o i => impl_tupleSet_L3 m (o, r.2, (r.2.length : Int), i)) (fun k => keys (r.2.take k)) (r := some (keys r.2)) (fun m k hk => ?_) (fun m => ?_) (n := fuel) (by unfold fuel; omega)
 ·have e0 : keys (r.2.take 0) = [] := rfl
  rw [e0] at this
  simp only [this, Option.bind_some]
 ·obtain ⟨h1, h2⟩ := hv _ (List.getElem_mem hk)
  have e : keys (r.2.take (k + 1)) = mput (keys (r.2.take k)) (keyB r.2[k]) := by
   unfold keys; rw [List.take_succ_eq_append_getElem hk, List.foldl_append]; rfl
  simp only [impl_tupleSet_L3, inb_nat, gd_nat hk, w64_succ (show k < 4611686018427387904 by omega), impl_keyOf_ok h1 h2, Option.bind_some, e]
  rw [if_pos (by simp; omega), if_pos hk]
 ·simp only [impl_tupleSet_L3, List.take_length]
  rw [if_neg (by simp)]
theorem mhas_keys {l : List (List Int)} {t : List Int} (hl : ∀ t ∈ l, ∀ x ∈ t, 0 ≤ x ∧ x < 256) (ht : ∀ x ∈ t, 0 ≤ x ∧ x < 256) : mhas (keys l) (keyB t) = decide (t ∈ l) := by
 rw [Bool.eq_iff_iff, mhas_mem, decide_eq_true_eq, keys_mem]
 constructor
 ·rintro ⟨u, h1, h2⟩; rw [keyB_inj ht (hl u h1) h2]; exact h1
 ·intro h; exact ⟨t, h, rfl⟩
end T
set_option linter.unusedVariables false
open Go Go.Va
namespace T
def spec_l14Free_L3 : Nat → (Int × (List Int) × Int) → Option ((List Int))
 | 0, _ => none
 | n + 1, (size, out, i) =>
  if decide (i < size) then
   if out.length + [(-1)].length ≤ lim then
    spec_l14Free_L3 n (size, out ++ [(-1)], w64 (i + 1))
   else none
  else
   some out
def spec_l14Free (size : Int) : Option ((List Int)) :=
 (spec_l14Free_L3 fuel (size, [], 0)).bind fun s1 =>
  some s1
def spec_l1Most (a : Int) (b : Int) : Option (Int) :=
 if decide (a > b) then
  some a
 else
  some b
def impl_freeTable_L3 : Nat → ((List Int) × Int × Int) → Option ((List Int))
 | 0, _ => none
 | n + 1, (list, t8, t9) =>
  if decide (t9 < t8) then
   if inb t9 list then
    impl_freeTable_L3 n (stt list t9 (-1), t8, w64 (t9 + 1))
   else none
  else
   some list
def impl_freeTable (many : Int) : Option ((List Int)) :=
 if 0 ≤ many ∧ many ≤ many ∧ many ≤ lim then
  (impl_freeTable_L3 fuel (List.replicate (Int.toNat many) (0 : Int), ((List.replicate (Int.toNat many) (0 : Int)).length : Int), 0)).bind fun s1 =>
   some s1
 else none
end T
open Go Go.Va
namespace T
abbrev RelT := Int × List (List Int)
section
variable {n k m : Nat} {r : RelT}
end
end T
open Go Go.Va
namespace T
section
variable {n k m : Nat} {r : RelT} {rels : List RelT}
theorem spec_l1Most_nat (a b : Nat) : spec_l1Most (a : Int) (b : Int) = some ((max a b : Nat) : Int) := by
 unfold spec_l1Most
 by_cases h : (a : Int) > (b : Int)
 ·rw [if_pos (by simpa using h)]; congr 2; omega
 ·rw [if_neg (by simpa using h)]; congr 2; omega
end
end T
open Go Go.Va
namespace T
def foldU {σ : Type} (cb : List Int → σ → Option (σ × Bool)) : List (List Int) → σ → Option (σ × Bool)
 | [], s => some (s, true)
 | t :: l, s => match cb t s with | some (s', true) => foldU cb l s' | some (s', false) => some (s', false) | none => none
theorem foldU_append {σ : Type} {cb : List Int → σ → Option (σ × Bool)} : ∀ (l l' : List (List Int)) (s : σ), foldU cb (l ++ l') s = match foldU cb l s with | some (s', true) => foldU cb l' s' | some (s', false) => some (s', false) | none => none
 | [], l', s => rfl
 | t :: l, l', s => by
  simp only [List.cons_append, foldU]
  cases hc : cb t s with
  | none => rfl
  | some q =>
   obtain ⟨s', b⟩ := q
   cases b with
   | false => rfl
   | true => exact foldU_append l l' s'
def mstB (given : List Int) (at' x : Nat) : Bool := !(decide (given.getD at' 0 ≥ 0) && given.getD at' 0 != (x : Int))
def extL (n : Nat) (given : List Int) (ok : List Int → Bool) : Nat → List Int → List (List Int)
 | 0, pre => [pre]
 | m + 1, pre => (List.range n).flatMap fun x => if mstB given pre.length x && ok (pre ++ [(x : Int)]) then extL n given ok m (pre ++ [(x : Int)]) else []
section
variable {n k : Nat} {rels : List RelT} {given : List Int}
end
end T
open Go Go.Va
namespace T
section
variable {n k : Nat} {rels : List RelT} {given : List Int}
theorem ext_len {ok : List Int → Bool} : ∀ (m : Nat) (pre : List Int), (extL n given ok m pre).length ≤ n ^ m
 | 0, pre => by simp [extL]
 | m + 1, pre => by
  simp only [extL]
  have key : ∀ (l : List Nat), (l.flatMap fun x => if mstB given pre.length x && ok (pre ++ [(x : Int)]) then extL n given ok m (pre ++ [(x : Int)]) else []).length ≤ l.length * n ^ m := by
   intro l
   induction l with
   | nil => simp
   | cons x l ih =>
    rw [List.flatMap_cons, List.length_append, List.length_cons, Nat.succ_mul]
    have : (if mstB given pre.length x && ok (pre ++ [(x : Int)]) then extL n given ok m (pre ++ [(x : Int)]) else []).length ≤ n ^ m := by
     split
     ·exact ext_len m _
     ·simp
    omega
  have := key (List.range n)
  rw [List.length_range] at this
  rw [Nat.pow_succ, Nat.mul_comm]
  exact this
end
end T
open Go Go.Va
namespace T
theorem freeI_ok {N : Nat} (h : N ≤ 1000) : impl_freeTable (N : Int) = some (List.replicate N (-1)) := by
 unfold impl_freeTable
 rw [Int.toNat_natCast, if_pos (by unfold lim; omega)]
 have := forS N (fun f o i => impl_freeTable_L3 f (o, ((List.replicate N (0 : Int)).length : Int), i)) (fun j => List.replicate j (-1) ++ List.replicate (N - j) (0 : Int)) (r := some (List.replicate N (-1))) (fun f j hj => ?_) (fun f => ?_) (n := fuel) (by unfold fuel; omega)
 ·have this : impl_freeTable_L3 fuel (List.replicate N (0 : Int), ((List.replicate N (0 : Int)).length : Int), 0) = _ := this
  rw [this]; rfl
 ·have hin : j < (List.replicate j (-1) ++ List.replicate (N - j) (0 : Int)).length := by simp; omega
  have e : (List.replicate j (-1) ++ List.replicate (N - j) (0 : Int)).set j (-1) = List.replicate (j + 1) (-1) ++ List.replicate (N - (j + 1)) (0 : Int) := by
   rw [show N - j = (N - (j + 1)) + 1 by omega, List.replicate_succ, List.set_append_right _ _ (by simp), List.replicate_succ']
   simp
  simp only [impl_freeTable_L3, inb_nat, hin, stt_nat, e, if_true, w64_succ (show j < 4611686018427387904 by omega)]
  rw [if_pos (by simp; omega)]
 ·simp only [impl_freeTable_L3]
  rw [if_neg (by simp)]; simp
theorem freeS_ok {N : Nat} (h : N ≤ 1000) : spec_l14Free (N : Int) = some (List.replicate N (-1)) := by
 unfold spec_l14Free
 have := forS N (fun f o i => spec_l14Free_L3 f ((N : Int), o, i)) (fun j => List.replicate j (-1)) (r := some (List.replicate N (-1))) (fun f j hj => ?_) (fun f => ?_) (n := fuel) (by unfold fuel; omega)
 ·have this : spec_l14Free_L3 fuel ((N : Int), [], 0) = _ := this
  rw [this]; rfl
 ·simp only [spec_l14Free_L3, List.replicate_succ', w64_succ (show j < 4611686018427387904 by omega)]
  rw [if_pos (by simp; omega), if_pos (by simp; unfold lim; omega)]
 ·simp only [spec_l14Free_L3]
  rw [if_neg (by simp)]
end T
open Go Go.Va
namespace T
section
variable {n : Int} {rels : List RelT}
end
def posL (V : List Int) (x : Nat) : Int := match V.findIdx? (fun y => y == (x : Int)) with | some i => (i : Int) | none => -1
section
variable {n : Nat} {t : List Int}
end
section
variable {n m : Nat} {t : List Int} {r : RelT} {rels : List RelT}
end
end T
open Go Go.Va
namespace T
section
variable {α : Type} {nw old : Nat → α} {N i : Nat}
end
def pr4 (p : Int) : Prop := p = 2 ∨ p = 3 ∨ p = 5 ∨ p = 7
def okRow (p : Int) (W : Nat) (r : List Int) : Prop := r.length = W ∧ ∀ x ∈ r, 0 ≤ x ∧ x < p
section
variable {p : Int} {W : Nat} {r row : List Int}
end
abbrev ES := List (List Int) × List Int × List (List Int)
structure ESok (p : Int) (W N v : Nat) (s : ES) : Prop where
 t : ∀ r ∈ s.1, okRow p W r
 l : ∀ r ∈ s.2.2, okRow p W r
 bl : s.2.1.length = s.1.length
 n : s.1.length + s.2.2.length = N
 bv : ∀ x ∈ s.2.1, 0 ≤ x ∧ x < (v : Int)
 bn : s.2.1.Nodup
section
variable {p : Int} {W N : Nat}
end
end T
open Go Go.Va
namespace T
section
variable {p : Int} {W N V : Nat}
theorem posL_none {b : List Int} {u : Nat} (h : (u : Int) ∉ b) : posL b u = -1 := by
 unfold posL
 have h1 : (b.findIdx? fun y => y == (u : Int)) = none := by
  rw [List.findIdx?_eq_none_iff]
  intro y hy
  simp only [beq_eq_false_iff_ne]
  intro e; exact h (e ▸ hy)
 rw [h1]
theorem posL_at {b : List Int} {u : Nat} (h : (u : Int) ∈ b) : ∃ i, ∃ hi : i < b.length, posL b u = (i : Int) ∧ b[i] = (u : Int) := by
 unfold posL
 have h1 : (b.findIdx? fun y => y == (u : Int)).isSome = true := by
  rw [List.findIdx?_isSome, List.any_eq_true]
  exact ⟨_, h, by simp⟩
 obtain ⟨i, hi⟩ := Option.isSome_iff_exists.1 h1
 rw [hi]
 obtain ⟨g1, g2, _⟩ := List.findIdx?_eq_some_iff_getElem.1 hi
 exact ⟨i, g1, rfl, by simpa using g2⟩
end
end T
open Go Go.Va
namespace T
def freeL (N : Nat) (b : List Int) : List Int := ((List.range N).filter fun v : Nat => !decide ((v : Int) ∈ b)).map fun v : Nat => (v : Int)
section
variable {p : Int} {W N V : Nat}
theorem posL_neg {b : List Int} {u : Nat} : posL b u < 0 ↔ (u : Int) ∉ b := by
 by_cases h : (u : Int) ∈ b
 ·obtain ⟨i, hi, h1, _⟩ := posL_at h
  rw [h1]; simp [h]
 ·rw [posL_none h]; simp [h]
end
end T
open Go Go.Va
namespace T
def cg (p a b : Int) : Prop := ∃ k, a = b + p * k
section
variable {p a b c d : Int}
end
inductive Sp (p : Int) (V : Nat) (A : List (List Int)) : (Nat → Int) → Prop
 | zero : Sp p V A fun _ => 0
 | add {f : Nat → Int} (r : List Int) (c : Int) : r ∈ A → Sp p V A f → Sp p V A fun i => f i + c * r.getD i 0
 | cgr {f g : Nat → Int} : Sp p V A f → (∀ i, i < V → cg p (g i) (f i)) → Sp p V A g
section
variable {p : Int} {V W N : Nat} {A B : List (List Int)} {f g : Nat → Int}
def eqSp (p : Int) (V : Nat) (A B : List (List Int)) : Prop := ∀ f, Sp p V A f ↔ Sp p V B f
end
end T
open Go Go.Va
namespace T
section
variable {p : Int} {V W N : Nat} {A B : List (List Int)} {f g : Nat → Int}
theorem getD_mem {α : Type} {l : List α} {i : Nat} {d : α} (hi : i < l.length) : l.getD i d ∈ l := by rw [getD_of hi]; exact List.getElem_mem hi
end
end T
open Go Go.Va
namespace T
section
variable {p : Int} {V W N : Nat} {A B C D : List (List Int)} {f g : Nat → Int}
theorem eqSp.symm (h : eqSp p V A B) : eqSp p V B A := fun f => (h f).symm
theorem eqSp.trans (h : eqSp p V A B) (g : eqSp p V B C) : eqSp p V A C := fun f => (h f).trans (g f)
end
end T
open Go Go.Va
namespace T
def i64 (x : Int) : Prop := -9223372036854775808 ≤ x ∧ x ≤ 9223372036854775807
section
variable {c : List Int} {ar : Int}
end
end T
set_option linter.unusedVariables false
open Go Go.Va
namespace T
def spec_l19Most_L7 : Nat → ((List ((List Int) × Int × (List (List Int)))) × (List (List ((List Int) × Int × (List (List Int))))) × Int × Int × Int) → Option ((List ((List Int) × Int × (List (List Int)))) × (List (List ((List Int) × Int × (List (List Int))))) × Int × Int)
 | 0, _ => none
 | n + 1, (list, out, i, most, k) =>
  if inb i list then
   if decide (k < (((gd list i ([], (0, []))).1).length : Int)) then
    if inb i list then
     if inb k ((gd list i ([], (0, []))).1) then
      (spec_l1Most most (gd ((gd list i ([], (0, []))).1) k 0)).bind fun r1 =>
       spec_l19Most_L7 n (list, out, i, r1, w64 (k + 1))
     else none
    else none
   else
    some (list, out, i, most)
  else none
def spec_l19Most_L3 : Nat → ((List ((List Int) × Int × (List (List Int)))) × (List (List ((List Int) × Int × (List (List Int))))) × Int) → Option ((List (List ((List Int) × Int × (List (List Int))))))
 | 0, _ => none
 | n + 1, (list, out, i) =>
  if decide (i < (list.length : Int)) then
   (spec_l19Most_L7 fuel (list, out, i, 0, 0)).bind fun s1 =>
    if inb s1.2.2.2 s1.2.1 then
     if inb s1.2.2.1 s1.1 then
      if (gd s1.2.1 s1.2.2.2 []).length + [gd s1.1 s1.2.2.1 ([], (0, []))].length ≤ lim then
       if inb s1.2.2.2 s1.2.1 then
        if s1.2.2.2 = s1.2.2.2 then
         spec_l19Most_L3 n (s1.1, stt s1.2.1 s1.2.2.2 ((gd s1.2.1 s1.2.2.2 []) ++ [gd s1.1 s1.2.2.1 ([], (0, []))]), w64 (s1.2.2.1 + 1))
        else none
       else none
      else none
     else none
    else none
  else
   some out
def spec_l19Most (vars : Int) (list : List ((List Int) × Int × (List (List Int)))) : Option ((List (List ((List Int) × Int × (List (List Int)))))) :=
 if 0 ≤ vars ∧ vars ≤ vars ∧ vars ≤ lim then
  (spec_l19Most_L3 fuel (list, List.replicate (Int.toNat vars) ([] : List ((List Int) × Int × (List (List Int)))), 0)).bind fun s1 =>
   some s1
 else none
def spec_l19Go_L14 (rec : (Int × (List (List ((List Int) × Int × (List (List Int))))) × (List Int) × (List Int) × ((List (List Int)) × (Int × Int × Bool))) → Option (((List (List Int)) × (Int × Int × Bool)))) : Nat → (Int × (List (List ((List Int) × Int × (List (List Int))))) × (List Int) × (List Int) × ((List (List Int)) × (Int × Int × Bool)) × ((List (List Int)) × (Int × Int × Bool)) × Int × Int × (List Int) × Bool × Int) → Option (Int × (List (List ((List Int) × Int × (List (List Int))))) × (List Int) × (List Int) × ((List (List Int)) × (Int × Int × Bool)) × ((List (List Int)) × (Int × Int × Bool)) × Int × Int × (List Int) × Bool)
 | 0, _ => none
 | n + 1, (t0, t1, t2, t3, t9, t10, t11, t12, t13, t14, t15) =>
  if inb t11 t1 then
   if decide (t15 < ((gd t1 t11 []).length : Int)) then
    if t14 then
     if inb t11 t1 then
      if inb t15 (gd t1 t11 []) then
       (spec_l19Satisfies (gd (gd t1 t11 []) t15 ([], (0, []))) t13).bind fun r3 =>
        spec_l19Go_L14 rec n (t0, t1, t2, t3, (t9.1, (t9.2.1, (t9.2.2.1, t9.2.2.2))), (t10.1, (t10.2.1, (t10.2.2.1, t10.2.2.2))), t11, t12, t13, r3, w64 (t15 + 1))
      else none
     else none
    else
     some (t0, t1, t2, t3, (t9.1, (t9.2.1, (t9.2.2.1, t9.2.2.2))), (t10.1, (t10.2.1, (t10.2.2.1, t10.2.2.2))), t11, t12, t13, t14)
   else
    some (t0, t1, t2, t3, (t9.1, (t9.2.1, (t9.2.2.1, t9.2.2.2))), (t10.1, (t10.2.1, (t10.2.2.1, t10.2.2.2))), t11, t12, t13, t14)
  else none
def spec_l19Go_L8 (rec : (Int × (List (List ((List Int) × Int × (List (List Int))))) × (List Int) × (List Int) × ((List (List Int)) × (Int × Int × Bool))) → Option (((List (List Int)) × (Int × Int × Bool)))) : Nat → (Int × (List (List ((List Int) × Int × (List (List Int))))) × (List Int) × (List Int) × ((List (List Int)) × (Int × Int × Bool)) × ((List (List Int)) × (Int × Int × Bool)) × Int × Int) → Option (((List (List Int)) × (Int × Int × Bool)) × ((List (List Int)) × (Int × Int × Bool)))
 | 0, _ => none
 | n + 1, (t0, t1, t2, t3, t9, t10, t11, t12) =>
  if decide (t12 < t0) then
   if t9.2.2.2 then
    if !(decide (t9.2.1 > 0)) then
     if inb t11 t2 then
      if decide ((gd t2 t11 0) ≥ 0) then
       if inb t11 t2 then
        if (gd t2 t11 0) != t12 then
         spec_l19Go_L8 rec n (t0, t1, t2, t3, (t9.1, (t9.2.1, (t9.2.2.1, t9.2.2.2))), (t10.1, (t10.2.1, (t10.2.2.1, t10.2.2.2))), t11, w64 (t12 + 1))
        else
         (spec_l1Own t3).bind fun r2 =>
          if r2.length + [t12].length ≤ lim then
           (spec_l19Go_L14 rec fuel (t0, t1, t2, t3, (t9.1, (t9.2.1, (t9.2.2.1, t9.2.2.2))), (t10.1, (t10.2.1, (t10.2.2.1, t10.2.2.2))), t11, t12, r2 ++ [t12], true, 0)).bind fun s3 =>
            if s3.2.2.2.2.2.2.2.2.2 then
             (rec (s3.1, s3.2.1, s3.2.2.1, s3.2.2.2.2.2.2.2.2.1, (s3.2.2.2.2.1.1, (s3.2.2.2.2.1.2.1, (s3.2.2.2.2.1.2.2.1, s3.2.2.2.2.1.2.2.2))))).bind fun r4 =>
              spec_l19Go_L8 rec n (s3.1, s3.2.1, s3.2.2.1, s3.2.2.2.1, (r4.1, (r4.2.1, (r4.2.2.1, r4.2.2.2))), (s3.2.2.2.2.2.1.1, (s3.2.2.2.2.2.1.2.1, (s3.2.2.2.2.2.1.2.2.1, s3.2.2.2.2.2.1.2.2.2))), s3.2.2.2.2.2.2.1, w64 (s3.2.2.2.2.2.2.2.1 + 1))
            else
             spec_l19Go_L8 rec n (s3.1, s3.2.1, s3.2.2.1, s3.2.2.2.1, (s3.2.2.2.2.1.1, (s3.2.2.2.2.1.2.1, (s3.2.2.2.2.1.2.2.1, s3.2.2.2.2.1.2.2.2))), (s3.2.2.2.2.2.1.1, (s3.2.2.2.2.2.1.2.1, (s3.2.2.2.2.2.1.2.2.1, s3.2.2.2.2.2.1.2.2.2))), s3.2.2.2.2.2.2.1, w64 (s3.2.2.2.2.2.2.2.1 + 1))
          else none
       else none
      else
       (spec_l1Own t3).bind fun r5 =>
        if r5.length + [t12].length ≤ lim then
         (spec_l19Go_L14 rec fuel (t0, t1, t2, t3, (t9.1, (t9.2.1, (t9.2.2.1, t9.2.2.2))), (t10.1, (t10.2.1, (t10.2.2.1, t10.2.2.2))), t11, t12, r5 ++ [t12], true, 0)).bind fun s6 =>
          if s6.2.2.2.2.2.2.2.2.2 then
           (rec (s6.1, s6.2.1, s6.2.2.1, s6.2.2.2.2.2.2.2.2.1, (s6.2.2.2.2.1.1, (s6.2.2.2.2.1.2.1, (s6.2.2.2.2.1.2.2.1, s6.2.2.2.2.1.2.2.2))))).bind fun r7 =>
            spec_l19Go_L8 rec n (s6.1, s6.2.1, s6.2.2.1, s6.2.2.2.1, (r7.1, (r7.2.1, (r7.2.2.1, r7.2.2.2))), (s6.2.2.2.2.2.1.1, (s6.2.2.2.2.2.1.2.1, (s6.2.2.2.2.2.1.2.2.1, s6.2.2.2.2.2.1.2.2.2))), s6.2.2.2.2.2.2.1, w64 (s6.2.2.2.2.2.2.2.1 + 1))
          else
           spec_l19Go_L8 rec n (s6.1, s6.2.1, s6.2.2.1, s6.2.2.2.1, (s6.2.2.2.2.1.1, (s6.2.2.2.2.1.2.1, (s6.2.2.2.2.1.2.2.1, s6.2.2.2.2.1.2.2.2))), (s6.2.2.2.2.2.1.1, (s6.2.2.2.2.2.1.2.1, (s6.2.2.2.2.2.1.2.2.1, s6.2.2.2.2.2.1.2.2.2))), s6.2.2.2.2.2.2.1, w64 (s6.2.2.2.2.2.2.2.1 + 1))
        else none
     else none
    else
     some ((t9.1, (t9.2.1, (t9.2.2.1, t9.2.2.2))), (t10.1, (t10.2.1, (t10.2.2.1, t10.2.2.2))))
   else
    if !false then
     if inb t11 t2 then
      if decide ((gd t2 t11 0) ≥ 0) then
       if inb t11 t2 then
        if (gd t2 t11 0) != t12 then
         spec_l19Go_L8 rec n (t0, t1, t2, t3, (t9.1, (t9.2.1, (t9.2.2.1, t9.2.2.2))), (t10.1, (t10.2.1, (t10.2.2.1, t10.2.2.2))), t11, w64 (t12 + 1))
        else
         (spec_l1Own t3).bind fun r8 =>
          if r8.length + [t12].length ≤ lim then
           (spec_l19Go_L14 rec fuel (t0, t1, t2, t3, (t9.1, (t9.2.1, (t9.2.2.1, t9.2.2.2))), (t10.1, (t10.2.1, (t10.2.2.1, t10.2.2.2))), t11, t12, r8 ++ [t12], true, 0)).bind fun s9 =>
            if s9.2.2.2.2.2.2.2.2.2 then
             (rec (s9.1, s9.2.1, s9.2.2.1, s9.2.2.2.2.2.2.2.2.1, (s9.2.2.2.2.1.1, (s9.2.2.2.2.1.2.1, (s9.2.2.2.2.1.2.2.1, s9.2.2.2.2.1.2.2.2))))).bind fun r10 =>
              spec_l19Go_L8 rec n (s9.1, s9.2.1, s9.2.2.1, s9.2.2.2.1, (r10.1, (r10.2.1, (r10.2.2.1, r10.2.2.2))), (s9.2.2.2.2.2.1.1, (s9.2.2.2.2.2.1.2.1, (s9.2.2.2.2.2.1.2.2.1, s9.2.2.2.2.2.1.2.2.2))), s9.2.2.2.2.2.2.1, w64 (s9.2.2.2.2.2.2.2.1 + 1))
            else
             spec_l19Go_L8 rec n (s9.1, s9.2.1, s9.2.2.1, s9.2.2.2.1, (s9.2.2.2.2.1.1, (s9.2.2.2.2.1.2.1, (s9.2.2.2.2.1.2.2.1, s9.2.2.2.2.1.2.2.2))), (s9.2.2.2.2.2.1.1, (s9.2.2.2.2.2.1.2.1, (s9.2.2.2.2.2.1.2.2.1, s9.2.2.2.2.2.1.2.2.2))), s9.2.2.2.2.2.2.1, w64 (s9.2.2.2.2.2.2.2.1 + 1))
          else none
       else none
      else
       (spec_l1Own t3).bind fun r11 =>
        if r11.length + [t12].length ≤ lim then
         (spec_l19Go_L14 rec fuel (t0, t1, t2, t3, (t9.1, (t9.2.1, (t9.2.2.1, t9.2.2.2))), (t10.1, (t10.2.1, (t10.2.2.1, t10.2.2.2))), t11, t12, r11 ++ [t12], true, 0)).bind fun s12 =>
          if s12.2.2.2.2.2.2.2.2.2 then
           (rec (s12.1, s12.2.1, s12.2.2.1, s12.2.2.2.2.2.2.2.2.1, (s12.2.2.2.2.1.1, (s12.2.2.2.2.1.2.1, (s12.2.2.2.2.1.2.2.1, s12.2.2.2.2.1.2.2.2))))).bind fun r13 =>
            spec_l19Go_L8 rec n (s12.1, s12.2.1, s12.2.2.1, s12.2.2.2.1, (r13.1, (r13.2.1, (r13.2.2.1, r13.2.2.2))), (s12.2.2.2.2.2.1.1, (s12.2.2.2.2.2.1.2.1, (s12.2.2.2.2.2.1.2.2.1, s12.2.2.2.2.2.1.2.2.2))), s12.2.2.2.2.2.2.1, w64 (s12.2.2.2.2.2.2.2.1 + 1))
          else
           spec_l19Go_L8 rec n (s12.1, s12.2.1, s12.2.2.1, s12.2.2.2.1, (s12.2.2.2.2.1.1, (s12.2.2.2.2.1.2.1, (s12.2.2.2.2.1.2.2.1, s12.2.2.2.2.1.2.2.2))), (s12.2.2.2.2.2.1.1, (s12.2.2.2.2.2.1.2.1, (s12.2.2.2.2.2.1.2.2.1, s12.2.2.2.2.2.1.2.2.2))), s12.2.2.2.2.2.2.1, w64 (s12.2.2.2.2.2.2.2.1 + 1))
        else none
     else none
    else
     some ((t9.1, (t9.2.1, (t9.2.2.1, t9.2.2.2))), (t10.1, (t10.2.1, (t10.2.2.1, t10.2.2.2))))
  else
   some ((t9.1, (t9.2.1, (t9.2.2.1, t9.2.2.2))), (t10.1, (t10.2.1, (t10.2.2.1, t10.2.2.2))))
def spec_l19Go_body (rec : (Int × (List (List ((List Int) × Int × (List (List Int))))) × (List Int) × (List Int) × ((List (List Int)) × (Int × Int × Bool))) → Option (((List (List Int)) × (Int × Int × Bool)))) (t0 : Int) (t1 : List (List ((List Int) × Int × (List (List Int))))) (t2 : List Int) (t3 : List Int) (t4 : (List (List Int)) × (Int × Int × Bool)) : Option (((List (List Int)) × (Int × Int × Bool))) :=
 if (t3.length : Int) == (t1.length : Int) then
  if decide ((t4.1.length : Int) < t4.2.2.1) then
   (spec_l1Own t3).bind fun r1 =>
    if t4.1.length + [r1].length ≤ lim then
     some (t4.1 ++ [r1], (w64 (t4.2.1 + 1), (t4.2.2.1, t4.2.2.2)))
    else none
  else
   some (t4.1, (w64 (t4.2.1 + 1), (t4.2.2.1, t4.2.2.2)))
 else
  (spec_l19Go_L8 rec fuel (t0, t1, t2, t3, (t4.1, (t4.2.1, (t4.2.2.1, t4.2.2.2))), ([], (0, (0, false))), (t3.length : Int), 0)).bind fun s2 =>
   some (s2.1.1, (s2.1.2.1, (s2.1.2.2.1, s2.1.2.2.2)))
def spec_l19Go : Nat → (Int × (List (List ((List Int) × Int × (List (List Int))))) × (List Int) × (List Int) × ((List (List Int)) × (Int × Int × Bool))) → Option (((List (List Int)) × (Int × Int × Bool)))
 | 0, _ => none
 | d + 1, x => spec_l19Go_body (spec_l19Go d) x.1 x.2.1 x.2.2.1 x.2.2.2.1 x.2.2.2.2
def spec_l19Find (net : Int × Int × (List ((List Int) × Int × (List (List Int))))) (list : List ((List Int) × Int × (List (List Int)))) (partial_ : List Int) (most : Int) (one : Bool) : Option (((List (List Int)) × (Int × Int × Bool))) :=
 (spec_l19Most net.1 list).bind fun r1 =>
  (spec_l19Go fuel (net.2.1, r1, partial_, [], ([], (0, (most, one))))).bind fun r2 =>
   some (r2.1, (r2.2.1, (r2.2.2.1, r2.2.2.2)))
def impl_newNetSearch_L7 : Nat → ((Int × ((List (List (List Int))) × (List (List (List ByteArray))))) × ((List Int) × Int × (List (List Int))) × Int × (List ((List Int) × Int × (List (List Int)))) × Int × Int × (List Int) × Int × Int) → Option ((Int × ((List (List (List Int))) × (List (List (List ByteArray))))) × ((List Int) × Int × (List (List Int))) × Int × (List ((List Int) × Int × (List (List Int)))) × Int × Int)
 | 0, _ => none
 | n + 1, (t3, t5, t6, t20, t21, t22, t27, t28, t29) =>
  if decide (t29 < t28) then
   if inb t29 t27 then
    impl_newNetSearch_L7 n ((t3.1, (t3.2.1, t3.2.2)), (t5.1, (t5.2.1, t5.2.2)), maxI t6 (gd t27 t29 0), t20, t21, t22, t27, t28, w64 (t29 + 1))
   else none
  else
   some ((t3.1, (t3.2.1, t3.2.2)), (t5.1, (t5.2.1, t5.2.2)), t6, t20, t21, t22)
def impl_newNetSearch_L3 : Nat → ((Int × ((List (List (List Int))) × (List (List (List ByteArray))))) × (List ((List Int) × Int × (List (List Int)))) × Int × Int) → Option ((Int × ((List (List (List Int))) × (List (List (List ByteArray))))))
 | 0, _ => none
 | n + 1, (t3, t20, t21, t22) =>
  if decide (t22 < t21) then
   if inb t22 t20 then
    (impl_newNetSearch_L7 fuel ((t3.1, (t3.2.1, t3.2.2)), ((gd t20 t22 ([], (0, []))).1, (((gd t20 t22 ([], (0, []))).2).1, ((gd t20 t22 ([], (0, []))).2).2)), 0, t20, t21, t22, (gd t20 t22 ([], (0, []))).1, (((gd t20 t22 ([], (0, []))).1).length : Int), 0)).bind fun s1 =>
     if inb s1.2.2.1 s1.1.2.1 then
      if (gd s1.1.2.1 s1.2.2.1 []).length + [s1.2.1.1].length ≤ lim then
       if inb s1.2.2.1 s1.1.2.1 then
        if s1.2.2.1 = s1.2.2.1 then
         if inb s1.2.2.1 s1.1.2.2 then
          (impl_tupleSet (s1.2.1.2.1, s1.2.1.2.2)).bind fun r2 =>
           if (gd s1.1.2.2 s1.2.2.1 []).length + [r2].length ≤ lim then
            if inb s1.2.2.1 s1.1.2.2 then
             if s1.2.2.1 = s1.2.2.1 then
              impl_newNetSearch_L3 n ((s1.1.1, (stt s1.1.2.1 s1.2.2.1 ((gd s1.1.2.1 s1.2.2.1 []) ++ [s1.2.1.1]), stt s1.1.2.2 s1.2.2.1 ((gd s1.1.2.2 s1.2.2.1 []) ++ [r2]))), s1.2.2.2.1, s1.2.2.2.2.1, w64 (s1.2.2.2.2.2 + 1))
             else none
            else none
           else none
         else none
        else none
       else none
      else none
     else none
   else none
  else
   some (t3.1, (t3.2.1, t3.2.2))
def impl_newNetSearch (t0 : Int × Int × (List ((List Int) × Int × (List (List Int))))) : Option ((Bool × Int × (List (List (List Int))) × (List (List (List ByteArray))))) :=
 if 0 ≤ t0.1 ∧ t0.1 ≤ t0.1 ∧ t0.1 ≤ lim then
  if 0 ≤ t0.1 ∧ t0.1 ≤ t0.1 ∧ t0.1 ≤ lim then
   (impl_newNetSearch_L3 fuel ((t0.2.1, (List.replicate (Int.toNat t0.1) ([] : List (List Int)), List.replicate (Int.toNat t0.1) ([] : List (List ByteArray)))), t0.2.2, (t0.2.2.length : Int), 0)).bind fun s1 =>
    some (true, (s1.1, (s1.2.1, s1.2.2)))
  else none
 else none
end T
open Go Go.Va
namespace T
abbrev NS := Bool × Int × List (List (List Int)) × List (List (List ByteArray))
abbrev NIn (σ : Type) := Int × List Int × σ × NS × List Int × Unit
abbrev NOut (σ : Type) := List Int × σ × NS × List Int × Bool
def hM {σ : Type} : Nat → (Int × List Int × σ × NS × List Int × Unit × Int × Bool × List (List Int) × Int × Int) → Option (Int × List Int × σ × NS × List Int × Unit × Int × Bool)
 | 0, _ => none
 | n + 1, (t0, t1, t2, t3, t4, t5, t8, t9, t50, t51, t52) =>
  if decide (t52 < t51) then
   if inb t52 t50 then
    if t9 then
     if t3.1 = true then
      if inb t0 t3.2.2.2 then
       if inb t52 (gd t3.2.2.2 t0 []) then
        (impl_compose (gd t50 t52 []) t1).bind fun r2 =>
         (impl_keyOf r2).bind fun r3 =>
          hM n (t0, t1, t2, t3, t4, (), t8, mhas (gd (gd t3.2.2.2 t0 []) t52 []) r3, t50, t51, w64 (t52 + 1))
       else none
      else none
     else none
    else
     hM n (t0, t1, t2, t3, t4, (), t8, false, t50, t51, w64 (t52 + 1))
   else none
  else
   some (t0, t1, t2, t3, t4, (), t8, t9)
def hL {σ : Type} (rec : NIn σ → Option (NOut σ)) : Nat → (Int × List Int × σ × NS × List Int × Unit × Int) → Option ((List Int × σ × NS × List Int × Unit) ⊕ (List Int × σ × NS × List Int × Unit × Bool))
 | 0, _ => none
 | n + 1, (t0, t1, t2, t3, t4, t5, t8) =>
  if t3.1 = true then
   if decide (t8 < t3.2.1) then
    if inb t0 t4 then
     if decide ((gd t4 t0 0) ≥ 0) then
      if inb t0 t4 then
       if (gd t4 t0 0) != t8 then
        hL rec n (t0, t1, t2, t3, t4, (), w64 (t8 + 1))
       else
        if inb t0 t1 then
         if t3.1 = true then
          if inb t0 t3.2.2.1 then
           (hM fuel (t0, stt t1 t0 t8, t2, t3, t4, (), t8, true, gd t3.2.2.1 t0 [], ((gd t3.2.2.1 t0 []).length : Int), 0)).bind fun s2 =>
            if s2.2.2.2.2.2.2.2 then
             (rec (w64 (s2.1 + 1), s2.2.1, s2.2.2.1, s2.2.2.2.1, s2.2.2.2.2.1, ())).bind fun r3 =>
              if !r3.2.2.2.2 then
               some (.inr (r3.1, r3.2.1, r3.2.2.1, r3.2.2.2.1, (), false))
              else
               hL rec n (s2.1, r3.1, r3.2.1, r3.2.2.1, r3.2.2.2.1, (), w64 (s2.2.2.2.2.2.2.1 + 1))
            else
             hL rec n (s2.1, s2.2.1, s2.2.2.1, s2.2.2.2.1, s2.2.2.2.2.1, (), w64 (s2.2.2.2.2.2.2.1 + 1))
          else none
         else none
        else none
      else none
     else
      if inb t0 t1 then
       if t3.1 = true then
        if inb t0 t3.2.2.1 then
         (hM fuel (t0, stt t1 t0 t8, t2, t3, t4, (), t8, true, gd t3.2.2.1 t0 [], ((gd t3.2.2.1 t0 []).length : Int), 0)).bind fun s4 =>
          if s4.2.2.2.2.2.2.2 then
           (rec (w64 (s4.1 + 1), s4.2.1, s4.2.2.1, s4.2.2.2.1, s4.2.2.2.2.1, ())).bind fun r5 =>
            if !r5.2.2.2.2 then
             some (.inr (r5.1, r5.2.1, r5.2.2.1, r5.2.2.2.1, (), false))
            else
             hL rec n (s4.1, r5.1, r5.2.1, r5.2.2.1, r5.2.2.2.1, (), w64 (s4.2.2.2.2.2.2.1 + 1))
          else
           hL rec n (s4.1, s4.2.1, s4.2.2.1, s4.2.2.2.1, s4.2.2.2.2.1, (), w64 (s4.2.2.2.2.2.2.1 + 1))
        else none
       else none
      else none
    else none
   else
    some (.inl (t1, t2, t3, t4, ()))
  else none
def hBody {σ : Type} (cb : List Int → σ → Option (σ × Bool)) (rec : NIn σ → Option (NOut σ)) (x : NIn σ) : Option (NOut σ) :=
 if x.1 == (x.2.1.length : Int) then
  (cb x.2.1 x.2.2.1).bind fun r1 => some (x.2.1, r1.1, x.2.2.2.1, x.2.2.2.2.1, r1.2)
 else
  (hL rec fuel (x.1, x.2.1, x.2.2.1, x.2.2.2.1, x.2.2.2.2.1, (), 0)).bind fun s2 =>
   match s2 with
   | .inl s3 => some (s3.1, s3.2.1, s3.2.2.1, s3.2.2.2.1, true)
   | .inr s4 => some (s4.1, s4.2.1, s4.2.2.1, s4.2.2.2.1, s4.2.2.2.2.2)
def hF {σ : Type} (cb : List Int → σ → Option (σ × Bool)) : Nat → NIn σ → Option (NOut σ)
 | 0, _ => none
 | d + 1, x => hBody cb (hF cb d) x
def mostC (c : Con) : Nat := c.1.foldl (fun m v => max m v.toNat) 0
def conAt (cs : List Con) (v : Nat) : List Con := cs.filter fun c => mostC c == v
def scopesN (cs : List Con) (V : Nat) : List (List (List Int)) := (List.range V).map fun v => (conAt cs v).map (·.1)
def setsN (cs : List Con) (V : Nat) : List (List (List ByteArray)) := (List.range V).map fun v => (conAt cs v).map fun c => keys c.2.2
def okN (cs : List Con) (pre : List Int) : Bool := (conAt cs (pre.length - 1)).all (conH pre)
theorem max_fold : ∀ (l : List Int) (m : Nat), m ≤ l.foldl (fun m v => max m v.toNat) m ∧ (∀ v ∈ l, v.toNat ≤ l.foldl (fun m v => max m v.toNat) m) ∧ ∀ B, m ≤ B → (∀ v ∈ l, v.toNat ≤ B) → l.foldl (fun m v => max m v.toNat) m ≤ B
 | [], m => ⟨Nat.le_refl _, by simp, fun B h _ => h⟩
 | v :: l, m => by
  obtain ⟨h1, h2, h3⟩ := max_fold l (max m v.toNat)
  simp only [List.foldl_cons]
  refine ⟨by omega, fun w hw => ?_, fun B h h' => h3 B (by have := h' v (List.mem_cons_self ..); omega) fun w hw => h' w (List.mem_cons_of_mem _ hw)⟩
  rcases List.mem_cons.1 hw with rfl | hw
  ·omega
  ·exact h2 w hw
section
variable {V n : Nat} {cs : List Con} {given : List Int}
structure SrchOk (V n : Nat) (cs : List Con) : Prop where
 hv : V ≤ 9
 hn : 1 ≤ n ∧ n ≤ 4
 hc : cs.length ≤ 40
 con : ∀ c ∈ cs, ConOk (V : Int) (n : Int) c
theorem mem_conAt {c : Con} {v : Nat} : c ∈ conAt cs v ↔ c ∈ cs ∧ mostC c = v := by simp [conAt]
theorem conAt_ok (h : SrchOk V n cs) {v : Nat} {c : Con} (hc : c ∈ conAt cs v) : ConOk ((v + 1 : Nat) : Int) (n : Int) c ∧ v < V := by
 obtain ⟨h1, h2⟩ := mem_conAt.1 hc
 have hk := h.con c h1
 obtain ⟨_, g2, g3⟩ := max_fold c.1 0
 have hv : v < V := by
  have hm := hk.ar
  have hsl := hk.sl
  have h0 := hk.sv 0 (by omega)
  have := g3 (V - 1) (by omega) fun w hw => by
   obtain ⟨i, hi, rfl⟩ := List.mem_iff_getElem.1 hw
   have := hk.sv i hi
   omega
  have : mostC c ≤ V - 1 := this
  omega
 refine ⟨⟨hk.ar, hk.sl, fun i hi => ?_, hk.tl, hk.tv, hk.inc, hk.many⟩, hv⟩
 have h3 := hk.sv i hi
 have h4 := g2 _ (List.getElem_mem hi)
 have h4 : (c.1[i]).toNat ≤ mostC c := h4
 omega
theorem conH_take (h : SrchOk V n cs) {v : Nat} {c : Con} (hc : c ∈ conAt cs v) (tab : List Int) : conH (tab.take (v + 1)) c = conH tab c := by
 have hk := (conAt_ok h hc).1
 unfold conH
 have : c.1.map (valI (tab.take (v + 1))) = c.1.map (valI tab) := List.map_congr_left fun x hx => by
  obtain ⟨i, hi, rfl⟩ := List.mem_iff_getElem.1 hx
  have := hk.sv i hi
  unfold valI
  rw [List.getD_eq_getElem?_getD, List.getD_eq_getElem?_getD, List.getElem?_take, if_pos (by omega)]
 rw [this]
theorem okN_take (h : SrchOk V n cs) {v : Nat} {tab : List Int} (hv : v < tab.length) : okN cs (tab.take (v + 1)) = (conAt cs v).all (conH tab) := by
 unfold okN
 rw [List.length_take, show min (v + 1) tab.length - 1 = v by omega, Bool.eq_iff_iff, List.all_eq_true, List.all_eq_true]
 exact ⟨fun g c hc => by rw [← conH_take h hc]; exact g c hc, fun g c hc => by rw [conH_take h hc]; exact g c hc⟩
theorem scopesN_get {v : Nat} (hv : v < V) : (scopesN cs V).length = V ∧ (scopesN cs V).getD v [] = (conAt cs v).map (·.1) := by
 refine ⟨by simp [scopesN], ?_⟩
 rw [getD_of (by simp [scopesN]; exact hv)]; simp [scopesN]
theorem setsN_get {v : Nat} (hv : v < V) : (setsN cs V).length = V ∧ (setsN cs V).getD v [] = (conAt cs v).map fun c => keys c.2.2 := by
 refine ⟨by simp [setsN], ?_⟩
 rw [getD_of (by simp [setsN]; exact hv)]; simp [setsN]
theorem hM_ok (h : SrchOk V n cs) {v : Nat} (hv : v < V) {tab : List Int} (ht : tab.length = V) (htv : ∀ x ∈ tab, 0 ≤ x ∧ x < 256) {σ : Type} (s : σ) (x : Int) :
    hM fuel ((v : Int), tab, s, (true, ((n : Int), (scopesN cs V, setsN cs V))), given, (), x, true, gd (scopesN cs V) (v : Int) [], ((gd (scopesN cs V) (v : Int) []).length : Int), 0) =
      some ((v : Int), tab, s, (true, ((n : Int), (scopesN cs V, setsN cs V))), given, (), x, okN cs (tab.take (v + 1))) := by
  obtain ⟨l1, e1⟩ := scopesN_get (cs := cs) hv
  obtain ⟨l2, e2⟩ := setsN_get (cs := cs) hv
  have hn := h.hn
  have hg1 : gd (scopesN cs V) (v : Int) [] = (conAt cs v).map (·.1) := e1
  have hg2 : gd (setsN cs V) (v : Int) [] = (conAt cs v).map fun c => keys c.2.2 := e2
  rw [okN_take h (by omega), hg1]
  have hlen : (conAt cs v).length ≤ 40 := Nat.le_trans (List.length_filter_le _ _) h.hc
  have := forS (conAt cs v).length (fun f (o : Bool) i => hM f ((v : Int), tab, s, (true, ((n : Int), (scopesN cs V, setsN cs V))), given, (), x, o, (conAt cs v).map (·.1), (((conAt cs v).map (·.1)).length : Int), i)) (fun k => ((conAt cs v).take k).all (conH tab)) (r := some ((v : Int), tab, s, (true, ((n : Int), (scopesN cs V, setsN cs V))), given, (), x, (conAt cs v).all (conH tab))) (fun f k hk => ?_) (fun f => ?_) (n := fuel) (by unfold fuel; omega)
  · exact this
  · have hmem := List.getElem_mem hk
    have hcon := (conAt_ok h hmem).1
    have hsl := hcon.sl
    have har := hcon.ar
    have hmany := hcon.many
    have hin : inb (k : Int) ((conAt cs v).map (·.1)) := by unfold inb; rw [List.length_map]; omega
    have hgk : gd ((conAt cs v).map (·.1)) (k : Int) [] = (conAt cs v)[k].1 := by
      have := gd_nat (xs := (conAt cs v).map (·.1)) (d := []) (k := k) (by simpa using hk)
      rw [this]; simp
    have hin2 : inb (k : Int) ((conAt cs v).map fun c => keys c.2.2) := by unfold inb; rw [List.length_map]; omega
    have hgk2 : gd ((conAt cs v).map fun c => keys c.2.2) (k : Int) [] = keys (conAt cs v)[k].2.2 := by
      have := gd_nat (xs := (conAt cs v).map fun c => keys c.2.2) (d := []) (k := k) (by simpa using hk)
      rw [this]; simp
    have hsc : ∀ y ∈ (conAt cs v)[k].1, 0 ≤ y ∧ y < tab.length := fun y hy => by
      obtain ⟨i, hi, rfl⟩ := List.mem_iff_getElem.1 hy
      have := hcon.sv i hi
      omega
    have hc := impl_compose_ok (f := (conAt cs v)[k].1) (g := tab) (by omega) hsc
    have hval : ∀ y ∈ (conAt cs v)[k].1.map (valI tab), 0 ≤ y ∧ y < 256 := fun y hy => by
      obtain ⟨z, hz, rfl⟩ := List.mem_map.1 hy
      have := hsc z hz
      exact htv _ (getD_mem (by omega))
    have hk2 := impl_keyOf_ok (l := (conAt cs v)[k].1.map (valI tab)) (by rw [List.length_map]; omega) hval
    have hmk := mhas_keys (l := (conAt cs v)[k].2.2) (t := (conAt cs v)[k].1.map (valI tab)) (fun t ht y hy => by
      obtain ⟨i, hi, rfl⟩ := List.mem_iff_getElem.1 hy
      have := hcon.tv t ht i hi
      omega) hval
    have hiv : inb (v : Int) (setsN cs V) := by unfold inb; omega
    have htk : ((conAt cs v).take (k + 1)).all (conH tab) = (((conAt cs v).take k).all (conH tab) && conH tab (conAt cs v)[k]) := by
      rw [List.take_succ_eq_append_getElem hk, List.all_append]; simp
    simp only [hM, hin, hgk, hc, hk2, hiv, hg2, hin2, hgk2, hmk, Option.bind_some, w64_succ (show k < 4611686018427387904 by omega), htk, if_true]
    rw [if_pos (by simp; omega)]
    cases ((conAt cs v).take k).all (conH tab) with
    | false => simp
    | true => simp [conH]
  · simp only [hM, List.take_length]
    rw [if_neg (by simp)]
end
end T
open Go Go.Va
namespace T
section
variable {V n : Nat} {cs : List Con} {given : List Int}
abbrev nsOf (V n : Nat) (cs : List Con) : NS := (true, ((n : Int), (scopesN cs V, setsN cs V)))
theorem hF_ok (h : SrchOk V n cs) (hg : given.length = V) {σ : Type} (cb : List Int → σ → Option (σ × Bool)) : ∀ (m d at' : Nat) (tab : List Int) (s : σ), at' + m = V → m < d → tab.length = V → (∀ x ∈ tab, 0 ≤ x ∧ x < 256) →
    ∀ s' b, foldU cb (extL n given (okN cs) m (tab.take at')) s = some (s', b) →
    ∃ tab' : List Int, tab'.length = V ∧ (∀ x ∈ tab', 0 ≤ x ∧ x < 256) ∧ tab'.take at' = tab.take at' ∧ hF cb d ((at' : Int), tab, s, nsOf V n cs, given, ()) = some (tab', s', nsOf V n cs, given, b) := by
  have hn := h.hn
  have hV := h.hv
  intro m
  induction m with
  | zero =>
    intro d a tab s ha hd ht hv s' b hf
    obtain ⟨d, rfl⟩ : ∃ z, d = z + 1 := ⟨d - 1, by omega⟩
    have e : tab.take a = tab := List.take_of_length_le (by omega)
    rw [e] at hf
    simp only [extL, foldU] at hf
    refine ⟨tab, ht, hv, rfl, ?_⟩
    simp only [hF, hBody]
    rw [if_pos (by simp; omega)]
    cases hc : cb tab s with
    | none => rw [hc] at hf; exact absurd hf (by simp)
    | some q =>
      obtain ⟨s1, b1⟩ := q
      rw [hc] at hf
      have : s1 = s' ∧ b1 = b := by cases b1 <;> simpa using hf
      obtain ⟨rfl, rfl⟩ := this
      rfl
  | succ m ih =>
    intro d a tab s ha hd ht hv s' b hf
    obtain ⟨d, rfl⟩ : ∃ z, d = z + 1 := ⟨d - 1, by omega⟩
    have hat : a < V := by omega
    have key : ∀ (c x f : Nat) (tab1 : List Int) (s1 : σ), x + c = n → c < f → tab1.length = V → (∀ x ∈ tab1, 0 ≤ x ∧ x < 256) → tab1.take a = tab.take a → ∀ s' b,
        foldU cb ((List.range' x c).flatMap fun x => if mstB given (tab.take a).length x && okN cs (tab.take a ++ [(x : Int)]) then extL n given (okN cs) m (tab.take a ++ [(x : Int)]) else []) s1 = some (s', b) →
        ∃ tab' : List Int, tab'.length = V ∧ (∀ x ∈ tab', 0 ≤ x ∧ x < 256) ∧ tab'.take a = tab.take a ∧ hL (hF cb d) f ((a : Int), tab1, s1, nsOf V n cs, given, (), (x : Int)) = some (if b then .inl (tab', s', nsOf V n cs, given, ()) else .inr (tab', s', nsOf V n cs, given, (), false)) := by
      intro c
      induction c with
      | zero =>
        intro x f tab1 s1 hx hf1 ht1 hv1 htk s' b hf2
        obtain ⟨f, rfl⟩ : ∃ z, f = z + 1 := ⟨f - 1, by omega⟩
        have : s1 = s' ∧ true = b := by simpa [foldU] using hf2
        obtain ⟨rfl, rfl⟩ := this
        refine ⟨tab1, ht1, hv1, htk, ?_⟩
        simp only [hL]
        rw [if_pos trivial, if_neg (by simp; omega)]; rfl
      | succ c ihc =>
        intro x f tab1 s1 hx hf1 ht1 hv1 htk s' b hf2
        obtain ⟨f, rfl⟩ : ∃ z, f = z + 1 := ⟨f - 1, by omega⟩
        have hlen : (tab.take a).length = a := by rw [List.length_take]; omega
        have hag : a < given.length := by omega
        have hat1 : a < tab1.length := by omega
        have hsc : a < (scopesN cs V).length := by rw [(scopesN_get (cs := cs) hat).1]; exact hat
        rw [List.range'_succ, List.flatMap_cons, foldU_append, hlen] at hf2
        rw [hlen] at ihc
        have hset : (tab1.set a (x : Int)).take (a + 1) = tab.take a ++ [(x : Int)] := by
          rw [List.take_succ_eq_append_getElem (by simp; omega), List.take_set_of_le (Nat.le_refl _), List.getElem_set_self, htk]
        have hsl : (tab1.set a (x : Int)).length = V := by simp [ht1]
        have hsv : ∀ y ∈ tab1.set a (x : Int), 0 ≤ y ∧ y < 256 := fun y hy => by
          rcases List.mem_or_eq_of_mem_set hy with h1 | h1
          · exact hv1 y h1
          · subst h1; omega
        have hst : (tab1.set a (x : Int)).take a = tab.take a := by rw [List.take_set_of_le (Nat.le_refl _), htk]
        have hfit := hM_ok (given := given) h hat hsl hsv s1 (x : Int)
        rw [hset] at hfit
        have hw : w64 ((x : Int) + 1) = ((x + 1 : Nat) : Int) := w64_succ (by omega)
        have hwa : w64 ((a : Int) + 1) = ((a + 1 : Nat) : Int) := w64_succ (by omega)
        have step : mstB given a x = true → ∀ R, R = (hM fuel ((a : Int), tab1.set a (x : Int), s1, nsOf V n cs, given, (), (x : Int), true, gd (scopesN cs V) (a : Int) [], ((gd (scopesN cs V) (a : Int) []).length : Int), 0)).bind (fun s4 =>
                if s4.2.2.2.2.2.2.2 then
                  (hF cb d (w64 (s4.1 + 1), s4.2.1, s4.2.2.1, s4.2.2.2.1, s4.2.2.2.2.1, ())).bind fun r5 =>
                    if !r5.2.2.2.2 then
                      some (.inr (r5.1, r5.2.1, r5.2.2.1, r5.2.2.2.1, (), false))
                    else
                      hL (hF cb d) f (s4.1, r5.1, r5.2.1, r5.2.2.1, r5.2.2.2.1, (), w64 (s4.2.2.2.2.2.2.1 + 1))
                else
                  hL (hF cb d) f (s4.1, s4.2.1, s4.2.2.1, s4.2.2.2.1, s4.2.2.2.2.1, (), w64 (s4.2.2.2.2.2.2.1 + 1))) →
            ∃ tab' : List Int, tab'.length = V ∧ (∀ x ∈ tab', 0 ≤ x ∧ x < 256) ∧ tab'.take a = tab.take a ∧ R = some (if b then .inl (tab', s', nsOf V n cs, given, ()) else .inr (tab', s', nsOf V n cs, given, (), false)) := by
          intro hm R hR
          rw [hfit] at hR
          simp only [Option.bind_some] at hR
          rw [hm] at hf2
          cases hfi : okN cs (tab.take a ++ [(x : Int)]) with
          | false =>
            rw [hfi] at hf2 hR
            simp only [Bool.and_false, Bool.false_eq_true, if_false, foldU] at hf2 hR
            rw [hw] at hR
            rw [hR]
            exact ihc (x + 1) f _ s1 (by omega) (by omega) hsl hsv hst s' b hf2
          | true =>
            rw [hfi] at hf2 hR
            simp only [Bool.and_true, if_true] at hf2 hR
            rw [hwa] at hR
            cases hq : foldU cb (extL n given (okN cs) m (tab.take a ++ [(x : Int)])) s1 with
            | none => rw [hq] at hf2; exact absurd hf2 (by simp)
            | some q =>
              obtain ⟨s2, b2⟩ := q
              rw [hq] at hf2
              rw [← hset] at hq
              obtain ⟨tab2, h1, h2, h3, h4⟩ := ih d (a + 1) _ s1 (by omega) (by omega) hsl hsv s2 b2 hq
              have h3' : tab2.take a = tab.take a := by
                have := congrArg (List.take a) h3
                rw [List.take_take, List.take_take, Nat.min_eq_left (by omega)] at this
                rw [this, hst]
              rw [h4] at hR
              simp only [Option.bind_some] at hR
              cases b2 with
              | false =>
                have : s2 = s' ∧ false = b := by simpa using hf2
                obtain ⟨rfl, rfl⟩ := this
                refine ⟨tab2, h1, h2, h3', ?_⟩
                rw [hR]; rfl
              | true =>
                simp only [Bool.not_true, Bool.false_eq_true, if_false, hw] at hR
                rw [hR]
                exact ihc (x + 1) f tab2 s2 (by omega) (by omega) h1 h2 h3' s' b hf2
        simp only [hL, stt_nat, inb_nat, hag, hat1, hsc, if_true]
        rw [if_pos (by simp; omega)]
        by_cases hc1 : gd given (a : Int) 0 ≥ 0
        · rw [if_pos (decide_eq_true hc1)]
          by_cases hc2 : gd given (a : Int) 0 = (x : Int)
          · rw [if_neg (by simpa using hc2)]
            exact step (by unfold mstB; rw [show given.getD a 0 = (x : Int) from hc2]; simp) _ rfl
          · rw [if_pos (by simpa using hc2), hw]
            have hm : mstB given a x = false := by
              unfold mstB
              rw [decide_eq_true (show given.getD a 0 ≥ 0 from hc1)]
              simp only [Bool.true_and, Bool.not_eq_false', bne_iff_ne]; exact hc2
            rw [hm] at hf2
            simp only [Bool.false_and, Bool.false_eq_true, if_false, foldU] at hf2
            exact ihc (x + 1) f tab1 s1 (by omega) (by omega) ht1 hv1 htk s' b hf2
        · rw [if_neg (by simpa using hc1)]
          exact step (by unfold mstB; rw [decide_eq_false (show ¬ given.getD a 0 ≥ 0 from hc1)]; rfl) _ rfl
    simp only [extL] at hf
    rw [List.range_eq_range'] at hf
    obtain ⟨tab', h1, h2, h3, h4⟩ := key n 0 fuel tab s (by omega) (by unfold fuel; omega) ht hv rfl s' b hf
    refine ⟨tab', h1, h2, h3, ?_⟩
    simp only [hF, hBody]
    rw [if_neg (by simp; omega)]
    have h4 : hL (hF cb d) fuel ((a : Int), tab, s, nsOf V n cs, given, (), 0) = _ := h4
    rw [h4]
    cases b <;> rfl
def solsN (V n : Nat) (cs : List Con) (given : List Int) : List (List Int) := extL n given (okN cs) V []
theorem maxI_of {a b : Nat} {x : Int} (hx : x = (b : Int)) : maxI (a : Int) x = ((max a b : Nat) : Int) := by
 subst hx; unfold maxI; split <;> omega
theorem newNet_ok (h : SrchOk V n cs) : impl_newNetSearch ((V : Int), ((n : Int), cs)) = some (nsOf V n cs) := by
 have hV := h.hv
 have hc := h.hc
 unfold impl_newNetSearch
 have h3 := forS cs.length (fun f (o : Int × (List (List (List Int)) × List (List (List ByteArray)))) i => impl_newNetSearch_L3 f (o, cs, (cs.length : Int), i)) (fun k => ((n : Int), (scopesN (cs.take k) V, setsN (cs.take k) V))) (r := some ((n : Int), (scopesN cs V, setsN cs V))) (fun f k hk => ?_) (fun f => ?_) (n := fuel) (by unfold fuel; omega)
 ·have e1 : scopesN (cs.take 0) V = List.replicate V [] := by
   unfold scopesN conAt; simp [List.map_const']
  have e2 : setsN (cs.take 0) V = List.replicate V [] := by
   unfold setsN conAt; simp [List.map_const']
  rw [e1, e2] at h3
  have h3 : impl_newNetSearch_L3 fuel (((n : Int), (List.replicate (Int.toNat (V : Int)) ([] : List (List Int)), List.replicate (Int.toNat (V : Int)) ([] : List (List ByteArray)))), cs, (cs.length : Int), 0) = _ := h3
  rw [if_pos (by unfold lim; omega), if_pos (by unfold lim; omega), h3]; rfl
 ·have hcon := h.con _ (List.getElem_mem hk)
  have hsl := hcon.sl
  have har := hcon.ar
  have hmany := hcon.many
  have h7 := forS cs[k].1.length (fun f (o : Int) i => impl_newNetSearch_L7 f (((n : Int), (scopesN (cs.take k) V, setsN (cs.take k) V)), cs[k], o, cs, (cs.length : Int), (k : Int), cs[k].1, (cs[k].1.length : Int), i)) (fun j => (((cs[k].1.take j).foldl (fun m v => max m v.toNat) 0 : Nat) : Int)) (r := some (((n : Int), (scopesN (cs.take k) V, setsN (cs.take k) V)), cs[k], (mostC cs[k] : Int), cs, (cs.length : Int), (k : Int))) (fun f j hj => ?_) (fun f => ?_) (n := fuel) (by unfold fuel; omega)
  ·have hm : mostC cs[k] < V := (conAt_ok h (mem_conAt.2 ⟨List.getElem_mem hk, rfl⟩)).2
   have h7 : impl_newNetSearch_L7 fuel (((n : Int), (scopesN (cs.take k) V, setsN (cs.take k) V)), (cs[k].1, (cs[k].2.1, cs[k].2.2)), 0, cs, (cs.length : Int), (k : Int), cs[k].1, (cs[k].1.length : Int), 0) = _ := h7
   obtain ⟨l1, e1⟩ := scopesN_get (cs := cs.take k) hm
   obtain ⟨l2, e2⟩ := setsN_get (cs := cs.take k) hm
   have hi1 : inb (mostC cs[k] : Int) (scopesN (cs.take k) V) := by unfold inb; omega
   have hi2 : inb (mostC cs[k] : Int) (setsN (cs.take k) V) := by unfold inb; omega
   have g1 : gd (scopesN (cs.take k) V) (mostC cs[k] : Int) [] = (conAt (cs.take k) (mostC cs[k])).map (·.1) := e1
   have g2 : gd (setsN (cs.take k) V) (mostC cs[k] : Int) [] = (conAt (cs.take k) (mostC cs[k])).map fun c => keys c.2.2 := e2
   have hts := impl_tupleSet_ok (r := (cs[k].2.1, cs[k].2.2)) (show cs[k].2.2.length ≤ 1048576 by omega) (fun t ht => ⟨by have := hcon.tl t ht; omega, fun y hy => by
    obtain ⟨i, hi, rfl⟩ := List.mem_iff_getElem.1 hy
    have := hcon.tv t ht i hi
    have := h.hn
    omega⟩)
   have hcl : (conAt (cs.take k) (mostC cs[k])).length ≤ 40 := Nat.le_trans (List.length_filter_le _ _) (by rw [List.length_take]; omega)
   have hca : ∀ v, conAt (cs.take (k + 1)) v = conAt (cs.take k) v ++ (if mostC cs[k] = v then [cs[k]] else []) := fun v => by
    unfold conAt
    rw [List.take_succ_eq_append_getElem hk, List.filter_append]
    congr 1
    by_cases e : mostC cs[k] = v <;> simp [e]
   have s1 : (scopesN (cs.take k) V).set (mostC cs[k]) ((conAt (cs.take k) (mostC cs[k])).map (·.1) ++ [cs[k].1]) = scopesN (cs.take (k + 1)) V := by
    apply List.ext_getElem
    ·simp [scopesN]
    ·intro v h1 h2
     rw [List.getElem_set]
     simp only [scopesN, List.getElem_map, List.getElem_range, hca, List.map_append]
     by_cases e : mostC cs[k] = v
     ·rw [if_pos e, if_pos e, ← e]; rfl
     ·rw [if_neg e, if_neg e]; simp
   have s2 : (setsN (cs.take k) V).set (mostC cs[k]) ((conAt (cs.take k) (mostC cs[k])).map (fun c => keys c.2.2) ++ [keys cs[k].2.2]) = setsN (cs.take (k + 1)) V := by
    apply List.ext_getElem
    ·simp [setsN]
    ·intro v h1 h2
     rw [List.getElem_set]
     simp only [setsN, List.getElem_map, List.getElem_range, hca, List.map_append]
     by_cases e : mostC cs[k] = v
     ·rw [if_pos e, if_pos e, ← e]; rfl
     ·rw [if_neg e, if_neg e]; simp
   simp only [impl_newNetSearch_L3, inb_nat, hk, gd_nat hk, h7, Option.bind_some, if_true, inb_nat.1 hi1, inb_nat.1 hi2, g1, g2, hts, stt_nat, s1, s2, w64_succ (show k < 4611686018427387904 by omega)]
   rw [if_pos (by simp; omega), if_pos (by simp; unfold lim; omega), if_pos (by simp; unfold lim; omega)]
  ·have hj' := hcon.sv j hj
   have e := maxI_of (a := (cs[k].1.take j).foldl (fun m v => max m v.toNat) 0) (b := (cs[k].1[j]).toNat) (x := cs[k].1[j]) (by omega)
   have e2 : (cs[k].1.take (j + 1)).foldl (fun m v => max m v.toNat) 0 = max ((cs[k].1.take j).foldl (fun m v => max m v.toNat) 0) (cs[k].1[j]).toNat := by
    rw [List.take_succ_eq_append_getElem hj, List.foldl_append]; rfl
   simp only [impl_newNetSearch_L7, inb_nat, hj, gd_nat hj, e, e2, if_true, w64_succ (show j < 4611686018427387904 by omega)]
   rw [if_pos (by simp; omega)]
  ·simp only [impl_newNetSearch_L7, List.take_length]
   rw [if_neg (by simp)]; rfl
 ·simp only [impl_newNetSearch_L3, List.take_length]
  rw [if_neg (by simp)]
end
end T
open Go Go.Va
namespace T
abbrev S19 := List (List Int) × Int × Int × Bool
def stopN (s : S19) : Bool := s.2.2.2 && decide (s.2.1 > 0)
def sCbN (t : List Int) (s : S19) : Option (S19 × Bool) :=
 let s' : S19 := (if decide ((s.1.length : Int) < s.2.2.1) then s.1 ++ [t] else s.1, s.2.1 + 1, s.2.2.1, s.2.2.2)
 some (s', !stopN s')
theorem foldN_cnt : ∀ (l : List (List Int)) (s s' : S19) (b : Bool), foldU sCbN l s = some (s', b) → s.2.1 ≤ s'.2.1 ∧ s'.2.1 ≤ s.2.1 + l.length ∧ s'.1.length ≤ s.1.length + l.length ∧ s'.2.2 = s.2.2 ∧ (stopN s = false → b = !stopN s')
 | [], s, s', b, h => by
  have : s = s' ∧ true = b := by simpa [foldU] using h
  obtain ⟨rfl, rfl⟩ := this
  exact ⟨by omega, by simp, by simp, rfl, fun h => by simp [h]⟩
 | t :: l, s, s', b, h => by
  simp only [foldU, sCbN] at h
  generalize hs1 : ((if decide ((s.1.length : Int) < s.2.2.1) then s.1 ++ [t] else s.1, s.2.1 + 1, s.2.2.1, s.2.2.2) : S19) = s1 at h
  have h1 : s1.2.1 = s.2.1 + 1 := by rw [← hs1]
  have h2 : s1.1.length ≤ s.1.length + 1 := by
   rw [← hs1]
   show (if decide ((s.1.length : Int) < s.2.2.1) then s.1 ++ [t] else s.1).length ≤ _
   split <;> simp
  have h3 : s1.2.2 = s.2.2 := by rw [← hs1]
  cases hb : stopN s1 with
  | true =>
   rw [hb] at h
   have : s1 = s' ∧ false = b := by simpa using h
   obtain ⟨rfl, rfl⟩ := this
   rw [List.length_cons]
   exact ⟨by omega, by omega, by omega, h3, fun _ => by rw [hb]; rfl⟩
  | false =>
   rw [hb] at h
   obtain ⟨g1, g2, g3, g4, g5⟩ := foldN_cnt l s1 s' b h
   rw [List.length_cons]
   exact ⟨by omega, by push_cast; omega, by omega, g4.trans h3, fun _ => g5 hb⟩
theorem foldN_tot : ∀ (l : List (List Int)) (s : S19), ∃ q, foldU sCbN l s = some q
 | [], s => ⟨_, rfl⟩
 | t :: l, s => by
  simp only [foldU, sCbN]
  generalize ((if decide ((s.1.length : Int) < s.2.2.1) then s.1 ++ [t] else s.1, s.2.1 + 1, s.2.2.1, s.2.2.2) : S19) = s1
  cases hb : stopN s1 with
  | true => exact ⟨_, rfl⟩
  | false => exact foldN_tot l s1
section
variable {V n : Nat} {cs : List Con} {given : List Int}
def atN (cs : List Con) (V : Nat) : List (List Con) := (List.range V).map (conAt cs)
theorem atN_get {v : Nat} (hv : v < V) : (atN cs V).length = V ∧ (atN cs V).getD v [] = conAt cs v := by
 refine ⟨by simp [atN], ?_⟩
 rw [getD_of (by simp [atN]; exact hv)]; simp [atN]
theorem most_ok (h : SrchOk V n cs) : spec_l19Most (V : Int) cs = some (atN cs V) := by
 have hV := h.hv
 have hc := h.hc
 unfold spec_l19Most
 rw [if_pos (by unfold lim; omega)]
 have h3 := forS cs.length (fun f (o : List (List Con)) i => spec_l19Most_L3 f (cs, o, i)) (fun k => atN (cs.take k) V) (r := some (atN cs V)) (fun f k hk => ?_) (fun f => ?_) (n := fuel) (by unfold fuel; omega)
 ·have e1 : atN (cs.take 0) V = List.replicate V [] := by
   unfold atN
   have : conAt (cs.take 0) = fun _ => [] := by funext v; simp [conAt]
   rw [this]; simp [List.map_const']
  rw [e1] at h3
  have h3 : spec_l19Most_L3 fuel (cs, List.replicate (Int.toNat (V : Int)) ([] : List Con), 0) = _ := h3
  rw [h3]; rfl
 ·have hcon := h.con _ (List.getElem_mem hk)
  have hsl := hcon.sl
  have har := hcon.ar
  have h7 := forS cs[k].1.length (fun f (o : Int) i => spec_l19Most_L7 f (cs, atN (cs.take k) V, (k : Int), o, i)) (fun j => (((cs[k].1.take j).foldl (fun m v => max m v.toNat) 0 : Nat) : Int)) (r := some (cs, atN (cs.take k) V, (k : Int), (mostC cs[k] : Int))) (fun f j hj => ?_) (fun f => ?_) (n := fuel) (by unfold fuel; omega)
  ·have hm : mostC cs[k] < V := (conAt_ok h (mem_conAt.2 ⟨List.getElem_mem hk, rfl⟩)).2
   have h7 : spec_l19Most_L7 fuel (cs, atN (cs.take k) V, (k : Int), 0, 0) = _ := h7
   obtain ⟨l1, e1⟩ := atN_get (cs := cs.take k) hm
   have hi1 : inb (mostC cs[k] : Int) (atN (cs.take k) V) := by unfold inb; omega
   have g1 : gd (atN (cs.take k) V) (mostC cs[k] : Int) [] = conAt (cs.take k) (mostC cs[k]) := e1
   have hcl : (conAt (cs.take k) (mostC cs[k])).length ≤ 40 := Nat.le_trans (List.length_filter_le _ _) (by rw [List.length_take]; omega)
   have hca : ∀ v, conAt (cs.take (k + 1)) v = conAt (cs.take k) v ++ (if mostC cs[k] = v then [cs[k]] else []) := fun v => by
    unfold conAt
    rw [List.take_succ_eq_append_getElem hk, List.filter_append]
    congr 1
    by_cases e : mostC cs[k] = v <;> simp [e]
   have s1 : (atN (cs.take k) V).set (mostC cs[k]) (conAt (cs.take k) (mostC cs[k]) ++ [cs[k]]) = atN (cs.take (k + 1)) V := by
    apply List.ext_getElem
    ·simp [atN]
    ·intro v h1 h2
     rw [List.getElem_set]
     simp only [atN, List.getElem_map, List.getElem_range, hca]
     by_cases e : mostC cs[k] = v
     ·rw [if_pos e, if_pos e, ← e]
     ·rw [if_neg e, if_neg e]; simp
   simp only [spec_l19Most_L3, inb_nat, hk, gd_nat hk, h7, Option.bind_some, if_true, inb_nat.1 hi1, g1, stt_nat, s1, w64_succ (show k < 4611686018427387904 by omega)]
   rw [if_pos (by simp; omega), if_pos (by simp; unfold lim; omega)]
  ·have hj' := hcon.sv j hj
   have hjx : cs[k].1[j] = (((cs[k].1[j]).toNat : Nat) : Int) := by omega
   have e2 : (cs[k].1.take (j + 1)).foldl (fun m v => max m v.toNat) 0 = max ((cs[k].1.take j).foldl (fun m v => max m v.toNat) 0) (cs[k].1[j]).toNat := by
    rw [List.take_succ_eq_append_getElem hj, List.foldl_append]; rfl
   have e : spec_l1Most (((cs[k].1.take j).foldl (fun m v => max m v.toNat) 0 : Nat) : Int) cs[k].1[j] = some ((max ((cs[k].1.take j).foldl (fun m v => max m v.toNat) 0) (cs[k].1[j]).toNat : Nat) : Int) := by
    rw [hjx]; exact spec_l1Most_nat _ _
   simp only [spec_l19Most_L7, inb_nat, hk, gd_nat hk, hj, gd_nat hj, e, e2, if_true, Option.bind_some, w64_succ (show j < 4611686018427387904 by omega)]
   rw [if_pos (by simp; omega)]
  ·simp only [spec_l19Most_L7, inb_nat, hk, gd_nat hk, List.take_length, if_true]
   rw [if_neg (by simp)]; rfl
 ·simp only [spec_l19Most_L3, List.take_length]
  rw [if_neg (by simp)]
theorem good_ok (h : SrchOk V n cs) (rec : Int × List (List Con) × List Int × List Int × S19 → Option S19) {v : Nat} (hv : v < V) {next : List Int} (hl : next.length = v + 1) {pre : List Int} {s s0 : S19} {x : Int} :
    spec_l19Go_L14 rec fuel ((n : Int), atN cs V, given, pre, s, s0, (v : Int), x, next, true, 0) = some ((n : Int), atN cs V, given, pre, s, s0, (v : Int), x, next, okN cs next) := by
  obtain ⟨l1, e1⟩ := atN_get (cs := cs) hv
  have hiv : inb (v : Int) (atN cs V) := by unfold inb; omega
  have hg : gd (atN cs V) (v : Int) [] = conAt cs v := e1
  have hcl : (conAt cs v).length ≤ 40 := Nat.le_trans (List.length_filter_le _ _) h.hc
  have key : ∀ (d k f : Nat) (g : Bool), k + d = (conAt cs v).length → d < f → spec_l19Go_L14 rec f ((n : Int), atN cs V, given, pre, s, s0, (v : Int), x, next, g, (k : Int)) = some ((n : Int), atN cs V, given, pre, s, s0, (v : Int), x, next, g && ((conAt cs v).drop k).all (conH next)) := by
    intro d
    induction d with
    | zero =>
      intro k f g hk hf
      obtain ⟨f, rfl⟩ : ∃ z, f = z + 1 := ⟨f - 1, by omega⟩
      have : k = (conAt cs v).length := by omega
      subst this
      simp only [spec_l19Go_L14, hiv, hg, if_true, List.drop_length]
      rw [if_neg (by simp)]; simp
    | succ d ih =>
      intro k f g hk hf
      obtain ⟨f, rfl⟩ : ∃ z, f = z + 1 := ⟨f - 1, by omega⟩
      have hkl : k < (conAt cs v).length := by omega
      simp only [spec_l19Go_L14, hiv, hg, if_true]
      rw [if_pos (by simp; omega)]
      cases g with
      | false => simp
      | true =>
        have hcon := (conAt_ok h (List.getElem_mem hkl)).1
        have hs := spec_l19Satisfies_ok hcon (vs := next) (by omega)
        rw [List.drop_eq_getElem_cons hkl, List.all_cons]
        simp only [if_true, inb_nat, hkl, gd_nat hkl, hs, Option.bind_some, w64_succ (show k < 4611686018427387904 by omega)]
        rw [ih (k + 1) f _ (by omega) (by omega), Bool.true_and]
  have := key (conAt cs v).length 0 fuel true (by omega) (by unfold fuel; omega)
  have e2 : okN cs next = (conAt cs v).all (conH next) := by unfold okN; rw [hl]; rfl
  rw [e2]
  simpa using this
theorem go19_ok (h : SrchOk V n cs) (hg : given.length = V) : ∀ (m d : Nat) (pre : List Int) (s : S19), pre.length + m = V → m < d → stopN s = false → 0 ≤ s.2.1 → s.2.2.1 ≤ 1000000 → s.2.1 + (extL n given (okN cs) m pre).length ≤ 4611686018427387904 →
    ∀ s' b, foldU sCbN (extL n given (okN cs) m pre) s = some (s', b) → spec_l19Go d ((n : Int), atN cs V, given, pre, s) = some s' := by
  have hn := h.hn
  have hV := h.hv
  intro m
  induction m with
  | zero =>
    intro d pre s hpre hd hst h0 hr1 hr2 s' b hf
    obtain ⟨d, rfl⟩ : ∃ z, d = z + 1 := ⟨d - 1, by omega⟩
    have hlN : (atN cs V).length = V := by simp [atN]
    simp only [extL, foldU, sCbN] at hf
    simp only [spec_l19Go, spec_l19Go_body]
    simp only [extL, List.length_singleton] at hr2
    have hs' : s' = (if decide ((s.1.length : Int) < s.2.2.1) then s.1 ++ [pre] else s.1, s.2.1 + 1, s.2.2.1, s.2.2.2) := by
      cases hb : stopN ((if decide ((s.1.length : Int) < s.2.2.1) then s.1 ++ [pre] else s.1, s.2.1 + 1, s.2.2.1, s.2.2.2) : S19) <;> rw [hb] at hf <;> simp at hf <;> rw [← hf.1] <;> simp
    have hw : w64 (s.2.1 + 1) = s.2.1 + 1 := w64_id (by omega) (by omega)
    rw [if_pos (by simp; omega), hs', hw, spec_l1Own_ok (by omega)]
    by_cases hc : (s.1.length : Int) < s.2.2.1
    · rw [if_pos (decide_eq_true hc), if_pos (decide_eq_true hc)]
      simp only [Option.bind_some]
      rw [if_pos (by rw [List.length_singleton]; unfold lim; omega)]
    · rw [if_neg (by simpa using hc), if_neg (by simpa using hc)]
  | succ m ih =>
    intro d pre s hpre hd hst h0 hr1 hr2 s' b hf
    obtain ⟨d, rfl⟩ : ∃ z, d = z + 1 := ⟨d - 1, by omega⟩
    have hat : pre.length < V := by omega
    have key : ∀ (c x f : Nat) (s1 : S19), x + c = n → c < f → stopN s1 = false → 0 ≤ s1.2.1 →
        s1.2.2.1 ≤ 1000000 →
        s1.2.1 + ((List.range' x c).flatMap fun x => if mstB given pre.length x && okN cs (pre ++ [(x : Int)]) then extL n given (okN cs) m (pre ++ [(x : Int)]) else []).length ≤ 4611686018427387904 → ∀ s' b,
        foldU sCbN ((List.range' x c).flatMap fun x => if mstB given pre.length x && okN cs (pre ++ [(x : Int)]) then extL n given (okN cs) m (pre ++ [(x : Int)]) else []) s1 = some (s', b) →
        spec_l19Go_L8 (spec_l19Go d) f ((n : Int), atN cs V, given, pre, s1, ([], (0, (0, false))), (pre.length : Int), (x : Int)) = some (s', ([], (0, (0, false)))) := by
      intro c
      induction c with
      | zero =>
        intro x f s1 hx hf1 hst1 h01 hr1 hr2 s' b hf2
        obtain ⟨f, rfl⟩ : ∃ z, f = z + 1 := ⟨f - 1, by omega⟩
        have : s1 = s' ∧ true = b := by simpa [foldU] using hf2
        obtain ⟨rfl, rfl⟩ := this
        simp only [spec_l19Go_L8]
        rw [if_neg (by simp; omega)]
      | succ c ihc =>
        intro x f s1 hx hf1 hst1 h01 hr1 hr2 s' b hf2
        obtain ⟨f, rfl⟩ : ∃ z, f = z + 1 := ⟨f - 1, by omega⟩
        have hag : pre.length < given.length := by omega
        rw [List.range'_succ, List.flatMap_cons, foldU_append] at hf2
        rw [List.range'_succ, List.flatMap_cons, List.length_append] at hr2
        have hol := good_ok (given := given) (pre := pre) (s := s1) (s0 := ([], (0, (0, false)))) (x := (x : Int)) h (spec_l19Go d) hat (next := pre ++ [(x : Int)]) (by simp)
        have hw : w64 ((x : Int) + 1) = ((x + 1 : Nat) : Int) := w64_succ (by omega)
        have hover : ∀ (z : S19) (f' y : Nat), 0 < f' → stopN z = true → spec_l19Go_L8 (spec_l19Go d) f' ((n : Int), atN cs V, given, pre, z, ([], (0, (0, false))), (pre.length : Int), (y : Int)) = some (z, ([], (0, (0, false)))) := fun z f' y hf' hz => by
          obtain ⟨f', rfl⟩ : ∃ q, f' = q + 1 := ⟨f' - 1, by omega⟩
          unfold stopN at hz
          rw [Bool.and_eq_true] at hz
          simp only [spec_l19Go_L8, hz.1, hz.2, if_true, Bool.not_true, Bool.false_eq_true, if_false]
          split <;> (obtain ⟨z1, z2, z3, z4⟩ := z; dsimp only at hz ⊢; rw [hz.1])
        have step : mstB given pre.length x = true → ∀ R, R = (spec_l19Go_L14 (spec_l19Go d) fuel ((n : Int), atN cs V, given, pre, (s1.1, (s1.2.1, (s1.2.2.1, s1.2.2.2))), ([], (0, (0, false))), (pre.length : Int), (x : Int), pre ++ [(x : Int)], true, 0)).bind (fun s6 =>
                  if s6.2.2.2.2.2.2.2.2.2 then
                    (spec_l19Go d (s6.1, s6.2.1, s6.2.2.1, s6.2.2.2.2.2.2.2.2.1, (s6.2.2.2.2.1.1, (s6.2.2.2.2.1.2.1, (s6.2.2.2.2.1.2.2.1, s6.2.2.2.2.1.2.2.2))))).bind fun r7 =>
                      spec_l19Go_L8 (spec_l19Go d) f (s6.1, s6.2.1, s6.2.2.1, s6.2.2.2.1, (r7.1, (r7.2.1, (r7.2.2.1, r7.2.2.2))), (s6.2.2.2.2.2.1.1, (s6.2.2.2.2.2.1.2.1, (s6.2.2.2.2.2.1.2.2.1, s6.2.2.2.2.2.1.2.2.2))), s6.2.2.2.2.2.2.1, w64 (s6.2.2.2.2.2.2.2.1 + 1))
                  else
                    spec_l19Go_L8 (spec_l19Go d) f (s6.1, s6.2.1, s6.2.2.1, s6.2.2.2.1, (s6.2.2.2.2.1.1, (s6.2.2.2.2.1.2.1, (s6.2.2.2.2.1.2.2.1, s6.2.2.2.2.1.2.2.2))), (s6.2.2.2.2.2.1.1, (s6.2.2.2.2.2.1.2.1, (s6.2.2.2.2.2.1.2.2.1, s6.2.2.2.2.2.1.2.2.2))), s6.2.2.2.2.2.2.1, w64 (s6.2.2.2.2.2.2.2.1 + 1))) →
            R = some (s', ([], (0, (0, false)))) := by
          intro hm R hR
          have hol : spec_l19Go_L14 (spec_l19Go d) fuel ((n : Int), atN cs V, given, pre, (s1.1, (s1.2.1, (s1.2.2.1, s1.2.2.2))), ([], (0, (0, false))), (pre.length : Int), (x : Int), pre ++ [(x : Int)], true, 0) = _ := hol
          rw [hol] at hR
          simp only [Option.bind_some, hw] at hR
          rw [hm] at hf2 hr2
          cases hfi : okN cs (pre ++ [(x : Int)]) with
          | false =>
            rw [hfi] at hf2 hr2 hR
            simp only [Bool.and_false, Bool.false_eq_true, if_false, foldU, List.length_nil, Nat.zero_add] at hf2 hr2 hR
            rw [hR]
            exact ihc (x + 1) f s1 (by omega) (by omega) hst1 h01 hr1 hr2 s' b hf2
          | true =>
            rw [hfi] at hf2 hr2 hR
            simp only [Bool.and_true, if_true] at hf2 hr2 hR
            obtain ⟨⟨s2, b2⟩, hq⟩ := foldN_tot (extL n given (okN cs) m (pre ++ [(x : Int)])) s1
            obtain ⟨g1, g2, g3, g4, g5⟩ := foldN_cnt _ _ _ _ hq
            have g5 := g5 hst1
            rw [hq] at hf2
            have hrec := ih d (pre ++ [(x : Int)]) s1 (by simp; omega) (by omega) hst1 h01 (by omega) (by push_cast at hr2; omega) s2 b2 hq
            have hrec : spec_l19Go d ((n : Int), atN cs V, given, pre ++ [(x : Int)], (s1.1, (s1.2.1, (s1.2.2.1, s1.2.2.2)))) = some s2 := hrec
            rw [hrec] at hR
            simp only [Option.bind_some] at hR
            cases hb2 : stopN s2 with
            | true =>
              rw [hb2] at g5
              subst g5
              have : s2 = s' ∧ false = b := by simpa using hf2
              obtain ⟨rfl, rfl⟩ := this
              rw [hR]
              exact hover s2 f (x + 1) (by omega) hb2
            | false =>
              rw [hb2] at g5
              subst g5
              rw [hR]
              exact ihc (x + 1) f s2 (by omega) (by omega) hb2 (by omega) (by rw [g4]; exact hr1) (by push_cast at hr2; omega) s' b hf2
        have hlim : pre.length + [(x : Int)].length ≤ lim := by rw [List.length_singleton]; unfold lim; omega
        have body : ∀ R, R = (if inb (pre.length : Int) given then
            if decide ((gd given (pre.length : Int) 0) ≥ 0) then
              if inb (pre.length : Int) given then
                if (gd given (pre.length : Int) 0) != (x : Int) then
                  spec_l19Go_L8 (spec_l19Go d) f ((n : Int), atN cs V, given, pre, (s1.1, (s1.2.1, (s1.2.2.1, s1.2.2.2))), ([], (0, (0, false))), (pre.length : Int), w64 ((x : Int) + 1))
                else
                  (spec_l1Own pre).bind fun r2 =>
                    if r2.length + [(x : Int)].length ≤ lim then
                      (spec_l19Go_L14 (spec_l19Go d) fuel ((n : Int), atN cs V, given, pre, (s1.1, (s1.2.1, (s1.2.2.1, s1.2.2.2))), ([], (0, (0, false))), (pre.length : Int), (x : Int), r2 ++ [(x : Int)], true, 0)).bind (fun s6 =>
                        if s6.2.2.2.2.2.2.2.2.2 then
                          (spec_l19Go d (s6.1, s6.2.1, s6.2.2.1, s6.2.2.2.2.2.2.2.2.1, (s6.2.2.2.2.1.1, (s6.2.2.2.2.1.2.1, (s6.2.2.2.2.1.2.2.1, s6.2.2.2.2.1.2.2.2))))).bind fun r7 =>
                            spec_l19Go_L8 (spec_l19Go d) f (s6.1, s6.2.1, s6.2.2.1, s6.2.2.2.1, (r7.1, (r7.2.1, (r7.2.2.1, r7.2.2.2))), (s6.2.2.2.2.2.1.1, (s6.2.2.2.2.2.1.2.1, (s6.2.2.2.2.2.1.2.2.1, s6.2.2.2.2.2.1.2.2.2))), s6.2.2.2.2.2.2.1, w64 (s6.2.2.2.2.2.2.2.1 + 1))
                        else
                          spec_l19Go_L8 (spec_l19Go d) f (s6.1, s6.2.1, s6.2.2.1, s6.2.2.2.1, (s6.2.2.2.2.1.1, (s6.2.2.2.2.1.2.1, (s6.2.2.2.2.1.2.2.1, s6.2.2.2.2.1.2.2.2))), (s6.2.2.2.2.2.1.1, (s6.2.2.2.2.2.1.2.1, (s6.2.2.2.2.2.1.2.2.1, s6.2.2.2.2.2.1.2.2.2))), s6.2.2.2.2.2.2.1, w64 (s6.2.2.2.2.2.2.2.1 + 1)))
                    else none
              else none
            else
              (spec_l1Own pre).bind fun r2 =>
                if r2.length + [(x : Int)].length ≤ lim then
                  (spec_l19Go_L14 (spec_l19Go d) fuel ((n : Int), atN cs V, given, pre, (s1.1, (s1.2.1, (s1.2.2.1, s1.2.2.2))), ([], (0, (0, false))), (pre.length : Int), (x : Int), r2 ++ [(x : Int)], true, 0)).bind (fun s6 =>
                    if s6.2.2.2.2.2.2.2.2.2 then
                      (spec_l19Go d (s6.1, s6.2.1, s6.2.2.1, s6.2.2.2.2.2.2.2.2.1, (s6.2.2.2.2.1.1, (s6.2.2.2.2.1.2.1, (s6.2.2.2.2.1.2.2.1, s6.2.2.2.2.1.2.2.2))))).bind fun r7 =>
                        spec_l19Go_L8 (spec_l19Go d) f (s6.1, s6.2.1, s6.2.2.1, s6.2.2.2.1, (r7.1, (r7.2.1, (r7.2.2.1, r7.2.2.2))), (s6.2.2.2.2.2.1.1, (s6.2.2.2.2.2.1.2.1, (s6.2.2.2.2.2.1.2.2.1, s6.2.2.2.2.2.1.2.2.2))), s6.2.2.2.2.2.2.1, w64 (s6.2.2.2.2.2.2.2.1 + 1))
                    else
                      spec_l19Go_L8 (spec_l19Go d) f (s6.1, s6.2.1, s6.2.2.1, s6.2.2.2.1, (s6.2.2.2.2.1.1, (s6.2.2.2.2.1.2.1, (s6.2.2.2.2.1.2.2.1, s6.2.2.2.2.1.2.2.2))), (s6.2.2.2.2.2.1.1, (s6.2.2.2.2.2.1.2.1, (s6.2.2.2.2.2.1.2.2.1, s6.2.2.2.2.2.1.2.2.2))), s6.2.2.2.2.2.2.1, w64 (s6.2.2.2.2.2.2.2.1 + 1)))
                else none
          else none) → R = some (s', ([], (0, (0, false)))) := by
          intro R hR
          rw [spec_l1Own_ok (show pre.length ≤ 1099511627775 by omega)] at hR
          simp only [inb_nat, hag, if_true, Option.bind_some] at hR
          rw [if_pos hlim] at hR
          by_cases hc1 : gd given (pre.length : Int) 0 ≥ 0
          · rw [if_pos (decide_eq_true hc1)] at hR
            by_cases hc2 : gd given (pre.length : Int) 0 = (x : Int)
            · rw [if_neg (by simpa using hc2)] at hR
              exact step (by unfold mstB; rw [show given.getD pre.length 0 = (x : Int) from hc2]; simp) R hR
            · rw [if_pos (by simpa using hc2), hw] at hR
              have hm : mstB given pre.length x = false := by
                unfold mstB
                rw [decide_eq_true (show given.getD pre.length 0 ≥ 0 from hc1)]
                simp only [Bool.true_and, Bool.not_eq_false', bne_iff_ne]; exact hc2
              rw [hm] at hf2 hr2
              simp only [Bool.false_and, Bool.false_eq_true, if_false, foldU, List.length_nil, Nat.zero_add] at hf2 hr2
              rw [hR]
              exact ihc (x + 1) f s1 (by omega) (by omega) hst1 h01 hr1 hr2 s' b hf2
          · rw [if_neg (by simpa using hc1)] at hR
            exact step (by unfold mstB; rw [decide_eq_false (show ¬ given.getD pre.length 0 ≥ 0 from hc1)]; rfl) R hR
        simp only [spec_l19Go_L8]
        rw [if_pos (by simp; omega)]
        cases hone : s1.2.2.2 with
        | true =>
          have hcnt : decide (s1.2.1 > 0) = false := by unfold stopN at hst1; rw [hone] at hst1; simpa using hst1
          rw [hcnt]
          simp only [if_true, Bool.not_false]
          refine body _ ?_
          rw [hone]
        | false =>
          simp only [Bool.false_eq_true, if_false, Bool.not_false, if_true]
          refine body _ ?_
          rw [hone]
    simp only [extL] at hf hr2
    rw [List.range_eq_range'] at hf hr2
    have h4 := key n 0 fuel s (by omega) (by unfold fuel; omega) hst h0 hr1 hr2 s' b hf
    have hlN : (atN cs V).length = V := by simp [atN]
    simp only [spec_l19Go, spec_l19Go_body]
    rw [if_neg (by simp; omega)]
    have h4 : spec_l19Go_L8 (spec_l19Go d) fuel ((n : Int), atN cs V, given, pre, (s.1, (s.2.1, (s.2.2.1, s.2.2.2))), ([], (0, (0, false))), (pre.length : Int), 0) = _ := h4
    rw [h4]; rfl
theorem find19_ok (h : SrchOk V n cs) (hg : given.length = V) {cs0 : List Con} {most : Int} {one : Bool} (hm : most ≤ 1000000) {s' : S19} {b : Bool} (hf : foldU sCbN (solsN V n cs given) ([], 0, most, one) = some (s', b)) :
    spec_l19Find ((V : Int), ((n : Int), cs0)) cs given most one = some s' := by
  have hV := h.hv
  have hn := h.hn
  unfold spec_l19Find
  have hl : (solsN V n cs given).length ≤ 4 ^ 9 := by
    refine Nat.le_trans (ext_len (n := n) (given := given) V []) ?_
    exact Nat.le_trans (Nat.pow_le_pow_left hn.2 V) (Nat.pow_le_pow_right (by omega) hV)
  have := go19_ok h hg V fuel [] ([], 0, most, one) (by simp) (by unfold fuel; omega) (by simp [stopN]) (by simp) hm (by
    have : (4 : Nat) ^ 9 = 262144 := by decide
    rw [this] at hl
    have : (extL n given (okN cs) V []).length = (solsN V n cs given).length := rfl
    dsimp only; omega) s' b hf
  simp only [most_ok h, Option.bind_some, this]
end
end T
open Go Go.Va
namespace T
section
variable {p : Int} {W N V : Nat}
structure GenOk (p : Int) (W N V : Nat) (s : ES) (F x : List Int) : Prop where
 hp : pr4 p
 hs : ESok p W N V s
 hV : V < W
 hW : W ≤ 1000
 hN : N ≤ 100000
 hF : F = freeL V s.2.1
 hx : x.length = F.length
 xb : ∀ v ∈ x, 0 ≤ v ∧ v < p
variable {s : ES} {F x : List Int}
theorem GenOk.row (g : GenOk p W N V s F x) {u : Nat} (hu : ¬ posL s.2.1 u < 0) : (posL s.2.1 u).toNat < s.1.length ∧ okRow p W (s.1.getD (posL s.2.1 u).toNat []) := by
 have hm : (u : Int) ∈ s.2.1 := by
  rcases Decidable.em ((u : Int) ∈ s.2.1) with h | h
  ·exact h
  ·exact absurd (posL_neg.2 h) hu
 obtain ⟨i, hi, g1, _⟩ := posL_at hm
 rw [g1, Int.toNat_natCast]
 have := g.hs.bl
 exact ⟨by omega, by rw [getD_of (by omega)]; exact g.hs.t _ (List.getElem_mem _)⟩
end
end T
open Go Go.Va
namespace T
structure TupS (n : Int) (k : Nat) (ts : List (List Int)) : Prop where
 hn : 1 ≤ n ∧ n ≤ 8
 hk : 1 ≤ k ∧ k ≤ 4
 len : ∀ t ∈ ts, t.length = k
 el : ∀ t ∈ ts, belowB n t = true
 inc : incB ts = true
theorem TupS.count {n : Int} {k : Nat} {ts : List (List Int)} (h : TupS n k ts) : ts.length ≤ 4096 := by
 rcases inc_count (n := n) (k := k) h.inc fun t ht => ⟨h.len t ht, h.el t ht⟩ with h' | h'
 ·have hp := h.hn
  have e : n ^ k ≤ 8 ^ 4 := by
   have : (n.toNat ^ k : Nat) ≤ 8 ^ 4 := Nat.le_trans (Nat.pow_le_pow_left (show n.toNat ≤ 8 by omega) k) (Nat.pow_le_pow_right (by omega) h.hk.2)
   have e2 : ((n.toNat ^ k : Nat) : Int) = n ^ k := by
    rw [Int.natCast_pow]; congr 1; omega
   rw [← e2]; exact_mod_cast this
  have : (8 : Int) ^ 4 = 4096 := by decide
  omega
 ·rw [h']; simp
section
variable {n : Int} {k : Nat} {ts : List (List Int)}
end
end T
open Go Go.Va
namespace T
section
variable {n k m : Nat} {r : RelT} {rels : List RelT} {given t : List Int}
theorem ext_iff {ok : List Int → Bool} : ∀ (m : Nat) (pre t : List Int), t ∈ extL n given ok m pre ↔ t.length = pre.length + m ∧ t.take pre.length = pre ∧
    ∀ q, pre.length ≤ q → q < t.length → (0 ≤ t.getD q 0 ∧ t.getD q 0 < (n : Int)) ∧ mstB given q (t.getD q 0).toNat = true ∧ ok (t.take (q + 1)) = true
  | 0, pre, t => by
    simp only [extL, List.mem_singleton, Nat.add_zero]
    constructor
    · rintro rfl
      exact ⟨rfl, by simp, fun q h1 h2 => by omega⟩
    · rintro ⟨h1, h2, _⟩
      rw [← h2, List.take_of_length_le (by omega)]
  | m + 1, pre, t => by
    simp only [extL, List.mem_flatMap, List.mem_range]
    constructor
    · rintro ⟨x, hx, h⟩
      by_cases hc : (mstB given pre.length x && ok (pre ++ [(x : Int)])) = true
      · rw [if_pos hc] at h
        obtain ⟨h1, h2, h3⟩ := (ext_iff m (pre ++ [(x : Int)]) t).1 h
        rw [Bool.and_eq_true] at hc
        rw [List.length_append, List.length_singleton] at h1 h2 h3
        have hv : t.getD pre.length 0 = (x : Int) := by
          have hl : pre.length < t.length := by omega
          have e : (t.take (pre.length + 1)).getD pre.length 0 = t.getD pre.length 0 := by simp [List.getD_eq_getElem?_getD, List.getElem?_take]
          rw [← e, h2]; simp [List.getD_eq_getElem?_getD]
        refine ⟨by omega, ?_, fun q h4 h5 => ?_⟩
        · have : (t.take (pre.length + 1)).take pre.length = pre := by rw [h2]; simp
          rw [List.take_take] at this
          rwa [Nat.min_eq_left (by omega)] at this
        · by_cases e : q = pre.length
          · subst e
            rw [hv, h2]
            exact ⟨by omega, by rw [Int.toNat_natCast]; exact hc.1, hc.2⟩
          · exact h3 q (by omega) h5
      · rw [if_neg hc] at h; simp at h
    · rintro ⟨h1, h2, h3⟩
      have hl : pre.length < t.length := by omega
      obtain ⟨a1, a2, a3⟩ := h3 pre.length (Nat.le_refl _) hl
      have hx : (((t.getD pre.length 0).toNat : Nat) : Int) = t.getD pre.length 0 := Int.toNat_of_nonneg a1.1
      have ht : t.take (pre.length + 1) = pre ++ [(((t.getD pre.length 0).toNat : Nat) : Int)] := by
        rw [hx, List.take_succ_eq_append_getElem hl, h2, getD_of hl]
      refine ⟨(t.getD pre.length 0).toNat, by omega, ?_⟩
      rw [if_pos (by rw [Bool.and_eq_true]; exact ⟨a2, by rw [← ht]; exact a3⟩)]
      refine (ext_iff m _ t).2 ⟨by simp; omega, by rw [List.length_append, List.length_singleton]; exact ht, fun q h4 h5 => h3 q (by rw [List.length_append, List.length_singleton] at h4; omega) h5⟩
theorem mst_free {N q x : Nat} (hq : q < N) : mstB (List.replicate N (-1)) q x = true := by
 unfold mstB
 rw [getD_of (by simpa using hq)]; simp
end
end T
set_option linter.unusedVariables false
open Go Go.Va
namespace T
def spec_l20Kept_L3 : Nat → ((List (List Int)) × Int × Int) → Option (Int)
 | 0, _ => none
 | n + 1, (domains, n_, v) =>
  if decide (v < (domains.length : Int)) then
   if inb v domains then
    spec_l20Kept_L3 n (domains, w64 (n_ + ((gd domains v []).length : Int)), w64 (v + 1))
   else none
  else
   some n_
def spec_l20Kept (domains : List (List Int)) : Option (Int) :=
 (spec_l20Kept_L3 fuel (domains, 0, 0)).bind fun s1 =>
  some s1
def spec_RemovedCounts_L10 : Nat → ((Int × Int × (List ((List Int) × Int × (List (List Int))))) × Int × (List (List Int)) × Int × Int × Int) → Option ((Int × Int × (List ((List Int) × Int × (List (List Int))))) × Int × (List (List Int)) × Int × Int)
 | 0, _ => none
 | n + 1, (t1, t6, t7, t9, t10, t11) =>
  if decide (t11 < t1.2.1) then
   (spec_l14Free t1.1).bind fun r4 =>
    if inb t10 r4 then
     (spec_l19Find (t1.1, (t1.2.1, t1.2.2)) t1.2.2 (stt r4 t10 t11) 1 true).bind fun r5 =>
      if r5.2.1 == 0 then
       spec_RemovedCounts_L10 n ((t1.1, (t1.2.1, t1.2.2)), t6, t7, w64 (t9 + 1), t10, w64 (t11 + 1))
      else
       spec_RemovedCounts_L10 n ((t1.1, (t1.2.1, t1.2.2)), t6, t7, t9, t10, w64 (t11 + 1))
    else none
  else
   some ((t1.1, (t1.2.1, t1.2.2)), t6, t7, t9, t10)
def spec_RemovedCounts_L7 : Nat → ((Int × Int × (List ((List Int) × Int × (List (List Int))))) × Int × (List (List Int)) × Int × Int) → Option ((Int × Int × (List ((List Int) × Int × (List (List Int))))) × Int × (List (List Int)) × Int)
 | 0, _ => none
 | n + 1, (t1, t6, t7, t9, t10) =>
  if decide (t10 < t1.1) then
   (spec_RemovedCounts_L10 fuel ((t1.1, (t1.2.1, t1.2.2)), t6, t7, t9, t10, 0)).bind fun s4 =>
    spec_RemovedCounts_L7 n ((s4.1.1, (s4.1.2.1, s4.1.2.2)), s4.2.1, s4.2.2.1, s4.2.2.2.1, w64 (s4.2.2.2.2 + 1))
  else
   some ((t1.1, (t1.2.1, t1.2.2)), t6, t7, t9)
def spec_RemovedCounts (t0 : Int × Int × (List ((List Int) × Int × (List (List Int))))) : Option (Int × Int × Int × Bool) :=
 (spec_l19Good (t0.1, (t0.2.1, t0.2.2))).bind fun r1 =>
  if !r1 then
   some (0, 0, 0, false)
  else
   (spec_l20Full (t0.1, (t0.2.1, t0.2.2))).bind fun r2 =>
    (spec_l20Arc (t0.1, (t0.2.1, t0.2.2)) r2).bind fun r3 =>
     (spec_RemovedCounts_L7 fuel ((t0.1, (t0.2.1, t0.2.2)), w64 (t0.1 * t0.2.1), r3.1, 0, 0)).bind fun s4 =>
      (spec_l20Kept s4.2.2.1).bind fun r5 =>
       (spec_l20Single (s4.1.1, (s4.1.2.1, s4.1.2.2))).bind fun r6 =>
        (spec_l20Kept r6).bind fun r7 =>
         some (w64 (s4.2.1 - r5), w64 (s4.2.1 - r7), s4.2.2.2, true)
def impl_domains_missing_L3 : Nat → (Int × (List (List Bool)) × Int × Int) → Option (Int)
 | 0, _ => none
 | n + 1, (many, t6, t7, t8) =>
  if decide (t8 < t7) then
   if inb t8 t6 then
    (impl_marked (gd t6 t8 [])).bind fun r1 =>
     impl_domains_missing_L3 n (w64 (many + (w64 (((gd t6 t8 []).length : Int) - (r1.length : Int)))), t6, t7, w64 (t8 + 1))
   else none
  else
   some many
def impl_domains_missing (d : List (List Bool)) : Option (Int) :=
 (impl_domains_missing_L3 fuel (0, d, (d.length : Int), 0)).bind fun s1 =>
  some s1
def impl_RemovedCounts_c1_L2 : Nat → ((List (List Bool)) × (List Int) × Int × Int) → Option ((List (List Bool)))
 | 0, _ => none
 | n + 1, (t1, t6, t7, t8) =>
  if decide (t8 < t7) then
   if inb t8 t6 then
    if inb t8 t1 then
     if inb (gd t6 t8 0) (gd t1 t8 []) then
      impl_RemovedCounts_c1_L2 n (stt t1 t8 (stt (gd t1 t8 []) (gd t6 t8 0) true), t6, t7, w64 (t8 + 1))
     else none
    else none
   else none
  else
   some t1
def impl_RemovedCounts_c1 (values : List Int) (t1 : List (List Bool)) : Option ((List (List Bool)) × Bool) :=
 (impl_RemovedCounts_c1_L2 fuel (t1, values, (values.length : Int), 0)).bind fun s1 =>
  some (s1, true)
def impl_netSearch_each_c1_impl_RemovedCounts_c1_L10 (rec : (Int × (List Int) × (List (List Bool)) × (Bool × Int × (List (List (List Int))) × (List (List (List ByteArray)))) × (List Int) × Unit) → Option ((List Int) × (List (List Bool)) × (Bool × Int × (List (List (List Int))) × (List (List (List ByteArray)))) × (List Int) × Bool)) : Nat → (Int × (List Int) × (List (List Bool)) × (Bool × Int × (List (List (List Int))) × (List (List (List ByteArray)))) × (List Int) × Unit × Int × Bool × (List (List Int)) × Int × Int) → Option (Int × (List Int) × (List (List Bool)) × (Bool × Int × (List (List (List Int))) × (List (List (List ByteArray)))) × (List Int) × Unit × Int × Bool)
 | 0, _ => none
 | n + 1, (t0, t1, t2, t3, t4, t5, t8, t9, t50, t51, t52) =>
  if decide (t52 < t51) then
   if inb t52 t50 then
    if t9 then
     if t3.1 = true then
      if inb t0 t3.2.2.2 then
       if inb t52 (gd t3.2.2.2 t0 []) then
        (impl_compose (gd t50 t52 []) t1).bind fun r2 =>
         (impl_keyOf r2).bind fun r3 =>
          impl_netSearch_each_c1_impl_RemovedCounts_c1_L10 rec n (t0, t1, t2, t3, t4, (), t8, mhas (gd (gd t3.2.2.2 t0 []) t52 []) r3, t50, t51, w64 (t52 + 1))
       else none
      else none
     else none
    else
     impl_netSearch_each_c1_impl_RemovedCounts_c1_L10 rec n (t0, t1, t2, t3, t4, (), t8, false, t50, t51, w64 (t52 + 1))
   else none
  else
   some (t0, t1, t2, t3, t4, (), t8, t9)
def impl_netSearch_each_c1_impl_RemovedCounts_c1_L4 (rec : (Int × (List Int) × (List (List Bool)) × (Bool × Int × (List (List (List Int))) × (List (List (List ByteArray)))) × (List Int) × Unit) → Option ((List Int) × (List (List Bool)) × (Bool × Int × (List (List (List Int))) × (List (List (List ByteArray)))) × (List Int) × Bool)) : Nat → (Int × (List Int) × (List (List Bool)) × (Bool × Int × (List (List (List Int))) × (List (List (List ByteArray)))) × (List Int) × Unit × Int) → Option (((List Int) × (List (List Bool)) × (Bool × Int × (List (List (List Int))) × (List (List (List ByteArray)))) × (List Int) × Unit) ⊕ ((List Int) × (List (List Bool)) × (Bool × Int × (List (List (List Int))) × (List (List (List ByteArray)))) × (List Int) × Unit × Bool))
 | 0, _ => none
 | n + 1, (t0, t1, t2, t3, t4, t5, t8) =>
  if t3.1 = true then
   if decide (t8 < t3.2.1) then
    if inb t0 t4 then
     if decide ((gd t4 t0 0) ≥ 0) then
      if inb t0 t4 then
       if (gd t4 t0 0) != t8 then
        impl_netSearch_each_c1_impl_RemovedCounts_c1_L4 rec n (t0, t1, t2, t3, t4, (), w64 (t8 + 1))
       else
        if inb t0 t1 then
         if t3.1 = true then
          if inb t0 t3.2.2.1 then
           (impl_netSearch_each_c1_impl_RemovedCounts_c1_L10 rec fuel (t0, stt t1 t0 t8, t2, t3, t4, (), t8, true, gd t3.2.2.1 t0 [], ((gd t3.2.2.1 t0 []).length : Int), 0)).bind fun s2 =>
            if s2.2.2.2.2.2.2.2 then
             (rec (w64 (s2.1 + 1), s2.2.1, s2.2.2.1, s2.2.2.2.1, s2.2.2.2.2.1, ())).bind fun r3 =>
              if !r3.2.2.2.2 then
               some (.inr (r3.1, r3.2.1, r3.2.2.1, r3.2.2.2.1, (), false))
              else
               impl_netSearch_each_c1_impl_RemovedCounts_c1_L4 rec n (s2.1, r3.1, r3.2.1, r3.2.2.1, r3.2.2.2.1, (), w64 (s2.2.2.2.2.2.2.1 + 1))
            else
             impl_netSearch_each_c1_impl_RemovedCounts_c1_L4 rec n (s2.1, s2.2.1, s2.2.2.1, s2.2.2.2.1, s2.2.2.2.2.1, (), w64 (s2.2.2.2.2.2.2.1 + 1))
          else none
         else none
        else none
      else none
     else
      if inb t0 t1 then
       if t3.1 = true then
        if inb t0 t3.2.2.1 then
         (impl_netSearch_each_c1_impl_RemovedCounts_c1_L10 rec fuel (t0, stt t1 t0 t8, t2, t3, t4, (), t8, true, gd t3.2.2.1 t0 [], ((gd t3.2.2.1 t0 []).length : Int), 0)).bind fun s4 =>
          if s4.2.2.2.2.2.2.2 then
           (rec (w64 (s4.1 + 1), s4.2.1, s4.2.2.1, s4.2.2.2.1, s4.2.2.2.2.1, ())).bind fun r5 =>
            if !r5.2.2.2.2 then
             some (.inr (r5.1, r5.2.1, r5.2.2.1, r5.2.2.2.1, (), false))
            else
             impl_netSearch_each_c1_impl_RemovedCounts_c1_L4 rec n (s4.1, r5.1, r5.2.1, r5.2.2.1, r5.2.2.2.1, (), w64 (s4.2.2.2.2.2.2.1 + 1))
          else
           impl_netSearch_each_c1_impl_RemovedCounts_c1_L4 rec n (s4.1, s4.2.1, s4.2.2.1, s4.2.2.2.1, s4.2.2.2.2.1, (), w64 (s4.2.2.2.2.2.2.1 + 1))
        else none
       else none
      else none
    else none
   else
    some (.inl (t1, t2, t3, t4, ()))
  else none
def impl_netSearch_each_c1_impl_RemovedCounts_c1_body (rec : (Int × (List Int) × (List (List Bool)) × (Bool × Int × (List (List (List Int))) × (List (List (List ByteArray)))) × (List Int) × Unit) → Option ((List Int) × (List (List Bool)) × (Bool × Int × (List (List (List Int))) × (List (List (List ByteArray)))) × (List Int) × Bool)) (t0 : Int) (t1 : List Int) (t2 : List (List Bool)) (t3 : Bool × Int × (List (List (List Int))) × (List (List (List ByteArray)))) (t4 : List Int) (t5 : Unit) : Option ((List Int) × (List (List Bool)) × (Bool × Int × (List (List (List Int))) × (List (List (List ByteArray)))) × (List Int) × Bool) :=
 if t0 == (t1.length : Int) then
  (impl_RemovedCounts_c1 t1 t2).bind fun r1 =>
   some (t1, r1.1, t3, t4, r1.2)
 else
  (impl_netSearch_each_c1_impl_RemovedCounts_c1_L4 rec fuel (t0, t1, t2, t3, t4, (), 0)).bind fun s2 =>
   match s2 with
   | .inl s3 =>
    some (s3.1, s3.2.1, s3.2.2.1, s3.2.2.2.1, true)
   | .inr s4 =>
    some (s4.1, s4.2.1, s4.2.2.1, s4.2.2.2.1, s4.2.2.2.2.2)
def impl_netSearch_each_c1_impl_RemovedCounts_c1 : Nat → (Int × (List Int) × (List (List Bool)) × (Bool × Int × (List (List (List Int))) × (List (List (List ByteArray)))) × (List Int) × Unit) → Option ((List Int) × (List (List Bool)) × (Bool × Int × (List (List (List Int))) × (List (List (List ByteArray)))) × (List Int) × Bool)
 | 0, _ => none
 | d + 1, x => impl_netSearch_each_c1_impl_RemovedCounts_c1_body (impl_netSearch_each_c1_impl_RemovedCounts_c1 d) x.1 x.2.1 x.2.2.1 x.2.2.2.1 x.2.2.2.2.1 x.2.2.2.2.2
def impl_netSearch_each_impl_RemovedCounts_c1 (s : Bool × Int × (List (List (List Int))) × (List (List (List ByteArray)))) (partial_ : List Int) (found : List (List Bool)) : Option ((List (List Bool))) :=
 if 0 ≤ (partial_.length : Int) ∧ (partial_.length : Int) ≤ (partial_.length : Int) ∧ (partial_.length : Int) ≤ lim then
  (impl_netSearch_each_c1_impl_RemovedCounts_c1 fuel (0, List.replicate (Int.toNat (partial_.length : Int)) (0 : Int), found, s, partial_, ())).bind fun r1 =>
   some r1.2.1
 else none
def impl_eachSolution_impl_RemovedCounts_c1 (net : Int × Int × (List ((List Int) × Int × (List (List Int))))) (found : List (List Bool)) : Option ((List (List Bool))) :=
 (impl_newNetSearch (net.1, (net.2.1, net.2.2))).bind fun r1 =>
  (impl_freeTable net.1).bind fun r2 =>
   (impl_netSearch_each_impl_RemovedCounts_c1 r1 r2 found).bind fun r3 =>
    some r3
def impl_RemovedCounts_L5 : Nat → ((Int × Int × (List ((List Int) × Int × (List (List Int))))) × (List (List Bool)) × Int × Int) → Option ((Int × Int × (List ((List Int) × Int × (List (List Int))))) × (List (List Bool)))
 | 0, _ => none
 | n + 1, (net, solved, t14, t15) =>
  if decide (t15 < t14) then
   if inb t15 solved then
    impl_RemovedCounts_L5 n ((net.1, (net.2.1, net.2.2)), stt solved t15 (List.replicate (gd solved t15 []).length false), t14, w64 (t15 + 1))
   else none
  else
   some ((net.1, (net.2.1, net.2.2)), solved)
def impl_RemovedCounts (net : Int × Int × (List ((List Int) × Int × (List (List Int))))) : Option (Int × Int × Int × Bool) :=
 (impl_IsNetwork (net.1, (net.2.1, net.2.2))).bind fun r1 =>
  if !r1 then
   some (0, 0, 0, false)
  else
   (impl_wholeDomains (net.1, (net.2.1, net.2.2))).bind fun r2 =>
    (impl_RemovedCounts_L5 fuel ((net.1, (net.2.1, net.2.2)), r2, (r2.length : Int), 0)).bind fun s3 =>
     (impl_eachSolution_impl_RemovedCounts_c1 (s3.1.1, (s3.1.2.1, s3.1.2.2)) s3.2).bind fun r4 =>
      (impl_arcDomains (s3.1.1, (s3.1.2.1, s3.1.2.2))).bind fun r5 =>
       (impl_domains_missing r5).bind fun r6 =>
        (impl_singleDomains (s3.1.1, (s3.1.2.1, s3.1.2.2))).bind fun r7 =>
         (impl_domains_missing r7).bind fun r8 =>
          (impl_domains_missing r4).bind fun r9 =>
           some (r6, r8, r9, true)
def laws_FnExactRemovedCounts (aNet : Int × Int × (List ((List Int) × Int × (List (List Int))))) : Option (Bool) :=
 (laws_szNetwork (aNet.1, (aNet.2.1, aNet.2.2)) 1048576).bind fun r1 =>
  if decide (r1 < 0) then
   some true
  else
   (laws_toNetwork (aNet.1, (aNet.2.1, aNet.2.2))).bind fun r2 =>
    (spec_RemovedCounts (r2.1, (r2.2.1, r2.2.2))).bind fun r3 =>
     (laws_toNetwork (aNet.1, (aNet.2.1, aNet.2.2))).bind fun r4 =>
      (impl_RemovedCounts (r4.1, (r4.2.1, r4.2.2))).bind fun r5 =>
       if r5.1 != r3.1 then
        some false
       else
        if r5.2.1 != r3.2.1 then
         some false
        else
         if r5.2.2.1 != r3.2.2.1 then
          some false
         else
          if r5.2.2.2 != r3.2.2.2 then
           some false
          else
           (laws_toNetwork (aNet.1, (aNet.2.1, aNet.2.2))).bind fun r6 =>
            (laws_eqNetwork (r4.1, (r4.2.1, r4.2.2)) (r6.1, (r6.2.1, r6.2.2))).bind fun r7 =>
             if !r7 then
              some false
             else
              some true
end T
open Go Go.Va
namespace T
section
variable {a : Net} {D : Dom}
def keptN (D : Dom) : Nat := (D.map fun r => (mk r).length).sum
def missN (D : Dom) : Nat := (D.map fun r => r.length - (mk r).length).sum
theorem mk_le (r : List Bool) : (mk r).length ≤ r.length := by
 unfold mk
 rw [List.length_map]
 exact Nat.le_trans (List.length_filter_le _ _) (by simp)
theorem sum_le_mul {α : Type} (f : α → Nat) (B : Nat) : ∀ (l : List α), (∀ x ∈ l, f x ≤ B) → (l.map f).sum ≤ B * l.length
 | [], _ => by simp
 | x :: l, h => by
  have h1 := sum_le_mul f B l fun y hy => h y (List.mem_cons_of_mem _ hy)
  have h2 := h x (List.mem_cons_self ..)
  simp only [List.map_cons, List.sum_cons, List.length_cons, Nat.mul_succ]
  omega
theorem kept_ok (hl : D.length ≤ 1000) (hr : ∀ r ∈ D, r.length ≤ 1000) : spec_l20Kept (D.map mk) = some ((keptN D : Nat) : Int) := by
 have hb : ∀ k, ((D.take k).map fun r => (mk r).length).sum ≤ 1000 * 1000 := fun k => by
  refine Nat.le_trans (sum_le_mul _ 1000 _ fun r h => Nat.le_trans (mk_le r) (hr r (List.mem_of_mem_take h))) (Nat.mul_le_mul_left _ ?_)
  rw [List.length_take]; omega
 have := forS D.length (fun f (s : Int) i => spec_l20Kept_L3 f (D.map mk, s, i)) (fun k => ((((D.take k).map fun r => (mk r).length).sum : Nat) : Int)) (r := some ((keptN D : Nat) : Int)) (fun f k hk => ?_) (fun f => ?_) (n := fuel) (by unfold fuel; omega)
 ·have this : spec_l20Kept_L3 fuel (D.map mk, 0, 0) = _ := this
  unfold spec_l20Kept
  rw [this]; rfl
 ·have hm : k < (D.map mk).length := by simpa using hk
  have hg : gd (D.map mk) (k : Int) [] = mk D[k] := by rw [gd_nat hm]; simp
  have e : ((D.take (k + 1)).map fun r => (mk r).length).sum = ((D.take k).map fun r => (mk r).length).sum + (mk D[k]).length := by
   rw [List.take_succ_eq_append_getElem hk, List.map_append]; simp
  have hb1 := hb (k + 1)
  have ew : w64 (((((D.take k).map fun r => (mk r).length).sum : Nat) : Int) + ((mk D[k]).length : Int)) = ((((D.take (k + 1)).map fun r => (mk r).length).sum : Nat) : Int) := by
   rw [e] at hb1 ⊢
   rw [w64_id (by omega) (by omega)]; omega
  simp only [spec_l20Kept_L3, inb_nat, hm, hg, if_true, ew, w64_succ (show k < 4611686018427387904 by omega)]
  rw [if_pos (by rw [decide_eq_true_eq, List.length_map]; omega)]
 ·simp only [spec_l20Kept_L3, List.take_length]
  rw [if_neg (by simp)]; rfl
theorem missing_ok (hl : D.length ≤ 1000) (hr : ∀ r ∈ D, r.length ≤ 1000) : impl_domains_missing D = some ((missN D : Nat) : Int) := by
 have hb : ∀ k, ((D.take k).map fun r => r.length - (mk r).length).sum ≤ 1000 * 1000 := fun k => by
  refine Nat.le_trans (sum_le_mul _ 1000 _ fun r h => Nat.le_trans (Nat.sub_le _ _) (hr r (List.mem_of_mem_take h))) (Nat.mul_le_mul_left _ ?_)
  rw [List.length_take]; omega
 have := forS D.length (fun f (s : Int) i => impl_domains_missing_L3 f (s, D, (D.length : Int), i)) (fun k => ((((D.take k).map fun r => r.length - (mk r).length).sum : Nat) : Int)) (r := some ((missN D : Nat) : Int)) (fun f k hk => ?_) (fun f => ?_) (n := fuel) (by unfold fuel; omega)
 ·have this : impl_domains_missing_L3 fuel (0, D, (D.length : Int), 0) = _ := this
  unfold impl_domains_missing
  rw [this]; rfl
 ·have hrk := hr _ (List.getElem_mem hk)
  have hm := mk_le D[k]
  have e1 := impl_marked_ok (r := D[k]) (by omega)
  have e : ((D.take (k + 1)).map fun r => r.length - (mk r).length).sum = ((D.take k).map fun r => r.length - (mk r).length).sum + (D[k].length - (mk D[k]).length) := by
   rw [List.take_succ_eq_append_getElem hk, List.map_append]; simp
  have hb1 := hb (k + 1)
  have ew0 : w64 ((D[k].length : Int) - ((mk D[k]).length : Int)) = ((D[k].length - (mk D[k]).length : Nat) : Int) := by
   rw [w64_id (by omega) (by omega)]; omega
  have ew : w64 (((((D.take k).map fun r => r.length - (mk r).length).sum : Nat) : Int) + ((D[k].length - (mk D[k]).length : Nat) : Int)) = ((((D.take (k + 1)).map fun r => r.length - (mk r).length).sum : Nat) : Int) := by
   rw [e] at hb1 ⊢
   rw [w64_id (by omega) (by omega)]; omega
  simp only [impl_domains_missing_L3, inb_nat, hk, gd_nat hk, e1, Option.bind_some, ew0, ew, if_true, w64_succ (show k < 4611686018427387904 by omega)]
  rw [if_pos (by rw [decide_eq_true_eq]; omega)]
 ·simp only [impl_domains_missing_L3, List.take_length]
  rw [if_neg (by simp)]; rfl
theorem kept_miss (h : DomOk a D) : (keptN D : Int) + (missN D : Int) = a.1 * a.2.1 := by
 have key : ∀ (l : Dom), (∀ r ∈ l, (r.length : Int) = a.2.1) → (((l.map fun r => (mk r).length).sum : Nat) : Int) + (((l.map fun r => r.length - (mk r).length).sum : Nat) : Int) = (l.length : Int) * a.2.1 := by
  intro l
  induction l with
  | nil => intro _; simp
  | cons r l ih =>
   intro hl
   have h1 := ih fun x hx => hl x (List.mem_cons_of_mem _ hx)
   have h2 := hl r (List.mem_cons_self ..)
   have h3 := mk_le r
   simp only [List.map_cons, List.sum_cons, List.length_cons]
   have e : ((l.length + 1 : Nat) : Int) * a.2.1 = (l.length : Int) * a.2.1 + a.2.1 := by push_cast; rw [Int.add_mul, Int.one_mul]
   rw [e]
   omega
 have := key D h.row
 rw [h.len] at this
 exact this
end
end T
open Go Go.Va
namespace T
def rcCb (t : List Int) (s : Dom) : Option (Dom × Bool) := impl_RemovedCounts_c1 t s
theorem eachRC_M (rec) : ∀ f x, impl_netSearch_each_c1_impl_RemovedCounts_c1_L10 rec f x = hM f x
 | 0, _ => rfl
 | f + 1, (a, b, c, d, e, g, x, y, z, u, v) => by simp only [impl_netSearch_each_c1_impl_RemovedCounts_c1_L10, hM, eachRC_M rec f]
theorem eachRC_L (rec) : ∀ f x, impl_netSearch_each_c1_impl_RemovedCounts_c1_L4 rec f x = hL rec f x
 | 0, _ => rfl
 | f + 1, (a, b, c, d, e, g, x) => by simp only [impl_netSearch_each_c1_impl_RemovedCounts_c1_L4, hL, eachRC_L rec f, eachRC_M]
theorem eachRC : ∀ d x, impl_netSearch_each_c1_impl_RemovedCounts_c1 d x = hF rcCb d x
 | 0, _ => rfl
 | d + 1, (a, t, s, ps, g, u) => by
  have e : impl_netSearch_each_c1_impl_RemovedCounts_c1 d = hF rcCb d := funext fun x => eachRC d x
  simp only [impl_netSearch_each_c1_impl_RemovedCounts_c1, hF, hBody, impl_netSearch_each_c1_impl_RemovedCounts_c1_body, eachRC_L, e]
  split
  ·unfold rcCb; cases impl_RemovedCounts_c1 t s <;> rfl
  ·congr 1; funext z; cases z <;> rfl
section
variable {V n : Nat} {cs : List Con} {t : List Int}
def matP (V n : Nat) (p : Nat → Nat → Bool) : Dom := (List.range V).map fun v => (List.range n).map (p v)
theorem matP_len {p : Nat → Nat → Bool} : (matP V n p).length = V := by simp [matP]
theorem matP_row {p : Nat → Nat → Bool} {v : Nat} (hv : v < V) : gd (matP V n p) (v : Int) [] = (List.range n).map (p v) := by
 rw [gd_nat (by rw [matP_len]; exact hv)]; simp [matP]
theorem matP_set {p : Nat → Nat → Bool} {v x : Nat} (hv : v < V) (hx : x < n) : stt (matP V n p) (v : Int) (stt (gd (matP V n p) (v : Int) []) (x : Int) true) = matP V n (fun u y => p u y || decide (v = u ∧ x = y)) := by
 rw [matP_row hv, stt_nat, stt_nat]
 refine List.ext_getElem (by simp [matP]) fun u h1 h2 => ?_
 have hu : u < V := by simpa [matP] using h2
 rw [List.getElem_set]
 by_cases e : v = u
 ·subst e
  rw [if_pos rfl]
  simp only [matP, List.getElem_map, List.getElem_range]
  refine List.ext_getElem (by simp) fun y h3 h4 => ?_
  rw [List.getElem_set]
  by_cases e' : x = y
  ·subst e'; simp
  ·simp [e']
 ·rw [if_neg e]
  simp only [matP, List.getElem_map, List.getElem_range]
  refine List.map_congr_left fun y _ => by simp [e]
theorem rcCb_ok {p : Nat → Nat → Bool} (hV : V ≤ 1000) (hl : t.length = V) (hv : ∀ u, u < V → 0 ≤ t.getD u 0 ∧ t.getD u 0 < (n : Int)) :
    rcCb t (matP V n p) = some (matP V n (fun u y => p u y || decide (t.getD u 0 = (y : Int))), true) := by
  have := forS V (fun f (M : Dom) u => impl_RemovedCounts_c1_L2 f (M, t, (V : Int), u)) (fun k => matP V n (fun u y => p u y || (decide (u < k) && decide (t.getD u 0 = (y : Int))))) (r := some (matP V n (fun u y => p u y || decide (t.getD u 0 = (y : Int))))) (fun f k hk => ?_) (fun f => ?_) (n := fuel) (by unfold fuel; omega)
  · have e0 : (fun u y => p u y || (decide (u < 0) && decide (t.getD u 0 = ((y : Nat) : Int)))) = p := by funext u y; simp
    rw [e0] at this
    have this : impl_RemovedCounts_c1_L2 fuel (matP V n p, t, (V : Int), 0) = _ := this
    unfold rcCb impl_RemovedCounts_c1
    rw [hl, this]; rfl
  · have htk : k < t.length := by omega
    obtain ⟨x, hx, ex⟩ : ∃ x : Nat, x < n ∧ t.getD k 0 = (x : Int) := ⟨(t.getD k 0).toNat, by have := hv k hk; omega, by have := hv k hk; omega⟩
    have hg : gd t (k : Int) 0 = (x : Int) := ex
    have hrl : x < (gd (matP V n (fun u y => p u y || (decide (u < k) && decide (t.getD u 0 = ((y : Nat) : Int))))) (k : Int) []).length := by rw [matP_row hk]; simpa using hx
    have hset := matP_set (p := fun u y => p u y || (decide (u < k) && decide (t.getD u 0 = ((y : Nat) : Int)))) hk hx
    have hnew : matP V n (fun u y => (p u y || (decide (u < k) && decide (t.getD u 0 = ((y : Nat) : Int)))) || decide (k = u ∧ x = y)) = matP V n (fun u y => p u y || (decide (u < k + 1) && decide (t.getD u 0 = ((y : Nat) : Int)))) := by
      congr 1
      funext u y
      rw [Bool.or_assoc]
      congr 1
      rw [Bool.eq_iff_iff]
      simp only [Bool.or_eq_true, Bool.and_eq_true, decide_eq_true_eq]
      constructor
      · rintro (⟨h1, h2⟩ | ⟨rfl, rfl⟩)
        · exact ⟨by omega, h2⟩
        · exact ⟨by omega, ex⟩
      · rintro ⟨h1, h2⟩
        by_cases e : u < k
        · exact .inl ⟨e, h2⟩
        · have : u = k := by omega
          subst this
          rw [ex] at h2
          exact .inr ⟨rfl, Int.ofNat_inj.1 h2⟩
    simp only [impl_RemovedCounts_c1_L2, inb_nat, htk, hg, matP_len, hk, hrl, if_true, hset, hnew, w64_succ (show k < 4611686018427387904 by omega)]
    rw [if_pos (by rw [decide_eq_true_eq]; omega)]
  · simp only [impl_RemovedCounts_c1_L2]
    rw [if_neg (by simp)]
    congr 1
    unfold matP
    refine List.map_congr_left fun u hu => ?_
    have hu := List.mem_range.1 hu
    simp [hu]
theorem fold_rc (hV : V ≤ 1000) : ∀ (l : List (List Int)) (p : Nat → Nat → Bool), (∀ t ∈ l, t.length = V ∧ ∀ u, u < V → 0 ≤ t.getD u 0 ∧ t.getD u 0 < (n : Int)) →
    foldU rcCb l (matP V n p) = some (matP V n (fun u y => p u y || l.any fun t => decide (t.getD u 0 = (y : Int))), true)
  | [], p, _ => by simp [foldU]
  | t :: l, p, h => by
    obtain ⟨h1, h2⟩ := h t (List.mem_cons_self ..)
    simp only [foldU, rcCb_ok hV h1 h2]
    rw [fold_rc hV l _ fun t ht => h t (List.mem_cons_of_mem _ ht)]
    congr 2
    unfold matP
    refine List.map_congr_left fun u _ => List.map_congr_left fun y _ => by simp only [List.any_cons, Bool.or_assoc]
end
end T
open Go Go.Va
namespace T
section
variable {V n : Nat} {cs : List Con} {t : List Int}
theorem mk_row {p : Nat → Bool} : (mk ((List.range n).map p)).length = ((List.range n).filter p).length := by
 unfold mk
 rw [List.length_map, List.length_map, List.length_range]
 congr 1
 refine List.filter_congr fun i hi => ?_
 have hi := List.mem_range.1 hi
 rw [getD_of (by simpa using hi)]; simp
theorem filter_not {p : Nat → Bool} (l : List Nat) : (l.filter p).length + (l.filter fun x => !p x).length = l.length := by
 induction l with
 | nil => rfl
 | cons x l ih =>
  simp only [List.filter_cons, List.length_cons]
  cases p x <;> simp <;> omega
def noneN (V n : Nat) (q : Nat → Nat → Bool) : Nat := ((List.range V).map fun u => ((List.range n).filter fun y => !q u y).length).sum
theorem miss_mat {q : Nat → Nat → Bool} : missN (matP V n q) = noneN V n q := by
 unfold missN matP noneN
 rw [List.map_map]
 congr 1
 refine List.map_congr_left fun u _ => ?_
 show ((List.range n).map (q u)).length - (mk ((List.range n).map (q u))).length = _
 rw [mk_row, List.length_map, List.length_range]
 have := filter_not (p := q u) (List.range n)
 rw [List.length_range] at this
 omega
def qS (V n : Nat) (cs : List Con) (u y : Nat) : Bool := (solsN V n cs (List.replicate V (-1))).any fun t => decide (t.getD u 0 = (y : Int))
theorem sols_part {u x : Nat} (hu : u < V) : t ∈ solsN V n cs ((List.replicate V (-1)).set u (x : Int)) ↔ t ∈ solsN V n cs (List.replicate V (-1)) ∧ t.getD u 0 = (x : Int) := by
 unfold solsN
 rw [ext_iff, ext_iff]
 simp only [List.length_nil, Nat.zero_add, List.take_zero, true_and, Nat.zero_le, true_implies]
 have hg : ∀ q, q < V → ((List.replicate V (-1 : Int)).set u (x : Int)).getD q 0 = if u = q then (x : Int) else -1 := fun q hq => by
  rw [getD_of (by simpa using hq), List.getElem_set]
  by_cases e : u = q
  ·rw [if_pos e, if_pos e]
  ·rw [if_neg e, if_neg e, List.getElem_replicate]
 constructor
 ·rintro ⟨h1, h2⟩
  refine ⟨⟨h1, fun q hq => ⟨(h2 q hq).1, mst_free (by omega), (h2 q hq).2.2⟩⟩, ?_⟩
  obtain ⟨a1, a2, _⟩ := h2 u (by omega)
  unfold mstB at a2
  rw [hg u hu, if_pos rfl] at a2
  simp only [Bool.not_eq_true', Bool.and_eq_false_iff, decide_eq_false_iff_not, bne_eq_false_iff_eq] at a2
  rcases a2 with a2 | a2 <;> omega
 ·rintro ⟨⟨h1, h2⟩, h3⟩
  refine ⟨h1, fun q hq => ⟨(h2 q hq).1, ?_, (h2 q hq).2.2⟩⟩
  have a1 := (h2 q hq).1
  unfold mstB
  rw [hg q (by omega)]
  by_cases e : u = q
  ·subst e
   rw [if_pos rfl]
   simp only [Bool.not_eq_true', Bool.and_eq_false_iff, decide_eq_false_iff_not, bne_eq_false_iff_eq]
   exact .inr (by omega)
  ·rw [if_neg e]; simp
theorem part_nil {u x : Nat} (hu : u < V) : (solsN V n cs ((List.replicate V (-1)).set u (x : Int)) = []) ↔ qS V n cs u x = false := by
 unfold qS
 rw [List.any_eq_false]
 constructor
 ·intro h t ht he
  have := (sols_part (x := x) hu).2 ⟨ht, by simpa using he⟩
  rw [h] at this; simp at this
 ·intro h
  cases hl : solsN V n cs ((List.replicate V (-1)).set u (x : Int)) with
  | nil => rfl
  | cons t l =>
   obtain ⟨h1, h2⟩ := (sols_part (x := x) hu).1 (show t ∈ solsN V n cs ((List.replicate V (-1)).set u (x : Int)) by rw [hl]; exact List.mem_cons_self ..)
   exact absurd (by simpa using h2) (h t h1)
theorem find_part (h : SrchOk V n cs) {u x : Nat} : ∃ s : S19, spec_l19Find ((V : Int), ((n : Int), cs)) cs ((List.replicate V (-1)).set u (x : Int)) 1 true = some s ∧ (s.2.1 = 0 ↔ solsN V n cs ((List.replicate V (-1)).set u (x : Int)) = []) := by
 cases hs : solsN V n cs ((List.replicate V (-1)).set u (x : Int)) with
 | nil =>
  have := find19_ok (cs0 := cs) (given := (List.replicate V (-1)).set u (x : Int)) (most := 1) (one := true) h (by simp) (by omega) (s' := ([], 0, 1, true)) (b := true) (by rw [hs]; rfl)
  exact ⟨_, this, by simp⟩
 | cons t l =>
  have := find19_ok (cs0 := cs) (given := (List.replicate V (-1)).set u (x : Int)) (most := 1) (one := true) h (by simp) (by omega) (s' := ([t], 1, 1, true)) (b := false) (by rw [hs]; rfl)
  exact ⟨_, this, by simp⟩
end
end T
open Go Go.Va
namespace T
section
variable {V n : Nat} {cs : List Con} {a : Net}
theorem noneN_le {q : Nat → Nat → Bool} : ∀ k, ((List.range k).map fun u => ((List.range n).filter fun y => !q u y).length).sum ≤ n * k := fun k => by
 have := sum_le_mul (fun u => ((List.range n).filter fun y => !q u y).length) n (List.range k) fun u _ => Nat.le_trans (List.length_filter_le _ _) (by simp)
 rwa [List.length_range] at this
theorem rs_L10 (h : SrchOk V n cs) {u : Nat} (hu : u < V) (t6 : Int) (t7 : List (List Int)) {s0 : Nat} (hs : s0 ≤ 100000) :
    spec_RemovedCounts_L10 fuel (((V : Int), ((n : Int), cs)), t6, t7, (s0 : Int), (u : Int), 0) = some (((V : Int), ((n : Int), cs)), t6, t7, ((s0 + ((List.range n).filter fun y => !qS V n cs u y).length : Nat) : Int), (u : Int)) := by
  have hn := h.hn
  have hV := h.hv
  have := forS n (fun f (s : Int) x => spec_RemovedCounts_L10 f (((V : Int), ((n : Int), cs)), t6, t7, s, (u : Int), x)) (fun k => ((s0 + ((List.range k).filter fun y => !qS V n cs u y).length : Nat) : Int)) (r := some (((V : Int), ((n : Int), cs)), t6, t7, ((s0 + ((List.range n).filter fun y => !qS V n cs u y).length : Nat) : Int), (u : Int))) (fun f x hx => ?_) (fun f => ?_) (n := fuel) (by unfold fuel; omega)
  · exact this
  · obtain ⟨s, e1, e2⟩ := find_part (x := x) h (u := u)
    have hfree := freeS_ok (show V ≤ 1000 by omega)
    have hin : u < (List.replicate V (-1 : Int)).length := by simpa using hu
    have hle : ((List.range x).filter fun y => !qS V n cs u y).length ≤ x := Nat.le_trans (List.length_filter_le _ _) (by simp)
    simp only [spec_RemovedCounts_L10, hfree, Option.bind_some, inb_nat, hin, stt_nat, e1, if_true, w64_succ (show x < 4611686018427387904 by omega)]
    rw [if_pos (by rw [decide_eq_true_eq]; omega)]
    rw [List.range_succ, List.filter_append]
    cases hq : qS V n cs u x with
    | true =>
      have : ¬ s.2.1 = 0 := fun hz => by
        have := (part_nil hu).1 (e2.1 hz)
        rw [hq] at this; simp at this
      rw [if_neg (by simpa using this)]
      simp [hq]
    | false =>
      have : s.2.1 = 0 := e2.2 ((part_nil hu).2 hq)
      rw [if_pos (by simp [this])]
      have ew : w64 (((s0 + ((List.range x).filter fun y => !qS V n cs u y).length : Nat) : Int) + 1) = ((s0 + (((List.range x).filter fun y => !qS V n cs u y) ++ [x].filter fun y => !qS V n cs u y).length : Nat) : Int) := by
        have e : ([x].filter fun y => !qS V n cs u y) = [x] := by simp [hq]
        rw [e, List.length_append, List.length_singleton, w64_id (by omega) (by omega)]; omega
      rw [ew]
  · simp only [spec_RemovedCounts_L10]
    rw [if_neg (by simp)]
theorem rs_L7 (h : SrchOk V n cs) (t6 : Int) (t7 : List (List Int)) : spec_RemovedCounts_L7 fuel (((V : Int), ((n : Int), cs)), t6, t7, 0, 0) = some (((V : Int), ((n : Int), cs)), t6, t7, ((noneN V n (qS V n cs) : Nat) : Int)) := by
 have hn := h.hn
 have hV := h.hv
 have := forS V (fun f (s : Int) u => spec_RemovedCounts_L7 f (((V : Int), ((n : Int), cs)), t6, t7, s, u)) (fun k => ((((List.range k).map fun u => ((List.range n).filter fun y => !qS V n cs u y).length).sum : Nat) : Int)) (r := some (((V : Int), ((n : Int), cs)), t6, t7, ((noneN V n (qS V n cs) : Nat) : Int))) (fun f u hu => ?_) (fun f => ?_) (n := fuel) (by unfold fuel; omega)
 ·exact this
 ·have hle := noneN_le (n := n) (q := qS V n cs) u
  have hb : n * u ≤ 4 * 9 := Nat.mul_le_mul hn.2 (by omega)
  have e1 := rs_L10 h hu t6 t7 (s0 := ((List.range u).map fun u => ((List.range n).filter fun y => !qS V n cs u y).length).sum) (by omega)
  have e2 : ((List.range (u + 1)).map fun u => ((List.range n).filter fun y => !qS V n cs u y).length).sum = ((List.range u).map fun u => ((List.range n).filter fun y => !qS V n cs u y).length).sum + ((List.range n).filter fun y => !qS V n cs u y).length := by
   rw [List.range_succ, List.map_append]; simp
  simp only [spec_RemovedCounts_L7, e1, Option.bind_some, e2, w64_succ (show u < 4611686018427387904 by omega)]
  rw [if_pos (by rw [decide_eq_true_eq]; omega)]
 ·simp only [spec_RemovedCounts_L7]
  rw [if_neg (by simp)]; rfl
theorem ri_L5 (hV : V ≤ 1000) (N : Net) : impl_RemovedCounts_L5 fuel (N, List.replicate V (List.replicate n true), (V : Int), 0) = some (N, matP V n fun _ _ => false) := by
 have := forS V (fun f (M : Dom) u => impl_RemovedCounts_L5 f (N, M, (V : Int), u)) (fun k => matP V n fun u _ => decide (k ≤ u)) (r := some (N, matP V n fun _ _ => false)) (fun f k hk => ?_) (fun f => ?_) (n := fuel) (by unfold fuel; omega)
 ·have e0 : (matP V n fun u _ => decide (0 ≤ u)) = List.replicate V (List.replicate n true) := by
   refine List.ext_getElem (by simp [matP]) fun u h1 h2 => ?_
   simp only [matP, List.getElem_map, List.getElem_range, List.getElem_replicate]
   refine List.ext_getElem (by simp) fun y h3 h4 => by simp
  rw [e0] at this
  exact this
 ·have hset : stt (matP V n fun u _ => decide (k ≤ u)) (k : Int) (List.replicate (gd (matP V n fun u _ => decide (k ≤ u)) (k : Int) []).length false) = matP V n fun u _ => decide (k + 1 ≤ u) := by
   rw [matP_row hk, List.length_map, List.length_range, stt_nat]
   refine List.ext_getElem (by simp [matP]) fun u h1 h2 => ?_
   rw [List.getElem_set]
   simp only [matP, List.getElem_map, List.getElem_range]
   by_cases e : k = u
   ·subst e
    rw [if_pos rfl]
    refine List.ext_getElem (by simp) fun y h3 h4 => by simp
   ·rw [if_neg e]
    refine List.map_congr_left fun y _ => ?_
    rw [decide_eq_decide]; omega
  simp only [impl_RemovedCounts_L5, inb_nat, matP_len, hk, if_true, hset, w64_succ (show k < 4611686018427387904 by omega)]
  rw [if_pos (by rw [decide_eq_true_eq]; omega)]
 ·simp only [impl_RemovedCounts_L5]
  rw [if_neg (by simp)]
  congr 2
  unfold matP
  refine List.map_congr_left fun u hu => ?_
  have hu := List.mem_range.1 hu
  refine List.map_congr_left fun y _ => decide_eq_false (by omega)
theorem ri_each (h : SrchOk V n cs) : impl_eachSolution_impl_RemovedCounts_c1 ((V : Int), ((n : Int), cs)) (matP V n fun _ _ => false) = some (matP V n (qS V n cs)) := by
 have hV := h.hv
 have e1 := newNet_ok h
 have hfold := fold_rc (n := n) (show V ≤ 1000 by omega) (solsN V n cs (List.replicate V (-1))) (fun _ _ => false) (fun t ht => by
  obtain ⟨h1, _, h2⟩ := (ext_iff V [] t).1 (show t ∈ extL n (List.replicate V (-1)) (okN cs) V [] from ht)
  simp only [List.length_nil, Nat.zero_add] at h1
  exact ⟨h1, fun u hu => (h2 u (by simp) (by omega)).1⟩)
 have eq : (fun u y => false || (solsN V n cs (List.replicate V (-1))).any fun t => decide (t.getD u 0 = ((y : Nat) : Int))) = qS V n cs := by
  funext u y; rw [Bool.false_or]; rfl
 rw [eq] at hfold
 obtain ⟨tab', _, _, _, h4⟩ := hF_ok h (given := List.replicate V (-1)) (by simp) rcCb V fuel 0 (List.replicate V 0) (matP V n fun _ _ => false) (by omega) (by unfold fuel; omega) (by simp) (fun x hx => by rw [List.eq_of_mem_replicate hx]; omega) _ _ (by simpa [solsN] using hfold)
 have h4 : impl_netSearch_each_c1_impl_RemovedCounts_c1 fuel (0, List.replicate V 0, matP V n fun _ _ => false, nsOf V n cs, List.replicate V (-1), ()) = _ := (eachRC fuel _).trans h4
 unfold impl_eachSolution_impl_RemovedCounts_c1 impl_netSearch_each_impl_RemovedCounts_c1
 have hr : List.replicate (Int.toNat ((List.replicate V (-1 : Int)).length : Int)) (0 : Int) = List.replicate V 0 := by simp
 have hlim : 0 ≤ ((List.replicate V (-1 : Int)).length : Int) ∧ ((List.replicate V (-1 : Int)).length : Int) ≤ ((List.replicate V (-1 : Int)).length : Int) ∧ ((List.replicate V (-1 : Int)).length : Int) ≤ lim := by rw [List.length_replicate]; unfold lim; omega
 simp only [e1, freeI_ok (show V ≤ 1000 by omega), Option.bind_some, hr, h4]
 rw [if_pos hlim]; rfl
end
end T
open Go Go.Va
namespace T
section
variable {a : Net}
theorem net_srch2 (hN : NetOk a) : SrchOk a.1.toNat a.2.1.toNat a.2.2 ∧ a = ((a.1.toNat : Int), ((a.2.1.toNat : Int), a.2.2)) := by
 have hv := hN.hv
 have hn := hN.hn
 refine ⟨⟨by omega, by omega, hN.hc, fun c hc => ?_⟩, ?_⟩
 ·rw [Int.toNat_of_nonneg hv.1, Int.toNat_of_nonneg (by omega)]; exact hN.con c hc
 ·rw [Int.toNat_of_nonneg hv.1, Int.toNat_of_nonneg (by omega)]
def rcR (a : Net) : Int × Int × Int × Bool := if netB a then (((missN (arcR a (full a)).1 : Nat) : Int), ((missN (singG a 40 (full a)) : Nat) : Int), ((noneN a.1.toNat a.2.1.toNat (qS a.1.toNat a.2.1.toNat a.2.2) : Nat) : Int), true) else (0, 0, 0, false)
theorem dom_bd (hN : NetOk a) {D : Dom} (h : DomOk a D) : D.length ≤ 1000 ∧ ∀ r ∈ D, r.length ≤ 1000 := by
 have hv := hN.hv
 have hn := hN.hn
 have hl := h.len
 exact ⟨by omega, fun r hr => by have := h.row r hr; omega⟩
theorem RemovedCounts_ok (h : netS a) : impl_RemovedCounts a = some (rcR a) ∧ spec_RemovedCounts a = some (rcR a) := by
 unfold impl_RemovedCounts spec_RemovedCounts rcR
 rw [impl_IsNetwork_ok (a := (a.1, (a.2.1, a.2.2))) h, spec_l19Good_ok (a := (a.1, (a.2.1, a.2.2))) h, show netB (a.1, (a.2.1, a.2.2)) = netB a from rfl]
 cases hb : netB a with
 | false => simp
 | true =>
  have hN := net_of hb
  have hf := full_ok hN
  have hv := hN.hv
  have hn := hN.hn
  obtain ⟨hS, ea⟩ := net_srch2 hN
  have hmu := mu_le hN hf
  have hA := (arcR_ok hN hf).1
  have hG := singG_ok 40 hf
  have eS : ∃ V n : Nat, V = a.1.toNat ∧ n = a.2.1.toNat := ⟨_, _, rfl, rfl⟩
  have ex : ((a.1.toNat : Int), ((a.2.1.toNat : Int), a.2.2)) = (a.1, (a.2.1, a.2.2)) := ea.symm
  have eV : ((a.1.toNat : Nat) : Int) = a.1 := Int.toNat_of_nonneg hv.1
  have i1 := ri_L5 (V := a.1.toNat) (n := a.2.1.toNat) (by omega) (a.1, (a.2.1, a.2.2))
  rw [eV] at i1
  have i1 : impl_RemovedCounts_L5 fuel ((a.1, (a.2.1, a.2.2)), full a, a.1, 0) = _ := i1
  have i2 := ri_each hS
  rw [ex] at i2
  have i3 := missing_ok (dom_bd hN hA).1 (dom_bd hN hA).2
  have i4 := missing_ok (dom_bd hN hG).1 (dom_bd hN hG).2
  have i5 := missing_ok (D := matP a.1.toNat a.2.1.toNat (qS a.1.toNat a.2.1.toNat a.2.2)) (by rw [matP_len]; omega) (fun r hr => by
   unfold matP at hr
   obtain ⟨u, _, rfl⟩ := List.mem_map.1 hr
   simp; omega)
  rw [miss_mat] at i5
  have k3 := kept_ok (dom_bd hN hA).1 (dom_bd hN hA).2
  have k4 := kept_ok (dom_bd hN hG).1 (dom_bd hN hG).2
  have m3 := kept_miss hA
  have m4 := kept_miss hG
  have hmul : a.1 * a.2.1 ≤ 9 * 4 := Int.mul_le_mul hv.2 hn.2 (by omega) (by omega)
  have hmul0 : 0 ≤ a.1 * a.2.1 := Int.mul_nonneg hv.1 (by omega)
  have ew : w64 (a.1 * a.2.1) = a.1 * a.2.1 := w64_id (by omega) (by omega)
  have ew3 : w64 (a.1 * a.2.1 - ((keptN (arcR a (full a)).1 : Nat) : Int)) = ((missN (arcR a (full a)).1 : Nat) : Int) := by rw [w64_id (by omega) (by omega)]; omega
  have ew4 : w64 (a.1 * a.2.1 - ((keptN (singG a 40 (full a)) : Nat) : Int)) = ((missN (singG a 40 (full a)) : Nat) : Int) := by rw [w64_id (by omega) (by omega)]; omega
  have s7 := rs_L7 hS (a.1 * a.2.1) ((arcR a (full a)).1.map mk)
  rw [ex] at s7
  have hlen : ((full a).length : Int) = a.1 := hf.len
  constructor
  ·unfold impl_arcDomains impl_singleDomains
   simp only [impl_wholeDomains_ok hN, impl_reduce_ok hN hf, single_L3 hN 40 (full a) hf (by omega) fuel (by unfold fuel; omega), hlen, i1, i2, i3, i4, i5, Option.bind_some, Bool.not_true, Bool.false_eq_true, if_false, if_true]
  ·unfold spec_l20Single
   simp only [spec_l20Full_ok hN, spec_l20Arc_ok hN hf, spec_single_L3 hN 40 (full a) hf (by omega) fuel (by unfold fuel; omega), ew, s7, k3, k4, ew3, ew4, Option.bind_some, Bool.not_true, Bool.false_eq_true, if_false, if_true]
theorem FnExactRemovedCounts_law (h : wfT netT a) : laws_FnExactRemovedCounts a = some true := by
 unfold laws_FnExactRemovedCounts
 rw [szNetwork_ok (a := (a.1, (a.2.1, a.2.2))) h]
 simp only [Option.bind_some]
 rw [show totN (a.1, (a.2.1, a.2.2)) = totN a from rfl]
 by_cases h : szR (totN a) 1048576 < 0
 ·rw [if_pos (by simpa using h)]
 ·obtain ⟨hs, ht⟩ := szNetwork_small h
  obtain ⟨e1, e2⟩ := RemovedCounts_ok hs
  rw [if_neg (by simpa using h)]
  simp only [toNetwork_ok hs, e1, e2, eqNetwork_ok hs, Option.bind_some]
  simp
end
end T
