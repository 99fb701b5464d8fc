/- Plain lemmas on the typed functions of the program, and the plain law of FnPolymorphisms; no conditions. -/
import Derived.Test.YtcdjlpcapanibadV1
import Derived.Test.YtcdjlpcapanibadV5
import Derived.KernelRfl
import Derived.Test.YtcdjlpcapanibadOFnPolymorphisms
set_option linter.all false
open Go Go.Va
namespace T
section
variable {n k : Nat} {rels : List RelT} {given : List Int}
theorem spec_l13Has_ok {m : Nat} {r : RelT} (h : ROk n m r) {t : List Int} (ht : t.length = m) : spec_l13Has r t = some (decide (t ∈ r.2)) := by
 have hm := h.hm
 have har := h.ar
 have hmany := h.many
 unfold spec_l13Has
 obtain ⟨q, h3, _⟩ := spec_l8Find_ok (list := r.2) (t := t) (k := m) (by omega) (by omega) h.tl ht h.inc
 rw [if_neg (by simp; omega), h3]; rfl
theorem holds_ok (h : RelsOk n k rels) {tab : List Int} {at' : Nat} (ht : tab.length = at' + 1) : spec_l14Holds ((demN n k rels).getD at' []) tab = some (okB n k rels tab) := by
 obtain ⟨hlen, hroom⟩ := demN_len h
 have hkey : ∀ d ∈ (demN n k rels).getD at' [], ∃ r ∈ rels, ∃ j, j < r.2.length ^ k ∧ lastP (PL n k r j) = at' ∧ d = (cI (PL n k r j), r) ∧ (∀ v ∈ d.1, 0 ≤ v ∧ v < tab.length) ∧ d.1.length ≤ 3 ∧ spec_l13Has d.2 (d.1.map (valI tab)) = some (decide (d.1.map (valI tab) ∈ d.2.2)) := fun d hd => by
  obtain ⟨r, hr, j, hj, hla, rfl⟩ := (demN_mem h at' d).1 hd
  have hrk := h.ok r hr
  have hm := hrk.hm
  have hpl : ∀ v ∈ cI (PL n k r j), 0 ≤ v ∧ v < tab.length := fun v hv => by
   unfold cI at hv
   obtain ⟨y, hy, rfl⟩ := List.mem_map.1 hv
   have := (lastP_le (PL n k r j) 0).2 y hy
   unfold lastP at hla
   omega
  refine ⟨r, hr, j, hj, hla, rfl, hpl, by rw [cI_len, hrk.pl_len]; omega, spec_l13Has_ok hrk (by rw [List.length_map, cI_len, hrk.pl_len])⟩
 have e : okB n k rels tab = ((demN n k rels).getD at' []).all fun d => decide (d.1.map (valI tab) ∈ d.2.2) := by
  rw [Bool.eq_iff_iff, List.all_eq_true]
  unfold okB metB
  rw [show tab.length - 1 = at' by omega]
  simp only [List.all_eq_true, Bool.or_eq_true, Bool.not_eq_true', decide_eq_false_iff_not, decide_eq_true_eq, List.mem_range]
  constructor
  ·intro h1 d hd
   obtain ⟨r, hr, j, hj, hla, e1, _⟩ := hkey d hd
   rw [e1]
   rcases h1 r hr j hj with h3 | h3
   ·exact absurd hla h3
   ·exact h3
  ·intro h1 r hr j hj
   by_cases hla : lastP (PL n k r j) = at'
   ·right
    exact h1 _ ((demN_mem h at' (cI (PL n k r j), r)).2 ⟨r, hr, j, hj, hla, rfl⟩)
   ·exact .inl hla
 have hro := hroom at'
 rw [e]
 generalize (demN n k rels).getD at' [] = l at hkey hro
 unfold spec_l14Holds
 have := allX l (fun f i => spec_l14Holds_L2 f (l, tab, i)) (fun d => decide (d.1.map (valI tab) ∈ d.2.2)) (.inr false) (.inl ()) (fun f i hi => ?_) (fun f => ?_) (n := fuel) (by unfold fuel; omega)
 ·have this : spec_l14Holds_L2 fuel (l, tab, 0) = _ := this
  rw [this]
  cases l.all fun d => decide (d.1.map (valI tab) ∈ d.2.2) <;> rfl
 ·obtain ⟨r, hr, j, hj, hla, e1, h1, h2, h3⟩ := hkey _ (List.getElem_mem hi)
  have h6 := forS l[i].1.length (fun f (o : List Int) q => spec_l14Holds_L6 f (l, tab, (i : Int), o, q)) (fun q => (l[i].1.take q).map (valI tab)) (r := some (l, tab, (i : Int), l[i].1.map (valI tab))) (fun f q hq => ?_) (fun f => ?_) (n := fuel) (by unfold fuel; omega)
  ·have h6 : spec_l14Holds_L6 fuel (l, tab, (i : Int), [], 0) = _ := h6
   simp only [spec_l14Holds_L2, h6, Option.bind_some, inb_nat, hi, gd_nat hi, h3, w64_succ (show i < 4611686018427387904 by omega), if_true]
   rw [if_pos (by simp; omega)]
   by_cases hc : l[i].1.map (valI tab) ∈ l[i].2.2
   ·rw [decide_eq_true hc]; simp
   ·rw [decide_eq_false hc]; simp
  ·obtain ⟨hv0, hv1⟩ := h1 _ (List.getElem_mem hq)
   have hin : inb l[i].1[q] tab := ⟨hv0, hv1⟩
   have hval : gd tab l[i].1[q] 0 = valI tab l[i].1[q] := rfl
   have htk : (l[i].1.take (q + 1)).map (valI tab) = (l[i].1.take q).map (valI tab) ++ [valI tab l[i].1[q]] := by
    rw [List.take_succ_eq_append_getElem hq, List.map_append]; rfl
   simp only [spec_l14Holds_L6, inb_nat, hi, gd_nat hi, hq, gd_nat hq, hin, hval, htk, if_true, w64_succ (show q < 4611686018427387904 by omega)]
   rw [if_pos (by simp; omega), if_pos (by simp; unfold lim; omega)]
  ·simp only [spec_l14Holds_L6, inb_nat, hi, gd_nat hi, List.take_length, if_true]
   rw [if_neg (by simp)]
 ·simp [spec_l14Holds_L2]
abbrev SS := List (List Int) × Int × Int
def stopB (s : SS) : Bool := s.2.2 == 1 && decide (s.2.1 > 0)
def sCb (t : List Int) (s : SS) : Option (SS × Bool) :=
 let s' : SS := (if decide ((s.1.length : Int) < s.2.2) then s.1 ++ [t] else s.1, s.2.1 + 1, s.2.2)
 some (s', !stopB s')
theorem foldS_cnt : ∀ (l : List (List Int)) (s s' : SS) (b : Bool), foldU sCb l s = some (s', b) → s.2.1 ≤ s'.2.1 ∧ s'.2.1 ≤ s.2.1 + l.length ∧ s'.1.length ≤ s.1.length + l.length ∧ s'.2.2 = s.2.2 ∧ (stopB s = false → b = !stopB s')
 | [], s, s', b, h => by
  have : s = s' ∧ true = b := by simpa [foldU] using h
  obtain ⟨rfl, rfl⟩ := this
  exact ⟨by omega, by simp, by simp, rfl, fun h => by simp [h]⟩
 | t :: l, s, s', b, h => by
  simp only [foldU, sCb] at h
  generalize hs1 : ((if decide ((s.1.length : Int) < s.2.2) then s.1 ++ [t] else s.1, s.2.1 + 1, s.2.2) : SS) = s1 at h
  have h1 : s1.2.1 = s.2.1 + 1 := by rw [← hs1]
  have h2 : s1.1.length ≤ s.1.length + 1 := by
   rw [← hs1]
   show (if decide ((s.1.length : Int) < s.2.2) then s.1 ++ [t] else s.1).length ≤ _
   split <;> simp
  have h3 : s1.2.2 = s.2.2 := by rw [← hs1]
  cases hb : stopB s1 with
  | true =>
   rw [hb] at h
   have : s1 = s' ∧ false = b := by simpa using h
   obtain ⟨rfl, rfl⟩ := this
   rw [List.length_cons]
   exact ⟨by omega, by omega, by omega, h3, fun _ => by rw [hb]; rfl⟩
  | false =>
   rw [hb] at h
   obtain ⟨g1, g2, g3, g4, g5⟩ := foldS_cnt l s1 s' b h
   rw [List.length_cons]
   exact ⟨by omega, by push_cast; omega, by omega, by omega, fun _ => g5 hb⟩
theorem foldS_tot : ∀ (l : List (List Int)) (s : SS), ∃ q, foldU sCb l s = some q
 | [], s => ⟨_, rfl⟩
 | t :: l, s => by
  simp only [foldU, sCb]
  generalize ((if decide ((s.1.length : Int) < s.2.2) then s.1 ++ [t] else s.1, s.2.1 + 1, s.2.2) : SS) = s1
  cases hb : stopB s1 with
  | true => exact ⟨_, rfl⟩
  | false => exact foldS_tot l s1
theorem go_ok (h : RelsOk n k rels) (hg : given.length = n ^ k) : ∀ (m d : Nat) (pre : List Int) (s : SS), pre.length + m = n ^ k → m < d → stopB s = false → 0 ≤ s.2.1 → s.2.2 ≤ 1000000 → s.2.1 + (extL n given (okB n k rels) m pre).length ≤ 4611686018427387904 →
    ∀ s' b, foldU sCb (extL n given (okB n k rels) m pre) s = some (s', b) → spec_l14Go d ((n : Int), demN n k rels, given, pre, s) = some s' := by
  have hn := h.hn
  have hp := pow_le3 (n := n) (k := k) hn.2 h.hk.2
  obtain ⟨hlenN, _⟩ := demN_len h
  intro m
  induction m with
  | zero =>
    intro d pre s hpre hd hst h0 hr1 hr2 s' b hf
    obtain ⟨d, rfl⟩ : ∃ z, d = z + 1 := ⟨d - 1, by omega⟩
    simp only [extL, foldU, sCb] at hf
    simp only [spec_l14Go, spec_l14Go_body]
    simp only [extL, List.length_singleton] at hr2
    have hs' : s' = (if decide ((s.1.length : Int) < s.2.2) then s.1 ++ [pre] else s.1, s.2.1 + 1, s.2.2) := by
      cases hb : stopB ((if decide ((s.1.length : Int) < s.2.2) then s.1 ++ [pre] else s.1, s.2.1 + 1, s.2.2) : SS) <;> rw [hb] at hf <;> simp at hf <;> rw [← hf.1] <;> simp
    have hw : w64 (s.2.1 + 1) = s.2.1 + 1 := w64_id (by omega) (by omega)
    rw [if_pos (by simp; omega), hs', hw, spec_l1Own_ok (by omega)]
    by_cases hc : (s.1.length : Int) < s.2.2
    · rw [if_pos (decide_eq_true hc), if_pos (decide_eq_true hc)]
      simp only [Option.bind_some]
      rw [if_pos (by rw [List.length_singleton]; unfold lim; omega)]
    · rw [if_neg (by simpa using hc), if_neg (by simpa using hc)]
  | succ m ih =>
    intro d pre s hpre hd hst h0 hr1 hr2 s' b hf
    obtain ⟨d, rfl⟩ : ∃ z, d = z + 1 := ⟨d - 1, by omega⟩
    have hat : pre.length < n ^ k := by omega
    have key : ∀ (c x f : Nat) (s1 : SS), x + c = n → c < f → stopB s1 = false → 0 ≤ s1.2.1 →
        s1.2.2 ≤ 1000000 →
        s1.2.1 + ((List.range' x c).flatMap fun x => if mstB given pre.length x && okB n k rels (pre ++ [(x : Int)]) then extL n given (okB n k rels) m (pre ++ [(x : Int)]) else []).length ≤ 4611686018427387904 → ∀ s' b,
        foldU sCb ((List.range' x c).flatMap fun x => if mstB given pre.length x && okB n k rels (pre ++ [(x : Int)]) then extL n given (okB n k rels) m (pre ++ [(x : Int)]) else []) s1 = some (s', b) →
        spec_l14Go_L8 (spec_l14Go d) f ((n : Int), demN n k rels, given, pre, s1, ([], (0, 0)), (pre.length : Int), (x : Int)) = some (if b then .inl (s', ([], (0, 0))) else .inr s') := by
      intro c
      induction c with
      | zero =>
        intro x f s1 hx hf1 hst1 h01 hr1 hr2 s' b hf2
        obtain ⟨f, rfl⟩ : ∃ z, f = z + 1 := ⟨f - 1, by omega⟩
        have : s1 = s' ∧ true = b := by simpa [foldU] using hf2
        obtain ⟨rfl, rfl⟩ := this
        simp only [spec_l14Go_L8]
        rw [if_neg (by simp; omega)]; rfl
      | succ c ihc =>
        intro x f s1 hx hf1 hst1 h01 hr1 hr2 s' b hf2
        obtain ⟨f, rfl⟩ : ∃ z, f = z + 1 := ⟨f - 1, by omega⟩
        have hag : pre.length < given.length := by omega
        have haN : pre.length < (demN n k rels).length := by omega
        rw [List.range'_succ, List.flatMap_cons, foldU_append] at hf2
        rw [List.range'_succ, List.flatMap_cons, List.length_append] at hr2
        have hol := holds_ok h (tab := pre ++ [(x : Int)]) (at' := pre.length) (by simp)
        have hw : w64 ((x : Int) + 1) = ((x + 1 : Nat) : Int) := w64_succ (by omega)
        have step : mstB given pre.length x = true → ∀ R, R = (spec_l14Holds (gd (demN n k rels) (pre.length : Int) []) (pre ++ [(x : Int)])).bind (fun r6 =>
                  if r6 then
                    (spec_l14Go d ((n : Int), demN n k rels, given, pre ++ [(x : Int)], (s1.1, (s1.2.1, s1.2.2)))).bind fun r7 =>
                      if r7.2.2 == 1 then
                        if decide (r7.2.1 > 0) then
                          some (.inr (r7.1, (r7.2.1, r7.2.2)))
                        else
                          spec_l14Go_L8 (spec_l14Go d) f ((n : Int), demN n k rels, given, pre, (r7.1, (r7.2.1, r7.2.2)), ([], (0, 0)), (pre.length : Int), w64 ((x : Int) + 1))
                      else
                        spec_l14Go_L8 (spec_l14Go d) f ((n : Int), demN n k rels, given, pre, (r7.1, (r7.2.1, r7.2.2)), ([], (0, 0)), (pre.length : Int), w64 ((x : Int) + 1))
                  else
                    if s1.2.2 == 1 then
                      if decide (s1.2.1 > 0) then
                        some (.inr (s1.1, (s1.2.1, s1.2.2)))
                      else
                        spec_l14Go_L8 (spec_l14Go d) f ((n : Int), demN n k rels, given, pre, (s1.1, (s1.2.1, s1.2.2)), ([], (0, 0)), (pre.length : Int), w64 ((x : Int) + 1))
                    else
                      spec_l14Go_L8 (spec_l14Go d) f ((n : Int), demN n k rels, given, pre, (s1.1, (s1.2.1, s1.2.2)), ([], (0, 0)), (pre.length : Int), w64 ((x : Int) + 1))) →
            R = some (if b then .inl (s', ([], (0, 0))) else .inr s') := by
          intro hm R hR
          have hgd : gd (demN n k rels) (pre.length : Int) [] = (demN n k rels).getD pre.length [] := rfl
          rw [hgd, hol] at hR
          simp only [Option.bind_some, hw] at hR
          rw [hm] at hf2 hr2
          have hnst : ∀ (z : SS) {γ : Type} (A B : γ), stopB z = false → (if z.2.2 == 1 then if decide (z.2.1 > 0) then A else B else B) = B := fun z γ A B hz => by
            unfold stopB at hz
            by_cases h1 : z.2.2 = 1
            · rw [if_pos (by simpa using h1), if_neg (by simp [h1] at hz; simpa using hz)]
            · rw [if_neg (by simpa using h1)]
          have hyst : ∀ (z : SS) {γ : Type} (A B : γ), stopB z = true → (if z.2.2 == 1 then if decide (z.2.1 > 0) then A else B else B) = A := fun z γ A B hz => by
            unfold stopB at hz
            simp only [Bool.and_eq_true] at hz
            rw [if_pos hz.1, if_pos hz.2]
          cases hfi : okB n k rels (pre ++ [(x : Int)]) with
          | false =>
            rw [hfi] at hf2 hr2 hR
            simp only [Bool.and_false, Bool.false_eq_true, if_false, foldU, List.length_nil, Nat.zero_add] at hf2 hr2 hR
            rw [hnst s1 _ _ hst1] at hR
            rw [hR]
            exact ihc (x + 1) f s1 (by omega) (by omega) hst1 h01 hr1 hr2 s' b hf2
          | true =>
            rw [hfi] at hf2 hr2 hR
            simp only [Bool.and_true, if_true] at hf2 hr2 hR
            obtain ⟨⟨s2, b2⟩, hq⟩ := foldS_tot (extL n given (okB n k rels) m (pre ++ [(x : Int)])) s1
            obtain ⟨g1, g2, g3, g4, g5⟩ := foldS_cnt _ _ _ _ hq
            have g5 := g5 hst1
            rw [hq] at hf2
            have hrec := ih d (pre ++ [(x : Int)]) s1 (by simp; omega) (by omega) hst1 h01 (by omega) (by push_cast at hr2; omega) s2 b2 hq
            have hrec : spec_l14Go d ((n : Int), demN n k rels, given, pre ++ [(x : Int)], (s1.1, (s1.2.1, s1.2.2))) = some s2 := hrec
            rw [hrec] at hR
            simp only [Option.bind_some] at hR
            cases hb2 : stopB s2 with
            | true =>
              rw [hb2] at g5
              subst g5
              have : s2 = s' ∧ false = b := by simpa using hf2
              obtain ⟨rfl, rfl⟩ := this
              rw [hyst s2 _ _ hb2] at hR
              rw [hR]; rfl
            | false =>
              rw [hb2] at g5
              subst g5
              rw [hnst s2 _ _ hb2] at hR
              rw [hR]
              exact ihc (x + 1) f s2 (by omega) (by omega) hb2 (by omega) (by push_cast at hr2; omega) (by push_cast at hr2; omega) s' b hf2
        simp only [spec_l14Go_L8, inb_nat, hag, haN, if_true, spec_l1Own_ok (show pre.length ≤ 1099511627775 by omega), Option.bind_some]
        rw [if_pos (by simp; omega)]
        have hlim : pre.length + [(x : Int)].length ≤ lim := by rw [List.length_singleton]; unfold lim; omega
        rw [if_pos hlim]
        by_cases hc1 : gd given (pre.length : Int) 0 ≥ 0
        · rw [if_pos (decide_eq_true hc1)]
          by_cases hc2 : gd given (pre.length : Int) 0 = (x : Int)
          · rw [if_neg (by simpa using hc2)]
            exact step (by unfold mstB; rw [show given.getD pre.length 0 = (x : Int) from hc2]; simp) _ rfl
          · rw [if_pos (by simpa using hc2), hw]
            have hm : mstB given pre.length x = false := by
              unfold mstB
              rw [decide_eq_true (show given.getD pre.length 0 ≥ 0 from hc1)]
              simp only [Bool.true_and, Bool.not_eq_false', bne_iff_ne]; exact hc2
            rw [hm] at hf2 hr2
            simp only [Bool.false_and, Bool.false_eq_true, if_false, foldU, List.length_nil, Nat.zero_add] at hf2 hr2
            exact ihc (x + 1) f s1 (by omega) (by omega) hst1 h01 hr1 hr2 s' b hf2
        · rw [if_neg (by simpa using hc1)]
          exact step (by unfold mstB; rw [decide_eq_false (show ¬ given.getD pre.length 0 ≥ 0 from hc1)]; rfl) _ rfl
    simp only [extL] at hf hr2
    rw [List.range_eq_range'] at hf hr2
    have h4 := key n 0 fuel s (by omega) (by unfold fuel; omega) hst h0 hr1 hr2 s' b hf
    simp only [spec_l14Go, spec_l14Go_body]
    rw [if_neg (by simp; omega)]
    have h4 : spec_l14Go_L8 (spec_l14Go d) fuel ((n : Int), demN n k rels, given, pre, (s.1, (s.2.1, s.2.2)), ([], (0, 0)), (pre.length : Int), 0) = _ := h4
    rw [h4]
    cases b <;> rfl
end
end T
open Go Go.Va
namespace T
theorem eachLP_L (rec) : ∀ f x, impl_polySearch_each_c1_impl_listPolys_c1_L4 rec f x = gL rec f x
 | 0, _ => rfl
 | f + 1, (a, b, c, d, e, g, x) => by simp only [impl_polySearch_each_c1_impl_listPolys_c1_L4, gL, eachLP_L rec f]
def lpCb (t : List Int) (s : List Opn × Int) : Option ((List Opn × Int) × Bool) := (impl_listPolys_c1 t s.1 s.2).bind fun r => some ((r.1, r.2.1), r.2.2)
theorem eachLP : ∀ d x, impl_polySearch_each_c1_impl_listPolys_c1 d x = gF lpCb d x
 | 0, _ => rfl
 | d + 1, (a, t, (s1, s2), ps, g, u) => by
  have e : impl_polySearch_each_c1_impl_listPolys_c1 d = gF lpCb d := funext fun x => eachLP d x
  simp only [impl_polySearch_each_c1_impl_listPolys_c1, gF, gBody, impl_polySearch_each_c1_impl_listPolys_c1_body, eachLP_L, e]
  split
  ·unfold lpCb; cases impl_listPolys_c1 t s1 s2 <;> rfl
  ·congr 1; funext z; cases z <;> rfl
theorem eachFP_L (rec) : ∀ f x, impl_polySearch_each_c1_impl_firstPoly_c1_impl_anyHom_L4 rec f x = gL rec f x
 | 0, _ => rfl
 | f + 1, (a, b, c, d, e, g, x) => by simp only [impl_polySearch_each_c1_impl_firstPoly_c1_impl_anyHom_L4, gL, eachFP_L rec f]
abbrev FS := Unit × (Int × (Opn × Bool))
def fpCb (t : List Int) (s : FS) : Option (FS × Bool) := (impl_firstPoly_c1 t s.1 s.2.1 s.2.2.1 s.2.2.2).bind fun r => some (((), (r.1, (r.2.1, r.2.2.1))), r.2.2.2)
theorem eachFP : ∀ d x, impl_polySearch_each_c1_impl_firstPoly_c1_impl_anyHom d x = gF fpCb d x
 | 0, _ => rfl
 | d + 1, (a, t, (s1, (s2, (s3, s4))), ps, g, u) => by
  have e : impl_polySearch_each_c1_impl_firstPoly_c1_impl_anyHom d = gF fpCb d := funext fun x => eachFP d x
  simp only [impl_polySearch_each_c1_impl_firstPoly_c1_impl_anyHom, gF, gBody, impl_polySearch_each_c1_impl_firstPoly_c1_impl_anyHom_body, eachFP_L, e]
  split
  ·unfold fpCb; cases impl_firstPoly_c1 t s1 s2 s3 s4 <;> rfl
  ·congr 1; funext z; cases z <;> rfl
section
variable {n k : Nat} {rels : List RelT} {given : List Int}
theorem ext_len {ok : List Int → Bool} : ∀ (m : Nat) (pre : List Int), (extL n given ok m pre).length ≤ n ^ m
 | 0, pre => by simp [extL]
 | m + 1, pre => by
  simp only [extL]
  have key : ∀ (l : List Nat), (l.flatMap fun x => if mstB given pre.length x && ok (pre ++ [(x : Int)]) then extL n given ok m (pre ++ [(x : Int)]) else []).length ≤ l.length * n ^ m := by
   intro l
   induction l with
   | nil => simp
   | cons x l ih =>
    rw [List.flatMap_cons, List.length_append, List.length_cons, Nat.succ_mul]
    have : (if mstB given pre.length x && ok (pre ++ [(x : Int)]) then extL n given ok m (pre ++ [(x : Int)]) else []).length ≤ n ^ m := by
     split
     ·exact ext_len m _
     ·simp
    omega
  have := key (List.range n)
  rw [List.length_range] at this
  rw [Nat.pow_succ, Nat.mul_comm]
  exact this
theorem ext_mem {ok : List Int → Bool} : ∀ (m : Nat) (pre t : List Int), t ∈ extL n given ok m pre → t.length = pre.length + m ∧ ((∀ x ∈ pre, 0 ≤ x ∧ x < (n : Int)) → ∀ x ∈ t, 0 ≤ x ∧ x < (n : Int))
 | 0, pre, t, h => by simp only [extL, List.mem_singleton] at h; subst h; exact ⟨rfl, fun h => h⟩
 | m + 1, pre, t, h => by
  simp only [extL, List.mem_flatMap] at h
  obtain ⟨x, hx, h⟩ := h
  have hx := List.mem_range.1 hx
  split at h
  ·obtain ⟨h1, h2⟩ := ext_mem m _ t h
   refine ⟨by rw [h1]; simp; omega, fun hp => h2 fun y hy => ?_⟩
   rcases List.mem_append.1 hy with h3 | h3
   ·exact hp y h3
   ·rw [List.mem_singleton.1 h3]; omega
  ·simp at h
def allT (n k : Nat) (rels : List RelT) (given : List Int) : List (List Int) := extL n given (okB n k rels) (n ^ k) []
theorem allT_mem {t : List Int} (h : t ∈ allT n k rels given) : t.length = n ^ k ∧ ∀ x ∈ t, 0 ≤ x ∧ x < (n : Int) := by
 obtain ⟨h1, h2⟩ := ext_mem _ _ _ h
 exact ⟨by rw [h1]; simp, h2 fun x hx => by simp at hx⟩
theorem allT_len : (allT n k rels given).length ≤ n ^ n ^ k := ext_len _ _
theorem foldS_many {most : Int} (h1 : most ≠ 1) : ∀ (l : List (List Int)) (f : List (List Int)) (c : Int), foldU sCb l (f, c, most) = some ((f ++ l.take (most - f.length).toNat, c + l.length, most), true)
 | [], f, c => by simp [foldU]
 | t :: l, f, c => by
  have hns : ∀ (f' : List (List Int)) (c' : Int), stopB (f', c', most) = false := fun f' c' => by unfold stopB; simp [h1]
  simp only [foldU, sCb, hns, Bool.not_false]
  rw [foldS_many h1 l]
  by_cases hc : (f.length : Int) < most
  ·rw [if_pos (by simpa using hc)]
   have e1 : (most - (f.length : Int)).toNat = (most - ((f ++ [t]).length : Int)).toNat + 1 := by rw [List.length_append, List.length_singleton]; omega
   rw [e1, List.take_succ_cons]
   simp; omega
  ·rw [if_neg (by simpa using hc)]
   have e1 : (most - (f.length : Int)).toNat = 0 := by omega
   rw [e1]; simp; omega
theorem foldS_one (l : List (List Int)) : foldU sCb l ([], 0, 1) = some (match l with | [] => (([], 0, 1), true) | t :: _ => (([t], 1, 1), false)) := by
 cases l with
 | nil => rfl
 | cons t l => rfl
theorem spec_l14All_ok (h : RelsOk n k rels) (hg : given.length = n ^ k) (hz : n ^ n ^ k ≤ 4611686018427387904) {most : Int} (hm : most ≤ 1000000) :
    ∃ s b, foldU sCb (allT n k rels given) ([], 0, most) = some (s, b) ∧ spec_l14All (n : Int) rels (k : Int) given most = some s := by
  obtain ⟨⟨s, b⟩, hf⟩ := foldS_tot (allT n k rels given) ([], 0, most)
  refine ⟨s, b, hf, ?_⟩
  have := go_ok h hg (n ^ k) fuel [] ([], 0, most) (by simp) (by have := pow_le3 (n := n) (k := k) h.hn.2 h.hk.2; unfold fuel; omega) (by unfold stopB; simp) (by simp) hm (by have := allT_len (n := n) (k := k) (rels := rels) (given := given); unfold allT at this; simp; omega) s b hf
  unfold spec_l14All
  rw [spec_l14Needs_ok h]
  simp only [Option.bind_some, this]
theorem each_ok (h : RelsOk n k rels) (hg : given.length = n ^ k) {σ : Type} (cb : List Int → σ → Option (σ × Bool)) {s s' : σ} {b : Bool} (hf : foldU cb (allT n k rels given) s = some (s', b)) :
    ∃ r : SOut σ, gF cb fuel (0, List.replicate (Int.toNat (given.length : Int)) (0 : Int), s, (true, (n : Int), (k : Int), demD n k rels), given, ()) = some r ∧ r.2.1 = s' := by
  have hp := pow_le3 (n := n) (k := k) h.hn.2 h.hk.2
  obtain ⟨tab', h1, h2, h3, h4⟩ := gF_ok h hg cb (n ^ k) fuel 0 (List.replicate (Int.toNat (given.length : Int)) (0 : Int)) s (by omega) (by unfold fuel; omega) (by rw [List.length_replicate, hg, Int.toNat_natCast]) (fun x hx => by rw [(List.mem_replicate.1 hx).2]; omega) s' b hf
  exact ⟨_, h4, rfl⟩
theorem foldLP {k : Int} : ∀ (l : List (List Int)) (f : List Opn), (∀ t ∈ l, t.length ≤ 1000) → f.length ≤ 300 → ∃ s b, foldU lpCb l (f, k) = some (s, b) ∧ (f.length + l.length ≤ 300 → s = (f ++ l.map fun t => (k, t), k)) ∧ (300 < f.length + l.length → 300 < s.1.length)
 | [], f, _, hf => ⟨(f, k), true, rfl, fun _ => by simp, fun h => by simp at h; omega⟩
 | t :: l, f, ht, hf => by
  have hcl : impl_clone t = some t := by
   unfold impl_clone
   have := ht t (by simp)
   rw [if_pos (by simp; unfold lim; omega)]; simp
  have hcb : lpCb t (f, k) = some ((f ++ [(k, t)], k), decide (((f ++ [(k, t)]).length : Int) ≤ 300)) := by
   unfold lpCb impl_listPolys_c1
   simp only [hcl, Option.bind_some]
   rw [if_pos (by rw [List.length_singleton]; unfold lim; omega)]; rfl
  simp only [foldU, hcb]
  by_cases hc : f.length + 1 ≤ 300
  ·rw [decide_eq_true (by simp; omega)]
   obtain ⟨s, b, h1, h2, h3⟩ := foldLP l (f ++ [(k, t)]) (fun t ht' => ht t (List.mem_cons_of_mem _ ht')) (by simp; omega)
   refine ⟨s, b, h1, fun h => ?_, fun h => h3 (by simp at h ⊢; omega)⟩
   rw [h2 (by simp at h ⊢; omega)]; simp
  ·rw [decide_eq_false (by simp; omega)]
   refine ⟨_, _, rfl, fun h => ?_, fun h => ?_⟩
   ·simp at h; omega
   ·show 300 < (f ++ [(k, t)]).length
    simp; omega
def listR (k : Nat) (l : List (List Int)) : List Opn × Bool := if l.length ≤ 300 then (l.map fun t => ((k : Int), t), true) else ([], false)
theorem impl_listPolys_ok (h : RelsOk n k rels) (hg : given.length = n ^ k) : impl_listPolys (n : Int) rels (k : Int) given = some (listR k (allT n k rels given)) := by
 have hp := pow_le3 (n := n) (k := k) h.hn.2 h.hk.2
 obtain ⟨s, b, h1, h2, h3⟩ := foldLP (k := (k : Int)) (allT n k rels given) [] (fun t ht => by rw [(allT_mem ht).1]; omega) (by simp)
 obtain ⟨r, h4, h5⟩ := each_ok h hg lpCb h1
 unfold impl_listPolys impl_polySearch_each_impl_listPolys_c1
 rw [impl_newPolySearch_ok h]
 simp only [Option.bind_some, eachLP, h4]
 rw [if_pos (by unfold lim; omega)]
 simp only [Option.bind_some, h5]
 unfold listR
 by_cases hc : (allT n k rels given).length ≤ 300
 ·have := h2 (by simpa using hc)
  rw [this, if_pos hc, if_neg (by simp; omega)]; simp
 ·have := h3 (by simp; omega)
  rw [if_pos (by simp; omega), if_neg hc]
theorem spec_l12Ops_ok {l : List (List Int)} (hl : l.length ≤ 1000) (ht : ∀ t ∈ l, t.length ≤ 1000) : spec_l12Ops (k : Int) l = some (l.map fun t => ((k : Int), t)) := by
 unfold spec_l12Ops
 have := forS l.length (fun f o i => spec_l12Ops_L3 f ((k : Int), l, o, i)) (fun q => (l.take q).map fun t => ((k : Int), t)) (r := some (l.map fun t => ((k : Int), t))) (fun f q hq => ?_) (fun f => ?_) (n := fuel) (by unfold fuel; omega)
 ·have this : spec_l12Ops_L3 fuel ((k : Int), l, [], 0) = _ := this
  rw [this]; rfl
 ·have := ht _ (List.getElem_mem hq)
  have e : (l.take (q + 1)).map (fun t => ((k : Int), t)) = (l.take q).map (fun t => ((k : Int), t)) ++ [((k : Int), l[q])] := by rw [List.take_succ_eq_append_getElem hq, List.map_append]; rfl
  simp only [spec_l12Ops_L3, inb_nat, hq, gd_nat hq, spec_l1Own_ok (show l[q].length ≤ 1099511627775 by omega), Option.bind_some, e, if_true, w64_succ (show q < 4611686018427387904 by omega)]
  rw [if_pos (by simp; omega), if_pos (by simp; unfold lim; omega)]
 ·simp only [spec_l12Ops_L3, List.take_length]
  rw [if_neg (by simp)]
theorem spec_list_ok (h : RelsOk n k rels) (hg : given.length = n ^ k) (hz : n ^ n ^ k ≤ 4611686018427387904) : ∃ s : SS, spec_l14All (n : Int) rels (k : Int) given 300 = some s ∧ s.2.1 = ((allT n k rels given).length : Int) ∧ ((allT n k rels given).length ≤ 300 → s.1 = allT n k rels given) := by
 obtain ⟨s, b, h1, h2⟩ := spec_l14All_ok h hg hz (most := 300) (by omega)
 rw [foldS_many (by omega)] at h1
 have := (Option.some.inj h1).symm
 simp only [Prod.mk.injEq] at this
 obtain ⟨rfl, rfl⟩ := this
 exact ⟨_, h2, by simp, fun h => by
  show [] ++ (allT n k rels given).take _ = _
  rw [List.nil_append, List.take_of_length_le (by simp; omega)]⟩
def firstR (k : Nat) (l : List (List Int)) : Opn × Bool := match l with | [] => ((0, []), false) | t :: _ => (((k : Int), t), true)
theorem impl_firstPoly_ok (h : RelsOk n k rels) (hg : given.length = n ^ k) : impl_firstPoly_impl_anyHom (n : Int) rels (k : Int) given () = some (firstR k (allT n k rels given)) := by
 have hp := pow_le3 (n := n) (k := k) h.hn.2 h.hk.2
 have hf : ∃ s b, foldU fpCb (allT n k rels given) ((), ((k : Int), ((0, []), false))) = some (s, b) ∧ s = ((), ((k : Int), ((firstR k (allT n k rels given)).1, (firstR k (allT n k rels given)).2))) := by
  have hlen : ∀ t ∈ allT n k rels given, t.length ≤ 1000 := fun t ht => by rw [(allT_mem ht).1]; omega
  generalize allT n k rels given = l at hlen
  cases l with
  | nil => exact ⟨_, _, rfl, rfl⟩
  | cons t l =>
   have hcl : impl_clone t = some t := by
    unfold impl_clone
    have := hlen t (by simp)
    rw [if_pos (by simp; unfold lim; omega)]; simp
   simp only [foldU, fpCb, impl_firstPoly_c1, hcl, impl_anyHom, Option.bind_some]
   exact ⟨_, _, rfl, rfl⟩
 obtain ⟨s, b, h1, h2⟩ := hf
 obtain ⟨r, h4, h5⟩ := each_ok h hg fpCb h1
 unfold impl_firstPoly_impl_anyHom impl_polySearch_each_impl_firstPoly_c1_impl_anyHom
 rw [impl_newPolySearch_ok h]
 simp only [Option.bind_some, eachFP, h4]
 rw [if_pos (by unfold lim; omega)]
 simp only [Option.bind_some, h5, h2]
theorem spec_one_ok (h : RelsOk n k rels) (hg : given.length = n ^ k) (hz : n ^ n ^ k ≤ 4611686018427387904) : ∃ s : SS, spec_l14All (n : Int) rels (k : Int) given 1 = some s ∧ (match allT n k rels given with | [] => s.2.1 = 0 | t :: _ => s.2.1 = 1 ∧ s.1 = [t]) := by
 obtain ⟨s, b, h1, h2⟩ := spec_l14All_ok h hg hz (most := 1) (by omega)
 rw [foldS_one] at h1
 refine ⟨s, h2, ?_⟩
 cases hc : allT n k rels given with
 | nil => rw [hc] at h1; simp at h1; rw [← h1.1]
 | cons t l => rw [hc] at h1; simp at h1; rw [← h1.1]; exact ⟨rfl, rfl⟩
end
end T
open Go Go.Va
namespace T
def relsS (a : List RelT) : Prop := a.length ≤ 1048576 ∧ ∀ r ∈ a, rowsS r.2
def opsS (l : List Opn) : Prop := l.length ≤ 1000 ∧ ∀ f ∈ l, f.2.length ≤ 1000
def tmplB (n : Int) (rels : List RelT) : Bool := decide (1 ≤ n ∧ n ≤ 4) && decide (rels.length ≤ 4) && rels.all (relB n)
def fewB (k : Int) (rels : List RelT) : Bool := rels.all fun r => !(k == 3 && decide ((r.2.length : Int) > 12))
theorem impl_canAsk_ok {n k : Int} {rels : List RelT} (h : relsS rels) : impl_canAsk n rels k = some (tmplB n rels && fewB k rels) := by
 have hl := h.1
 unfold impl_canAsk impl_isTemplateSize impl_isTemplate tmplB
 by_cases h1 : 1 ≤ n ∧ n ≤ 4
 ·rw [if_pos (by simp; omega)]
  simp only [Option.bind_some]
  rw [if_neg (by simp; omega)]
  by_cases h2 : rels.length ≤ 4
  ·rw [if_neg (by simp; omega)]
   have e1 := allX rels (fun f i => impl_isTemplate_L4 f (n, rels, (rels.length : Int), i)) (relB n) (.inr false) (.inl ()) (fun f i hi => by
    have := h.2 _ (List.getElem_mem hi)
    simp only [impl_isTemplate_L4, inb_nat, hi, gd_nat hi, impl_isRelation_ok (r := (rels[i].1, rels[i].2)) this, Option.bind_some, w64_succ (show i < 4611686018427387904 by omega)]
    rw [if_pos (by simp; omega)]
    cases relB n rels[i] <;> simp) (fun f => by simp [impl_isTemplate_L4]) (n := fuel) (by unfold fuel; omega)
   have e2 := allX rels (fun f i => impl_canAsk_L4 f (k, rels, (rels.length : Int), i)) (fun r => !(k == 3 && decide ((r.2.length : Int) > 12))) (.inr false) (.inl ()) (fun f i hi => by
    simp only [impl_canAsk_L4, inb_nat, hi, gd_nat hi, w64_succ (show i < 4611686018427387904 by omega)]
    rw [if_pos (by simp; omega)]
    by_cases c1 : k = 3
    ·by_cases c2 : (rels[i].2.length : Int) > 12
     ·simp [c1, c2]
     ·simp [c1, c2]
    ·simp [c1]) (fun f => by simp [impl_canAsk_L4]) (n := fuel) (by unfold fuel; omega)
   rw [e1]
   unfold fewB
   cases hr : rels.all (relB n) with
   | false => simp
   | true =>
    simp only [Option.bind_some, if_true, Bool.not_true, Bool.false_eq_true, if_false]
    rw [e2]
    cases rels.all fun r => !(k == 3 && decide ((r.2.length : Int) > 12)) <;> simp [h1, h2]
  ·rw [if_pos (by simp; omega)]
   simp [h2]
 ·by_cases h2 : n ≥ 1
  ·rw [if_pos (by simpa using h2)]
   have : ¬ n ≤ 4 := by omega
   simp [this]
  ·rw [if_neg (by simpa using h2)]
   have : ¬ 1 ≤ n := by omega
   simp [this]
theorem spec_l14Takes_ok {n k : Int} {rels : List RelT} (h : relsS rels) : spec_l14Takes n rels k = some (tmplB n rels && decide (1 ≤ k ∧ k ≤ 3) && fewB k rels) := by
 have hl := h.1
 unfold spec_l14Takes spec_l14Size spec_l14Rels tmplB
 rw [spec_l1In_ok, spec_l1In_ok]
 by_cases h1 : 1 ≤ n ∧ n ≤ 4
 ·simp only [Option.bind_some]
  rw [if_neg (by simp; omega)]
  by_cases h2 : rels.length ≤ 4
  ·rw [if_neg (by simp; omega)]
   have e1 := allX rels (fun f i => spec_l14Rels_L4 f (n, rels, i)) (relB n) (.inr false) (.inl ()) (fun f i hi => by
    have := h.2 _ (List.getElem_mem hi)
    simp only [spec_l14Rels_L4, inb_nat, hi, gd_nat hi, spec_l13Good_ok (n := n) this (by omega), Option.bind_some, w64_succ (show i < 4611686018427387904 by omega)]
    rw [if_pos (by simp; omega)]
    cases relB n rels[i] <;> simp) (fun f => by simp [spec_l14Rels_L4]) (n := fuel) (by unfold fuel; omega)
   have e2 := allX rels (fun f i => spec_l14Takes_L4 f (rels, k, i)) (fun r => !(k == 3 && decide ((r.2.length : Int) > 12))) (.inr false) (.inl ()) (fun f i hi => by
    simp only [spec_l14Takes_L4, inb_nat, hi, gd_nat hi, w64_succ (show i < 4611686018427387904 by omega)]
    rw [if_pos (by simp; omega)]
    by_cases c1 : k = 3
    ·by_cases c2 : (rels[i].2.length : Int) > 12
     ·simp [c1, c2]
     ·simp [c1, c2]
    ·simp [c1]) (fun f => by simp [spec_l14Takes_L4]) (n := fuel) (by unfold fuel; omega)
   rw [e1]
   unfold fewB
   cases hr : rels.all (relB n) with
   | false => simp
   | true =>
    simp only [Option.bind_some, if_true, Bool.not_true, Bool.false_eq_true, if_false]
    rw [e2]
    by_cases hk : 1 ≤ k ∧ k ≤ 3
    ·rw [if_neg (by simp; omega)]
     cases rels.all fun r => !(k == 3 && decide ((r.2.length : Int) > 12)) <;> simp [h1, h2, hk]
    ·rw [if_pos (by simp; omega)]; simp [hk]
  ·rw [if_pos (by simp; omega)]
   simp [h2]
 ·simp [h1]
theorem tmpl_of {n : Int} {rels : List RelT} (h : tmplB n rels = true) : (1 ≤ n ∧ n ≤ 4) ∧ rels.length ≤ 4 ∧ ∀ r ∈ rels, ROk n.toNat r.1.toNat r := by
 unfold tmplB at h
 simp only [Bool.and_eq_true, decide_eq_true_eq, List.all_eq_true] at h
 obtain ⟨⟨h1, h2⟩, h3⟩ := h
 refine ⟨h1, h2, fun r hr => rok_of (by omega) ?_⟩
 rw [Int.toNat_of_nonneg (by omega)]; exact h3 r hr
theorem rels_of {n : Int} {rels : List RelT} {k : Nat} (h : tmplB n rels = true) (hk : 1 ≤ k ∧ k ≤ 3) : RelsOk n.toNat k rels := by
 obtain ⟨h1, h2, h3⟩ := tmpl_of h
 exact ⟨by omega, hk, by omega, h3⟩
def polyB (n : Int) (rels : List RelT) (k : Int) : Bool := tmplB n rels && fewB k rels && (decide (1 ≤ k ∧ k ≤ 3) && decide (n.toNat ^ k.toNat ≤ 9))
theorem spec_l14Small_ok {n k : Int} {rels : List RelT} (h : relsS rels) : spec_l14Small n rels k = some (polyB n rels k) := by
 unfold spec_l14Small polyB
 rw [spec_l14Takes_ok h]
 simp only [Option.bind_some]
 cases ht : tmplB n rels with
 | false => simp
 | true =>
  obtain ⟨h1, _⟩ := tmpl_of ht
  by_cases hk : 1 ≤ k ∧ k ≤ 3
  ·have e := spec_pow64 (b := n.toNat) (k := k.toNat) (by omega) (by omega)
   rw [Int.toNat_of_nonneg (by omega), Int.toNat_of_nonneg (by omega)] at e
   have h9 : (((n.toNat ^ k.toNat : Nat) : Int) ≤ 9) ↔ n.toNat ^ k.toNat ≤ 9 := by omega
   rw [decide_eq_true hk, Bool.true_and, Bool.true_and, Bool.true_and]
   cases fewB k rels with
   | false => simp
   | true =>
    rw [if_pos rfl, e]
    simp only [Option.bind_some, decide_eq_decide.2 h9, Bool.true_and]
  ·simp [hk]
theorem impl_range_ok {n k : Int} (h1 : 1 ≤ n ∧ n ≤ 4) : impl_isPolyRange n k = some (decide (1 ≤ k ∧ k ≤ 3) && decide (n.toNat ^ k.toNat ≤ 9)) := by
 unfold impl_isPolyRange
 by_cases hk : 1 ≤ k ∧ k ≤ 3
 ·have e := impl_power64 (b := n.toNat) (k := k.toNat) (by omega) (by omega)
  rw [Int.toNat_of_nonneg (by omega), Int.toNat_of_nonneg (by omega)] at e
  have h9 : (((n.toNat ^ k.toNat : Nat) : Int) ≤ 9) ↔ n.toNat ^ k.toNat ≤ 9 := by omega
  rw [decide_eq_true hk, Bool.true_and, if_pos (by simp; omega), if_pos (by simp; omega), e]
  simp only [Option.bind_some, decide_eq_decide.2 h9]
 ·by_cases h2 : k ≥ 1
  ·rw [if_pos (by simpa using h2), if_neg (by simp; omega)]; simp [hk]
  ·rw [if_neg (by simpa using h2)]; simp [hk]
theorem freeI_ok {N : Nat} (h : N ≤ 1000) : impl_freeTable (N : Int) = some (List.replicate N (-1)) := by
 unfold impl_freeTable
 rw [Int.toNat_natCast, if_pos (by unfold lim; omega)]
 have := forS N (fun f o i => impl_freeTable_L3 f (o, ((List.replicate N (0 : Int)).length : Int), i)) (fun j => List.replicate j (-1) ++ List.replicate (N - j) (0 : Int)) (r := some (List.replicate N (-1))) (fun f j hj => ?_) (fun f => ?_) (n := fuel) (by unfold fuel; omega)
 ·have this : impl_freeTable_L3 fuel (List.replicate N (0 : Int), ((List.replicate N (0 : Int)).length : Int), 0) = _ := this
  rw [this]; rfl
 ·have hin : j < (List.replicate j (-1) ++ List.replicate (N - j) (0 : Int)).length := by simp; omega
  have e : (List.replicate j (-1) ++ List.replicate (N - j) (0 : Int)).set j (-1) = List.replicate (j + 1) (-1) ++ List.replicate (N - (j + 1)) (0 : Int) := by
   rw [show N - j = (N - (j + 1)) + 1 by omega, List.replicate_succ, List.set_append_right _ _ (by simp), List.replicate_succ']
   simp
  simp only [impl_freeTable_L3, inb_nat, hin, stt_nat, e, if_true, w64_succ (show j < 4611686018427387904 by omega)]
  rw [if_pos (by simp; omega)]
 ·simp only [impl_freeTable_L3]
  rw [if_neg (by simp)]; simp
theorem freeS_ok {N : Nat} (h : N ≤ 1000) : spec_l14Free (N : Int) = some (List.replicate N (-1)) := by
 unfold spec_l14Free
 have := forS N (fun f o i => spec_l14Free_L3 f ((N : Int), o, i)) (fun j => List.replicate j (-1)) (r := some (List.replicate N (-1))) (fun f j hj => ?_) (fun f => ?_) (n := fuel) (by unfold fuel; omega)
 ·have this : spec_l14Free_L3 fuel ((N : Int), [], 0) = _ := this
  rw [this]; rfl
 ·simp only [spec_l14Free_L3, List.replicate_succ', w64_succ (show j < 4611686018427387904 by omega)]
  rw [if_pos (by simp; omega), if_pos (by simp; unfold lim; omega)]
 ·simp only [spec_l14Free_L3]
  rw [if_neg (by simp)]
theorem small9 {n k : Nat} (hn : 1 ≤ n ∧ n ≤ 4) (hz : n ^ k ≤ 9) : n ^ n ^ k ≤ 4611686018427387904 := by
 have h1 : n ^ n ^ k ≤ 4 ^ n ^ k := Nat.pow_le_pow_left hn.2 _
 have h2 : 4 ^ n ^ k ≤ 4 ^ 9 := Nat.pow_le_pow_right (by omega) hz
 have : (4 : Nat) ^ 9 = 262144 := by decide
 omega
end T
open Go Go.Va
namespace T
section
variable {n k : Int} {rels : List RelT}
theorem listR_bd {n k : Nat} {l : List (List Int)} (h : ∀ t ∈ l, t.length ≤ 1000) : opsS (listR k l).1 := by
 unfold listR
 split
 ·refine ⟨by simp; omega, fun f hf => ?_⟩
  obtain ⟨t, ht, rfl⟩ := List.mem_map.1 hf
  exact h t ht
 ·exact ⟨by simp, fun f hf => by simp at hf⟩
theorem list_same {n k : Nat} {rels : List RelT} {given : List Int} (h : RelsOk n k rels) (hg : given.length = n ^ k) (h9 : n ^ k ≤ 9) :
    impl_listPolys (n : Int) rels (k : Int) given = some (listR k (allT n k rels given)) ∧
    ((spec_l14All (n : Int) rels (k : Int) given 300).bind fun r4 => if decide (r4.2.1 > 300) then some ([], false) else (spec_l12Ops (k : Int) r4.1).bind fun r5 => some (r5, true)) = some (listR k (allT n k rels given)) ∧ opsS (listR k (allT n k rels given)).1 := by
  have hlen : ∀ t ∈ allT n k rels given, t.length ≤ 1000 := fun t ht => by rw [(allT_mem ht).1]; omega
  obtain ⟨s, h1, h2, h3⟩ := spec_list_ok h hg (small9 h.hn h9)
  refine ⟨impl_listPolys_ok h hg, ?_, listR_bd (n := n) hlen⟩
  rw [h1]
  simp only [Option.bind_some, h2]
  unfold listR
  by_cases hc : (allT n k rels given).length ≤ 300
  · rw [if_neg (by simp; omega), if_pos hc, h3 hc, spec_l12Ops_ok (by omega) hlen]; rfl
  · rw [if_pos (by simp; omega), if_neg hc]
theorem powI_ok {n k : Int} (hn : 1 ≤ n ∧ n ≤ 4) (hk : 1 ≤ k ∧ k ≤ 3) : impl_power n k = some ((n.toNat ^ k.toNat : Nat) : Int) ∧ spec_l2Pow n k = some ((n.toNat ^ k.toNat : Nat) : Int) := by
 have e1 := impl_power64 (b := n.toNat) (k := k.toNat) (by omega) (by omega)
 have e2 := spec_pow64 (b := n.toNat) (k := k.toNat) (by omega) (by omega)
 rw [Int.toNat_of_nonneg (by omega), Int.toNat_of_nonneg (by omega)] at e1 e2
 exact ⟨e1, e2⟩
theorem polyB_of (h : polyB n rels k = true) : (1 ≤ n ∧ n ≤ 4) ∧ (1 ≤ k ∧ k ≤ 3) ∧ n.toNat ^ k.toNat ≤ 9 ∧ RelsOk n.toNat k.toNat rels := by
 unfold polyB at h
 simp only [Bool.and_eq_true, decide_eq_true_eq] at h
 obtain ⟨⟨h1, _⟩, h2, h3⟩ := h
 exact ⟨(tmpl_of h1).1, h2, h3, rels_of h1 (by omega)⟩
theorem PolymorphismsOf_ok (h : relsS rels) : ∃ R : List Opn × Bool, impl_PolymorphismsOf n rels k = some R ∧ spec_PolymorphismsOf n rels k = some R ∧ opsS R.1 := by
 unfold impl_PolymorphismsOf spec_PolymorphismsOf
 rw [impl_canAsk_ok h, spec_l14Small_ok h]
 cases hb : polyB n rels k with
 | false =>
  refine ⟨([], false), ?_, by simp, by simp, fun f hf => by simp at hf⟩
  cases hc : tmplB n rels && fewB k rels with
  | false => simp
  | true =>
   unfold polyB at hb
   rw [hc, Bool.true_and] at hb
   rw [Bool.and_eq_true] at hc
   simp only [Option.bind_some, Bool.not_true, Bool.false_eq_true, if_false, impl_range_ok (k := k) (tmpl_of hc.1).1, hb]
   rfl
 | true =>
  obtain ⟨hn, hk, h9, hR⟩ := polyB_of hb
  have hb' := hb
  unfold polyB at hb'
  simp only [Bool.and_eq_true] at hb'
  obtain ⟨⟨ht, hf⟩, hr⟩ := hb'
  obtain ⟨p1, p2⟩ := powI_ok hn hk
  obtain ⟨q1, q2, q3⟩ := list_same hR (given := List.replicate (n.toNat ^ k.toNat) (-1)) (by simp) h9
  rw [Int.toNat_of_nonneg (by omega), Int.toNat_of_nonneg (by omega)] at q1 q2
  refine ⟨_, ?_, ?_, q3⟩
  ·rw [ht, hf]
   simp only [Option.bind_some, Bool.and_self, Bool.not_true, Bool.false_eq_true, if_false, impl_range_ok (k := k) hn, hr.1, hr.2, p1, freeI_ok (show n.toNat ^ k.toNat ≤ 1000 by omega), q1]
  ·simp only [Option.bind_some, Bool.not_true, Bool.false_eq_true, if_false, p2, freeS_ok (show n.toNat ^ k.toNat ≤ 1000 by omega), q2]
end
end T
open Go Go.Va
namespace T
section
variable {n k : Int} {rels : List RelT}
theorem firstR_bd {k : Nat} {l : List (List Int)} (h : ∀ t ∈ l, t.length ≤ 1000) : (firstR k l).1.2.length ≤ 1000 := by
 unfold firstR
 cases l with
 | nil => simp
 | cons t l => exact h t (by simp)
theorem one_same {n k : Nat} {rels : List RelT} {given : List Int} (h : RelsOk n k rels) (hg : given.length = n ^ k) (h9 : n ^ n ^ k ≤ 4611686018427387904) :
    impl_firstPoly_impl_anyHom (n : Int) rels (k : Int) given () = some (firstR k (allT n k rels given)) ∧
    ((spec_l14All (n : Int) rels (k : Int) given 1).bind fun r6 => if r6.2.1 == 0 then some ((0, []), false) else if inb 0 r6.1 then some (((k : Int), gd r6.1 0 []), true) else none) = some (firstR k (allT n k rels given)) ∧ (firstR k (allT n k rels given)).1.2.length ≤ 1000 := by
  have hp := pow_le3 h.hn.2 h.hk.2
  have hlen : ∀ t ∈ allT n k rels given, t.length ≤ 1000 := fun t ht => by rw [(allT_mem ht).1]; omega
  obtain ⟨s, h1, h2⟩ := spec_one_ok h hg h9
  refine ⟨impl_firstPoly_ok h hg, ?_, firstR_bd hlen⟩
  rw [h1]
  simp only [Option.bind_some]
  cases hc : allT n k rels given with
  | nil => rw [hc] at h2; rw [if_pos (by simp [h2])]; rfl
  | cons t l =>
    rw [hc] at h2
    obtain ⟨h3, h4⟩ := h2
    have hi : inb (0 : Int) [t] := ⟨by omega, by simp⟩
    rw [if_neg (by simp [h3]), h4, if_pos hi]; rfl
end
end T
open Go Go.Va
namespace T
section
variable {n : Int} {rels : List RelT}
end
def posL (V : List Int) (x : Nat) : Int := match V.findIdx? (fun y => y == (x : Int)) with | some i => (i : Int) | none => -1
section
variable {n : Nat} {t : List Int}
end
section
variable {n m : Nat} {t : List Int} {r : RelT} {rels : List RelT}
end
end T
open Go Go.Va
namespace T
section
variable {α : Type} {nw old : Nat → α} {N i : Nat}
end
def pr4 (p : Int) : Prop := p = 2 ∨ p = 3 ∨ p = 5 ∨ p = 7
def okRow (p : Int) (W : Nat) (r : List Int) : Prop := r.length = W ∧ ∀ x ∈ r, 0 ≤ x ∧ x < p
section
variable {p : Int} {W : Nat} {r row : List Int}
theorem ok_get (h : okRow p W r) {i : Nat} (hi : i < W) : 0 ≤ r.getD i 0 ∧ r.getD i 0 < p := by
 have : i < r.length := by rw [h.1]; exact hi
 rw [getD_of this]; exact h.2 _ (List.getElem_mem this)
end
abbrev ES := List (List Int) × List Int × List (List Int)
structure ESok (p : Int) (W N v : Nat) (s : ES) : Prop where
 t : ∀ r ∈ s.1, okRow p W r
 l : ∀ r ∈ s.2.2, okRow p W r
 bl : s.2.1.length = s.1.length
 n : s.1.length + s.2.2.length = N
 bv : ∀ x ∈ s.2.1, 0 ≤ x ∧ x < (v : Int)
 bn : s.2.1.Nodup
section
variable {p : Int} {W N : Nat}
end
end T
open Go Go.Va
namespace T
section
variable {p : Int} {W N V : Nat}
theorem posL_none {b : List Int} {u : Nat} (h : (u : Int) ∉ b) : posL b u = -1 := by
 unfold posL
 have h1 : (b.findIdx? fun y => y == (u : Int)) = none := by
  rw [List.findIdx?_eq_none_iff]
  intro y hy
  simp only [beq_eq_false_iff_ne]
  intro e; exact h (e ▸ hy)
 rw [h1]
theorem posL_at {b : List Int} {u : Nat} (h : (u : Int) ∈ b) : ∃ i, ∃ hi : i < b.length, posL b u = (i : Int) ∧ b[i] = (u : Int) := by
 unfold posL
 have h1 : (b.findIdx? fun y => y == (u : Int)).isSome = true := by
  rw [List.findIdx?_isSome, List.any_eq_true]
  exact ⟨_, h, by simp⟩
 obtain ⟨i, hi⟩ := Option.isSome_iff_exists.1 h1
 rw [hi]
 obtain ⟨g1, g2, _⟩ := List.findIdx?_eq_some_iff_getElem.1 hi
 exact ⟨i, g1, rfl, by simpa using g2⟩
end
end T
open Go Go.Va
namespace T
def freeL (N : Nat) (b : List Int) : List Int := ((List.range N).filter fun v : Nat => !decide ((v : Int) ∈ b)).map fun v : Nat => (v : Int)
section
variable {p : Int} {W N V : Nat}
theorem posL_neg {b : List Int} {u : Nat} : posL b u < 0 ↔ (u : Int) ∉ b := by
 by_cases h : (u : Int) ∈ b
 ·obtain ⟨i, hi, h1, _⟩ := posL_at h
  rw [h1]; simp [h]
 ·rw [posL_none h]; simp [h]
def solV (V : Nat) (s : ES) (u : Nat) : Int := if posL s.2.1 u < 0 then 0 else (s.1.getD (posL s.2.1 u).toNat []).getD V 0
def solL (V : Nat) (s : ES) : List Int := (List.range V).map (solV V s)
end
end T
open Go Go.Va
namespace T
def cg (p a b : Int) : Prop := ∃ k, a = b + p * k
section
variable {p a b c d : Int}
theorem cg_of (h : a = b) : cg p a b := ⟨0, by rw [h]; simp⟩
theorem cg_add (h : cg p a b) (g : cg p c d) : cg p (a + c) (b + d) := by obtain ⟨k, h⟩ := h; obtain ⟨m, g⟩ := g; exact ⟨k + m, by grind⟩
theorem cg_mul (x : Int) (h : cg p a b) : cg p (x * a) (x * b) := by obtain ⟨k, h⟩ := h; exact ⟨x * k, by grind⟩
end
inductive Sp (p : Int) (V : Nat) (A : List (List Int)) : (Nat → Int) → Prop
 | zero : Sp p V A fun _ => 0
 | add {f : Nat → Int} (r : List Int) (c : Int) : r ∈ A → Sp p V A f → Sp p V A fun i => f i + c * r.getD i 0
 | cgr {f g : Nat → Int} : Sp p V A f → (∀ i, i < V → cg p (g i) (f i)) → Sp p V A g
section
variable {p : Int} {V W N : Nat} {A B : List (List Int)} {f g : Nat → Int}
theorem Sp.lin (hf : Sp p V A f) (hg : Sp p V A g) (c : Int) : Sp p V A fun i => f i + c * g i := by
 induction hg with
 | zero => exact hf.cgr fun i _ => cg_of (by simp)
 | add r d hr _ ih => exact (ih.add r (c * d) hr).cgr fun i _ => cg_of (by grind)
 | cgr _ h ih => exact ih.cgr fun i hi => cg_add (cg_of rfl) (cg_mul c (h i hi))
theorem Sp.mem {r : List Int} (h : r ∈ A) : Sp p V A fun i => r.getD i 0 := (Sp.add r 1 h .zero).cgr fun i _ => cg_of (by simp)
theorem Sp.sub (h : ∀ r ∈ A, Sp p V B fun i => r.getD i 0) (hf : Sp p V A f) : Sp p V B f := by
 induction hf with
 | zero => exact .zero
 | add r c hr _ ih => exact ih.lin (h r hr) c
 | cgr _ h ih => exact ih.cgr h
def eqSp (p : Int) (V : Nat) (A B : List (List Int)) : Prop := ∀ f, Sp p V A f ↔ Sp p V B f
theorem eqSp_of (h : ∀ r ∈ A, Sp p V B fun i => r.getD i 0) (g : ∀ r ∈ B, Sp p V A fun i => r.getD i 0) : eqSp p V A B := fun _ => ⟨Sp.sub h, Sp.sub g⟩
end
end T
open Go Go.Va
namespace T
section
variable {p : Int} {V W N : Nat} {A B : List (List Int)} {f g : Nat → Int}
theorem getD_mem {α : Type} {l : List α} {i : Nat} {d : α} (hi : i < l.length) : l.getD i d ∈ l := by rw [getD_of hi]; exact List.getElem_mem hi
end
end T
open Go Go.Va
namespace T
section
variable {p : Int} {V W N : Nat} {A B C D : List (List Int)} {f g : Nat → Int}
theorem eqSp.symm (h : eqSp p V A B) : eqSp p V B A := fun f => (h f).symm
theorem eqSp.trans (h : eqSp p V A B) (g : eqSp p V B C) : eqSp p V A C := fun f => (h f).trans (g f)
theorem eqSp.app (h : eqSp p V A B) : eqSp p V (A ++ C) (B ++ C) := by
 have key : ∀ {A B : List (List Int)}, eqSp p V A B → ∀ r ∈ A ++ C, Sp p V (B ++ C) fun i => r.getD i 0 := fun {A B} h r hr => by
  rcases List.mem_append.1 hr with hr | hr
  ·exact Sp.sub (fun q hq => Sp.mem (List.mem_append_left _ hq)) ((h _).1 (Sp.mem hr))
  ·exact Sp.mem (List.mem_append_right _ hr)
 exact eqSp_of (key h) (key h.symm)
end
end T
open Go Go.Va
namespace T
def i64 (x : Int) : Prop := -9223372036854775808 ≤ x ∧ x ≤ 9223372036854775807
section
variable {c : List Int} {ar : Int}
end
end T
open Go Go.Va
namespace T
abbrev NS := Bool × Int × List (List (List Int)) × List (List (List ByteArray))
abbrev NIn (σ : Type) := Int × List Int × σ × NS × List Int × Unit
abbrev NOut (σ : Type) := List Int × σ × NS × List Int × Bool
def hM {σ : Type} : Nat → (Int × List Int × σ × NS × List Int × Unit × Int × Bool × List (List Int) × Int × Int) → Option (Int × List Int × σ × NS × List Int × Unit × Int × Bool)
 | 0, _ => none
 | n + 1, (t0, t1, t2, t3, t4, t5, t8, t9, t50, t51, t52) =>
  if decide (t52 < t51) then
   if inb t52 t50 then
    if t9 then
     if t3.1 = true then
      if inb t0 t3.2.2.2 then
       if inb t52 (gd t3.2.2.2 t0 []) then
        (impl_compose (gd t50 t52 []) t1).bind fun r2 =>
         (impl_keyOf r2).bind fun r3 =>
          hM n (t0, t1, t2, t3, t4, (), t8, mhas (gd (gd t3.2.2.2 t0 []) t52 []) r3, t50, t51, w64 (t52 + 1))
       else none
      else none
     else none
    else
     hM n (t0, t1, t2, t3, t4, (), t8, false, t50, t51, w64 (t52 + 1))
   else none
  else
   some (t0, t1, t2, t3, t4, (), t8, t9)
def hL {σ : Type} (rec : NIn σ → Option (NOut σ)) : Nat → (Int × List Int × σ × NS × List Int × Unit × Int) → Option ((List Int × σ × NS × List Int × Unit) ⊕ (List Int × σ × NS × List Int × Unit × Bool))
 | 0, _ => none
 | n + 1, (t0, t1, t2, t3, t4, t5, t8) =>
  if t3.1 = true then
   if decide (t8 < t3.2.1) then
    if inb t0 t4 then
     if decide ((gd t4 t0 0) ≥ 0) then
      if inb t0 t4 then
       if (gd t4 t0 0) != t8 then
        hL rec n (t0, t1, t2, t3, t4, (), w64 (t8 + 1))
       else
        if inb t0 t1 then
         if t3.1 = true then
          if inb t0 t3.2.2.1 then
           (hM fuel (t0, stt t1 t0 t8, t2, t3, t4, (), t8, true, gd t3.2.2.1 t0 [], ((gd t3.2.2.1 t0 []).length : Int), 0)).bind fun s2 =>
            if s2.2.2.2.2.2.2.2 then
             (rec (w64 (s2.1 + 1), s2.2.1, s2.2.2.1, s2.2.2.2.1, s2.2.2.2.2.1, ())).bind fun r3 =>
              if !r3.2.2.2.2 then
               some (.inr (r3.1, r3.2.1, r3.2.2.1, r3.2.2.2.1, (), false))
              else
               hL rec n (s2.1, r3.1, r3.2.1, r3.2.2.1, r3.2.2.2.1, (), w64 (s2.2.2.2.2.2.2.1 + 1))
            else
             hL rec n (s2.1, s2.2.1, s2.2.2.1, s2.2.2.2.1, s2.2.2.2.2.1, (), w64 (s2.2.2.2.2.2.2.1 + 1))
          else none
         else none
        else none
      else none
     else
      if inb t0 t1 then
       if t3.1 = true then
        if inb t0 t3.2.2.1 then
         (hM fuel (t0, stt t1 t0 t8, t2, t3, t4, (), t8, true, gd t3.2.2.1 t0 [], ((gd t3.2.2.1 t0 []).length : Int), 0)).bind fun s4 =>
          if s4.2.2.2.2.2.2.2 then
           (rec (w64 (s4.1 + 1), s4.2.1, s4.2.2.1, s4.2.2.2.1, s4.2.2.2.2.1, ())).bind fun r5 =>
            if !r5.2.2.2.2 then
             some (.inr (r5.1, r5.2.1, r5.2.2.1, r5.2.2.2.1, (), false))
            else
             hL rec n (s4.1, r5.1, r5.2.1, r5.2.2.1, r5.2.2.2.1, (), w64 (s4.2.2.2.2.2.2.1 + 1))
          else
           hL rec n (s4.1, s4.2.1, s4.2.2.1, s4.2.2.2.1, s4.2.2.2.2.1, (), w64 (s4.2.2.2.2.2.2.1 + 1))
        else none
       else none
      else none
    else none
   else
    some (.inl (t1, t2, t3, t4, ()))
  else none
def hBody {σ : Type} (cb : List Int → σ → Option (σ × Bool)) (rec : NIn σ → Option (NOut σ)) (x : NIn σ) : Option (NOut σ) :=
 if x.1 == (x.2.1.length : Int) then
  (cb x.2.1 x.2.2.1).bind fun r1 => some (x.2.1, r1.1, x.2.2.2.1, x.2.2.2.2.1, r1.2)
 else
  (hL rec fuel (x.1, x.2.1, x.2.2.1, x.2.2.2.1, x.2.2.2.2.1, (), 0)).bind fun s2 =>
   match s2 with
   | .inl s3 => some (s3.1, s3.2.1, s3.2.2.1, s3.2.2.2.1, true)
   | .inr s4 => some (s4.1, s4.2.1, s4.2.2.1, s4.2.2.2.1, s4.2.2.2.2.2)
def hF {σ : Type} (cb : List Int → σ → Option (σ × Bool)) : Nat → NIn σ → Option (NOut σ)
 | 0, _ => none
 | d + 1, x => hBody cb (hF cb d) x
section
variable {V n : Nat} {cs : List Con} {given : List Int}
end
end T
set_option linter.unusedVariables false
open Go Go.Va
namespace T
def spec_l1Cur_next (c : (List Int) × Int × Int) : Option (((List Int) × Int × Int) × Int) :=
 if decide (c.2.1 < (c.1.length : Int)) then
  if inb c.2.1 c.1 then
   if decide ((w64 (c.2.1 + 1)) ≤ (c.1.length : Int)) then
    some ((c.1, (w64 (c.2.1 + 1), IntKind.wrap .u64 ((IntKind.wrap .u64 ((IntKind.wrap .u64 (c.2.2 * 6364136223846793005)) + (IntKind.wrap .u64 (w64 (gd c.1 c.2.1 0))))) + 550289))), w64 (gd c.1 c.2.1 0))
   else
    if (0 : Int) ≤ 40 then
     some ((c.1, (w64 (c.2.1 + 1), IntKind.wrap .u64 ((IntKind.wrap .u64 ((IntKind.wrap .u64 (c.2.2 * 6364136223846793005)) + (IntKind.wrap .u64 (w64 (gd c.1 c.2.1 0))))) + 550289))), w64 (andI .u64 (shrI .u64 (IntKind.wrap .u64 ((IntKind.wrap .u64 ((IntKind.wrap .u64 (c.2.2 * 6364136223846793005)) + (IntKind.wrap .u64 (w64 (gd c.1 c.2.1 0))))) + 550289)) 40) 255))
    else none
  else none
 else
  if decide ((w64 (c.2.1 + 1)) ≤ (c.1.length : Int)) then
   some ((c.1, (w64 (c.2.1 + 1), IntKind.wrap .u64 ((IntKind.wrap .u64 ((IntKind.wrap .u64 (c.2.2 * 6364136223846793005)) + (IntKind.wrap .u64 (0)))) + 550289))), 0)
  else
   if (0 : Int) ≤ 40 then
    some ((c.1, (w64 (c.2.1 + 1), IntKind.wrap .u64 ((IntKind.wrap .u64 ((IntKind.wrap .u64 (c.2.2 * 6364136223846793005)) + (IntKind.wrap .u64 (0)))) + 550289))), w64 (andI .u64 (shrI .u64 (IntKind.wrap .u64 ((IntKind.wrap .u64 ((IntKind.wrap .u64 (c.2.2 * 6364136223846793005)) + (IntKind.wrap .u64 (0)))) + 550289)) 40) 255))
   else none
def spec_l1Cur_pick (c : (List Int) × Int × Int) (n_ : Int) : Option (((List Int) × Int × Int) × Int) :=
 if decide (n_ ≤ 1) then
  some ((c.1, (c.2.1, c.2.2)), 0)
 else
  (spec_l1Cur_next (c.1, (c.2.1, c.2.2))).bind fun r1 =>
   if decide (n_ > 200) then
    (spec_l1Cur_next (r1.1.1, (r1.1.2.1, r1.1.2.2))).bind fun r2 =>
     if n_ ≠ 0 then
      some ((r2.1.1, (r2.1.2.1, r2.1.2.2)), Int.tmod (w64 ((w64 (r1.2 * 256)) + r2.2)) n_)
     else none
   else
    if n_ ≠ 0 then
     some ((r1.1.1, (r1.1.2.1, r1.1.2.2)), Int.tmod r1.2 n_)
    else none
def spec_l1Cur_among (c : (List Int) × Int × Int) (list : List Int) : Option (((List Int) × Int × Int) × Int) :=
 (spec_l1Cur_pick (c.1, (c.2.1, c.2.2)) (list.length : Int)).bind fun r1 =>
  if inb r1.2 list then
   some ((r1.1.1, (r1.1.2.1, r1.1.2.2)), gd list r1.2 0)
  else none
def spec_l1Cur_one (c : (List Int) × Int × Int) (n_ : Int) : Option (((List Int) × Int × Int) × Bool) :=
 (spec_l1Cur_pick (c.1, (c.2.1, c.2.2)) n_).bind fun r1 =>
  some ((r1.1.1, (r1.1.2.1, r1.1.2.2)), r1.2 == 0)
def spec_l1Least (a : Int) (b : Int) : Option (Int) :=
 if decide (a < b) then
  some a
 else
  some b
end T
open Go Go.Va
namespace T
abbrev CurT := List Int × Int × Int
def Cur (k : Nat) (c : CurT) : Prop := c.1.length ≤ 65536 ∧ (∀ x ∈ c.1, 0 ≤ x ∧ x < 256) ∧ 0 ≤ c.2.1 ∧ c.2.1 ≤ (k : Int)
theorem and255 (x : Int) : 0 ≤ w64 (andI .u64 x 255) ∧ w64 (andI .u64 x 255) < 256 := by
 have h1 : (BitVec.ofInt 64 x &&& BitVec.ofInt 64 255).toNat ≤ 255 := by
  rw [BitVec.toNat_and]
  have : (BitVec.ofInt 64 255).toNat = 255 := by decide
  rw [this]
  exact Nat.and_le_right
 have h2 : andI .u64 x 255 = ((BitVec.ofInt 64 x &&& BitVec.ofInt 64 255).toNat : Int) := by
  unfold andI
  have e : ∀ n : Nat, n ≤ 255 → IntKind.wrap .u64 (n : Int) = (n : Int) := fun n hn => by
   simp [IntKind.wrap, IntKind.bits, IntKind.signed]
   omega
  exact e _ h1
 rw [h2, w64_id (by omega) (by omega)]
 omega
theorem next_ok {k : Nat} {c : CurT} (h : Cur k c) (hk : k ≤ 1000000000) : ∃ c' x, spec_l1Cur_next c = some (c', x) ∧ Cur (k + 1) c' ∧ 0 ≤ x ∧ x < 256 := by
 obtain ⟨code, at', seed⟩ := c
 obtain ⟨h1, h2, h3, h4⟩ := h
 dsimp only at h1 h2 h3 h4
 have hw : w64 (at' + 1) = at' + 1 := w64_id (by omega) (by omega)
 have hC : ∀ s, Cur (k + 1) (code, (at' + 1, s)) := fun s => ⟨h1, h2, by dsimp only; omega, by dsimp only; omega⟩
 unfold spec_l1Cur_next
 simp only [hw]
 by_cases hc : at' < (code.length : Int)
 ·have hin : inb at' code := ⟨h3, hc⟩
  have hle : at' + 1 ≤ (code.length : Int) := by omega
  have hb : 0 ≤ gd code at' 0 ∧ gd code at' 0 < 256 := by
   have : gd code at' 0 = code.getD at'.toNat 0 := rfl
   rw [this, getD_of (by omega)]
   exact h2 _ (List.getElem_mem _)
  rw [if_pos (decide_eq_true hc), if_pos hin, if_pos (decide_eq_true hle)]
  exact ⟨_, _, rfl, hC _, by rw [w64_id (by omega) (by omega)]; exact hb⟩
 ·have hle : ¬ at' + 1 ≤ (code.length : Int) := by omega
  rw [if_neg (by simpa using hc), if_neg (by simpa using hle), if_pos (by decide)]
  exact ⟨_, _, rfl, hC _, and255 _⟩
theorem pick_ok {k : Nat} {c : CurT} (h : Cur k c) (hk : k ≤ 100000000) (n : Int) (hn : n ≤ 1000000) : ∃ c' x, spec_l1Cur_pick c n = some (c', x) ∧ Cur (k + 2) c' ∧ 0 ≤ x ∧ (1 ≤ n → x < n) ∧ (n ≤ 1 → x = 0) := by
 have mono : ∀ {c : CurT} {i j : Nat}, i ≤ j → Cur i c → Cur j c := fun hij ⟨a, b, d, e⟩ => ⟨a, b, d, by omega⟩
 unfold spec_l1Cur_pick
 by_cases h1 : n ≤ 1
 ·rw [if_pos (decide_eq_true h1)]
  exact ⟨_, _, rfl, mono (by omega) h, by omega, fun _ => by omega, fun _ => rfl⟩
 ·rw [if_neg (by simpa using h1)]
  obtain ⟨c1, x1, e1, g1, a1, b1⟩ := next_ok h (by omega)
  have e1 : spec_l1Cur_next (c.1, (c.2.1, c.2.2)) = _ := e1
  simp only [e1, Option.bind_some]
  by_cases h2 : n > 200
  ·obtain ⟨c2, x2, e2, g2, a2, b2⟩ := next_ok g1 (by omega)
   have e2 : spec_l1Cur_next (c1.1, (c1.2.1, c1.2.2)) = _ := e2
   rw [if_pos (decide_eq_true h2)]
   simp only [e2, Option.bind_some]
   rw [if_pos (by omega)]
   have w1 : w64 (x1 * 256) = x1 * 256 := w64_id (by omega) (by omega)
   have w2 : w64 (x1 * 256 + x2) = x1 * 256 + x2 := w64_id (by omega) (by omega)
   refine ⟨_, _, rfl, g2, ?_, fun _ => ?_, fun h => absurd h h1⟩
   ·rw [w1, w2, Int.tmod_eq_emod_of_nonneg (by omega)]; exact Int.emod_nonneg _ (by omega)
   ·rw [w1, w2, Int.tmod_eq_emod_of_nonneg (by omega)]; exact Int.emod_lt_of_pos _ (by omega)
  ·rw [if_neg (by simpa using h2), if_pos (by omega)]
   refine ⟨_, _, rfl, mono (by omega) g1, ?_, fun _ => ?_, fun h => absurd h h1⟩
   ·rw [Int.tmod_eq_emod_of_nonneg a1]; exact Int.emod_nonneg _ (by omega)
   ·rw [Int.tmod_eq_emod_of_nonneg a1]; exact Int.emod_lt_of_pos _ (by omega)
theorem among_ok {k : Nat} {c : CurT} (h : Cur k c) (hk : k ≤ 100000000) {l : List Int} (h0 : 0 < l.length) (hl : l.length ≤ 1000) : ∃ c' x, spec_l1Cur_among c l = some (c', x) ∧ Cur (k + 2) c' ∧ x ∈ l := by
 obtain ⟨c1, x1, e1, g1, a1, b1, _⟩ := pick_ok h hk (l.length : Int) (by omega)
 have b1 := b1 (by omega)
 unfold spec_l1Cur_among
 have e1 : spec_l1Cur_pick (c.1, (c.2.1, c.2.2)) (l.length : Int) = _ := e1
 simp only [e1, Option.bind_some]
 have hin : inb x1 l := ⟨a1, b1⟩
 rw [if_pos hin]
 refine ⟨_, _, rfl, g1, ?_⟩
 have : gd l x1 0 = l.getD x1.toNat 0 := rfl
 rw [this]
 exact getD_mem (by omega)
theorem one_ok {k : Nat} {c : CurT} (h : Cur k c) (hk : k ≤ 100000000) (n : Int) (hn : n ≤ 1000000) : ∃ c' x, spec_l1Cur_one c n = some (c', x) ∧ Cur (k + 2) c' := by
 obtain ⟨c1, x1, e1, g1, _⟩ := pick_ok h hk n hn
 unfold spec_l1Cur_one
 have e1 : spec_l1Cur_pick (c.1, (c.2.1, c.2.2)) n = _ := e1
 simp only [e1, Option.bind_some]
 exact ⟨_, _, rfl, g1⟩
theorem Cur.mono {c : CurT} {i j : Nat} (hij : i ≤ j) : Cur i c → Cur j c := fun ⟨a, b, d, e⟩ => ⟨a, b, d, by omega⟩
end T
set_option linter.unusedVariables false
open Go Go.Va
namespace T
def spec_l8Put (list : List (List Int)) (t : List Int) : Option ((List (List Int))) :=
 (spec_l8Find list t).bind fun r1 =>
  if r1.2 then
   some list
  else
   if (0 : Int) ≤ 0 ∧ 0 ≤ r1.1 ∧ r1.1 ≤ (list.length : Int) then
    if ([] : List (List Int)).length + ((list.take (Int.toNat r1.1)).drop (Int.toNat 0)).length ≤ lim then
     if ([] ++ ((list.take (Int.toNat r1.1)).drop (Int.toNat 0))).length + [t].length ≤ lim then
      if (0 : Int) ≤ r1.1 ∧ r1.1 ≤ (list.length : Int) ∧ (list.length : Int) ≤ (list.length : Int) then
       if (([] ++ ((list.take (Int.toNat r1.1)).drop (Int.toNat 0))) ++ [t]).length + ((list.take (Int.toNat (list.length : Int))).drop (Int.toNat r1.1)).length ≤ lim then
        some ((([] ++ ((list.take (Int.toNat r1.1)).drop (Int.toNat 0))) ++ [t]) ++ ((list.take (Int.toNat (list.length : Int))).drop (Int.toNat r1.1)))
       else none
      else none
     else none
    else none
   else none
end T
open Go Go.Va
namespace T
def sortL (cmp : List Int → List Int → Int) (rows : List (List Int)) : List (List Int) := rows.mergeSort (fun x y => !decide (cmp y x < 0))
end T
open Go Go.Va
namespace T
theorem incB_pair {l : List (List Int)} : incB l = true ↔ l.Pairwise (fun a b => cmpL a b < 0) := by
 constructor
 ·intro h
  rw [List.pairwise_iff_getElem]
  exact fun i j hi hj hij => incB_lt h i j hij hj
 ·intro h
  rw [incB_iff]
  rw [List.pairwise_iff_getElem] at h
  exact fun i hi => h i (i + 1) (by omega) hi (by omega)
theorem spec_l8Put_ok {list : List (List Int)} {t : List Int} {k : Nat} (hl : list.length ≤ 1000000) (hk : k ≤ 1000000) (hv : ∀ u ∈ list, u.length = k) (ht : t.length = k) (hi : incB list = true) :
    ∃ out, spec_l8Put list t = some out ∧ incB out = true ∧ (∀ u, u ∈ out ↔ u = t ∨ u ∈ list) ∧ (t ∉ list → out.Perm (t :: list)) := by
  obtain ⟨c, e, k1, k2, k3⟩ := spec_l8Find_ok (by omega) (by omega) hv ht hi
  unfold spec_l8Put
  rw [e]
  simp only [Option.bind_some]
  by_cases hm : t ∈ list
  · rw [decide_eq_true hm, if_pos rfl]
    exact ⟨list, rfl, hi, fun u => ⟨Or.inr, fun h => h.elim (fun h => h ▸ hm) id⟩, fun h => absurd hm h⟩
  · rw [decide_eq_false hm, if_neg (by simp)]
    have e1 : (list.take (Int.toNat (c : Int))).drop (Int.toNat 0) = list.take c := by simp
    have e2 : (list.take (Int.toNat (list.length : Int))).drop (Int.toNat (c : Int)) = list.drop c := by simp
    have hlim : lim = 1099511627776 := rfl
    have t1 : (list.take c).length = c := by rw [List.length_take]; omega
    rw [e1, e2, if_pos (by omega), if_pos (by simp; omega), if_pos (by simp; omega), if_pos (by omega), if_pos (by simp; omega)]
    refine ⟨_, rfl, ?_, fun u => ?_, fun _ => ?_⟩
    · rw [incB_pair] at hi ⊢
      simp only [List.nil_append]
      have hsp : list = list.take c ++ list.drop c := (List.take_append_drop c list).symm
      rw [hsp, List.pairwise_append] at hi
      have h4 : ∀ u ∈ list.take c, cmpL u t < 0 := fun u hu => by
        obtain ⟨i, hi', rfl⟩ := List.mem_iff_getElem.1 hu
        rw [List.getElem_take]
        exact k2 i _ (by omega)
      have h5 : ∀ u ∈ list.drop c, cmpL t u < 0 := fun u hu => by
        obtain ⟨i, hi', rfl⟩ := List.mem_iff_getElem.1 hu
        rw [List.length_drop] at hi'
        rw [List.getElem_drop]
        have h6 := k3 (c + i) (by omega) (by omega)
        have h7 := cmpL_symm (list[c + i]'(by omega)) t
        have h8 : cmpL (list[c + i]'(by omega)) t ≠ 0 := fun h => hm (by rw [← cmpL_eq.1 h]; exact List.getElem_mem _)
        omega
      rw [List.pairwise_append, List.pairwise_append]
      refine ⟨⟨hi.1, List.pairwise_singleton _ _, fun a ha b hb => by rw [List.mem_singleton.1 hb]; exact h4 a ha⟩, hi.2.1, fun a ha b hb => ?_⟩
      rcases List.mem_append.1 ha with ha | ha
      · exact hi.2.2 a ha b hb
      · rw [List.mem_singleton.1 ha]; exact h5 b hb
    · have hsp : u ∈ list ↔ u ∈ list.take c ∨ u ∈ list.drop c := by rw [← List.mem_append, List.take_append_drop]
      simp only [List.nil_append, List.mem_append, List.mem_singleton, hsp]
      constructor
      · rintro ((h | h) | h)
        · exact Or.inr (Or.inl h)
        · exact Or.inl h
        · exact Or.inr (Or.inr h)
      · rintro (h | h | h)
        · exact Or.inl (Or.inr h)
        · exact Or.inl (Or.inl h)
        · exact Or.inr h
    · simp only [List.nil_append]
      refine (List.Perm.append_right _ (List.perm_append_comm)).trans ?_
      rw [List.append_assoc, List.take_append_drop]
      exact List.Perm.refl _
theorem cmpL_anti {x y : List Int} (h1 : ¬ cmpL y x < 0) (h2 : ¬ cmpL x y < 0) : x = y := by
 have := cmpL_symm x y
 exact cmpL_eq.1 (by omega)
theorem sortL_of {out l : List (List Int)} (hi : incB out = true) (hp : out.Perm l) : sortL cmpL l = out := by
 have hs : (sortL cmpL l).Pairwise fun x y => (!decide (cmpL y x < 0)) = true := by
  unfold sortL
  refine List.pairwise_mergeSort (fun a b c h1 h2 => ?_) (fun a b => ?_) l
  ·simp only [Bool.not_eq_true', decide_eq_false_iff_not] at *
   intro h3
   have q1 := cmpL_symm a b
   have q2 := cmpL_symm b c
   by_cases e : cmpL a b = 0
   ·rw [cmpL_eq.1 e] at h3; exact h2 h3
   ·exact h2 (cmpL_trans h3 (by omega))
  ·simp only [Bool.or_eq_true, Bool.not_eq_true', decide_eq_false_iff_not]
   have q1 := cmpL_symm a b
   omega
 have ho : out.Pairwise fun x y => (!decide (cmpL y x < 0)) = true := by
  refine (incB_pair.1 hi).imp ?_
  intro a b h
  simp only [Bool.not_eq_true', decide_eq_false_iff_not]
  have q1 := cmpL_symm a b
  omega
 have hpp : (sortL cmpL l).Perm out := (List.mergeSort_perm l _).trans hp.symm
 refine List.Perm.eq_of_pairwise (fun a b _ _ h1 h2 => ?_) hs ho hpp
 simp only [Bool.not_eq_true', decide_eq_false_iff_not] at h1 h2
 exact cmpL_anti h1 h2
end T
open Go Go.Va
namespace T
section
variable {p : Int} {W N V : Nat}
def coG (p : Int) (s : ES) (u : Nat) (f : Int) : Int := if posL s.2.1 u < 0 then (if f = (u : Int) then 1 else 0) else p - (s.1.getD (posL s.2.1 u).toNat []).getD f.toNat 0
def sumG (p : Int) (V : Nat) (s : ES) (F x : List Int) (u : Nat) : Nat → Int
 | 0 => solV V s u
 | k + 1 => sumG p V s F x u k + coG p s u (F.getD k 0) * x.getD k 0
def vecG (p : Int) (V : Nat) (s : ES) (F x : List Int) (k : Nat) : List Int := (List.range V).map fun u => sumG p V s F x u k % p
structure GenOk (p : Int) (W N V : Nat) (s : ES) (F x : List Int) : Prop where
 hp : pr4 p
 hs : ESok p W N V s
 hV : V < W
 hW : W ≤ 1000
 hN : N ≤ 100000
 hF : F = freeL V s.2.1
 hx : x.length = F.length
 xb : ∀ v ∈ x, 0 ≤ v ∧ v < p
variable {s : ES} {F x : List Int}
theorem GenOk.pb (g : GenOk p W N V s F x) : 2 ≤ p ∧ p ≤ 7 := by have := g.hp; unfold pr4 at this; omega
theorem GenOk.row (g : GenOk p W N V s F x) {u : Nat} (hu : ¬ posL s.2.1 u < 0) : (posL s.2.1 u).toNat < s.1.length ∧ okRow p W (s.1.getD (posL s.2.1 u).toNat []) := by
 have hm : (u : Int) ∈ s.2.1 := by
  rcases Decidable.em ((u : Int) ∈ s.2.1) with h | h
  ·exact h
  ·exact absurd (posL_neg.2 h) hu
 obtain ⟨i, hi, g1, _⟩ := posL_at hm
 rw [g1, Int.toNat_natCast]
 have := g.hs.bl
 exact ⟨by omega, by rw [getD_of (by omega)]; exact g.hs.t _ (List.getElem_mem _)⟩
theorem GenOk.base (g : GenOk p W N V s F x) (u : Nat) : 0 ≤ solV V s u ∧ solV V s u < p := by
 have := g.pb
 unfold solV
 split
 ·omega
 ·rename_i h
  exact ok_get (g.row h).2 g.hV
end
end T
open Go Go.Va
namespace T
section
variable {p : Int} {W N V : Nat} {s : ES} {F x : List Int}
theorem GenOk.zero (g : GenOk p W N V s F x) : vecG p V s F x 0 = solL V s := by
 unfold vecG solL
 refine List.map_congr_left fun u _ => ?_
 have := g.base u
 simp only [sumG]
 exact Int.emod_eq_of_lt this.1 this.2
end
end T
open Go Go.Va
namespace T
theorem inc_uniq : ∀ {a b : List (List Int)}, incB a = true → incB b = true → (∀ u, u ∈ a ↔ u ∈ b) → a = b := by
 intro a b ha hb h
 have pa := incB_pair.1 ha
 have pb := incB_pair.1 hb
 have na : a.Nodup := pa.imp fun {x y} h e => by rw [e, cmpL_refl] at h; omega
 have nb : b.Nodup := pb.imp fun {x y} h e => by rw [e, cmpL_refl] at h; omega
 have hp : a.Perm b := (List.perm_ext_iff_of_nodup na nb).2 h
 rw [← sortL_of ha (List.Perm.refl _), ← sortL_of hb (List.Perm.refl _)]
 have h1 := sortL_of ha hp
 have h2 := sortL_of hb (List.Perm.refl b)
 have h3 := sortL_of ha (List.Perm.refl a)
 rw [h2, h3, ← h1, h2]
end T
open Go Go.Va
namespace T
section
variable {n : Int} {k : Nat} {ts : List (List Int)}
theorem put_len {out list : List (List Int)} {t : List Int} (h1 : incB out = true) (h0 : incB list = true) (h2 : ∀ u, u ∈ out ↔ u = t ∨ u ∈ list) (h3 : t ∉ list → out.Perm (t :: list)) : out.length ≤ list.length + 1 := by
 by_cases hm : t ∈ list
 ·have : out = list := inc_uniq h1 h0 fun u => (h2 u).trans ⟨fun h => h.elim (fun h => h ▸ hm) id, Or.inr⟩
  rw [this]; omega
 ·rw [(h3 hm).length_eq]; simp
end
end T
set_option linter.unusedVariables false
open Go Go.Va
namespace T
def laws_rBig (code : List Int) : Option (Bool) :=
 some (decide ((code.length : Int) > 65536))
def spec_l14Known (t0 : Int) : Option (Int × (List (Int × (List (List Int))))) :=
 if t0 == 0 then
  some (2, [(2, [[0, 0], [0, 1], [1, 1]])])
 else
  if t0 == 1 then
   some (2, [(2, [[0, 1], [1, 0], [1, 1]]), (2, [[0, 0], [0, 1], [1, 0]])])
  else
   if t0 == 2 then
    some (2, [(3, [[0, 0, 0], [0, 1, 1], [1, 0, 1], [1, 1, 0]])])
   else
    if t0 == 3 then
     some (2, [(3, [[0, 0, 1], [0, 1, 0], [1, 0, 0]])])
    else
     if t0 == 4 then
      some (2, [(3, [[0, 0, 0], [0, 0, 1], [0, 1, 0], [0, 1, 1], [1, 0, 0], [1, 0, 1], [1, 1, 1]]), (1, [[1]])])
     else
      if t0 == 5 then
       some (3, [(2, [[0, 1], [0, 2], [1, 0], [1, 2], [2, 0], [2, 1]])])
      else
       if t0 == 6 then
        some (3, [(2, [[0, 0], [0, 1], [0, 2], [1, 1], [1, 2], [2, 2]])])
       else
        if t0 == 7 then
         some (3, [(2, [[0, 1], [1, 2], [2, 0]])])
        else
         if t0 == 8 then
          some (2, [(2, [[0, 1], [1, 0]])])
         else
          if t0 == 9 then
           some (4, [(2, [[0, 1], [1, 0], [1, 2], [2, 1], [2, 3], [3, 2]])])
          else
           some (2, [])
def spec_l1Cur_partition13_L3 : Nat → (((List Int) × Int × Int) × Int × (List Int) × Int) → Option (((List Int) × Int × Int) × (List Int))
 | 0, _ => none
 | n + 1, (c, n_, out, x) =>
  if decide (x < n_) then
   (spec_l1Cur_pick (c.1, (c.2.1, c.2.2)) (w64 (x + 1))).bind fun r1 =>
    if decide (r1.2 < x) then
     if inb r1.2 out then
      if out.length + [gd out r1.2 0].length ≤ lim then
       spec_l1Cur_partition13_L3 n ((r1.1.1, (r1.1.2.1, r1.1.2.2)), n_, out ++ [gd out r1.2 0], w64 (x + 1))
      else none
     else none
    else
     if out.length + [r1.2].length ≤ lim then
      spec_l1Cur_partition13_L3 n ((r1.1.1, (r1.1.2.1, r1.1.2.2)), n_, out ++ [r1.2], w64 (x + 1))
     else none
  else
   some ((c.1, (c.2.1, c.2.2)), out)
def spec_l1Cur_partition13 (c : (List Int) × Int × Int) (n_ : Int) : Option (((List Int) × Int × Int) × (List Int)) :=
 (spec_l1Cur_partition13_L3 fuel ((c.1, (c.2.1, c.2.2)), n_, [], 0)).bind fun s1 =>
  some ((s1.1.1, (s1.1.2.1, s1.1.2.2)), s1.2)
def spec_l13OfPartition_L6 : Nat → ((List Int) × (Int × (List (List Int))) × (Int × (List (List Int))) × Int × Int) → Option ((List Int) × (Int × (List (List Int))) × (Int × (List (List Int))) × Int)
 | 0, _ => none
 | n + 1, (p, t2, out, x, y) =>
  if decide (y < (p.length : Int)) then
   if inb x p then
    if inb y p then
     if (gd p x 0) == (gd p y 0) then
      if out.2.length + [[x, y]].length ≤ lim then
       spec_l13OfPartition_L6 n (p, (t2.1, t2.2), (out.1, out.2 ++ [[x, y]]), x, w64 (y + 1))
      else none
     else
      spec_l13OfPartition_L6 n (p, (t2.1, t2.2), (out.1, out.2), x, w64 (y + 1))
    else none
   else none
  else
   some (p, (t2.1, t2.2), (out.1, out.2), x)
def spec_l13OfPartition_L3 : Nat → ((List Int) × (Int × (List (List Int))) × (Int × (List (List Int))) × Int) → Option ((Int × (List (List Int))) × (Int × (List (List Int))))
 | 0, _ => none
 | n + 1, (p, t2, out, x) =>
  if decide (x < (p.length : Int)) then
   (spec_l13OfPartition_L6 fuel (p, (t2.1, t2.2), (out.1, out.2), x, 0)).bind fun s1 =>
    spec_l13OfPartition_L3 n (s1.1, (s1.2.1.1, s1.2.1.2), (s1.2.2.1.1, s1.2.2.1.2), w64 (s1.2.2.2 + 1))
  else
   some ((t2.1, t2.2), (out.1, out.2))
def spec_l13OfPartition (p : List Int) : Option ((Int × (List (List Int)))) :=
 (spec_l13OfPartition_L3 fuel (p, (0, []), (2, []), 0)).bind fun s1 =>
  some (s1.2.1, s1.2.2)
def spec_l13Full_L3 : Nat → (Int × Int × (Int × (List (List Int))) × (Int × (List (List Int))) × Int) → Option ((Int × (List (List Int))) × (Int × (List (List Int))))
 | 0, _ => none
 | n + 1, (n_, arity, t4, out, at_) =>
  (spec_l2Pow n_ arity).bind fun r1 =>
   if decide (at_ < r1) then
    (spec_l2Args n_ arity at_).bind fun r2 =>
     if out.2.length + [r2].length ≤ lim then
      spec_l13Full_L3 n (n_, arity, (t4.1, t4.2), (out.1, out.2 ++ [r2]), w64 (at_ + 1))
     else none
   else
    some ((t4.1, t4.2), (out.1, out.2))
def spec_l13Full (n_ : Int) (arity : Int) : Option ((Int × (List (List Int)))) :=
 (spec_l13Full_L3 fuel (n_, arity, (0, []), (arity, []), 0)).bind fun s1 =>
  some (s1.2.1, s1.2.2)
def spec_l8Put_b (list : List (List Int)) (t : List Int) : Option ((List (List Int))) :=
 (spec_l8Find list t).bind fun r1 =>
  if r1.2 then
   some list
  else
   if (0 : Int) ≤ 0 ∧ 0 ≤ r1.1 ∧ r1.1 ≤ (list.length : Int) then
    if ([] : List (List Int)).length + ((list.take (Int.toNat r1.1)).drop (Int.toNat 0)).length ≤ lim then
     if ([] ++ ((list.take (Int.toNat r1.1)).drop (Int.toNat 0))).length + [t].length ≤ lim then
      if (0 : Int) ≤ r1.1 ∧ r1.1 ≤ (list.length : Int) ∧ (list.length : Int) ≤ (list.length : Int) then
       if (([] ++ ((list.take (Int.toNat r1.1)).drop (Int.toNat 0))) ++ [t]).length + ((list.take (Int.toNat (list.length : Int))).drop (Int.toNat r1.1)).length ≤ lim then
        some ((([] ++ ((list.take (Int.toNat r1.1)).drop (Int.toNat 0))) ++ [t]) ++ ((list.take (Int.toNat (list.length : Int))).drop (Int.toNat r1.1)))
       else none
      else none
     else none
    else none
   else none
def spec_l1Cur_relation_L9 : Nat → (((List Int) × Int × Int) × Int × Int × (Int × (List (List Int))) × (Int × (List (List Int))) × Int × (List Int) × Int) → Option (((List Int) × Int × Int) × Int × Int × (Int × (List (List Int))) × (Int × (List (List Int))) × Int × (List Int))
 | 0, _ => none
 | n + 1, (t0, t1, t2, t6, t7, t8, t9, t10) =>
  if decide (t10 < t2) then
   (spec_l1Cur_pick (t0.1, (t0.2.1, t0.2.2)) t1).bind fun r4 =>
    if t9.length + [r4.2].length ≤ lim then
     spec_l1Cur_relation_L9 n ((r4.1.1, (r4.1.2.1, r4.1.2.2)), t1, t2, (t6.1, t6.2), (t7.1, t7.2), t8, t9 ++ [r4.2], w64 (t10 + 1))
    else none
  else
   some ((t0.1, (t0.2.1, t0.2.2)), t1, t2, (t6.1, t6.2), (t7.1, t7.2), t8, t9)
def spec_l1Cur_relation_L5 : Nat → (((List Int) × Int × Int) × Int × Int × (Int × (List (List Int))) × (Int × (List (List Int))) × Int) → Option (((List Int) × Int × Int) × Int × Int × (Int × (List (List Int))) × (Int × (List (List Int))))
 | 0, _ => none
 | n + 1, (t0, t1, t2, t6, t7, t8) =>
  if decide (t8 > 0) then
   (spec_l1Cur_relation_L9 fuel ((t0.1, (t0.2.1, t0.2.2)), t1, t2, (t6.1, t6.2), (t7.1, t7.2), t8, [], 0)).bind fun s4 =>
    (spec_l8Put_b s4.2.2.2.2.1.2 s4.2.2.2.2.2.2).bind fun r5 =>
     spec_l1Cur_relation_L5 n ((s4.1.1, (s4.1.2.1, s4.1.2.2)), s4.2.1, s4.2.2.1, (s4.2.2.2.1.1, s4.2.2.2.1.2), (s4.2.2.2.2.1.1, r5), w64 (s4.2.2.2.2.2.1 - 1))
  else
   some ((t0.1, (t0.2.1, t0.2.2)), t1, t2, (t6.1, t6.2), (t7.1, t7.2))
def spec_l1Cur_relation (t0 : (List Int) × Int × Int) (t1 : Int) (t2 : Int) : Option (((List Int) × Int × Int) × (Int × (List (List Int)))) :=
 (spec_l6Size t1).bind fun r1 =>
  if !r1 then
   some ((t0.1, (t0.2.1, t0.2.2)), (t2, []))
  else
   (spec_l1In t2 1 3).bind fun r2 =>
    if !r2 then
     some ((t0.1, (t0.2.1, t0.2.2)), (t2, []))
    else
     (spec_l1Cur_among (t0.1, (t0.2.1, t0.2.2)) [0, 1, 2, 3, 4, 6, 9]).bind fun r3 =>
      (spec_l1Cur_relation_L5 fuel ((r3.1.1, (r3.1.2.1, r3.1.2.2)), t1, t2, (0, []), (t2, []), r3.2)).bind fun s4 =>
       if s4.2.2.1 == 2 then
        (spec_l1Cur_one (s4.1.1, (s4.1.2.1, s4.1.2.2)) 3).bind fun r5 =>
         if r5.2 then
          (spec_l1Cur_partition13 (r5.1.1, (r5.1.2.1, r5.1.2.2)) s4.2.1).bind fun r6 =>
           (spec_l13OfPartition r6.2).bind fun r7 =>
            (spec_l1Cur_one (r6.1.1, (r6.1.2.1, r6.1.2.2)) 12).bind fun r8 =>
             if r8.2 then
              (spec_l13Full s4.2.1 s4.2.2.1).bind fun r9 =>
               (spec_l1Cur_pick (r8.1.1, (r8.1.2.1, r8.1.2.2)) 40).bind fun r10 =>
                if r10.2 == 0 then
                 (spec_l1Cur_among (r10.1.1, (r10.1.2.1, r10.1.2.2)) [0, 4, (-1)]).bind fun r11 =>
                  some ((r11.1.1, (r11.1.2.1, r11.1.2.2)), (r11.2, r9.2))
                else
                 if r10.2 == 1 then
                  if 0 ≤ s4.2.2.1 ∧ s4.2.2.1 ≤ s4.2.2.1 ∧ s4.2.2.1 ≤ lim then
                   if r9.2.length + [List.replicate (Int.toNat s4.2.2.1) (0 : Int)].length ≤ lim then
                    some ((r10.1.1, (r10.1.2.1, r10.1.2.2)), (r9.1, r9.2 ++ [List.replicate (Int.toNat s4.2.2.1) (0 : Int)]))
                   else none
                  else none
                 else
                  if r10.2 == 2 then
                   if decide ((r9.2.length : Int) > 0) then
                    (spec_l1Cur_among (r10.1.1, (r10.1.2.1, r10.1.2.2)) [(-1), s4.2.1, 0]).bind fun r12 =>
                     if inb 0 r9.2 then
                      some ((r12.1.1, (r12.1.2.1, r12.1.2.2)), (r9.1, stt r9.2 0 [r12.2]))
                     else none
                   else
                    some ((r10.1.1, (r10.1.2.1, r10.1.2.2)), (r9.1, r9.2))
                  else
                   some ((r10.1.1, (r10.1.2.1, r10.1.2.2)), (r9.1, r9.2))
             else
              (spec_l1Cur_pick (r8.1.1, (r8.1.2.1, r8.1.2.2)) 40).bind fun r13 =>
               if r13.2 == 0 then
                (spec_l1Cur_among (r13.1.1, (r13.1.2.1, r13.1.2.2)) [0, 4, (-1)]).bind fun r14 =>
                 some ((r14.1.1, (r14.1.2.1, r14.1.2.2)), (r14.2, r7.2))
               else
                if r13.2 == 1 then
                 if 0 ≤ s4.2.2.1 ∧ s4.2.2.1 ≤ s4.2.2.1 ∧ s4.2.2.1 ≤ lim then
                  if r7.2.length + [List.replicate (Int.toNat s4.2.2.1) (0 : Int)].length ≤ lim then
                   some ((r13.1.1, (r13.1.2.1, r13.1.2.2)), (r7.1, r7.2 ++ [List.replicate (Int.toNat s4.2.2.1) (0 : Int)]))
                  else none
                 else none
                else
                 if r13.2 == 2 then
                  if decide ((r7.2.length : Int) > 0) then
                   (spec_l1Cur_among (r13.1.1, (r13.1.2.1, r13.1.2.2)) [(-1), s4.2.1, 0]).bind fun r15 =>
                    if inb 0 r7.2 then
                     some ((r15.1.1, (r15.1.2.1, r15.1.2.2)), (r7.1, stt r7.2 0 [r15.2]))
                    else none
                  else
                   some ((r13.1.1, (r13.1.2.1, r13.1.2.2)), (r7.1, r7.2))
                 else
                  some ((r13.1.1, (r13.1.2.1, r13.1.2.2)), (r7.1, r7.2))
         else
          (spec_l1Cur_one (r5.1.1, (r5.1.2.1, r5.1.2.2)) 12).bind fun r16 =>
           if r16.2 then
            (spec_l13Full s4.2.1 s4.2.2.1).bind fun r17 =>
             (spec_l1Cur_pick (r16.1.1, (r16.1.2.1, r16.1.2.2)) 40).bind fun r18 =>
              if r18.2 == 0 then
               (spec_l1Cur_among (r18.1.1, (r18.1.2.1, r18.1.2.2)) [0, 4, (-1)]).bind fun r19 =>
                some ((r19.1.1, (r19.1.2.1, r19.1.2.2)), (r19.2, r17.2))
              else
               if r18.2 == 1 then
                if 0 ≤ s4.2.2.1 ∧ s4.2.2.1 ≤ s4.2.2.1 ∧ s4.2.2.1 ≤ lim then
                 if r17.2.length + [List.replicate (Int.toNat s4.2.2.1) (0 : Int)].length ≤ lim then
                  some ((r18.1.1, (r18.1.2.1, r18.1.2.2)), (r17.1, r17.2 ++ [List.replicate (Int.toNat s4.2.2.1) (0 : Int)]))
                 else none
                else none
               else
                if r18.2 == 2 then
                 if decide ((r17.2.length : Int) > 0) then
                  (spec_l1Cur_among (r18.1.1, (r18.1.2.1, r18.1.2.2)) [(-1), s4.2.1, 0]).bind fun r20 =>
                   if inb 0 r17.2 then
                    some ((r20.1.1, (r20.1.2.1, r20.1.2.2)), (r17.1, stt r17.2 0 [r20.2]))
                   else none
                 else
                  some ((r18.1.1, (r18.1.2.1, r18.1.2.2)), (r17.1, r17.2))
                else
                 some ((r18.1.1, (r18.1.2.1, r18.1.2.2)), (r17.1, r17.2))
           else
            (spec_l1Cur_pick (r16.1.1, (r16.1.2.1, r16.1.2.2)) 40).bind fun r21 =>
             if r21.2 == 0 then
              (spec_l1Cur_among (r21.1.1, (r21.1.2.1, r21.1.2.2)) [0, 4, (-1)]).bind fun r22 =>
               some ((r22.1.1, (r22.1.2.1, r22.1.2.2)), (r22.2, s4.2.2.2.2.2))
             else
              if r21.2 == 1 then
               if 0 ≤ s4.2.2.1 ∧ s4.2.2.1 ≤ s4.2.2.1 ∧ s4.2.2.1 ≤ lim then
                if s4.2.2.2.2.2.length + [List.replicate (Int.toNat s4.2.2.1) (0 : Int)].length ≤ lim then
                 some ((r21.1.1, (r21.1.2.1, r21.1.2.2)), (s4.2.2.2.2.1, s4.2.2.2.2.2 ++ [List.replicate (Int.toNat s4.2.2.1) (0 : Int)]))
                else none
               else none
              else
               if r21.2 == 2 then
                if decide ((s4.2.2.2.2.2.length : Int) > 0) then
                 (spec_l1Cur_among (r21.1.1, (r21.1.2.1, r21.1.2.2)) [(-1), s4.2.1, 0]).bind fun r23 =>
                  if inb 0 s4.2.2.2.2.2 then
                   some ((r23.1.1, (r23.1.2.1, r23.1.2.2)), (s4.2.2.2.2.1, stt s4.2.2.2.2.2 0 [r23.2]))
                  else none
                else
                 some ((r21.1.1, (r21.1.2.1, r21.1.2.2)), (s4.2.2.2.2.1, s4.2.2.2.2.2))
               else
                some ((r21.1.1, (r21.1.2.1, r21.1.2.2)), (s4.2.2.2.2.1, s4.2.2.2.2.2))
       else
        (spec_l1Cur_one (s4.1.1, (s4.1.2.1, s4.1.2.2)) 12).bind fun r24 =>
         if r24.2 then
          (spec_l13Full s4.2.1 s4.2.2.1).bind fun r25 =>
           (spec_l1Cur_pick (r24.1.1, (r24.1.2.1, r24.1.2.2)) 40).bind fun r26 =>
            if r26.2 == 0 then
             (spec_l1Cur_among (r26.1.1, (r26.1.2.1, r26.1.2.2)) [0, 4, (-1)]).bind fun r27 =>
              some ((r27.1.1, (r27.1.2.1, r27.1.2.2)), (r27.2, r25.2))
            else
             if r26.2 == 1 then
              if 0 ≤ s4.2.2.1 ∧ s4.2.2.1 ≤ s4.2.2.1 ∧ s4.2.2.1 ≤ lim then
               if r25.2.length + [List.replicate (Int.toNat s4.2.2.1) (0 : Int)].length ≤ lim then
                some ((r26.1.1, (r26.1.2.1, r26.1.2.2)), (r25.1, r25.2 ++ [List.replicate (Int.toNat s4.2.2.1) (0 : Int)]))
               else none
              else none
             else
              if r26.2 == 2 then
               if decide ((r25.2.length : Int) > 0) then
                (spec_l1Cur_among (r26.1.1, (r26.1.2.1, r26.1.2.2)) [(-1), s4.2.1, 0]).bind fun r28 =>
                 if inb 0 r25.2 then
                  some ((r28.1.1, (r28.1.2.1, r28.1.2.2)), (r25.1, stt r25.2 0 [r28.2]))
                 else none
               else
                some ((r26.1.1, (r26.1.2.1, r26.1.2.2)), (r25.1, r25.2))
              else
               some ((r26.1.1, (r26.1.2.1, r26.1.2.2)), (r25.1, r25.2))
         else
          (spec_l1Cur_pick (r24.1.1, (r24.1.2.1, r24.1.2.2)) 40).bind fun r29 =>
           if r29.2 == 0 then
            (spec_l1Cur_among (r29.1.1, (r29.1.2.1, r29.1.2.2)) [0, 4, (-1)]).bind fun r30 =>
             some ((r30.1.1, (r30.1.2.1, r30.1.2.2)), (r30.2, s4.2.2.2.2.2))
           else
            if r29.2 == 1 then
             if 0 ≤ s4.2.2.1 ∧ s4.2.2.1 ≤ s4.2.2.1 ∧ s4.2.2.1 ≤ lim then
              if s4.2.2.2.2.2.length + [List.replicate (Int.toNat s4.2.2.1) (0 : Int)].length ≤ lim then
               some ((r29.1.1, (r29.1.2.1, r29.1.2.2)), (s4.2.2.2.2.1, s4.2.2.2.2.2 ++ [List.replicate (Int.toNat s4.2.2.1) (0 : Int)]))
              else none
             else none
            else
             if r29.2 == 2 then
              if decide ((s4.2.2.2.2.2.length : Int) > 0) then
               (spec_l1Cur_among (r29.1.1, (r29.1.2.1, r29.1.2.2)) [(-1), s4.2.1, 0]).bind fun r31 =>
                if inb 0 s4.2.2.2.2.2 then
                 some ((r31.1.1, (r31.1.2.1, r31.1.2.2)), (s4.2.2.2.2.1, stt s4.2.2.2.2.2 0 [r31.2]))
                else none
              else
               some ((r29.1.1, (r29.1.2.1, r29.1.2.2)), (s4.2.2.2.2.1, s4.2.2.2.2.2))
             else
              some ((r29.1.1, (r29.1.2.1, r29.1.2.2)), (s4.2.2.2.2.1, s4.2.2.2.2.2))
def spec_l1Cur_template_L9 : Nat → (((List Int) × Int × Int) × Int × (List (Int × (List (List Int)))) × (List (Int × (List (List Int)))) × Int × (Int × (List (List Int))) × Int) → Option (((List Int) × Int × Int) × Int × (List (Int × (List (List Int)))) × (List (Int × (List (List Int)))) × Int × (Int × (List (List Int))))
 | 0, _ => none
 | n + 1, (t0, t4, t5, t6, t7, t8, t9) =>
  if inb t7 t5 then
   if decide (t9 < (((gd t5 t7 (0, [])).2).length : Int)) then
    if inb t7 t5 then
     if inb t9 ((gd t5 t7 (0, [])).2) then
      (spec_l1Own (gd ((gd t5 t7 (0, [])).2) t9 [])).bind fun r4 =>
       if t8.2.length + [r4].length ≤ lim then
        spec_l1Cur_template_L9 n ((t0.1, (t0.2.1, t0.2.2)), t4, t5, t6, t7, (t8.1, t8.2 ++ [r4]), w64 (t9 + 1))
       else none
     else none
    else none
   else
    some ((t0.1, (t0.2.1, t0.2.2)), t4, t5, t6, t7, (t8.1, t8.2))
  else none
def spec_l1Cur_template_L5 : Nat → (((List Int) × Int × Int) × Int × (List (Int × (List (List Int)))) × (List (Int × (List (List Int)))) × Int) → Option (((List Int) × Int × Int) × Int × (List (Int × (List (List Int)))))
 | 0, _ => none
 | n + 1, (t0, t4, t5, t6, t7) =>
  if decide (t7 < (t5.length : Int)) then
   if inb t7 t5 then
    (spec_l1Cur_template_L9 fuel ((t0.1, (t0.2.1, t0.2.2)), t4, t5, t6, t7, ((gd t5 t7 (0, [])).1, []), 0)).bind fun s4 =>
     if s4.2.2.2.1.length + [(s4.2.2.2.2.2.1, s4.2.2.2.2.2.2)].length ≤ lim then
      spec_l1Cur_template_L5 n ((s4.1.1, (s4.1.2.1, s4.1.2.2)), s4.2.1, s4.2.2.1, s4.2.2.2.1 ++ [(s4.2.2.2.2.2.1, s4.2.2.2.2.2.2)], w64 (s4.2.2.2.2.1 + 1))
     else none
   else none
  else
   some ((t0.1, (t0.2.1, t0.2.2)), t4, t6)
def spec_l1Cur_template_L17 : Nat → (((List Int) × Int × Int) × Int × (List (Int × (List (List Int)))) × Int) → Option (((List Int) × Int × Int) × Int × (List (Int × (List (List Int)))))
 | 0, _ => none
 | n + 1, (t0, t10, t11, t12) =>
  if decide (t12 > 0) then
   (spec_l1Cur_among (t0.1, (t0.2.1, t0.2.2)) [1, 2, 2, 3]).bind fun r10 =>
    (spec_l1Cur_relation (r10.1.1, (r10.1.2.1, r10.1.2.2)) t10 r10.2).bind fun r11 =>
     if t11.length + [r11.2].length ≤ lim then
      spec_l1Cur_template_L17 n ((r11.1.1, (r11.1.2.1, r11.1.2.2)), t10, t11 ++ [r11.2], w64 (t12 - 1))
     else none
  else
   some ((t0.1, (t0.2.1, t0.2.2)), t10, t11)
def spec_l1Cur_template (t0 : (List Int) × Int × Int) : Option (((List Int) × Int × Int) × Int × (List (Int × (List (List Int))))) :=
 (spec_l1Cur_one (t0.1, (t0.2.1, t0.2.2)) 3).bind fun r1 =>
  if !r1.2 then
   (spec_l1Cur_pick (r1.1.1, (r1.1.2.1, r1.1.2.2)) 11).bind fun r2 =>
    (spec_l14Known r2.2).bind fun r3 =>
     (spec_l1Cur_template_L5 fuel ((r2.1.1, (r2.1.2.1, r2.1.2.2)), r3.1, r3.2, [], 0)).bind fun s4 =>
      some ((s4.1.1, (s4.1.2.1, s4.1.2.2)), s4.2.1, s4.2.2)
  else
   (spec_l1Cur_pick (r1.1.1, (r1.1.2.1, r1.1.2.2)) 24).bind fun r5 =>
    if (11 : Int) ≠ 0 then
     if (0 : Int) ≤ 0 ∧ 0 ≤ (w64 (7 + (w64 (Int.tdiv r5.2 11)))) ∧ (w64 (7 + (w64 (Int.tdiv r5.2 11)))) ≤ ([1, 2, 2, 2, 3, 3, 4, 0, 5].length : Int) then
      (spec_l1Cur_among (r5.1.1, (r5.1.2.1, r5.1.2.2)) (([1, 2, 2, 2, 3, 3, 4, 0, 5].take (Int.toNat (w64 (7 + (w64 (Int.tdiv r5.2 11)))))).drop (Int.toNat 0))).bind fun r6 =>
       (spec_l1Cur_pick (r6.1.1, (r6.1.2.1, r6.1.2.2)) 24).bind fun r7 =>
        if (23 : Int) ≠ 0 then
         if (0 : Int) ≤ 0 ∧ 0 ≤ (w64 (5 + (w64 (Int.tdiv r7.2 23)))) ∧ (w64 (5 + (w64 (Int.tdiv r7.2 23)))) ≤ ([0, 1, 1, 2, 4, 5].length : Int) then
          (spec_l1Cur_among (r7.1.1, (r7.1.2.1, r7.1.2.2)) (([0, 1, 1, 2, 4, 5].take (Int.toNat (w64 (5 + (w64 (Int.tdiv r7.2 23)))))).drop (Int.toNat 0))).bind fun r8 =>
           (spec_l1Cur_template_L17 fuel ((r8.1.1, (r8.1.2.1, r8.1.2.2)), r6.2, [], r8.2)).bind fun s9 =>
            some ((s9.1.1, (s9.1.2.1, s9.1.2.2)), s9.2.1, s9.2.2)
         else none
        else none
     else none
    else none
def spec_l1Cur_arity12 (c : (List Int) × Int × Int) : Option (((List Int) × Int × Int) × Int) :=
 (spec_l1Cur_pick (c.1, (c.2.1, c.2.2)) 24).bind fun r1 =>
  if (11 : Int) ≠ 0 then
   if (0 : Int) ≤ 0 ∧ 0 ≤ (w64 (6 + (w64 (Int.tdiv r1.2 11)))) ∧ (w64 (6 + (w64 (Int.tdiv r1.2 11)))) ≤ ([1, 1, 2, 2, 2, 3, 0, 4].length : Int) then
    (spec_l1Cur_among (r1.1.1, (r1.1.2.1, r1.1.2.2)) (([1, 1, 2, 2, 2, 3, 0, 4].take (Int.toNat (w64 (6 + (w64 (Int.tdiv r1.2 11)))))).drop (Int.toNat 0))).bind fun r2 =>
     some ((r2.1.1, (r2.1.2.1, r2.1.2.2)), r2.2)
   else none
  else none
def spec_DrawPolymorphismsOf (code : List Int) : Option (Int × (List (Int × (List (List Int)))) × Int) :=
 (spec_l1Cur_template (code, (0, 0))).bind fun r1 =>
  (spec_l1Cur_arity12 (r1.1.1, (r1.1.2.1, r1.1.2.2))).bind fun r2 =>
   some (r1.2.1, r1.2.2, r2.2)
def laws_rInts_L4 : Nat → ((List Int) × (List Int) × Int) → Option ((Unit) ⊕ (Bool))
 | 0, _ => none
 | n + 1, (a, b, i) =>
  if decide (i < (a.length : Int)) then
   if inb i a then
    if inb i b then
     if (gd a i 0) != (gd b i 0) then
      some (.inr false)
     else
      laws_rInts_L4 n (a, b, w64 (i + 1))
    else none
   else none
  else
   some (.inl ())
def laws_rInts (a : List Int) (b : List Int) : Option (Bool) :=
 if (a.length : Int) != (b.length : Int) then
  some false
 else
  (laws_rInts_L4 fuel (a, b, 0)).bind fun s1 =>
   match s1 with
   | .inl s2 =>
    some true
   | .inr s3 =>
    some s3
def impl_CountPolymorphisms_c1 (t0 : List Int) (t1 : Int) : Option (Int × Bool) :=
 some (w64 (t1 + 1), true)
def impl_polySearch_each_c1_impl_CountPolymorphisms_c1_L4 (rec : (Int × (List Int) × Int × (Bool × Int × Int × (List (List ((List Int) × (List ByteArray))))) × (List Int) × Unit) → Option ((List Int) × Int × (Bool × Int × Int × (List (List ((List Int) × (List ByteArray))))) × (List Int) × Bool)) : Nat → (Int × (List Int) × Int × (Bool × Int × Int × (List (List ((List Int) × (List ByteArray))))) × (List Int) × Unit × Int) → Option (((List Int) × Int × (Bool × Int × Int × (List (List ((List Int) × (List ByteArray))))) × (List Int) × Unit) ⊕ ((List Int) × Int × (Bool × Int × Int × (List (List ((List Int) × (List ByteArray))))) × (List Int) × Unit × Bool))
 | 0, _ => none
 | n + 1, (at_, t1, t2, t3, t4, t5, x) =>
  if t3.1 = true then
   if decide (x < t3.2.1) then
    if inb at_ t4 then
     if decide ((gd t4 at_ 0) ≥ 0) then
      if inb at_ t4 then
       if (gd t4 at_ 0) != x then
        impl_polySearch_each_c1_impl_CountPolymorphisms_c1_L4 rec n (at_, t1, t2, t3, t4, (), w64 (x + 1))
       else
        if inb at_ t1 then
         (impl_polySearch_fits_p t3 (stt t1 at_ x) at_).bind fun r2 =>
          if r2 then
           (rec (w64 (at_ + 1), stt t1 at_ x, t2, t3, t4, ())).bind fun r3 =>
            if !r3.2.2.2.2 then
             some (.inr (r3.1, r3.2.1, r3.2.2.1, r3.2.2.2.1, (), false))
            else
             impl_polySearch_each_c1_impl_CountPolymorphisms_c1_L4 rec n (at_, r3.1, r3.2.1, r3.2.2.1, r3.2.2.2.1, (), w64 (x + 1))
          else
           impl_polySearch_each_c1_impl_CountPolymorphisms_c1_L4 rec n (at_, stt t1 at_ x, t2, t3, t4, (), w64 (x + 1))
        else none
      else none
     else
      if inb at_ t1 then
       (impl_polySearch_fits_p t3 (stt t1 at_ x) at_).bind fun r4 =>
        if r4 then
         (rec (w64 (at_ + 1), stt t1 at_ x, t2, t3, t4, ())).bind fun r5 =>
          if !r5.2.2.2.2 then
           some (.inr (r5.1, r5.2.1, r5.2.2.1, r5.2.2.2.1, (), false))
          else
           impl_polySearch_each_c1_impl_CountPolymorphisms_c1_L4 rec n (at_, r5.1, r5.2.1, r5.2.2.1, r5.2.2.2.1, (), w64 (x + 1))
        else
         impl_polySearch_each_c1_impl_CountPolymorphisms_c1_L4 rec n (at_, stt t1 at_ x, t2, t3, t4, (), w64 (x + 1))
      else none
    else none
   else
    some (.inl (t1, t2, t3, t4, ()))
  else none
def impl_polySearch_each_c1_impl_CountPolymorphisms_c1_body (rec : (Int × (List Int) × Int × (Bool × Int × Int × (List (List ((List Int) × (List ByteArray))))) × (List Int) × Unit) → Option ((List Int) × Int × (Bool × Int × Int × (List (List ((List Int) × (List ByteArray))))) × (List Int) × Bool)) (at_ : Int) (t1 : List Int) (t2 : Int) (t3 : Bool × Int × Int × (List (List ((List Int) × (List ByteArray))))) (t4 : List Int) (t5 : Unit) : Option ((List Int) × Int × (Bool × Int × Int × (List (List ((List Int) × (List ByteArray))))) × (List Int) × Bool) :=
 if at_ == (t1.length : Int) then
  (impl_CountPolymorphisms_c1 t1 t2).bind fun r1 =>
   some (t1, r1.1, t3, t4, r1.2)
 else
  (impl_polySearch_each_c1_impl_CountPolymorphisms_c1_L4 rec fuel (at_, t1, t2, t3, t4, (), 0)).bind fun s2 =>
   match s2 with
   | .inl s3 =>
    some (s3.1, s3.2.1, s3.2.2.1, s3.2.2.2.1, true)
   | .inr s4 =>
    some (s4.1, s4.2.1, s4.2.2.1, s4.2.2.2.1, s4.2.2.2.2.2)
def impl_polySearch_each_c1_impl_CountPolymorphisms_c1 : Nat → (Int × (List Int) × Int × (Bool × Int × Int × (List (List ((List Int) × (List ByteArray))))) × (List Int) × Unit) → Option ((List Int) × Int × (Bool × Int × Int × (List (List ((List Int) × (List ByteArray))))) × (List Int) × Bool)
 | 0, _ => none
 | d + 1, x => impl_polySearch_each_c1_impl_CountPolymorphisms_c1_body (impl_polySearch_each_c1_impl_CountPolymorphisms_c1 d) x.1 x.2.1 x.2.2.1 x.2.2.2.1 x.2.2.2.2.1 x.2.2.2.2.2
def impl_polySearch_each_impl_CountPolymorphisms_c1 (s : Bool × Int × Int × (List (List ((List Int) × (List ByteArray))))) (given : List Int) (found : Int) : Option (Int) :=
 if 0 ≤ (given.length : Int) ∧ (given.length : Int) ≤ (given.length : Int) ∧ (given.length : Int) ≤ lim then
  (impl_polySearch_each_c1_impl_CountPolymorphisms_c1 fuel (0, List.replicate (Int.toNat (given.length : Int)) (0 : Int), found, s, given, ())).bind fun r1 =>
   some r1.2.1
 else none
def impl_CountPolymorphisms (n_ : Int) (rels : List (Int × (List (List Int)))) (k : Int) : Option (Int × Bool) :=
 (impl_canAsk n_ rels k).bind fun r1 =>
  if !r1 then
   some (0, false)
  else
   (impl_isPolyRange n_ k).bind fun r2 =>
    if !r2 then
     some (0, false)
    else
     (impl_newPolySearch n_ rels k).bind fun r3 =>
      (impl_power n_ k).bind fun r4 =>
       (impl_freeTable r4).bind fun r5 =>
        (impl_polySearch_each_impl_CountPolymorphisms_c1 r3 r5 0).bind fun r6 =>
         some (r6, true)
end T
set_option linter.unusedVariables false
open Go Go.Va
namespace T
def laws_rOp (a : Int × (List Int)) (b : Int × (List Int)) : Option (Bool) :=
 if a.1 == b.1 then
  (laws_rInts a.2 b.2).bind fun r1 =>
   some r1
 else
  some false
def laws_rOps_L4 : Nat → ((List (Int × (List Int))) × (List (Int × (List Int))) × Int) → Option ((Unit) ⊕ (Bool))
 | 0, _ => none
 | n + 1, (a, b, i) =>
  if decide (i < (a.length : Int)) then
   if inb i a then
    if inb i b then
     (laws_rOp (gd a i (0, [])) (gd b i (0, []))).bind fun r1 =>
      if !r1 then
       some (.inr false)
      else
       laws_rOps_L4 n (a, b, w64 (i + 1))
    else none
   else none
  else
   some (.inl ())
def laws_rOps (a : List (Int × (List Int))) (b : List (Int × (List Int))) : Option (Bool) :=
 if (a.length : Int) != (b.length : Int) then
  some false
 else
  (laws_rOps_L4 fuel (a, b, 0)).bind fun s1 =>
   match s1 with
   | .inl s2 =>
    some true
   | .inr s3 =>
    some s3
def spec_CountPolymorphisms (n_ : Int) (rels : List (Int × (List (List Int)))) (k : Int) : Option (Int × Bool) :=
 (spec_l14Small n_ rels k).bind fun r1 =>
  if !r1 then
   some (0, false)
  else
   (spec_l2Pow n_ k).bind fun r2 =>
    (spec_l14Free r2).bind fun r3 =>
     (spec_l14All n_ rels k r3 0).bind fun r4 =>
      some (r4.2.1, true)
def impl_IsPolymorphism (n_ : Int) (rels : List (Int × (List (List Int)))) (op : Int × (List Int)) : Option (Bool × Bool) :=
 (impl_canAsk n_ rels op.1).bind fun r1 =>
  if !r1 then
   some (false, false)
  else
   (impl_isOp (op.1, op.2) n_).bind fun r2 =>
    if !r2 then
     some (false, false)
    else
     if decide (op.1 > 0) then
      (impl_keepsAll n_ rels (op.1, op.2)).bind fun r3 =>
       some (r3, true)
     else
      some (false, true)
def impl_composeTables_L7 : Nat → (Int × (List (List Int)) × (Int × (List Int)) × (List Int) × Int × Int × Int × Int × (List (List Int)) × Int × Int) → Option (Int × (List (List Int)) × (Int × (List Int)) × (List Int) × Int × Int × Int × Int)
 | 0, _ => none
 | n + 1, (n_, tables, f, table, i, at_, t17, t18, t21, t22, t23) =>
  if decide (t23 < t22) then
   if inb t23 t21 then
    if inb i (gd t21 t23 []) then
     impl_composeTables_L7 n (n_, tables, (f.1, f.2), table, i, w64 ((w64 (at_ * n_)) + (gd (gd t21 t23 []) i 0)), t17, t18, t21, t22, w64 (t23 + 1))
    else none
   else none
  else
   some (n_, tables, (f.1, f.2), table, i, at_, t17, t18)
def impl_composeTables_L3 : Nat → (Int × (List (List Int)) × (Int × (List Int)) × (List Int) × Int × Int) → Option ((List Int))
 | 0, _ => none
 | n + 1, (n_, tables, f, table, t17, t18) =>
  if decide (t18 < t17) then
   (impl_composeTables_L7 fuel (n_, tables, (f.1, f.2), table, t18, 0, t17, t18, tables, (tables.length : Int), 0)).bind fun s1 =>
    if inb s1.2.2.2.2.2.1 s1.2.2.1.2 then
     if inb s1.2.2.2.2.1 s1.2.2.2.1 then
      impl_composeTables_L3 n (s1.1, s1.2.1, (s1.2.2.1.1, s1.2.2.1.2), stt s1.2.2.2.1 s1.2.2.2.2.1 (gd s1.2.2.1.2 s1.2.2.2.2.2.1 0), s1.2.2.2.2.2.2.1, w64 (s1.2.2.2.2.2.2.2 + 1))
     else none
    else none
  else
   some table
def impl_composeTables (n_ : Int) (f : Int × (List Int)) (tables : List (List Int)) (places : Int) : Option ((List Int)) :=
 if 0 ≤ places ∧ places ≤ places ∧ places ≤ lim then
  (impl_composeTables_L3 fuel (n_, tables, (f.1, f.2), List.replicate (Int.toNat places) (0 : Int), ((List.replicate (Int.toNat places) (0 : Int)).length : Int), 0)).bind fun s1 =>
   some s1
 else none
def impl_ComposeFunctions_L6 : Nat → (Int × (Int × (List Int)) × (Int × (List Int)) × Int × (List (List Int)) × (List (Int × (List Int))) × Int × Int) → Option ((Int × (Int × (List Int)) × (Int × (List Int)) × Int × (List (List Int))) ⊕ ((Int × (List Int)) × Bool))
 | 0, _ => none
 | n + 1, (t0, t4, t6, t8, t9, t39, t40, t41) =>
  if decide (t41 < t40) then
   if inb t41 t39 then
    if ((gd t39 t41 (0, [])).1) != t8 then
     some (.inr ((0, []), false))
    else
     if decide (t8 < 1) then
      some (.inr ((0, []), false))
     else
      (impl_isOp ((gd t39 t41 (0, [])).1, (gd t39 t41 (0, [])).2) t0).bind fun r3 =>
       if !r3 then
        some (.inr ((0, []), false))
       else
        if t9.length + [(gd t39 t41 (0, [])).2].length ≤ lim then
         impl_ComposeFunctions_L6 n (t0, (t4.1, t4.2), (t6.1, t6.2), t8, t9 ++ [(gd t39 t41 (0, [])).2], t39, t40, w64 (t41 + 1))
        else none
   else none
  else
   some (.inl (t0, (t4.1, t4.2), (t6.1, t6.2), t8, t9))
def impl_ComposeFunctions (t0 : Int) (t1 : Int × (List Int)) (t2 : List (Int × (List Int))) : Option ((Int × (List Int)) × Bool) :=
 (impl_isSize t0).bind fun r1 =>
  if !r1 then
   some ((0, []), false)
  else
   (impl_isOp (t1.1, t1.2) t0).bind fun r2 =>
    if !r2 then
     some ((0, []), false)
    else
     if decide (t1.1 < 1) then
      some ((0, []), false)
     else
      if (t2.length : Int) != t1.1 then
       some ((0, []), false)
      else
       if inb 0 t2 then
        (impl_ComposeFunctions_L6 fuel (t0, (t1.1, t1.2), (0, []), (gd t2 0 (0, [])).1, [], t2, (t2.length : Int), 0)).bind fun s3 =>
         match s3 with
         | .inl s4 =>
          (impl_power s4.1 s4.2.2.2.1).bind fun r6 =>
           (impl_composeTables s4.1 (s4.2.1.1, s4.2.1.2) s4.2.2.2.2 r6).bind fun r7 =>
            some ((s4.2.2.2.1, r7), true)
         | .inr s5 =>
          some ((s5.1.1, s5.1.2), s5.2)
       else none
def spec_l12Projection_L3 : Nat → (Int × Int × Int × (List Int) × Int) → Option ((List Int))
 | 0, _ => none
 | n + 1, (n_, k, place, out, at_) =>
  (spec_l2Pow n_ k).bind fun r1 =>
   if decide (at_ < r1) then
    (spec_l2Args n_ k at_).bind fun r2 =>
     if inb place r2 then
      if out.length + [gd r2 place 0].length ≤ lim then
       spec_l12Projection_L3 n (n_, k, place, out ++ [gd r2 place 0], w64 (at_ + 1))
      else none
     else none
   else
    some out
def spec_l12Projection (n_ : Int) (k : Int) (place : Int) : Option ((List Int)) :=
 (spec_l12Projection_L3 fuel (n_, k, place, [], 0)).bind fun s1 =>
  some s1
def spec_l1Cur_function12_L4 : Nat → (((List Int) × Int × Int) × Int × (Int × (List Int)) × (Int × (List Int)) × Int) → Option (((List Int) × Int × Int) × Int × (Int × (List Int)) × (Int × (List Int)))
 | 0, _ => none
 | n + 1, (t0, t1, t4, t5, t6) =>
  if decide (t6 > 0) then
   (spec_l1Cur_pick (t0.1, (t0.2.1, t0.2.2)) t1).bind fun r5 =>
    if t5.2.length + [r5.2].length ≤ lim then
     spec_l1Cur_function12_L4 n ((r5.1.1, (r5.1.2.1, r5.1.2.2)), t1, (t4.1, t4.2), (t5.1, t5.2 ++ [r5.2]), w64 (t6 - 1))
    else none
  else
   some ((t0.1, (t0.2.1, t0.2.2)), t1, (t4.1, t4.2), (t5.1, t5.2))
def spec_l1Cur_function12 (t0 : (List Int) × Int × Int) (t1 : Int) : Option (((List Int) × Int × Int) × (Int × (List Int))) :=
 (spec_l1Most t1 1).bind fun r1 =>
  (spec_l1Least r1 4).bind fun r2 =>
   (spec_l1Cur_among (t0.1, (t0.2.1, t0.2.2)) [1, 1, 2, 2, 2, 3, 0]).bind fun r3 =>
    (spec_l2Pow r2 r3.2).bind fun r4 =>
     (spec_l1Cur_function12_L4 fuel ((r3.1.1, (r3.1.2.1, r3.1.2.2)), r2, (0, []), (r3.2, []), r4)).bind fun s5 =>
      (spec_l1Cur_pick (s5.1.1, (s5.1.2.1, s5.1.2.2)) 12).bind fun r6 =>
       if r6.2 == 0 then
        if decide (s5.2.2.2.1 > 0) then
         (spec_l1Cur_pick (r6.1.1, (r6.1.2.1, r6.1.2.2)) s5.2.2.2.1).bind fun r7 =>
          (spec_l12Projection s5.2.1 s5.2.2.2.1 r7.2).bind fun r8 =>
           some ((r7.1.1, (r7.1.2.1, r7.1.2.2)), (s5.2.2.2.1, r8))
        else
         some ((r6.1.1, (r6.1.2.1, r6.1.2.2)), (s5.2.2.2.1, s5.2.2.2.2))
       else
        if r6.2 == 1 then
         (spec_l1Cur_pick (r6.1.1, (r6.1.2.1, r6.1.2.2)) (s5.2.2.2.2.length : Int)).bind fun r9 =>
          (spec_l1Cur_among (r9.1.1, (r9.1.2.1, r9.1.2.2)) [(-1), s5.2.1, 0]).bind fun r10 =>
           if inb r9.2 s5.2.2.2.2 then
            some ((r10.1.1, (r10.1.2.1, r10.1.2.2)), (s5.2.2.2.1, stt s5.2.2.2.2 r9.2 r10.2))
           else none
        else
         if r6.2 == 2 then
          if s5.2.2.2.2.length + [0].length ≤ lim then
           some ((r6.1.1, (r6.1.2.1, r6.1.2.2)), (s5.2.2.2.1, s5.2.2.2.2 ++ [0]))
          else none
         else
          some ((r6.1.1, (r6.1.2.1, r6.1.2.2)), (s5.2.2.2.1, s5.2.2.2.2))
def spec_DrawIsPolymorphism (code : List Int) : Option (Int × (List (Int × (List (List Int)))) × (Int × (List Int))) :=
 (spec_l1Cur_template (code, (0, 0))).bind fun r1 =>
  (spec_l1Cur_arity12 (r1.1.1, (r1.1.2.1, r1.1.2.2))).bind fun r2 =>
   (spec_l14Small r1.2.1 r1.2.2 r2.2).bind fun r3 =>
    if r3 then
     (spec_l1Cur_one (r2.1.1, (r2.1.2.1, r2.1.2.2)) 2).bind fun r4 =>
      if r4.2 then
       (spec_l2Pow r1.2.1 r2.2).bind fun r5 =>
        (spec_l14Free r5).bind fun r6 =>
         (spec_l14All r1.2.1 r1.2.2 r2.2 r6 20).bind fun r7 =>
          if decide ((r7.1.length : Int) > 0) then
           (spec_l1Cur_pick (r4.1.1, (r4.1.2.1, r4.1.2.2)) (r7.1.length : Int)).bind fun r8 =>
            if inb r8.2 r7.1 then
             (spec_l1Own (gd r7.1 r8.2 [])).bind fun r9 =>
              some (r1.2.1, r1.2.2, (r2.2, r9))
            else none
          else
           (spec_l1Cur_function12 (r4.1.1, (r4.1.2.1, r4.1.2.2)) r1.2.1).bind fun r10 =>
            some (r1.2.1, r1.2.2, (r10.2.1, r10.2.2))
      else
       (spec_l1Cur_function12 (r4.1.1, (r4.1.2.1, r4.1.2.2)) r1.2.1).bind fun r11 =>
        some (r1.2.1, r1.2.2, (r11.2.1, r11.2.2))
    else
     (spec_l1Cur_function12 (r2.1.1, (r2.1.2.1, r2.1.2.2)) r1.2.1).bind fun r12 =>
      some (r1.2.1, r1.2.2, (r12.2.1, r12.2.2))
def spec_IsPolymorphism_L6 : Nat → (Int × (List (Int × (List (List Int)))) × (Int × (List Int)) × Int) → Option ((Unit) ⊕ (Bool × Bool))
 | 0, _ => none
 | n + 1, (n_, rels, op, i) =>
  if decide (i < (rels.length : Int)) then
   if inb i rels then
    (spec_l13Keeps n_ (op.1, op.2) (gd rels i (0, []))).bind fun r5 =>
     if !r5 then
      some (.inr (false, true))
     else
      spec_IsPolymorphism_L6 n (n_, rels, (op.1, op.2), w64 (i + 1))
   else none
  else
   some (.inl ())
def spec_IsPolymorphism (n_ : Int) (rels : List (Int × (List (List Int)))) (op : Int × (List Int)) : Option (Bool × Bool) :=
 (spec_l14Size n_).bind fun r1 =>
  if !r1 then
   some (false, false)
  else
   (spec_l14Rels n_ rels).bind fun r2 =>
    if !r2 then
     some (false, false)
    else
     (spec_l2Op n_ (op.1, op.2)).bind fun r3 =>
      if !r3 then
       some (false, false)
      else
       if decide (op.1 > 0) then
        (spec_l14Takes n_ rels op.1).bind fun r4 =>
         if !r4 then
          some (false, false)
         else
          if op.1 == 0 then
           some (false, true)
          else
           (spec_IsPolymorphism_L6 fuel (n_, rels, (op.1, op.2), 0)).bind fun s5 =>
            match s5 with
            | .inl s6 =>
             some (true, true)
            | .inr s7 =>
             some (s7.1, s7.2)
       else
        if op.1 == 0 then
         some (false, true)
        else
         (spec_IsPolymorphism_L6 fuel (n_, rels, (op.1, op.2), 0)).bind fun s8 =>
          match s8 with
          | .inl s9 =>
           some (true, true)
          | .inr s10 =>
           some (s10.1, s10.2)
def laws_FnPolymorphisms_L22 : Nat → ((List Int) × Int × (List (Int × (List (List Int)))) × Int × (List (Int × (List Int))) × Int × (Int × (List Int)) × (List (Int × (List Int))) × Int) → Option ((List Int) × Int × (List (Int × (List (List Int)))) × Int × (List (Int × (List Int))) × Int × (Int × (List Int)) × (List (Int × (List Int))))
 | 0, _ => none
 | n + 1, (t0, t3, t4, t5, t6, t14, t15, t18, t19) =>
  if decide (t19 < t5) then
   if (t6.length : Int) ≠ 0 then
    if inb (Int.tmod (w64 ((w64 (t14 * 5)) + (w64 (t19 * 3)))) (t6.length : Int)) t6 then
     if t18.length + [gd t6 (Int.tmod (w64 ((w64 (t14 * 5)) + (w64 (t19 * 3)))) (t6.length : Int)) (0, [])].length ≤ lim then
      laws_FnPolymorphisms_L22 n (t0, t3, t4, t5, t6, t14, (t15.1, t15.2), t18 ++ [gd t6 (Int.tmod (w64 ((w64 (t14 * 5)) + (w64 (t19 * 3)))) (t6.length : Int)) (0, [])], w64 (t19 + 1))
     else none
    else none
   else none
  else
   some (t0, t3, t4, t5, t6, t14, (t15.1, t15.2), t18)
def laws_FnPolymorphisms_L14 : Nat → ((List Int) × Int × (List (Int × (List (List Int)))) × Int × (List (Int × (List Int))) × Int) → Option (((List Int) × Int × (List (Int × (List (List Int)))) × Int × (List (Int × (List Int)))) ⊕ (Bool))
 | 0, _ => none
 | n + 1, (t0, t3, t4, t5, t6, t14) =>
  if decide (t14 < (t6.length : Int)) then
   if decide (t14 < 8) then
    if (t6.length : Int) ≠ 0 then
     if inb (Int.tmod (w64 (t14 * 13)) (t6.length : Int)) t6 then
      (impl_IsPolymorphism t3 t4 ((gd t6 (Int.tmod (w64 (t14 * 13)) (t6.length : Int)) (0, [])).1, (gd t6 (Int.tmod (w64 (t14 * 13)) (t6.length : Int)) (0, [])).2)).bind fun r8 =>
       if !r8.2 then
        some (.inr false)
       else
        if !r8.1 then
         some (.inr false)
        else
         (laws_FnPolymorphisms_L22 fuel (t0, t3, t4, t5, t6, t14, ((gd t6 (Int.tmod (w64 (t14 * 13)) (t6.length : Int)) (0, [])).1, (gd t6 (Int.tmod (w64 (t14 * 13)) (t6.length : Int)) (0, [])).2), [], 0)).bind fun s9 =>
          (impl_ComposeFunctions s9.2.1 (s9.2.2.2.2.2.2.1.1, s9.2.2.2.2.2.2.1.2) s9.2.2.2.2.2.2.2).bind fun r10 =>
           (impl_IsPolymorphism s9.2.1 s9.2.2.1 (r10.1.1, r10.1.2)).bind fun r11 =>
            if !r10.2 then
             some (.inr false)
            else
             if !r11.2 then
              some (.inr false)
             else
              if !r11.1 then
               some (.inr false)
              else
               laws_FnPolymorphisms_L14 n (s9.1, s9.2.1, s9.2.2.1, s9.2.2.2.1, s9.2.2.2.2.1, w64 (s9.2.2.2.2.2.1 + 1))
     else none
    else none
   else
    some (.inl (t0, t3, t4, t5, t6))
  else
   some (.inl (t0, t3, t4, t5, t6))
def laws_FnPolymorphisms_L30 : Nat → ((List Int) × Int × (List (Int × (List (List Int)))) × Int × (List (Int × (List Int))) × (List Int)) → Option ((List Int) × Int × (List (Int × (List (List Int)))) × Int × (List (Int × (List Int))) × (List Int))
 | 0, _ => none
 | n + 1, (t0, t3, t4, t5, t6, t24) =>
  if inb 0 t6 then
   if decide ((t24.length : Int) < (((gd t6 0 (0, [])).2).length : Int)) then
    if t24.length + [(-1)].length ≤ lim then
     laws_FnPolymorphisms_L30 n (t0, t3, t4, t5, t6, t24 ++ [(-1)])
    else none
   else
    some (t0, t3, t4, t5, t6, t24)
  else none
def laws_FnPolymorphisms (t0 : List Int) : Option (Bool) :=
 (laws_rBig t0).bind fun r1 =>
  if r1 then
   some true
  else
   (spec_DrawPolymorphismsOf t0).bind fun r2 =>
    (impl_PolymorphismsOf r2.1 r2.2.1 r2.2.2).bind fun r3 =>
     (spec_PolymorphismsOf r2.1 r2.2.1 r2.2.2).bind fun r4 =>
      if r3.2 != r4.2 then
       some false
      else
       (laws_rOps r3.1 r4.1).bind fun r5 =>
        if !r5 then
         some false
        else
         (impl_CountPolymorphisms r2.1 r2.2.1 r2.2.2).bind fun r6 =>
          (spec_CountPolymorphisms r2.1 r2.2.1 r2.2.2).bind fun r7 =>
           if r6.1 != r7.1 then
            some false
           else
            if r6.2 != r7.2 then
             some false
            else
             if r3.2 then
              if r6.1 != (r3.1.length : Int) then
               some false
              else
               if r3.2 then
                (laws_FnPolymorphisms_L14 fuel (t0, r2.1, r2.2.1, r2.2.2, r3.1, 0)).bind fun s8 =>
                 match s8 with
                 | .inl s9 =>
                  (laws_FnPolymorphisms_L30 fuel (s9.1, s9.2.1, s9.2.2.1, s9.2.2.2.1, s9.2.2.2.2, [])).bind fun s11 =>
                   (impl_ExtendPolymorphism s11.2.1 s11.2.2.1 s11.2.2.2.1 s11.2.2.2.2.2).bind fun r12 =>
                    if !r12.2 then
                     some false
                    else
                     if inb 0 s11.2.2.2.2.1 then
                      (laws_rOp (r12.1.1, r12.1.2) (gd s11.2.2.2.2.1 0 (0, []))).bind fun r13 =>
                       if !r13 then
                        some false
                       else
                        (spec_DrawIsPolymorphism s11.1).bind fun r14 =>
                         (impl_IsPolymorphism r14.1 r14.2.1 (r14.2.2.1, r14.2.2.2)).bind fun r15 =>
                          (spec_IsPolymorphism r14.1 r14.2.1 (r14.2.2.1, r14.2.2.2)).bind fun r16 =>
                           if r15.1 != r16.1 then
                            some false
                           else
                            if r15.2 != r16.2 then
                             some false
                            else
                             if r15.2 then
                              if decide (r14.2.2.1 > 0) then
                               (impl_ExtendPolymorphism r14.1 r14.2.1 r14.2.2.1 r14.2.2.2).bind fun r17 =>
                                if r15.1 then
                                 if r17.2 != (decide ((r14.2.2.2.length : Int) ≤ 9)) then
                                  some false
                                 else
                                  if r17.2 then
                                   (laws_rOp (r17.1.1, r17.1.2) (r14.2.2.1, r14.2.2.2)).bind fun r18 =>
                                    if !r18 then
                                     some false
                                    else
                                     some true
                                  else
                                   some true
                                else
                                 if r17.2 != false then
                                  some false
                                 else
                                  if r17.2 then
                                   (laws_rOp (r17.1.1, r17.1.2) (r14.2.2.1, r14.2.2.2)).bind fun r19 =>
                                    if !r19 then
                                     some false
                                    else
                                     some true
                                  else
                                   some true
                              else
                               some true
                             else
                              some true
                     else none
                 | .inr s10 =>
                  some s10
               else
                (spec_DrawIsPolymorphism t0).bind fun r20 =>
                 (impl_IsPolymorphism r20.1 r20.2.1 (r20.2.2.1, r20.2.2.2)).bind fun r21 =>
                  (spec_IsPolymorphism r20.1 r20.2.1 (r20.2.2.1, r20.2.2.2)).bind fun r22 =>
                   if r21.1 != r22.1 then
                    some false
                   else
                    if r21.2 != r22.2 then
                     some false
                    else
                     if r21.2 then
                      if decide (r20.2.2.1 > 0) then
                       (impl_ExtendPolymorphism r20.1 r20.2.1 r20.2.2.1 r20.2.2.2).bind fun r23 =>
                        if r21.1 then
                         if r23.2 != (decide ((r20.2.2.2.length : Int) ≤ 9)) then
                          some false
                         else
                          if r23.2 then
                           (laws_rOp (r23.1.1, r23.1.2) (r20.2.2.1, r20.2.2.2)).bind fun r24 =>
                            if !r24 then
                             some false
                            else
                             some true
                          else
                           some true
                        else
                         if r23.2 != false then
                          some false
                         else
                          if r23.2 then
                           (laws_rOp (r23.1.1, r23.1.2) (r20.2.2.1, r20.2.2.2)).bind fun r25 =>
                            if !r25 then
                             some false
                            else
                             some true
                          else
                           some true
                      else
                       some true
                     else
                      some true
             else
              if r3.2 then
               (laws_FnPolymorphisms_L14 fuel (t0, r2.1, r2.2.1, r2.2.2, r3.1, 0)).bind fun s26 =>
                match s26 with
                | .inl s27 =>
                 (laws_FnPolymorphisms_L30 fuel (s27.1, s27.2.1, s27.2.2.1, s27.2.2.2.1, s27.2.2.2.2, [])).bind fun s29 =>
                  (impl_ExtendPolymorphism s29.2.1 s29.2.2.1 s29.2.2.2.1 s29.2.2.2.2.2).bind fun r30 =>
                   if !r30.2 then
                    some false
                   else
                    if inb 0 s29.2.2.2.2.1 then
                     (laws_rOp (r30.1.1, r30.1.2) (gd s29.2.2.2.2.1 0 (0, []))).bind fun r31 =>
                      if !r31 then
                       some false
                      else
                       (spec_DrawIsPolymorphism s29.1).bind fun r32 =>
                        (impl_IsPolymorphism r32.1 r32.2.1 (r32.2.2.1, r32.2.2.2)).bind fun r33 =>
                         (spec_IsPolymorphism r32.1 r32.2.1 (r32.2.2.1, r32.2.2.2)).bind fun r34 =>
                          if r33.1 != r34.1 then
                           some false
                          else
                           if r33.2 != r34.2 then
                            some false
                           else
                            if r33.2 then
                             if decide (r32.2.2.1 > 0) then
                              (impl_ExtendPolymorphism r32.1 r32.2.1 r32.2.2.1 r32.2.2.2).bind fun r35 =>
                               if r33.1 then
                                if r35.2 != (decide ((r32.2.2.2.length : Int) ≤ 9)) then
                                 some false
                                else
                                 if r35.2 then
                                  (laws_rOp (r35.1.1, r35.1.2) (r32.2.2.1, r32.2.2.2)).bind fun r36 =>
                                   if !r36 then
                                    some false
                                   else
                                    some true
                                 else
                                  some true
                               else
                                if r35.2 != false then
                                 some false
                                else
                                 if r35.2 then
                                  (laws_rOp (r35.1.1, r35.1.2) (r32.2.2.1, r32.2.2.2)).bind fun r37 =>
                                   if !r37 then
                                    some false
                                   else
                                    some true
                                 else
                                  some true
                             else
                              some true
                            else
                             some true
                    else none
                | .inr s28 =>
                 some s28
              else
               (spec_DrawIsPolymorphism t0).bind fun r38 =>
                (impl_IsPolymorphism r38.1 r38.2.1 (r38.2.2.1, r38.2.2.2)).bind fun r39 =>
                 (spec_IsPolymorphism r38.1 r38.2.1 (r38.2.2.1, r38.2.2.2)).bind fun r40 =>
                  if r39.1 != r40.1 then
                   some false
                  else
                   if r39.2 != r40.2 then
                    some false
                   else
                    if r39.2 then
                     if decide (r38.2.2.1 > 0) then
                      (impl_ExtendPolymorphism r38.1 r38.2.1 r38.2.2.1 r38.2.2.2).bind fun r41 =>
                       if r39.1 then
                        if r41.2 != (decide ((r38.2.2.2.length : Int) ≤ 9)) then
                         some false
                        else
                         if r41.2 then
                          (laws_rOp (r41.1.1, r41.1.2) (r38.2.2.1, r38.2.2.2)).bind fun r42 =>
                           if !r42 then
                            some false
                           else
                            some true
                         else
                          some true
                       else
                        if r41.2 != false then
                         some false
                        else
                         if r41.2 then
                          (laws_rOp (r41.1.1, r41.1.2) (r38.2.2.1, r38.2.2.2)).bind fun r43 =>
                           if !r43 then
                            some false
                           else
                            some true
                         else
                          some true
                     else
                      some true
                    else
                     some true
end T
open Go Go.Va
namespace T
def rowsB (R W : Nat) (l : List (List Int)) : Prop := l.length ≤ R ∧ ∀ r ∈ l, r.length ≤ W
theorem rowsB.mono {R W R' W' : Nat} {l : List (List Int)} (h : rowsB R W l) (h1 : R ≤ R') (h2 : W ≤ W') : rowsB R' W' l := ⟨by have := h.1; omega, fun r hr => by have := h.2 r hr; omega⟩
theorem rowsB.app {R W : Nat} {l : List (List Int)} {t : List Int} (h : rowsB R W l) (ht : t.length ≤ W) : rowsB (R + 1) W (l ++ [t]) := ⟨by rw [List.length_append, List.length_singleton]; have := h.1; omega, fun r hr => by
 rcases List.mem_append.1 hr with hr | hr
 ·exact h.2 r hr
 ·rw [List.mem_singleton.1 hr]; exact ht⟩
theorem put_b : spec_l8Put_b = spec_l8Put := rfl
theorem part_L3 {N : Nat} (hN : N ≤ 8) : ∀ (d f k x : Nat) (c : CurT) (o : List Int), x + d = N → d < f → Cur k c → k + 2 * d ≤ 1000000 → o.length = x →
    ∃ c' o', spec_l1Cur_partition13_L3 f (c, (N : Int), o, (x : Int)) = some (c', o') ∧ Cur (k + 2 * d) c' ∧ o'.length = N := by
  intro d
  induction d with
  | zero =>
    intro f k x c o hx hf hc hk ho
    obtain ⟨f, rfl⟩ : ∃ z, f = z + 1 := ⟨f - 1, by omega⟩
    refine ⟨c, o, ?_, hc, by omega⟩
    simp only [spec_l1Cur_partition13_L3]
    rw [if_neg (by simp; omega)]
  | succ d ih =>
    intro f k x c o hx hf hc hk ho
    obtain ⟨f, rfl⟩ : ∃ z, f = z + 1 := ⟨f - 1, by omega⟩
    obtain ⟨c1, x1, e1, g1, a1, b1, _⟩ := pick_ok hc (by omega) ((x + 1 : Nat) : Int) (by omega)
    have b1 := b1 (by omega)
    have e1 : spec_l1Cur_pick (c.1, (c.2.1, c.2.2)) ((x + 1 : Nat) : Int) = _ := e1
    have ew := w64_succ (show x < 4611686018427387904 by omega)
    simp only [spec_l1Cur_partition13_L3, ew, e1, Option.bind_some]
    rw [if_pos (by simp; omega)]
    by_cases h : x1 < (x : Int)
    · obtain ⟨c', o', e2, g2, l2⟩ := ih f (k + 2) (x + 1) c1 (o ++ [gd o x1 0]) (by omega) (by omega) g1 (by omega) (by simp; omega)
      refine ⟨c', o', ?_, g2.mono (by omega), l2⟩
      rw [if_pos (by simpa using h), if_pos (by unfold inb; omega), if_pos (by simp; unfold lim; omega)]
      exact e2
    · obtain ⟨c', o', e2, g2, l2⟩ := ih f (k + 2) (x + 1) c1 (o ++ [x1]) (by omega) (by omega) g1 (by omega) (by simp; omega)
      refine ⟨c', o', ?_, g2.mono (by omega), l2⟩
      rw [if_neg (by simpa using h), if_pos (by simp; unfold lim; omega)]
      exact e2
theorem partition_ok {N k : Nat} {c : CurT} (hN : N ≤ 8) (hc : Cur k c) (hk : k ≤ 500000) : ∃ c' o, spec_l1Cur_partition13 c (N : Int) = some (c', o) ∧ Cur (k + 16) c' ∧ o.length = N := by
 obtain ⟨c', o, e, g, l⟩ := part_L3 hN N fuel k 0 c [] (by omega) (by unfold fuel; omega) hc (by omega) rfl
 refine ⟨c', o, ?_, g.mono (by omega), l⟩
 unfold spec_l1Cur_partition13
 have e : spec_l1Cur_partition13_L3 fuel ((c.1, (c.2.1, c.2.2)), (N : Int), [], 0) = _ := e
 rw [e]; rfl
theorem ofPart_ok {p : List Int} (hp : p.length ≤ 8) : ∃ out, spec_l13OfPartition p = some (2, out) ∧ rowsB 64 2 out := by
  have in6 : ∀ (x : Nat), x < p.length → ∀ (d f y : Nat) (o : List (List Int)), y + d = p.length → d < f → rowsB (8 * x + y) 2 o →
      ∃ o', spec_l13OfPartition_L6 f (p, (0, []), (2, o), (x : Int), (y : Int)) = some (p, (0, []), (2, o'), (x : Int)) ∧ rowsB (8 * x + p.length) 2 o' := by
    intro x hx d
    induction d with
    | zero =>
      intro f y o hy hf ho
      obtain ⟨f, rfl⟩ : ∃ z, f = z + 1 := ⟨f - 1, by omega⟩
      refine ⟨o, ?_, ho.mono (by omega) (by omega)⟩
      simp only [spec_l13OfPartition_L6]
      rw [if_neg (by simp; omega)]
    | succ d ih =>
      intro f y o hy hf ho
      obtain ⟨f, rfl⟩ : ∃ z, f = z + 1 := ⟨f - 1, by omega⟩
      have hyl : y < p.length := by omega
      have hol := ho.1
      simp only [spec_l13OfPartition_L6, inb_nat, hx, hyl, if_true, w64_succ (show y < 4611686018427387904 by omega)]
      rw [if_pos (by simp; omega)]
      by_cases h : (gd p (x : Int) 0 == gd p (y : Int) 0) = true
      · obtain ⟨o', e, g⟩ := ih f (y + 1) (o ++ [[(x : Int), (y : Int)]]) (by omega) (by omega) (by rw [← Nat.add_assoc]; exact ho.app (by simp))
        refine ⟨o', ?_, g⟩
        rw [if_pos h, if_pos (by simp; unfold lim; omega)]
        exact e
      · obtain ⟨o', e, g⟩ := ih f (y + 1) o (by omega) (by omega) (ho.mono (by omega) (by omega))
        refine ⟨o', ?_, g⟩
        rw [if_neg h]
        exact e
  have in3 : ∀ (d f x : Nat) (o : List (List Int)), x + d = p.length → d < f → rowsB (8 * x) 2 o →
      ∃ o', spec_l13OfPartition_L3 f (p, (0, []), (2, o), (x : Int)) = some ((0, []), (2, o')) ∧ rowsB 64 2 o' := by
    intro d
    induction d with
    | zero =>
      intro f x o hx hf ho
      obtain ⟨f, rfl⟩ : ∃ z, f = z + 1 := ⟨f - 1, by omega⟩
      refine ⟨o, ?_, ho.mono (by omega) (by omega)⟩
      simp only [spec_l13OfPartition_L3]
      rw [if_neg (by simp; omega)]
    | succ d ih =>
      intro f x o hx hf ho
      obtain ⟨f, rfl⟩ : ∃ z, f = z + 1 := ⟨f - 1, by omega⟩
      obtain ⟨o1, e1, g1⟩ := in6 x (by omega) p.length fuel 0 o (by omega) (by unfold fuel; omega) ho
      have e1 : spec_l13OfPartition_L6 fuel (p, (0, []), (2, o), (x : Int), 0) = _ := e1
      obtain ⟨o', e2, g2⟩ := ih f (x + 1) o1 (by omega) (by omega) (g1.mono (by omega) (by omega))
      refine ⟨o', ?_, g2⟩
      simp only [spec_l13OfPartition_L3, e1, Option.bind_some, w64_succ (show x < 4611686018427387904 by omega)]
      rw [if_pos (by simp; omega)]
      exact e2
  obtain ⟨o, e, g⟩ := in3 p.length fuel 0 [] (by omega) (by unfold fuel; omega) ⟨by simp, by simp⟩
  refine ⟨o, ?_, g⟩
  unfold spec_l13OfPartition
  have e : spec_l13OfPartition_L3 fuel (p, (0, []), (2, []), 0) = _ := e
  rw [e]; rfl
theorem full13_ok {N A : Nat} (hN : 1 ≤ N ∧ N ≤ 8) (hA : 1 ≤ A ∧ A ≤ 3) : ∃ out, spec_l13Full (N : Int) (A : Int) = some ((A : Int), out) ∧ rowsB 512 3 out := by
  have hp : N ^ A ≤ 512 := by
    have : N ^ A ≤ 8 ^ 3 := Nat.le_trans (Nat.pow_le_pow_left hN.2 A) (Nat.pow_le_pow_right (by omega) hA.2)
    omega
  have e1 := spec_l2Pow_ok (n := (N : Int)) (by omega) (by omega) (k := A) (by omega)
  have e0 : (N : Int) ^ A = ((N ^ A : Nat) : Int) := by rw [Int.natCast_pow]
  rw [e0] at e1
  have key : ∀ (d f x : Nat) (o : List (List Int)), x + d = N ^ A → d < f → rowsB x 3 o →
      ∃ o', spec_l13Full_L3 f ((N : Int), (A : Int), (0, []), ((A : Int), o), (x : Int)) = some ((0, []), ((A : Int), o')) ∧ rowsB (N ^ A) 3 o' := by
    intro d
    induction d with
    | zero =>
      intro f x o hx hf ho
      obtain ⟨f, rfl⟩ : ∃ z, f = z + 1 := ⟨f - 1, by omega⟩
      refine ⟨o, ?_, ho.mono (by omega) (by omega)⟩
      simp only [spec_l13Full_L3, e1, Option.bind_some]
      rw [if_neg (by simp only [decide_eq_true_eq]; omega)]
    | succ d ih =>
      intro f x o hx hf ho
      obtain ⟨f, rfl⟩ : ∃ z, f = z + 1 := ⟨f - 1, by omega⟩
      have hol := ho.1
      have e2 := spec_l2Args_ok (b := N) (k := A) (i := x) (by omega) (by omega) (by omega)
      have hl2 : (cI (dg N A x)).length = A := by rw [cI_len, dg_len]
      obtain ⟨o', e3, g3⟩ := ih f (x + 1) (o ++ [cI (dg N A x)]) (by omega) (by omega) (ho.app (by omega))
      refine ⟨o', ?_, g3⟩
      simp only [spec_l13Full_L3, e1, e2, Option.bind_some, w64_succ (show x < 4611686018427387904 by omega)]
      rw [if_pos (by simp only [decide_eq_true_eq]; omega), if_pos (by simp; unfold lim; omega)]
      exact e3
  obtain ⟨o, e, g⟩ := key (N ^ A) fuel 0 [] (by omega) (by unfold fuel; omega) ⟨by simp, by simp⟩
  refine ⟨o, ?_, g.mono hp (by omega)⟩
  unfold spec_l13Full
  have e : spec_l13Full_L3 fuel ((N : Int), (A : Int), (0, []), ((A : Int), []), 0) = _ := e
  rw [e]; rfl
theorem rel_L9 {N : Int} (hN : N ≤ 100) {A : Nat} (hA : A ≤ 3) (t6 t7 : Int × List (List Int)) (t8 : Int) : ∀ (d f k x : Nat) (c : CurT) (o : List Int), x + d = A → d < f → Cur k c → k + 2 * d ≤ 1000000 → o.length = x →
    ∃ c' o', spec_l1Cur_relation_L9 f (c, N, (A : Int), t6, t7, t8, o, (x : Int)) = some (c', N, (A : Int), t6, t7, t8, o') ∧ Cur (k + 2 * d) c' ∧ o'.length = A := by
  intro d
  induction d with
  | zero =>
    intro f k x c o hx hf hc hk ho
    obtain ⟨f, rfl⟩ : ∃ z, f = z + 1 := ⟨f - 1, by omega⟩
    refine ⟨c, o, ?_, hc, by omega⟩
    simp only [spec_l1Cur_relation_L9]
    rw [if_neg (by simp; omega)]
  | succ d ih =>
    intro f k x c o hx hf hc hk ho
    obtain ⟨f, rfl⟩ : ∃ z, f = z + 1 := ⟨f - 1, by omega⟩
    obtain ⟨c1, x1, e1, g1, _⟩ := pick_ok hc (by omega) N (by omega)
    have e1 : spec_l1Cur_pick (c.1, (c.2.1, c.2.2)) N = _ := e1
    obtain ⟨c', o', e2, g2, l2⟩ := ih f (k + 2) (x + 1) c1 (o ++ [x1]) (by omega) (by omega) g1 (by omega) (by simp; omega)
    refine ⟨c', o', ?_, g2.mono (by omega), l2⟩
    simp only [spec_l1Cur_relation_L9, e1, Option.bind_some, w64_succ (show x < 4611686018427387904 by omega)]
    rw [if_pos (by simp; omega), if_pos (by simp; unfold lim; omega)]
    exact e2
theorem rel_L5 {N : Int} (hN : N ≤ 100) {A : Nat} (hA : A ≤ 3) (t6 : Int × List (List Int)) : ∀ (d f k : Nat) (c : CurT) (o : List (List Int)), d < f → Cur k c → k + 10 * d ≤ 500000 → o.length + d ≤ 1000 → incB o = true → (∀ u ∈ o, u.length = A) →
    ∃ c' o', spec_l1Cur_relation_L5 f (c, N, (A : Int), t6, ((A : Int), o), (d : Int)) = some (c', N, (A : Int), t6, ((A : Int), o')) ∧ Cur (k + 10 * d) c' ∧ rowsB (o.length + d) A o' := by
  intro d
  induction d with
  | zero =>
    intro f k c o hf hc hk ho hi hl
    obtain ⟨f, rfl⟩ : ∃ z, f = z + 1 := ⟨f - 1, by omega⟩
    refine ⟨c, o, ?_, hc, ⟨by omega, fun u hu => by rw [hl u hu]; exact Nat.le_refl _⟩⟩
    simp only [spec_l1Cur_relation_L5]
    rw [if_neg (by simp)]
  | succ d ih =>
    intro f k c o hf hc hk ho hi hl
    obtain ⟨f, rfl⟩ : ∃ z, f = z + 1 := ⟨f - 1, by omega⟩
    obtain ⟨c1, t, e1, g1, l1⟩ := rel_L9 hN hA t6 ((A : Int), o) ((d + 1 : Nat) : Int) A fuel k 0 c [] (by omega) (by unfold fuel; omega) hc (by omega) rfl
    have e1 : spec_l1Cur_relation_L9 fuel ((c.1, (c.2.1, c.2.2)), N, (A : Int), (t6.1, t6.2), ((A : Int), o), ((d + 1 : Nat) : Int), [], 0) = _ := e1
    obtain ⟨o1, p1, p2, p3, p4⟩ := spec_l8Put_ok (list := o) (t := t) (k := A) (by omega) (by omega) hl l1 hi
    have z1 := put_len p2 hi p3 p4
    obtain ⟨c', o', e2, g2, l2⟩ := ih f (k + 2 * A) c1 o1 (by omega) g1 (by omega) (by omega) p2 (fun u hu => ((p3 u).1 hu).elim (fun h => by rw [h]; exact l1) (hl u))
    refine ⟨c', o', ?_, g2.mono (by omega), l2.mono (by omega) (by omega)⟩
    have ew : w64 (((d + 1 : Nat) : Int) - 1) = (d : Int) := by rw [w64_id (by omega) (by omega)]; omega
    simp only [spec_l1Cur_relation_L5, e1, put_b, p1, Option.bind_some, ew]
    rw [if_pos (by simp)]
    exact e2
def relTail (c : CurT) (N A : Int) (out : Int × List (List Int)) : Option (CurT × (Int × List (List Int))) :=
 (spec_l1Cur_pick (c.1, (c.2.1, c.2.2)) 40).bind fun r10 =>
  if r10.2 == 0 then
   (spec_l1Cur_among (r10.1.1, (r10.1.2.1, r10.1.2.2)) [0, 4, (-1)]).bind fun r11 =>
    some ((r11.1.1, (r11.1.2.1, r11.1.2.2)), (r11.2, out.2))
  else
   if r10.2 == 1 then
    if 0 ≤ A ∧ A ≤ A ∧ A ≤ lim then
     if out.2.length + [List.replicate (Int.toNat A) (0 : Int)].length ≤ lim then
      some ((r10.1.1, (r10.1.2.1, r10.1.2.2)), (out.1, out.2 ++ [List.replicate (Int.toNat A) (0 : Int)]))
     else none
    else none
   else
    if r10.2 == 2 then
     if decide ((out.2.length : Int) > 0) then
      (spec_l1Cur_among (r10.1.1, (r10.1.2.1, r10.1.2.2)) [(-1), N, 0]).bind fun r12 =>
       if inb 0 out.2 then
        some ((r12.1.1, (r12.1.2.1, r12.1.2.2)), (out.1, stt out.2 0 [r12.2]))
       else none
     else
      some ((r10.1.1, (r10.1.2.1, r10.1.2.2)), (out.1, out.2))
    else
     some ((r10.1.1, (r10.1.2.1, r10.1.2.2)), (out.1, out.2))
theorem relTail_ok {k : Nat} {c : CurT} (hc : Cur k c) (hk : k ≤ 1000000) {N : Int} {A : Nat} (hA : A ≤ 3) {out : Int × List (List Int)} (ho : rowsB 600 3 out.2) : ∃ c' r, relTail c N (A : Int) out = some (c', r) ∧ Cur (k + 4) c' ∧ rowsB 601 3 r.2 := by
 obtain ⟨c1, x1, e1, g1, _⟩ := pick_ok hc (by omega) 40 (by omega)
 have e1 : spec_l1Cur_pick (c.1, (c.2.1, c.2.2)) 40 = _ := e1
 have hol := ho.1
 unfold relTail
 simp only [e1, Option.bind_some]
 by_cases h0 : x1 = 0
 ·rw [if_pos (by simpa using h0)]
  obtain ⟨c2, x2, e2, g2, _⟩ := among_ok g1 (by omega) (l := [0, 4, (-1)]) (by simp) (by simp)
  have e2 : spec_l1Cur_among (c1.1, (c1.2.1, c1.2.2)) [0, 4, (-1)] = _ := e2
  simp only [e2, Option.bind_some]
  exact ⟨_, _, rfl, g2.mono (by omega), ho.mono (by omega) (by omega)⟩
 ·rw [if_neg (by simpa using h0)]
  by_cases h1 : x1 = 1
  ·rw [if_pos (by simpa using h1), if_pos (by unfold lim; omega), if_pos (by simp; unfold lim; omega)]
   exact ⟨_, _, rfl, g1.mono (by omega), ho.app (by simp; omega)⟩
  ·rw [if_neg (by simpa using h1)]
   by_cases h2 : x1 = 2
   ·rw [if_pos (by simpa using h2)]
    by_cases h3 : (out.2.length : Int) > 0
    ·rw [if_pos (by simpa using h3)]
     obtain ⟨c2, x2, e2, g2, _⟩ := among_ok g1 (by omega) (l := [(-1), N, 0]) (by simp) (by simp)
     have e2 : spec_l1Cur_among (c1.1, (c1.2.1, c1.2.2)) [(-1), N, 0] = _ := e2
     simp only [e2, Option.bind_some]
     rw [if_pos (by unfold inb; omega)]
     refine ⟨_, _, rfl, g2.mono (by omega), ⟨by show (List.set out.2 _ _).length ≤ 601; rw [List.length_set]; omega, fun r hr => ?_⟩⟩
     have hr : r ∈ List.set out.2 (0 : Int).toNat [x2] := hr
     rcases List.mem_or_eq_of_mem_set hr with hr | rfl
     ·exact ho.2 r hr
     ·simp
    ·rw [if_neg (by simpa using h3)]
     exact ⟨_, _, rfl, g1.mono (by omega), ho.mono (by omega) (by omega)⟩
   ·rw [if_neg (by simpa using h2)]
    exact ⟨_, _, rfl, g1.mono (by omega), ho.mono (by omega) (by omega)⟩
theorem relation_ok {k : Nat} {c : CurT} (hc : Cur k c) (hk : k ≤ 100000) {N A : Int} (hN : N ≤ 100) : ∃ c' r, spec_l1Cur_relation c N A = some (c', r) ∧ Cur (k + 200) c' ∧ rowsB 601 3 r.2 := by
 unfold spec_l1Cur_relation
 rw [spec_l6Size_ok, spec_l1In_ok]
 simp only [Option.bind_some]
 cases hs : sizeB N with
 | false => exact ⟨_, _, rfl, hc.mono (by omega), ⟨by simp, by simp⟩⟩
 | true =>
  simp only [Bool.not_true, Bool.false_eq_true, if_false]
  by_cases hA : 1 ≤ A ∧ A ≤ 3
  ·rw [if_neg (by simp; omega)]
   obtain ⟨a, rfl⟩ : ∃ a : Nat, A = (a : Int) := ⟨A.toNat, by omega⟩
   have hn : 1 ≤ N ∧ N ≤ 8 := by unfold sizeB at hs; simpa using hs
   obtain ⟨n, rfl⟩ : ∃ n : Nat, N = (n : Int) := ⟨N.toNat, by omega⟩
   obtain ⟨c1, x1, e1, g1, m1⟩ := among_ok hc (by omega) (l := [0, 1, 2, 3, 4, 6, 9]) (by simp) (by simp)
   have hx1 : 0 ≤ x1 ∧ x1 ≤ 9 := by simp at m1; omega
   obtain ⟨m, rfl⟩ : ∃ m : Nat, x1 = (m : Int) := ⟨x1.toNat, by omega⟩
   obtain ⟨c2, o, e2, g2, r2⟩ := rel_L5 (N := (n : Int)) (by omega) (A := a) (by omega) (0, []) m fuel (k + 2) c1 [] (by unfold fuel; omega) g1 (by omega) (by simp; omega) rfl (by simp)
   have r2 : rowsB 600 3 o := r2.mono (by simp; omega) (by omega)
   have e1 : spec_l1Cur_among (c.1, (c.2.1, c.2.2)) [0, 1, 2, 3, 4, 6, 9] = _ := e1
   have e2 : spec_l1Cur_relation_L5 fuel ((c1.1, (c1.2.1, c1.2.2)), (n : Int), (a : Int), (0, []), ((a : Int), []), (m : Int)) = _ := e2
   simp only [e1, e2, Option.bind_some]
   have hn' : 1 ≤ n ∧ n ≤ 8 := by omega
   have ha' : 1 ≤ a ∧ a ≤ 3 := by omega
   have fin : ∀ (c : CurT) (out : Int × List (List Int)), Cur (k + 150) c → rowsB 600 3 out.2 → ∃ c' r, relTail c (n : Int) (a : Int) out = some (c', r) ∧ Cur (k + 200) c' ∧ rowsB 601 3 r.2 := fun c out hc ho => by
    obtain ⟨c', r, e, g, h⟩ := relTail_ok hc (by omega) (N := (n : Int)) (A := a) (by omega) ho
    exact ⟨c', r, e, g.mono (by omega), h⟩
   have mid : ∀ (c : CurT) (out : Int × List (List Int)), Cur (k + 130) c → rowsB 600 3 out.2 → ∃ c' r, ((spec_l1Cur_one (c.1, (c.2.1, c.2.2)) 12).bind fun r8 => if r8.2 then (spec_l13Full (n : Int) (a : Int)).bind fun r9 => relTail r8.1 (n : Int) (a : Int) r9 else relTail r8.1 (n : Int) (a : Int) out) = some (c', r) ∧ Cur (k + 200) c' ∧ rowsB 601 3 r.2 := fun c out hc ho => by
    obtain ⟨c3, b3, e3, g3⟩ := one_ok hc (by omega) 12 (by omega)
    have e3 : spec_l1Cur_one (c.1, (c.2.1, c.2.2)) 12 = _ := e3
    simp only [e3, Option.bind_some]
    cases b3 with
    | true =>
     obtain ⟨w, e4, h4⟩ := full13_ok hn' ha'
     simp only [if_true, e4, Option.bind_some]
     exact fin c3 ((a : Int), w) (g3.mono (by omega)) (h4.mono (by omega) (by omega))
    | false =>
     simp only [Bool.false_eq_true, if_false]
     exact fin c3 out (g3.mono (by omega)) ho
   by_cases h2 : ((a : Int) == 2) = true
   ·rw [if_pos h2]
    obtain ⟨c3, b3, e3, g3⟩ := one_ok g2 (by omega) 3 (by omega)
    have e3 : spec_l1Cur_one (c2.1, (c2.2.1, c2.2.2)) 3 = _ := e3
    simp only [e3, Option.bind_some]
    cases b3 with
    | true =>
     obtain ⟨c4, p, e4, g4, l4⟩ := partition_ok (N := n) (by omega) g3 (by omega)
     have e4 : spec_l1Cur_partition13 (c3.1, (c3.2.1, c3.2.2)) (n : Int) = _ := e4
     obtain ⟨w, e5, h5⟩ := ofPart_ok (p := p) (by omega)
     simp only [if_true, e4, e5, Option.bind_some]
     exact mid c4 (2, w) (g4.mono (by omega)) (h5.mono (by omega) (by omega))
    | false =>
     simp only [Bool.false_eq_true, if_false]
     exact mid c3 ((a : Int), o) (g3.mono (by omega)) r2
   ·rw [if_neg h2]
    exact mid c2 ((a : Int), o) (g2.mono (by omega)) r2
  ·rw [if_pos (by simp; omega)]
   exact ⟨_, _, rfl, hc.mono (by omega), ⟨by simp, by simp⟩⟩
end T
open Go Go.Va
namespace T
def relsB (l : List RelT) : Prop := l.length ≤ 5 ∧ ∀ r ∈ l, rowsB 601 3 r.2
def knownC (o : Option (Int × List RelT)) : Bool := match o with
 | some (n, rels) => decide (0 ≤ n ∧ n ≤ 5) && (decide (rels.length ≤ 5) && rels.all fun r => decide (r.2.length ≤ 601) && r.2.all fun t => decide (t.length ≤ 3))
 | none => false
theorem known_c (x : Int) : knownC (spec_l14Known x) = true := by
 unfold spec_l14Known
 repeat' split
 all_goals rfl
theorem known_ok (x : Int) : ∃ n rels, spec_l14Known x = some (n, rels) ∧ 0 ≤ n ∧ n ≤ 5 ∧ relsB rels := by
 have h := known_c x
 unfold knownC at h
 split at h
 ·rename_i n rels e
  simp only [Bool.and_eq_true, decide_eq_true_eq, List.all_eq_true] at h
  exact ⟨n, rels, e, h.1.1, h.1.2, h.2.1, fun r hr => h.2.2 r hr⟩
 ·simp at h
theorem tmp_L9 {l : List RelT} {i : Nat} (hi : i < l.length) (hr : rowsB 1000 1000 l[i].2) (c : CurT) (n : Int) (o : List RelT) (ar : Int) : spec_l1Cur_template_L9 fuel (c, n, l, o, (i : Int), (ar, []), 0) = some (c, n, l, o, (i : Int), (ar, l[i].2)) := by
 have h1 := hr.1
 have := forS l[i].2.length (fun m (q : List (List Int)) k => spec_l1Cur_template_L9 m (c, n, l, o, (i : Int), (ar, q), k)) (fun k => l[i].2.take k) (r := some (c, n, l, o, (i : Int), (ar, l[i].2))) (fun m k hk => ?_) (fun m => ?_) (n := fuel) (by unfold fuel; omega)
 ·exact this
 ·have e := spec_l1Own_ok (l := l[i].2[k]) (by have := hr.2 _ (List.getElem_mem hk); omega)
  simp only [spec_l1Cur_template_L9, inb_nat, hi, gd_nat hi, hk, gd_nat hk, if_true, e, Option.bind_some, w64_succ (show k < 4611686018427387904 by omega)]
  rw [if_pos (by simp; omega), if_pos (by simp; unfold lim; omega), List.take_succ_eq_append_getElem hk]
 ·simp only [spec_l1Cur_template_L9, inb_nat, hi, gd_nat hi, if_true, List.take_length]
  rw [if_neg (by simp)]
theorem tmp_L5 {l : List RelT} (h : relsB l) (c : CurT) (n : Int) : spec_l1Cur_template_L5 fuel (c, n, l, [], 0) = some (c, n, l) := by
 have h1 := h.1
 have := forS l.length (fun m (q : List RelT) k => spec_l1Cur_template_L5 m (c, n, l, q, k)) (fun k => l.take k) (r := some (c, n, l)) (fun m k hk => ?_) (fun m => ?_) (n := fuel) (by unfold fuel; omega)
 ·exact this
 ·have e := tmp_L9 hk ((h.2 _ (List.getElem_mem hk)).mono (by omega) (by omega)) c n (l.take k) l[k].1
  have e : spec_l1Cur_template_L9 fuel ((c.1, (c.2.1, c.2.2)), n, l, l.take k, (k : Int), (l[k].1, []), 0) = _ := e
  simp only [spec_l1Cur_template_L5, inb_nat, hk, gd_nat hk, if_true, e, Option.bind_some, w64_succ (show k < 4611686018427387904 by omega)]
  rw [if_pos (by simp; omega), if_pos (by simp; unfold lim; omega), List.take_succ_eq_append_getElem hk]
 ·simp only [spec_l1Cur_template_L5, List.take_length]
  rw [if_neg (by simp)]
theorem tmp_L17 {n : Int} (hn : n ≤ 100) : ∀ (d f k : Nat) (c : CurT) (o : List RelT), d < f → Cur k c → k + 300 * d ≤ 50000 → o.length + d ≤ 5 → (∀ r ∈ o, rowsB 601 3 r.2) →
    ∃ c' o', spec_l1Cur_template_L17 f (c, n, o, (d : Int)) = some (c', n, o') ∧ Cur (k + 300 * d) c' ∧ relsB o' := by
  intro d
  induction d with
  | zero =>
    intro f k c o hf hc hk ho hr
    obtain ⟨f, rfl⟩ : ∃ z, f = z + 1 := ⟨f - 1, by omega⟩
    refine ⟨c, o, ?_, hc, ⟨by omega, hr⟩⟩
    simp only [spec_l1Cur_template_L17]
    rw [if_neg (by simp)]
  | succ d ih =>
    intro f k c o hf hc hk ho hr
    obtain ⟨f, rfl⟩ : ∃ z, f = z + 1 := ⟨f - 1, by omega⟩
    obtain ⟨c1, x1, e1, g1, _⟩ := among_ok hc (by omega) (l := [1, 2, 2, 3]) (by simp) (by simp)
    have e1 : spec_l1Cur_among (c.1, (c.2.1, c.2.2)) [1, 2, 2, 3] = _ := e1
    obtain ⟨c2, r, e2, g2, h2⟩ := relation_ok (N := n) (A := x1) g1 (by omega) hn
    have e2 : spec_l1Cur_relation (c1.1, (c1.2.1, c1.2.2)) n x1 = _ := e2
    obtain ⟨c', o', e3, g3, h3⟩ := ih f (k + 202) c2 (o ++ [r]) (by omega) (g2.mono (by omega)) (by omega) (by simp; omega) (fun q hq => by
      rcases List.mem_append.1 hq with hq | hq
      · exact hr q hq
      · rw [List.mem_singleton.1 hq]; exact h2)
    refine ⟨c', o', ?_, g3.mono (by omega), h3⟩
    have ew : w64 (((d + 1 : Nat) : Int) - 1) = (d : Int) := by rw [w64_id (by omega) (by omega)]; omega
    simp only [spec_l1Cur_template_L17, e1, e2, Option.bind_some, ew]
    rw [if_pos (by simp), if_pos (by simp; unfold lim; omega)]
    exact e3
theorem part_draw {k : Nat} {c : CurT} (hc : Cur k c) (hk : k ≤ 1000000) (l : List Int) (b m : Nat) (hm : 11 ≤ m ∧ m ≤ 24) (hb : 0 < b) (hl : b + (23 / m) ≤ l.length) (hl2 : l.length ≤ 100) :
    ∃ c1 x1 c' x, spec_l1Cur_pick (c.1, (c.2.1, c.2.2)) 24 = some (c1, x1) ∧ ((0 : Int) ≤ 0 ∧ 0 ≤ (w64 ((b : Int) + (w64 (Int.tdiv x1 (m : Int))))) ∧ (w64 ((b : Int) + (w64 (Int.tdiv x1 (m : Int))))) ≤ (l.length : Int)) ∧
      spec_l1Cur_among (c1.1, (c1.2.1, c1.2.2)) ((l.take (Int.toNat (w64 ((b : Int) + (w64 (Int.tdiv x1 (m : Int))))))).drop (Int.toNat 0)) = some (c', x) ∧ Cur (k + 4) c' ∧ x ∈ l := by
  obtain ⟨c1, x1, e1, g1, a1, b1, _⟩ := pick_ok hc (by omega) 24 (by omega)
  have b1 := b1 (by omega)
  obtain ⟨y, rfl⟩ : ∃ y : Nat, x1 = (y : Int) := ⟨x1.toNat, by omega⟩
  have hqb : y / m ≤ 23 / m := Nat.div_le_div_right (by omega)
  have hq : Int.tdiv (y : Int) (m : Int) = ((y / m : Nat) : Int) := by rw [Int.tdiv_eq_ediv_of_nonneg (by omega)]; rfl
  obtain ⟨q, eq⟩ : ∃ q, q = y / m := ⟨_, rfl⟩
  obtain ⟨z, ez⟩ : ∃ z, z = 23 / m := ⟨_, rfl⟩
  rw [← ez] at hqb hl
  rw [← eq] at hqb hq
  clear eq ez
  refine ⟨c1, (y : Int), ?_⟩
  rw [hq]
  clear hq
  have w1 : w64 ((q : Nat) : Int) = (q : Int) := w64_id (by omega) (by omega)
  have w2 : w64 ((b : Int) + (q : Int)) = ((b + q : Nat) : Int) := by rw [w64_id (by omega) (by omega)]; omega
  rw [w1, w2]
  have e0 : (l.take (Int.toNat ((b + q : Nat) : Int))).drop (Int.toNat 0) = l.take (b + q) := by rw [Int.toNat_natCast]; rfl
  rw [e0]
  obtain ⟨c2, x2, e2, g2, m2⟩ := among_ok g1 (by omega) (l := l.take (b + q)) (by rw [List.length_take]; omega) (by rw [List.length_take]; omega)
  exact ⟨c2, x2, e1, by omega, e2, g2.mono (by omega), List.mem_of_mem_take m2⟩
theorem template_ok {k : Nat} {c : CurT} (hc : Cur k c) (hk : k ≤ 10000) : ∃ c' n rels, spec_l1Cur_template c = some (c', n, rels) ∧ Cur (k + 2000) c' ∧ 0 ≤ n ∧ n ≤ 5 ∧ relsB rels := by
 obtain ⟨c1, b1, e1, g1⟩ := one_ok hc (by omega) 3 (by omega)
 have e1 : spec_l1Cur_one (c.1, (c.2.1, c.2.2)) 3 = _ := e1
 unfold spec_l1Cur_template
 simp only [e1, Option.bind_some]
 cases b1 with
 | false =>
  obtain ⟨c2, x2, e2, g2, _⟩ := pick_ok g1 (by omega) 11 (by omega)
  have e2 : spec_l1Cur_pick (c1.1, (c1.2.1, c1.2.2)) 11 = _ := e2
  obtain ⟨n, rels, e3, h1, h2, h3⟩ := known_ok x2
  have e4 := tmp_L5 h3 c2 n
  have e4 : spec_l1Cur_template_L5 fuel ((c2.1, (c2.2.1, c2.2.2)), n, rels, [], 0) = _ := e4
  simp only [Bool.not_false, if_true, e2, e3, e4, Option.bind_some]
  exact ⟨_, _, _, rfl, g2.mono (by omega), h1, h2, h3⟩
 | true =>
  simp only [Bool.not_true, Bool.false_eq_true, if_false]
  obtain ⟨d1, y1, c2, n, e2, i2, f2, g2, m2⟩ := part_draw g1 (by omega) [1, 2, 2, 2, 3, 3, 4, 0, 5] 7 11 (by omega) (by omega) (by simp) (by simp)
  obtain ⟨d2, y2, c3, d, e3, i3, f3, g3, m3⟩ := part_draw g2 (by omega) [0, 1, 1, 2, 4, 5] 5 23 (by omega) (by omega) (by simp) (by simp)
  have hn : 0 ≤ n ∧ n ≤ 5 := by simp at m2; omega
  have hd : 0 ≤ d ∧ d ≤ 5 := by simp at m3; omega
  obtain ⟨D, rfl⟩ : ∃ D : Nat, d = (D : Int) := ⟨d.toNat, by omega⟩
  obtain ⟨c4, rels, e4, g4, h4⟩ := tmp_L17 (n := n) (by omega) D fuel (k + 10) c3 [] (by unfold fuel; omega) (g3.mono (by omega)) (by omega) (by simp; omega) (by simp)
  have e4 : spec_l1Cur_template_L17 fuel ((c3.1, (c3.2.1, c3.2.2)), n, [], (D : Int)) = _ := e4
  simp only [e2, Option.bind_some]
  rw [if_pos (by decide), if_pos (show (0 : Int) ≤ 0 ∧ 0 ≤ (w64 (7 + (w64 (Int.tdiv y1 11)))) ∧ (w64 (7 + (w64 (Int.tdiv y1 11)))) ≤ ([1, 2, 2, 2, 3, 3, 4, 0, 5].length : Int) from i2)]
  have f2 : spec_l1Cur_among (d1.1, (d1.2.1, d1.2.2)) (([1, 2, 2, 2, 3, 3, 4, 0, 5].take (Int.toNat (w64 (7 + (w64 (Int.tdiv y1 11)))))).drop (Int.toNat 0)) = _ := f2
  rw [f2]
  simp only [Option.bind_some, e3]
  rw [if_pos (by decide), if_pos (show (0 : Int) ≤ 0 ∧ 0 ≤ (w64 (5 + (w64 (Int.tdiv y2 23)))) ∧ (w64 (5 + (w64 (Int.tdiv y2 23)))) ≤ ([0, 1, 1, 2, 4, 5].length : Int) from i3)]
  have f3 : spec_l1Cur_among (d2.1, (d2.2.1, d2.2.2)) (([0, 1, 1, 2, 4, 5].take (Int.toNat (w64 (5 + (w64 (Int.tdiv y2 23)))))).drop (Int.toNat 0)) = _ := f3
  rw [f3]
  simp only [Option.bind_some, e4]
  exact ⟨_, _, _, rfl, g4.mono (by omega), hn.1, hn.2, h4⟩
theorem arity_ok {k : Nat} {c : CurT} (hc : Cur k c) (hk : k ≤ 100000) : ∃ c' x, spec_l1Cur_arity12 c = some (c', x) ∧ Cur (k + 4) c' ∧ 0 ≤ x ∧ x ≤ 4 := by
 obtain ⟨d1, y1, c2, n, e2, i2, f2, g2, m2⟩ := part_draw hc (by omega) [1, 1, 2, 2, 2, 3, 0, 4] 6 11 (by omega) (by omega) (by simp) (by simp)
 unfold spec_l1Cur_arity12
 simp only [e2, Option.bind_some]
 rw [if_pos (by decide), if_pos (show (0 : Int) ≤ 0 ∧ 0 ≤ (w64 (6 + (w64 (Int.tdiv y1 11)))) ∧ (w64 (6 + (w64 (Int.tdiv y1 11)))) ≤ ([1, 1, 2, 2, 2, 3, 0, 4].length : Int) from i2)]
 have f2 : spec_l1Cur_among (d1.1, (d1.2.1, d1.2.2)) (([1, 1, 2, 2, 2, 3, 0, 4].take (Int.toNat (w64 (6 + (w64 (Int.tdiv y1 11)))))).drop (Int.toNat 0)) = _ := f2
 rw [f2]
 simp only [Option.bind_some]
 exact ⟨_, _, rfl, g2, by simp at m2; omega⟩
theorem DrawPolymorphismsOf_ok {code : List Int} (h1 : code.length ≤ 65536) (h2 : ∀ x ∈ code, 0 ≤ x ∧ x < 256) : ∃ n rels k, spec_DrawPolymorphismsOf code = some (n, rels, k) ∧ 0 ≤ n ∧ n ≤ 5 ∧ relsB rels ∧ 0 ≤ k ∧ k ≤ 4 := by
 obtain ⟨c1, n, rels, e1, g1, a, b, c⟩ := template_ok (k := 0) (c := (code, (0, 0))) ⟨h1, h2, by simp, by simp⟩ (by omega)
 obtain ⟨c2, k, e2, g2, d⟩ := arity_ok g1 (by omega)
 have e2 : spec_l1Cur_arity12 (c1.1, (c1.2.1, c1.2.2)) = _ := e2
 unfold spec_DrawPolymorphismsOf
 simp only [e1, e2, Option.bind_some]
 exact ⟨n, rels, k, rfl, a, b, c, d⟩
end T
open Go Go.Va
namespace T
theorem all_eqD {α : Type} [DecidableEq α] {l l' : List α} (d : α) (h : l.length = l'.length) : (List.range l.length).all (fun k => decide (l.getD k d = l'.getD k d)) = decide (l = l') := by
 rw [Bool.eq_iff_iff]
 simp only [List.all_eq_true, List.mem_range, decide_eq_true_eq]
 constructor
 ·intro hx
  refine List.ext_getElem h fun i h1 h2 => ?_
  have := hx i h1
  rwa [getD_of h1, getD_of h2] at this
 ·rintro rfl _ _; rfl
section
variable {A B : Nat → Nat} {m j : Nat}
end
section
variable {n k m : Nat} {r : RelT} {rels : List RelT}
end
end T
open Go Go.Va
namespace T
def cpCb (t : List Int) (s : Int) : Option (Int × Bool) := impl_CountPolymorphisms_c1 t s
theorem eachCP_L (rec) : ∀ f x, impl_polySearch_each_c1_impl_CountPolymorphisms_c1_L4 rec f x = gL rec f x
 | 0, _ => rfl
 | f + 1, (a, b, c, d, e, g, x) => by simp only [impl_polySearch_each_c1_impl_CountPolymorphisms_c1_L4, gL, eachCP_L rec f]
theorem eachCP : ∀ d x, impl_polySearch_each_c1_impl_CountPolymorphisms_c1 d x = gF cpCb d x
 | 0, _ => rfl
 | d + 1, (a, t, s, ps, g, u) => by
  have e : impl_polySearch_each_c1_impl_CountPolymorphisms_c1 d = gF cpCb d := funext fun x => eachCP d x
  simp only [impl_polySearch_each_c1_impl_CountPolymorphisms_c1, gF, gBody, impl_polySearch_each_c1_impl_CountPolymorphisms_c1_body, eachCP_L, e]
  split
  ·unfold cpCb; cases impl_CountPolymorphisms_c1 t s <;> rfl
  ·congr 1; funext z; cases z <;> rfl
theorem fold_count {cb : List Int → Int → Option (Int × Bool)} (hc : ∀ t s, cb t s = some (w64 (s + 1), true)) : ∀ (l : List (List Int)) (s : Int), 0 ≤ s → s + l.length ≤ 4611686018427387904 → foldU cb l s = some (s + l.length, true)
 | [], s, _, _ => by simp [foldU]
 | t :: l, s, h0, hl => by
  simp only [foldU, hc]
  have hl' : s + ((l.length : Int) + 1) ≤ 4611686018427387904 := by simpa using hl
  have ew : w64 (s + 1) = s + 1 := by rw [w64_def]; omega
  rw [ew, fold_count hc l (s + 1) (by omega) (by omega)]
  simp only [List.length_cons]
  congr 2; push_cast; omega
section
variable {V n k : Nat} {cs : List Con} {rels : List RelT}
theorem CountPol_ok (h : RelsOk n k rels) (hz : (allT n k rels (List.replicate (n ^ k) (-1))).length ≤ 4611686018427387904) :
    impl_polySearch_each_impl_CountPolymorphisms_c1 (true, (n : Int), (k : Int), demD n k rels) (List.replicate (n ^ k) (-1)) 0 = some ((allT n k rels (List.replicate (n ^ k) (-1))).length : Int) := by
  have hp := pow_le3 (n := n) (k := k) h.hn.2 h.hk.2
  have hfold := fold_count (cb := cpCb) (fun t s => rfl) (allT n k rels (List.replicate (n ^ k) (-1))) 0 (by omega) (by omega)
  obtain ⟨r, h4, h5⟩ := each_ok h (by simp) cpCb hfold
  unfold impl_polySearch_each_impl_CountPolymorphisms_c1
  rw [if_pos (by rw [List.length_replicate]; unfold lim; omega), eachCP, h4]
  simp only [Option.bind_some, h5, Int.zero_add]
theorem CountPolymorphisms_ok {n k : Int} (h : relsS rels) : impl_CountPolymorphisms n rels k = some (if polyB n rels k then (((allT n.toNat k.toNat rels (List.replicate (n.toNat ^ k.toNat) (-1))).length : Int), true) else (0, false)) := by
 unfold impl_CountPolymorphisms
 rw [impl_canAsk_ok h]
 cases hb : polyB n rels k with
 | false =>
  cases hc : tmplB n rels && fewB k rels with
  | false => simp
  | true =>
   unfold polyB at hb
   rw [hc, Bool.true_and] at hb
   rw [Bool.and_eq_true] at hc
   simp only [Option.bind_some, Bool.not_true, Bool.false_eq_true, if_false, impl_range_ok (k := k) (tmpl_of hc.1).1, hb]
   rfl
 | true =>
  obtain ⟨hn, hk, h9, hR⟩ := polyB_of hb
  have hb' := hb
  unfold polyB at hb'
  simp only [Bool.and_eq_true] at hb'
  obtain ⟨⟨ht, hf⟩, hr⟩ := hb'
  obtain ⟨p1, p2⟩ := powI_ok hn hk
  have hz := small9 hR.hn h9
  have hl := allT_len (n := n.toNat) (k := k.toNat) (rels := rels) (given := List.replicate (n.toNat ^ k.toNat) (-1))
  have e1 := impl_newPolySearch_ok hR
  have e2 := CountPol_ok hR (by omega)
  rw [Int.toNat_of_nonneg (show 0 ≤ n by omega), Int.toNat_of_nonneg (show 0 ≤ k by omega)] at e1 e2
  have hr' : (decide (1 ≤ k ∧ k ≤ 3) && decide (n.toNat ^ k.toNat ≤ 9)) = true := by simpa using hr
  rw [ht, hf]
  simp only [Bool.and_self, Option.bind_some, Bool.not_true, Bool.false_eq_true, if_false, impl_range_ok (k := k) hn, hr', p1, e1, freeI_ok (show n.toNat ^ k.toNat ≤ 1000 by omega), e2, if_true]
end
end T
open Go Go.Va
namespace T
section
variable {V n k : Nat} {cs : List Con} {rels : List RelT}
theorem PolymorphismsOf_val {n k : Int} (h : relsS rels) (hb : polyB n rels k = true) : impl_PolymorphismsOf n rels k = some (listR k.toNat (allT n.toNat k.toNat rels (List.replicate (n.toNat ^ k.toNat) (-1)))) := by
 unfold impl_PolymorphismsOf
 rw [impl_canAsk_ok h]
 obtain ⟨hn, hk, h9, hR⟩ := polyB_of hb
 have hb' := hb
 unfold polyB at hb'
 simp only [Bool.and_eq_true] at hb'
 obtain ⟨⟨ht, hf⟩, hr⟩ := hb'
 obtain ⟨p1, p2⟩ := powI_ok hn hk
 obtain ⟨q1, q2, q3⟩ := list_same hR (given := List.replicate (n.toNat ^ k.toNat) (-1)) (by simp) h9
 rw [Int.toNat_of_nonneg (by omega), Int.toNat_of_nonneg (by omega)] at q1 q2
 rw [ht, hf]
 simp only [Option.bind_some, Bool.and_self, Bool.not_true, Bool.false_eq_true, if_false, impl_range_ok (k := k) hn, hr.1, hr.2, p1, freeI_ok (show n.toNat ^ k.toNat ≤ 1000 by omega), q1]
theorem rInts_ok {a b : List Int} (h : a.length ≤ 1048576) : laws_rInts a b = some (decide (a = b)) := by
 unfold laws_rInts
 by_cases h2 : a.length = b.length
 ·rw [if_neg (by simp [h2])]
  have := forA a.length (fun n (_ : Unit) i => laws_rInts_L4 n (a, b, i)) (fun _ => ()) (fun k => decide (a.getD k 0 = b.getD k 0)) (r := some (.inr false)) (e := some (.inl ())) (fun f k hk => ?_) (fun f => ?_) (n := fuel) (by unfold fuel; omega)
  ·rw [all_eqD 0 h2] at this
   have this : laws_rInts_L4 fuel (a, b, 0) = _ := this
   rw [this]
   by_cases e : a = b
   ·subst e; simp
   ·simp [e]
  ·simp only [laws_rInts_L4, inb_nat, hk, gd_nat hk, h2 ▸ hk, gd_nat (h2 ▸ hk), if_true, getD_of hk, getD_of (h2 ▸ hk : k < b.length), w64_succ (show k < 4611686018427387904 by omega)]
   rw [if_pos (by simp; omega)]
   by_cases e : a[k] = b[k] <;> simp [e]
  ·simp only [laws_rInts_L4]
   rw [if_neg (by simp)]
 ·rw [if_pos (by simpa using fun h => h2 (by omega))]
  rw [decide_eq_false fun h => h2 (by rw [h])]
theorem relsB_S (h : relsB rels) : relsS rels := ⟨by have := h.1; omega, fun r hr => by
 have := h.2 r hr
 exact ⟨by have := this.1; omega, fun t ht => by have := (this.2 t ht); omega⟩⟩
end
end T
open Go Go.Va
namespace T
section
variable {n k m : Nat} {r : RelT} {rels : List RelT} {given t : List Int}
def polK (n k : Nat) (rels : List RelT) (t : List Int) : Bool := rels.all fun r => kB n k r.1.toNat ((k : Int), t) r
theorem res_map {i : Nat} : resT n ((k : Int), t) r.2 r.1.toNat (dg r.2.length k i) = (cI (PL n k r i)).map (valI t) := by
 unfold resT PL cI
 rw [List.map_map, List.map_map]
 rfl
theorem polK_iff : polK n k rels t = true ↔ ∀ r ∈ rels, ∀ i, i < r.2.length ^ k → (cI (PL n k r i)).map (valI t) ∈ r.2 := by
 unfold polK kB
 simp only [List.all_eq_true, List.mem_range, decide_eq_true_eq, res_map]
theorem ext_iff {ok : List Int → Bool} : ∀ (m : Nat) (pre t : List Int), t ∈ extL n given ok m pre ↔ t.length = pre.length + m ∧ t.take pre.length = pre ∧
    ∀ q, pre.length ≤ q → q < t.length → (0 ≤ t.getD q 0 ∧ t.getD q 0 < (n : Int)) ∧ mstB given q (t.getD q 0).toNat = true ∧ ok (t.take (q + 1)) = true
  | 0, pre, t => by
    simp only [extL, List.mem_singleton, Nat.add_zero]
    constructor
    · rintro rfl
      exact ⟨rfl, by simp, fun q h1 h2 => by omega⟩
    · rintro ⟨h1, h2, _⟩
      rw [← h2, List.take_of_length_le (by omega)]
  | m + 1, pre, t => by
    simp only [extL, List.mem_flatMap, List.mem_range]
    constructor
    · rintro ⟨x, hx, h⟩
      by_cases hc : (mstB given pre.length x && ok (pre ++ [(x : Int)])) = true
      · rw [if_pos hc] at h
        obtain ⟨h1, h2, h3⟩ := (ext_iff m (pre ++ [(x : Int)]) t).1 h
        rw [Bool.and_eq_true] at hc
        rw [List.length_append, List.length_singleton] at h1 h2 h3
        have hv : t.getD pre.length 0 = (x : Int) := by
          have hl : pre.length < t.length := by omega
          have e : (t.take (pre.length + 1)).getD pre.length 0 = t.getD pre.length 0 := by simp [List.getD_eq_getElem?_getD, List.getElem?_take]
          rw [← e, h2]; simp [List.getD_eq_getElem?_getD]
        refine ⟨by omega, ?_, fun q h4 h5 => ?_⟩
        · have : (t.take (pre.length + 1)).take pre.length = pre := by rw [h2]; simp
          rw [List.take_take] at this
          rwa [Nat.min_eq_left (by omega)] at this
        · by_cases e : q = pre.length
          · subst e
            rw [hv, h2]
            exact ⟨by omega, by rw [Int.toNat_natCast]; exact hc.1, hc.2⟩
          · exact h3 q (by omega) h5
      · rw [if_neg hc] at h; simp at h
    · rintro ⟨h1, h2, h3⟩
      have hl : pre.length < t.length := by omega
      obtain ⟨a1, a2, a3⟩ := h3 pre.length (Nat.le_refl _) hl
      have hx : (((t.getD pre.length 0).toNat : Nat) : Int) = t.getD pre.length 0 := Int.toNat_of_nonneg a1.1
      have ht : t.take (pre.length + 1) = pre ++ [(((t.getD pre.length 0).toNat : Nat) : Int)] := by
        rw [hx, List.take_succ_eq_append_getElem hl, h2, getD_of hl]
      refine ⟨(t.getD pre.length 0).toNat, by omega, ?_⟩
      rw [if_pos (by rw [Bool.and_eq_true]; exact ⟨a2, by rw [← ht]; exact a3⟩)]
      refine (ext_iff m _ t).2 ⟨by simp; omega, by rw [List.length_append, List.length_singleton]; exact ht, fun q h4 h5 => h3 q (by rw [List.length_append, List.length_singleton] at h4; omega) h5⟩
theorem allT_iff (h : RelsOk n k rels) : t ∈ allT n k rels given ↔ t.length = n ^ k ∧ (∀ x ∈ t, 0 ≤ x ∧ x < (n : Int)) ∧ (∀ q, q < n ^ k → mstB given q (t.getD q 0).toNat = true) ∧ polK n k rels t = true := by
 unfold allT
 rw [ext_iff, polK_iff]
 simp only [List.length_nil, Nat.zero_add, List.take_zero, true_and, Nat.zero_le, true_implies]
 have hok : ∀ q, q < t.length → (okB n k rels (t.take (q + 1)) = true ↔ metB n k rels q t = true) := fun q hq => by
  unfold okB
  rw [List.length_take, Nat.min_eq_left (by omega), Nat.add_sub_cancel, metB_take]
 constructor
 ·rintro ⟨h1, h3⟩
  refine ⟨h1, fun x hx => ?_, fun q hq => (h3 q (by omega)).2.1, fun r hr i hi => ?_⟩
  ·obtain ⟨j, hj, rfl⟩ := List.mem_iff_getElem.1 hx
   have := (h3 j hj).1
   rwa [getD_of hj] at this
  ·have hlt := last_lt (h.ok r hr) h.hn h.hk.1 hi
   have hm := (hok _ (by omega)).1 (h3 _ (show lastP (PL n k r i) < t.length by omega)).2.2
   unfold metB at hm
   simp only [List.all_eq_true, List.mem_range, Bool.or_eq_true, Bool.not_eq_true', decide_eq_false_iff_not, decide_eq_true_eq] at hm
   exact (hm r hr i hi).resolve_left fun hne => hne rfl
 ·rintro ⟨h1, h2, h3, h4⟩
  refine ⟨h1, fun q hq => ⟨?_, h3 q (by omega), (hok q hq).2 ?_⟩⟩
  ·rw [getD_of hq]; exact h2 _ (List.getElem_mem hq)
  ·unfold metB
   simp only [List.all_eq_true, List.mem_range, Bool.or_eq_true, Bool.not_eq_true', decide_eq_false_iff_not, decide_eq_true_eq]
   exact fun r hr i hi => .inr (h4 r hr i hi)
theorem mst_free {N q x : Nat} (hq : q < N) : mstB (List.replicate N (-1)) q x = true := by
 unfold mstB
 rw [getD_of (by simpa using hq)]; simp
theorem allT_told (h : RelsOk n k rels) (hg : given.length = n ^ k) (hv : ∀ x ∈ given, 0 ≤ x ∧ x < (n : Int)) : firstR k (allT n k rels given) = if polK n k rels given then (((k : Int), given), true) else ((0, []), false) := by
 have heq : ∀ t, t ∈ allT n k rels given → t = given := fun t ht => by
  obtain ⟨h1, h2, h3, _⟩ := (allT_iff h).1 ht
  refine List.ext_getElem (by omega) fun q hq hq' => ?_
  have := h3 q (by omega)
  have a1 := hv _ (List.getElem_mem hq')
  have a2 := h2 _ (List.getElem_mem hq)
  unfold mstB at this
  rw [getD_of hq, getD_of hq'] at this
  simp only [Bool.not_eq_true', Bool.and_eq_false_iff, decide_eq_false_iff_not, bne_eq_false_iff_eq] at this
  rcases this with this | this
  ·omega
  ·omega
 cases hp : polK n k rels given with
 | true =>
  have hm : given ∈ allT n k rels given := (allT_iff h).2 ⟨hg, hv, fun q hq => by
   have a1 := hv _ (List.getElem_mem (show q < given.length by omega))
   unfold mstB
   rw [getD_of (by omega)]
   simp only [Bool.not_eq_true', Bool.and_eq_false_iff, decide_eq_false_iff_not, bne_eq_false_iff_eq]
   exact .inr (by omega), hp⟩
  cases hl : allT n k rels given with
  | nil => rw [hl] at hm; simp at hm
  | cons t l =>
   have := heq t (by rw [hl]; exact List.mem_cons_self ..)
   rw [this]; rfl
 | false =>
  cases hl : allT n k rels given with
  | nil => rfl
  | cons t l =>
   have hm : t ∈ allT n k rels given := by rw [hl]; exact List.mem_cons_self ..
   have e := heq t hm
   have := ((allT_iff h).1 hm).2.2.2
   rw [e, hp] at this; simp at this
theorem dg_onto {b : Nat} : ∀ (k : Nat) (ys : List Nat), ys.length = k → (∀ y ∈ ys, y < b) → ∃ i, i < b ^ k ∧ dg b k i = ys := by
 intro k
 induction k with
 | zero => intro ys hl _; exact ⟨0, by simp, by rw [List.eq_nil_of_length_eq_zero hl]; rfl⟩
 | succ k ih =>
  intro ys hl hy
  obtain ⟨z, y, rfl⟩ : ∃ z y, ys = z ++ [y] := ⟨ys.dropLast, ys.getLast (by intro e; rw [e] at hl; simp at hl), (List.dropLast_concat_getLast _).symm⟩
  have hyb := hy y (by simp)
  obtain ⟨i, h1, h2⟩ := ih z (by simpa using hl) fun x hx => hy x (by simp [hx])
  refine ⟨i * b + y, ?_, ?_⟩
  ·rw [Nat.pow_succ]
   calc i * b + y < i * b + b := by omega
    _ = (i + 1) * b := by rw [Nat.succ_mul]
    _ ≤ b ^ k * b := Nat.mul_le_mul_right _ h1
  ·simp only [dg]
   have e1 : (i * b + y) / b = i := by rw [Nat.mul_comm, Nat.mul_add_div (by omega), Nat.div_eq_of_lt hyb]; omega
   have e2 : (i * b + y) % b = y := by rw [Nat.mul_comm, Nat.mul_add_mod, Nat.mod_eq_of_lt hyb]
   rw [e1, e2, h2]
theorem PL_val {i j : Nat} (hj : j < r.1.toNat) : ((cI (PL n k r i)).map (valI t)).getD j 0 = t.getD (atF n r.2 j (dg r.2.length k i)) 0 := by
 unfold PL cI
 rw [getD_of (by simpa using hj)]
 simp [valI]
theorem pol_app (h : ROk n m r) (hk : polK n k [r] t = true) {ys : List Nat} (hl : ys.length = k) (hy : ∀ y ∈ ys, y < r.2.length) :
    ∃ z, z < r.2.length ∧ ∀ j, j < m → t.getD (atF n r.2 j ys) 0 = (r.2.getD z []).getD j 0 := by
  obtain ⟨i, h1, h2⟩ := dg_onto (b := r.2.length) k ys hl hy
  have hm := polK_iff.1 hk r (by simp) i h1
  obtain ⟨z, hz, e⟩ := List.mem_iff_getElem.1 hm
  refine ⟨z, hz, fun j hj => ?_⟩
  rw [getD_of hz, e, ← h2, PL_val (by have := h.ar; omega)]
end
end T
open Go Go.Va
namespace T
section
variable {n k m : Nat} {r : RelT} {rels : List RelT} {given t f : List Int} {inner : List (List Int)}
def fC (n : Nat) (inner : List (List Int)) (i : Nat) : Nat := inner.foldl (fun a u => a * n + (u.getD i 0).toNat) 0
def compF (n N : Nat) (f : List Int) (inner : List (List Int)) : List Int := (List.range N).map fun i => f.getD (fC n inner i) 0
def tabB (n k : Nat) (t : List Int) : Prop := t.length = n ^ k ∧ ∀ x ∈ t, 0 ≤ x ∧ x < (n : Int)
theorem tab_get (h : tabB n k t) {i : Nat} (hi : i < n ^ k) : 0 ≤ t.getD i 0 ∧ t.getD i 0 < (n : Int) := by
 have hl := h.1
 rw [getD_of (by omega)]
 exact h.2 _ (List.getElem_mem (by omega))
theorem fC_lt (hl : inner.length = k) (h : ∀ u ∈ inner, tabB n k u) {i : Nat} (hi : i < n ^ k) : fC n inner i < n ^ k := by
 have : ∀ (l : List (List Int)) (c : Nat), (∀ u ∈ l, tabB n k u) → l.foldl (fun a u => a * n + (u.getD i 0).toNat) c < (c + 1) * n ^ l.length := by
  intro l
  induction l with
  | nil => intro c _; simp
  | cons u l ih =>
   intro c h
   have h1 := ih (c * n + (u.getD i 0).toNat) fun y hy => h y (List.mem_cons_of_mem _ hy)
   have h2 := tab_get (h u (List.mem_cons_self ..)) hi
   have h3 : (c * n + (u.getD i 0).toNat + 1) * n ^ l.length ≤ ((c + 1) * n) * n ^ l.length := Nat.mul_le_mul_right _ (by rw [Nat.succ_mul]; omega)
   rw [List.foldl_cons, List.length_cons, Nat.pow_succ]
   have h4 : ((c + 1) * n) * n ^ l.length = (c + 1) * (n ^ l.length * n) := by rw [Nat.mul_assoc, Nat.mul_comm n]
   omega
 have := this inner 0 h
 rw [hl] at this
 unfold fC; omega
theorem comp_tab (hf : tabB n k f) (hl : inner.length = k) (h : ∀ u ∈ inner, tabB n k u) : tabB n k (compF n (n ^ k) f inner) := by
 refine ⟨by simp [compF], fun x hx => ?_⟩
 unfold compF at hx
 obtain ⟨i, hi, rfl⟩ := List.mem_map.1 hx
 exact tab_get hf (fC_lt hl h (List.mem_range.1 hi))
theorem pol_one (h : polK n k rels t = true) (hr : r ∈ rels) : polK n k [r] t = true := by
 unfold polK at *
 simp only [List.all_eq_true] at *
 intro r' hr'
 rw [List.mem_singleton.1 hr']
 exact h r hr
theorem comp_pol (hR : RelsOk n k rels) (hf : tabB n k f) (hfp : polK n k rels f = true) (hl : inner.length = k) (h : ∀ u ∈ inner, tabB n k u ∧ polK n k rels u = true) :
    polK n k rels (compF n (n ^ k) f inner) = true := by
  rw [polK_iff]
  intro r hr i hi
  have ho := hR.ok r hr
  have hm := ho.hm
  have hb : 0 < r.2.length := by
    have := hR.hk
    rcases Nat.eq_zero_or_pos r.2.length with e | e
    · rw [e, Nat.zero_pow (by omega)] at hi; omega
    · exact e
  have hdl : (dg r.2.length k i).length = k := dg_len
  have hdv : ∀ x ∈ dg r.2.length k i, x < r.2.length := dg_lt hb
  obtain ⟨ys, y1, y2, y3⟩ : ∃ ys : List Nat, ys.length = inner.length ∧ (∀ y ∈ ys, y < r.2.length) ∧ ∀ j, j < r.1.toNat → ∀ a, inner.foldl (fun a u => a * n + (u.getD (atF n r.2 j (dg r.2.length k i)) 0).toNat) a = ys.foldl (fun a x => a * n + vt r.2 x j) a := by
    clear hl
    induction inner with
    | nil => exact ⟨[], rfl, by simp, fun _ _ _ => rfl⟩
    | cons u l ih =>
      obtain ⟨ys, y1, y2, y3⟩ := ih fun u hu => h u (List.mem_cons_of_mem _ hu)
      obtain ⟨h1, h2⟩ := h u (List.mem_cons_self ..)
      obtain ⟨z, hz, he⟩ := pol_app ho (pol_one h2 hr) hdl hdv
      refine ⟨z :: ys, by simp [y1], fun y hy => ?_, fun j hj a => ?_⟩
      · rcases List.mem_cons.1 hy with rfl | hy
        · exact hz
        · exact y2 y hy
      · rw [List.foldl_cons, List.foldl_cons, y3 j hj, he j hj]; rfl
  obtain ⟨z, hz, he⟩ := pol_app ho (pol_one hfp hr) (ys := ys) (by omega) y2
  have hrow : (cI (PL n k r i)).map (valI (compF n (n ^ k) f inner)) = r.2[z] := by
    have hzl := ho.tl _ (List.getElem_mem hz)
    have hpl := ho.pl_len (k := k) (i := i)
    refine List.ext_getElem (by rw [List.length_map, cI_len]; omega) fun j h1 h2 => ?_
    have hj : j < r.1.toNat := by omega
    have e1 := PL_val (n := n) (k := k) (t := compF n (n ^ k) f inner) (r := r) (i := i) hj
    rw [getD_of h1] at e1
    rw [e1]
    have hlt := ho.at_lt hj (dg r.2.length k i) hdv
    rw [hdl] at hlt
    have e2 : (compF n (n ^ k) f inner).getD (atF n r.2 j (dg r.2.length k i)) 0 = f.getD (fC n inner (atF n r.2 j (dg r.2.length k i))) 0 := by
      rw [getD_of (by simp [compF]; exact hlt)]; simp [compF]
    have e3 : fC n inner (atF n r.2 j (dg r.2.length k i)) = atF n r.2 j ys := y3 j hj 0
    rw [e2, e3, he j hj, getD_of hz, getD_of h2]
  rw [hrow]
  exact List.getElem_mem hz
def projT (n k : Nat) : List Int := (List.range (n ^ k)).map fun i => ((i / n ^ (k - 1) : Nat) : Int)
theorem fold_start {v : Nat → Nat} : ∀ (a : List Nat) (c : Nat), a.foldl (fun a x => a * n + v x) c = c * n ^ a.length + a.foldl (fun a x => a * n + v x) 0
 | [], c => by simp
 | x :: a, c => by
  rw [List.foldl_cons, List.foldl_cons, fold_start a (c * n + v x), fold_start a (0 * n + v x), List.length_cons, Nat.pow_succ, Nat.zero_mul, Nat.zero_add, Nat.add_mul, Nat.mul_assoc, Nat.mul_comm n (n ^ a.length), Nat.add_assoc]
theorem proj_tab (hn : 1 ≤ n) (hk : 1 ≤ k) : tabB n k (projT n k) := by
 refine ⟨by simp [projT], fun x hx => ?_⟩
 unfold projT at hx
 obtain ⟨i, hi, rfl⟩ := List.mem_map.1 hx
 have hi := List.mem_range.1 hi
 have hp : 0 < n ^ (k - 1) := Nat.pow_pos hn
 have e : n ^ k = n * n ^ (k - 1) := by rw [← Nat.pow_succ', show (k - 1).succ = k by omega]
 have := Nat.div_lt_of_lt_mul (m := i) (n := n ^ (k - 1)) (k := n) (by rw [Nat.mul_comm]; omega)
 exact ⟨Int.natCast_nonneg _, Int.ofNat_lt.2 this⟩
theorem proj_pol (hR : RelsOk n k rels) : polK n k rels (projT n k) = true := by
 rw [polK_iff]
 intro r hr i hi
 have hn := hR.hn
 have hk := hR.hk
 have ho := hR.ok r hr
 have hm := ho.hm
 have hb : 0 < r.2.length := by
  rcases Nat.eq_zero_or_pos r.2.length with e | e
  ·rw [e, Nat.zero_pow (by omega)] at hi; omega
  ·exact e
 have hdl : (dg r.2.length k i).length = k := dg_len
 have hdv : ∀ x ∈ dg r.2.length k i, x < r.2.length := dg_lt hb
 have hlt' : ∀ j, j < r.1.toNat → atF n r.2 j (dg r.2.length k i) < n ^ k := fun j hj => by
  have := ho.at_lt hj (dg r.2.length k i) hdv
  rwa [hdl] at this
 obtain ⟨z, rest, hd⟩ : ∃ z rest, dg r.2.length k i = z :: rest := by
  cases h : dg r.2.length k i with
  | nil => rw [h] at hdl; simp at hdl; omega
  | cons z rest => exact ⟨z, rest, rfl⟩
 have hz : z < r.2.length := hdv z (by rw [hd]; exact List.mem_cons_self ..)
 have hrl : rest.length = k - 1 := by rw [hd] at hdl; simp at hdl; omega
 have hrow : (cI (PL n k r i)).map (valI (projT n k)) = r.2[z] := by
  have hzl := ho.tl _ (List.getElem_mem hz)
  have hpl := ho.pl_len (k := k) (i := i)
  refine List.ext_getElem (by rw [List.length_map, cI_len]; omega) fun j h1 h2 => ?_
  have hj : j < r.1.toNat := by omega
  have e1 := PL_val (n := n) (k := k) (t := projT n k) (r := r) (i := i) hj
  rw [getD_of h1] at e1
  have hlt := hlt' j hj
  have e2 : (projT n k).getD (atF n r.2 j (dg r.2.length k i)) 0 = ((atF n r.2 j (dg r.2.length k i) / n ^ (k - 1) : Nat) : Int) := by
   rw [getD_of (by simp [projT]; exact hlt)]; simp [projT]
  have e3 : atF n r.2 j (dg r.2.length k i) / n ^ (k - 1) = vt r.2 z j := by
   rw [hd]
   unfold atF
   rw [List.foldl_cons, fold_start, hrl]
   have h4 := fold_lt (n := n) (v := fun x => vt r.2 x j) rest 0 fun x hx => (ho.vt_lt (hdv x (by rw [hd]; exact List.mem_cons_of_mem _ hx)) hj).1
   rw [hrl] at h4
   rw [Nat.zero_mul, Nat.zero_add, Nat.mul_comm, Nat.mul_add_div (Nat.pow_pos (by omega)), Nat.div_eq_of_lt (by omega)]
   omega
  obtain ⟨_, v2, _⟩ := ho.vt_lt hz hj
  rw [e1, e2, e3, ← v2, getD_of hz, getD_of h2]
 rw [hrow]
 exact List.getElem_mem hz
theorem allT_ne (hR : RelsOk n k rels) : allT n k rels (List.replicate (n ^ k) (-1)) ≠ [] := fun e => by
 have hp := proj_tab hR.hn.1 hR.hk.1
 have : projT n k ∈ allT n k rels (List.replicate (n ^ k) (-1)) := (allT_iff hR).2 ⟨hp.1, hp.2, fun q hq => mst_free hq, proj_pol hR⟩
 rw [e] at this; simp at this
end
end T
open Go Go.Va
namespace T
theorem f12_L4 {N K : Int} (hN : N ≤ 100) (t4 : Int × List Int) : ∀ (d f k : Nat) (c : CurT) (o : List Int), d < f → Cur k c → k + 2 * d ≤ 500000 → o.length + d ≤ 1000 →
    ∃ c' o', spec_l1Cur_function12_L4 f (c, N, t4, (K, o), (d : Int)) = some (c', N, t4, (K, o')) ∧ Cur (k + 2 * d) c' ∧ o'.length = o.length + d
  | 0, f, k, c, o, hf, hc, hk, ho => by
    obtain ⟨f, rfl⟩ := Nat.exists_eq_add_of_le' hf
    refine ⟨c, o, ?_, hc, rfl⟩
    simp only [spec_l1Cur_function12_L4]
    rw [if_neg (by simp)]
  | d + 1, f, k, c, o, hf, hc, hk, ho => by
    obtain ⟨f, rfl⟩ := Nat.exists_eq_add_of_le' (show 1 ≤ f by omega)
    obtain ⟨c1, x, e1, g1, _⟩ := pick_ok hc (by omega) N (by omega)
    obtain ⟨c2, o2, e2, g2, h2⟩ := f12_L4 hN t4 d f (k + 2) c1 (o ++ [x]) (by omega) g1 (by omega) (by simp; omega)
    refine ⟨c2, o2, ?_, g2.mono (by omega), by rw [h2]; simp; omega⟩
    have e1 : spec_l1Cur_pick (c.1, (c.2.1, c.2.2)) N = _ := e1
    have ew : w64 (((d + 1 : Nat) : Int) - 1) = (d : Int) := by rw [w64_def]; omega
    simp only [spec_l1Cur_function12_L4, e1, Option.bind_some, ew]
    rw [if_pos (by rw [decide_eq_true_eq]; omega), if_pos (by rw [List.length_singleton]; unfold lim; omega)]
    exact e2
theorem proj_L3 {N K p : Nat} (hN : 1 ≤ N ∧ N ≤ 64) (hK : K ≤ 3) (hp : p < K) : ∀ (d f i : Nat) (o : List Int), i + d = N ^ K → d < f → o.length = i →
    ∃ o', spec_l12Projection_L3 f ((N : Int), (K : Int), (p : Int), o, (i : Int)) = some o' ∧ o'.length = N ^ K
  | 0, f, i, o, hi, hf, ho => by
    obtain ⟨f, rfl⟩ := Nat.exists_eq_add_of_le' hf
    have e1 := spec_pow64 hN.2 hK
    refine ⟨o, ?_, by omega⟩
    simp only [spec_l12Projection_L3, e1, Option.bind_some]
    rw [if_neg (by rw [decide_eq_true_eq]; omega)]
  | d + 1, f, i, o, hi, hf, ho => by
    obtain ⟨f, rfl⟩ := Nat.exists_eq_add_of_le' (show 1 ≤ f by omega)
    have hq := pow64 hN.2 hK
    have e1 := spec_pow64 hN.2 hK
    have e2 := spec_l2Args_ok (b := N) (k := K) (i := i) (by omega) (by omega) (by omega)
    have hl : p < (cI (dg N K i)).length := by rw [cI_len, dg_len]; exact hp
    obtain ⟨o', e3, h3⟩ := proj_L3 hN hK hp d f (i + 1) (o ++ [(cI (dg N K i)).getD p 0]) (by omega) (by omega) (by simp; omega)
    refine ⟨o', ?_, h3⟩
    simp only [spec_l12Projection_L3, e1, e2, Option.bind_some, inb_nat, hl, gd_D, if_true, w64_succ (show i < 4611686018427387904 by omega)]
    rw [if_pos (by rw [decide_eq_true_eq]; omega), if_pos (by rw [List.length_singleton]; unfold lim; omega)]
    exact e3
theorem function12_ok {k : Nat} {c : CurT} (hc : Cur k c) (hk : k ≤ 100000) {n : Int} (hn : 0 ≤ n ∧ n ≤ 5) : ∃ c' op, spec_l1Cur_function12 c n = some (c', op) ∧ op.2.length ≤ 1000 := by
 obtain ⟨N, hN, eN⟩ : ∃ N : Nat, (1 ≤ N ∧ N ≤ 4) ∧ (spec_l1Most n 1).bind (fun r => spec_l1Least r 4) = some (N : Int) := by
  have h6 : n = 0 ∨ n = 1 ∨ n = 2 ∨ n = 3 ∨ n = 4 ∨ n = 5 := by omega
  rcases h6 with rfl | rfl | rfl | rfl | rfl | rfl
  ·exact ⟨1, by omega, by decide⟩
  ·exact ⟨1, by omega, by decide⟩
  ·exact ⟨2, by omega, by decide⟩
  ·exact ⟨3, by omega, by decide⟩
  ·exact ⟨4, by omega, by decide⟩
  ·exact ⟨4, by omega, by decide⟩
 obtain ⟨c1, K0, e1, g1, hK0⟩ := among_ok hc (by omega) (l := [1, 1, 2, 2, 2, 3, 0]) (by simp) (by simp)
 obtain ⟨K, hK, rfl⟩ : ∃ K : Nat, K ≤ 3 ∧ K0 = (K : Int) := by
  simp only [List.mem_cons, List.mem_nil_iff, or_false] at hK0
  exact ⟨K0.toNat, by omega, by omega⟩
 have e2 := spec_pow64 (b := N) (k := K) (by omega) hK
 have hp := pow_le3 (n := N) (k := K) hN.2 hK
 have hp0 : 0 < N ^ K := Nat.pow_pos (by omega)
 obtain ⟨c2, o, e3, g3, h3⟩ := f12_L4 (N := (N : Int)) (K := (K : Int)) (by omega) (0, []) (N ^ K) fuel (k + 2) c1 [] (by unfold fuel; omega) g1 (by omega) (by simp; omega)
 have h3 : o.length = N ^ K := by simpa using h3
 obtain ⟨c3, x, e4, g4, hx, hx12, _⟩ := pick_ok g3 (by omega) 12 (by omega)
 unfold spec_l1Cur_function12
 cases hm : spec_l1Most n 1 with
 | none => rw [hm] at eN; simp at eN
 | some r1 =>
  rw [hm] at eN
  have eN : spec_l1Least r1 4 = some (N : Int) := eN
  have e1 : spec_l1Cur_among (c.1, (c.2.1, c.2.2)) [1, 1, 2, 2, 2, 3, 0] = _ := e1
  have e3 : spec_l1Cur_function12_L4 fuel ((c1.1, (c1.2.1, c1.2.2)), (N : Int), (0, []), ((K : Int), []), ((N ^ K : Nat) : Int)) = _ := e3
  have e4 : spec_l1Cur_pick (c2.1, (c2.2.1, c2.2.2)) 12 = _ := e4
  simp only [Option.bind_some, eN, e1, e2, e3, e4]
  by_cases x0 : x = 0
  ·rw [if_pos (by simp [x0])]
   by_cases hK0 : (K : Int) > 0
   ·rw [if_pos (by simpa using hK0)]
    obtain ⟨c5, y, e5, g5, hy, hy2, _⟩ := pick_ok g4 (by omega) (K : Int) (by omega)
    have e5 : spec_l1Cur_pick (c3.1, (c3.2.1, c3.2.2)) (K : Int) = _ := e5
    have hyK := hy2 (by omega)
    obtain ⟨o', e6, h6⟩ := proj_L3 (N := N) (K := K) (p := y.toNat) ⟨hN.1, by omega⟩ hK (by omega) (N ^ K) fuel 0 [] (by omega) (by unfold fuel; omega) rfl
    rw [Int.toNat_of_nonneg hy] at e6
    have e6 : spec_l12Projection_L3 fuel ((N : Int), (K : Int), y, [], 0) = _ := e6
    unfold spec_l12Projection
    simp only [e5, e6, Option.bind_some]
    exact ⟨_, _, rfl, by show o'.length ≤ 1000; omega⟩
   ·rw [if_neg (by simpa using hK0)]
    exact ⟨_, _, rfl, by show o.length ≤ 1000; omega⟩
  ·rw [if_neg (by simpa using x0)]
   by_cases x1 : x = 1
   ·rw [if_pos (by simp [x1])]
    obtain ⟨c5, y, e5, g5, hy, hy2, _⟩ := pick_ok g4 (by omega) (o.length : Int) (by omega)
    obtain ⟨c6, z, e6, g6, _⟩ := among_ok g5 (by omega) (l := [(-1), (N : Int), 0]) (by simp) (by simp)
    have e5 : spec_l1Cur_pick (c3.1, (c3.2.1, c3.2.2)) (o.length : Int) = _ := e5
    have e6 : spec_l1Cur_among (c5.1, (c5.2.1, c5.2.2)) [(-1), (N : Int), 0] = _ := e6
    have hin : inb y o := ⟨hy, hy2 (by omega)⟩
    simp only [e5, e6, Option.bind_some, hin, if_true]
    refine ⟨_, _, rfl, ?_⟩
    show (stt o y z).length ≤ 1000
    unfold stt; simp; omega
   ·rw [if_neg (by simpa using x1)]
    by_cases x2 : x = 2
    ·rw [if_pos (by simp [x2]), if_pos (by simp; unfold lim; omega)]
     exact ⟨_, _, rfl, by show (o ++ [0]).length ≤ 1000; simp; omega⟩
    ·rw [if_neg (by simpa using x2)]
     exact ⟨_, _, rfl, by show o.length ≤ 1000; omega⟩
theorem DrawIsPolymorphism_ok {code : List Int} (h1 : code.length ≤ 65536) (h2 : ∀ x ∈ code, 0 ≤ x ∧ x < 256) : ∃ n rels op, spec_DrawIsPolymorphism code = some (n, rels, op) ∧ 0 ≤ n ∧ n ≤ 5 ∧ relsB rels ∧ op.2.length ≤ 1000 := by
 obtain ⟨c1, n, rels, e1, g1, a, b, hB⟩ := template_ok (k := 0) (c := (code, (0, 0))) ⟨h1, h2, by simp, by simp⟩ (by omega)
 obtain ⟨c2, k, e2, g2, d⟩ := arity_ok g1 (by omega)
 have e2 : spec_l1Cur_arity12 (c1.1, (c1.2.1, c1.2.2)) = _ := e2
 have hs := relsB_S hB
 unfold spec_DrawIsPolymorphism
 simp only [e1, e2, Option.bind_some, spec_l14Small_ok hs]
 have fin : ∀ {j : Nat} {c : CurT}, Cur j c → j ≤ 100000 → ∃ n' rels' op, ((spec_l1Cur_function12 (c.1, (c.2.1, c.2.2)) n).bind fun r10 => some (n, rels, (r10.2.1, r10.2.2))) = some (n', rels', op) ∧ 0 ≤ n' ∧ n' ≤ 5 ∧ relsB rels' ∧ op.2.length ≤ 1000 := fun {j c} hc hj => by
  obtain ⟨c', op, e, hl⟩ := function12_ok hc hj (n := n) ⟨a, b⟩
  have e : spec_l1Cur_function12 (c.1, (c.2.1, c.2.2)) n = _ := e
  rw [e]
  exact ⟨n, rels, op, rfl, a, b, hB, hl⟩
 cases hp : polyB n rels k with
 | false =>
  simp only [Bool.false_eq_true, if_false]
  exact fin g2 (by omega)
 | true =>
  obtain ⟨hn, hk, h9, hR⟩ := polyB_of hp
  obtain ⟨c3, x, e3, g3⟩ := one_ok g2 (by omega) 2 (by omega)
  have e3 : spec_l1Cur_one (c2.1, (c2.2.1, c2.2.2)) 2 = _ := e3
  simp only [if_true, e3, Option.bind_some]
  cases x with
  | false =>
   simp only [Bool.false_eq_true, if_false]
   exact fin g3 (by omega)
  | true =>
   obtain ⟨p1, p2⟩ := powI_ok hn hk
   obtain ⟨s, b', q1, q2⟩ := spec_l14All_ok hR (given := List.replicate (n.toNat ^ k.toNat) (-1)) (by simp) (small9 hR.hn h9) (most := 20) (by omega)
   rw [foldS_many (by omega)] at q1
   have q1 := (Option.some.inj q1).symm
   simp only [Prod.mk.injEq] at q1
   obtain ⟨rfl, rfl⟩ := q1
   rw [Int.toNat_of_nonneg (by omega), Int.toNat_of_nonneg (by omega)] at q2
   simp only [if_true, p2, freeS_ok (show n.toNat ^ k.toNat ≤ 1000 by omega), q2, Option.bind_some]
   generalize hL : ([] ++ List.take ((20 : Int) - (([] : List (List Int)).length : Int)).toNat (allT n.toNat k.toNat rels (List.replicate (n.toNat ^ k.toNat) (-1)))) = L
   have hLm : L.length ≤ 20 ∧ ∀ t ∈ L, t.length = n.toNat ^ k.toNat := by
    rw [← hL]
    refine ⟨by simp; omega, fun t ht => ?_⟩
    rw [List.nil_append] at ht
    exact (allT_mem (List.mem_of_mem_take ht)).1
   by_cases hl : (L.length : Int) > 0
   ·rw [if_pos (by simpa using hl)]
    obtain ⟨c5, y, e5, g5, hy, hy2, _⟩ := pick_ok g3 (by omega) (L.length : Int) (by omega)
    have e5 : spec_l1Cur_pick (c3.1, (c3.2.1, c3.2.2)) (L.length : Int) = _ := e5
    have hin : inb y L := ⟨hy, hy2 (by omega)⟩
    have hm : (gd L y []).length ≤ 9 := by
     unfold gd
     rw [getD_of (show y.toNat < L.length by have := hin.2; omega)]
     rw [hLm.2 _ (List.getElem_mem _)]; exact h9
    have e6 := spec_l1Own_ok (l := gd L y []) (by omega)
    simp only [e5, Option.bind_some, hin, if_true, e6]
    exact ⟨n, rels, _, rfl, a, b, hB, by show (gd L y []).length ≤ 1000; omega⟩
   ·rw [if_neg (by simpa using hl)]
    exact fin g3 (by omega)
end T
open Go Go.Va
namespace T
section
variable {n k : Int} {rels : List RelT} {op : Opn}
def isPR (n : Int) (rels : List RelT) (op : Opn) : Bool × Bool := if tmplB n rels && fewB op.1 rels && opB n op then (decide (op.1 > 0) && polK n.toNat op.1.toNat rels op.2, true) else (false, false)
theorem op_parts (h : opB n op = true) : (0 ≤ op.1 ∧ op.1 ≤ 3) ∧ (op.2.length : Int) = n ^ op.1.toNat ∧ ∀ x ∈ op.2, 0 ≤ x ∧ x < n := by
 unfold opB belowB at h
 simp only [Bool.and_eq_true, decide_eq_true_eq, List.all_eq_true] at h
 exact ⟨h.1.1, h.1.2, h.2⟩
theorem op_tab (hn : 1 ≤ n ∧ n ≤ 4) (h : opB n op = true) : tabB n.toNat op.1.toNat op.2 := by
 obtain ⟨h1, h2, h3⟩ := op_parts h
 refine ⟨?_, fun x hx => by have := h3 x hx; omega⟩
 have e : ((n.toNat ^ op.1.toNat : Nat) : Int) = n ^ op.1.toNat := by rw [Int.natCast_pow, Int.toNat_of_nonneg (by omega)]
 rw [← e] at h2
 exact Int.ofNat_inj.1 h2
theorem kok_of {n k m : Nat} {r : RelT} {op : Opn} (h : ROk n m r) (hn : 1 ≤ n ∧ n ≤ 4) (hk : 1 ≤ k ∧ k ≤ 3) (ho : op.1 = (k : Int)) (ht : tabB n k op.2) : KOk n k m op r :=
 ⟨ho, hk, hn, ht.1, ht.2, h.ar, h.hm, h.tl, h.tv, h.many, h.inc⟩
theorem keepsAll_ok {n k : Nat} (hR : RelsOk n k rels) (ho : op.1 = (k : Int)) (ht : tabB n k op.2) : impl_keepsAll (n : Int) rels op = some (polK n k rels op.2) := by
 have hl := hR.len
 obtain ⟨o1, o2⟩ := op
 unfold impl_keepsAll
 rw [allX rels (fun f i => impl_keepsAll_L2 f ((n : Int), (o1, o2), rels, (rels.length : Int), i)) (fun r => kB n k r.1.toNat ((k : Int), o2) r) (.inr false) (.inl ()) ?_ ?_ (by unfold fuel; omega)]
 ·unfold polK
  dsimp only
  cases rels.all (fun r => kB n k r.1.toNat ((k : Int), o2) r) <;> simp
 ·intro f i hi
  obtain ⟨z, e, hz⟩ := impl_firstBreak_ok (kok_of (op := (o1, o2)) (hR.ok _ (List.getElem_mem hi)) hR.hn hR.hk ho ht)
  have e : impl_firstBreak (n : Int) (o1, o2) (rels[i].1, rels[i].2) = some z := e
  have hz : z.2.2 = !kB n k rels[i].1.toNat ((k : Int), o2) rels[i] := hz
  simp only [impl_keepsAll_L2, inb_nat, hi, gd_nat hi, e, hz, Option.bind_some, if_true, w64_succ (show i < 4611686018427387904 by omega)]
  rw [if_pos (by simp; omega)]
  cases kB n k rels[i].1.toNat ((k : Int), o2) rels[i] <;> simp
 ·intro f
  simp only [impl_keepsAll_L2]
  rw [if_neg (by simp)]
theorem impl_IsPol_ok (hs : relsS rels) (ho : op.2.length ≤ 1048576) : impl_IsPolymorphism n rels op = some (isPR n rels op) := by
 unfold impl_IsPolymorphism isPR
 rw [impl_canAsk_ok hs]
 cases hc : tmplB n rels && fewB op.1 rels with
 | false => simp
 | true =>
  have hc' := hc
  rw [Bool.and_eq_true] at hc'
  obtain ⟨hn, _, _⟩ := tmpl_of hc'.1
  have e1 := impl_isOp_ok (n := n) (f := op) (by omega) ho
  have e1 : impl_isOp (op.1, op.2) n = _ := e1
  simp only [Option.bind_some, Bool.not_true, Bool.false_eq_true, if_false, e1, Bool.true_and]
  cases hb : opB n op with
  | false => simp
  | true =>
   simp only [Bool.not_true, Bool.false_eq_true, if_false, if_true]
   by_cases h0 : op.1 > 0
   ·rw [if_pos (by simpa using h0)]
    have hp := (op_parts hb).1
    have hR := rels_of (k := op.1.toNat) hc'.1 (by omega)
    have e2 := keepsAll_ok (op := op) hR (by omega) (op_tab hn hb)
    rw [Int.toNat_of_nonneg (show 0 ≤ n by omega)] at e2
    have e2 : impl_keepsAll n rels (op.1, op.2) = _ := e2
    rw [e2, decide_eq_true h0]; rfl
   ·rw [if_neg (by simpa using h0), decide_eq_false h0]; rfl
theorem l14Rels_ok (hs : relsS rels) (hn : 1 ≤ n ∧ n ≤ 4) : spec_l14Rels n rels = some (decide (rels.length ≤ 4) && rels.all (relB n)) := by
 have hl := hs.1
 unfold spec_l14Rels
 by_cases h2 : rels.length ≤ 4
 ·rw [if_neg (by simp; omega)]
  have e1 := allX rels (fun f i => spec_l14Rels_L4 f (n, rels, i)) (relB n) (.inr false) (.inl ()) (fun f i hi => by
   have := hs.2 _ (List.getElem_mem hi)
   simp only [spec_l14Rels_L4, inb_nat, hi, gd_nat hi, spec_l13Good_ok (n := n) this (by omega), Option.bind_some, w64_succ (show i < 4611686018427387904 by omega)]
   rw [if_pos (by simp; omega)]
   cases relB n rels[i] <;> simp) (fun f => by simp [spec_l14Rels_L4]) (n := fuel) (by unfold fuel; omega)
  rw [e1, decide_eq_true h2, Bool.true_and]
  cases rels.all (relB n) <;> simp
 ·rw [if_pos (by simp; omega), decide_eq_false h2, Bool.false_and]
theorem spec_L6 {n k : Nat} (hR : RelsOk n k rels) (ho : op.1 = (k : Int)) (ht : tabB n k op.2) : spec_IsPolymorphism_L6 fuel ((n : Int), rels, op, 0) = some (if polK n k rels op.2 then .inl () else .inr (false, true)) := by
 have hl := hR.len
 obtain ⟨o1, o2⟩ := op
 have := allX rels (fun f i => spec_IsPolymorphism_L6 f ((n : Int), rels, (o1, o2), i)) (fun r => kB n k r.1.toNat ((k : Int), o2) r) (.inr (false, true)) (.inl ()) ?_ ?_ (n := fuel) (by unfold fuel; omega)
 ·exact this
 ·intro f i hi
  have e := spec_l13Keeps_ok (kok_of (op := (o1, o2)) (hR.ok _ (List.getElem_mem hi)) hR.hn hR.hk ho ht)
  have e : spec_l13Keeps (n : Int) (o1, o2) rels[i] = some (kB n k rels[i].1.toNat ((k : Int), o2) rels[i]) := e
  simp only [spec_IsPolymorphism_L6, inb_nat, hi, gd_nat hi, e, Option.bind_some, if_true, w64_succ (show i < 4611686018427387904 by omega)]
  rw [if_pos (by simp; omega)]
  cases kB n k rels[i].1.toNat ((k : Int), o2) rels[i] <;> simp
 ·intro f
  simp only [spec_IsPolymorphism_L6]
  rw [if_neg (by simp)]
theorem spec_IsPol_ok (hs : relsS rels) (ho : op.2.length ≤ 1048576) : spec_IsPolymorphism n rels op = some (isPR n rels op) := by
 unfold spec_IsPolymorphism isPR spec_l14Size
 rw [spec_l1In_ok]
 by_cases hn : 1 ≤ n ∧ n ≤ 4
 ·rw [decide_eq_true hn]
  simp only [Option.bind_some, Bool.not_true, Bool.false_eq_true, if_false, l14Rels_ok hs hn]
  cases hr : decide (rels.length ≤ 4) && rels.all (relB n) with
  | false =>
   have : tmplB n rels = false := by unfold tmplB; rw [decide_eq_true hn, Bool.true_and, hr]
   rw [this]; simp
  | true =>
   have ht : tmplB n rels = true := by unfold tmplB; rw [decide_eq_true hn, Bool.true_and, hr]
   have e1 := spec_l2Op_ok (n := n) (f := op) (by omega) ho
   have e1 : spec_l2Op n (op.1, op.2) = _ := e1
   simp only [Bool.not_true, Bool.false_eq_true, if_false, e1, Option.bind_some, ht, Bool.true_and]
   cases hb : opB n op with
   | false => simp
   | true =>
    have hp := (op_parts hb).1
    have hR := fun h : 1 ≤ op.1.toNat ∧ op.1.toNat ≤ 3 => rels_of (k := op.1.toNat) ht h
    simp only [Bool.not_true, Bool.false_eq_true, if_false, Bool.and_true]
    by_cases h0 : op.1 > 0
    ·rw [if_pos (by simpa using h0), spec_l14Takes_ok hs, ht, decide_eq_true (show 1 ≤ op.1 ∧ op.1 ≤ 3 by omega)]
     simp only [Option.bind_some, Bool.true_and]
     cases hf : fewB op.1 rels with
     | false => simp
     | true =>
      have e2 := spec_L6 (op := op) (hR (by omega)) (by omega) (op_tab hn hb)
      rw [Int.toNat_of_nonneg (show 0 ≤ n by omega)] at e2
      have e2 : spec_IsPolymorphism_L6 fuel (n, rels, (op.1, op.2), 0) = _ := e2
      simp only [Bool.not_true, Bool.false_eq_true, if_false, e2, Option.bind_some, if_true, decide_eq_true h0, Bool.true_and]
      rw [if_neg (by simp; omega)]
      cases polK n.toNat op.1.toNat rels op.2 <;> rfl
    ·have hz : op.1 = 0 := by omega
     have hf : fewB op.1 rels = true := by unfold fewB; rw [hz]; simp
     rw [if_neg (by simpa using h0), if_pos (by simp [hz]), hf, decide_eq_false h0]; rfl
 ·rw [decide_eq_false hn]
  have : tmplB n rels = false := by unfold tmplB; rw [decide_eq_false hn]; rfl
  rw [this]; simp
theorem spec_CountPol_ok (h : relsS rels) : spec_CountPolymorphisms n rels k = some (if polyB n rels k then (((allT n.toNat k.toNat rels (List.replicate (n.toNat ^ k.toNat) (-1))).length : Int), true) else (0, false)) := by
 unfold spec_CountPolymorphisms
 rw [spec_l14Small_ok h]
 cases hb : polyB n rels k with
 | false => simp
 | true =>
  obtain ⟨hn, hk, h9, hR⟩ := polyB_of hb
  obtain ⟨p1, p2⟩ := powI_ok hn hk
  obtain ⟨s, b', q1, q2⟩ := spec_l14All_ok hR (given := List.replicate (n.toNat ^ k.toNat) (-1)) (by simp) (small9 hR.hn h9) (most := 0) (by omega)
  rw [foldS_many (by omega)] at q1
  have q1 := (Option.some.inj q1).symm
  simp only [Prod.mk.injEq] at q1
  obtain ⟨rfl, rfl⟩ := q1
  rw [Int.toNat_of_nonneg (by omega), Int.toNat_of_nonneg (by omega)] at q2
  simp only [Option.bind_some, Bool.not_true, Bool.false_eq_true, if_false, p2, freeS_ok (show n.toNat ^ k.toNat ≤ 1000 by omega), q2, if_true, Int.zero_add]
theorem Extend_val {values : List Int} (h : relsS rels) (hv : values.length ≤ 1048576) (hb : polyB n rels k = true) (hl : values.length = n.toNat ^ k.toNat) (ha : ∀ x ∈ values, -1 ≤ x ∧ x ≤ n - 1) :
    impl_ExtendPolymorphism n rels k values = some (firstR k.toNat (allT n.toNat k.toNat rels values)) := by
  unfold impl_ExtendPolymorphism
  rw [impl_canAsk_ok h]
  obtain ⟨hn, hk, h9, hR⟩ := polyB_of hb
  have hb' := hb
  unfold polyB at hb'
  simp only [Bool.and_eq_true] at hb'
  obtain ⟨⟨ht, hf⟩, hr⟩ := hb'
  obtain ⟨p1, p2⟩ := powI_ok hn hk
  rw [ht, hf]
  simp only [Option.bind_some, Bool.and_self, Bool.not_true, Bool.false_eq_true, if_false, impl_range_ok (k := k) hn, hr.1, hr.2, p1]
  rw [if_neg (by rw [hl]; simp)]
  have e1 := allX values (fun f i => impl_ExtendPolymorphism_L4 f (n, rels, k, values, (0, []), values, (values.length : Int), i)) (fun x => decide (-1 ≤ x ∧ x ≤ n - 1)) (.inr ((0, []), false)) (.inl (n, rels, k, values, (0, []))) (fun f i hi => by
    simp only [impl_ExtendPolymorphism_L4, inb_nat, hi, gd_nat hi, w64_succ (show i < 4611686018427387904 by omega)]
    rw [if_pos (by simp; omega), if_pos trivial]
    by_cases c1 : values[i] < -1
    · rw [if_pos (by simpa using c1), if_neg (by simp; omega)]
    · rw [if_neg (by simpa using c1)]
      by_cases c2 : values[i] ≥ n
      · rw [if_pos (by simpa using c2), if_neg (by simp; omega)]
      · rw [if_neg (by simpa using c2), if_pos (by simp; omega)]) (fun f => by simp [impl_ExtendPolymorphism_L4]) (n := fuel) (by unfold fuel; omega)
  rw [e1, if_pos (by rw [List.all_eq_true]; intro x hx; simpa using ha x hx)]
  obtain ⟨q1, q2, q3⟩ := one_same hR (given := values) (by omega) (small9 hR.hn h9)
  rw [Int.toNat_of_nonneg (by omega), Int.toNat_of_nonneg (by omega)] at q1 q2
  simp only [Option.bind_some, q1]
theorem Extend_not {values : List Int} (h : relsS rels) (hb : polyB n rels k = false) : impl_ExtendPolymorphism n rels k values = some ((0, []), false) := by
 unfold impl_ExtendPolymorphism
 rw [impl_canAsk_ok h]
 cases hc : tmplB n rels && fewB k rels with
 | false => simp
 | true =>
  unfold polyB at hb
  rw [hc, Bool.true_and] at hb
  rw [Bool.and_eq_true] at hc
  simp only [Option.bind_some, Bool.not_true, Bool.false_eq_true, if_false, impl_range_ok (k := k) (tmpl_of hc.1).1, hb]
  rfl
end
end T
open Go Go.Va
namespace T
section
variable {n k : Nat} {t f : List Int} {inner : List (List Int)}
theorem opB_of (hn : 1 ≤ n ∧ n ≤ 4) (hk : k ≤ 3) (h : tabB n k t) : opB (n : Int) ((k : Int), t) = true := by
 unfold opB belowB
 simp only [Bool.and_eq_true, decide_eq_true_eq, List.all_eq_true]
 refine ⟨⟨by omega, ?_⟩, fun x hx => h.2 x hx⟩
 rw [h.1, Int.toNat_natCast, Int.natCast_pow]
theorem fC_bd {i : Nat} (hi : i < n ^ k) : ∀ (l : List (List Int)) (c : Nat), (∀ u ∈ l, tabB n k u) → l.foldl (fun a u => a * n + (u.getD i 0).toNat) c < (c + 1) * n ^ l.length
 | [], c, _ => by simp
 | u :: l, c, h => by
  have h1 := fC_bd hi l (c * n + (u.getD i 0).toNat) fun y hy => h y (List.mem_cons_of_mem _ hy)
  have h2 := tab_get (h u (List.mem_cons_self ..)) hi
  have h3 : (c * n + (u.getD i 0).toNat + 1) * n ^ l.length ≤ ((c + 1) * n) * n ^ l.length := Nat.mul_le_mul_right _ (by rw [Nat.succ_mul]; omega)
  rw [List.foldl_cons, List.length_cons, Nat.pow_succ]
  have h4 : ((c + 1) * n) * n ^ l.length = (c + 1) * (n ^ l.length * n) := by rw [Nat.mul_assoc, Nat.mul_comm n]
  omega
theorem ct_L7 (hn : 1 ≤ n ∧ n ≤ 4) (hl : inner.length ≤ 3) (h : ∀ u ∈ inner, tabB n k u) {i : Nat} (hi : i < n ^ k) (F : Opn) (T : List Int) (t17 t18 : Int) :
    impl_composeTables_L7 fuel ((n : Int), inner, F, T, (i : Int), 0, t17, t18, inner, (inner.length : Int), 0) = some ((n : Int), inner, F, T, (i : Int), ((fC n inner i : Nat) : Int), t17, t18) := by
  have := forS inner.length (fun m (s : Int) z => impl_composeTables_L7 m ((n : Int), inner, F, T, (i : Int), s, t17, t18, inner, (inner.length : Int), z)) (fun z => ((fC n (inner.take z) i : Nat) : Int)) (r := some ((n : Int), inner, F, T, (i : Int), ((fC n inner i : Nat) : Int), t17, t18)) (fun m z hz => ?_) (fun m => ?_) (n := fuel) (by unfold fuel; omega)
  · exact this
  · have hb := fC_bd hi (inner.take z) 0 fun u hu => h u (List.mem_of_mem_take hu)
    have hp := pow_le3 (n := n) (k := (inner.take z).length) hn.2 (by rw [List.length_take]; omega)
    obtain ⟨a1, a2⟩ := tab_get (h _ (List.getElem_mem hz)) hi
    have hul := (h _ (List.getElem_mem hz)).1
    have hil : i < inner[z].length := by omega
    have hv : inner[z].getD i 0 = (((inner[z].getD i 0).toNat : Nat) : Int) := by omega
    have hstep := w64_step (n := n) hn.2 (x := fC n (inner.take z) i) (v := (inner[z].getD i 0).toNat) (by unfold fC; omega) (by omega)
    rw [← hv] at hstep
    have htk : fC n (inner.take (z + 1)) i = fC n (inner.take z) i * n + (inner[z].getD i 0).toNat := by
      unfold fC; rw [List.take_succ_eq_append_getElem hz, List.foldl_append]; rfl
    simp only [impl_composeTables_L7, inb_nat, hz, gd_nat hz, hil, gd_D, hstep, htk, if_true, w64_succ (show z < 4611686018427387904 by omega)]
    rw [if_pos (by rw [decide_eq_true_eq]; omega)]
  · simp only [impl_composeTables_L7, List.take_length]
    rw [if_neg (by simp)]
def mixI (B : Nat → Int) (m j : Nat) : List Int := (List.range m).map fun i => if i < j then B i else 0
theorem mixI_len {B : Nat → Int} {m j : Nat} : (mixI B m j).length = m := by simp [mixI]
theorem mixI_set {B : Nat → Int} {m j : Nat} (h : j < m) : (mixI B m j).set j (B j) = mixI B m (j + 1) := by
 refine List.ext_getElem (by simp [mixI]) fun i h1 h2 => ?_
 rw [List.getElem_set]
 simp only [mixI, List.getElem_map, List.getElem_range]
 by_cases e : j = i
 ·subst e; simp
 ·rw [if_neg e]
  by_cases e' : i < j
  ·rw [if_pos e', if_pos (by omega)]
  ·rw [if_neg e', if_neg (by omega)]
theorem mixI_zero {B : Nat → Int} {m : Nat} : mixI B m 0 = List.replicate m 0 := by
 refine List.ext_getElem (by simp [mixI]) fun i h1 h2 => by simp [mixI]
theorem mixI_all {B : Nat → Int} {m : Nat} : mixI B m m = (List.range m).map B := by
 unfold mixI
 exact List.map_congr_left fun i hi => by rw [if_pos (List.mem_range.1 hi)]
theorem ct_ok (hn : 1 ≤ n ∧ n ≤ 4) (hk : k ≤ 3) (hl : inner.length = k) (h : ∀ u ∈ inner, tabB n k u) (hf : tabB n k f) (K : Int) :
    impl_composeTables (n : Int) (K, f) inner ((n ^ k : Nat) : Int) = some (compF n (n ^ k) f inner) := by
  have hp := pow_le3 (n := n) (k := k) hn.2 hk
  unfold impl_composeTables
  rw [if_pos (by unfold lim; omega), Int.toNat_natCast, List.length_replicate]
  have := forS (n ^ k) (fun m (o : List Int) i => impl_composeTables_L3 m ((n : Int), inner, (K, f), o, ((n ^ k : Nat) : Int), i)) (mixI (fun i => f.getD (fC n inner i) 0) (n ^ k)) (r := some (compF n (n ^ k) f inner)) (fun m i hi => ?_) (fun m => ?_) (n := fuel) (by unfold fuel; omega)
  · rw [mixI_zero] at this
    have this : impl_composeTables_L3 fuel ((n : Int), inner, (K, f), List.replicate (n ^ k) 0, ((n ^ k : Nat) : Int), 0) = _ := this
    rw [this]; rfl
  · have e1 := ct_L7 hn (by omega) h hi (K, f) (mixI (fun i => f.getD (fC n inner i) 0) (n ^ k) i) ((n ^ k : Nat) : Int) (i : Int)
    have hlt := fC_lt hl h hi
    have hfl : fC n inner i < f.length := by rw [hf.1]; exact hlt
    have hml : i < (mixI (fun i => f.getD (fC n inner i) 0) (n ^ k) i).length := by rw [mixI_len]; exact hi
    have hset := mixI_set (B := fun i => f.getD (fC n inner i) 0) hi
    simp only [impl_composeTables_L3, e1, Option.bind_some, inb_nat, hfl, hml, if_true, gd_D, stt_nat, hset, w64_succ (show i < 4611686018427387904 by omega)]
    rw [if_pos (by rw [decide_eq_true_eq]; omega)]
  · simp only [impl_composeTables_L3, mixI_all]
    rw [if_neg (by simp)]; rfl
theorem Compose_ok (hn : 1 ≤ n ∧ n ≤ 4) (hk : 1 ≤ k ∧ k ≤ 3) (hl : inner.length = k) (h : ∀ u ∈ inner, tabB n k u) (hf : tabB n k f) :
    impl_ComposeFunctions (n : Int) ((k : Int), f) (inner.map fun t => ((k : Int), t)) = some (((k : Int), compF n (n ^ k) f inner), true) := by
  have hp := pow_le3 (n := n) (k := k) hn.2 hk.2
  obtain ⟨L, hL⟩ : ∃ L, L = inner.map fun t => ((k : Int), t) := ⟨_, rfl⟩
  have hLl : L.length = k := by rw [hL, List.length_map, hl]
  have hLg : ∀ (i : Nat) (hi : i < k), gd L (i : Int) (0, []) = ((k : Int), inner[i]'(by omega)) := fun i hi => by
    rw [gd_nat (by omega)]; simp [hL]
  have e0 : sizeB (n : Int) = true := by unfold sizeB; simp; omega
  have e1 := impl_isOp_ok (n := (n : Int)) (f := ((k : Int), f)) (by omega) (by show f.length ≤ 1048576; rw [hf.1]; omega)
  rw [opB_of hn hk.2 hf] at e1
  have hg0 := hLg 0 (by omega)
  have hg0 : gd L 0 (0, []) = _ := hg0
  have hi0 : inb (0 : Int) L := ⟨by omega, by omega⟩
  have e2 := forS k (fun m (o : List (List Int)) i => impl_ComposeFunctions_L6 m ((n : Int), ((k : Int), f), (0, []), (k : Int), o, L, (k : Int), i)) (fun i => inner.take i) (r := some (.inl ((n : Int), ((k : Int), f), (0, []), (k : Int), inner))) (fun m i hi => by
    have hil : i < L.length := by omega
    have hi' : i < inner.length := by omega
    have hu := h _ (List.getElem_mem hi')
    have e3 := impl_isOp_ok (n := (n : Int)) (f := ((k : Int), inner[i])) (by omega) (by show inner[i].length ≤ 1048576; rw [hu.1]; omega)
    rw [opB_of hn hk.2 hu] at e3
    simp only [impl_ComposeFunctions_L6, inb_nat, hil, hLg i hi, e3, Option.bind_some, Bool.not_true, Bool.false_eq_true, if_false, if_true, w64_succ (show i < 4611686018427387904 by omega)]
    rw [if_pos (by rw [decide_eq_true_eq]; omega), if_neg (by simp), if_neg (by simp; omega), if_pos (by rw [List.length_take, List.length_singleton]; unfold lim; omega), List.take_succ_eq_append_getElem hi']) (fun m => by
    simp only [impl_ComposeFunctions_L6]
    rw [if_neg (by simp), List.take_of_length_le (by omega)]) (n := fuel) (by unfold fuel; omega)
  have e2 : impl_ComposeFunctions_L6 fuel ((n : Int), ((k : Int), f), (0, []), (k : Int), [], L, (k : Int), 0) = _ := e2
  have e4 := impl_power64 (b := n) (k := k) (by omega) hk.2
  have e5 := ct_ok hn hk.2 hl h hf (k : Int)
  unfold impl_ComposeFunctions
  rw [← hL]
  simp only [impl_isSize_ok, e0, e1, hLl, hg0, e2, e4, e5, Option.bind_some, Bool.not_true, Bool.false_eq_true, if_false, if_true, hi0]
  rw [if_neg (by simp; omega), if_neg (by simp)]
end
theorem rOp_ok {a b : Opn} (h : a.2.length ≤ 1048576) : laws_rOp a b = some (decide (a = b)) := by
 obtain ⟨a1, a2⟩ := a
 obtain ⟨b1, b2⟩ := b
 dsimp only at h
 unfold laws_rOp
 dsimp only
 by_cases e : a1 = b1
 ·subst e
  rw [if_pos (by simp), rInts_ok h]
  by_cases e' : a2 = b2
  ·subst e'; simp
  ·simp [e']
 ·rw [if_neg (by simpa using e)]
  simp [e]
theorem rOps_same {l : List Opn} (hl : l.length ≤ 1000) (h : ∀ f ∈ l, f.2.length ≤ 1000) : laws_rOps l l = some true := by
 unfold laws_rOps
 rw [if_neg (by simp)]
 have := forS l.length (fun f (_ : Unit) i => laws_rOps_L4 f (l, l, i)) (fun _ => ()) (r := some (.inl ())) (fun f i hi => ?_) (fun f => ?_) (n := fuel) (by unfold fuel; omega)
 ·have this : laws_rOps_L4 fuel (l, l, 0) = _ := this
  rw [this]; rfl
 ·have e := rOp_ok (a := l[i]) (b := l[i]) (by have := h _ (List.getElem_mem hi); omega)
  simp only [laws_rOps_L4, inb_nat, hi, gd_nat hi, e, Option.bind_some, if_true, decide_true, Bool.not_true, Bool.false_eq_true, if_false, w64_succ (show i < 4611686018427387904 by omega)]
  rw [if_pos (by simp; omega)]
 ·simp only [laws_rOps_L4]
  rw [if_neg (by simp)]
end T
open Go Go.Va
namespace T
def fpTail (t0 : List Int) : Option Bool :=
 (spec_DrawIsPolymorphism t0).bind fun r20 =>
  (impl_IsPolymorphism r20.1 r20.2.1 (r20.2.2.1, r20.2.2.2)).bind fun r21 =>
   (spec_IsPolymorphism r20.1 r20.2.1 (r20.2.2.1, r20.2.2.2)).bind fun r22 =>
    if r21.1 != r22.1 then
     some false
    else
     if r21.2 != r22.2 then
      some false
     else
      if r21.2 then
       if decide (r20.2.2.1 > 0) then
        (impl_ExtendPolymorphism r20.1 r20.2.1 r20.2.2.1 r20.2.2.2).bind fun r23 =>
         if r21.1 then
          if r23.2 != (decide ((r20.2.2.2.length : Int) ≤ 9)) then
           some false
          else
           if r23.2 then
            (laws_rOp (r23.1.1, r23.1.2) (r20.2.2.1, r20.2.2.2)).bind fun r24 =>
             if !r24 then
              some false
             else
              some true
           else
            some true
         else
          if r23.2 != false then
           some false
          else
           if r23.2 then
            (laws_rOp (r23.1.1, r23.1.2) (r20.2.2.1, r20.2.2.2)).bind fun r25 =>
             if !r25 then
              some false
             else
              some true
           else
            some true
       else
        some true
      else
       some true
section
variable {n k : Nat} {rels : List RelT} {t : List Int} {Lt : List (List Int)}
theorem isPR_true (hp : polyB (n : Int) rels (k : Int) = true) (ht : tabB n k t) (hk : polK n k rels t = true) : isPR (n : Int) rels ((k : Int), t) = (true, true) := by
 obtain ⟨h1, h2, h9, hR⟩ := polyB_of hp
 have hp' := hp
 unfold polyB at hp'
 simp only [Bool.and_eq_true] at hp'
 obtain ⟨⟨hT, hf⟩, _⟩ := hp'
 unfold isPR
 have ho := opB_of (n := n) (k := k) (t := t) (by omega) (by omega) ht
 dsimp only
 rw [hT, hf, ho, Int.toNat_natCast, Int.toNat_natCast, hk, decide_eq_true (show (k : Int) > 0 by omega)]
 rfl
theorem fp_L22 {L : List Opn} (h0 : 0 < L.length) (hl : L.length ≤ 1000) (hk : k ≤ 3) {i : Nat} (hi : i < 8) (code : List Int) (F : Opn) :
    laws_FnPolymorphisms_L22 fuel (code, (n : Int), rels, (k : Int), L, (i : Int), F, [], 0) = some (code, (n : Int), rels, (k : Int), L, (i : Int), F, (List.range k).map fun m => L.getD ((i * 5 + m * 3) % L.length) (0, [])) := by
  have := forS k (fun f (o : List Opn) m => laws_FnPolymorphisms_L22 f (code, (n : Int), rels, (k : Int), L, (i : Int), F, o, m)) (fun q => (List.range q).map fun m => L.getD ((i * 5 + m * 3) % L.length) (0, [])) (r := some (code, (n : Int), rels, (k : Int), L, (i : Int), F, (List.range k).map fun m => L.getD ((i * 5 + m * 3) % L.length) (0, []))) (fun f m hm => ?_) (fun f => ?_) (n := fuel) (by unfold fuel; omega)
  · exact this
  · have ew : Int.tmod (w64 ((w64 ((i : Int) * 5)) + (w64 ((m : Int) * 3)))) (L.length : Int) = (((i * 5 + m * 3) % L.length : Nat) : Int) := by
      have e1 : w64 ((i : Int) * 5) = ((i * 5 : Nat) : Int) := by rw [w64_def]; omega
      have e2 : w64 ((m : Int) * 3) = ((m * 3 : Nat) : Int) := by rw [w64_def]; omega
      have e3 : w64 (((i * 5 : Nat) : Int) + ((m * 3 : Nat) : Int)) = ((i * 5 + m * 3 : Nat) : Int) := by rw [w64_def]; omega
      rw [e1, e2, e3, tmodN]
    have hlt : (i * 5 + m * 3) % L.length < L.length := Nat.mod_lt _ h0
    simp only [laws_FnPolymorphisms_L22, ew, inb_nat, hlt, gd_D, if_true, List.range_succ, List.map_append, List.map_cons, List.map_nil, w64_succ (show m < 4611686018427387904 by omega)]
    rw [if_pos (by rw [decide_eq_true_eq]; omega), if_pos (by omega), if_pos (by simp; unfold lim; omega)]
  · simp only [laws_FnPolymorphisms_L22]
    rw [if_neg (by simp)]
theorem fp_L14 (hp : polyB (n : Int) rels (k : Int) = true) (hs : relsS rels) (hL : ∀ t ∈ Lt, tabB n k t ∧ polK n k rels t = true) (h0 : 0 < Lt.length) (hl : Lt.length ≤ 1000) (code : List Int) :
    laws_FnPolymorphisms_L14 fuel (code, (n : Int), rels, (k : Int), Lt.map fun t => ((k : Int), t), 0) = some (.inl (code, (n : Int), rels, (k : Int), Lt.map fun t => ((k : Int), t))) := by
  obtain ⟨h1, h2, h9, hR⟩ := polyB_of hp
  rw [Int.toNat_natCast, Int.toNat_natCast] at h9 hR
  obtain ⟨L, eL⟩ : ∃ L, L = Lt.map fun t => ((k : Int), t) := ⟨_, rfl⟩
  rw [← eL]
  have hLl : L.length = Lt.length := by rw [eL, List.length_map]
  have hLg : ∀ (i : Nat) (hi : i < Lt.length), L.getD i (0, []) = ((k : Int), Lt.getD i []) := fun i hi => by
    rw [getD_of (by omega), getD_of hi]; simp [eL]
  have hmem : ∀ (i : Nat), i < Lt.length → tabB n k (Lt.getD i []) ∧ polK n k rels (Lt.getD i []) = true := fun i hi => by
    rw [getD_of hi]; exact hL _ (List.getElem_mem hi)
  have := forS (min Lt.length 8) (fun f (_ : Unit) i => laws_FnPolymorphisms_L14 f (code, (n : Int), rels, (k : Int), L, i)) (fun _ => ()) (r := some (.inl (code, (n : Int), rels, (k : Int), L))) (fun f i hi => ?_) (fun f => ?_) (n := fuel) (by unfold fuel; omega)
  · exact this
  · have ew : Int.tmod (w64 ((i : Int) * 13)) (L.length : Int) = (((i * 13) % L.length : Nat) : Int) := by
      have e1 : w64 ((i : Int) * 13) = ((i * 13 : Nat) : Int) := by rw [w64_def]; omega
      rw [e1, tmodN]
    have hlt : (i * 13) % L.length < L.length := Nat.mod_lt _ (by omega)
    have hlt' : (i * 13) % L.length < Lt.length := by omega
    obtain ⟨a1, a2⟩ := hmem _ hlt'
    have hp64 := pow_le3 (n := n) (k := k) (by omega) (by omega)
    have e1 := impl_IsPol_ok (n := (n : Int)) (op := ((k : Int), Lt.getD ((i * 13) % L.length) [])) hs (by show (Lt.getD _ []).length ≤ 1048576; rw [a1.1]; omega)
    rw [isPR_true hp a1 a2] at e1
    have e2 := fp_L22 (n := n) (k := k) (rels := rels) (L := L) (by omega) (by omega) (by omega) (i := i) (by omega) code ((k : Int), Lt.getD ((i * 13) % L.length) [])
    have hidx : ∀ m : Nat, (i * 5 + m * 3) % L.length < Lt.length := fun m => by
      have := Nat.mod_lt (i * 5 + m * 3) (show 0 < L.length by omega)
      omega
    have einner : (List.range k).map (fun m => L.getD ((i * 5 + m * 3) % L.length) (0, [])) = ((List.range k).map fun m => Lt.getD ((i * 5 + m * 3) % L.length) []).map fun t => ((k : Int), t) := by
      rw [List.map_map]
      exact List.map_congr_left fun m _ => hLg _ (hidx m)
    rw [einner] at e2
    have hin : ∀ u ∈ (List.range k).map (fun m => Lt.getD ((i * 5 + m * 3) % L.length) []), tabB n k u ∧ polK n k rels u = true := fun u hu => by
      obtain ⟨m, _, rfl⟩ := List.mem_map.1 hu
      exact hmem _ (hidx m)
    have e3 := Compose_ok (n := n) (k := k) (f := Lt.getD ((i * 13) % L.length) []) (inner := (List.range k).map fun m => Lt.getD ((i * 5 + m * 3) % L.length) []) (by omega) (by omega) (by simp) (fun u hu => (hin u hu).1) a1
    have c1 := comp_tab (n := n) (k := k) a1 (inner := (List.range k).map fun m => Lt.getD ((i * 5 + m * 3) % L.length) []) (by simp) fun u hu => (hin u hu).1
    have c2 := comp_pol hR a1 a2 (inner := (List.range k).map fun m => Lt.getD ((i * 5 + m * 3) % L.length) []) (by simp) hin
    have e4 := impl_IsPol_ok (n := (n : Int)) (op := ((k : Int), compF n (n ^ k) (Lt.getD ((i * 13) % L.length) []) ((List.range k).map fun m => Lt.getD ((i * 5 + m * 3) % L.length) []))) hs (by show (compF _ _ _ _).length ≤ 1048576; rw [c1.1]; omega)
    rw [isPR_true hp c1 c2] at e4
    simp only [laws_FnPolymorphisms_L14, ew, inb_nat, hlt, gd_D, hLg _ hlt', if_true, e1, e2, e3, e4, Option.bind_some, Bool.not_true, Bool.false_eq_true, if_false, w64_succ (show i < 4611686018427387904 by omega)]
    rw [if_pos (by rw [decide_eq_true_eq]; omega), if_pos (by rw [decide_eq_true_eq]; omega), if_pos (by omega)]
  · simp only [laws_FnPolymorphisms_L14]
    by_cases hc : Lt.length ≤ 8
    · rw [Nat.min_eq_left hc, if_neg (by rw [decide_eq_true_eq]; omega)]
    · rw [Nat.min_eq_right (by omega), if_pos (by rw [decide_eq_true_eq]; omega), if_neg (by decide)]
theorem fp_L30 {L : List Opn} (h0 : 0 < L.length) (hl : (L.getD 0 (0, [])).2.length ≤ 1000) (code : List Int) (n k : Int) :
    laws_FnPolymorphisms_L30 fuel (code, n, rels, k, L, []) = some (code, n, rels, k, L, List.replicate (L.getD 0 (0, [])).2.length (-1)) := by
  have hi0 : inb (0 : Int) L := ⟨by omega, by omega⟩
  have hg : gd L 0 (0, []) = L.getD 0 (0, []) := rfl
  have := forS (L.getD 0 (0, [])).2.length (fun f (o : List Int) _ => laws_FnPolymorphisms_L30 f (code, n, rels, k, L, o)) (fun q => List.replicate q (-1)) (r := some (code, n, rels, k, L, List.replicate (L.getD 0 (0, [])).2.length (-1))) (fun f q hq => ?_) (fun f => ?_) (n := fuel) (by unfold fuel; omega)
  · exact this
  · simp only [laws_FnPolymorphisms_L30, hi0, hg, if_true, List.length_replicate]
    rw [if_pos (by rw [decide_eq_true_eq]; omega), if_pos (by simp; unfold lim; omega), List.replicate_succ']
  · simp only [laws_FnPolymorphisms_L30, hi0, hg, if_true, List.length_replicate]
    rw [if_neg (by simp)]
end
theorem fpTail_ok {code : List Int} (h1 : code.length ≤ 65536) (h2 : ∀ x ∈ code, 0 ≤ x ∧ x < 256) : fpTail code = some true := by
 obtain ⟨n, rels, op, e, a1, a2, hB, ho⟩ := DrawIsPolymorphism_ok h1 h2
 have hs := relsB_S hB
 have e1 := impl_IsPol_ok (n := n) (op := op) hs (by omega)
 have e2 := spec_IsPol_ok (n := n) (op := op) hs (by omega)
 have e1 : impl_IsPolymorphism n rels (op.1, op.2) = _ := e1
 have e2 : spec_IsPolymorphism n rels (op.1, op.2) = _ := e2
 unfold fpTail
 simp only [e, e1, e2, Option.bind_some, bne_self_eq_false, Bool.false_eq_true, if_false]
 by_cases hc : (tmplB n rels && fewB op.1 rels && opB n op) = true
 ·have hR : isPR n rels op = (decide (op.1 > 0) && polK n.toNat op.1.toNat rels op.2, true) := by unfold isPR; rw [if_pos hc]
  rw [hR]
  simp only [if_true]
  by_cases h0 : op.1 > 0
  ·rw [decide_eq_true h0]
   simp only [if_true, Bool.true_and]
   simp only [Bool.and_eq_true] at hc
   obtain ⟨⟨hT, hf⟩, hO⟩ := hc
   obtain ⟨hn, _, _⟩ := tmpl_of hT
   obtain ⟨p1, p2, p3⟩ := op_parts hO
   have ht := op_tab hn hO
   by_cases h9 : n.toNat ^ op.1.toNat ≤ 9
   ·have hp : polyB n rels op.1 = true := by
     unfold polyB; rw [hT, hf, decide_eq_true (show 1 ≤ op.1 ∧ op.1 ≤ 3 by omega), decide_eq_true h9]; rfl
    have hR := (polyB_of hp).2.2.2
    have e3 := Extend_val (values := op.2) hs (by omega) hp ht.1 (fun x hx => by have := p3 x hx; omega)
    rw [allT_told hR ht.1 ht.2] at e3
    have h99 : decide ((op.2.length : Int) ≤ 9) = true := by rw [ht.1]; exact decide_eq_true (by omega)
    have eK : ((op.1.toNat : Nat) : Int) = op.1 := Int.toNat_of_nonneg (by omega)
    cases hk : polK n.toNat op.1.toNat rels op.2 with
    | true =>
     rw [hk, if_pos rfl, eK] at e3
     have e5 := rOp_ok (a := (op.1, op.2)) (b := (op.1, op.2)) (by show op.2.length ≤ 1048576; omega)
     simp [e3, h99, e5]
    | false =>
     rw [hk, if_neg (by simp)] at e3
     simp [e3]
   ·have hp : polyB n rels op.1 = false := by
     unfold polyB; rw [decide_eq_false h9]; simp
    have e3 := Extend_not (values := op.2) hs hp
    have h99 : decide ((op.2.length : Int) ≤ 9) = false := by
     rw [ht.1]; exact decide_eq_false (by omega)
    rw [e3]
    simp only [Option.bind_some, h99]
    cases polK n.toNat op.1.toNat rels op.2 <;> simp
  ·rw [decide_eq_false h0]; simp
 ·have hR : isPR n rels op = (false, false) := by unfold isPR; rw [if_neg hc]
  rw [hR]; simp
theorem PolymorphismsOf_not {n k : Int} {rels : List RelT} (h : relsS rels) (hb : polyB n rels k = false) : impl_PolymorphismsOf n rels k = some ([], false) := by
 unfold impl_PolymorphismsOf
 rw [impl_canAsk_ok h]
 cases hc : tmplB n rels && fewB k rels with
 | false => simp
 | true =>
  unfold polyB at hb
  rw [hc, Bool.true_and] at hb
  rw [Bool.and_eq_true] at hc
  simp only [Option.bind_some, Bool.not_true, Bool.false_eq_true, if_false, impl_range_ok (k := k) (tmpl_of hc.1).1, hb]
  rfl
theorem FnPolymorphisms_law {code : List Int} (h : wfT (.slice (.num .u8)) code) : laws_FnPolymorphisms code = some true := by
 unfold laws_FnPolymorphisms laws_rBig
 simp only [Option.bind_some]
 by_cases hb : (code.length : Int) > 65536
 ·rw [if_pos (decide_eq_true hb)]
 ·rw [if_neg (by simpa using hb)]
  have h1 : code.length ≤ 65536 := by omega
  have h2 : ∀ x ∈ code, 0 ≤ x ∧ x < 256 := fun x hx => by
   have : IntKind.u8.min ≤ x ∧ x ≤ IntKind.u8.max := h.2 x hx
   have e1 : IntKind.u8.min = 0 := by decide
   have e2 : IntKind.u8.max = 255 := by decide
   omega
  obtain ⟨n, rels, k, ed, a1, a2, a3, a4, a5⟩ := DrawPolymorphismsOf_ok h1 h2
  have hs := relsB_S a3
  have hT := fpTail_ok h1 h2
  unfold fpTail at hT
  obtain ⟨R, r1, r2, r3⟩ := PolymorphismsOf_ok (n := n) (k := k) hs
  have c1 := CountPolymorphisms_ok (n := n) (k := k) hs
  have c2 := spec_CountPol_ok (n := n) (k := k) hs
  have ro := rOps_same r3.1 r3.2
  simp only [ed, Option.bind_some, r1, r2, c1, c2, ro, bne_self_eq_false, Bool.not_true, Bool.false_eq_true, if_false]
  cases hp : polyB n rels k with
  | false =>
   have e := PolymorphismsOf_not hs hp
   rw [r1] at e
   have e := Option.some.inj e
   subst e
   simp only [Bool.false_eq_true, if_false]
   exact hT
  | true =>
   have e := PolymorphismsOf_val hs hp
   rw [r1] at e
   have e := Option.some.inj e
   subst e
   obtain ⟨N, rfl⟩ : ∃ N : Nat, n = (N : Int) := ⟨n.toNat, by omega⟩
   obtain ⟨K, rfl⟩ : ∃ K : Nat, k = (K : Int) := ⟨k.toNat, by omega⟩
   obtain ⟨hn, hk, h9, hR⟩ := polyB_of hp
   simp only [Int.toNat_natCast] at h9 hR ⊢
   unfold listR
   by_cases hc : (allT N K rels (List.replicate (N ^ K) (-1))).length ≤ 300
   ·have hne := allT_ne hR
    obtain ⟨t0, Lt, eL⟩ : ∃ t0 Lt, allT N K rels (List.replicate (N ^ K) (-1)) = t0 :: Lt := by
     cases hl : allT N K rels (List.replicate (N ^ K) (-1)) with
     | nil => exact absurd hl hne
     | cons t l => exact ⟨t, l, rfl⟩
    have hall : ∀ t ∈ t0 :: Lt, tabB N K t ∧ polK N K rels t = true := fun t ht => by
     rw [← eL] at ht
     obtain ⟨b1, b2, _, b4⟩ := (allT_iff hR).1 ht
     exact ⟨⟨b1, b2⟩, b4⟩
    rw [eL] at hc
    have e14 := fp_L14 hp hs hall (by simp) (by omega) code
    have ht0 := (hall t0 (List.mem_cons_self ..)).1
    have hg0 : ((t0 :: Lt).map fun t => ((K : Int), t)).getD 0 (0, []) = ((K : Int), t0) := rfl
    have e30 := fp_L30 (rels := rels) (L := (t0 :: Lt).map fun t => ((K : Int), t)) (by simp) (by rw [hg0]; show t0.length ≤ 1000; rw [ht0.1]; omega) code (N : Int) (K : Int)
    rw [hg0] at e30
    have hrep : List.replicate (((K : Int), t0).2.length) (-1 : Int) = List.replicate (N ^ K) (-1) := by rw [show ((K : Int), t0).2.length = t0.length from rfl, ht0.1]
    rw [hrep] at e30
    have eX := Extend_val (n := (N : Int)) (k := (K : Int)) (values := List.replicate (N ^ K) (-1)) hs (by simp; omega) hp (by simp) (fun x hx => by rw [List.eq_of_mem_replicate hx]; omega)
    simp only [Int.toNat_natCast, eL] at eX
    have eX : impl_ExtendPolymorphism (N : Int) rels (K : Int) (List.replicate (N ^ K) (-1)) = some (((K : Int), t0), true) := eX
    have hg0' : gd ((t0 :: Lt).map fun t => ((K : Int), t)) 0 (0, []) = ((K : Int), t0) := rfl
    have hi0 : inb (0 : Int) ((t0 :: Lt).map fun t => ((K : Int), t)) := ⟨by omega, by simp⟩
    have er := rOp_ok (a := ((K : Int), t0)) (b := ((K : Int), t0)) (by show t0.length ≤ 1048576; rw [ht0.1]; omega)
    rw [eL, if_pos hc]
    have hlen : (((t0 :: Lt).map fun t => ((K : Int), t)).length : Int) = ((t0 :: Lt).length : Int) := by rw [List.length_map]
    simp only [if_true, hlen, bne_self_eq_false, Bool.false_eq_true, if_false, e14, e30, eX, Option.bind_some, Bool.not_true, hi0, hg0', er, decide_true]
    exact hT
   ·rw [if_neg hc]
    simp only [Bool.false_eq_true, if_false]
    exact hT
end T
