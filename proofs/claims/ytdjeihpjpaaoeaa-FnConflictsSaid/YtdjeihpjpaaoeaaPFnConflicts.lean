/- Plain lemmas on the typed functions of the program, and the plain law of FnConflicts; no conditions. -/
import Derived.Test.YtdjeihpjpaaoeaaV1
import Derived.Test.YtdjeihpjpaaoeaaV5
import Derived.KernelRfl
import Derived.Test.YtdjeihpjpaaoeaaOFnConflicts
set_option linter.all false
open Go Go.Va
namespace T
section
variable {V n : Nat} {cs : List Con}
def con0' : Con := ([], (0, []))
def selC (cs : List Con) (l : List Int) : List Con := l.map fun i => cs.getD i.toNat con0'
def idxOk (cs : List Con) (l : List Int) : Prop := l.length ≤ cs.length ∧ ∀ x ∈ l, 0 ≤ x ∧ x < (cs.length : Int)
theorem sel_ok (h : SrchOk V n cs) {l : List Int} (hl : idxOk cs l) : SrchOk V n (selC cs l) := by
 refine ⟨h.hv, h.hn, by have := h.hc; have := hl.1; unfold selC; rw [List.length_map]; omega, fun c hc => ?_⟩
 obtain ⟨x, hx, rfl⟩ := List.mem_map.1 hc
 have := hl.2 x hx
 rw [getD_of (by omega)]
 exact h.con _ (List.getElem_mem _)
theorem partOf_ok (h : SrchOk V n cs) {l : List Int} (hl : idxOk cs l) : impl_partOf ((V : Int), ((n : Int), cs)) l = some (l, ((V : Int), ((n : Int), selC cs l))) := by
 have hc := h.hc
 have hll := hl.1
 unfold impl_partOf
 have := forS l.length (fun f (o : List Con) i => impl_partOf_L3 f ((), l, ((V : Int), ((n : Int), cs)), ((0 : Int), ((0 : Int), ([] : List Con))), ((V : Int), ((n : Int), o)), (l.length : Int), i)) (fun k => selC cs (l.take k)) (r := some (l, ((0 : Int), ((0 : Int), ([] : List Con))), ((V : Int), ((n : Int), selC cs l)))) (fun f k hk => ?_) (fun f => ?_) (n := fuel) (by unfold fuel; omega)
 ·have this : impl_partOf_L3 fuel ((), l, ((V : Int), ((n : Int), cs)), ((0 : Int), ((0 : Int), ([] : List Con))), ((V : Int), ((n : Int), [])), (l.length : Int), 0) = _ := this
  simp only [this, Option.bind_some]
 ·have hx := hl.2 _ (List.getElem_mem hk)
  have hin : inb l[k] cs := by unfold inb; omega
  have hgd : gd cs l[k] ([], (0, [])) = cs.getD (l[k]).toNat con0' := rfl
  have htk : selC cs (l.take (k + 1)) = selC cs (l.take k) ++ [cs.getD (l[k]).toNat con0'] := by
   unfold selC
   rw [List.take_succ_eq_append_getElem hk, List.map_append]; rfl
  simp only [impl_partOf_L3, inb_nat, hk, gd_nat hk, hin, hgd, htk, if_true, w64_succ (show k < 4611686018427387904 by omega)]
  rw [if_pos (by simp; omega), if_pos (by simp [selC]; unfold lim; omega)]
 ·simp only [impl_partOf_L3, List.take_length]
  rw [if_neg (by simp)]
def lessL (core : List Int) (i : Nat) : List Int := core.filter fun x => x != (i : Int)
theorem less_idx {core : List Int} (hc : idxOk cs core) (i : Nat) : idxOk cs (lessL core i) := ⟨Nat.le_trans (List.length_filter_le _ _) hc.1, fun x hx => hc.2 x (List.mem_filter.1 hx).1⟩
theorem less_succ {core : List Int} {i k : Nat} (hk : k < core.length) : lessL (core.take (k + 1)) i = if core[k] != (i : Int) then lessL (core.take k) i ++ [core[k]] else lessL (core.take k) i := by
 unfold lessL
 rw [List.take_succ_eq_append_getElem hk, List.filter_append, List.filter_cons]
 split <;> simp_all
theorem impl_less (h : SrchOk V n cs) {core : List Int} (hco : idxOk cs core) (i : Nat) {t23 t24 : Int} :
    impl_ConflictCore_L9 fuel ((), ((V : Int), ((n : Int), cs)), core, (i : Int), [], t23, t24, (core.length : Int), 0) = some (((V : Int), ((n : Int), cs)), core, lessL core i, t23, t24) := by
  have hc := h.hc
  have hll := hco.1
  have := forS core.length (fun f (o : List Int) j => impl_ConflictCore_L9 f ((), ((V : Int), ((n : Int), cs)), core, (i : Int), o, t23, t24, (core.length : Int), j)) (fun k => lessL (core.take k) i) (r := some (((V : Int), ((n : Int), cs)), core, lessL core i, t23, t24)) (fun f k hk => ?_) (fun f => ?_) (n := fuel) (by unfold fuel; omega)
  · exact this
  · have hlen : (lessL (core.take k) i).length ≤ 40 := Nat.le_trans (List.length_filter_le _ _) (by rw [List.length_take]; omega)
    simp only [impl_ConflictCore_L9, inb_nat, hk, gd_nat hk, if_true, w64_succ (show k < 4611686018427387904 by omega), less_succ hk]
    have hl1 : (lessL (core.take k) i).length + [core[k]].length ≤ lim := by rw [List.length_singleton]; unfold lim; omega
    rw [if_pos (by simp; omega)]
    cases core[k] != (i : Int) with
    | true => simp only [if_true]; rw [if_pos hl1]
    | false => simp only [Bool.false_eq_true, if_false]
  · simp only [impl_ConflictCore_L9, List.take_length]
    rw [if_neg (by simp)]
theorem spec_lessL (h : SrchOk V n cs) {core : List Int} (hco : idxOk cs core) (i : Nat) :
    spec_ConflictCore_L9 fuel (((V : Int), ((n : Int), cs)), core, (i : Int), [], [], 0) = some (((V : Int), ((n : Int), cs)), core, (i : Int), lessL core i, selC cs (lessL core i)) := by
  have hc := h.hc
  have hll := hco.1
  have := forS core.length (fun f (o : List Int × List Con) j => spec_ConflictCore_L9 f (((V : Int), ((n : Int), cs)), core, (i : Int), o.1, o.2, j)) (fun k => (lessL (core.take k) i, selC cs (lessL (core.take k) i))) (r := some (((V : Int), ((n : Int), cs)), core, (i : Int), lessL core i, selC cs (lessL core i))) (fun f k hk => ?_) (fun f => ?_) (n := fuel) (by unfold fuel; omega)
  · exact this
  · have hlen : (lessL (core.take k) i).length ≤ 40 := Nat.le_trans (List.length_filter_le _ _) (by rw [List.length_take]; omega)
    have hx := hco.2 _ (List.getElem_mem hk)
    have hin : inb core[k] cs := by unfold inb; omega
    have hgd : gd cs core[k] ([], (0, [])) = cs.getD (core[k]).toNat con0' := rfl
    simp only [spec_ConflictCore_L9, inb_nat, hk, gd_nat hk, hin, hgd, if_true, w64_succ (show k < 4611686018427387904 by omega), less_succ hk]
    have hl1 : (lessL (core.take k) i).length + [core[k]].length ≤ lim := by rw [List.length_singleton]; unfold lim; omega
    have hl2 : (selC cs (lessL (core.take k) i)).length + [cs.getD (core[k]).toNat con0'].length ≤ lim := by rw [List.length_singleton]; unfold selC; rw [List.length_map]; unfold lim; omega
    have hse : selC cs (lessL (core.take k) i ++ [core[k]]) = selC cs (lessL (core.take k) i) ++ [cs.getD (core[k]).toNat con0'] := by unfold selC; rw [List.map_append]; rfl
    rw [if_pos (by simp; omega)]
    cases core[k] != (i : Int) with
    | true => simp only [if_true]; rw [if_pos hl1, if_pos hl2, hse]
    | false => simp only [Bool.false_eq_true, if_false]
  · simp only [spec_ConflictCore_L9, List.take_length]
    rw [if_neg (by simp)]
def isCon (V n : Nat) (cs : List Con) : Bool := (solsN V n cs (List.replicate V (-1))).isEmpty
def coreS (V n : Nat) (cs : List Con) : Nat → List Int
 | 0 => (List.range cs.length).map fun i : Nat => (i : Int)
 | k + 1 => if isCon V n (selC cs (lessL (coreS V n cs k) k)) then lessL (coreS V n cs k) k else coreS V n cs k
theorem coreS_succ {k : Nat} : coreS V n cs (k + 1) = if (solsN V n (selC cs (lessL (coreS V n cs k) k)) (List.replicate V (-1))).isEmpty then lessL (coreS V n cs k) k else coreS V n cs k := rfl
theorem core_idx : ∀ k, idxOk cs (coreS V n cs k)
 | 0 => ⟨by simp [coreS], fun x hx => by
  obtain ⟨i, hi, rfl⟩ := List.mem_map.1 hx
  have := List.mem_range.1 hi
  omega⟩
 | k + 1 => by
  unfold coreS
  split
  ·exact less_idx (core_idx k) k
  ·exact core_idx k
theorem identityI_ok {N : Nat} (h : N ≤ 1000) : impl_identityOf (N : Int) = some ((List.range N).map fun i : Nat => (i : Int)) := by
 unfold impl_identityOf
 rw [if_pos (by unfold lim; omega)]
 have := forS N (fun f (o : List Int) i => impl_identityOf_L3 f (o, (N : Int), i)) (mix (fun i : Nat => (i : Int)) (fun _ => 0) N) (r := some ((List.range N).map fun i : Nat => (i : Int))) (fun f k hk => ?_) (fun f => ?_) (n := fuel) (by unfold fuel; omega)
 ·have e0 : mix (fun i : Nat => (i : Int)) (fun _ => 0) N 0 = List.replicate N 0 := by
   unfold mix; simp [List.map_const']
  rw [e0] at this
  have e1 : impl_identityOf_L3 fuel (List.replicate (Int.toNat (N : Int)) (0 : Int), ((List.replicate (Int.toNat (N : Int)) (0 : Int)).length : Int), 0) = some ((List.range N).map fun i : Nat => (i : Int)) := by
   rw [List.length_replicate]; exact this
  rw [e1]; rfl
 ·have hin : k < (mix (fun i : Nat => (i : Int)) (fun _ => 0) N k).length := by rw [mix_len]; exact hk
  have hs := mix_set (nw := fun i : Nat => (i : Int)) (old := fun _ => 0) hk
  simp only [impl_identityOf_L3, inb_nat, hin, stt_nat, hs, if_true, w64_succ (show k < 4611686018427387904 by omega)]
  rw [if_pos (by simp; omega)]
 ·simp only [impl_identityOf_L3]
  rw [if_neg (by simp), mix_full]
def coreR (a : Net) : List Int × Bool := if netB a && isCon a.1.toNat a.2.1.toNat a.2.2 then (coreS a.1.toNat a.2.1.toNat a.2.2 a.2.2.length, true) else ([], false)
theorem ConflictCore_ok {a : Net} (h : netS a) : ∃ R : List Int × Bool, impl_ConflictCore a = some R ∧ spec_ConflictCore a = some R ∧ R.1.length ≤ 40 ∧ R = coreR a := by
 unfold impl_ConflictCore spec_ConflictCore
 rw [impl_IsNetwork_ok (a := (a.1, (a.2.1, a.2.2))) h, spec_l19Good_ok (a := (a.1, (a.2.1, a.2.2))) h]
 cases hb : netB a with
 | false =>
  exact ⟨([], false), by simp, by simp, by simp, by simp [coreR, hb]⟩
 | true =>
  have hN := net_of hb
  obtain ⟨v, nn, cs⟩ := a
  have hv := hN.hv
  have hn := hN.hn
  have hc := hN.hc
  have hcon := hN.con
  dsimp only at hv hn hc hcon
  obtain ⟨V, rfl⟩ : ∃ V : Nat, v = (V : Int) := ⟨v.toNat, by omega⟩
  obtain ⟨n, rfl⟩ : ∃ n : Nat, nn = (n : Int) := ⟨nn.toNat, by omega⟩
  have hS : SrchOk V n cs := ⟨by omega, by omega, hc, hcon⟩
  have e1 := solvable_ok hS
  have e2 := can_ok (cs0 := cs) hS
  simp only [Option.bind_some, Bool.not_true, Bool.false_eq_true, if_false, e1, e2]
  cases hs : (solsN V n cs (List.replicate V (-1))).isEmpty with
  | false => exact ⟨([], false), by simp, by simp, by simp, by simp [coreR, hb, isCon, hs]⟩
  | true =>
   simp only [Bool.not_true, Bool.false_eq_true, if_false]
   have e3 := identityI_ok (N := cs.length) (by omega)
   have e4 := spec_l6Identity_ok (n := cs.length) (by omega)
   have f1 := forS cs.length (fun f (o : List Int) i => impl_ConflictCore_L5 f (((V : Int), ((n : Int), cs)), o, (cs.length : Int), i)) (coreS V n cs) (r := some (coreS V n cs cs.length)) (fun f k hk => ?_) (fun f => ?_) (n := fuel) (by unfold fuel; omega)
   ·have f2 := forS cs.length (fun f (o : List Int) i => spec_ConflictCore_L5 f (((V : Int), ((n : Int), cs)), o, i)) (coreS V n cs) (r := some (coreS V n cs cs.length)) (fun f k hk => ?_) (fun f => ?_) (n := fuel) (by unfold fuel; omega)
    ·have f1 : impl_ConflictCore_L5 fuel (((V : Int), ((n : Int), cs)), (List.range cs.length).map (fun i : Nat => (i : Int)), (cs.length : Int), 0) = _ := f1
     have f2 : spec_ConflictCore_L5 fuel (((V : Int), ((n : Int), cs)), (List.range cs.length).map (fun i : Nat => (i : Int)), 0) = _ := f2
     simp only [e3, e4, Option.bind_some, f1, f2]
     exact ⟨_, rfl, rfl, by have := (core_idx (V := V) (n := n) (cs := cs) cs.length).1; dsimp only; omega, by simp [coreR, hb, isCon, hs]⟩
    ·have hco := core_idx (V := V) (n := n) (cs := cs) k
     have g1 := spec_lessL hS hco k
     have g2 := can_ok (cs0 := cs) (sel_ok hS (less_idx hco k))
     simp only [spec_ConflictCore_L5, g1, Option.bind_some, g2, w64_succ (show k < 4611686018427387904 by omega)]
     rw [if_pos (by simp; omega)]
     rw [coreS_succ]
     cases (solsN V n (selC cs (lessL (coreS V n cs k) k)) (List.replicate V (-1))).isEmpty <;> rfl
    ·simp only [spec_ConflictCore_L5]
     rw [if_neg (by simp)]
   ·have hco := core_idx (V := V) (n := n) (cs := cs) k
    have g1 := impl_less hS hco k (t23 := (cs.length : Int)) (t24 := (k : Int))
    have g2 := partOf_ok hS (less_idx hco k)
    have g3 := solvable_ok (sel_ok hS (less_idx hco k))
    simp only [impl_ConflictCore_L5, g1, Option.bind_some, g2, g3, w64_succ (show k < 4611686018427387904 by omega)]
    rw [if_pos (by simp; omega)]
    rw [coreS_succ]
    cases (solsN V n (selC cs (lessL (coreS V n cs k) k)) (List.replicate V (-1))).isEmpty <;> rfl
   ·simp only [impl_ConflictCore_L5]
    rw [if_neg (by simp)]
end
end T
set_option linter.unusedVariables false
open Go Go.Va
namespace T
def spec_l1Cur_next (c : (List Int) × Int × Int) : Option (((List Int) × Int × Int) × Int) :=
 if decide (c.2.1 < (c.1.length : Int)) then
  if inb c.2.1 c.1 then
   if decide ((w64 (c.2.1 + 1)) ≤ (c.1.length : Int)) then
    some ((c.1, (w64 (c.2.1 + 1), IntKind.wrap .u64 ((IntKind.wrap .u64 ((IntKind.wrap .u64 (c.2.2 * 6364136223846793005)) + (IntKind.wrap .u64 (w64 (gd c.1 c.2.1 0))))) + 550289))), w64 (gd c.1 c.2.1 0))
   else
    if (0 : Int) ≤ 40 then
     some ((c.1, (w64 (c.2.1 + 1), IntKind.wrap .u64 ((IntKind.wrap .u64 ((IntKind.wrap .u64 (c.2.2 * 6364136223846793005)) + (IntKind.wrap .u64 (w64 (gd c.1 c.2.1 0))))) + 550289))), w64 (andI .u64 (shrI .u64 (IntKind.wrap .u64 ((IntKind.wrap .u64 ((IntKind.wrap .u64 (c.2.2 * 6364136223846793005)) + (IntKind.wrap .u64 (w64 (gd c.1 c.2.1 0))))) + 550289)) 40) 255))
    else none
  else none
 else
  if decide ((w64 (c.2.1 + 1)) ≤ (c.1.length : Int)) then
   some ((c.1, (w64 (c.2.1 + 1), IntKind.wrap .u64 ((IntKind.wrap .u64 ((IntKind.wrap .u64 (c.2.2 * 6364136223846793005)) + (IntKind.wrap .u64 (0)))) + 550289))), 0)
  else
   if (0 : Int) ≤ 40 then
    some ((c.1, (w64 (c.2.1 + 1), IntKind.wrap .u64 ((IntKind.wrap .u64 ((IntKind.wrap .u64 (c.2.2 * 6364136223846793005)) + (IntKind.wrap .u64 (0)))) + 550289))), w64 (andI .u64 (shrI .u64 (IntKind.wrap .u64 ((IntKind.wrap .u64 ((IntKind.wrap .u64 (c.2.2 * 6364136223846793005)) + (IntKind.wrap .u64 (0)))) + 550289)) 40) 255))
   else none
def spec_l1Cur_pick (c : (List Int) × Int × Int) (n_ : Int) : Option (((List Int) × Int × Int) × Int) :=
 if decide (n_ ≤ 1) then
  some ((c.1, (c.2.1, c.2.2)), 0)
 else
  (spec_l1Cur_next (c.1, (c.2.1, c.2.2))).bind fun r1 =>
   if decide (n_ > 200) then
    (spec_l1Cur_next (r1.1.1, (r1.1.2.1, r1.1.2.2))).bind fun r2 =>
     if n_ ≠ 0 then
      some ((r2.1.1, (r2.1.2.1, r2.1.2.2)), Int.tmod (w64 ((w64 (r1.2 * 256)) + r2.2)) n_)
     else none
   else
    if n_ ≠ 0 then
     some ((r1.1.1, (r1.1.2.1, r1.1.2.2)), Int.tmod r1.2 n_)
    else none
def spec_l1Cur_among (c : (List Int) × Int × Int) (list : List Int) : Option (((List Int) × Int × Int) × Int) :=
 (spec_l1Cur_pick (c.1, (c.2.1, c.2.2)) (list.length : Int)).bind fun r1 =>
  if inb r1.2 list then
   some ((r1.1.1, (r1.1.2.1, r1.1.2.2)), gd list r1.2 0)
  else none
def spec_l1Cur_one (c : (List Int) × Int × Int) (n_ : Int) : Option (((List Int) × Int × Int) × Bool) :=
 (spec_l1Cur_pick (c.1, (c.2.1, c.2.2)) n_).bind fun r1 =>
  some ((r1.1.1, (r1.1.2.1, r1.1.2.2)), r1.2 == 0)
end T
open Go Go.Va
namespace T
abbrev CurT := List Int × Int × Int
def Cur (k : Nat) (c : CurT) : Prop := c.1.length ≤ 65536 ∧ (∀ x ∈ c.1, 0 ≤ x ∧ x < 256) ∧ 0 ≤ c.2.1 ∧ c.2.1 ≤ (k : Int)
theorem and255 (x : Int) : 0 ≤ w64 (andI .u64 x 255) ∧ w64 (andI .u64 x 255) < 256 := by
 have h1 : (BitVec.ofInt 64 x &&& BitVec.ofInt 64 255).toNat ≤ 255 := by
  rw [BitVec.toNat_and]
  have : (BitVec.ofInt 64 255).toNat = 255 := by decide
  rw [this]
  exact Nat.and_le_right
 have h2 : andI .u64 x 255 = ((BitVec.ofInt 64 x &&& BitVec.ofInt 64 255).toNat : Int) := by
  unfold andI
  have e : ∀ n : Nat, n ≤ 255 → IntKind.wrap .u64 (n : Int) = (n : Int) := fun n hn => by
   simp [IntKind.wrap, IntKind.bits, IntKind.signed]
   omega
  exact e _ h1
 rw [h2, w64_id (by omega) (by omega)]
 omega
theorem next_ok {k : Nat} {c : CurT} (h : Cur k c) (hk : k ≤ 1000000000) : ∃ c' x, spec_l1Cur_next c = some (c', x) ∧ Cur (k + 1) c' ∧ 0 ≤ x ∧ x < 256 := by
 obtain ⟨code, at', seed⟩ := c
 obtain ⟨h1, h2, h3, h4⟩ := h
 dsimp only at h1 h2 h3 h4
 have hw : w64 (at' + 1) = at' + 1 := w64_id (by omega) (by omega)
 have hC : ∀ s, Cur (k + 1) (code, (at' + 1, s)) := fun s => ⟨h1, h2, by dsimp only; omega, by dsimp only; omega⟩
 unfold spec_l1Cur_next
 simp only [hw]
 by_cases hc : at' < (code.length : Int)
 ·have hin : inb at' code := ⟨h3, hc⟩
  have hle : at' + 1 ≤ (code.length : Int) := by omega
  have hb : 0 ≤ gd code at' 0 ∧ gd code at' 0 < 256 := by
   have : gd code at' 0 = code.getD at'.toNat 0 := rfl
   rw [this, getD_of (by omega)]
   exact h2 _ (List.getElem_mem _)
  rw [if_pos (decide_eq_true hc), if_pos hin, if_pos (decide_eq_true hle)]
  exact ⟨_, _, rfl, hC _, by rw [w64_id (by omega) (by omega)]; exact hb⟩
 ·have hle : ¬ at' + 1 ≤ (code.length : Int) := by omega
  rw [if_neg (by simpa using hc), if_neg (by simpa using hle), if_pos (by decide)]
  exact ⟨_, _, rfl, hC _, and255 _⟩
theorem pick_ok {k : Nat} {c : CurT} (h : Cur k c) (hk : k ≤ 100000000) (n : Int) (hn : n ≤ 1000000) : ∃ c' x, spec_l1Cur_pick c n = some (c', x) ∧ Cur (k + 2) c' ∧ 0 ≤ x ∧ (1 ≤ n → x < n) ∧ (n ≤ 1 → x = 0) := by
 have mono : ∀ {c : CurT} {i j : Nat}, i ≤ j → Cur i c → Cur j c := fun hij ⟨a, b, d, e⟩ => ⟨a, b, d, by omega⟩
 unfold spec_l1Cur_pick
 by_cases h1 : n ≤ 1
 ·rw [if_pos (decide_eq_true h1)]
  exact ⟨_, _, rfl, mono (by omega) h, by omega, fun _ => by omega, fun _ => rfl⟩
 ·rw [if_neg (by simpa using h1)]
  obtain ⟨c1, x1, e1, g1, a1, b1⟩ := next_ok h (by omega)
  have e1 : spec_l1Cur_next (c.1, (c.2.1, c.2.2)) = _ := e1
  simp only [e1, Option.bind_some]
  by_cases h2 : n > 200
  ·obtain ⟨c2, x2, e2, g2, a2, b2⟩ := next_ok g1 (by omega)
   have e2 : spec_l1Cur_next (c1.1, (c1.2.1, c1.2.2)) = _ := e2
   rw [if_pos (decide_eq_true h2)]
   simp only [e2, Option.bind_some]
   rw [if_pos (by omega)]
   have w1 : w64 (x1 * 256) = x1 * 256 := w64_id (by omega) (by omega)
   have w2 : w64 (x1 * 256 + x2) = x1 * 256 + x2 := w64_id (by omega) (by omega)
   refine ⟨_, _, rfl, g2, ?_, fun _ => ?_, fun h => absurd h h1⟩
   ·rw [w1, w2, Int.tmod_eq_emod_of_nonneg (by omega)]; exact Int.emod_nonneg _ (by omega)
   ·rw [w1, w2, Int.tmod_eq_emod_of_nonneg (by omega)]; exact Int.emod_lt_of_pos _ (by omega)
  ·rw [if_neg (by simpa using h2), if_pos (by omega)]
   refine ⟨_, _, rfl, mono (by omega) g1, ?_, fun _ => ?_, fun h => absurd h h1⟩
   ·rw [Int.tmod_eq_emod_of_nonneg a1]; exact Int.emod_nonneg _ (by omega)
   ·rw [Int.tmod_eq_emod_of_nonneg a1]; exact Int.emod_lt_of_pos _ (by omega)
theorem among_ok {k : Nat} {c : CurT} (h : Cur k c) (hk : k ≤ 100000000) {l : List Int} (h0 : 0 < l.length) (hl : l.length ≤ 1000) : ∃ c' x, spec_l1Cur_among c l = some (c', x) ∧ Cur (k + 2) c' ∧ x ∈ l := by
 obtain ⟨c1, x1, e1, g1, a1, b1, _⟩ := pick_ok h hk (l.length : Int) (by omega)
 have b1 := b1 (by omega)
 unfold spec_l1Cur_among
 have e1 : spec_l1Cur_pick (c.1, (c.2.1, c.2.2)) (l.length : Int) = _ := e1
 simp only [e1, Option.bind_some]
 have hin : inb x1 l := ⟨a1, b1⟩
 rw [if_pos hin]
 refine ⟨_, _, rfl, g1, ?_⟩
 have : gd l x1 0 = l.getD x1.toNat 0 := rfl
 rw [this]
 exact getD_mem (by omega)
theorem one_ok {k : Nat} {c : CurT} (h : Cur k c) (hk : k ≤ 100000000) (n : Int) (hn : n ≤ 1000000) : ∃ c' x, spec_l1Cur_one c n = some (c', x) ∧ Cur (k + 2) c' := by
 obtain ⟨c1, x1, e1, g1, _⟩ := pick_ok h hk n hn
 unfold spec_l1Cur_one
 have e1 : spec_l1Cur_pick (c.1, (c.2.1, c.2.2)) n = _ := e1
 simp only [e1, Option.bind_some]
 exact ⟨_, _, rfl, g1⟩
theorem Cur.mono {c : CurT} {i j : Nat} (hij : i ≤ j) : Cur i c → Cur j c := fun ⟨a, b, d, e⟩ => ⟨a, b, d, by omega⟩
end T
set_option linter.unusedVariables false
open Go Go.Va
namespace T
def spec_l8Put (list : List (List Int)) (t : List Int) : Option ((List (List Int))) :=
 (spec_l8Find list t).bind fun r1 =>
  if r1.2 then
   some list
  else
   if (0 : Int) ≤ 0 ∧ 0 ≤ r1.1 ∧ r1.1 ≤ (list.length : Int) then
    if ([] : List (List Int)).length + ((list.take (Int.toNat r1.1)).drop (Int.toNat 0)).length ≤ lim then
     if ([] ++ ((list.take (Int.toNat r1.1)).drop (Int.toNat 0))).length + [t].length ≤ lim then
      if (0 : Int) ≤ r1.1 ∧ r1.1 ≤ (list.length : Int) ∧ (list.length : Int) ≤ (list.length : Int) then
       if (([] ++ ((list.take (Int.toNat r1.1)).drop (Int.toNat 0))) ++ [t]).length + ((list.take (Int.toNat (list.length : Int))).drop (Int.toNat r1.1)).length ≤ lim then
        some ((([] ++ ((list.take (Int.toNat r1.1)).drop (Int.toNat 0))) ++ [t]) ++ ((list.take (Int.toNat (list.length : Int))).drop (Int.toNat r1.1)))
       else none
      else none
     else none
    else none
   else none
end T
open Go Go.Va
namespace T
def sortL (cmp : List Int → List Int → Int) (rows : List (List Int)) : List (List Int) := rows.mergeSort (fun x y => !decide (cmp y x < 0))
end T
open Go Go.Va
namespace T
theorem incB_pair {l : List (List Int)} : incB l = true ↔ l.Pairwise (fun a b => cmpL a b < 0) := by
 constructor
 ·intro h
  rw [List.pairwise_iff_getElem]
  exact fun i j hi hj hij => incB_lt h i j hij hj
 ·intro h
  rw [incB_iff]
  rw [List.pairwise_iff_getElem] at h
  exact fun i hi => h i (i + 1) (by omega) hi (by omega)
theorem spec_l8Put_ok {list : List (List Int)} {t : List Int} {k : Nat} (hl : list.length ≤ 1000000) (hk : k ≤ 1000000) (hv : ∀ u ∈ list, u.length = k) (ht : t.length = k) (hi : incB list = true) :
    ∃ out, spec_l8Put list t = some out ∧ incB out = true ∧ (∀ u, u ∈ out ↔ u = t ∨ u ∈ list) ∧ (t ∉ list → out.Perm (t :: list)) := by
  obtain ⟨c, e, k1, k2, k3⟩ := spec_l8Find_ok (by omega) (by omega) hv ht hi
  unfold spec_l8Put
  rw [e]
  simp only [Option.bind_some]
  by_cases hm : t ∈ list
  · rw [decide_eq_true hm, if_pos rfl]
    exact ⟨list, rfl, hi, fun u => ⟨Or.inr, fun h => h.elim (fun h => h ▸ hm) id⟩, fun h => absurd hm h⟩
  · rw [decide_eq_false hm, if_neg (by simp)]
    have e1 : (list.take (Int.toNat (c : Int))).drop (Int.toNat 0) = list.take c := by simp
    have e2 : (list.take (Int.toNat (list.length : Int))).drop (Int.toNat (c : Int)) = list.drop c := by simp
    have hlim : lim = 1099511627776 := rfl
    have t1 : (list.take c).length = c := by rw [List.length_take]; omega
    rw [e1, e2, if_pos (by omega), if_pos (by simp; omega), if_pos (by simp; omega), if_pos (by omega), if_pos (by simp; omega)]
    refine ⟨_, rfl, ?_, fun u => ?_, fun _ => ?_⟩
    · rw [incB_pair] at hi ⊢
      simp only [List.nil_append]
      have hsp : list = list.take c ++ list.drop c := (List.take_append_drop c list).symm
      rw [hsp, List.pairwise_append] at hi
      have h4 : ∀ u ∈ list.take c, cmpL u t < 0 := fun u hu => by
        obtain ⟨i, hi', rfl⟩ := List.mem_iff_getElem.1 hu
        rw [List.getElem_take]
        exact k2 i _ (by omega)
      have h5 : ∀ u ∈ list.drop c, cmpL t u < 0 := fun u hu => by
        obtain ⟨i, hi', rfl⟩ := List.mem_iff_getElem.1 hu
        rw [List.length_drop] at hi'
        rw [List.getElem_drop]
        have h6 := k3 (c + i) (by omega) (by omega)
        have h7 := cmpL_symm (list[c + i]'(by omega)) t
        have h8 : cmpL (list[c + i]'(by omega)) t ≠ 0 := fun h => hm (by rw [← cmpL_eq.1 h]; exact List.getElem_mem _)
        omega
      rw [List.pairwise_append, List.pairwise_append]
      refine ⟨⟨hi.1, List.pairwise_singleton _ _, fun a ha b hb => by rw [List.mem_singleton.1 hb]; exact h4 a ha⟩, hi.2.1, fun a ha b hb => ?_⟩
      rcases List.mem_append.1 ha with ha | ha
      · exact hi.2.2 a ha b hb
      · rw [List.mem_singleton.1 ha]; exact h5 b hb
    · have hsp : u ∈ list ↔ u ∈ list.take c ∨ u ∈ list.drop c := by rw [← List.mem_append, List.take_append_drop]
      simp only [List.nil_append, List.mem_append, List.mem_singleton, hsp]
      constructor
      · rintro ((h | h) | h)
        · exact Or.inr (Or.inl h)
        · exact Or.inl h
        · exact Or.inr (Or.inr h)
      · rintro (h | h | h)
        · exact Or.inl (Or.inr h)
        · exact Or.inl (Or.inl h)
        · exact Or.inr h
    · simp only [List.nil_append]
      refine (List.Perm.append_right _ (List.perm_append_comm)).trans ?_
      rw [List.append_assoc, List.take_append_drop]
      exact List.Perm.refl _
theorem cmpL_anti {x y : List Int} (h1 : ¬ cmpL y x < 0) (h2 : ¬ cmpL x y < 0) : x = y := by
 have := cmpL_symm x y
 exact cmpL_eq.1 (by omega)
theorem sortL_of {out l : List (List Int)} (hi : incB out = true) (hp : out.Perm l) : sortL cmpL l = out := by
 have hs : (sortL cmpL l).Pairwise fun x y => (!decide (cmpL y x < 0)) = true := by
  unfold sortL
  refine List.pairwise_mergeSort (fun a b c h1 h2 => ?_) (fun a b => ?_) l
  ·simp only [Bool.not_eq_true', decide_eq_false_iff_not] at *
   intro h3
   have q1 := cmpL_symm a b
   have q2 := cmpL_symm b c
   by_cases e : cmpL a b = 0
   ·rw [cmpL_eq.1 e] at h3; exact h2 h3
   ·exact h2 (cmpL_trans h3 (by omega))
  ·simp only [Bool.or_eq_true, Bool.not_eq_true', decide_eq_false_iff_not]
   have q1 := cmpL_symm a b
   omega
 have ho : out.Pairwise fun x y => (!decide (cmpL y x < 0)) = true := by
  refine (incB_pair.1 hi).imp ?_
  intro a b h
  simp only [Bool.not_eq_true', decide_eq_false_iff_not]
  have q1 := cmpL_symm a b
  omega
 have hpp : (sortL cmpL l).Perm out := (List.mergeSort_perm l _).trans hp.symm
 refine List.Perm.eq_of_pairwise (fun a b _ _ h1 h2 => ?_) hs ho hpp
 simp only [Bool.not_eq_true', decide_eq_false_iff_not] at h1 h2
 exact cmpL_anti h1 h2
end T
open Go Go.Va
namespace T
section
variable {p : Int} {W N V : Nat}
def coG (p : Int) (s : ES) (u : Nat) (f : Int) : Int := if posL s.2.1 u < 0 then (if f = (u : Int) then 1 else 0) else p - (s.1.getD (posL s.2.1 u).toNat []).getD f.toNat 0
def sumG (p : Int) (V : Nat) (s : ES) (F x : List Int) (u : Nat) : Nat → Int
 | 0 => solV V s u
 | k + 1 => sumG p V s F x u k + coG p s u (F.getD k 0) * x.getD k 0
def vecG (p : Int) (V : Nat) (s : ES) (F x : List Int) (k : Nat) : List Int := (List.range V).map fun u => sumG p V s F x u k % p
structure GenOk (p : Int) (W N V : Nat) (s : ES) (F x : List Int) : Prop where
 hp : pr4 p
 hs : ESok p W N V s
 hV : V < W
 hW : W ≤ 1000
 hN : N ≤ 100000
 hF : F = freeL V s.2.1
 hx : x.length = F.length
 xb : ∀ v ∈ x, 0 ≤ v ∧ v < p
variable {s : ES} {F x : List Int}
theorem GenOk.pb (g : GenOk p W N V s F x) : 2 ≤ p ∧ p ≤ 7 := by have := g.hp; unfold pr4 at this; omega
theorem GenOk.row (g : GenOk p W N V s F x) {u : Nat} (hu : ¬ posL s.2.1 u < 0) : (posL s.2.1 u).toNat < s.1.length ∧ okRow p W (s.1.getD (posL s.2.1 u).toNat []) := by
 have hm : (u : Int) ∈ s.2.1 := by
  rcases Decidable.em ((u : Int) ∈ s.2.1) with h | h
  ·exact h
  ·exact absurd (posL_neg.2 h) hu
 obtain ⟨i, hi, g1, _⟩ := posL_at hm
 rw [g1, Int.toNat_natCast]
 have := g.hs.bl
 exact ⟨by omega, by rw [getD_of (by omega)]; exact g.hs.t _ (List.getElem_mem _)⟩
theorem GenOk.base (g : GenOk p W N V s F x) (u : Nat) : 0 ≤ solV V s u ∧ solV V s u < p := by
 have := g.pb
 unfold solV
 split
 ·omega
 ·rename_i h
  exact ok_get (g.row h).2 g.hV
end
end T
open Go Go.Va
namespace T
section
variable {p : Int} {W N V : Nat} {s : ES} {F x : List Int}
theorem GenOk.zero (g : GenOk p W N V s F x) : vecG p V s F x 0 = solL V s := by
 unfold vecG solL
 refine List.map_congr_left fun u _ => ?_
 have := g.base u
 simp only [sumG]
 exact Int.emod_eq_of_lt this.1 this.2
end
end T
open Go Go.Va
namespace T
theorem inc_uniq : ∀ {a b : List (List Int)}, incB a = true → incB b = true → (∀ u, u ∈ a ↔ u ∈ b) → a = b := by
 intro a b ha hb h
 have pa := incB_pair.1 ha
 have pb := incB_pair.1 hb
 have na : a.Nodup := pa.imp fun {x y} h e => by rw [e, cmpL_refl] at h; omega
 have nb : b.Nodup := pb.imp fun {x y} h e => by rw [e, cmpL_refl] at h; omega
 have hp : a.Perm b := (List.perm_ext_iff_of_nodup na nb).2 h
 rw [← sortL_of ha (List.Perm.refl _), ← sortL_of hb (List.Perm.refl _)]
 have h1 := sortL_of ha hp
 have h2 := sortL_of hb (List.Perm.refl b)
 have h3 := sortL_of ha (List.Perm.refl a)
 rw [h2, h3, ← h1, h2]
end T
open Go Go.Va
namespace T
section
variable {n : Int} {k : Nat} {ts : List (List Int)}
theorem put_len {out list : List (List Int)} {t : List Int} (h1 : incB out = true) (h0 : incB list = true) (h2 : ∀ u, u ∈ out ↔ u = t ∨ u ∈ list) (h3 : t ∉ list → out.Perm (t :: list)) : out.length ≤ list.length + 1 := by
 by_cases hm : t ∈ list
 ·have : out = list := inc_uniq h1 h0 fun u => (h2 u).trans ⟨fun h => h.elim (fun h => h ▸ hm) id, Or.inr⟩
  rw [this]; omega
 ·rw [(h3 hm).length_eq]; simp
end
end T
set_option linter.unusedVariables false
open Go Go.Va
namespace T
def laws_rBig (code : List Int) : Option (Bool) :=
 some (decide ((code.length : Int) > 65536))
def spec_l14Known (t0 : Int) : Option (Int × (List (Int × (List (List Int))))) :=
 if t0 == 0 then
  some (2, [(2, [[0, 0], [0, 1], [1, 1]])])
 else
  if t0 == 1 then
   some (2, [(2, [[0, 1], [1, 0], [1, 1]]), (2, [[0, 0], [0, 1], [1, 0]])])
  else
   if t0 == 2 then
    some (2, [(3, [[0, 0, 0], [0, 1, 1], [1, 0, 1], [1, 1, 0]])])
   else
    if t0 == 3 then
     some (2, [(3, [[0, 0, 1], [0, 1, 0], [1, 0, 0]])])
    else
     if t0 == 4 then
      some (2, [(3, [[0, 0, 0], [0, 0, 1], [0, 1, 0], [0, 1, 1], [1, 0, 0], [1, 0, 1], [1, 1, 1]]), (1, [[1]])])
     else
      if t0 == 5 then
       some (3, [(2, [[0, 1], [0, 2], [1, 0], [1, 2], [2, 0], [2, 1]])])
      else
       if t0 == 6 then
        some (3, [(2, [[0, 0], [0, 1], [0, 2], [1, 1], [1, 2], [2, 2]])])
       else
        if t0 == 7 then
         some (3, [(2, [[0, 1], [1, 2], [2, 0]])])
        else
         if t0 == 8 then
          some (2, [(2, [[0, 1], [1, 0]])])
         else
          if t0 == 9 then
           some (4, [(2, [[0, 1], [1, 0], [1, 2], [2, 1], [2, 3], [3, 2]])])
          else
           some (2, [])
def spec_l1Cur_partition13_L3 : Nat → (((List Int) × Int × Int) × Int × (List Int) × Int) → Option (((List Int) × Int × Int) × (List Int))
 | 0, _ => none
 | n + 1, (c, n_, out, x) =>
  if decide (x < n_) then
   (spec_l1Cur_pick (c.1, (c.2.1, c.2.2)) (w64 (x + 1))).bind fun r1 =>
    if decide (r1.2 < x) then
     if inb r1.2 out then
      if out.length + [gd out r1.2 0].length ≤ lim then
       spec_l1Cur_partition13_L3 n ((r1.1.1, (r1.1.2.1, r1.1.2.2)), n_, out ++ [gd out r1.2 0], w64 (x + 1))
      else none
     else none
    else
     if out.length + [r1.2].length ≤ lim then
      spec_l1Cur_partition13_L3 n ((r1.1.1, (r1.1.2.1, r1.1.2.2)), n_, out ++ [r1.2], w64 (x + 1))
     else none
  else
   some ((c.1, (c.2.1, c.2.2)), out)
def spec_l1Cur_partition13 (c : (List Int) × Int × Int) (n_ : Int) : Option (((List Int) × Int × Int) × (List Int)) :=
 (spec_l1Cur_partition13_L3 fuel ((c.1, (c.2.1, c.2.2)), n_, [], 0)).bind fun s1 =>
  some ((s1.1.1, (s1.1.2.1, s1.1.2.2)), s1.2)
def spec_l13OfPartition_L6 : Nat → ((List Int) × (Int × (List (List Int))) × (Int × (List (List Int))) × Int × Int) → Option ((List Int) × (Int × (List (List Int))) × (Int × (List (List Int))) × Int)
 | 0, _ => none
 | n + 1, (p, t2, out, x, y) =>
  if decide (y < (p.length : Int)) then
   if inb x p then
    if inb y p then
     if (gd p x 0) == (gd p y 0) then
      if out.2.length + [[x, y]].length ≤ lim then
       spec_l13OfPartition_L6 n (p, (t2.1, t2.2), (out.1, out.2 ++ [[x, y]]), x, w64 (y + 1))
      else none
     else
      spec_l13OfPartition_L6 n (p, (t2.1, t2.2), (out.1, out.2), x, w64 (y + 1))
    else none
   else none
  else
   some (p, (t2.1, t2.2), (out.1, out.2), x)
def spec_l13OfPartition_L3 : Nat → ((List Int) × (Int × (List (List Int))) × (Int × (List (List Int))) × Int) → Option ((Int × (List (List Int))) × (Int × (List (List Int))))
 | 0, _ => none
 | n + 1, (p, t2, out, x) =>
  if decide (x < (p.length : Int)) then
   (spec_l13OfPartition_L6 fuel (p, (t2.1, t2.2), (out.1, out.2), x, 0)).bind fun s1 =>
    spec_l13OfPartition_L3 n (s1.1, (s1.2.1.1, s1.2.1.2), (s1.2.2.1.1, s1.2.2.1.2), w64 (s1.2.2.2 + 1))
  else
   some ((t2.1, t2.2), (out.1, out.2))
def spec_l13OfPartition (p : List Int) : Option ((Int × (List (List Int)))) :=
 (spec_l13OfPartition_L3 fuel (p, (0, []), (2, []), 0)).bind fun s1 =>
  some (s1.2.1, s1.2.2)
def spec_l13Full_L3 : Nat → (Int × Int × (Int × (List (List Int))) × (Int × (List (List Int))) × Int) → Option ((Int × (List (List Int))) × (Int × (List (List Int))))
 | 0, _ => none
 | n + 1, (n_, arity, t4, out, at_) =>
  (spec_l2Pow n_ arity).bind fun r1 =>
   if decide (at_ < r1) then
    (spec_l2Args n_ arity at_).bind fun r2 =>
     if out.2.length + [r2].length ≤ lim then
      spec_l13Full_L3 n (n_, arity, (t4.1, t4.2), (out.1, out.2 ++ [r2]), w64 (at_ + 1))
     else none
   else
    some ((t4.1, t4.2), (out.1, out.2))
def spec_l13Full (n_ : Int) (arity : Int) : Option ((Int × (List (List Int)))) :=
 (spec_l13Full_L3 fuel (n_, arity, (0, []), (arity, []), 0)).bind fun s1 =>
  some (s1.2.1, s1.2.2)
def spec_l8Put_b (list : List (List Int)) (t : List Int) : Option ((List (List Int))) :=
 (spec_l8Find list t).bind fun r1 =>
  if r1.2 then
   some list
  else
   if (0 : Int) ≤ 0 ∧ 0 ≤ r1.1 ∧ r1.1 ≤ (list.length : Int) then
    if ([] : List (List Int)).length + ((list.take (Int.toNat r1.1)).drop (Int.toNat 0)).length ≤ lim then
     if ([] ++ ((list.take (Int.toNat r1.1)).drop (Int.toNat 0))).length + [t].length ≤ lim then
      if (0 : Int) ≤ r1.1 ∧ r1.1 ≤ (list.length : Int) ∧ (list.length : Int) ≤ (list.length : Int) then
       if (([] ++ ((list.take (Int.toNat r1.1)).drop (Int.toNat 0))) ++ [t]).length + ((list.take (Int.toNat (list.length : Int))).drop (Int.toNat r1.1)).length ≤ lim then
        some ((([] ++ ((list.take (Int.toNat r1.1)).drop (Int.toNat 0))) ++ [t]) ++ ((list.take (Int.toNat (list.length : Int))).drop (Int.toNat r1.1)))
       else none
      else none
     else none
    else none
   else none
def spec_l1Cur_relation_L9 : Nat → (((List Int) × Int × Int) × Int × Int × (Int × (List (List Int))) × (Int × (List (List Int))) × Int × (List Int) × Int) → Option (((List Int) × Int × Int) × Int × Int × (Int × (List (List Int))) × (Int × (List (List Int))) × Int × (List Int))
 | 0, _ => none
 | n + 1, (t0, t1, t2, t6, t7, t8, t9, t10) =>
  if decide (t10 < t2) then
   (spec_l1Cur_pick (t0.1, (t0.2.1, t0.2.2)) t1).bind fun r4 =>
    if t9.length + [r4.2].length ≤ lim then
     spec_l1Cur_relation_L9 n ((r4.1.1, (r4.1.2.1, r4.1.2.2)), t1, t2, (t6.1, t6.2), (t7.1, t7.2), t8, t9 ++ [r4.2], w64 (t10 + 1))
    else none
  else
   some ((t0.1, (t0.2.1, t0.2.2)), t1, t2, (t6.1, t6.2), (t7.1, t7.2), t8, t9)
def spec_l1Cur_relation_L5 : Nat → (((List Int) × Int × Int) × Int × Int × (Int × (List (List Int))) × (Int × (List (List Int))) × Int) → Option (((List Int) × Int × Int) × Int × Int × (Int × (List (List Int))) × (Int × (List (List Int))))
 | 0, _ => none
 | n + 1, (t0, t1, t2, t6, t7, t8) =>
  if decide (t8 > 0) then
   (spec_l1Cur_relation_L9 fuel ((t0.1, (t0.2.1, t0.2.2)), t1, t2, (t6.1, t6.2), (t7.1, t7.2), t8, [], 0)).bind fun s4 =>
    (spec_l8Put_b s4.2.2.2.2.1.2 s4.2.2.2.2.2.2).bind fun r5 =>
     spec_l1Cur_relation_L5 n ((s4.1.1, (s4.1.2.1, s4.1.2.2)), s4.2.1, s4.2.2.1, (s4.2.2.2.1.1, s4.2.2.2.1.2), (s4.2.2.2.2.1.1, r5), w64 (s4.2.2.2.2.2.1 - 1))
  else
   some ((t0.1, (t0.2.1, t0.2.2)), t1, t2, (t6.1, t6.2), (t7.1, t7.2))
def spec_l1Cur_relation (t0 : (List Int) × Int × Int) (t1 : Int) (t2 : Int) : Option (((List Int) × Int × Int) × (Int × (List (List Int)))) :=
 (spec_l6Size t1).bind fun r1 =>
  if !r1 then
   some ((t0.1, (t0.2.1, t0.2.2)), (t2, []))
  else
   (spec_l1In t2 1 3).bind fun r2 =>
    if !r2 then
     some ((t0.1, (t0.2.1, t0.2.2)), (t2, []))
    else
     (spec_l1Cur_among (t0.1, (t0.2.1, t0.2.2)) [0, 1, 2, 3, 4, 6, 9]).bind fun r3 =>
      (spec_l1Cur_relation_L5 fuel ((r3.1.1, (r3.1.2.1, r3.1.2.2)), t1, t2, (0, []), (t2, []), r3.2)).bind fun s4 =>
       if s4.2.2.1 == 2 then
        (spec_l1Cur_one (s4.1.1, (s4.1.2.1, s4.1.2.2)) 3).bind fun r5 =>
         if r5.2 then
          (spec_l1Cur_partition13 (r5.1.1, (r5.1.2.1, r5.1.2.2)) s4.2.1).bind fun r6 =>
           (spec_l13OfPartition r6.2).bind fun r7 =>
            (spec_l1Cur_one (r6.1.1, (r6.1.2.1, r6.1.2.2)) 12).bind fun r8 =>
             if r8.2 then
              (spec_l13Full s4.2.1 s4.2.2.1).bind fun r9 =>
               (spec_l1Cur_pick (r8.1.1, (r8.1.2.1, r8.1.2.2)) 40).bind fun r10 =>
                if r10.2 == 0 then
                 (spec_l1Cur_among (r10.1.1, (r10.1.2.1, r10.1.2.2)) [0, 4, (-1)]).bind fun r11 =>
                  some ((r11.1.1, (r11.1.2.1, r11.1.2.2)), (r11.2, r9.2))
                else
                 if r10.2 == 1 then
                  if 0 ≤ s4.2.2.1 ∧ s4.2.2.1 ≤ s4.2.2.1 ∧ s4.2.2.1 ≤ lim then
                   if r9.2.length + [List.replicate (Int.toNat s4.2.2.1) (0 : Int)].length ≤ lim then
                    some ((r10.1.1, (r10.1.2.1, r10.1.2.2)), (r9.1, r9.2 ++ [List.replicate (Int.toNat s4.2.2.1) (0 : Int)]))
                   else none
                  else none
                 else
                  if r10.2 == 2 then
                   if decide ((r9.2.length : Int) > 0) then
                    (spec_l1Cur_among (r10.1.1, (r10.1.2.1, r10.1.2.2)) [(-1), s4.2.1, 0]).bind fun r12 =>
                     if inb 0 r9.2 then
                      some ((r12.1.1, (r12.1.2.1, r12.1.2.2)), (r9.1, stt r9.2 0 [r12.2]))
                     else none
                   else
                    some ((r10.1.1, (r10.1.2.1, r10.1.2.2)), (r9.1, r9.2))
                  else
                   some ((r10.1.1, (r10.1.2.1, r10.1.2.2)), (r9.1, r9.2))
             else
              (spec_l1Cur_pick (r8.1.1, (r8.1.2.1, r8.1.2.2)) 40).bind fun r13 =>
               if r13.2 == 0 then
                (spec_l1Cur_among (r13.1.1, (r13.1.2.1, r13.1.2.2)) [0, 4, (-1)]).bind fun r14 =>
                 some ((r14.1.1, (r14.1.2.1, r14.1.2.2)), (r14.2, r7.2))
               else
                if r13.2 == 1 then
                 if 0 ≤ s4.2.2.1 ∧ s4.2.2.1 ≤ s4.2.2.1 ∧ s4.2.2.1 ≤ lim then
                  if r7.2.length + [List.replicate (Int.toNat s4.2.2.1) (0 : Int)].length ≤ lim then
                   some ((r13.1.1, (r13.1.2.1, r13.1.2.2)), (r7.1, r7.2 ++ [List.replicate (Int.toNat s4.2.2.1) (0 : Int)]))
                  else none
                 else none
                else
                 if r13.2 == 2 then
                  if decide ((r7.2.length : Int) > 0) then
                   (spec_l1Cur_among (r13.1.1, (r13.1.2.1, r13.1.2.2)) [(-1), s4.2.1, 0]).bind fun r15 =>
                    if inb 0 r7.2 then
                     some ((r15.1.1, (r15.1.2.1, r15.1.2.2)), (r7.1, stt r7.2 0 [r15.2]))
                    else none
                  else
                   some ((r13.1.1, (r13.1.2.1, r13.1.2.2)), (r7.1, r7.2))
                 else
                  some ((r13.1.1, (r13.1.2.1, r13.1.2.2)), (r7.1, r7.2))
         else
          (spec_l1Cur_one (r5.1.1, (r5.1.2.1, r5.1.2.2)) 12).bind fun r16 =>
           if r16.2 then
            (spec_l13Full s4.2.1 s4.2.2.1).bind fun r17 =>
             (spec_l1Cur_pick (r16.1.1, (r16.1.2.1, r16.1.2.2)) 40).bind fun r18 =>
              if r18.2 == 0 then
               (spec_l1Cur_among (r18.1.1, (r18.1.2.1, r18.1.2.2)) [0, 4, (-1)]).bind fun r19 =>
                some ((r19.1.1, (r19.1.2.1, r19.1.2.2)), (r19.2, r17.2))
              else
               if r18.2 == 1 then
                if 0 ≤ s4.2.2.1 ∧ s4.2.2.1 ≤ s4.2.2.1 ∧ s4.2.2.1 ≤ lim then
                 if r17.2.length + [List.replicate (Int.toNat s4.2.2.1) (0 : Int)].length ≤ lim then
                  some ((r18.1.1, (r18.1.2.1, r18.1.2.2)), (r17.1, r17.2 ++ [List.replicate (Int.toNat s4.2.2.1) (0 : Int)]))
                 else none
                else none
               else
                if r18.2 == 2 then
                 if decide ((r17.2.length : Int) > 0) then
                  (spec_l1Cur_among (r18.1.1, (r18.1.2.1, r18.1.2.2)) [(-1), s4.2.1, 0]).bind fun r20 =>
                   if inb 0 r17.2 then
                    some ((r20.1.1, (r20.1.2.1, r20.1.2.2)), (r17.1, stt r17.2 0 [r20.2]))
                   else none
                 else
                  some ((r18.1.1, (r18.1.2.1, r18.1.2.2)), (r17.1, r17.2))
                else
                 some ((r18.1.1, (r18.1.2.1, r18.1.2.2)), (r17.1, r17.2))
           else
            (spec_l1Cur_pick (r16.1.1, (r16.1.2.1, r16.1.2.2)) 40).bind fun r21 =>
             if r21.2 == 0 then
              (spec_l1Cur_among (r21.1.1, (r21.1.2.1, r21.1.2.2)) [0, 4, (-1)]).bind fun r22 =>
               some ((r22.1.1, (r22.1.2.1, r22.1.2.2)), (r22.2, s4.2.2.2.2.2))
             else
              if r21.2 == 1 then
               if 0 ≤ s4.2.2.1 ∧ s4.2.2.1 ≤ s4.2.2.1 ∧ s4.2.2.1 ≤ lim then
                if s4.2.2.2.2.2.length + [List.replicate (Int.toNat s4.2.2.1) (0 : Int)].length ≤ lim then
                 some ((r21.1.1, (r21.1.2.1, r21.1.2.2)), (s4.2.2.2.2.1, s4.2.2.2.2.2 ++ [List.replicate (Int.toNat s4.2.2.1) (0 : Int)]))
                else none
               else none
              else
               if r21.2 == 2 then
                if decide ((s4.2.2.2.2.2.length : Int) > 0) then
                 (spec_l1Cur_among (r21.1.1, (r21.1.2.1, r21.1.2.2)) [(-1), s4.2.1, 0]).bind fun r23 =>
                  if inb 0 s4.2.2.2.2.2 then
                   some ((r23.1.1, (r23.1.2.1, r23.1.2.2)), (s4.2.2.2.2.1, stt s4.2.2.2.2.2 0 [r23.2]))
                  else none
                else
                 some ((r21.1.1, (r21.1.2.1, r21.1.2.2)), (s4.2.2.2.2.1, s4.2.2.2.2.2))
               else
                some ((r21.1.1, (r21.1.2.1, r21.1.2.2)), (s4.2.2.2.2.1, s4.2.2.2.2.2))
       else
        (spec_l1Cur_one (s4.1.1, (s4.1.2.1, s4.1.2.2)) 12).bind fun r24 =>
         if r24.2 then
          (spec_l13Full s4.2.1 s4.2.2.1).bind fun r25 =>
           (spec_l1Cur_pick (r24.1.1, (r24.1.2.1, r24.1.2.2)) 40).bind fun r26 =>
            if r26.2 == 0 then
             (spec_l1Cur_among (r26.1.1, (r26.1.2.1, r26.1.2.2)) [0, 4, (-1)]).bind fun r27 =>
              some ((r27.1.1, (r27.1.2.1, r27.1.2.2)), (r27.2, r25.2))
            else
             if r26.2 == 1 then
              if 0 ≤ s4.2.2.1 ∧ s4.2.2.1 ≤ s4.2.2.1 ∧ s4.2.2.1 ≤ lim then
               if r25.2.length + [List.replicate (Int.toNat s4.2.2.1) (0 : Int)].length ≤ lim then
                some ((r26.1.1, (r26.1.2.1, r26.1.2.2)), (r25.1, r25.2 ++ [List.replicate (Int.toNat s4.2.2.1) (0 : Int)]))
               else none
              else none
             else
              if r26.2 == 2 then
               if decide ((r25.2.length : Int) > 0) then
                (spec_l1Cur_among (r26.1.1, (r26.1.2.1, r26.1.2.2)) [(-1), s4.2.1, 0]).bind fun r28 =>
                 if inb 0 r25.2 then
                  some ((r28.1.1, (r28.1.2.1, r28.1.2.2)), (r25.1, stt r25.2 0 [r28.2]))
                 else none
               else
                some ((r26.1.1, (r26.1.2.1, r26.1.2.2)), (r25.1, r25.2))
              else
               some ((r26.1.1, (r26.1.2.1, r26.1.2.2)), (r25.1, r25.2))
         else
          (spec_l1Cur_pick (r24.1.1, (r24.1.2.1, r24.1.2.2)) 40).bind fun r29 =>
           if r29.2 == 0 then
            (spec_l1Cur_among (r29.1.1, (r29.1.2.1, r29.1.2.2)) [0, 4, (-1)]).bind fun r30 =>
             some ((r30.1.1, (r30.1.2.1, r30.1.2.2)), (r30.2, s4.2.2.2.2.2))
           else
            if r29.2 == 1 then
             if 0 ≤ s4.2.2.1 ∧ s4.2.2.1 ≤ s4.2.2.1 ∧ s4.2.2.1 ≤ lim then
              if s4.2.2.2.2.2.length + [List.replicate (Int.toNat s4.2.2.1) (0 : Int)].length ≤ lim then
               some ((r29.1.1, (r29.1.2.1, r29.1.2.2)), (s4.2.2.2.2.1, s4.2.2.2.2.2 ++ [List.replicate (Int.toNat s4.2.2.1) (0 : Int)]))
              else none
             else none
            else
             if r29.2 == 2 then
              if decide ((s4.2.2.2.2.2.length : Int) > 0) then
               (spec_l1Cur_among (r29.1.1, (r29.1.2.1, r29.1.2.2)) [(-1), s4.2.1, 0]).bind fun r31 =>
                if inb 0 s4.2.2.2.2.2 then
                 some ((r31.1.1, (r31.1.2.1, r31.1.2.2)), (s4.2.2.2.2.1, stt s4.2.2.2.2.2 0 [r31.2]))
                else none
              else
               some ((r29.1.1, (r29.1.2.1, r29.1.2.2)), (s4.2.2.2.2.1, s4.2.2.2.2.2))
             else
              some ((r29.1.1, (r29.1.2.1, r29.1.2.2)), (s4.2.2.2.2.1, s4.2.2.2.2.2))
def spec_l1Cur_template_L9 : Nat → (((List Int) × Int × Int) × Int × (List (Int × (List (List Int)))) × (List (Int × (List (List Int)))) × Int × (Int × (List (List Int))) × Int) → Option (((List Int) × Int × Int) × Int × (List (Int × (List (List Int)))) × (List (Int × (List (List Int)))) × Int × (Int × (List (List Int))))
 | 0, _ => none
 | n + 1, (t0, t4, t5, t6, t7, t8, t9) =>
  if inb t7 t5 then
   if decide (t9 < (((gd t5 t7 (0, [])).2).length : Int)) then
    if inb t7 t5 then
     if inb t9 ((gd t5 t7 (0, [])).2) then
      (spec_l1Own (gd ((gd t5 t7 (0, [])).2) t9 [])).bind fun r4 =>
       if t8.2.length + [r4].length ≤ lim then
        spec_l1Cur_template_L9 n ((t0.1, (t0.2.1, t0.2.2)), t4, t5, t6, t7, (t8.1, t8.2 ++ [r4]), w64 (t9 + 1))
       else none
     else none
    else none
   else
    some ((t0.1, (t0.2.1, t0.2.2)), t4, t5, t6, t7, (t8.1, t8.2))
  else none
def spec_l1Cur_template_L5 : Nat → (((List Int) × Int × Int) × Int × (List (Int × (List (List Int)))) × (List (Int × (List (List Int)))) × Int) → Option (((List Int) × Int × Int) × Int × (List (Int × (List (List Int)))))
 | 0, _ => none
 | n + 1, (t0, t4, t5, t6, t7) =>
  if decide (t7 < (t5.length : Int)) then
   if inb t7 t5 then
    (spec_l1Cur_template_L9 fuel ((t0.1, (t0.2.1, t0.2.2)), t4, t5, t6, t7, ((gd t5 t7 (0, [])).1, []), 0)).bind fun s4 =>
     if s4.2.2.2.1.length + [(s4.2.2.2.2.2.1, s4.2.2.2.2.2.2)].length ≤ lim then
      spec_l1Cur_template_L5 n ((s4.1.1, (s4.1.2.1, s4.1.2.2)), s4.2.1, s4.2.2.1, s4.2.2.2.1 ++ [(s4.2.2.2.2.2.1, s4.2.2.2.2.2.2)], w64 (s4.2.2.2.2.1 + 1))
     else none
   else none
  else
   some ((t0.1, (t0.2.1, t0.2.2)), t4, t6)
def spec_l1Cur_template_L17 : Nat → (((List Int) × Int × Int) × Int × (List (Int × (List (List Int)))) × Int) → Option (((List Int) × Int × Int) × Int × (List (Int × (List (List Int)))))
 | 0, _ => none
 | n + 1, (t0, t10, t11, t12) =>
  if decide (t12 > 0) then
   (spec_l1Cur_among (t0.1, (t0.2.1, t0.2.2)) [1, 2, 2, 3]).bind fun r10 =>
    (spec_l1Cur_relation (r10.1.1, (r10.1.2.1, r10.1.2.2)) t10 r10.2).bind fun r11 =>
     if t11.length + [r11.2].length ≤ lim then
      spec_l1Cur_template_L17 n ((r11.1.1, (r11.1.2.1, r11.1.2.2)), t10, t11 ++ [r11.2], w64 (t12 - 1))
     else none
  else
   some ((t0.1, (t0.2.1, t0.2.2)), t10, t11)
def spec_l1Cur_template (t0 : (List Int) × Int × Int) : Option (((List Int) × Int × Int) × Int × (List (Int × (List (List Int))))) :=
 (spec_l1Cur_one (t0.1, (t0.2.1, t0.2.2)) 3).bind fun r1 =>
  if !r1.2 then
   (spec_l1Cur_pick (r1.1.1, (r1.1.2.1, r1.1.2.2)) 11).bind fun r2 =>
    (spec_l14Known r2.2).bind fun r3 =>
     (spec_l1Cur_template_L5 fuel ((r2.1.1, (r2.1.2.1, r2.1.2.2)), r3.1, r3.2, [], 0)).bind fun s4 =>
      some ((s4.1.1, (s4.1.2.1, s4.1.2.2)), s4.2.1, s4.2.2)
  else
   (spec_l1Cur_pick (r1.1.1, (r1.1.2.1, r1.1.2.2)) 24).bind fun r5 =>
    if (11 : Int) ≠ 0 then
     if (0 : Int) ≤ 0 ∧ 0 ≤ (w64 (7 + (w64 (Int.tdiv r5.2 11)))) ∧ (w64 (7 + (w64 (Int.tdiv r5.2 11)))) ≤ ([1, 2, 2, 2, 3, 3, 4, 0, 5].length : Int) then
      (spec_l1Cur_among (r5.1.1, (r5.1.2.1, r5.1.2.2)) (([1, 2, 2, 2, 3, 3, 4, 0, 5].take (Int.toNat (w64 (7 + (w64 (Int.tdiv r5.2 11)))))).drop (Int.toNat 0))).bind fun r6 =>
       (spec_l1Cur_pick (r6.1.1, (r6.1.2.1, r6.1.2.2)) 24).bind fun r7 =>
        if (23 : Int) ≠ 0 then
         if (0 : Int) ≤ 0 ∧ 0 ≤ (w64 (5 + (w64 (Int.tdiv r7.2 23)))) ∧ (w64 (5 + (w64 (Int.tdiv r7.2 23)))) ≤ ([0, 1, 1, 2, 4, 5].length : Int) then
          (spec_l1Cur_among (r7.1.1, (r7.1.2.1, r7.1.2.2)) (([0, 1, 1, 2, 4, 5].take (Int.toNat (w64 (5 + (w64 (Int.tdiv r7.2 23)))))).drop (Int.toNat 0))).bind fun r8 =>
           (spec_l1Cur_template_L17 fuel ((r8.1.1, (r8.1.2.1, r8.1.2.2)), r6.2, [], r8.2)).bind fun s9 =>
            some ((s9.1.1, (s9.1.2.1, s9.1.2.2)), s9.2.1, s9.2.2)
         else none
        else none
     else none
    else none
def laws_rInts_L4 : Nat → ((List Int) × (List Int) × Int) → Option ((Unit) ⊕ (Bool))
 | 0, _ => none
 | n + 1, (a, b, i) =>
  if decide (i < (a.length : Int)) then
   if inb i a then
    if inb i b then
     if (gd a i 0) != (gd b i 0) then
      some (.inr false)
     else
      laws_rInts_L4 n (a, b, w64 (i + 1))
    else none
   else none
  else
   some (.inl ())
def laws_rInts (a : List Int) (b : List Int) : Option (Bool) :=
 if (a.length : Int) != (b.length : Int) then
  some false
 else
  (laws_rInts_L4 fuel (a, b, 0)).bind fun s1 =>
   match s1 with
   | .inl s2 =>
    some true
   | .inr s3 =>
    some s3
end T
open Go Go.Va
namespace T
def rowsB (R W : Nat) (l : List (List Int)) : Prop := l.length ≤ R ∧ ∀ r ∈ l, r.length ≤ W
theorem rowsB.mono {R W R' W' : Nat} {l : List (List Int)} (h : rowsB R W l) (h1 : R ≤ R') (h2 : W ≤ W') : rowsB R' W' l := ⟨by have := h.1; omega, fun r hr => by have := h.2 r hr; omega⟩
theorem rowsB.app {R W : Nat} {l : List (List Int)} {t : List Int} (h : rowsB R W l) (ht : t.length ≤ W) : rowsB (R + 1) W (l ++ [t]) := ⟨by rw [List.length_append, List.length_singleton]; have := h.1; omega, fun r hr => by
 rcases List.mem_append.1 hr with hr | hr
 ·exact h.2 r hr
 ·rw [List.mem_singleton.1 hr]; exact ht⟩
theorem put_b : spec_l8Put_b = spec_l8Put := rfl
theorem part_L3 {N : Nat} (hN : N ≤ 8) : ∀ (d f k x : Nat) (c : CurT) (o : List Int), x + d = N → d < f → Cur k c → k + 2 * d ≤ 1000000 → o.length = x →
    ∃ c' o', spec_l1Cur_partition13_L3 f (c, (N : Int), o, (x : Int)) = some (c', o') ∧ Cur (k + 2 * d) c' ∧ o'.length = N := by
  intro d
  induction d with
  | zero =>
    intro f k x c o hx hf hc hk ho
    obtain ⟨f, rfl⟩ : ∃ z, f = z + 1 := ⟨f - 1, by omega⟩
    refine ⟨c, o, ?_, hc, by omega⟩
    simp only [spec_l1Cur_partition13_L3]
    rw [if_neg (by simp; omega)]
  | succ d ih =>
    intro f k x c o hx hf hc hk ho
    obtain ⟨f, rfl⟩ : ∃ z, f = z + 1 := ⟨f - 1, by omega⟩
    obtain ⟨c1, x1, e1, g1, a1, b1, _⟩ := pick_ok hc (by omega) ((x + 1 : Nat) : Int) (by omega)
    have b1 := b1 (by omega)
    have e1 : spec_l1Cur_pick (c.1, (c.2.1, c.2.2)) ((x + 1 : Nat) : Int) = _ := e1
    have ew := w64_succ (show x < 4611686018427387904 by omega)
    simp only [spec_l1Cur_partition13_L3, ew, e1, Option.bind_some]
    rw [if_pos (by simp; omega)]
    by_cases h : x1 < (x : Int)
    · obtain ⟨c', o', e2, g2, l2⟩ := ih f (k + 2) (x + 1) c1 (o ++ [gd o x1 0]) (by omega) (by omega) g1 (by omega) (by simp; omega)
      refine ⟨c', o', ?_, g2.mono (by omega), l2⟩
      rw [if_pos (by simpa using h), if_pos (by unfold inb; omega), if_pos (by simp; unfold lim; omega)]
      exact e2
    · obtain ⟨c', o', e2, g2, l2⟩ := ih f (k + 2) (x + 1) c1 (o ++ [x1]) (by omega) (by omega) g1 (by omega) (by simp; omega)
      refine ⟨c', o', ?_, g2.mono (by omega), l2⟩
      rw [if_neg (by simpa using h), if_pos (by simp; unfold lim; omega)]
      exact e2
theorem partition_ok {N k : Nat} {c : CurT} (hN : N ≤ 8) (hc : Cur k c) (hk : k ≤ 500000) : ∃ c' o, spec_l1Cur_partition13 c (N : Int) = some (c', o) ∧ Cur (k + 16) c' ∧ o.length = N := by
 obtain ⟨c', o, e, g, l⟩ := part_L3 hN N fuel k 0 c [] (by omega) (by unfold fuel; omega) hc (by omega) rfl
 refine ⟨c', o, ?_, g.mono (by omega), l⟩
 unfold spec_l1Cur_partition13
 have e : spec_l1Cur_partition13_L3 fuel ((c.1, (c.2.1, c.2.2)), (N : Int), [], 0) = _ := e
 rw [e]; rfl
theorem ofPart_ok {p : List Int} (hp : p.length ≤ 8) : ∃ out, spec_l13OfPartition p = some (2, out) ∧ rowsB 64 2 out := by
  have in6 : ∀ (x : Nat), x < p.length → ∀ (d f y : Nat) (o : List (List Int)), y + d = p.length → d < f → rowsB (8 * x + y) 2 o →
      ∃ o', spec_l13OfPartition_L6 f (p, (0, []), (2, o), (x : Int), (y : Int)) = some (p, (0, []), (2, o'), (x : Int)) ∧ rowsB (8 * x + p.length) 2 o' := by
    intro x hx d
    induction d with
    | zero =>
      intro f y o hy hf ho
      obtain ⟨f, rfl⟩ : ∃ z, f = z + 1 := ⟨f - 1, by omega⟩
      refine ⟨o, ?_, ho.mono (by omega) (by omega)⟩
      simp only [spec_l13OfPartition_L6]
      rw [if_neg (by simp; omega)]
    | succ d ih =>
      intro f y o hy hf ho
      obtain ⟨f, rfl⟩ : ∃ z, f = z + 1 := ⟨f - 1, by omega⟩
      have hyl : y < p.length := by omega
      have hol := ho.1
      simp only [spec_l13OfPartition_L6, inb_nat, hx, hyl, if_true, w64_succ (show y < 4611686018427387904 by omega)]
      rw [if_pos (by simp; omega)]
      by_cases h : (gd p (x : Int) 0 == gd p (y : Int) 0) = true
      · obtain ⟨o', e, g⟩ := ih f (y + 1) (o ++ [[(x : Int), (y : Int)]]) (by omega) (by omega) (by rw [← Nat.add_assoc]; exact ho.app (by simp))
        refine ⟨o', ?_, g⟩
        rw [if_pos h, if_pos (by simp; unfold lim; omega)]
        exact e
      · obtain ⟨o', e, g⟩ := ih f (y + 1) o (by omega) (by omega) (ho.mono (by omega) (by omega))
        refine ⟨o', ?_, g⟩
        rw [if_neg h]
        exact e
  have in3 : ∀ (d f x : Nat) (o : List (List Int)), x + d = p.length → d < f → rowsB (8 * x) 2 o →
      ∃ o', spec_l13OfPartition_L3 f (p, (0, []), (2, o), (x : Int)) = some ((0, []), (2, o')) ∧ rowsB 64 2 o' := by
    intro d
    induction d with
    | zero =>
      intro f x o hx hf ho
      obtain ⟨f, rfl⟩ : ∃ z, f = z + 1 := ⟨f - 1, by omega⟩
      refine ⟨o, ?_, ho.mono (by omega) (by omega)⟩
      simp only [spec_l13OfPartition_L3]
      rw [if_neg (by simp; omega)]
    | succ d ih =>
      intro f x o hx hf ho
      obtain ⟨f, rfl⟩ : ∃ z, f = z + 1 := ⟨f - 1, by omega⟩
      obtain ⟨o1, e1, g1⟩ := in6 x (by omega) p.length fuel 0 o (by omega) (by unfold fuel; omega) ho
      have e1 : spec_l13OfPartition_L6 fuel (p, (0, []), (2, o), (x : Int), 0) = _ := e1
      obtain ⟨o', e2, g2⟩ := ih f (x + 1) o1 (by omega) (by omega) (g1.mono (by omega) (by omega))
      refine ⟨o', ?_, g2⟩
      simp only [spec_l13OfPartition_L3, e1, Option.bind_some, w64_succ (show x < 4611686018427387904 by omega)]
      rw [if_pos (by simp; omega)]
      exact e2
  obtain ⟨o, e, g⟩ := in3 p.length fuel 0 [] (by omega) (by unfold fuel; omega) ⟨by simp, by simp⟩
  refine ⟨o, ?_, g⟩
  unfold spec_l13OfPartition
  have e : spec_l13OfPartition_L3 fuel (p, (0, []), (2, []), 0) = _ := e
  rw [e]; rfl
theorem full13_ok {N A : Nat} (hN : 1 ≤ N ∧ N ≤ 8) (hA : 1 ≤ A ∧ A ≤ 3) : ∃ out, spec_l13Full (N : Int) (A : Int) = some ((A : Int), out) ∧ rowsB 512 3 out := by
  have hp : N ^ A ≤ 512 := by
    have : N ^ A ≤ 8 ^ 3 := Nat.le_trans (Nat.pow_le_pow_left hN.2 A) (Nat.pow_le_pow_right (by omega) hA.2)
    omega
  have e1 := spec_l2Pow_ok (n := (N : Int)) (by omega) (by omega) (k := A) (by omega)
  have e0 : (N : Int) ^ A = ((N ^ A : Nat) : Int) := by rw [Int.natCast_pow]
  rw [e0] at e1
  have key : ∀ (d f x : Nat) (o : List (List Int)), x + d = N ^ A → d < f → rowsB x 3 o →
      ∃ o', spec_l13Full_L3 f ((N : Int), (A : Int), (0, []), ((A : Int), o), (x : Int)) = some ((0, []), ((A : Int), o')) ∧ rowsB (N ^ A) 3 o' := by
    intro d
    induction d with
    | zero =>
      intro f x o hx hf ho
      obtain ⟨f, rfl⟩ : ∃ z, f = z + 1 := ⟨f - 1, by omega⟩
      refine ⟨o, ?_, ho.mono (by omega) (by omega)⟩
      simp only [spec_l13Full_L3, e1, Option.bind_some]
      rw [if_neg (by simp only [decide_eq_true_eq]; omega)]
    | succ d ih =>
      intro f x o hx hf ho
      obtain ⟨f, rfl⟩ : ∃ z, f = z + 1 := ⟨f - 1, by omega⟩
      have hol := ho.1
      have e2 := spec_l2Args_ok (b := N) (k := A) (i := x) (by omega) (by omega) (by omega)
      have hl2 : (cI (dg N A x)).length = A := by rw [cI_len, dg_len]
      obtain ⟨o', e3, g3⟩ := ih f (x + 1) (o ++ [cI (dg N A x)]) (by omega) (by omega) (ho.app (by omega))
      refine ⟨o', ?_, g3⟩
      simp only [spec_l13Full_L3, e1, e2, Option.bind_some, w64_succ (show x < 4611686018427387904 by omega)]
      rw [if_pos (by simp only [decide_eq_true_eq]; omega), if_pos (by simp; unfold lim; omega)]
      exact e3
  obtain ⟨o, e, g⟩ := key (N ^ A) fuel 0 [] (by omega) (by unfold fuel; omega) ⟨by simp, by simp⟩
  refine ⟨o, ?_, g.mono hp (by omega)⟩
  unfold spec_l13Full
  have e : spec_l13Full_L3 fuel ((N : Int), (A : Int), (0, []), ((A : Int), []), 0) = _ := e
  rw [e]; rfl
theorem rel_L9 {N : Int} (hN : N ≤ 100) {A : Nat} (hA : A ≤ 3) (t6 t7 : Int × List (List Int)) (t8 : Int) : ∀ (d f k x : Nat) (c : CurT) (o : List Int), x + d = A → d < f → Cur k c → k + 2 * d ≤ 1000000 → o.length = x →
    ∃ c' o', spec_l1Cur_relation_L9 f (c, N, (A : Int), t6, t7, t8, o, (x : Int)) = some (c', N, (A : Int), t6, t7, t8, o') ∧ Cur (k + 2 * d) c' ∧ o'.length = A := by
  intro d
  induction d with
  | zero =>
    intro f k x c o hx hf hc hk ho
    obtain ⟨f, rfl⟩ : ∃ z, f = z + 1 := ⟨f - 1, by omega⟩
    refine ⟨c, o, ?_, hc, by omega⟩
    simp only [spec_l1Cur_relation_L9]
    rw [if_neg (by simp; omega)]
  | succ d ih =>
    intro f k x c o hx hf hc hk ho
    obtain ⟨f, rfl⟩ : ∃ z, f = z + 1 := ⟨f - 1, by omega⟩
    obtain ⟨c1, x1, e1, g1, _⟩ := pick_ok hc (by omega) N (by omega)
    have e1 : spec_l1Cur_pick (c.1, (c.2.1, c.2.2)) N = _ := e1
    obtain ⟨c', o', e2, g2, l2⟩ := ih f (k + 2) (x + 1) c1 (o ++ [x1]) (by omega) (by omega) g1 (by omega) (by simp; omega)
    refine ⟨c', o', ?_, g2.mono (by omega), l2⟩
    simp only [spec_l1Cur_relation_L9, e1, Option.bind_some, w64_succ (show x < 4611686018427387904 by omega)]
    rw [if_pos (by simp; omega), if_pos (by simp; unfold lim; omega)]
    exact e2
theorem rel_L5 {N : Int} (hN : N ≤ 100) {A : Nat} (hA : A ≤ 3) (t6 : Int × List (List Int)) : ∀ (d f k : Nat) (c : CurT) (o : List (List Int)), d < f → Cur k c → k + 10 * d ≤ 500000 → o.length + d ≤ 1000 → incB o = true → (∀ u ∈ o, u.length = A) →
    ∃ c' o', spec_l1Cur_relation_L5 f (c, N, (A : Int), t6, ((A : Int), o), (d : Int)) = some (c', N, (A : Int), t6, ((A : Int), o')) ∧ Cur (k + 10 * d) c' ∧ rowsB (o.length + d) A o' := by
  intro d
  induction d with
  | zero =>
    intro f k c o hf hc hk ho hi hl
    obtain ⟨f, rfl⟩ : ∃ z, f = z + 1 := ⟨f - 1, by omega⟩
    refine ⟨c, o, ?_, hc, ⟨by omega, fun u hu => by rw [hl u hu]; exact Nat.le_refl _⟩⟩
    simp only [spec_l1Cur_relation_L5]
    rw [if_neg (by simp)]
  | succ d ih =>
    intro f k c o hf hc hk ho hi hl
    obtain ⟨f, rfl⟩ : ∃ z, f = z + 1 := ⟨f - 1, by omega⟩
    obtain ⟨c1, t, e1, g1, l1⟩ := rel_L9 hN hA t6 ((A : Int), o) ((d + 1 : Nat) : Int) A fuel k 0 c [] (by omega) (by unfold fuel; omega) hc (by omega) rfl
    have e1 : spec_l1Cur_relation_L9 fuel ((c.1, (c.2.1, c.2.2)), N, (A : Int), (t6.1, t6.2), ((A : Int), o), ((d + 1 : Nat) : Int), [], 0) = _ := e1
    obtain ⟨o1, p1, p2, p3, p4⟩ := spec_l8Put_ok (list := o) (t := t) (k := A) (by omega) (by omega) hl l1 hi
    have z1 := put_len p2 hi p3 p4
    obtain ⟨c', o', e2, g2, l2⟩ := ih f (k + 2 * A) c1 o1 (by omega) g1 (by omega) (by omega) p2 (fun u hu => ((p3 u).1 hu).elim (fun h => by rw [h]; exact l1) (hl u))
    refine ⟨c', o', ?_, g2.mono (by omega), l2.mono (by omega) (by omega)⟩
    have ew : w64 (((d + 1 : Nat) : Int) - 1) = (d : Int) := by rw [w64_id (by omega) (by omega)]; omega
    simp only [spec_l1Cur_relation_L5, e1, put_b, p1, Option.bind_some, ew]
    rw [if_pos (by simp)]
    exact e2
def relTail (c : CurT) (N A : Int) (out : Int × List (List Int)) : Option (CurT × (Int × List (List Int))) :=
 (spec_l1Cur_pick (c.1, (c.2.1, c.2.2)) 40).bind fun r10 =>
  if r10.2 == 0 then
   (spec_l1Cur_among (r10.1.1, (r10.1.2.1, r10.1.2.2)) [0, 4, (-1)]).bind fun r11 =>
    some ((r11.1.1, (r11.1.2.1, r11.1.2.2)), (r11.2, out.2))
  else
   if r10.2 == 1 then
    if 0 ≤ A ∧ A ≤ A ∧ A ≤ lim then
     if out.2.length + [List.replicate (Int.toNat A) (0 : Int)].length ≤ lim then
      some ((r10.1.1, (r10.1.2.1, r10.1.2.2)), (out.1, out.2 ++ [List.replicate (Int.toNat A) (0 : Int)]))
     else none
    else none
   else
    if r10.2 == 2 then
     if decide ((out.2.length : Int) > 0) then
      (spec_l1Cur_among (r10.1.1, (r10.1.2.1, r10.1.2.2)) [(-1), N, 0]).bind fun r12 =>
       if inb 0 out.2 then
        some ((r12.1.1, (r12.1.2.1, r12.1.2.2)), (out.1, stt out.2 0 [r12.2]))
       else none
     else
      some ((r10.1.1, (r10.1.2.1, r10.1.2.2)), (out.1, out.2))
    else
     some ((r10.1.1, (r10.1.2.1, r10.1.2.2)), (out.1, out.2))
theorem relTail_ok {k : Nat} {c : CurT} (hc : Cur k c) (hk : k ≤ 1000000) {N : Int} {A : Nat} (hA : A ≤ 3) {out : Int × List (List Int)} (ho : rowsB 600 3 out.2) : ∃ c' r, relTail c N (A : Int) out = some (c', r) ∧ Cur (k + 4) c' ∧ rowsB 601 3 r.2 := by
 obtain ⟨c1, x1, e1, g1, _⟩ := pick_ok hc (by omega) 40 (by omega)
 have e1 : spec_l1Cur_pick (c.1, (c.2.1, c.2.2)) 40 = _ := e1
 have hol := ho.1
 unfold relTail
 simp only [e1, Option.bind_some]
 by_cases h0 : x1 = 0
 ·rw [if_pos (by simpa using h0)]
  obtain ⟨c2, x2, e2, g2, _⟩ := among_ok g1 (by omega) (l := [0, 4, (-1)]) (by simp) (by simp)
  have e2 : spec_l1Cur_among (c1.1, (c1.2.1, c1.2.2)) [0, 4, (-1)] = _ := e2
  simp only [e2, Option.bind_some]
  exact ⟨_, _, rfl, g2.mono (by omega), ho.mono (by omega) (by omega)⟩
 ·rw [if_neg (by simpa using h0)]
  by_cases h1 : x1 = 1
  ·rw [if_pos (by simpa using h1), if_pos (by unfold lim; omega), if_pos (by simp; unfold lim; omega)]
   exact ⟨_, _, rfl, g1.mono (by omega), ho.app (by simp; omega)⟩
  ·rw [if_neg (by simpa using h1)]
   by_cases h2 : x1 = 2
   ·rw [if_pos (by simpa using h2)]
    by_cases h3 : (out.2.length : Int) > 0
    ·rw [if_pos (by simpa using h3)]
     obtain ⟨c2, x2, e2, g2, _⟩ := among_ok g1 (by omega) (l := [(-1), N, 0]) (by simp) (by simp)
     have e2 : spec_l1Cur_among (c1.1, (c1.2.1, c1.2.2)) [(-1), N, 0] = _ := e2
     simp only [e2, Option.bind_some]
     rw [if_pos (by unfold inb; omega)]
     refine ⟨_, _, rfl, g2.mono (by omega), ⟨by show (List.set out.2 _ _).length ≤ 601; rw [List.length_set]; omega, fun r hr => ?_⟩⟩
     have hr : r ∈ List.set out.2 (0 : Int).toNat [x2] := hr
     rcases List.mem_or_eq_of_mem_set hr with hr | rfl
     ·exact ho.2 r hr
     ·simp
    ·rw [if_neg (by simpa using h3)]
     exact ⟨_, _, rfl, g1.mono (by omega), ho.mono (by omega) (by omega)⟩
   ·rw [if_neg (by simpa using h2)]
    exact ⟨_, _, rfl, g1.mono (by omega), ho.mono (by omega) (by omega)⟩
theorem relation_ok {k : Nat} {c : CurT} (hc : Cur k c) (hk : k ≤ 100000) {N A : Int} (hN : N ≤ 100) : ∃ c' r, spec_l1Cur_relation c N A = some (c', r) ∧ Cur (k + 200) c' ∧ rowsB 601 3 r.2 := by
 unfold spec_l1Cur_relation
 rw [spec_l6Size_ok, spec_l1In_ok]
 simp only [Option.bind_some]
 cases hs : sizeB N with
 | false => exact ⟨_, _, rfl, hc.mono (by omega), ⟨by simp, by simp⟩⟩
 | true =>
  simp only [Bool.not_true, Bool.false_eq_true, if_false]
  by_cases hA : 1 ≤ A ∧ A ≤ 3
  ·rw [if_neg (by simp; omega)]
   obtain ⟨a, rfl⟩ : ∃ a : Nat, A = (a : Int) := ⟨A.toNat, by omega⟩
   have hn : 1 ≤ N ∧ N ≤ 8 := by unfold sizeB at hs; simpa using hs
   obtain ⟨n, rfl⟩ : ∃ n : Nat, N = (n : Int) := ⟨N.toNat, by omega⟩
   obtain ⟨c1, x1, e1, g1, m1⟩ := among_ok hc (by omega) (l := [0, 1, 2, 3, 4, 6, 9]) (by simp) (by simp)
   have hx1 : 0 ≤ x1 ∧ x1 ≤ 9 := by simp at m1; omega
   obtain ⟨m, rfl⟩ : ∃ m : Nat, x1 = (m : Int) := ⟨x1.toNat, by omega⟩
   obtain ⟨c2, o, e2, g2, r2⟩ := rel_L5 (N := (n : Int)) (by omega) (A := a) (by omega) (0, []) m fuel (k + 2) c1 [] (by unfold fuel; omega) g1 (by omega) (by simp; omega) rfl (by simp)
   have r2 : rowsB 600 3 o := r2.mono (by simp; omega) (by omega)
   have e1 : spec_l1Cur_among (c.1, (c.2.1, c.2.2)) [0, 1, 2, 3, 4, 6, 9] = _ := e1
   have e2 : spec_l1Cur_relation_L5 fuel ((c1.1, (c1.2.1, c1.2.2)), (n : Int), (a : Int), (0, []), ((a : Int), []), (m : Int)) = _ := e2
   simp only [e1, e2, Option.bind_some]
   have hn' : 1 ≤ n ∧ n ≤ 8 := by omega
   have ha' : 1 ≤ a ∧ a ≤ 3 := by omega
   have fin : ∀ (c : CurT) (out : Int × List (List Int)), Cur (k + 150) c → rowsB 600 3 out.2 → ∃ c' r, relTail c (n : Int) (a : Int) out = some (c', r) ∧ Cur (k + 200) c' ∧ rowsB 601 3 r.2 := fun c out hc ho => by
    obtain ⟨c', r, e, g, h⟩ := relTail_ok hc (by omega) (N := (n : Int)) (A := a) (by omega) ho
    exact ⟨c', r, e, g.mono (by omega), h⟩
   have mid : ∀ (c : CurT) (out : Int × List (List Int)), Cur (k + 130) c → rowsB 600 3 out.2 → ∃ c' r, ((spec_l1Cur_one (c.1, (c.2.1, c.2.2)) 12).bind fun r8 => if r8.2 then (spec_l13Full (n : Int) (a : Int)).bind fun r9 => relTail r8.1 (n : Int) (a : Int) r9 else relTail r8.1 (n : Int) (a : Int) out) = some (c', r) ∧ Cur (k + 200) c' ∧ rowsB 601 3 r.2 := fun c out hc ho => by
    obtain ⟨c3, b3, e3, g3⟩ := one_ok hc (by omega) 12 (by omega)
    have e3 : spec_l1Cur_one (c.1, (c.2.1, c.2.2)) 12 = _ := e3
    simp only [e3, Option.bind_some]
    cases b3 with
    | true =>
     obtain ⟨w, e4, h4⟩ := full13_ok hn' ha'
     simp only [if_true, e4, Option.bind_some]
     exact fin c3 ((a : Int), w) (g3.mono (by omega)) (h4.mono (by omega) (by omega))
    | false =>
     simp only [Bool.false_eq_true, if_false]
     exact fin c3 out (g3.mono (by omega)) ho
   by_cases h2 : ((a : Int) == 2) = true
   ·rw [if_pos h2]
    obtain ⟨c3, b3, e3, g3⟩ := one_ok g2 (by omega) 3 (by omega)
    have e3 : spec_l1Cur_one (c2.1, (c2.2.1, c2.2.2)) 3 = _ := e3
    simp only [e3, Option.bind_some]
    cases b3 with
    | true =>
     obtain ⟨c4, p, e4, g4, l4⟩ := partition_ok (N := n) (by omega) g3 (by omega)
     have e4 : spec_l1Cur_partition13 (c3.1, (c3.2.1, c3.2.2)) (n : Int) = _ := e4
     obtain ⟨w, e5, h5⟩ := ofPart_ok (p := p) (by omega)
     simp only [if_true, e4, e5, Option.bind_some]
     exact mid c4 (2, w) (g4.mono (by omega)) (h5.mono (by omega) (by omega))
    | false =>
     simp only [Bool.false_eq_true, if_false]
     exact mid c3 ((a : Int), o) (g3.mono (by omega)) r2
   ·rw [if_neg h2]
    exact mid c2 ((a : Int), o) (g2.mono (by omega)) r2
  ·rw [if_pos (by simp; omega)]
   exact ⟨_, _, rfl, hc.mono (by omega), ⟨by simp, by simp⟩⟩
end T
open Go Go.Va
namespace T
def relsB (l : List RelT) : Prop := l.length ≤ 5 ∧ ∀ r ∈ l, rowsB 601 3 r.2
def knownC (o : Option (Int × List RelT)) : Bool := match o with
 | some (n, rels) => decide (0 ≤ n ∧ n ≤ 5) && (decide (rels.length ≤ 5) && rels.all fun r => decide (r.2.length ≤ 601) && r.2.all fun t => decide (t.length ≤ 3))
 | none => false
theorem known_c (x : Int) : knownC (spec_l14Known x) = true := by
 unfold spec_l14Known
 repeat' split
 all_goals rfl
theorem known_ok (x : Int) : ∃ n rels, spec_l14Known x = some (n, rels) ∧ 0 ≤ n ∧ n ≤ 5 ∧ relsB rels := by
 have h := known_c x
 unfold knownC at h
 split at h
 ·rename_i n rels e
  simp only [Bool.and_eq_true, decide_eq_true_eq, List.all_eq_true] at h
  exact ⟨n, rels, e, h.1.1, h.1.2, h.2.1, fun r hr => h.2.2 r hr⟩
 ·simp at h
theorem tmp_L9 {l : List RelT} {i : Nat} (hi : i < l.length) (hr : rowsB 1000 1000 l[i].2) (c : CurT) (n : Int) (o : List RelT) (ar : Int) : spec_l1Cur_template_L9 fuel (c, n, l, o, (i : Int), (ar, []), 0) = some (c, n, l, o, (i : Int), (ar, l[i].2)) := by
 have h1 := hr.1
 have := forS l[i].2.length (fun m (q : List (List Int)) k => spec_l1Cur_template_L9 m (c, n, l, o, (i : Int), (ar, q), k)) (fun k => l[i].2.take k) (r := some (c, n, l, o, (i : Int), (ar, l[i].2))) (fun m k hk => ?_) (fun m => ?_) (n := fuel) (by unfold fuel; omega)
 ·exact this
 ·have e := spec_l1Own_ok (l := l[i].2[k]) (by have := hr.2 _ (List.getElem_mem hk); omega)
  simp only [spec_l1Cur_template_L9, inb_nat, hi, gd_nat hi, hk, gd_nat hk, if_true, e, Option.bind_some, w64_succ (show k < 4611686018427387904 by omega)]
  rw [if_pos (by simp; omega), if_pos (by simp; unfold lim; omega), List.take_succ_eq_append_getElem hk]
 ·simp only [spec_l1Cur_template_L9, inb_nat, hi, gd_nat hi, if_true, List.take_length]
  rw [if_neg (by simp)]
theorem tmp_L5 {l : List RelT} (h : relsB l) (c : CurT) (n : Int) : spec_l1Cur_template_L5 fuel (c, n, l, [], 0) = some (c, n, l) := by
 have h1 := h.1
 have := forS l.length (fun m (q : List RelT) k => spec_l1Cur_template_L5 m (c, n, l, q, k)) (fun k => l.take k) (r := some (c, n, l)) (fun m k hk => ?_) (fun m => ?_) (n := fuel) (by unfold fuel; omega)
 ·exact this
 ·have e := tmp_L9 hk ((h.2 _ (List.getElem_mem hk)).mono (by omega) (by omega)) c n (l.take k) l[k].1
  have e : spec_l1Cur_template_L9 fuel ((c.1, (c.2.1, c.2.2)), n, l, l.take k, (k : Int), (l[k].1, []), 0) = _ := e
  simp only [spec_l1Cur_template_L5, inb_nat, hk, gd_nat hk, if_true, e, Option.bind_some, w64_succ (show k < 4611686018427387904 by omega)]
  rw [if_pos (by simp; omega), if_pos (by simp; unfold lim; omega), List.take_succ_eq_append_getElem hk]
 ·simp only [spec_l1Cur_template_L5, List.take_length]
  rw [if_neg (by simp)]
theorem tmp_L17 {n : Int} (hn : n ≤ 100) : ∀ (d f k : Nat) (c : CurT) (o : List RelT), d < f → Cur k c → k + 300 * d ≤ 50000 → o.length + d ≤ 5 → (∀ r ∈ o, rowsB 601 3 r.2) →
    ∃ c' o', spec_l1Cur_template_L17 f (c, n, o, (d : Int)) = some (c', n, o') ∧ Cur (k + 300 * d) c' ∧ relsB o' := by
  intro d
  induction d with
  | zero =>
    intro f k c o hf hc hk ho hr
    obtain ⟨f, rfl⟩ : ∃ z, f = z + 1 := ⟨f - 1, by omega⟩
    refine ⟨c, o, ?_, hc, ⟨by omega, hr⟩⟩
    simp only [spec_l1Cur_template_L17]
    rw [if_neg (by simp)]
  | succ d ih =>
    intro f k c o hf hc hk ho hr
    obtain ⟨f, rfl⟩ : ∃ z, f = z + 1 := ⟨f - 1, by omega⟩
    obtain ⟨c1, x1, e1, g1, _⟩ := among_ok hc (by omega) (l := [1, 2, 2, 3]) (by simp) (by simp)
    have e1 : spec_l1Cur_among (c.1, (c.2.1, c.2.2)) [1, 2, 2, 3] = _ := e1
    obtain ⟨c2, r, e2, g2, h2⟩ := relation_ok (N := n) (A := x1) g1 (by omega) hn
    have e2 : spec_l1Cur_relation (c1.1, (c1.2.1, c1.2.2)) n x1 = _ := e2
    obtain ⟨c', o', e3, g3, h3⟩ := ih f (k + 202) c2 (o ++ [r]) (by omega) (g2.mono (by omega)) (by omega) (by simp; omega) (fun q hq => by
      rcases List.mem_append.1 hq with hq | hq
      · exact hr q hq
      · rw [List.mem_singleton.1 hq]; exact h2)
    refine ⟨c', o', ?_, g3.mono (by omega), h3⟩
    have ew : w64 (((d + 1 : Nat) : Int) - 1) = (d : Int) := by rw [w64_id (by omega) (by omega)]; omega
    simp only [spec_l1Cur_template_L17, e1, e2, Option.bind_some, ew]
    rw [if_pos (by simp), if_pos (by simp; unfold lim; omega)]
    exact e3
theorem part_draw {k : Nat} {c : CurT} (hc : Cur k c) (hk : k ≤ 1000000) (l : List Int) (b m : Nat) (hm : 11 ≤ m ∧ m ≤ 24) (hb : 0 < b) (hl : b + (23 / m) ≤ l.length) (hl2 : l.length ≤ 100) :
    ∃ c1 x1 c' x, spec_l1Cur_pick (c.1, (c.2.1, c.2.2)) 24 = some (c1, x1) ∧ ((0 : Int) ≤ 0 ∧ 0 ≤ (w64 ((b : Int) + (w64 (Int.tdiv x1 (m : Int))))) ∧ (w64 ((b : Int) + (w64 (Int.tdiv x1 (m : Int))))) ≤ (l.length : Int)) ∧
      spec_l1Cur_among (c1.1, (c1.2.1, c1.2.2)) ((l.take (Int.toNat (w64 ((b : Int) + (w64 (Int.tdiv x1 (m : Int))))))).drop (Int.toNat 0)) = some (c', x) ∧ Cur (k + 4) c' ∧ x ∈ l := by
  obtain ⟨c1, x1, e1, g1, a1, b1, _⟩ := pick_ok hc (by omega) 24 (by omega)
  have b1 := b1 (by omega)
  obtain ⟨y, rfl⟩ : ∃ y : Nat, x1 = (y : Int) := ⟨x1.toNat, by omega⟩
  have hqb : y / m ≤ 23 / m := Nat.div_le_div_right (by omega)
  have hq : Int.tdiv (y : Int) (m : Int) = ((y / m : Nat) : Int) := by rw [Int.tdiv_eq_ediv_of_nonneg (by omega)]; rfl
  obtain ⟨q, eq⟩ : ∃ q, q = y / m := ⟨_, rfl⟩
  obtain ⟨z, ez⟩ : ∃ z, z = 23 / m := ⟨_, rfl⟩
  rw [← ez] at hqb hl
  rw [← eq] at hqb hq
  clear eq ez
  refine ⟨c1, (y : Int), ?_⟩
  rw [hq]
  clear hq
  have w1 : w64 ((q : Nat) : Int) = (q : Int) := w64_id (by omega) (by omega)
  have w2 : w64 ((b : Int) + (q : Int)) = ((b + q : Nat) : Int) := by rw [w64_id (by omega) (by omega)]; omega
  rw [w1, w2]
  have e0 : (l.take (Int.toNat ((b + q : Nat) : Int))).drop (Int.toNat 0) = l.take (b + q) := by rw [Int.toNat_natCast]; rfl
  rw [e0]
  obtain ⟨c2, x2, e2, g2, m2⟩ := among_ok g1 (by omega) (l := l.take (b + q)) (by rw [List.length_take]; omega) (by rw [List.length_take]; omega)
  exact ⟨c2, x2, e1, by omega, e2, g2.mono (by omega), List.mem_of_mem_take m2⟩
theorem template_ok {k : Nat} {c : CurT} (hc : Cur k c) (hk : k ≤ 10000) : ∃ c' n rels, spec_l1Cur_template c = some (c', n, rels) ∧ Cur (k + 2000) c' ∧ 0 ≤ n ∧ n ≤ 5 ∧ relsB rels := by
 obtain ⟨c1, b1, e1, g1⟩ := one_ok hc (by omega) 3 (by omega)
 have e1 : spec_l1Cur_one (c.1, (c.2.1, c.2.2)) 3 = _ := e1
 unfold spec_l1Cur_template
 simp only [e1, Option.bind_some]
 cases b1 with
 | false =>
  obtain ⟨c2, x2, e2, g2, _⟩ := pick_ok g1 (by omega) 11 (by omega)
  have e2 : spec_l1Cur_pick (c1.1, (c1.2.1, c1.2.2)) 11 = _ := e2
  obtain ⟨n, rels, e3, h1, h2, h3⟩ := known_ok x2
  have e4 := tmp_L5 h3 c2 n
  have e4 : spec_l1Cur_template_L5 fuel ((c2.1, (c2.2.1, c2.2.2)), n, rels, [], 0) = _ := e4
  simp only [Bool.not_false, if_true, e2, e3, e4, Option.bind_some]
  exact ⟨_, _, _, rfl, g2.mono (by omega), h1, h2, h3⟩
 | true =>
  simp only [Bool.not_true, Bool.false_eq_true, if_false]
  obtain ⟨d1, y1, c2, n, e2, i2, f2, g2, m2⟩ := part_draw g1 (by omega) [1, 2, 2, 2, 3, 3, 4, 0, 5] 7 11 (by omega) (by omega) (by simp) (by simp)
  obtain ⟨d2, y2, c3, d, e3, i3, f3, g3, m3⟩ := part_draw g2 (by omega) [0, 1, 1, 2, 4, 5] 5 23 (by omega) (by omega) (by simp) (by simp)
  have hn : 0 ≤ n ∧ n ≤ 5 := by simp at m2; omega
  have hd : 0 ≤ d ∧ d ≤ 5 := by simp at m3; omega
  obtain ⟨D, rfl⟩ : ∃ D : Nat, d = (D : Int) := ⟨d.toNat, by omega⟩
  obtain ⟨c4, rels, e4, g4, h4⟩ := tmp_L17 (n := n) (by omega) D fuel (k + 10) c3 [] (by unfold fuel; omega) (g3.mono (by omega)) (by omega) (by simp; omega) (by simp)
  have e4 : spec_l1Cur_template_L17 fuel ((c3.1, (c3.2.1, c3.2.2)), n, [], (D : Int)) = _ := e4
  simp only [e2, Option.bind_some]
  rw [if_pos (by decide), if_pos (show (0 : Int) ≤ 0 ∧ 0 ≤ (w64 (7 + (w64 (Int.tdiv y1 11)))) ∧ (w64 (7 + (w64 (Int.tdiv y1 11)))) ≤ ([1, 2, 2, 2, 3, 3, 4, 0, 5].length : Int) from i2)]
  have f2 : spec_l1Cur_among (d1.1, (d1.2.1, d1.2.2)) (([1, 2, 2, 2, 3, 3, 4, 0, 5].take (Int.toNat (w64 (7 + (w64 (Int.tdiv y1 11)))))).drop (Int.toNat 0)) = _ := f2
  rw [f2]
  simp only [Option.bind_some, e3]
  rw [if_pos (by decide), if_pos (show (0 : Int) ≤ 0 ∧ 0 ≤ (w64 (5 + (w64 (Int.tdiv y2 23)))) ∧ (w64 (5 + (w64 (Int.tdiv y2 23)))) ≤ ([0, 1, 1, 2, 4, 5].length : Int) from i3)]
  have f3 : spec_l1Cur_among (d2.1, (d2.2.1, d2.2.2)) (([0, 1, 1, 2, 4, 5].take (Int.toNat (w64 (5 + (w64 (Int.tdiv y2 23)))))).drop (Int.toNat 0)) = _ := f3
  rw [f3]
  simp only [Option.bind_some, e4]
  exact ⟨_, _, _, rfl, g4.mono (by omega), hn.1, hn.2, h4⟩
end T
open Go Go.Va
namespace T
theorem all_eqD {α : Type} [DecidableEq α] {l l' : List α} (d : α) (h : l.length = l'.length) : (List.range l.length).all (fun k => decide (l.getD k d = l'.getD k d)) = decide (l = l') := by
 rw [Bool.eq_iff_iff]
 simp only [List.all_eq_true, List.mem_range, decide_eq_true_eq]
 constructor
 ·intro hx
  refine List.ext_getElem h fun i h1 h2 => ?_
  have := hx i h1
  rwa [getD_of h1, getD_of h2] at this
 ·rintro rfl _ _; rfl
section
variable {A B : Nat → Nat} {m j : Nat}
end
section
variable {n k m : Nat} {r : RelT} {rels : List RelT}
end
end T
open Go Go.Va
namespace T
section
variable {V n k : Nat} {cs : List Con} {rels : List RelT}
theorem rInts_ok {a b : List Int} (h : a.length ≤ 1048576) : laws_rInts a b = some (decide (a = b)) := by
 unfold laws_rInts
 by_cases h2 : a.length = b.length
 ·rw [if_neg (by simp [h2])]
  have := forA a.length (fun n (_ : Unit) i => laws_rInts_L4 n (a, b, i)) (fun _ => ()) (fun k => decide (a.getD k 0 = b.getD k 0)) (r := some (.inr false)) (e := some (.inl ())) (fun f k hk => ?_) (fun f => ?_) (n := fuel) (by unfold fuel; omega)
  ·rw [all_eqD 0 h2] at this
   have this : laws_rInts_L4 fuel (a, b, 0) = _ := this
   rw [this]
   by_cases e : a = b
   ·subst e; simp
   ·simp [e]
  ·simp only [laws_rInts_L4, inb_nat, hk, gd_nat hk, h2 ▸ hk, gd_nat (h2 ▸ hk), if_true, getD_of hk, getD_of (h2 ▸ hk : k < b.length), w64_succ (show k < 4611686018427387904 by omega)]
   rw [if_pos (by simp; omega)]
   by_cases e : a[k] = b[k] <;> simp [e]
  ·simp only [laws_rInts_L4]
   rw [if_neg (by simp)]
 ·rw [if_pos (by simpa using fun h => h2 (by omega))]
  rw [decide_eq_false fun h => h2 (by rw [h])]
end
end T
open Go Go.Va
namespace T
section
variable {n k m : Nat} {r : RelT} {rels : List RelT} {given t : List Int}
theorem ext_iff {ok : List Int → Bool} : ∀ (m : Nat) (pre t : List Int), t ∈ extL n given ok m pre ↔ t.length = pre.length + m ∧ t.take pre.length = pre ∧
    ∀ q, pre.length ≤ q → q < t.length → (0 ≤ t.getD q 0 ∧ t.getD q 0 < (n : Int)) ∧ mstB given q (t.getD q 0).toNat = true ∧ ok (t.take (q + 1)) = true
  | 0, pre, t => by
    simp only [extL, List.mem_singleton, Nat.add_zero]
    constructor
    · rintro rfl
      exact ⟨rfl, by simp, fun q h1 h2 => by omega⟩
    · rintro ⟨h1, h2, _⟩
      rw [← h2, List.take_of_length_le (by omega)]
  | m + 1, pre, t => by
    simp only [extL, List.mem_flatMap, List.mem_range]
    constructor
    · rintro ⟨x, hx, h⟩
      by_cases hc : (mstB given pre.length x && ok (pre ++ [(x : Int)])) = true
      · rw [if_pos hc] at h
        obtain ⟨h1, h2, h3⟩ := (ext_iff m (pre ++ [(x : Int)]) t).1 h
        rw [Bool.and_eq_true] at hc
        rw [List.length_append, List.length_singleton] at h1 h2 h3
        have hv : t.getD pre.length 0 = (x : Int) := by
          have hl : pre.length < t.length := by omega
          have e : (t.take (pre.length + 1)).getD pre.length 0 = t.getD pre.length 0 := by simp [List.getD_eq_getElem?_getD, List.getElem?_take]
          rw [← e, h2]; simp [List.getD_eq_getElem?_getD]
        refine ⟨by omega, ?_, fun q h4 h5 => ?_⟩
        · have : (t.take (pre.length + 1)).take pre.length = pre := by rw [h2]; simp
          rw [List.take_take] at this
          rwa [Nat.min_eq_left (by omega)] at this
        · by_cases e : q = pre.length
          · subst e
            rw [hv, h2]
            exact ⟨by omega, by rw [Int.toNat_natCast]; exact hc.1, hc.2⟩
          · exact h3 q (by omega) h5
      · rw [if_neg hc] at h; simp at h
    · rintro ⟨h1, h2, h3⟩
      have hl : pre.length < t.length := by omega
      obtain ⟨a1, a2, a3⟩ := h3 pre.length (Nat.le_refl _) hl
      have hx : (((t.getD pre.length 0).toNat : Nat) : Int) = t.getD pre.length 0 := Int.toNat_of_nonneg a1.1
      have ht : t.take (pre.length + 1) = pre ++ [(((t.getD pre.length 0).toNat : Nat) : Int)] := by
        rw [hx, List.take_succ_eq_append_getElem hl, h2, getD_of hl]
      refine ⟨(t.getD pre.length 0).toNat, by omega, ?_⟩
      rw [if_pos (by rw [Bool.and_eq_true]; exact ⟨a2, by rw [← ht]; exact a3⟩)]
      refine (ext_iff m _ t).2 ⟨by simp; omega, by rw [List.length_append, List.length_singleton]; exact ht, fun q h4 h5 => h3 q (by rw [List.length_append, List.length_singleton] at h4; omega) h5⟩
theorem mst_free {N q x : Nat} (hq : q < N) : mstB (List.replicate N (-1)) q x = true := by
 unfold mstB
 rw [getD_of (by simpa using hq)]; simp
end
end T
open Go Go.Va
namespace T
theorem nodup_len : ∀ (W : Nat) (l : List Nat), l.Nodup → (∀ x ∈ l, x < W) → l.length ≤ W
 | 0, l, _, h => by
  cases l with
  | nil => simp
  | cons x l => exact absurd (h x (List.mem_cons_self ..)) (by omega)
 | W + 1, l, hn, h => by
  have h1 := nodup_len W (l.erase W) (hn.erase W) fun x hx => by
   have h2 := h x (List.mem_of_mem_erase hx)
   have h3 : x ≠ W := fun e => by subst e; exact absurd hx (hn.not_mem_erase)
   omega
  have := List.length_erase (a := W) (l := l)
  split at this <;> omega
section
variable {F : Nat → Nat → Bool} {W : Nat} {S0 line : List Nat} {n a : Nat}
end
end T
open Go Go.Va
namespace T
section
variable {n : Nat} {t : List Int}
def bopT (n : Nat) (t : List Int) (x y : Nat) : Nat := (t.getD (x * n + y) 0).toNat
structure TabOk (n : Nat) (t : List Int) : Prop where
 hn : 1 ≤ n ∧ n ≤ 4
 len : t.length = n * n
 val : ∀ x ∈ t, 0 ≤ x ∧ x < (n : Int)
theorem ix2 (hn : n ≤ 4) {x y : Nat} (hx : x < n) (hy : y < n) : w64 (w64 ((x : Int) * (n : Int)) + (y : Int)) = ((x * n + y : Nat) : Int) ∧ x * n + y < n * n := by
 have h1 : x * n + y < n * n := by
  calc x * n + y < x * n + n := by omega
   _ = (x + 1) * n := by rw [Nat.succ_mul]
   _ ≤ n * n := Nat.mul_le_mul_right _ hx
 have h2 : n * n ≤ 4 * 4 := Nat.mul_le_mul hn hn
 have e : (x : Int) * (n : Int) = ((x * n : Nat) : Int) := by simp
 have a1 : w64 ((x * n : Nat) : Int) = ((x * n : Nat) : Int) := w64_id (by omega) (by omega)
 rw [e, a1, w64_id (by omega) (by omega)]
 exact ⟨by omega, h1⟩
theorem TabOk.at (h : TabOk n t) {x y : Nat} (hx : x < n) (hy : y < n) : w64 (w64 ((x : Int) * (n : Int)) + (y : Int)) = ((x * n + y : Nat) : Int) ∧ inb ((x * n + y : Nat) : Int) t ∧ gd t ((x * n + y : Nat) : Int) 0 = ((bopT n t x y : Nat) : Int) ∧ bopT n t x y < n := by
 obtain ⟨h1, h2⟩ := ix2 h.hn.2 hx hy
 have hl : x * n + y < t.length := by rw [h.len]; exact h2
 have hv := h.val _ (List.getElem_mem hl)
 refine ⟨h1, by rw [inb_nat]; exact hl, ?_, ?_⟩
 ·rw [gd_nat hl]; unfold bopT; rw [getD_of hl]; omega
 ·unfold bopT; rw [getD_of hl]; omega
end
end T
set_option linter.unusedVariables false
open Go Go.Va
namespace T
def spec_l1Cur_network_L11 : Nat → (((List Int) × Int × Int) × (Int × (Int × (List ((List Int) × Int × (List (List Int)))))) × Int × (List (Int × (List (List Int)))) × (Int × (Int × (List ((List Int) × Int × (List (List Int)))))) × Int × (Int × (List (List Int))) × ((List Int) × (Int × (List (List Int)))) × Int) → Option (((List Int) × Int × Int) × (Int × (Int × (List ((List Int) × Int × (List (List Int)))))) × Int × (List (Int × (List (List Int)))) × (Int × (Int × (List ((List Int) × Int × (List (List Int)))))) × Int × ((List Int) × (Int × (List (List Int)))))
 | 0, _ => none
 | n + 1, (t0, t2, t3, t4, t5, t6, t7, t8, t9) =>
  if decide (t9 < t7.1) then
   if decide (t9 < 4) then
    (spec_l1Most t5.1 1).bind fun r9 =>
     (spec_l1Cur_pick (t0.1, (t0.2.1, t0.2.2)) r9).bind fun r10 =>
      if t8.1.length + [r10.2].length ≤ lim then
       spec_l1Cur_network_L11 n ((r10.1.1, (r10.1.2.1, r10.1.2.2)), (t2.1, (t2.2.1, t2.2.2)), t3, t4, (t5.1, (t5.2.1, t5.2.2)), t6, (t7.1, t7.2), (t8.1 ++ [r10.2], (t8.2.1, t8.2.2)), w64 (t9 + 1))
      else none
   else
    some ((t0.1, (t0.2.1, t0.2.2)), (t2.1, (t2.2.1, t2.2.2)), t3, t4, (t5.1, (t5.2.1, t5.2.2)), t6, (t8.1, (t8.2.1, t8.2.2)))
  else
   some ((t0.1, (t0.2.1, t0.2.2)), (t2.1, (t2.2.1, t2.2.2)), t3, t4, (t5.1, (t5.2.1, t5.2.2)), t6, (t8.1, (t8.2.1, t8.2.2)))
def spec_l1Cur_network_L4 : Nat → (((List Int) × Int × Int) × (Int × (Int × (List ((List Int) × Int × (List (List Int)))))) × Int × (List (Int × (List (List Int)))) × (Int × (Int × (List ((List Int) × Int × (List (List Int)))))) × Int) → Option (((List Int) × Int × Int) × (Int × (Int × (List ((List Int) × Int × (List (List Int)))))) × (Int × (Int × (List ((List Int) × Int × (List (List Int)))))))
 | 0, _ => none
 | n + 1, (t0, t2, t3, t4, t5, t6) =>
  if decide (t6 > 0) then
   (spec_l1Most t3 1).bind fun r4 =>
    (spec_l1Cur_among (t0.1, (t0.2.1, t0.2.2)) [1, 2, 2, 3]).bind fun r5 =>
     (spec_l1Cur_relation (r5.1.1, (r5.1.2.1, r5.1.2.2)) r4 r5.2).bind fun r6 =>
      if decide ((t4.length : Int) > 0) then
       (spec_l1Cur_one (r6.1.1, (r6.1.2.1, r6.1.2.2)) 5).bind fun r7 =>
        if !r7.2 then
         (spec_l1Cur_pick (r7.1.1, (r7.1.2.1, r7.1.2.2)) (t4.length : Int)).bind fun r8 =>
          if inb r8.2 t4 then
           (spec_l1Cur_network_L11 fuel ((r8.1.1, (r8.1.2.1, r8.1.2.2)), (t2.1, (t2.2.1, t2.2.2)), t3, t4, (t5.1, (t5.2.1, t5.2.2)), t6, ((gd t4 r8.2 (0, [])).1, (gd t4 r8.2 (0, [])).2), ([], ((gd t4 r8.2 (0, [])).1, (gd t4 r8.2 (0, [])).2)), 0)).bind fun s9 =>
            if s9.2.2.2.2.1.2.2.length + [(s9.2.2.2.2.2.2.1, (s9.2.2.2.2.2.2.2.1, s9.2.2.2.2.2.2.2.2))].length ≤ lim then
             spec_l1Cur_network_L4 n ((s9.1.1, (s9.1.2.1, s9.1.2.2)), (s9.2.1.1, (s9.2.1.2.1, s9.2.1.2.2)), s9.2.2.1, s9.2.2.2.1, (s9.2.2.2.2.1.1, (s9.2.2.2.2.1.2.1, s9.2.2.2.2.1.2.2 ++ [(s9.2.2.2.2.2.2.1, (s9.2.2.2.2.2.2.2.1, s9.2.2.2.2.2.2.2.2))])), w64 (s9.2.2.2.2.2.1 - 1))
            else none
          else none
        else
         (spec_l1Cur_network_L11 fuel ((r7.1.1, (r7.1.2.1, r7.1.2.2)), (t2.1, (t2.2.1, t2.2.2)), t3, t4, (t5.1, (t5.2.1, t5.2.2)), t6, (r6.2.1, r6.2.2), ([], (r6.2.1, r6.2.2)), 0)).bind fun s10 =>
          if s10.2.2.2.2.1.2.2.length + [(s10.2.2.2.2.2.2.1, (s10.2.2.2.2.2.2.2.1, s10.2.2.2.2.2.2.2.2))].length ≤ lim then
           spec_l1Cur_network_L4 n ((s10.1.1, (s10.1.2.1, s10.1.2.2)), (s10.2.1.1, (s10.2.1.2.1, s10.2.1.2.2)), s10.2.2.1, s10.2.2.2.1, (s10.2.2.2.2.1.1, (s10.2.2.2.2.1.2.1, s10.2.2.2.2.1.2.2 ++ [(s10.2.2.2.2.2.2.1, (s10.2.2.2.2.2.2.2.1, s10.2.2.2.2.2.2.2.2))])), w64 (s10.2.2.2.2.2.1 - 1))
          else none
      else
       (spec_l1Cur_network_L11 fuel ((r6.1.1, (r6.1.2.1, r6.1.2.2)), (t2.1, (t2.2.1, t2.2.2)), t3, t4, (t5.1, (t5.2.1, t5.2.2)), t6, (r6.2.1, r6.2.2), ([], (r6.2.1, r6.2.2)), 0)).bind fun s11 =>
        if s11.2.2.2.2.1.2.2.length + [(s11.2.2.2.2.2.2.1, (s11.2.2.2.2.2.2.2.1, s11.2.2.2.2.2.2.2.2))].length ≤ lim then
         spec_l1Cur_network_L4 n ((s11.1.1, (s11.1.2.1, s11.1.2.2)), (s11.2.1.1, (s11.2.1.2.1, s11.2.1.2.2)), s11.2.2.1, s11.2.2.2.1, (s11.2.2.2.2.1.1, (s11.2.2.2.2.1.2.1, s11.2.2.2.2.1.2.2 ++ [(s11.2.2.2.2.2.2.1, (s11.2.2.2.2.2.2.2.1, s11.2.2.2.2.2.2.2.2))])), w64 (s11.2.2.2.2.2.1 - 1))
        else none
  else
   some ((t0.1, (t0.2.1, t0.2.2)), (t2.1, (t2.2.1, t2.2.2)), (t5.1, (t5.2.1, t5.2.2)))
def spec_l1Cur_network_L23 : Nat → (((List Int) × Int × Int) × (Int × (Int × (List ((List Int) × Int × (List (List Int)))))) × (Int × (Int × (List ((List Int) × Int × (List (List Int)))))) × Int) → Option (((List Int) × Int × Int) × (Int × (Int × (List ((List Int) × Int × (List (List Int)))))) × (Int × (Int × (List ((List Int) × Int × (List (List Int)))))))
 | 0, _ => none
 | n + 1, (t0, t2, t5, t10) =>
  if decide ((t5.2.2.length : Int) > 0) then
   if decide ((t5.2.2.length : Int) < t10) then
    if inb 0 t5.2.2 then
     if t5.2.2.length + [((gd t5.2.2 0 ([], (0, []))).1, (((gd t5.2.2 0 ([], (0, []))).2).1, ((gd t5.2.2 0 ([], (0, []))).2).2))].length ≤ lim then
      spec_l1Cur_network_L23 n ((t0.1, (t0.2.1, t0.2.2)), (t2.1, (t2.2.1, t2.2.2)), (t5.1, (t5.2.1, t5.2.2 ++ [((gd t5.2.2 0 ([], (0, []))).1, (((gd t5.2.2 0 ([], (0, []))).2).1, ((gd t5.2.2 0 ([], (0, []))).2).2))])), t10)
     else none
    else none
   else
    some ((t0.1, (t0.2.1, t0.2.2)), (t2.1, (t2.2.1, t2.2.2)), (t5.1, (t5.2.1, t5.2.2)))
  else
   some ((t0.1, (t0.2.1, t0.2.2)), (t2.1, (t2.2.1, t2.2.2)), (t5.1, (t5.2.1, t5.2.2)))
def spec_l1Cur_network (t0 : (List Int) × Int × Int) : Option (((List Int) × Int × Int) × (Int × Int × (List ((List Int) × Int × (List (List Int)))))) :=
 (spec_l1Cur_template (t0.1, (t0.2.1, t0.2.2))).bind fun r1 =>
  (spec_l1Cur_among (r1.1.1, (r1.1.2.1, r1.1.2.2)) [1, 2, 3, 3, 4, 4, 5, 6]).bind fun r2 =>
   (spec_l1Cur_among (r2.1.1, (r2.1.2.1, r2.1.2.2)) [0, 1, 2, 3, 4, 5, 6, 8]).bind fun r3 =>
    (spec_l1Cur_network_L4 fuel ((r3.1.1, (r3.1.2.1, r3.1.2.2)), (0, (0, [])), r1.2.1, r1.2.2, (r2.2, (r1.2.1, [])), r3.2)).bind fun s4 =>
     (spec_l1Cur_pick (s4.1.1, (s4.1.2.1, s4.1.2.2)) 40).bind fun r5 =>
      if r5.2 == 0 then
       (spec_l1Cur_among (r5.1.1, (r5.1.2.1, r5.1.2.2)) [(-1), 0, 9, 10]).bind fun r6 =>
        some ((r6.1.1, (r6.1.2.1, r6.1.2.2)), (r6.2, (s4.2.2.2.1, s4.2.2.2.2)))
      else
       if r5.2 == 1 then
        if decide ((s4.2.2.2.2.length : Int) > 0) then
         if inb 0 s4.2.2.2.2 then
          if ((gd s4.2.2.2.2 0 ([], (0, []))).1).length + [0].length ≤ lim then
           if inb 0 s4.2.2.2.2 then
            if 0 = 0 then
             some ((r5.1.1, (r5.1.2.1, r5.1.2.2)), (s4.2.2.1, (s4.2.2.2.1, stt s4.2.2.2.2 0 (((gd s4.2.2.2.2 0 ([], (0, []))).1) ++ [0], (gd s4.2.2.2.2 0 ([], (0, []))).2))))
            else none
           else none
          else none
         else none
        else
         some ((r5.1.1, (r5.1.2.1, r5.1.2.2)), (s4.2.2.1, (s4.2.2.2.1, s4.2.2.2.2)))
       else
        if r5.2 == 2 then
         (spec_l1Cur_pick (r5.1.1, (r5.1.2.1, r5.1.2.2)) 2).bind fun r7 =>
          (spec_l1Cur_network_L23 fuel ((r7.1.1, (r7.1.2.1, r7.1.2.2)), (s4.2.1.1, (s4.2.1.2.1, s4.2.1.2.2)), (s4.2.2.1, (s4.2.2.2.1, s4.2.2.2.2)), w64 (40 + r7.2))).bind fun s8 =>
           some ((s8.1.1, (s8.1.2.1, s8.1.2.2)), (s8.2.2.1, (s8.2.2.2.1, s8.2.2.2.2)))
        else
         some ((r5.1.1, (r5.1.2.1, r5.1.2.2)), (s4.2.2.1, (s4.2.2.2.1, s4.2.2.2.2)))
def spec_DrawIsNetwork (code : List Int) : Option ((Int × Int × (List ((List Int) × Int × (List (List Int)))))) :=
 (spec_l1Cur_network (code, (0, 0))).bind fun r1 =>
  some (r1.2.1, (r1.2.2.1, r1.2.2.2))
def spec_DrawConflictCore (code : List Int) : Option ((Int × Int × (List ((List Int) × Int × (List (List Int)))))) :=
 (spec_DrawIsNetwork code).bind fun r1 =>
  some (r1.1, (r1.2.1, r1.2.2))
def impl_rises_L2 : Nat → ((List Int) × Int) → Option ((Unit) ⊕ (Bool))
 | 0, _ => none
 | n + 1, (list, i) =>
  if decide (i < (list.length : Int)) then
   if inb (w64 (i - 1)) list then
    if inb i list then
     if decide ((gd list (w64 (i - 1)) 0) ≥ (gd list i 0)) then
      some (.inr false)
     else
      impl_rises_L2 n (list, w64 (i + 1))
    else none
   else none
  else
   some (.inl ())
def impl_rises (list : List Int) : Option (Bool) :=
 (impl_rises_L2 fuel (list, 1)).bind fun s1 =>
  match s1 with
  | .inl s2 =>
   some true
  | .inr s3 =>
   some s3
def impl_IsConflict (net : Int × Int × (List ((List Int) × Int × (List (List Int))))) (indices : List Int) : Option ((List Int) × Bool × Bool) :=
 (impl_IsNetwork (net.1, (net.2.1, net.2.2))).bind fun r1 =>
  if !r1 then
   some (indices, false, false)
  else
   (impl_rises indices).bind fun r2 =>
    if !r2 then
     some (indices, false, false)
    else
     (impl_inSize indices (net.2.2.length : Int)).bind fun r3 =>
      if !r3 then
       some (indices, false, false)
      else
       (impl_partOf (net.1, (net.2.1, net.2.2)) indices).bind fun r4 =>
        (impl_solvable (r4.2.1, (r4.2.2.1, r4.2.2.2))).bind fun r5 =>
         some (r4.1, !r5, true)
def spec_DrawIsConflict_L5 : Nat → ((Int × (Int × (List ((List Int) × Int × (List (List Int)))))) × ((List Int) × Int × Int) × (Int × Int × (List ((List Int) × Int × (List (List Int))))) × (List Int) × Int) → Option ((Int × (Int × (List ((List Int) × Int × (List (List Int)))))) × ((List Int) × Int × Int) × (Int × Int × (List ((List Int) × Int × (List (List Int))))) × (List Int))
 | 0, _ => none
 | n + 1, (t2, c, net, indices, i) =>
  if decide (i < (net.2.2.length : Int)) then
   (spec_l1Cur_one (c.1, (c.2.1, c.2.2)) 3).bind fun r2 =>
    if !r2.2 then
     if indices.length + [i].length ≤ lim then
      spec_DrawIsConflict_L5 n ((t2.1, (t2.2.1, t2.2.2)), (r2.1.1, (r2.1.2.1, r2.1.2.2)), (net.1, (net.2.1, net.2.2)), indices ++ [i], w64 (i + 1))
     else none
    else
     spec_DrawIsConflict_L5 n ((t2.1, (t2.2.1, t2.2.2)), (r2.1.1, (r2.1.2.1, r2.1.2.2)), (net.1, (net.2.1, net.2.2)), indices, w64 (i + 1))
  else
   some ((t2.1, (t2.2.1, t2.2.2)), (c.1, (c.2.1, c.2.2)), (net.1, (net.2.1, net.2.2)), indices)
def spec_DrawIsConflict (code : List Int) : Option ((Int × Int × (List ((List Int) × Int × (List (List Int))))) × (List Int)) :=
 (spec_l1Cur_network (code, (0, 0))).bind fun r1 =>
  (spec_DrawIsConflict_L5 fuel ((0, (0, [])), (r1.1.1, (r1.1.2.1, r1.1.2.2)), (r1.2.1, (r1.2.2.1, r1.2.2.2)), [], 0)).bind fun s2 =>
   (spec_l1Cur_one (s2.2.1.1, (s2.2.1.2.1, s2.2.1.2.2)) 16).bind fun r3 =>
    if r3.2 then
     (spec_l1Cur_among (r3.1.1, (r3.1.2.1, r3.1.2.2)) [0, (s2.2.2.1.2.2.length : Int)]).bind fun r4 =>
      if s2.2.2.2.length + [r4.2].length ≤ lim then
       some ((s2.2.2.1.1, (s2.2.2.1.2.1, s2.2.2.1.2.2)), s2.2.2.2 ++ [r4.2])
      else none
    else
     some ((s2.2.2.1.1, (s2.2.2.1.2.1, s2.2.2.1.2.2)), s2.2.2.2)
def spec_l1Rising_L2 : Nat → ((List Int) × Int × Int × Int) → Option ((Unit) ⊕ (Bool))
 | 0, _ => none
 | n + 1, (l, lo, hi, i) =>
  if decide (i < (l.length : Int)) then
   if inb i l then
    (spec_l1In (gd l i 0) lo hi).bind fun r1 =>
     if !r1 then
      some (.inr false)
     else
      if decide (i > 0) then
       if inb (w64 (i - 1)) l then
        if inb i l then
         if decide ((gd l (w64 (i - 1)) 0) ≥ (gd l i 0)) then
          some (.inr false)
         else
          spec_l1Rising_L2 n (l, lo, hi, w64 (i + 1))
        else none
       else none
      else
       spec_l1Rising_L2 n (l, lo, hi, w64 (i + 1))
   else none
  else
   some (.inl ())
def spec_l1Rising (l : List Int) (lo : Int) (hi : Int) : Option (Bool) :=
 (spec_l1Rising_L2 fuel (l, lo, hi, 0)).bind fun s1 =>
  match s1 with
  | .inl s2 =>
   some true
  | .inr s3 =>
   some s3
def spec_IsConflict_L5 : Nat → ((List Int) × (Int × Int × (List ((List Int) × Int × (List (List Int))))) × (List ((List Int) × Int × (List (List Int)))) × Int) → Option ((Int × Int × (List ((List Int) × Int × (List (List Int))))) × (List ((List Int) × Int × (List (List Int)))))
 | 0, _ => none
 | n + 1, (indices, net, list, i) =>
  if decide (i < (indices.length : Int)) then
   if inb i indices then
    if inb (gd indices i 0) net.2.2 then
     if list.length + [gd net.2.2 (gd indices i 0) ([], (0, []))].length ≤ lim then
      spec_IsConflict_L5 n (indices, (net.1, (net.2.1, net.2.2)), list ++ [gd net.2.2 (gd indices i 0) ([], (0, []))], w64 (i + 1))
     else none
    else none
   else none
  else
   some ((net.1, (net.2.1, net.2.2)), list)
def spec_IsConflict (net : Int × Int × (List ((List Int) × Int × (List (List Int))))) (indices : List Int) : Option (Bool × Bool) :=
 (spec_l19Good (net.1, (net.2.1, net.2.2))).bind fun r1 =>
  if !r1 then
   some (false, false)
  else
   (spec_l1Rising indices 0 (w64 ((net.2.2.length : Int) - 1))).bind fun r2 =>
    if !r2 then
     some (false, false)
    else
     (spec_IsConflict_L5 fuel (indices, (net.1, (net.2.1, net.2.2)), [], 0)).bind fun s3 =>
      (spec_l19Can (s3.1.1, (s3.1.2.1, s3.1.2.2)) s3.2).bind fun r4 =>
       some (!r4, true)
def spec_l1Cur_values19_L3 : Nat → (((List Int) × Int × Int) × Bool × (Int × Int × (List ((List Int) × Int × (List (List Int))))) × (List Int) × Int) → Option (((List Int) × Int × Int) × (Int × Int × (List ((List Int) × Int × (List (List Int))))) × (List Int))
 | 0, _ => none
 | n + 1, (c, free, net, out, v) =>
  if decide (v < net.1) then
   if decide (v < 10) then
    (spec_l1Most net.2.1 1).bind fun r1 =>
     (spec_l1Cur_pick (c.1, (c.2.1, c.2.2)) r1).bind fun r2 =>
      if free then
       (spec_l1Cur_one (r2.1.1, (r2.1.2.1, r2.1.2.2)) 3).bind fun r3 =>
        if !r3.2 then
         if out.length + [(-1)].length ≤ lim then
          spec_l1Cur_values19_L3 n ((r3.1.1, (r3.1.2.1, r3.1.2.2)), free, (net.1, (net.2.1, net.2.2)), out ++ [(-1)], w64 (v + 1))
         else none
        else
         if out.length + [r2.2].length ≤ lim then
          spec_l1Cur_values19_L3 n ((r3.1.1, (r3.1.2.1, r3.1.2.2)), free, (net.1, (net.2.1, net.2.2)), out ++ [r2.2], w64 (v + 1))
         else none
      else
       if out.length + [r2.2].length ≤ lim then
        spec_l1Cur_values19_L3 n ((r2.1.1, (r2.1.2.1, r2.1.2.2)), free, (net.1, (net.2.1, net.2.2)), out ++ [r2.2], w64 (v + 1))
       else none
   else
    some ((c.1, (c.2.1, c.2.2)), (net.1, (net.2.1, net.2.2)), out)
  else
   some ((c.1, (c.2.1, c.2.2)), (net.1, (net.2.1, net.2.2)), out)
def spec_l1Cur_values19 (c : (List Int) × Int × Int) (net : Int × Int × (List ((List Int) × Int × (List (List Int))))) (free : Bool) : Option (((List Int) × Int × Int) × (List Int)) :=
 (spec_l1Cur_values19_L3 fuel ((c.1, (c.2.1, c.2.2)), free, (net.1, (net.2.1, net.2.2)), [], 0)).bind fun s1 =>
  (spec_l1Cur_pick (s1.1.1, (s1.1.2.1, s1.1.2.2)) 30).bind fun r2 =>
   if r2.2 == 0 then
    if s1.2.2.length + [0].length ≤ lim then
     some ((r2.1.1, (r2.1.2.1, r2.1.2.2)), s1.2.2 ++ [0])
    else none
   else
    if r2.2 == 1 then
     if decide ((s1.2.2.length : Int) > 0) then
      (spec_l1Cur_among (r2.1.1, (r2.1.2.1, r2.1.2.2)) [(-2), (-1), s1.2.1.2.1]).bind fun r3 =>
       if inb 0 s1.2.2 then
        some ((r3.1.1, (r3.1.2.1, r3.1.2.2)), stt s1.2.2 0 r3.2)
       else none
     else
      some ((r2.1.1, (r2.1.2.1, r2.1.2.2)), s1.2.2)
    else
     some ((r2.1.1, (r2.1.2.1, r2.1.2.2)), s1.2.2)
def spec_l19Find_b (net : Int × Int × (List ((List Int) × Int × (List (List Int))))) (list : List ((List Int) × Int × (List (List Int)))) (partial_ : List Int) (most : Int) (one : Bool) : Option (((List (List Int)) × Int × Int × Bool)) :=
 (spec_l19Most net.1 list).bind fun r1 =>
  (spec_l19Go fuel (net.2.1, r1, partial_, [], ([], (0, (most, one))))).bind fun r2 =>
   some (r2.1, (r2.2.1, (r2.2.2.1, r2.2.2.2)))
def spec_DrawIsSolution (code : List Int) : Option ((Int × Int × (List ((List Int) × Int × (List (List Int))))) × (List Int)) :=
 (spec_l1Cur_network (code, (0, 0))).bind fun r1 =>
  (spec_l19Good (r1.2.1, (r1.2.2.1, r1.2.2.2))).bind fun r2 =>
   if r2 then
    (spec_l1Cur_one (r1.1.1, (r1.1.2.1, r1.1.2.2)) 2).bind fun r3 =>
     if r3.2 then
      (spec_l14Free r1.2.1).bind fun r4 =>
       (spec_l19Find_b (r1.2.1, (r1.2.2.1, r1.2.2.2)) r1.2.2.2 r4 8 true).bind fun r5 =>
        if decide ((r5.1.length : Int) > 0) then
         if inb 0 r5.1 then
          some ((r1.2.1, (r1.2.2.1, r1.2.2.2)), gd r5.1 0 [])
         else none
        else
         (spec_l1Cur_values19 (r3.1.1, (r3.1.2.1, r3.1.2.2)) (r1.2.1, (r1.2.2.1, r1.2.2.2)) false).bind fun r6 =>
          some ((r1.2.1, (r1.2.2.1, r1.2.2.2)), r6.2)
     else
      (spec_l1Cur_values19 (r3.1.1, (r3.1.2.1, r3.1.2.2)) (r1.2.1, (r1.2.2.1, r1.2.2.2)) false).bind fun r7 =>
       some ((r1.2.1, (r1.2.2.1, r1.2.2.2)), r7.2)
   else
    (spec_l1Cur_values19 (r1.1.1, (r1.1.2.1, r1.1.2.2)) (r1.2.1, (r1.2.2.1, r1.2.2.2)) false).bind fun r8 =>
     some ((r1.2.1, (r1.2.2.1, r1.2.2.2)), r8.2)
def spec_DrawFirstUnsatisfied (code : List Int) : Option ((Int × Int × (List ((List Int) × Int × (List (List Int))))) × (List Int)) :=
 (spec_DrawIsSolution code).bind fun r1 =>
  some ((r1.1.1, (r1.1.2.1, r1.1.2.2)), r1.2)
def impl_isAssignment (net : Int × Int × (List ((List Int) × Int × (List (List Int))))) (values : List Int) : Option (Bool) :=
 if (values.length : Int) == net.1 then
  (impl_inSize values net.2.1).bind fun r1 =>
   some r1
 else
  some false
def impl_FirstUnsatisfied (net : Int × Int × (List ((List Int) × Int × (List (List Int))))) (values : List Int) : Option (Int × Bool) :=
 (impl_IsNetwork (net.1, (net.2.1, net.2.2))).bind fun r1 =>
  if !r1 then
   some (0, false)
  else
   (impl_isAssignment (net.1, (net.2.1, net.2.2)) values).bind fun r2 =>
    if !r2 then
     some (0, false)
    else
     (impl_unsatisfied (net.1, (net.2.1, net.2.2)) values).bind fun r3 =>
      if decide (r3 < 0) then
       some (0, false)
      else
       some (r3, true)
def spec_l19Assigned (net : Int × Int × (List ((List Int) × Int × (List (List Int))))) (values : List Int) : Option (Bool) :=
 if (values.length : Int) == net.1 then
  (spec_l2Elements net.2.1 values).bind fun r1 =>
   some r1
 else
  some false
def spec_FirstUnsatisfied (net : Int × Int × (List ((List Int) × Int × (List (List Int))))) (values : List Int) : Option (Int × Bool) :=
 (spec_l19Good (net.1, (net.2.1, net.2.2))).bind fun r1 =>
  if !r1 then
   some (0, false)
  else
   (spec_l19Assigned (net.1, (net.2.1, net.2.2)) values).bind fun r2 =>
    if !r2 then
     some (0, false)
    else
     (spec_l19Fault (net.1, (net.2.1, net.2.2)) values).bind fun r3 =>
      if decide (r3 < 0) then
       some (0, false)
      else
       some (r3, true)
def impl_IsSolution (net : Int × Int × (List ((List Int) × Int × (List (List Int))))) (values : List Int) : Option (Bool × Bool) :=
 (impl_IsNetwork (net.1, (net.2.1, net.2.2))).bind fun r1 =>
  if !r1 then
   some (false, false)
  else
   (impl_isAssignment (net.1, (net.2.1, net.2.2)) values).bind fun r2 =>
    if !r2 then
     some (false, false)
    else
     (impl_unsatisfied (net.1, (net.2.1, net.2.2)) values).bind fun r3 =>
      some (decide (r3 < 0), true)
def spec_IsSolution (net : Int × Int × (List ((List Int) × Int × (List (List Int))))) (values : List Int) : Option (Bool × Bool) :=
 (spec_l19Good (net.1, (net.2.1, net.2.2))).bind fun r1 =>
  if !r1 then
   some (false, false)
  else
   (spec_l19Assigned (net.1, (net.2.1, net.2.2)) values).bind fun r2 =>
    if !r2 then
     some (false, false)
    else
     (spec_l19Fault (net.1, (net.2.1, net.2.2)) values).bind fun r3 =>
      some (decide (r3 < 0), true)
def impl_hasRelation (n_ : Int) (r : Int × (List (List Int))) : Option (Bool) :=
 (impl_isSize n_).bind fun r1 =>
  if r1 then
   (impl_isRelation n_ (r.1, r.2)).bind fun r2 =>
    some r2
  else
   some false
def impl_HasTuple_L4 : Nat → ((List Int) × (List (List Int)) × Int × Int) → Option ((Unit) ⊕ (Bool × Bool))
 | 0, _ => none
 | n + 1, (t, t15, t16, t17) =>
  if decide (t17 < t16) then
   if inb t17 t15 then
    (impl_sameList (gd t15 t17 []) t).bind fun r2 =>
     if r2 then
      some (.inr (true, true))
     else
      impl_HasTuple_L4 n (t, t15, t16, w64 (t17 + 1))
   else none
  else
   some (.inl ())
def impl_HasTuple (n_ : Int) (r : Int × (List (List Int))) (t : List Int) : Option (Bool × Bool) :=
 (impl_hasRelation n_ (r.1, r.2)).bind fun r1 =>
  if !r1 then
   some (false, false)
  else
   (impl_HasTuple_L4 fuel (t, r.2, (r.2.length : Int), 0)).bind fun s2 =>
    match s2 with
    | .inl s3 =>
     some (false, true)
    | .inr s4 =>
     some (s4.1, s4.2)
def laws_FnConflicts_L13 : Nat → ((List Int) × (Int × Int × (List ((List Int) × Int × (List (List Int))))) × (List Int) × Int) → Option (((List Int)) ⊕ (Bool))
 | 0, _ => none
 | n + 1, (t0, t3, t4, t10) =>
  if decide (t10 < (t4.length : Int)) then
   if (0 : Int) ≤ 0 ∧ 0 ≤ t10 ∧ t10 ≤ (t4.length : Int) then
    if ([] : List Int).length + ((t4.take (Int.toNat t10)).drop (Int.toNat 0)).length ≤ lim then
     if (0 : Int) ≤ (w64 (t10 + 1)) ∧ (w64 (t10 + 1)) ≤ (t4.length : Int) ∧ (t4.length : Int) ≤ (t4.length : Int) then
      if ([] ++ ((t4.take (Int.toNat t10)).drop (Int.toNat 0))).length + ((t4.take (Int.toNat (t4.length : Int))).drop (Int.toNat (w64 (t10 + 1)))).length ≤ lim then
       (impl_IsConflict (t3.1, (t3.2.1, t3.2.2)) (([] ++ ((t4.take (Int.toNat t10)).drop (Int.toNat 0))) ++ ((t4.take (Int.toNat (t4.length : Int))).drop (Int.toNat (w64 (t10 + 1)))))).bind fun r7 =>
        if !r7.2.2 then
         some (.inr false)
        else
         if r7.2.1 then
          some (.inr false)
         else
          laws_FnConflicts_L13 n (t0, (t3.1, (t3.2.1, t3.2.2)), t4, w64 (t10 + 1))
      else none
     else none
    else none
   else none
  else
   some (.inl t0)
def laws_FnConflicts_L36 : Nat → ((Int × Int × (List ((List Int) × Int × (List (List Int))))) × (List Int) × Int × (List Int) × Int) → Option ((Int × Int × (List ((List Int) × Int × (List (List Int))))) × Int × (List Int))
 | 0, _ => none
 | n + 1, (t20, t21, t22, t30, t31) =>
  if inb t22 t20.2.2 then
   if decide (t31 < (((gd t20.2.2 t22 ([], (0, []))).1).length : Int)) then
    if inb t22 t20.2.2 then
     if inb t31 ((gd t20.2.2 t22 ([], (0, []))).1) then
      if inb (gd ((gd t20.2.2 t22 ([], (0, []))).1) t31 0) t21 then
       if t30.length + [gd t21 (gd ((gd t20.2.2 t22 ([], (0, []))).1) t31 0) 0].length ≤ lim then
        laws_FnConflicts_L36 n ((t20.1, (t20.2.1, t20.2.2)), t21, t22, t30 ++ [gd t21 (gd ((gd t20.2.2 t22 ([], (0, []))).1) t31 0) 0], w64 (t31 + 1))
       else none
      else none
     else none
    else none
   else
    some ((t20.1, (t20.2.1, t20.2.2)), t22, t30)
  else none
def laws_FnConflicts (t0 : List Int) : Option (Bool) :=
 (laws_rBig t0).bind fun r1 =>
  if r1 then
   some true
  else
   (spec_DrawConflictCore t0).bind fun r2 =>
    (impl_ConflictCore (r2.1, (r2.2.1, r2.2.2))).bind fun r3 =>
     (spec_ConflictCore (r2.1, (r2.2.1, r2.2.2))).bind fun r4 =>
      if r3.2 != r4.2 then
       some false
      else
       (laws_rInts r3.1 r4.1).bind fun r5 =>
        if !r5 then
         some false
        else
         if r3.2 then
          (impl_IsConflict (r2.1, (r2.2.1, r2.2.2)) r3.1).bind fun r6 =>
           if !r6.2.2 then
            some false
           else
            if !r6.2.1 then
             some false
            else
             (laws_FnConflicts_L13 fuel (t0, (r2.1, (r2.2.1, r2.2.2)), r6.1, 0)).bind fun s7 =>
              match s7 with
              | .inl s8 =>
               (spec_DrawIsConflict s8).bind fun r10 =>
                (impl_IsConflict (r10.1.1, (r10.1.2.1, r10.1.2.2)) r10.2).bind fun r11 =>
                 (spec_IsConflict (r10.1.1, (r10.1.2.1, r10.1.2.2)) r11.1).bind fun r12 =>
                  if r11.2.1 != r12.1 then
                   some false
                  else
                   if r11.2.2 != r12.2 then
                    some false
                   else
                    (spec_DrawFirstUnsatisfied s8).bind fun r13 =>
                     (impl_FirstUnsatisfied (r13.1.1, (r13.1.2.1, r13.1.2.2)) r13.2).bind fun r14 =>
                      (spec_FirstUnsatisfied (r13.1.1, (r13.1.2.1, r13.1.2.2)) r13.2).bind fun r15 =>
                       if r14.1 != r15.1 then
                        some false
                       else
                        if r14.2 != r15.2 then
                         some false
                        else
                         (impl_IsSolution (r13.1.1, (r13.1.2.1, r13.1.2.2)) r13.2).bind fun r16 =>
                          (spec_IsSolution (r13.1.1, (r13.1.2.1, r13.1.2.2)) r13.2).bind fun r17 =>
                           if r16.1 != r17.1 then
                            some false
                           else
                            if r16.2 != r17.2 then
                             some false
                            else
                             if r16.2 then
                              if r16.1 == r14.2 then
                               some false
                              else
                               if r14.2 then
                                (laws_FnConflicts_L36 fuel ((r13.1.1, (r13.1.2.1, r13.1.2.2)), r13.2, r14.1, [], 0)).bind fun s18 =>
                                 if inb s18.2.1 s18.1.2.2 then
                                  (impl_HasTuple s18.1.2.1 ((gd s18.1.2.2 s18.2.1 ([], (0, []))).2) s18.2.2).bind fun r19 =>
                                   if !r19.2 then
                                    some false
                                   else
                                    if r19.1 then
                                     some false
                                    else
                                     some true
                                 else none
                               else
                                some true
                             else
                              if r14.2 then
                               (laws_FnConflicts_L36 fuel ((r13.1.1, (r13.1.2.1, r13.1.2.2)), r13.2, r14.1, [], 0)).bind fun s20 =>
                                if inb s20.2.1 s20.1.2.2 then
                                 (impl_HasTuple s20.1.2.1 ((gd s20.1.2.2 s20.2.1 ([], (0, []))).2) s20.2.2).bind fun r21 =>
                                  if !r21.2 then
                                   some false
                                  else
                                   if r21.1 then
                                    some false
                                   else
                                    some true
                                else none
                              else
                               some true
              | .inr s9 =>
               some s9
         else
          (spec_DrawIsConflict t0).bind fun r22 =>
           (impl_IsConflict (r22.1.1, (r22.1.2.1, r22.1.2.2)) r22.2).bind fun r23 =>
            (spec_IsConflict (r22.1.1, (r22.1.2.1, r22.1.2.2)) r23.1).bind fun r24 =>
             if r23.2.1 != r24.1 then
              some false
             else
              if r23.2.2 != r24.2 then
               some false
              else
               (spec_DrawFirstUnsatisfied t0).bind fun r25 =>
                (impl_FirstUnsatisfied (r25.1.1, (r25.1.2.1, r25.1.2.2)) r25.2).bind fun r26 =>
                 (spec_FirstUnsatisfied (r25.1.1, (r25.1.2.1, r25.1.2.2)) r25.2).bind fun r27 =>
                  if r26.1 != r27.1 then
                   some false
                  else
                   if r26.2 != r27.2 then
                    some false
                   else
                    (impl_IsSolution (r25.1.1, (r25.1.2.1, r25.1.2.2)) r25.2).bind fun r28 =>
                     (spec_IsSolution (r25.1.1, (r25.1.2.1, r25.1.2.2)) r25.2).bind fun r29 =>
                      if r28.1 != r29.1 then
                       some false
                      else
                       if r28.2 != r29.2 then
                        some false
                       else
                        if r28.2 then
                         if r28.1 == r26.2 then
                          some false
                         else
                          if r26.2 then
                           (laws_FnConflicts_L36 fuel ((r25.1.1, (r25.1.2.1, r25.1.2.2)), r25.2, r26.1, [], 0)).bind fun s30 =>
                            if inb s30.2.1 s30.1.2.2 then
                             (impl_HasTuple s30.1.2.1 ((gd s30.1.2.2 s30.2.1 ([], (0, []))).2) s30.2.2).bind fun r31 =>
                              if !r31.2 then
                               some false
                              else
                               if r31.1 then
                                some false
                               else
                                some true
                            else none
                          else
                           some true
                        else
                         if r26.2 then
                          (laws_FnConflicts_L36 fuel ((r25.1.1, (r25.1.2.1, r25.1.2.2)), r25.2, r26.1, [], 0)).bind fun s32 =>
                           if inb s32.2.1 s32.1.2.2 then
                            (impl_HasTuple s32.1.2.1 ((gd s32.1.2.2 s32.2.1 ([], (0, []))).2) s32.2.2).bind fun r33 =>
                             if !r33.2 then
                              some false
                             else
                              if r33.1 then
                               some false
                              else
                               some true
                           else none
                         else
                          some true
end T
open Go Go.Va
namespace T
theorem most1 (a : Int) : ∃ m, spec_l1Most a 1 = some m ∧ 1 ≤ m ∧ a ≤ m ∧ (m ≤ a ∨ m ≤ 1) := by
 unfold spec_l1Most
 by_cases h : a > 1
 ·exact ⟨a, by rw [if_pos (by simpa using h)], by omega, by omega, by omega⟩
 ·exact ⟨1, by rw [if_neg (by simpa using h)], by omega, by omega, by omega⟩
def conD (W : Nat) (c : Con) : Prop := c.1.length ≤ W ∧ rowsB 601 3 c.2.2
theorem conD.mono {W W' : Nat} {c : Con} (h : W ≤ W') : conD W c → conD W' c := fun ⟨a, b⟩ => ⟨by omega, b⟩
def netD (a : Net) : Prop := -1 ≤ a.1 ∧ a.1 ≤ 10 ∧ 0 ≤ a.2.1 ∧ a.2.1 ≤ 5 ∧ a.2.2.length ≤ 41 ∧ ∀ c ∈ a.2.2, conD 5 c
theorem netD_S {a : Net} (h : netD a) : netS a := ⟨by have := h.2.2.2.2.1; omega, fun c hc => by
 have h1 := h.2.2.2.2.2 c hc
 exact ⟨by have := h1.1; omega, by have := h1.2.1; omega, fun r hr => by have := h1.2.2 r hr; omega⟩⟩
theorem net_L11 {V : Int} (hV : V ≤ 100) (t2 : Net) (t3 : Int) (t4 : List RelT) (n5 : Int) (cs : List Con) (t6 : Int) (t7 rl : Int × List (List Int)) : ∀ (d f k x : Nat) (c : CurT) (s : List Int), x + d = 4 → d < f → Cur k c → k + 2 * d ≤ 1000000 → s.length = x →
    ∃ c' s', spec_l1Cur_network_L11 f (c, t2, t3, t4, (V, (n5, cs)), t6, t7, (s, rl), (x : Int)) = some (c', t2, t3, t4, (V, (n5, cs)), t6, (s', rl)) ∧ Cur (k + 2 * d) c' ∧ s'.length ≤ 4 := by
  intro d
  induction d with
  | zero =>
    intro f k x c s hx hf hc hk hs
    obtain ⟨f, rfl⟩ : ∃ z, f = z + 1 := ⟨f - 1, by omega⟩
    refine ⟨c, s, ?_, hc, by omega⟩
    simp only [spec_l1Cur_network_L11]
    rw [if_neg (show ¬ decide ((x : Int) < 4) = true by simp; omega)]
    simp
  | succ d ih =>
    intro f k x c s hx hf hc hk hs
    obtain ⟨f, rfl⟩ : ∃ z, f = z + 1 := ⟨f - 1, by omega⟩
    simp only [spec_l1Cur_network_L11]
    by_cases h : (x : Int) < t7.1
    · obtain ⟨m, e1, m1, m2, m3⟩ := most1 V
      obtain ⟨c1, y, e2, g2, _⟩ := pick_ok hc (by omega) m (by omega)
      have e2 : spec_l1Cur_pick (c.1, (c.2.1, c.2.2)) m = _ := e2
      obtain ⟨c', s', e3, g3, h3⟩ := ih f (k + 2) (x + 1) c1 (s ++ [y]) (by omega) (by omega) g2 (by omega) (by simp; omega)
      refine ⟨c', s', ?_, g3.mono (by omega), h3⟩
      rw [if_pos (by simpa using h), if_pos (by simp; omega)]
      simp only [e1, Option.bind_some, e2]
      rw [if_pos (by rw [List.length_singleton]; unfold lim; omega), w64_succ (by omega)]
      exact e3
    · exact ⟨c, s, by rw [if_neg (by simpa using h)], hc.mono (by omega), by omega⟩
theorem net_L4 {n V : Int} (hn : n ≤ 100) (hV : V ≤ 100) {rels : List RelT} (hr : relsB rels) (t2 : Net) (n5 : Int) : ∀ (d f k : Nat) (c : CurT) (cs : List Con), d < f → Cur k c → k + 300 * d ≤ 90000 → cs.length + d ≤ 8 → (∀ c ∈ cs, conD 4 c) →
    ∃ c' cs', spec_l1Cur_network_L4 f (c, t2, n, rels, (V, (n5, cs)), (d : Int)) = some (c', t2, (V, (n5, cs'))) ∧ Cur (k + 300 * d) c' ∧ cs'.length ≤ 8 ∧ ∀ c ∈ cs', conD 4 c := by
  intro d
  induction d with
  | zero =>
    intro f k c cs hf hc hk ho hr
    obtain ⟨f, rfl⟩ : ∃ z, f = z + 1 := ⟨f - 1, by omega⟩
    refine ⟨c, cs, ?_, hc, by omega, hr⟩
    simp only [spec_l1Cur_network_L4]
    rw [if_neg (by simp)]
  | succ d ih =>
    intro f k c cs hf hc hk ho hcs
    obtain ⟨f, rfl⟩ : ∃ z, f = z + 1 := ⟨f - 1, by omega⟩
    have ew : w64 (((d + 1 : Nat) : Int) - 1) = (d : Int) := by rw [w64_id (by omega) (by omega)]; omega
    obtain ⟨m, e0, m1, m2, m3⟩ := most1 n
    obtain ⟨c1, x1, e1, g1, _⟩ := among_ok hc (by omega) (l := [1, 2, 2, 3]) (by simp) (by simp)
    have e1 : spec_l1Cur_among (c.1, (c.2.1, c.2.2)) [1, 2, 2, 3] = _ := e1
    obtain ⟨c2, r, e2, g2, h2⟩ := relation_ok (N := m) (A := x1) g1 (by omega) (by omega)
    have e2 : spec_l1Cur_relation (c1.1, (c1.2.1, c1.2.2)) m x1 = _ := e2
    have hfin : ∀ (k' : Nat) (c3 : CurT) (r : Int × List (List Int)), Cur k' c3 → k' ≤ k + 290 → rowsB 601 3 r.2 →
        ∃ c' cs', ((spec_l1Cur_network_L11 fuel (c3, t2, n, rels, (V, (n5, cs)), ((d + 1 : Nat) : Int), r, ([], r), 0)).bind fun s10 =>
          if s10.2.2.2.2.1.2.2.length + [(s10.2.2.2.2.2.2.1, (s10.2.2.2.2.2.2.2.1, s10.2.2.2.2.2.2.2.2))].length ≤ lim then
            spec_l1Cur_network_L4 f ((s10.1.1, (s10.1.2.1, s10.1.2.2)), (s10.2.1.1, (s10.2.1.2.1, s10.2.1.2.2)), s10.2.2.1, s10.2.2.2.1, (s10.2.2.2.2.1.1, (s10.2.2.2.2.1.2.1, s10.2.2.2.2.1.2.2 ++ [(s10.2.2.2.2.2.2.1, (s10.2.2.2.2.2.2.2.1, s10.2.2.2.2.2.2.2.2))])), w64 (s10.2.2.2.2.2.1 - 1))
          else none) = some (c', t2, (V, (n5, cs'))) ∧ Cur (k + 300 * (d + 1)) c' ∧ cs'.length ≤ 8 ∧ ∀ c ∈ cs', conD 4 c := by
      intro k' c3 r hc3 hk' hr3
      obtain ⟨c4, s, e4, g4, h4⟩ := net_L11 hV t2 n rels n5 cs ((d + 1 : Nat) : Int) r r 4 fuel k' 0 c3 [] (by omega) (by unfold fuel; omega) hc3 (by omega) rfl
      have e4 : spec_l1Cur_network_L11 fuel (c3, t2, n, rels, (V, (n5, cs)), ((d + 1 : Nat) : Int), r, ([], r), 0) = _ := e4
      obtain ⟨c', cs', e5, g5, h5, h6⟩ := ih f (k' + 8) c4 (cs ++ [(s, r)]) (by omega) g4 (by omega) (by simp; omega) (fun q hq => by
        rcases List.mem_append.1 hq with hq | hq
        · exact hcs q hq
        · rw [List.mem_singleton.1 hq]; exact ⟨h4, hr3⟩)
      refine ⟨c', cs', ?_, g5.mono (by omega), h5, h6⟩
      rw [e4]
      simp only [Option.bind_some]
      rw [if_pos (by rw [List.length_singleton]; unfold lim; omega)]
      simp only [ew]
      exact e5
    simp only [spec_l1Cur_network_L4, e0, e1, e2, Option.bind_some]
    rw [if_pos (show decide ((((d + 1 : Nat) : Int)) > 0) = true by simp)]
    by_cases hl : 0 < rels.length
    · rw [if_pos (show decide ((rels.length : Int) > 0) = true by simp; omega)]
      obtain ⟨c3, x3, e3, g3⟩ := one_ok g2 (by omega) 5 (by omega)
      have e3 : spec_l1Cur_one (c2.1, (c2.2.1, c2.2.2)) 5 = _ := e3
      simp only [e3, Option.bind_some]
      cases x3 with
      | true =>
        simp only [Bool.not_true, Bool.false_eq_true, if_false]
        exact hfin _ _ r g3 (by omega) h2
      | false =>
        simp only [Bool.not_false, if_true]
        have hrl := hr.1
        obtain ⟨c4, x4, e4, g4, h40, h41, _⟩ := pick_ok g3 (by omega) (rels.length : Int) (by omega)
        have e4 : spec_l1Cur_pick (c3.1, (c3.2.1, c3.2.2)) (rels.length : Int) = _ := e4
        obtain ⟨x, rfl⟩ : ∃ x : Nat, x4 = (x : Int) := ⟨x4.toNat, by omega⟩
        have hx : x < rels.length := by have := h41 (by omega); omega
        simp only [e4, Option.bind_some, inb_nat, hx, if_true, gd_nat hx]
        exact hfin _ _ rels[x] g4 (by omega) (hr.2 _ (List.getElem_mem hx))
    · rw [if_neg (show ¬ decide ((rels.length : Int) > 0) = true by rw [decide_eq_true_eq]; omega)]
      exact hfin _ _ r g2 (by omega) h2
theorem net_L23 {W : Nat} {c : CurT} {t2 : Net} {V n T : Int} (hT : T ≤ 41) : ∀ (d f : Nat) (cs : List Con), cs.length + d = 41 → d < f → (∀ c ∈ cs, conD W c) →
    ∃ cs', spec_l1Cur_network_L23 f (c, t2, (V, (n, cs)), T) = some (c, t2, (V, (n, cs'))) ∧ cs'.length ≤ 41 ∧ ∀ c ∈ cs', conD W c := by
  intro d
  induction d with
  | zero =>
    intro f cs hl hf hc
    obtain ⟨f, rfl⟩ : ∃ z, f = z + 1 := ⟨f - 1, by omega⟩
    refine ⟨cs, ?_, by omega, hc⟩
    simp only [spec_l1Cur_network_L23]
    rw [if_neg (show ¬ decide ((cs.length : Int) < T) = true by rw [decide_eq_true_eq]; omega)]
    simp
  | succ d ih =>
    intro f cs hl hf hc
    obtain ⟨f, rfl⟩ : ∃ z, f = z + 1 := ⟨f - 1, by omega⟩
    simp only [spec_l1Cur_network_L23]
    by_cases h0 : 0 < cs.length
    · rw [if_pos (show decide ((cs.length : Int) > 0) = true by simp; omega)]
      by_cases h1 : (cs.length : Int) < T
      · rw [if_pos (by simpa using h1)]
        have hi : inb 0 cs := by unfold inb; omega
        have hg : gd cs 0 ([], (0, [])) = cs[0] := gd_nat (k := 0) h0
        obtain ⟨cs', e, h2, h3⟩ := ih f (cs ++ [cs[0]]) (by simp; omega) (by omega) (fun q hq => by
          rcases List.mem_append.1 hq with hq | hq
          · exact hc q hq
          · rw [List.mem_singleton.1 hq]; exact hc _ (List.getElem_mem h0))
        refine ⟨cs', ?_, h2, h3⟩
        rw [if_pos hi, if_pos (by rw [List.length_singleton]; unfold lim; omega)]
        simp only [hg]
        exact e
      · exact ⟨cs, by rw [if_neg (by simpa using h1)], by omega, hc⟩
    · exact ⟨cs, by rw [if_neg (by rw [decide_eq_true_eq]; omega)], by omega, hc⟩
theorem network_ok {k : Nat} {c : CurT} (hc : Cur k c) (hk : k ≤ 5000) : ∃ c' a, spec_l1Cur_network c = some (c', a) ∧ Cur (k + 5000) c' ∧ netD a := by
 obtain ⟨c1, n, rels, e1, g1, n0, n1, hr⟩ := template_ok hc (by omega)
 have e1 : spec_l1Cur_template (c.1, (c.2.1, c.2.2)) = _ := e1
 obtain ⟨c2, V, e2, g2, hV⟩ := among_ok g1 (by omega) (l := [1, 2, 3, 3, 4, 4, 5, 6]) (by simp) (by simp)
 have e2 : spec_l1Cur_among (c1.1, (c1.2.1, c1.2.2)) [1, 2, 3, 3, 4, 4, 5, 6] = _ := e2
 obtain ⟨c3, m, e3, g3, hm⟩ := among_ok g2 (by omega) (l := [0, 1, 2, 3, 4, 5, 6, 8]) (by simp) (by simp)
 have e3 : spec_l1Cur_among (c2.1, (c2.2.1, c2.2.2)) [0, 1, 2, 3, 4, 5, 6, 8] = _ := e3
 have hV' : 1 ≤ V ∧ V ≤ 6 := by simp at hV; omega
 obtain ⟨m, rfl⟩ : ∃ z : Nat, m = (z : Int) := ⟨m.toNat, by simp at hm; omega⟩
 have hm' : m ≤ 8 := by simp at hm; omega
 obtain ⟨c4, cs, e4, g4, h4, h5⟩ := net_L4 (n := n) (V := V) (by omega) (by omega) hr (0, (0, [])) n m fuel _ c3 [] (by unfold fuel; omega) g3 (by omega) (by simpa using hm') (by simp)
 have e4 : spec_l1Cur_network_L4 fuel ((c3.1, (c3.2.1, c3.2.2)), (0, (0, [])), n, rels, (V, (n, [])), (m : Int)) = _ := e4
 obtain ⟨c5, x5, e5, g5, h50, h51, _⟩ := pick_ok g4 (by omega) 40 (by omega)
 have e5 : spec_l1Cur_pick (c4.1, (c4.2.1, c4.2.2)) 40 = _ := e5
 unfold spec_l1Cur_network
 simp only [e1, e2, e3, e4, e5, Option.bind_some]
 by_cases b0 : x5 = 0
 ·obtain ⟨c6, x6, e6, g6, hm6⟩ := among_ok g5 (by omega) (l := [(-1), 0, 9, 10]) (by simp) (by simp)
  have e6 : spec_l1Cur_among (c5.1, (c5.2.1, c5.2.2)) [(-1), 0, 9, 10] = _ := e6
  rw [if_pos (by simpa using b0)]
  simp only [e6, Option.bind_some]
  refine ⟨_, _, rfl, g6.mono (by omega), ?_⟩
  have : -1 ≤ x6 ∧ x6 ≤ 10 := by simp at hm6; omega
  exact ⟨this.1, this.2, n0, n1, by dsimp only; omega, fun q hq => (h5 q hq).mono (by omega)⟩
 ·rw [if_neg (by simpa using b0)]
  by_cases b1 : x5 = 1
  ·rw [if_pos (by simpa using b1)]
   by_cases hl : 0 < cs.length
   ·have hi : inb 0 cs := by unfold inb; omega
    have hg : gd cs 0 ([], (0, [])) = cs[0] := gd_nat (k := 0) hl
    have h0 := h5 _ (List.getElem_mem hl)
    have h1 : ((gd cs 0 ([], (0, []))).1).length + [(0 : Nat)].length ≤ lim := by
     rw [hg, List.length_singleton]; have := h0.1; unfold lim; omega
    rw [if_pos (show decide ((cs.length : Int) > 0) = true by simp; omega), if_pos hi]
    simp only [hg] at h1 ⊢
    rw [if_pos h1, if_pos hi]
    simp only [if_true]
    refine ⟨_, _, rfl, g5.mono (by omega), by dsimp only; omega, by dsimp only; omega, n0, n1, by dsimp only [stt]; rw [List.length_set]; omega, fun q hq => ?_⟩
    rcases List.mem_or_eq_of_mem_set hq with hq | rfl
    ·exact (h5 q hq).mono (by omega)
    ·exact ⟨by have := h0.1; simp; omega, h0.2⟩
   ·rw [if_neg (by rw [decide_eq_true_eq]; omega)]
    exact ⟨_, _, rfl, g5.mono (by omega), by dsimp only; omega, by dsimp only; omega, n0, n1, by dsimp only; omega, fun q hq => (h5 q hq).mono (by omega)⟩
  ·rw [if_neg (by simpa using b1)]
   by_cases b2 : x5 = 2
   ·rw [if_pos (by simpa using b2)]
    obtain ⟨c6, x6, e6, g6, h60, h61, _⟩ := pick_ok g5 (by omega) 2 (by omega)
    have e6 : spec_l1Cur_pick (c5.1, (c5.2.1, c5.2.2)) 2 = _ := e6
    have h61 := h61 (by omega)
    have ew : w64 (40 + x6) = 40 + x6 := w64_id (by omega) (by omega)
    obtain ⟨cs', e7, h7, h8⟩ := net_L23 (c := c6) (t2 := (0, (0, []))) (V := V) (n := n) (T := 40 + x6) (by omega) (41 - cs.length) fuel cs (by omega) (by unfold fuel; omega) h5
    have e7 : spec_l1Cur_network_L23 fuel ((c6.1, (c6.2.1, c6.2.2)), (0, (0, [])), (V, (n, cs)), 40 + x6) = _ := e7
    simp only [e6, Option.bind_some, ew, e7]
    exact ⟨_, _, rfl, g6.mono (by omega), by dsimp only; omega, by dsimp only; omega, n0, n1, h7, fun q hq => (h8 q hq).mono (by omega)⟩
   ·rw [if_neg (by simpa using b2)]
    exact ⟨_, _, rfl, g5.mono (by omega), by dsimp only; omega, by dsimp only; omega, n0, n1, by dsimp only; omega, fun q hq => (h5 q hq).mono (by omega)⟩
end T
open Go Go.Va
namespace T
theorem srch_of {a : Net} (hb : netB a = true) : ∃ (V n : Nat) (cs : List Con), a = ((V : Int), ((n : Int), cs)) ∧ SrchOk V n cs := by
 have hN := net_of hb
 obtain ⟨v, nn, cs⟩ := a
 have hv := hN.hv
 have hn := hN.hn
 have hc := hN.hc
 have hcon := hN.con
 dsimp only at hv hn hc hcon
 obtain ⟨V, rfl⟩ : ∃ V : Nat, v = (V : Int) := ⟨v.toNat, by omega⟩
 obtain ⟨n, rfl⟩ : ∃ n : Nat, nn = (n : Int) := ⟨nn.toNat, by omega⟩
 exact ⟨V, n, cs, rfl, by omega, by omega, hc, hcon⟩
theorem vals_L3 {V n : Int} (hn : n ≤ 100) (cs : List Con) (free : Bool) : ∀ (d f k x : Nat) (c : CurT) (o : List Int), x + d = 10 → d < f → Cur k c → k + 4 * d ≤ 1000000 → o.length = x →
    ∃ c' o', spec_l1Cur_values19_L3 f (c, free, (V, (n, cs)), o, (x : Int)) = some (c', (V, (n, cs)), o') ∧ Cur (k + 4 * d) c' ∧ o'.length ≤ 10 := by
  intro d
  induction d with
  | zero =>
    intro f k x c o hx hf hc hk hs
    obtain ⟨f, rfl⟩ : ∃ z, f = z + 1 := ⟨f - 1, by omega⟩
    refine ⟨c, o, ?_, hc, by omega⟩
    simp only [spec_l1Cur_values19_L3]
    rw [if_neg (show ¬ decide ((x : Int) < 10) = true by rw [decide_eq_true_eq]; omega)]
    simp
  | succ d ih =>
    intro f k x c o hx hf hc hk hs
    obtain ⟨f, rfl⟩ : ∃ z, f = z + 1 := ⟨f - 1, by omega⟩
    simp only [spec_l1Cur_values19_L3]
    by_cases h : (x : Int) < V
    · obtain ⟨m, e1, m1, m2, m3⟩ := most1 n
      obtain ⟨c1, y, e2, g2, _⟩ := pick_ok hc (by omega) m (by omega)
      have e2 : spec_l1Cur_pick (c.1, (c.2.1, c.2.2)) m = _ := e2
      have fin : ∀ (c2 : CurT) (y : Int), Cur (k + 4) c2 → ∃ c' o', (if o.length + [y].length ≤ lim then spec_l1Cur_values19_L3 f (c2, free, (V, (n, cs)), o ++ [y], w64 ((x : Int) + 1)) else none) = some (c', (V, (n, cs)), o') ∧ Cur (k + 4 * (d + 1)) c' ∧ o'.length ≤ 10 := fun c2 y g => by
        obtain ⟨c', o', e3, g3, h3⟩ := ih f (k + 4) (x + 1) c2 (o ++ [y]) (by omega) (by omega) g (by omega) (by simp; omega)
        refine ⟨c', o', ?_, g3.mono (by omega), h3⟩
        rw [if_pos (by rw [List.length_singleton]; unfold lim; omega), w64_succ (by omega)]
        exact e3
      rw [if_pos (by simpa using h), if_pos (by simp; omega)]
      simp only [e1, Option.bind_some, e2]
      cases free with
      | false =>
        simp only [Bool.false_eq_true, if_false]
        exact fin c1 y (g2.mono (by omega))
      | true =>
        obtain ⟨c2, z, e3, g3⟩ := one_ok g2 (by omega) 3 (by omega)
        have e3 : spec_l1Cur_one (c1.1, (c1.2.1, c1.2.2)) 3 = _ := e3
        simp only [if_true, e3, Option.bind_some]
        cases z with
        | true =>
          simp only [Bool.not_true, Bool.false_eq_true, if_false]
          exact fin c2 y (g3.mono (by omega))
        | false =>
          simp only [Bool.not_false, if_true]
          exact fin c2 (-1) (g3.mono (by omega))
    · exact ⟨c, o, by rw [if_neg (by simpa using h)], hc.mono (by omega), by omega⟩
theorem values19_ok {k : Nat} {c : CurT} (hc : Cur k c) (hk : k ≤ 100000) {a : Net} (hn : a.2.1 ≤ 100) (free : Bool) : ∃ c' o, spec_l1Cur_values19 c a free = some (c', o) ∧ Cur (k + 100) c' ∧ o.length ≤ 11 := by
 obtain ⟨V, n, cs⟩ := a
 obtain ⟨c1, o, e1, g1, h1⟩ := vals_L3 (V := V) hn cs free 10 fuel k 0 c [] (by omega) (by unfold fuel; omega) hc (by omega) rfl
 have e1 : spec_l1Cur_values19_L3 fuel ((c.1, (c.2.1, c.2.2)), free, (V, (n, cs)), [], 0) = _ := e1
 obtain ⟨c2, x, e2, g2, _⟩ := pick_ok g1 (by omega) 30 (by omega)
 have e2 : spec_l1Cur_pick (c1.1, (c1.2.1, c1.2.2)) 30 = _ := e2
 unfold spec_l1Cur_values19
 simp only [e1, e2, Option.bind_some]
 by_cases b0 : x = 0
 ·rw [if_pos (by simpa using b0), if_pos (by rw [List.length_singleton]; unfold lim; omega)]
  exact ⟨_, _, rfl, g2.mono (by omega), by simp; omega⟩
 ·rw [if_neg (by simpa using b0)]
  by_cases b1 : x = 1
  ·rw [if_pos (by simpa using b1)]
   by_cases hl : 0 < o.length
   ·rw [if_pos (by rw [decide_eq_true_eq]; omega)]
    obtain ⟨c3, y, e3, g3, _⟩ := among_ok g2 (by omega) (l := [(-2), (-1), n]) (by simp) (by simp)
    have e3 : spec_l1Cur_among (c2.1, (c2.2.1, c2.2.2)) [(-2), (-1), n] = _ := e3
    simp only [e3, Option.bind_some]
    rw [if_pos (by unfold inb; omega)]
    exact ⟨_, _, rfl, g3.mono (by omega), by unfold stt; rw [List.length_set]; omega⟩
   ·rw [if_neg (by rw [decide_eq_true_eq]; omega)]
    exact ⟨_, _, rfl, g2.mono (by omega), by omega⟩
  ·rw [if_neg (by simpa using b1)]
   exact ⟨_, _, rfl, g2.mono (by omega), by omega⟩
theorem find_b : spec_l19Find_b = spec_l19Find := rfl
theorem DrawIsSolution_ok {code : List Int} (h1 : code.length ≤ 65536) (h2 : ∀ x ∈ code, 0 ≤ x ∧ x < 256) : ∃ a o, spec_DrawIsSolution code = some (a, o) ∧ netD a ∧ o.length ≤ 11 := by
 obtain ⟨c1, a, e1, g1, hD⟩ := network_ok (k := 0) (c := (code, (0, 0))) ⟨h1, h2, by simp, by simp⟩ (by omega)
 have hS := netD_S hD
 have e2 : spec_l19Good (a.1, (a.2.1, a.2.2)) = _ := spec_l19Good_ok (a := a) hS
 have hn := hD.2.2.2.1
 unfold spec_DrawIsSolution
 simp only [e1, e2, Option.bind_some]
 cases hb : netB a with
 | false =>
  obtain ⟨c3, o, e3, g3, h3⟩ := values19_ok g1 (by omega) (a := a) (by omega) false
  have e3 : spec_l1Cur_values19 (c1.1, (c1.2.1, c1.2.2)) (a.1, (a.2.1, a.2.2)) false = _ := e3
  simp only [Bool.false_eq_true, if_false, e3, Option.bind_some]
  exact ⟨a, o, rfl, hD, h3⟩
 | true =>
  obtain ⟨c2, x, e4, g4⟩ := one_ok g1 (by omega) 2 (by omega)
  have e4 : spec_l1Cur_one (c1.1, (c1.2.1, c1.2.2)) 2 = _ := e4
  obtain ⟨c3, o, e3, g3, h3⟩ := values19_ok g4 (by omega) (a := a) (by omega) false
  have e3 : spec_l1Cur_values19 (c2.1, (c2.2.1, c2.2.2)) (a.1, (a.2.1, a.2.2)) false = _ := e3
  simp only [if_true, e4, Option.bind_some]
  cases x with
  | false =>
   simp only [Bool.false_eq_true, if_false, e3, Option.bind_some]
   exact ⟨a, o, rfl, hD, h3⟩
  | true =>
   obtain ⟨V, n, cs, rfl, hO⟩ := srch_of hb
   have hV := hO.hv
   dsimp only at e3
   simp only [if_true, freeS_ok (show V ≤ 1000 by omega), Option.bind_some, find_b]
   cases hs : solsN V n cs (List.replicate V (-1)) with
   | nil =>
    have e5 := find19_ok (cs0 := cs) (given := List.replicate V (-1)) (most := 8) (one := true) hO (by simp) (by omega) (s' := ([], 0, 8, true)) (b := true) (by rw [hs]; rfl)
    rw [e5]
    simp only [Option.bind_some]
    rw [if_neg (by simp)]
    simp only [e3, Option.bind_some]
    exact ⟨_, o, rfl, hD, h3⟩
   | cons t l =>
    have e5 := find19_ok (cs0 := cs) (given := List.replicate V (-1)) (most := 8) (one := true) hO (by simp) (by omega) (s' := ([t], 1, 8, true)) (b := false) (by rw [hs]; rfl)
    have ht := (ext_mem (n := n) (given := List.replicate V (-1)) (ok := okN cs) V [] t (by rw [show extL n (List.replicate V (-1)) (okN cs) V [] = _ from hs]; simp)).1
    rw [e5]
    simp only [Option.bind_some]
    rw [if_pos (by simp), if_pos (by unfold inb; simp)]
    exact ⟨_, t, rfl, hD, by rw [ht, List.length_nil]; omega⟩
theorem conf_L5 {t2 a : Net} (hl : a.2.2.length ≤ 41) : ∀ (d f k x : Nat) (c : CurT) (o : List Int), x + d = a.2.2.length → d < f → Cur k c → k + 2 * d ≤ 1000000 → o.length ≤ x →
    ∃ c' o', spec_DrawIsConflict_L5 f (t2, c, a, o, (x : Int)) = some (t2, c', a, o') ∧ Cur (k + 2 * d) c' ∧ o'.length ≤ 41 := by
  intro d
  induction d with
  | zero =>
    intro f k x c o hx hf hc hk hs
    obtain ⟨f, rfl⟩ : ∃ z, f = z + 1 := ⟨f - 1, by omega⟩
    refine ⟨c, o, ?_, hc, by omega⟩
    simp only [spec_DrawIsConflict_L5]
    rw [if_neg (by rw [decide_eq_true_eq]; omega)]
  | succ d ih =>
    intro f k x c o hx hf hc hk hs
    obtain ⟨f, rfl⟩ : ∃ z, f = z + 1 := ⟨f - 1, by omega⟩
    obtain ⟨c1, y, e2, g2⟩ := one_ok hc (by omega) 3 (by omega)
    have e2 : spec_l1Cur_one (c.1, (c.2.1, c.2.2)) 3 = _ := e2
    simp only [spec_DrawIsConflict_L5, e2, Option.bind_some, w64_succ (show x < 4611686018427387904 by omega)]
    rw [if_pos (by rw [decide_eq_true_eq]; omega)]
    cases y with
    | true =>
      simp only [Bool.not_true, Bool.false_eq_true, if_false]
      obtain ⟨c', o', e3, g3, h3⟩ := ih f (k + 2) (x + 1) c1 o (by omega) (by omega) g2 (by omega) (by omega)
      exact ⟨c', o', e3, g3.mono (by omega), h3⟩
    | false =>
      simp only [Bool.not_false, if_true]
      rw [if_pos (by rw [List.length_singleton]; unfold lim; omega)]
      obtain ⟨c', o', e3, g3, h3⟩ := ih f (k + 2) (x + 1) c1 (o ++ [(x : Int)]) (by omega) (by omega) g2 (by omega) (by simp; omega)
      exact ⟨c', o', e3, g3.mono (by omega), h3⟩
theorem DrawIsConflict_ok {code : List Int} (h1 : code.length ≤ 65536) (h2 : ∀ x ∈ code, 0 ≤ x ∧ x < 256) : ∃ a o, spec_DrawIsConflict code = some (a, o) ∧ netD a ∧ o.length ≤ 42 := by
 obtain ⟨c1, a, e1, g1, hD⟩ := network_ok (k := 0) (c := (code, (0, 0))) ⟨h1, h2, by simp, by simp⟩ (by omega)
 have hl := hD.2.2.2.2.1
 obtain ⟨c2, o, e2, g2, h3⟩ := conf_L5 (t2 := (0, (0, []))) hl a.2.2.length fuel _ 0 c1 [] (by omega) (by unfold fuel; omega) g1 (by omega) (by simp)
 have e2 : spec_DrawIsConflict_L5 fuel ((0, (0, [])), (c1.1, (c1.2.1, c1.2.2)), (a.1, (a.2.1, a.2.2)), [], 0) = _ := e2
 obtain ⟨c3, x, e3, g3⟩ := one_ok g2 (by omega) 16 (by omega)
 have e3 : spec_l1Cur_one (c2.1, (c2.2.1, c2.2.2)) 16 = _ := e3
 unfold spec_DrawIsConflict
 simp only [e1, e2, e3, Option.bind_some]
 cases x with
 | false =>
  simp only [Bool.false_eq_true, if_false]
  exact ⟨a, o, rfl, hD, by omega⟩
 | true =>
  obtain ⟨c4, y, e4, g4, _⟩ := among_ok g3 (by omega) (l := [0, (a.2.2.length : Int)]) (by simp) (by simp)
  have e4 : spec_l1Cur_among (c3.1, (c3.2.1, c3.2.2)) [0, (a.2.2.length : Int)] = _ := e4
  simp only [if_true, e4, Option.bind_some]
  rw [if_pos (by rw [List.length_singleton]; unfold lim; omega)]
  exact ⟨a, _, rfl, hD, by simp; omega⟩
end T
open Go Go.Va
namespace T
section
variable {V n : Nat} {cs : List Con} {t : List Int} {a : Net}
theorem sols_gen (hS : SrchOk V n cs) : t ∈ solsN V n cs (List.replicate V (-1)) ↔ t.length = V ∧ (∀ u, u < V → 0 ≤ t.getD u 0 ∧ t.getD u 0 < (n : Int)) ∧ ∀ c ∈ cs, conH t c = true := by
 unfold solsN
 rw [ext_iff]
 simp only [List.length_nil, Nat.zero_add, List.take_zero, true_and, Nat.zero_le, true_implies]
 constructor
 ·rintro ⟨h1, h2⟩
  refine ⟨h1, fun u hu => (h2 u (by omega)).1, fun c hc => ?_⟩
  have hm : c ∈ conAt cs (mostC c) := mem_conAt.2 ⟨hc, rfl⟩
  have hlt := (conAt_ok hS hm).2
  have := (h2 (mostC c) (by omega)).2.2
  rw [okN_take hS (by omega), List.all_eq_true] at this
  exact this c hm
 ·rintro ⟨h1, h2, h3⟩
  refine ⟨h1, fun q hq => ⟨by have := h2 q (by omega); omega, mst_free (by omega), ?_⟩⟩
  rw [okN_take hS hq, List.all_eq_true]
  exact fun c hc => h3 c (mem_conAt.1 hc).1
theorem isCon_iff : isCon V n cs = true ↔ ∀ t, t ∉ solsN V n cs (List.replicate V (-1)) := by
 unfold isCon
 rw [List.isEmpty_iff]
 constructor
 ·intro h t ht; rw [h] at ht; simp at ht
 ·intro h; exact List.eq_nil_iff_forall_not_mem.2 h
theorem isCon_mono {cs' : List Con} (h1 : SrchOk V n cs) (h2 : SrchOk V n cs') (hs : ∀ c ∈ cs, c ∈ cs') (hc : isCon V n cs = true) : isCon V n cs' = true := by
 rw [isCon_iff] at hc ⊢
 intro t ht
 obtain ⟨a1, a2, a3⟩ := (sols_gen h2).1 ht
 exact hc t ((sols_gen h1).2 ⟨a1, a2, fun c hc => a3 c (hs c hc)⟩)
theorem selC_mem {l l' : List Int} (h : ∀ x ∈ l, x ∈ l') : ∀ c ∈ selC cs l, c ∈ selC cs l' := fun c hc => by
 unfold selC at hc ⊢
 obtain ⟨x, hx, rfl⟩ := List.mem_map.1 hc
 exact List.mem_map_of_mem (h x hx)
def risB (l : List Int) : Bool := decide (l.Pairwise (· < ·))
theorem ris_adj {l : List Int} : l.Pairwise (· < ·) ↔ ∀ k, k + 1 < l.length → l.getD k 0 < l.getD (k + 1) 0 := by
 rw [List.pairwise_iff_getElem]
 constructor
 ·intro h k hk
  rw [getD_of (by omega), getD_of hk]
  exact h k (k + 1) (by omega) hk (by omega)
 ·intro h
  have key : ∀ d i, (hi : i + d + 1 < l.length) → l.getD i 0 < l.getD (i + d + 1) 0 := by
   intro d
   induction d with
   | zero => intro i hi; exact h i hi
   | succ d ih =>
    intro i hi
    have h1 := ih i (by omega)
    have h2 := h (i + d + 1) (by omega)
    have : i + (d + 1) + 1 = i + d + 1 + 1 := by omega
    rw [this]; omega
  intro i j hi hj hij
  have := key (j - i - 1) i (by omega)
  rw [show i + (j - i - 1) + 1 = j by omega, getD_of hi, getD_of hj] at this
  exact this
theorem impl_rises_ok {l : List Int} (hl : l.length ≤ 1048576) : impl_rises l = some (risB l) := by
 unfold impl_rises
 have := forA (l.length - 1) (fun f (_ : Unit) i => impl_rises_L2 f (l, i + 1)) (fun _ => ()) (fun k => decide (l.getD k 0 < l.getD (k + 1) 0)) (r := some (.inr false)) (e := some (.inl ())) (fun f k hk => ?_) (fun f => ?_) (n := fuel) (by unfold fuel; omega)
 ·have this : impl_rises_L2 fuel (l, 1) = _ := this
  rw [this]
  have hb : ((List.range (l.length - 1)).all fun k => decide (l.getD k 0 < l.getD (k + 1) 0)) = risB l := by
   unfold risB
   rw [Bool.eq_iff_iff, decide_eq_true_eq, ris_adj, List.all_eq_true]
   constructor
   ·intro h k hk; exact of_decide_eq_true (h k (List.mem_range.2 (by omega)))
   ·intro h k hk; exact decide_eq_true (h k (by have := List.mem_range.1 hk; omega))
  rw [hb]
  cases risB l <;> rfl
 ·have e1 : (k : Int) + 1 = ((k + 1 : Nat) : Int) := by omega
  have e2 : w64 (((k + 1 : Nat) : Int) - 1) = (k : Int) := by rw [w64_id (by omega) (by omega)]; omega
  have h1 : k < l.length := by omega
  have h2 : k + 1 < l.length := by omega
  simp only [impl_rises_L2, e1, e2, inb_nat, h1, h2, gd_nat h1, gd_nat h2, if_true, getD_of h1, getD_of h2, w64_succ (show k + 1 < 4611686018427387904 by omega)]
  rw [if_pos (by rw [decide_eq_true_eq]; omega)]
  by_cases h : l[k] < l[k + 1]
  ·rw [if_neg (by rw [decide_eq_true_eq]; omega), if_pos (decide_eq_true h)]; rfl
  ·rw [if_pos (by rw [decide_eq_true_eq]; omega), if_neg (by simpa using h)]
 ·simp only [impl_rises_L2]
  rw [if_neg (by rw [decide_eq_true_eq]; omega)]
theorem spec_l1Rising_ok {l : List Int} {N : Int} (hl : l.length ≤ 1048576) (hN : 0 ≤ N) (hN' : N ≤ 1048576) : spec_l1Rising l 0 (w64 (N - 1)) = some (risB l && belowB N l) := by
 rw [w64_id (by omega) (by omega)]
 unfold spec_l1Rising
 have := forA l.length (fun f (_ : Unit) i => spec_l1Rising_L2 f (l, 0, N - 1, i)) (fun _ => ()) (fun k => decide (0 ≤ l.getD k 0 ∧ l.getD k 0 ≤ N - 1) && (decide (k = 0) || decide (l.getD (k - 1) 0 < l.getD k 0))) (r := some (.inr false)) (e := some (.inl ())) (fun f k hk => ?_) (fun f => ?_) (n := fuel) (by unfold fuel; omega)
 ·have this : spec_l1Rising_L2 fuel (l, 0, N - 1, 0) = _ := this
  rw [this]
  have hb : ((List.range l.length).all fun k => decide (0 ≤ l.getD k 0 ∧ l.getD k 0 ≤ N - 1) && (decide (k = 0) || decide (l.getD (k - 1) 0 < l.getD k 0))) = (risB l && belowB N l) := by
   unfold risB belowB
   rw [Bool.eq_iff_iff, Bool.and_eq_true, decide_eq_true_eq, ris_adj, List.all_eq_true, List.all_eq_true]
   simp only [Bool.and_eq_true, Bool.or_eq_true, decide_eq_true_eq, List.mem_range]
   constructor
   ·intro h
    refine ⟨fun k hk => ?_, fun x hx => ?_⟩
    ·have := (h (k + 1) hk).2
     simp at this; simpa using this
    ·obtain ⟨k, hk, rfl⟩ := List.getElem_of_mem hx
     have := (h k hk).1
     rw [getD_of hk] at this; omega
   ·rintro ⟨h1, h2⟩ k hk
    refine ⟨by have := h2 _ (List.getElem_mem hk); rw [getD_of hk]; omega, ?_⟩
    by_cases h : k = 0
    ·exact .inl h
    ·right
     have := h1 (k - 1) (by omega)
     rwa [show k - 1 + 1 = k by omega] at this
  rw [hb]
  cases risB l && belowB N l <;> rfl
 ·simp only [spec_l1Rising_L2, inb_nat, hk, gd_nat hk, if_true, getD_of hk, spec_l1In_ok, Option.bind_some, w64_succ (show k < 4611686018427387904 by omega)]
  rw [if_pos (by rw [decide_eq_true_eq]; omega)]
  by_cases h0 : 0 ≤ l[k] ∧ l[k] ≤ N - 1
  ·rw [decide_eq_true h0]
   simp only [Bool.not_true, Bool.false_eq_true, if_false, Bool.true_and]
   by_cases hz : k = 0
   ·subst hz
    rw [if_neg (by simp)]; simp
   ·have h1 : k - 1 < l.length := by omega
    have e2 : w64 ((k : Int) - 1) = ((k - 1 : Nat) : Int) := by rw [w64_id (by omega) (by omega)]; omega
    rw [if_pos (by rw [decide_eq_true_eq]; omega), e2]
    simp only [inb_nat, h1, gd_nat h1, if_true, getD_of h1, decide_eq_false hz, Bool.false_or]
    by_cases h : l[k - 1] < l[k]
    ·rw [if_neg (by rw [decide_eq_true_eq]; omega), if_pos (decide_eq_true h)]
    ·rw [if_pos (by rw [decide_eq_true_eq]; omega), if_neg (by simpa using h)]
  ·rw [decide_eq_false h0]; simp
 ·simp only [spec_l1Rising_L2]
  rw [if_neg (by simp)]
theorem ris_len : ∀ (N : Nat) (l : List Int), risB l = true → belowB (N : Int) l = true → l.length ≤ N := by
 intro N l h1 h2
 unfold risB at h1
 have h1 := of_decide_eq_true h1
 have hnd : (l.map Int.toNat).Nodup := by
  rw [List.nodup_iff_pairwise_ne, List.pairwise_map]
  unfold belowB at h2
  rw [List.all_eq_true] at h2
  refine List.Pairwise.imp_of_mem ?_ h1
  intro x y hx hy hxy
  have := of_decide_eq_true (h2 x hx)
  have := of_decide_eq_true (h2 y hy)
  omega
 have := nodup_len N _ hnd fun x hx => by
  obtain ⟨y, hy, rfl⟩ := List.mem_map.1 hx
  unfold belowB at h2
  rw [List.all_eq_true] at h2
  have := of_decide_eq_true (h2 y hy)
  omega
 simpa using this
theorem ris_idx {l : List Int} (h1 : risB l = true) (h2 : belowB (cs.length : Int) l = true) : idxOk cs l :=
 ⟨ris_len cs.length l h1 h2, fun x hx => by unfold belowB at h2; rw [List.all_eq_true] at h2; exact of_decide_eq_true (h2 x hx)⟩
def cfV (a : Net) (l : List Int) : Bool × Bool :=
 if netB a && (risB l && belowB (a.2.2.length : Int) l) then (isCon a.1.toNat a.2.1.toNat (selC a.2.2 l), true) else (false, false)
theorem impl_IsConflict_ok (h : netS a) {l : List Int} (hl : l.length ≤ 1048576) : impl_IsConflict a l = some (l, cfV a l) := by
 unfold impl_IsConflict cfV
 rw [impl_IsNetwork_ok (a := (a.1, (a.2.1, a.2.2))) h]
 rw [show netB (a.1, (a.2.1, a.2.2)) = netB a from rfl]
 cases hb : netB a with
 | false => simp
 | true =>
  simp only [Option.bind_some, Bool.not_true, Bool.false_eq_true, if_false, impl_rises_ok hl, Bool.true_and]
  cases h1 : risB l with
  | false => simp
  | true =>
   simp only [Option.bind_some, Bool.not_true, Bool.false_eq_true, if_false, impl_inSize_ok (l := l) (a.2.2.length : Int) (by omega), Bool.true_and]
   cases h2 : belowB (a.2.2.length : Int) l with
   | false => simp
   | true =>
    obtain ⟨V, n, cs, rfl, hS⟩ := srch_of hb
    have hi := ris_idx h1 h2
    have e1 := partOf_ok hS hi
    have e2 := solvable_ok (sel_ok hS hi)
    simp only [Option.bind_some, Bool.not_true, Bool.false_eq_true, if_false, e1, e2, Int.toNat_natCast, if_true, isCon, Bool.not_not]
theorem specC_sel (hS : SrchOk V n cs) {l : List Int} (hi : idxOk cs l) : spec_IsConflict_L5 fuel (l, ((V : Int), ((n : Int), cs)), [], 0) = some (((V : Int), ((n : Int), cs)), selC cs l) := by
 have hc := hS.hc
 have hll := hi.1
 have := forS l.length (fun f (o : List Con) i => spec_IsConflict_L5 f (l, ((V : Int), ((n : Int), cs)), o, i)) (fun k => selC cs (l.take k)) (r := some (((V : Int), ((n : Int), cs)), selC cs l)) (fun f k hk => ?_) (fun f => ?_) (n := fuel) (by unfold fuel; omega)
 ·exact this
 ·have hx := hi.2 _ (List.getElem_mem hk)
  have hin : inb l[k] cs := by unfold inb; omega
  have hgd : gd cs l[k] ([], (0, [])) = cs.getD (l[k]).toNat con0' := rfl
  have htk : selC cs (l.take (k + 1)) = selC cs (l.take k) ++ [cs.getD (l[k]).toNat con0'] := by
   unfold selC
   rw [List.take_succ_eq_append_getElem hk, List.map_append]; rfl
  simp only [spec_IsConflict_L5, inb_nat, hk, gd_nat hk, hin, hgd, htk, if_true, w64_succ (show k < 4611686018427387904 by omega)]
  rw [if_pos (by simp; omega), if_pos (by simp [selC]; unfold lim; omega)]
 ·simp only [spec_IsConflict_L5, List.take_length]
  rw [if_neg (by simp)]
theorem spec_IsConflict_ok (h : netS a) {l : List Int} (hl : l.length ≤ 1048576) : spec_IsConflict a l = some (cfV a l) := by
 unfold spec_IsConflict cfV
 rw [spec_l19Good_ok (a := (a.1, (a.2.1, a.2.2))) h]
 rw [show netB (a.1, (a.2.1, a.2.2)) = netB a from rfl]
 cases hb : netB a with
 | false => simp
 | true =>
  have hc := h.1
  simp only [Option.bind_some, Bool.not_true, Bool.false_eq_true, if_false, Bool.true_and]
  rw [spec_l1Rising_ok hl (by omega) (by omega)]
  simp only [Option.bind_some]
  cases h1 : risB l && belowB (a.2.2.length : Int) l with
  | false => simp
  | true =>
   rw [Bool.and_eq_true] at h1
   obtain ⟨V, n, cs, rfl, hS⟩ := srch_of hb
   have hi := ris_idx h1.1 h1.2
   have e1 := specC_sel hS hi
   have e2 := can_ok (cs0 := cs) (sel_ok hS hi)
   simp only [Option.bind_some, Bool.not_true, Bool.false_eq_true, if_false, e1, e2, Int.toNat_natCast, if_true, isCon, Bool.not_not]
end
end T
open Go Go.Va
namespace T
section
variable {V n : Nat} {cs : List Con} {a : Net}
theorem less_mem {core : List Int} {i : Nat} {x : Int} : x ∈ lessL core i ↔ x ∈ core ∧ x ≠ (i : Int) := by
 unfold lessL
 rw [List.mem_filter, bne_iff_ne]
theorem core_sub {k : Nat} : ∀ d, ∀ x ∈ coreS V n cs (k + d), x ∈ coreS V n cs k
 | 0, x, h => h
 | d + 1, x, h => by
  refine core_sub d x ?_
  rw [show k + (d + 1) = k + d + 1 from rfl] at h
  unfold coreS at h
  split at h
  ·exact (less_mem.1 h).1
  ·exact h
theorem core_ris : ∀ k, (coreS V n cs k).Pairwise (· < ·)
 | 0 => by
  unfold coreS
  rw [List.pairwise_map]
  exact List.pairwise_lt_range.imp fun h => by omega
 | k + 1 => by
  unfold coreS
  split
  ·exact (core_ris k).sublist List.filter_sublist
  ·exact core_ris k
theorem core_risB (k : Nat) : risB (coreS V n cs k) = true := decide_eq_true (core_ris k)
theorem core_below (k : Nat) : belowB (cs.length : Int) (coreS V n cs k) = true := by
 unfold belowB
 rw [List.all_eq_true]
 exact fun x hx => decide_eq_true ((core_idx k).2 x hx)
theorem core_con (h : isCon V n cs = true) : ∀ k, isCon V n (selC cs (coreS V n cs k)) = true
 | 0 => by
  have : selC cs (coreS V n cs 0) = cs := by
   unfold selC coreS
   rw [List.map_map]
   refine List.ext_getElem (by simp) fun i h1 h2 => ?_
   simp [h2]
  rw [this]; exact h
 | k + 1 => by
  unfold coreS
  split
  ·assumption
  ·exact core_con h k
theorem core_less (hS : SrchOk V n cs) {i : Nat} (hi : (i : Int) ∈ coreS V n cs cs.length) : isCon V n (selC cs (lessL (coreS V n cs cs.length) i)) = false := by
 have hlt := (core_idx (V := V) (n := n) (cs := cs) cs.length).2 _ hi
 have h1 : (i : Int) ∈ coreS V n cs (i + 1) := core_sub (cs.length - (i + 1)) _ (by rw [show i + 1 + (cs.length - (i + 1)) = cs.length by omega]; exact hi)
 have h2 : isCon V n (selC cs (lessL (coreS V n cs i) i)) = false := by
  cases h : isCon V n (selC cs (lessL (coreS V n cs i) i)) with
  | false => rfl
  | true =>
   unfold coreS at h1
   rw [if_pos h] at h1
   exact absurd rfl (less_mem.1 h1).2
 cases h : isCon V n (selC cs (lessL (coreS V n cs cs.length) i)) with
 | false => rfl
 | true =>
  have := isCon_mono (sel_ok hS (less_idx (core_idx cs.length) i)) (sel_ok hS (less_idx (core_idx i) i)) (selC_mem fun x hx => by
   obtain ⟨m1, m2⟩ := less_mem.1 hx
   exact less_mem.2 ⟨core_sub (cs.length - i) _ (by rw [show i + (cs.length - i) = cs.length by omega]; exact m1), m2⟩) h
  rw [this] at h2; exact absurd h2 (by simp)
theorem rest_sub {l : List Int} (hl : l.Pairwise (· < ·)) {k : Nat} (hk : k < l.length) : (l.take k ++ l.drop (k + 1)).Sublist l ∧ ∀ x ∈ l.take k ++ l.drop (k + 1), x ∈ l ∧ x ≠ l[k] := by
 have e : l.take k ++ l.drop (k + 1) = l.eraseIdx k := by rw [List.eraseIdx_eq_take_drop_succ]
 refine ⟨by rw [e]; exact List.eraseIdx_sublist .., fun x hx => ?_⟩
 have hp := List.pairwise_iff_getElem.1 hl
 rcases List.mem_append.1 hx with hx | hx
 ·obtain ⟨j, hj, rfl⟩ := List.getElem_of_mem hx
  rw [List.length_take] at hj
  rw [List.getElem_take]
  exact ⟨List.getElem_mem _, by have := hp j k (by omega) hk (by omega); omega⟩
 ·obtain ⟨j, hj, rfl⟩ := List.getElem_of_mem hx
  rw [List.length_drop] at hj
  rw [List.getElem_drop]
  exact ⟨List.getElem_mem _, by have := hp k (k + 1 + j) hk (by omega) (by omega); omega⟩
theorem cf_rest (hS : SrchOk V n cs) (hb : netB ((V : Int), ((n : Int), cs)) = true) {k : Nat} (hk : k < (coreS V n cs cs.length).length) :
    cfV ((V : Int), ((n : Int), cs)) ((coreS V n cs cs.length).take k ++ (coreS V n cs cs.length).drop (k + 1)) = (false, true) := by
  obtain ⟨r1, r2⟩ := rest_sub (core_ris (V := V) (n := n) (cs := cs) cs.length) hk
  have hidx := core_idx (V := V) (n := n) (cs := cs) cs.length
  have h1 : risB ((coreS V n cs cs.length).take k ++ (coreS V n cs cs.length).drop (k + 1)) = true := decide_eq_true ((core_ris cs.length).sublist r1)
  have h2 : belowB (cs.length : Int) ((coreS V n cs cs.length).take k ++ (coreS V n cs cs.length).drop (k + 1)) = true := by
    unfold belowB
    rw [List.all_eq_true]
    exact fun x hx => decide_eq_true (hidx.2 x (r2 x hx).1)
  have hx := hidx.2 _ (List.getElem_mem hk)
  have hm := List.getElem_mem hk
  have hne := fun x hx => (r2 x hx)
  obtain ⟨i, hi⟩ : ∃ i : Nat, (coreS V n cs cs.length)[k] = (i : Int) := ⟨_, (Int.toNat_of_nonneg hx.1).symm⟩
  rw [hi] at hm hne
  have h3 := core_less hS hm
  unfold cfV
  simp only [hb, h1, h2, Bool.and_self, if_true, Int.toNat_natCast]
  cases h : isCon V n (selC cs ((coreS V n cs cs.length).take k ++ (coreS V n cs cs.length).drop (k + 1))) with
  | false => rfl
  | true =>
    have := isCon_mono (sel_ok hS (ris_idx h1 h2)) (sel_ok hS (less_idx (core_idx cs.length) i)) (selC_mem fun x hx => less_mem.2 (hne x hx)) h
    rw [this] at h3; exact absurd h3 (by simp)
theorem cf_core (hb : netB ((V : Int), ((n : Int), cs)) = true) (hc : isCon V n cs = true) : cfV ((V : Int), ((n : Int), cs)) (coreS V n cs cs.length) = (true, true) := by
 unfold cfV
 simp only [hb, core_risB, core_below, Bool.and_self, if_true, Int.toNat_natCast, core_con hc]
theorem laws_L13 {t0 : List Int} (hS : SrchOk V n cs) (hb : netB ((V : Int), ((n : Int), cs)) = true) (h : netS ((V : Int), ((n : Int), cs))) :
    laws_FnConflicts_L13 fuel (t0, ((V : Int), ((n : Int), cs)), coreS V n cs cs.length, 0) = some (.inl t0) := by
  have hidx := core_idx (V := V) (n := n) (cs := cs) cs.length
  have hc := hS.hc
  have hl := hidx.1
  have hrest := fun k hk => cf_rest hS hb (k := k) hk
  generalize coreS V n cs cs.length = core at *
  have := forS core.length (fun f (_ : Unit) i => laws_FnConflicts_L13 f (t0, ((V : Int), ((n : Int), cs)), core, i)) (fun _ => ()) (r := some (.inl t0)) (fun f k hk => ?_) (fun f => ?_) (n := fuel) (by unfold fuel; omega)
  · exact this
  · have e := impl_IsConflict_ok h (l := core.take k ++ core.drop (k + 1)) (by simp; omega)
    rw [hrest k hk] at e
    have w := w64_succ (show k < 4611686018427387904 by omega)
    simp only [laws_FnConflicts_L13, w, Int.toNat_natCast, List.take_length, Int.toNat_zero, List.drop_zero, List.nil_append, e, Option.bind_some, Bool.not_true, Bool.false_eq_true, if_false]
    rw [if_pos (by rw [decide_eq_true_eq]; omega), if_pos (by omega), if_pos (by simp; unfold lim; omega), if_pos (by omega), if_pos (by simp; unfold lim; omega)]
  · simp only [laws_FnConflicts_L13]
    rw [if_neg (by simp)]
def asB (a : Net) (v : List Int) : Bool := decide ((v.length : Int) = a.1) && belowB a.2.1 v
theorem impl_isAssignment_ok {v : List Int} (hl : v.length ≤ 1048576) : impl_isAssignment a v = some (asB a v) := by
 unfold impl_isAssignment asB
 by_cases h : (v.length : Int) = a.1
 ·rw [if_pos (by simpa using h), impl_inSize_ok _ (by omega), decide_eq_true h]; rfl
 ·rw [if_neg (by simpa using h), decide_eq_false h]; rfl
theorem spec_l19Assigned_ok {v : List Int} (hl : v.length ≤ 1048576) (hn : 0 ≤ a.2.1 ∧ a.2.1 ≤ 100) : spec_l19Assigned a v = some (asB a v) := by
 unfold spec_l19Assigned asB
 by_cases h : (v.length : Int) = a.1
 ·rw [if_pos (by simpa using h), spec_l2Elements_ok (by omega) (by omega) (by omega), decide_eq_true h]; rfl
 ·rw [if_neg (by simpa using h), decide_eq_false h]; rfl
def fuV (a : Net) (v : List Int) : Int × Bool := if netB a && asB a v then (if fltI a v < 0 then (0, false) else (fltI a v, true)) else (0, false)
def isV (a : Net) (v : List Int) : Bool × Bool := if netB a && asB a v then (decide (fltI a v < 0), true) else (false, false)
theorem sat_ok (h : netS a) {v : List Int} (hl : v.length ≤ 1048576) :
    impl_FirstUnsatisfied a v = some (fuV a v) ∧ spec_FirstUnsatisfied a v = some (fuV a v) ∧ impl_IsSolution a v = some (isV a v) ∧ spec_IsSolution a v = some (isV a v) := by
  unfold impl_FirstUnsatisfied spec_FirstUnsatisfied impl_IsSolution spec_IsSolution fuV isV
  rw [impl_IsNetwork_ok (a := (a.1, (a.2.1, a.2.2))) h, spec_l19Good_ok (a := (a.1, (a.2.1, a.2.2))) h]
  rw [show netB (a.1, (a.2.1, a.2.2)) = netB a from rfl]
  cases hb : netB a with
  | false => simp
  | true =>
    have hN := net_of hb
    have hn := hN.hn
    have e1 : impl_isAssignment (a.1, (a.2.1, a.2.2)) v = _ := impl_isAssignment_ok (a := a) hl
    have e2 : spec_l19Assigned (a.1, (a.2.1, a.2.2)) v = _ := spec_l19Assigned_ok (a := a) hl (by omega)
    simp only [Option.bind_some, Bool.not_true, Bool.false_eq_true, if_false, e1, e2, Bool.true_and]
    cases hA : asB a v with
    | false => simp
    | true =>
      have hv : (v.length : Int) = a.1 := by
        unfold asB at hA
        rw [Bool.and_eq_true] at hA
        exact of_decide_eq_true hA.1
      simp only [Option.bind_some, Bool.not_true, Bool.false_eq_true, if_false, if_true, impl_unsatisfied_ok hN hv, spec_l19Fault_ok hN hv, decide_eq_true_eq]
      by_cases hf : fltI a v < 0 <;> simp [hf]
theorem fltI_at {v : List Int} (h : ¬ fltI a v < 0) : ∃ (k : Nat) (hk : k < a.2.2.length), fltI a v = (k : Int) ∧ conH v a.2.2[k] = false := by
 unfold fltI at h ⊢
 cases hf : (List.range' 0 a.2.2.length).find? (fun k => !conH v (a.2.2.getD k con0)) with
 | none => rw [hf] at h; simp at h
 | some k =>
  have h1 := List.find?_some hf
  have h2 := List.mem_of_find?_eq_some hf
  rw [List.mem_range'_1] at h2
  have hk : k < a.2.2.length := by omega
  rw [getD_of hk] at h1
  exact ⟨k, hk, rfl, by simpa using h1⟩
theorem laws_L36 {v : List Int} (hN : NetOk a) (hv : (v.length : Int) = a.1) {k : Nat} (hk : k < a.2.2.length) :
    laws_FnConflicts_L36 fuel (a, v, (k : Int), [], 0) = some (a, (k : Int), a.2.2[k].1.map (valI v)) := by
  have hcon := hN.con _ (List.getElem_mem hk)
  have har := hcon.ar
  have hsl := hcon.sl
  have hsv := hcon.sv
  have hv9 := hN.hv
  have := forS a.2.2[k].1.length (fun f (o : List Int) i => laws_FnConflicts_L36 f (a, v, (k : Int), o, i)) (fun j => (a.2.2[k].1.take j).map (valI v)) (r := some (a, (k : Int), a.2.2[k].1.map (valI v))) (fun f j hj => ?_) (fun f => ?_) (n := fuel) (by unfold fuel; omega)
  · exact this
  · have hx := hsv j hj
    have hin : inb a.2.2[k].1[j] v := by unfold inb; omega
    have hgd : gd v a.2.2[k].1[j] 0 = valI v a.2.2[k].1[j] := rfl
    have htk : (a.2.2[k].1.take (j + 1)).map (valI v) = (a.2.2[k].1.take j).map (valI v) ++ [valI v a.2.2[k].1[j]] := by
      rw [List.take_succ_eq_append_getElem hj, List.map_append]; rfl
    simp only [laws_FnConflicts_L36, inb_nat, hk, gd_nat hk, hj, gd_nat hj, hin, hgd, htk, if_true, w64_succ (show j < 4611686018427387904 by omega)]
    rw [if_pos (by rw [decide_eq_true_eq]; omega), if_pos (by simp; unfold lim; omega)]
  · simp only [laws_FnConflicts_L36, inb_nat, hk, gd_nat hk, if_true, List.take_length]
    rw [if_neg (by simp)]
theorem HasTuple_ok {n : Int} {r : Int × List (List Int)} {t : List Int} (h : rowsS r.2) (hn : 1 ≤ n ∧ n ≤ 8) (hr : relB n r = true) (ht : t.length ≤ 1048576) : impl_HasTuple n r t = some (decide (t ∈ r.2), true) := by
 unfold impl_HasTuple impl_hasRelation
 have e1 : impl_isRelation n (r.1, r.2) = _ := impl_isRelation_ok (n := n) (r := r) h
 have e2 : sizeB n = true := decide_eq_true hn
 simp only [impl_isSize_ok, e1, e2, hr, Option.bind_some, if_true, Bool.not_true, Bool.false_eq_true, if_false]
 have := allX r.2 (fun f i => impl_HasTuple_L4 f (t, r.2, (r.2.length : Int), i)) (fun x => !decide (x = t)) (.inr (true, true)) (.inl ()) (fun f k hk => ?_) (fun f => ?_) (n := fuel) (by have := h.1; unfold fuel; omega)
 ·rw [this]
  by_cases hm : t ∈ r.2
  ·rw [if_neg (by rw [List.all_eq_true]; intro h; have := h t hm; simp at this), decide_eq_true hm]; rfl
  ·rw [if_pos (by rw [List.all_eq_true]; intro x hx; have : x ≠ t := fun e => hm (e ▸ hx); simp [this]), decide_eq_false hm]; rfl
 ·have hl := h.1
  have e := impl_sameList_ok (x := r.2[k]) (y := t) (h.2 _ (List.getElem_mem hk))
  simp only [impl_HasTuple_L4, inb_nat, hk, gd_nat hk, if_true, e, Option.bind_some, w64_succ (show k < 4611686018427387904 by omega)]
  rw [if_pos (by rw [decide_eq_true_eq]; omega)]
  by_cases h : r.2[k] = t <;> simp [h]
 ·simp only [impl_HasTuple_L4]
  rw [if_neg (by simp)]
end
end T
open Go Go.Va
namespace T
def cfTail (t0 : List Int) : Option Bool :=
 (spec_DrawIsConflict t0).bind fun r22 =>
  (impl_IsConflict (r22.1.1, (r22.1.2.1, r22.1.2.2)) r22.2).bind fun r23 =>
   (spec_IsConflict (r22.1.1, (r22.1.2.1, r22.1.2.2)) r23.1).bind fun r24 =>
    if r23.2.1 != r24.1 then
     some false
    else
     if r23.2.2 != r24.2 then
      some false
     else
      (spec_DrawFirstUnsatisfied t0).bind fun r25 =>
       (impl_FirstUnsatisfied (r25.1.1, (r25.1.2.1, r25.1.2.2)) r25.2).bind fun r26 =>
        (spec_FirstUnsatisfied (r25.1.1, (r25.1.2.1, r25.1.2.2)) r25.2).bind fun r27 =>
         if r26.1 != r27.1 then
          some false
         else
          if r26.2 != r27.2 then
           some false
          else
           (impl_IsSolution (r25.1.1, (r25.1.2.1, r25.1.2.2)) r25.2).bind fun r28 =>
            (spec_IsSolution (r25.1.1, (r25.1.2.1, r25.1.2.2)) r25.2).bind fun r29 =>
             if r28.1 != r29.1 then
              some false
             else
              if r28.2 != r29.2 then
               some false
              else
               if r28.2 then
                if r28.1 == r26.2 then
                 some false
                else
                 if r26.2 then
                  (laws_FnConflicts_L36 fuel ((r25.1.1, (r25.1.2.1, r25.1.2.2)), r25.2, r26.1, [], 0)).bind fun s30 =>
                   if inb s30.2.1 s30.1.2.2 then
                    (impl_HasTuple s30.1.2.1 ((gd s30.1.2.2 s30.2.1 ([], (0, []))).2) s30.2.2).bind fun r31 =>
                     if !r31.2 then
                      some false
                     else
                      if r31.1 then
                       some false
                      else
                       some true
                   else none
                 else
                  some true
               else
                if r26.2 then
                 (laws_FnConflicts_L36 fuel ((r25.1.1, (r25.1.2.1, r25.1.2.2)), r25.2, r26.1, [], 0)).bind fun s32 =>
                  if inb s32.2.1 s32.1.2.2 then
                   (impl_HasTuple s32.1.2.1 ((gd s32.1.2.2 s32.2.1 ([], (0, []))).2) s32.2.2).bind fun r33 =>
                    if !r33.2 then
                     some false
                    else
                     if r33.1 then
                      some false
                     else
                      some true
                  else none
                else
                 some true
theorem cfTail_ok {code : List Int} (h1 : code.length ≤ 65536) (h2 : ∀ x ∈ code, 0 ≤ x ∧ x < 256) : cfTail code = some true := by
 obtain ⟨a, l, e1, hD, hl⟩ := DrawIsConflict_ok h1 h2
 obtain ⟨w, v, e2, hW, hv⟩ := DrawIsSolution_ok h1 h2
 have e2 : spec_DrawFirstUnsatisfied code = some (w, v) := by unfold spec_DrawFirstUnsatisfied; rw [e2]; rfl
 have hS := netD_S hD
 have hT := netD_S hW
 have f1 : impl_IsConflict (a.1, (a.2.1, a.2.2)) l = _ := impl_IsConflict_ok hS (l := l) (by omega)
 have f2 : spec_IsConflict (a.1, (a.2.1, a.2.2)) l = _ := spec_IsConflict_ok hS (l := l) (by omega)
 obtain ⟨g1, g2, g3, g4⟩ := sat_ok hT (v := v) (by omega)
 have g1 : impl_FirstUnsatisfied (w.1, (w.2.1, w.2.2)) v = _ := g1
 have g2 : spec_FirstUnsatisfied (w.1, (w.2.1, w.2.2)) v = _ := g2
 have g3 : impl_IsSolution (w.1, (w.2.1, w.2.2)) v = _ := g3
 have g4 : spec_IsSolution (w.1, (w.2.1, w.2.2)) v = _ := g4
 unfold cfTail
 simp only [e1, e2, f1, f2, g1, g2, g3, g4, Option.bind_some, bne_self_eq_false, Bool.false_eq_true, if_false]
 unfold fuV isV
 cases hA : netB w && asB w v with
 | false => simp
 | true =>
  rw [Bool.and_eq_true] at hA
  have hN := net_of hA.1
  have hvl : (v.length : Int) = w.1 := by
   have := hA.2
   unfold asB at this
   rw [Bool.and_eq_true] at this
   exact of_decide_eq_true this.1
  simp only [if_true]
  by_cases hf : fltI w v < 0
  ·simp [hf]
  ·obtain ⟨k, hk, ek, hc⟩ := fltI_at hf
   have e3 : laws_FnConflicts_L36 fuel ((w.1, (w.2.1, w.2.2)), v, (k : Int), [], 0) = _ := laws_L36 (a := w) hN hvl hk
   have hcon := hN.con _ (List.getElem_mem hk)
   have hcb : relB w.2.1 w.2.2[k].2 = true := by
    have h := hA.1
    unfold netB at h
    simp only [Bool.and_eq_true, List.all_eq_true] at h
    have := h.2 _ (List.getElem_mem hk)
    unfold conB at this
    simp only [Bool.and_eq_true] at this
    exact this.1.1
   have hn := hN.hn
   have e4 := HasTuple_ok (n := w.2.1) (r := w.2.2[k].2) (t := w.2.2[k].1.map (valI v)) (hT.2 _ (List.getElem_mem hk)).2 (by omega) hcb (by have := (hT.2 _ (List.getElem_mem hk)).1; simpa using this)
   have e5 : decide (w.2.2[k].1.map (valI v) ∈ w.2.2[k].2.2) = false := hc
   rw [e5] at e4
   simp only [ek, if_neg (show ¬ (k : Int) < 0 by omega), decide_eq_false (show ¬ (k : Int) < 0 by omega), if_true, e3, Option.bind_some, inb_nat, hk, gd_nat hk, e4]
   simp
theorem FnConflicts_law {code : List Int} (h : wfT (.slice (.num .u8)) code) : laws_FnConflicts code = some true := by
 unfold laws_FnConflicts laws_rBig
 simp only [Option.bind_some]
 by_cases hb : (code.length : Int) > 65536
 ·rw [if_pos (decide_eq_true hb)]
 ·rw [if_neg (by simpa using hb)]
  have h1 : code.length ≤ 65536 := by omega
  have h2 : ∀ x ∈ code, 0 ≤ x ∧ x < 256 := fun x hx => by
   have : IntKind.u8.min ≤ x ∧ x ≤ IntKind.u8.max := h.2 x hx
   have e1 : IntKind.u8.min = 0 := by decide
   have e2 : IntKind.u8.max = 255 := by decide
   omega
  have hT := cfTail_ok h1 h2
  unfold cfTail at hT
  obtain ⟨c1, a, e1, _, hD⟩ := network_ok (k := 0) (c := (code, (0, 0))) ⟨h1, h2, by simp, by simp⟩ (by omega)
  have e2 : spec_DrawConflictCore code = some a := by
   unfold spec_DrawConflictCore spec_DrawIsNetwork
   rw [e1]; rfl
  have hS := netD_S hD
  obtain ⟨R, r1, r2, r3, r4⟩ := ConflictCore_ok hS
  have r1 : impl_ConflictCore (a.1, (a.2.1, a.2.2)) = _ := r1
  have r2 : spec_ConflictCore (a.1, (a.2.1, a.2.2)) = _ := r2
  have r5 := rInts_ok (a := R.1) (b := R.1) (by omega)
  simp only [e2, r1, r2, r5, Option.bind_some, bne_self_eq_false, decide_true, Bool.not_true, Bool.false_eq_true, if_false]
  unfold coreR at r4
  cases hc : netB a && isCon a.1.toNat a.2.1.toNat a.2.2 with
  | false =>
   rw [hc] at r4
   subst r4
   simp only [Bool.false_eq_true, if_false]
   exact hT
  | true =>
   rw [hc] at r4
   rw [Bool.and_eq_true] at hc
   obtain ⟨V, n, cs, rfl, hO⟩ := srch_of hc.1
   simp only [Int.toNat_natCast, if_true] at r4 hc
   subst r4
   have e6 := impl_IsConflict_ok hS (l := coreS V n cs cs.length) (by dsimp only at r3; omega)
   rw [cf_core hc.1 hc.2] at e6
   have e7 := laws_L13 (t0 := code) hO hc.1 hS
   simp only [if_true, e6, Option.bind_some, Bool.not_true, Bool.false_eq_true, if_false, e7]
   exact hT
end T
