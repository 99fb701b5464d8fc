/- Plain lemmas on the typed functions of the program, and the plain law of FnLinear; no conditions. -/
import Derived.Test.YtcdjlpcapanibacV1
import Derived.Test.YtcdjlpcapanibacV5
import Derived.KernelRfl
import Derived.Test.YtcdjlpcapanibacOFnLinear
set_option linter.all false
open Go Go.Va
namespace T
section
variable {a : Lin} {p : Int} {W N V : Nat}
def kerLs (p : Int) (V : Nat) (s : ES) : List (List Int) := (freeL V s.2.1).map fun f => kerL p V s f.toNat
theorem ker_ok (hp : pr4 p) {s : ES} (hs : ESok p W N V s) (hV : V < W) (hN : N ≤ 100000) (hW : W ≤ 1000) : impl_eliminated_kernel (boxE p V s) = some (boxZ p V s, kerLs p V s) := by
 have hFl : (freeL V s.2.1).length ≤ V := freeL_le
 have hsol := fun i f hi hf => solU_ok (i := i) (f := f) hp hs hV hN hW hi hf
 have h2 := ker_L2 hs hV hN
 have h2 : impl_eliminated_kernel_L2 fuel ((), ((boxE p V s).1, ((boxE p V s).2.1, ((boxE p V s).2.2.1, ((boxE p V s).2.2.2.1, (boxE p V s).2.2.2.2)))), ((boxE p V s).2.2.1.length : Int), 0) = _ := h2
 have hfr : impl_eliminated_freeVars ((boxZ p V s).1, ((boxZ p V s).2.1, ((boxZ p V s).2.2.1, ((boxZ p V s).2.2.2.1, (boxZ p V s).2.2.2.2)))) = some (boxZ p V s, freeL V s.2.1) := freeB_ok (q := ((V : Int), (zeroR V (s.1 ++ s.2.2), (s.1.length : Int)))) (by omega)
 have hFm : ∀ k (hk : k < (freeL V s.2.1).length), ∃ u : Nat, u < V ∧ (freeL V s.2.1)[k] = (u : Int) := fun k hk => freeL_mem (b := s.2.1) (List.getElem_mem hk)
 unfold impl_eliminated_kernel kerLs
 rw [h2]
 simp only [Option.bind_some, hfr]
 generalize freeL V s.2.1 = F at *
 have l9 := forS F.length (fun f o i => impl_eliminated_kernel_L9 f (boxZ p V s, o, F, (F.length : Int), i)) (fun k => (F.take k).map fun f => kerL p V s f.toNat) (r := some (boxZ p V s, F.map fun f => kerL p V s f.toNat)) (fun f k hk => ?_) (fun f => ?_) (n := fuel) (by unfold fuel; omega)
 ·have l9 : impl_eliminated_kernel_L9 fuel (((boxZ p V s).1, ((boxZ p V s).2.1, ((boxZ p V s).2.2.1, ((boxZ p V s).2.2.2.1, (boxZ p V s).2.2.2.2)))), [], F, (F.length : Int), 0) = _ := l9
  rw [l9]; rfl
 ·obtain ⟨u, hu, e⟩ := hFm k hk
  have h3 := hsol k u hk e
  have h3 : impl_eliminated_solution ((boxZ p V s).1, ((boxZ p V s).2.1, ((boxZ p V s).2.2.1, ((boxZ p V s).2.2.2.1, (boxZ p V s).2.2.2.2)))) ((List.replicate F.length (0 : Int)).set k 1) = _ := h3
  have hkr : k < (List.replicate F.length (0 : Int)).length := by rw [List.length_replicate]; exact hk
  simp only [impl_eliminated_kernel_L9, Int.toNat_natCast, inb_nat, hkr, stt_nat, h3, Option.bind_some, if_true, w64_succ (show k < 4611686018427387904 by omega), List.take_succ_eq_append_getElem hk, List.map_append, List.map_cons, List.map_nil, e]
  rw [if_pos (by simp; omega), if_pos (by unfold lim; omega), if_pos (by simp; unfold lim; omega)]
 ·simp only [impl_eliminated_kernel_L9, List.take_length]
  rw [if_neg (by simp)]
theorem spec_ker_L8 (hp : pr4 p) {s : ES} (hs : ESok p W N V s) (hV : V < W) (hN : N ≤ 100000) (hW : W ≤ 1000) {F : List Int} {i f : Nat} (hi : i < F.length) (hf : F[i] = (f : Int)) (hfV : f < V) (hfb : (f : Int) ∉ s.2.1) (out : List (List Int)) :
    spec_l21Kernel_L8 fuel (p, (V : Int), (s.1, (s.2.1, s.2.2)), out, F, (i : Int), (List.replicate V (0 : Int)).set f 1, 0) = some (p, (V : Int), (s.1, (s.2.1, s.2.2)), out, F, (i : Int), kerL p V s f) := by
  have hp0 : p ≠ 0 := by unfold pr4 at hp; omega
  have hpb : 2 ≤ p ∧ p ≤ 7 := by unfold pr4 at hp; omega
  have hbl := hs.bl
  have hn := hs.n
  have l8 := forS s.2.1.length (fun g (o : List Int) k => spec_l21Kernel_L8 g (p, (V : Int), (s.1, (s.2.1, s.2.2)), out, F, (i : Int), o, k)) (fun k => (List.range V).map fun u => if 0 ≤ posL s.2.1 u ∧ posL s.2.1 u < (k : Int) then Int.tmod (p - (s.1.getD (posL s.2.1 u).toNat []).getD f 0) p else if u = f then 1 else 0) (r := some (p, (V : Int), (s.1, (s.2.1, s.2.2)), out, F, (i : Int), kerL p V s f)) (fun g k hk => ?_) (fun g => ?_) (n := fuel) (by unfold fuel; omega)
  · have e0 : ((List.range V).map fun u => if 0 ≤ posL s.2.1 u ∧ posL s.2.1 u < ((0 : Nat) : Int) then Int.tmod (p - (s.1.getD (posL s.2.1 u).toNat []).getD f 0) p else if u = f then 1 else 0) = (List.replicate V (0 : Int)).set f 1 := by
      apply List.ext_getElem
      · simp
      · intro w h1 h2
        rw [List.getElem_set]
        simp only [List.getElem_map, List.getElem_range, List.getElem_replicate]
        rw [if_neg (by omega)]
        by_cases c : f = w
        · rw [if_pos c, if_pos c.symm]
        · rw [if_neg c, if_neg (fun h => c h.symm)]
    rw [e0] at l8
    exact l8
  · have hbv := hs.bv _ (List.getElem_mem hk)
    obtain ⟨u, hu⟩ : ∃ u : Nat, s.2.1[k] = (u : Int) := ⟨s.2.1[k].toNat, by omega⟩
    have hpu := posL_uniq hs.bn hk hu
    have hk1 : k < s.1.length := by omega
    have hrow : okRow p W (s.1.getD k []) := by rw [getD_of hk1]; exact hs.t _ (List.getElem_mem hk1)
    have hfl : f < (s.1.getD k []).length := by rw [hrow.1]; omega
    have hx := ok_get hrow (show f < W by omega)
    have huV : u < V := by omega
    simp only [spec_l21Kernel_L8, inb_nat, hk, hk1, hi, gd_nat hk, gd_nat hi, hu, hf, gd_D, hfl, if_true, stt_nat, w64_small (x := p - (s.1.getD k []).getD f 0) (by omega) (by omega), w64_succ (show k < 4611686018427387904 by omega)]
    rw [if_pos (by simp; omega), if_pos hp0, if_pos (by simp; omega)]
    congr 1
    refine congrArg (fun o => (p, (V : Int), (s.1, (s.2.1, s.2.2)), out, F, (i : Int), o, ((k + 1 : Nat) : Int))) ?_
    apply List.ext_getElem
    · simp
    · intro w h1 h2
      rw [List.getElem_set]
      simp only [List.getElem_map, List.getElem_range]
      by_cases e : u = w
      · subst e
        rw [if_pos rfl, hpu, if_pos (by omega), Int.toNat_natCast]
      · rw [if_neg e]
        have hne : posL s.2.1 w ≠ (k : Int) := fun h => by
          have hm : (w : Int) ∈ s.2.1 := by
            by_cases hm : (w : Int) ∈ s.2.1
            · exact hm
            · rw [posL_none hm] at h; omega
          obtain ⟨j, hj, g1, g2⟩ := posL_at hm
          have : j = k := by omega
          subst this
          rw [hu] at g2; omega
        by_cases c : 0 ≤ posL s.2.1 w ∧ posL s.2.1 w < (k : Int)
        · rw [if_pos c, if_pos (show 0 ≤ posL s.2.1 w ∧ posL s.2.1 w < ((k + 1 : Nat) : Int) by omega)]
        · rw [if_neg c, if_neg (show ¬ (0 ≤ posL s.2.1 w ∧ posL s.2.1 w < ((k + 1 : Nat) : Int)) by omega)]
  · simp only [spec_l21Kernel_L8]
    rw [if_neg (by simp)]
    unfold kerL
    congr 1
    refine congrArg (fun o => (p, (V : Int), (s.1, (s.2.1, s.2.2)), out, F, (i : Int), o)) ?_
    refine List.map_congr_left fun u _ => ?_
    unfold kerU
    by_cases hm : (u : Int) ∈ s.2.1
    · obtain ⟨j, hj, g1, _⟩ := posL_at hm
      rw [g1, if_pos (by omega), if_neg (by omega)]
    · rw [posL_none hm, if_neg (show ¬ (0 ≤ (-1 : Int) ∧ (-1 : Int) < (s.2.1.length : Int)) by omega), if_pos (show (-1 : Int) < 0 by omega)]
theorem spec_ker_ok (hp : pr4 p) {s : ES} (hs : ESok p W N V s) (hV : V < W) (hN : N ≤ 100000) (hW : W ≤ 1000) : spec_l21Kernel s p (V : Int) = some (kerLs p V s) := by
 have hFl : (freeL V s.2.1).length ≤ V := freeL_le
 have hFm : ∀ k (hk : k < (freeL V s.2.1).length), (∃ u : Nat, u < V ∧ (freeL V s.2.1)[k] = (u : Int)) ∧ (freeL V s.2.1)[k] ∉ s.2.1 := fun k hk => ⟨freeL_mem (b := s.2.1) (List.getElem_mem hk), freeL_not (List.getElem_mem hk)⟩
 have hfr := free_ok hs hN (by omega)
 have hfr : spec_l21Free (s.1, (s.2.1, s.2.2)) (V : Int) = _ := hfr
 unfold spec_l21Kernel kerLs
 rw [hfr]
 simp only [Option.bind_some]
 generalize freeL V s.2.1 = F at *
 have l3 := forS F.length (fun f o i => spec_l21Kernel_L3 f (p, (V : Int), (s.1, (s.2.1, s.2.2)), o, F, i)) (fun k => (F.take k).map fun f => kerL p V s f.toNat) (r := some (F.map fun f => kerL p V s f.toNat)) (fun f k hk => ?_) (fun f => ?_) (n := fuel) (by unfold fuel; omega)
 ·have l3 : spec_l21Kernel_L3 fuel (p, (V : Int), (s.1, (s.2.1, s.2.2)), [], F, 0) = _ := l3
  rw [l3]; rfl
 ·obtain ⟨⟨u, hu, e⟩, hnb⟩ := hFm k hk
  rw [e] at hnb
  have hur : u < (List.replicate V (0 : Int)).length := by simp; omega
  have h8 := spec_ker_L8 hp hs hV hN hW hk e hu hnb ((F.take k).map fun f => kerL p V s f.toNat)
  simp only [spec_l21Kernel_L3, Int.toNat_natCast, inb_nat, hk, gd_nat hk, e, hur, stt_nat, h8, Option.bind_some, if_true, w64_succ (show k < 4611686018427387904 by omega), List.take_succ_eq_append_getElem hk, List.map_append, List.map_cons, List.map_nil]
  rw [if_pos (by simp; omega), if_pos (by unfold lim; omega), if_pos (by simp; unfold lim; omega)]
 ·simp only [spec_l21Kernel_L3, List.take_length]
  rw [if_neg (by simp)]
end
end T
open Go Go.Va
namespace T
def cg (p a b : Int) : Prop := ∃ k, a = b + p * k
section
variable {p a b c d : Int}
theorem cg_of (h : a = b) : cg p a b := ⟨0, by rw [h]; simp⟩
theorem cg_symm (h : cg p a b) : cg p b a := by obtain ⟨k, h⟩ := h; exact ⟨-k, by grind⟩
theorem cg_trans (h : cg p a b) (g : cg p b c) : cg p a c := by obtain ⟨k, h⟩ := h; obtain ⟨m, g⟩ := g; exact ⟨k + m, by grind⟩
theorem cg_add (h : cg p a b) (g : cg p c d) : cg p (a + c) (b + d) := by obtain ⟨k, h⟩ := h; obtain ⟨m, g⟩ := g; exact ⟨k + m, by grind⟩
theorem cg_mul (x : Int) (h : cg p a b) : cg p (x * a) (x * b) := by obtain ⟨k, h⟩ := h; exact ⟨x * k, by grind⟩
theorem cg_mulr (x : Int) (h : cg p a b) : cg p (a * x) (b * x) := by obtain ⟨k, h⟩ := h; exact ⟨x * k, by grind⟩
theorem cg_mod {x : Int} (h0 : 0 ≤ x) : cg p (Int.tmod x p) x := by
 rw [Int.tmod_eq_emod_of_nonneg h0]
 have := Int.emod_add_mul_ediv x p
 exact ⟨-(x / p), by grind⟩
theorem cg_eq (h : cg p a b) (ha : 0 ≤ a ∧ a < p) (hb : 0 ≤ b ∧ b < p) : a = b := by
 obtain ⟨k, h⟩ := h
 have h1 := Int.emod_eq_of_lt ha.1 ha.2
 have h2 := Int.emod_eq_of_lt hb.1 hb.2
 rw [h, Int.add_mul_emod_self_left, h2] at h1
 rw [h1] at h2 ⊢
 omega
end
inductive Sp (p : Int) (V : Nat) (A : List (List Int)) : (Nat → Int) → Prop
 | zero : Sp p V A fun _ => 0
 | add {f : Nat → Int} (r : List Int) (c : Int) : r ∈ A → Sp p V A f → Sp p V A fun i => f i + c * r.getD i 0
 | cgr {f g : Nat → Int} : Sp p V A f → (∀ i, i < V → cg p (g i) (f i)) → Sp p V A g
section
variable {p : Int} {V W N : Nat} {A B : List (List Int)} {f g : Nat → Int}
theorem Sp.lin (hf : Sp p V A f) (hg : Sp p V A g) (c : Int) : Sp p V A fun i => f i + c * g i := by
 induction hg with
 | zero => exact hf.cgr fun i _ => cg_of (by simp)
 | add r d hr _ ih => exact (ih.add r (c * d) hr).cgr fun i _ => cg_of (by grind)
 | cgr _ h ih => exact ih.cgr fun i hi => cg_add (cg_of rfl) (cg_mul c (h i hi))
theorem Sp.mem {r : List Int} (h : r ∈ A) : Sp p V A fun i => r.getD i 0 := (Sp.add r 1 h .zero).cgr fun i _ => cg_of (by simp)
theorem Sp.sub (h : ∀ r ∈ A, Sp p V B fun i => r.getD i 0) (hf : Sp p V A f) : Sp p V B f := by
 induction hf with
 | zero => exact .zero
 | add r c hr _ ih => exact ih.lin (h r hr) c
 | cgr _ h ih => exact ih.cgr h
def eqSp (p : Int) (V : Nat) (A B : List (List Int)) : Prop := ∀ f, Sp p V A f ↔ Sp p V B f
theorem eqSp_of (h : ∀ r ∈ A, Sp p V B fun i => r.getD i 0) (g : ∀ r ∈ B, Sp p V A fun i => r.getD i 0) : eqSp p V A B := fun _ => ⟨Sp.sub h, Sp.sub g⟩
theorem less_get {row r : List Int} {v i : Nat} (h : i < r.length) : (lessR p row v r).getD i 0 = Int.tmod (r.getD i 0 + (p - r.getD v 0) * row.getD i 0) p := by
 rw [getD_of (by unfold lessR; simp; exact h)]; simp [lessR]
theorem scale_get {r : List Int} {b : Int} {i : Nat} (h : i < r.length) : (scaleR p b r).getD i 0 = Int.tmod (r.getD i 0 * b) p := by
 rw [getD_of (by unfold scaleR; simp; exact h)]; simp [scaleR]
theorem less_cg (hp : pr4 p) {row r : List Int} {v i : Nat} (h : okRow p W r) (hr : okRow p W row) (hv : v < W) (hi : i < W) : cg p ((lessR p row v r).getD i 0) (r.getD i 0 + (p - r.getD v 0) * row.getD i 0) := by
 rw [less_get (by rw [h.1]; exact hi)]
 have h1 := ok_get h hi
 have h2 := ok_get hr hi
 have h3 := ok_get h hv
 have := Int.mul_nonneg (show 0 ≤ p - r.getD v 0 by omega) h2.1
 exact cg_mod (by omega)
theorem scale_cg {r : List Int} {b : Int} {i : Nat} (h : okRow p W r) (hb : 0 ≤ b) (hi : i < W) : cg p ((scaleR p b r).getD i 0) (r.getD i 0 * b) := by
 rw [scale_get (by rw [h.1]; exact hi)]
 exact cg_mod (Int.mul_nonneg (ok_get h hi).1 hb)
theorem inv_one : ∀ p : Fin 8, ∀ x : Fin 8, (p.val = 2 ∨ p.val = 3 ∨ p.val = 5 ∨ p.val = 7) → 0 < x.val → x.val < p.val → Int.tmod ((x.val : Int) * invP (p.val : Int) (x.val : Int)) (p.val : Int) = 1 := by decide +kernel
theorem inv_mul {x : Int} (hp : pr4 p) (h0 : 0 < x) (h1 : x < p) : Int.tmod (x * invP p x) p = 1 := by
 unfold pr4 at hp
 have := inv_one ⟨p.toNat, by omega⟩ ⟨x.toNat, by omega⟩ (by simp; omega) (by simp; omega) (by simp; omega)
 simp only [Int.toNat_of_nonneg (show 0 ≤ p by omega), Int.toNat_of_nonneg (show 0 ≤ x by omega)] at this
 exact this
def pivR (p : Int) (s : ES) (v : Nat) : List Int := scaleR p (invP p ((s.2.2.getD (s.2.2.findIdx (nzB v)) []).getD v 0)) (s.2.2.getD (s.2.2.findIdx (nzB v)) [])
theorem elimS_pos {s : ES} {v : Nat} (hc : s.2.2.findIdx (nzB v) < s.2.2.length) : elimS p s v = (s.1.map (lessR p (pivR p s v) v) ++ [pivR p s v], s.2.1 ++ [(v : Int)], (s.2.2.eraseIdx (s.2.2.findIdx (nzB v))).map (lessR p (pivR p s v) v)) := by
 unfold elimS pivR; dsimp only; rw [if_pos hc]
theorem elimS_neg {s : ES} {v : Nat} (hc : ¬ s.2.2.findIdx (nzB v) < s.2.2.length) : elimS p s v = s := by
 unfold elimS; dsimp only; rw [if_neg hc]
theorem piv_ok (hp : pr4 p) {s : ES} {v : Nat} (hs : ESok p W N v s) (hv : v < W) (hc : s.2.2.findIdx (nzB v) < s.2.2.length) :
    okRow p W (pivR p s v) ∧ (pivR p s v).getD v 0 = 1 ∧ (∀ V, Sp p V (s.1 ++ s.2.2) fun i => if i < W then (pivR p s v).getD i 0 else (pivR p s v).getD i 0) ∧ ∃ x ∈ s.2.2, ∃ b, 0 ≤ b ∧ b < p ∧ pivR p s v = scaleR p b x ∧ okRow p W x ∧ x = s.2.2.getD (s.2.2.findIdx (nzB v)) [] := by
  obtain ⟨f1, f2, f3⟩ := find_nz hc hs.l hv
  obtain ⟨_, _, i2, i3⟩ := inv_ok hp f1 f2
  have hm : s.2.2.getD (s.2.2.findIdx (nzB v)) [] ∈ s.2.2 := by rw [getD_of hc]; exact List.getElem_mem hc
  have him := inv_mul hp f1 f2
  unfold pivR
  generalize s.2.2.getD (s.2.2.findIdx (nzB v)) [] = x at *
  generalize invP p (x.getD v 0) = I at *
  refine ⟨scale_ok hp f3 ⟨by omega, i3⟩, ?_, fun V => ?_, x, hm, I, by omega, i3, rfl, f3, rfl⟩
  · rw [scale_get (by rw [f3.1]; exact hv)]; exact him
  · have h1 : Sp p V (s.1 ++ s.2.2) fun i => 0 + I * x.getD i 0 := Sp.add x I (List.mem_append_right _ hm) .zero
    refine h1.cgr fun i hi => ?_
    simp only [ite_self]
    by_cases h : i < W
    · exact cg_trans (scale_cg f3 (by omega) h) (cg_of (by grind))
    · have e1 : (scaleR p I x).getD i 0 = 0 := by rw [List.getD_eq_getElem?_getD, List.getElem?_eq_none (by unfold scaleR; simp; rw [f3.1]; omega)]; rfl
      have e2 : x.getD i 0 = 0 := by rw [List.getD_eq_getElem?_getD, List.getElem?_eq_none (by rw [f3.1]; omega)]; rfl
      rw [e1, e2]; exact cg_of (by simp)
theorem step_sp (hp : pr4 p) {s : ES} {v : Nat} (hs : ESok p W N v s) (hv : v < W) (hVW : V ≤ W) : eqSp p V (s.1 ++ s.2.2) ((elimS p s v).1 ++ (elimS p s v).2.2) := by
 by_cases hc : s.2.2.findIdx (nzB v) < s.2.2.length
 ·obtain ⟨o1, o2, o3, x, hx, b, hb0, hb1, o4, o5, o6⟩ := piv_ok hp hs hv hc
  rw [elimS_pos hc]
  have hrow := o3 V
  simp only [ite_self] at hrow
  generalize hP : pivR p s v = P at *
  have hless : ∀ r, okRow p W r → Sp p V (s.1 ++ s.2.2) (fun i => r.getD i 0) → Sp p V (s.1 ++ s.2.2) fun i => (lessR p P v r).getD i 0 := fun r hr hsp => (hsp.lin hrow (p - r.getD v 0)).cgr fun i hi => less_cg hp hr o1 hv (by omega)
  have hokm : ∀ r ∈ s.1 ++ s.2.2, okRow p W r := fun r hr => by
   rcases List.mem_append.1 hr with h | h
   ·exact hs.t r h
   ·exact hs.l r h
  refine eqSp_of (fun r hr => ?_) (fun r hr => ?_)
  ·have hP2 : Sp p V ((s.1.map (lessR p P v) ++ [P]) ++ (s.2.2.eraseIdx (s.2.2.findIdx (nzB v))).map (lessR p P v)) fun i => P.getD i 0 := Sp.mem (by simp)
   have back : ∀ r, okRow p W r → lessR p P v r ∈ (s.1.map (lessR p P v) ++ [P]) ++ (s.2.2.eraseIdx (s.2.2.findIdx (nzB v))).map (lessR p P v) → Sp p V ((s.1.map (lessR p P v) ++ [P]) ++ (s.2.2.eraseIdx (s.2.2.findIdx (nzB v))).map (lessR p P v)) fun i => r.getD i 0 := fun r hr hm => by
    refine ((Sp.mem hm).lin hP2 (r.getD v 0 - p)).cgr fun i hi => ?_
    have := less_cg hp hr o1 hv (show i < W by omega)
    exact cg_symm (cg_trans (cg_add this (cg_of rfl)) (cg_of (by grind)))
   rcases List.mem_append.1 hr with h | h
   ·exact back r (hs.t r h) (List.mem_append_left _ (List.mem_append_left _ (List.mem_map_of_mem h)))
   ·by_cases e : r = x
    ·
     subst e
     refine (Sp.add P (r.getD v 0) (by simp) .zero).cgr fun i hi => ?_
     have h1 := scale_cg (b := b) o5 hb0 (show i < W by omega)
     have h2 := scale_cg (b := b) o5 hb0 hv
     rw [← o4] at h1 h2
     rw [o2] at h2
     obtain ⟨k, h1⟩ := h1
     obtain ⟨m, h2⟩ := h2
     exact ⟨r.getD i 0 * m - r.getD v 0 * k, by grind⟩
    ·have hme : r ∈ s.2.2.eraseIdx (s.2.2.findIdx (nzB v)) := by
      obtain ⟨j, hj, rfl⟩ := List.getElem_of_mem h
      rw [List.mem_eraseIdx_iff_getElem]
      refine ⟨j, hj, ?_, rfl⟩
      intro ej
      apply e
      rw [o6, getD_of hc]
      simp only [ej]
     exact back r (hs.l r h) (List.mem_append_right _ (List.mem_map_of_mem hme))
  ·rcases List.mem_append.1 hr with h | h
   ·rcases List.mem_append.1 h with h | h
    ·obtain ⟨q, hq, rfl⟩ := List.mem_map.1 h
     exact hless q (hs.t q hq) (Sp.mem (List.mem_append_left _ hq))
    ·rw [List.mem_singleton.1 h]; exact hrow
   ·obtain ⟨q, hq, rfl⟩ := List.mem_map.1 h
    have hq2 := List.mem_of_mem_eraseIdx hq
    exact hless q (hs.l q hq2) (Sp.mem (List.mem_append_right _ hq2))
 ·rw [elimS_neg hc]; exact fun _ => Iff.rfl
theorem elim_sp (hp : pr4 p) (hr : ∀ r ∈ A, okRow p W r) (hVW : V ≤ W) : ∀ v, v ≤ W → eqSp p V A ((elimF p A v).1 ++ (elimF p A v).2.2) := by
 intro v
 induction v with
 | zero => intro _; exact fun _ => Iff.rfl
 | succ v ih =>
  intro hv
  have hok := elimF_ok hp hr v (by omega)
  have hnx : elimF p A (v + 1) = elimS p (elimF p A v) v := by unfold elimF; rw [range_fold]
  rw [hnx]
  exact fun f => (ih (by omega) f).trans (step_sp hp hok (by omega) hVW f)
end
end T
open Go Go.Va
namespace T
section
variable {p : Int} {V W N : Nat} {A B : List (List Int)} {f g : Nat → Int}
def bndL (N : Nat) (b : List Int) : List Int := ((List.range N).filter fun v : Nat => decide ((v : Int) ∈ b)).map fun v : Nat => (v : Int)
theorem bndL_succ {N : Nat} {b : List Int} : bndL (N + 1) b = bndL N b ++ (if (N : Int) ∈ b then [(N : Int)] else []) := by
 unfold bndL
 rw [List.range_succ, List.filter_append, List.map_append]
 congr 1
 by_cases h : (N : Int) ∈ b <;> simp [h]
theorem bndL_snoc {N : Nat} {b : List Int} {x : Int} (h : (N : Int) ≤ x) : bndL N (b ++ [x]) = bndL N b := by
 unfold bndL
 congr 1
 refine List.filter_congr fun u hu => ?_
 have := List.mem_range.1 hu
 have e : ((u : Int) ∈ b ++ [x]) ↔ (u : Int) ∈ b := by
  rw [List.mem_append, List.mem_singleton]
  exact ⟨fun h => h.resolve_right (by omega), Or.inl⟩
 simp only [e]
structure RR (p : Int) (v : Nat) (s : ES) : Prop where
 piv : ∀ i, i < s.1.length → ∀ j, j < s.1.length → (s.1.getD i []).getD (s.2.1.getD j 0).toNat 0 = if i = j then 1 else 0
 low : ∀ i, i < s.1.length → ∀ u : Nat, (u : Int) < s.2.1.getD i 0 → (s.1.getD i []).getD u 0 = 0
 zl : ∀ r ∈ s.2.2, ∀ u : Nat, u < v → r.getD u 0 = 0
 bnd : bndL v s.2.1 = s.2.1
theorem getD_mapD {α β : Type} {l : List α} {h : α → β} {i : Nat} {d : α} {e : β} (hi : i < l.length) : (l.map h).getD i e = h (l.getD i d) := by
 rw [getD_of (by simpa using hi), getD_of hi, List.getElem_map]
theorem getD_left {α : Type} {l m : List α} {i : Nat} {d : α} (hi : i < l.length) : (l ++ m).getD i d = l.getD i d := by
 rw [getD_of (by rw [List.length_append]; omega), getD_of hi, List.getElem_append_left hi]
theorem getD_snoc {α : Type} {l : List α} {x d : α} : (l ++ [x]).getD l.length d = x := by
 rw [getD_of (by simp)]; simp
theorem getD_mem {α : Type} {l : List α} {i : Nat} {d : α} (hi : i < l.length) : l.getD i d ∈ l := by rw [getD_of hi]; exact List.getElem_mem hi
theorem step_rr (hp : pr4 p) {s : ES} {v : Nat} (hs : ESok p W N v s) (hv : v < W) (h : RR p v s) : RR p (v + 1) (elimS p s v) := by
 have hp0 : 2 ≤ p ∧ p ≤ 7 := by unfold pr4 at hp; omega
 have hbl := hs.bl
 by_cases hc : s.2.2.findIdx (nzB v) < s.2.2.length
 ·obtain ⟨o1, o2, _, x, hx, b, hb0, hb1, o4, o5, o6⟩ := piv_ok hp hs hv hc
  rw [elimS_pos hc]
  generalize hP : pivR p s v = P at *
  have hPz : ∀ u, u < v → P.getD u 0 = 0 := fun u hu => by
   rw [o4, scale_get (by rw [o5.1]; omega), h.zl x hx u hu]; simp
  have hsame : ∀ r, okRow p W r → ∀ u, u < v → (lessR p P v r).getD u 0 = r.getD u 0 := fun r hr u hu => by
   have := ok_get hr (show u < W by omega)
   rw [less_get (by rw [hr.1]; omega), hPz u hu, Int.mul_zero, Int.add_zero, Int.tmod_eq_of_lt this.1 this.2]
  have hat : ∀ r, okRow p W r → (lessR p P v r).getD v 0 = 0 := fun r hr => by
   rw [less_get (by rw [hr.1]; omega), o2, Int.mul_one, show r.getD v 0 + (p - r.getD v 0) = p by omega, Int.tmod_self]
  have hbv : ∀ j, j < s.1.length → 0 ≤ s.2.1.getD j 0 ∧ s.2.1.getD j 0 < (v : Int) := fun j hj => hs.bv _ (getD_mem (by omega))
  have hbn : (s.2.1 ++ [(v : Int)]).getD s.1.length 0 = (v : Int) := by rw [← hbl, getD_snoc]
  have htn : (s.1.map (lessR p P v) ++ [P]).getD s.1.length [] = P := by
   have := getD_snoc (l := s.1.map (lessR p P v)) (x := P) (d := [])
   rw [List.length_map] at this; exact this
  have hti : ∀ i, i < s.1.length → (s.1.map (lessR p P v) ++ [P]).getD i [] = lessR p P v (s.1.getD i []) := fun i hi => by
   rw [getD_left (by simpa using hi), getD_mapD (d := []) hi]
  have hbi : ∀ j, j < s.1.length → (s.2.1 ++ [(v : Int)]).getD j 0 = s.2.1.getD j 0 := fun j hj => getD_left (by omega)
  have hlen : (s.1.map (lessR p P v) ++ [P]).length = s.1.length + 1 := by simp
  refine ⟨fun i hi j hj => ?_, fun i hi u hu => ?_, fun r hr u hu => ?_, ?_⟩
  ·dsimp only at hi hj ⊢
   rw [hlen] at hi hj
   by_cases ci : i = s.1.length
   ·subst ci
    rw [htn]
    by_cases cj : j = s.1.length
    ·subst cj; rw [hbn, Int.toNat_natCast, o2, if_pos rfl]
    ·have hj2 : j < s.1.length := by omega
     have := hbv j hj2
     rw [hbi j hj2, hPz _ (by omega), if_neg (by omega)]
   ·have hi2 : i < s.1.length := by omega
    have hok := hs.t _ (getD_mem (d := []) hi2)
    rw [hti i hi2]
    by_cases cj : j = s.1.length
    ·subst cj; rw [hbn, Int.toNat_natCast, hat _ hok, if_neg ci]
    ·have hj2 : j < s.1.length := by omega
     have := hbv j hj2
     rw [hbi j hj2, hsame _ hok _ (by omega), h.piv i hi2 j hj2]
  ·dsimp only at hi hu ⊢
   rw [hlen] at hi
   by_cases ci : i = s.1.length
   ·subst ci
    rw [hbn] at hu
    rw [htn, hPz u (by omega)]
   ·have hi2 : i < s.1.length := by omega
    have hok := hs.t _ (getD_mem (d := []) hi2)
    rw [hbi i hi2] at hu
    have := hbv i hi2
    rw [hti i hi2, hsame _ hok u (by omega), h.low i hi2 u hu]
  ·dsimp only at hr
   obtain ⟨q, hq, rfl⟩ := List.mem_map.1 hr
   have hq2 := List.mem_of_mem_eraseIdx hq
   by_cases e : u = v
   ·subst e; exact hat q (hs.l q hq2)
   ·rw [hsame q (hs.l q hq2) u (by omega)]; exact h.zl q hq2 u (by omega)
  ·dsimp only
   rw [bndL_succ, if_pos (by simp), bndL_snoc (by omega), h.bnd]
 ·rw [elimS_neg hc]
  have hnm : (v : Int) ∉ s.2.1 := fun hm => by have := hs.bv _ hm; omega
  refine ⟨h.piv, h.low, fun r hr u hu => ?_, ?_⟩
  ·by_cases e : u = v
   ·subst e
    have h1 := List.findIdx_eq_length.1 (show s.2.2.findIdx (nzB u) = s.2.2.length by have := List.findIdx_le_length (xs := s.2.2) (p := nzB u); omega) r hr
    unfold nzB at h1
    simpa using h1
   ·exact h.zl r hr u (by omega)
  ·rw [bndL_succ, if_neg hnm, h.bnd, List.append_nil]
theorem elim_rr (hp : pr4 p) (hr : ∀ r ∈ A, okRow p W r) : ∀ v, v ≤ W → RR p v (elimF p A v) := by
 intro v
 induction v with
 | zero => intro _; exact ⟨fun i hi => by simp [elimF] at hi, fun i hi => by simp [elimF] at hi, fun r _ u hu => by omega, by simp [elimF, bndL]⟩
 | succ v ih =>
  intro hv
  have hok := elimF_ok hp hr v (by omega)
  have hnx : elimF p A (v + 1) = elimS p (elimF p A v) v := by unfold elimF; rw [range_fold]
  rw [hnx]
  exact step_rr hp hok (by omega) (ih (by omega))
def sumN (n : Nat) (h : Nat → Int) : Int := ((List.range n).map h).sum
theorem sumN_succ {n : Nat} {h : Nat → Int} : sumN (n + 1) h = sumN n h + h n := by
 unfold sumN; rw [List.range_succ, List.map_append, List.sum_append]; simp
theorem sumN_add {n : Nat} {h k : Nat → Int} {c : Int} : sumN n (fun j => h j + c * k j) = sumN n h + c * sumN n k := by
 induction n with
 | zero => simp [sumN]
 | succ n ih => rw [sumN_succ, sumN_succ, sumN_succ, ih]; grind
theorem sumN_congr {n : Nat} {h k : Nat → Int} (e : ∀ j, j < n → h j = k j) : sumN n h = sumN n k := by
 unfold sumN; congr 1; exact List.map_congr_left fun j hj => e j (List.mem_range.1 hj)
theorem sumN_cg {n : Nat} {h k : Nat → Int} (e : ∀ j, j < n → cg p (h j) (k j)) : cg p (sumN n h) (sumN n k) := by
 induction n with
 | zero => exact cg_of rfl
 | succ n ih => rw [sumN_succ, sumN_succ]; exact cg_add (ih fun j hj => e j (by omega)) (e n (by omega))
theorem sumN_one {n m : Nat} {h : Nat → Int} (hm : m < n) (e : ∀ j, j < n → j ≠ m → h j = 0) : sumN n h = h m := by
 induction n with
 | zero => omega
 | succ n ih =>
  rw [sumN_succ]
  by_cases c : m = n
  ·subst c
   have : sumN m h = 0 := by
    have := sumN_congr (n := m) (h := h) (k := fun _ => 0) fun j hj => e j (by omega) (by omega)
    rw [this]
    clear this e ih hm
    induction m with
    | zero => rfl
    | succ m ih => rw [sumN_succ, ih]; rfl
   omega
  ·rw [ih (by omega) fun j hj hjm => e j (by omega) hjm, e n (by omega) (by omega)]; omega
theorem sumN_zero {n : Nat} {h : Nat → Int} (e : ∀ j, j < n → cg p (h j) 0) : cg p (sumN n h) 0 := by
 induction n with
 | zero => exact cg_of rfl
 | succ n ih => rw [sumN_succ]; exact cg_trans (cg_add (ih fun j hj => e j (by omega)) (e n (by omega))) (cg_of rfl)
end
end T
open Go Go.Va
namespace T
section
variable {p : Int} {V W N : Nat} {A B C D : List (List Int)} {f g : Nat → Int}
theorem eqSp.symm (h : eqSp p V A B) : eqSp p V B A := fun f => (h f).symm
theorem eqSp.trans (h : eqSp p V A B) (g : eqSp p V B C) : eqSp p V A C := fun f => (h f).trans (g f)
end
end T
open Go Go.Va
namespace T
section
variable {p : Int} {V W N k : Nat} {A B C D : List (List Int)} {f g : Nat → Int}
theorem sp_phi {c : Nat → Int} (h : ∀ r ∈ A, cg p (sumN k fun i => r.getD i 0 * c i) (r.getD k 0)) (hf : Sp p (k + 1) A f) : cg p (sumN k fun i => f i * c i) (f k) := by
 induction hf with
 | zero => exact sumN_zero fun j _ => cg_of (by simp)
 | add r d hr _ ih =>
  rename_i f0 _
  dsimp only
  have e : sumN k (fun i => (f0 i + d * r.getD i 0) * c i) = sumN k (fun i => f0 i * c i) + d * sumN k (fun i => r.getD i 0 * c i) := by
   rw [← sumN_add]; exact sumN_congr fun j _ => by grind
  rw [e]
  exact cg_add ih (cg_mul d (h r hr))
 | cgr _ hc ih =>
  refine cg_trans (sumN_cg fun j hj => cg_mulr _ (hc j (by omega))) (cg_trans ih (cg_symm (hc k (by omega))))
theorem sumN_nonneg {n : Nat} {h : Nat → Int} {M : Int} (e : ∀ j, j < n → 0 ≤ h j ∧ h j ≤ M) : 0 ≤ sumN n h ∧ sumN n h ≤ M * n := by
 induction n with
 | zero => simp [sumN]
 | succ n ih =>
  have h1 := ih fun j hj => e j (by omega)
  have h2 := e n (by omega)
  rw [sumN_succ]
  have : M * ((n + 1 : Nat) : Int) = M * n + M := by push_cast; grind
  omega
theorem kerU_in (hp : pr4 p) {s : ES} (hs : ESok p (k + 1) N k s) {f u : Nat} (hf : f < k) : 0 ≤ kerU p s f u ∧ kerU p s f u < p := by
 have hpb : 2 ≤ p ∧ p ≤ 7 := by unfold pr4 at hp; omega
 have hbl := hs.bl
 unfold kerU
 by_cases c : posL s.2.1 u < 0
 ·rw [if_pos c]; split <;> omega
 ·rw [if_neg c]
  have hm : (u : Int) ∈ s.2.1 := by
   by_cases hm : (u : Int) ∈ s.2.1
   ·exact hm
   ·rw [posL_none hm] at c; omega
  obtain ⟨i, hi, g1, _⟩ := posL_at hm
  rw [g1, Int.toNat_natCast]
  have := ok_get (hs.t _ (getD_mem (l := s.1) (i := i) (d := []) (by omega))) (show f < k + 1 by omega)
  exact mod_in hp (by omega)
theorem ker_row (hp : pr4 p) {s : ES} (hs : ESok p (k + 1) N k s) {w : List Int} (hw : w ∈ kerLs p k s) : w.length = k ∧ ∀ x ∈ w, 0 ≤ x ∧ x < p := by
 unfold kerLs at hw
 obtain ⟨f, hf, rfl⟩ := List.mem_map.1 hw
 obtain ⟨u, hu, rfl⟩ := freeL_mem hf
 rw [Int.toNat_natCast]
 refine ⟨by simp [kerL], fun x hx => ?_⟩
 unfold kerL at hx
 obtain ⟨v, _, rfl⟩ := List.mem_map.1 hx
 exact kerU_in hp hs hu
end
end T
open Go Go.Va
namespace T
def i64 (x : Int) : Prop := -9223372036854775808 ≤ x ∧ x ≤ 9223372036854775807
section
variable {c : List Int} {ar : Int}
def litB (t : List Int) (x : Int) : Bool := if x > 0 then gd t (x - 1) 0 == 1 else gd t (-x - 1) 0 == 0
end
end T
open Go Go.Va
namespace T
abbrev NS := Bool × Int × List (List (List Int)) × List (List (List ByteArray))
abbrev NIn (σ : Type) := Int × List Int × σ × NS × List Int × Unit
abbrev NOut (σ : Type) := List Int × σ × NS × List Int × Bool
def hM {σ : Type} : Nat → (Int × List Int × σ × NS × List Int × Unit × Int × Bool × List (List Int) × Int × Int) → Option (Int × List Int × σ × NS × List Int × Unit × Int × Bool)
 | 0, _ => none
 | n + 1, (t0, t1, t2, t3, t4, t5, t8, t9, t50, t51, t52) =>
  if decide (t52 < t51) then
   if inb t52 t50 then
    if t9 then
     if t3.1 = true then
      if inb t0 t3.2.2.2 then
       if inb t52 (gd t3.2.2.2 t0 []) then
        (impl_compose (gd t50 t52 []) t1).bind fun r2 =>
         (impl_keyOf r2).bind fun r3 =>
          hM n (t0, t1, t2, t3, t4, (), t8, mhas (gd (gd t3.2.2.2 t0 []) t52 []) r3, t50, t51, w64 (t52 + 1))
       else none
      else none
     else none
    else
     hM n (t0, t1, t2, t3, t4, (), t8, false, t50, t51, w64 (t52 + 1))
   else none
  else
   some (t0, t1, t2, t3, t4, (), t8, t9)
def hL {σ : Type} (rec : NIn σ → Option (NOut σ)) : Nat → (Int × List Int × σ × NS × List Int × Unit × Int) → Option ((List Int × σ × NS × List Int × Unit) ⊕ (List Int × σ × NS × List Int × Unit × Bool))
 | 0, _ => none
 | n + 1, (t0, t1, t2, t3, t4, t5, t8) =>
  if t3.1 = true then
   if decide (t8 < t3.2.1) then
    if inb t0 t4 then
     if decide ((gd t4 t0 0) ≥ 0) then
      if inb t0 t4 then
       if (gd t4 t0 0) != t8 then
        hL rec n (t0, t1, t2, t3, t4, (), w64 (t8 + 1))
       else
        if inb t0 t1 then
         if t3.1 = true then
          if inb t0 t3.2.2.1 then
           (hM fuel (t0, stt t1 t0 t8, t2, t3, t4, (), t8, true, gd t3.2.2.1 t0 [], ((gd t3.2.2.1 t0 []).length : Int), 0)).bind fun s2 =>
            if s2.2.2.2.2.2.2.2 then
             (rec (w64 (s2.1 + 1), s2.2.1, s2.2.2.1, s2.2.2.2.1, s2.2.2.2.2.1, ())).bind fun r3 =>
              if !r3.2.2.2.2 then
               some (.inr (r3.1, r3.2.1, r3.2.2.1, r3.2.2.2.1, (), false))
              else
               hL rec n (s2.1, r3.1, r3.2.1, r3.2.2.1, r3.2.2.2.1, (), w64 (s2.2.2.2.2.2.2.1 + 1))
            else
             hL rec n (s2.1, s2.2.1, s2.2.2.1, s2.2.2.2.1, s2.2.2.2.2.1, (), w64 (s2.2.2.2.2.2.2.1 + 1))
          else none
         else none
        else none
      else none
     else
      if inb t0 t1 then
       if t3.1 = true then
        if inb t0 t3.2.2.1 then
         (hM fuel (t0, stt t1 t0 t8, t2, t3, t4, (), t8, true, gd t3.2.2.1 t0 [], ((gd t3.2.2.1 t0 []).length : Int), 0)).bind fun s4 =>
          if s4.2.2.2.2.2.2.2 then
           (rec (w64 (s4.1 + 1), s4.2.1, s4.2.2.1, s4.2.2.2.1, s4.2.2.2.2.1, ())).bind fun r5 =>
            if !r5.2.2.2.2 then
             some (.inr (r5.1, r5.2.1, r5.2.2.1, r5.2.2.2.1, (), false))
            else
             hL rec n (s4.1, r5.1, r5.2.1, r5.2.2.1, r5.2.2.2.1, (), w64 (s4.2.2.2.2.2.2.1 + 1))
          else
           hL rec n (s4.1, s4.2.1, s4.2.2.1, s4.2.2.2.1, s4.2.2.2.2.1, (), w64 (s4.2.2.2.2.2.2.1 + 1))
        else none
       else none
      else none
    else none
   else
    some (.inl (t1, t2, t3, t4, ()))
  else none
def hBody {σ : Type} (cb : List Int → σ → Option (σ × Bool)) (rec : NIn σ → Option (NOut σ)) (x : NIn σ) : Option (NOut σ) :=
 if x.1 == (x.2.1.length : Int) then
  (cb x.2.1 x.2.2.1).bind fun r1 => some (x.2.1, r1.1, x.2.2.2.1, x.2.2.2.2.1, r1.2)
 else
  (hL rec fuel (x.1, x.2.1, x.2.2.1, x.2.2.2.1, x.2.2.2.2.1, (), 0)).bind fun s2 =>
   match s2 with
   | .inl s3 => some (s3.1, s3.2.1, s3.2.2.1, s3.2.2.2.1, true)
   | .inr s4 => some (s4.1, s4.2.1, s4.2.2.1, s4.2.2.2.1, s4.2.2.2.2.2)
def hF {σ : Type} (cb : List Int → σ → Option (σ × Bool)) : Nat → NIn σ → Option (NOut σ)
 | 0, _ => none
 | d + 1, x => hBody cb (hF cb d) x
section
variable {V n : Nat} {cs : List Con} {given : List Int}
end
end T
set_option linter.unusedVariables false
open Go Go.Va
namespace T
def laws_vBig (code : List Int) : Option (Bool) :=
 some (decide ((code.length : Int) > 65536))
def spec_l1Cur_next (c : (List Int) × Int × Int) : Option (((List Int) × Int × Int) × Int) :=
 if decide (c.2.1 < (c.1.length : Int)) then
  if inb c.2.1 c.1 then
   if decide ((w64 (c.2.1 + 1)) ≤ (c.1.length : Int)) then
    some ((c.1, (w64 (c.2.1 + 1), IntKind.wrap .u64 ((IntKind.wrap .u64 ((IntKind.wrap .u64 (c.2.2 * 6364136223846793005)) + (IntKind.wrap .u64 (w64 (gd c.1 c.2.1 0))))) + 550289))), w64 (gd c.1 c.2.1 0))
   else
    if (0 : Int) ≤ 40 then
     some ((c.1, (w64 (c.2.1 + 1), IntKind.wrap .u64 ((IntKind.wrap .u64 ((IntKind.wrap .u64 (c.2.2 * 6364136223846793005)) + (IntKind.wrap .u64 (w64 (gd c.1 c.2.1 0))))) + 550289))), w64 (andI .u64 (shrI .u64 (IntKind.wrap .u64 ((IntKind.wrap .u64 ((IntKind.wrap .u64 (c.2.2 * 6364136223846793005)) + (IntKind.wrap .u64 (w64 (gd c.1 c.2.1 0))))) + 550289)) 40) 255))
    else none
  else none
 else
  if decide ((w64 (c.2.1 + 1)) ≤ (c.1.length : Int)) then
   some ((c.1, (w64 (c.2.1 + 1), IntKind.wrap .u64 ((IntKind.wrap .u64 ((IntKind.wrap .u64 (c.2.2 * 6364136223846793005)) + (IntKind.wrap .u64 (0)))) + 550289))), 0)
  else
   if (0 : Int) ≤ 40 then
    some ((c.1, (w64 (c.2.1 + 1), IntKind.wrap .u64 ((IntKind.wrap .u64 ((IntKind.wrap .u64 (c.2.2 * 6364136223846793005)) + (IntKind.wrap .u64 (0)))) + 550289))), w64 (andI .u64 (shrI .u64 (IntKind.wrap .u64 ((IntKind.wrap .u64 ((IntKind.wrap .u64 (c.2.2 * 6364136223846793005)) + (IntKind.wrap .u64 (0)))) + 550289)) 40) 255))
   else none
def spec_l1Cur_pick (c : (List Int) × Int × Int) (n_ : Int) : Option (((List Int) × Int × Int) × Int) :=
 if decide (n_ ≤ 1) then
  some ((c.1, (c.2.1, c.2.2)), 0)
 else
  (spec_l1Cur_next (c.1, (c.2.1, c.2.2))).bind fun r1 =>
   if decide (n_ > 200) then
    (spec_l1Cur_next (r1.1.1, (r1.1.2.1, r1.1.2.2))).bind fun r2 =>
     if n_ ≠ 0 then
      some ((r2.1.1, (r2.1.2.1, r2.1.2.2)), Int.tmod (w64 ((w64 (r1.2 * 256)) + r2.2)) n_)
     else none
   else
    if n_ ≠ 0 then
     some ((r1.1.1, (r1.1.2.1, r1.1.2.2)), Int.tmod r1.2 n_)
    else none
def spec_l1Cur_among (c : (List Int) × Int × Int) (list : List Int) : Option (((List Int) × Int × Int) × Int) :=
 (spec_l1Cur_pick (c.1, (c.2.1, c.2.2)) (list.length : Int)).bind fun r1 =>
  if inb r1.2 list then
   some ((r1.1.1, (r1.1.2.1, r1.1.2.2)), gd list r1.2 0)
  else none
def spec_l1Cur_one (c : (List Int) × Int × Int) (n_ : Int) : Option (((List Int) × Int × Int) × Bool) :=
 (spec_l1Cur_pick (c.1, (c.2.1, c.2.2)) n_).bind fun r1 =>
  some ((r1.1.1, (r1.1.2.1, r1.1.2.2)), r1.2 == 0)
def spec_l1Cur_linear_L8 : Nat → (((List Int) × Int × Int) × (Int × (Int × (List (List Int)))) × Int × (Int × (Int × (List (List Int)))) × Int × (List Int) × Int) → Option (((List Int) × Int × Int) × (Int × (Int × (List (List Int)))) × Int × (Int × (Int × (List (List Int)))) × Int × (List Int))
 | 0, _ => none
 | n + 1, (t0, t2, t3, t4, t5, t6, t7) =>
  if decide (t7 ≤ t4.2.1) then
   (spec_l1Cur_pick (t0.1, (t0.2.1, t0.2.2)) t3).bind fun r4 =>
    if t6.length + [r4.2].length ≤ lim then
     spec_l1Cur_linear_L8 n ((r4.1.1, (r4.1.2.1, r4.1.2.2)), (t2.1, (t2.2.1, t2.2.2)), t3, (t4.1, (t4.2.1, t4.2.2)), t5, t6 ++ [r4.2], w64 (t7 + 1))
    else none
  else
   some ((t0.1, (t0.2.1, t0.2.2)), (t2.1, (t2.2.1, t2.2.2)), t3, (t4.1, (t4.2.1, t4.2.2)), t5, t6)
def spec_l1Cur_linear_L4 : Nat → (((List Int) × Int × Int) × (Int × (Int × (List (List Int)))) × Int × (Int × (Int × (List (List Int)))) × Int) → Option (((List Int) × Int × Int) × (Int × (Int × (List (List Int)))) × Int × (Int × (Int × (List (List Int)))))
 | 0, _ => none
 | n + 1, (t0, t2, t3, t4, t5) =>
  if decide (t5 > 0) then
   (spec_l1Cur_linear_L8 fuel ((t0.1, (t0.2.1, t0.2.2)), (t2.1, (t2.2.1, t2.2.2)), t3, (t4.1, (t4.2.1, t4.2.2)), t5, [], 0)).bind fun s4 =>
    if decide ((s4.2.2.2.1.2.2.length : Int) > 0) then
     (spec_l1Cur_one (s4.1.1, (s4.1.2.1, s4.1.2.2)) 4).bind fun r5 =>
      if r5.2 then
       if inb 0 s4.2.2.2.1.2.2 then
        (spec_l1Cur_pick (r5.1.1, (r5.1.2.1, r5.1.2.2)) s4.2.2.1).bind fun r6 =>
         (spec_l21Scale s4.2.2.1 (gd s4.2.2.2.1.2.2 0 []) r6.2).bind fun r7 =>
          (spec_l1Cur_one (r6.1.1, (r6.1.2.1, r6.1.2.2)) 2).bind fun r8 =>
           if r8.2 then
            (spec_l1Cur_pick (r8.1.1, (r8.1.2.1, r8.1.2.2)) s4.2.2.1).bind fun r9 =>
             if inb s4.2.2.2.1.2.1 r7 then
              if s4.2.2.2.1.2.2.length + [stt r7 s4.2.2.2.1.2.1 r9.2].length ≤ lim then
               spec_l1Cur_linear_L4 n ((r9.1.1, (r9.1.2.1, r9.1.2.2)), (s4.2.1.1, (s4.2.1.2.1, s4.2.1.2.2)), s4.2.2.1, (s4.2.2.2.1.1, (s4.2.2.2.1.2.1, s4.2.2.2.1.2.2 ++ [stt r7 s4.2.2.2.1.2.1 r9.2])), w64 (s4.2.2.2.2.1 - 1))
              else none
             else none
           else
            if s4.2.2.2.1.2.2.length + [r7].length ≤ lim then
             spec_l1Cur_linear_L4 n ((r8.1.1, (r8.1.2.1, r8.1.2.2)), (s4.2.1.1, (s4.2.1.2.1, s4.2.1.2.2)), s4.2.2.1, (s4.2.2.2.1.1, (s4.2.2.2.1.2.1, s4.2.2.2.1.2.2 ++ [r7])), w64 (s4.2.2.2.2.1 - 1))
            else none
       else none
      else
       if s4.2.2.2.1.2.2.length + [s4.2.2.2.2.2].length ≤ lim then
        spec_l1Cur_linear_L4 n ((r5.1.1, (r5.1.2.1, r5.1.2.2)), (s4.2.1.1, (s4.2.1.2.1, s4.2.1.2.2)), s4.2.2.1, (s4.2.2.2.1.1, (s4.2.2.2.1.2.1, s4.2.2.2.1.2.2 ++ [s4.2.2.2.2.2])), w64 (s4.2.2.2.2.1 - 1))
       else none
    else
     if s4.2.2.2.1.2.2.length + [s4.2.2.2.2.2].length ≤ lim then
      spec_l1Cur_linear_L4 n ((s4.1.1, (s4.1.2.1, s4.1.2.2)), (s4.2.1.1, (s4.2.1.2.1, s4.2.1.2.2)), s4.2.2.1, (s4.2.2.2.1.1, (s4.2.2.2.1.2.1, s4.2.2.2.1.2.2 ++ [s4.2.2.2.2.2])), w64 (s4.2.2.2.2.1 - 1))
     else none
  else
   some ((t0.1, (t0.2.1, t0.2.2)), (t2.1, (t2.2.1, t2.2.2)), t3, (t4.1, (t4.2.1, t4.2.2)))
def spec_l1Cur_linear_L22 : Nat → (((List Int) × Int × Int) × (Int × (Int × (List (List Int)))) × (Int × (Int × (List (List Int))))) → Option (((List Int) × Int × Int) × (Int × (Int × (List (List Int)))) × (Int × (Int × (List (List Int)))))
 | 0, _ => none
 | n + 1, (t0, t2, t4) =>
  (spec_l1Cur_pick (t0.1, (t0.2.1, t0.2.2)) 2).bind fun r14 =>
   if decide ((t4.2.2.length : Int) < (w64 (8 + r14.2))) then
    if 0 ≤ (w64 (t4.2.1 + 1)) ∧ (w64 (t4.2.1 + 1)) ≤ (w64 (t4.2.1 + 1)) ∧ (w64 (t4.2.1 + 1)) ≤ lim then
     if t4.2.2.length + [List.replicate (Int.toNat (w64 (t4.2.1 + 1))) (0 : Int)].length ≤ lim then
      spec_l1Cur_linear_L22 n ((r14.1.1, (r14.1.2.1, r14.1.2.2)), (t2.1, (t2.2.1, t2.2.2)), (t4.1, (t4.2.1, t4.2.2 ++ [List.replicate (Int.toNat (w64 (t4.2.1 + 1))) (0 : Int)])))
     else none
    else none
   else
    some ((r14.1.1, (r14.1.2.1, r14.1.2.2)), (t2.1, (t2.2.1, t2.2.2)), (t4.1, (t4.2.1, t4.2.2)))
def spec_l1Cur_linear (t0 : (List Int) × Int × Int) : Option (((List Int) × Int × Int) × (Int × (Int × (List (List Int))))) :=
 (spec_l1Cur_among (t0.1, (t0.2.1, t0.2.2)) [2, 2, 3, 3, 5, 7]).bind fun r1 =>
  (spec_l1Cur_among (r1.1.1, (r1.1.2.1, r1.1.2.2)) [2, 3, 3, 4, 1, 5, 0, 8]).bind fun r2 =>
   (spec_l1Cur_among (r2.1.1, (r2.1.2.1, r2.1.2.2)) [1, 2, 2, 3, 3, 4, 0]).bind fun r3 =>
    (spec_l1Cur_linear_L4 fuel ((r3.1.1, (r3.1.2.1, r3.1.2.2)), (0, (0, [])), r1.2, (r1.2, (r2.2, [])), r3.2)).bind fun s4 =>
     (spec_l1Cur_pick (s4.1.1, (s4.1.2.1, s4.1.2.2)) 40).bind fun r5 =>
      if r5.2 == 0 then
       (spec_l1Cur_among (r5.1.1, (r5.1.2.1, r5.1.2.2)) [4, 1, 0, 11, 9]).bind fun r6 =>
        some ((r6.1.1, (r6.1.2.1, r6.1.2.2)), (r6.2, (s4.2.2.2.2.1, s4.2.2.2.2.2)))
      else
       if r5.2 == 1 then
        (spec_l1Cur_among (r5.1.1, (r5.1.2.1, r5.1.2.2)) [(-1), 9, w64 (s4.2.2.2.2.1 + 1)]).bind fun r7 =>
         some ((r7.1.1, (r7.1.2.1, r7.1.2.2)), (s4.2.2.2.1, (r7.2, s4.2.2.2.2.2)))
       else
        if r5.2 == 2 then
         (spec_l1Cur_linear_L22 fuel ((r5.1.1, (r5.1.2.1, r5.1.2.2)), (s4.2.1.1, (s4.2.1.2.1, s4.2.1.2.2)), (s4.2.2.2.1, (s4.2.2.2.2.1, s4.2.2.2.2.2)))).bind fun s8 =>
          some ((s8.1.1, (s8.1.2.1, s8.1.2.2)), (s8.2.2.1, (s8.2.2.2.1, s8.2.2.2.2)))
        else
         if r5.2 == 3 then
          if decide ((s4.2.2.2.2.2.length : Int) > 0) then
           if inb 0 s4.2.2.2.2.2 then
            (spec_l1Cur_among (r5.1.1, (r5.1.2.1, r5.1.2.2)) [(-1), s4.2.2.1]).bind fun r9 =>
             if inb 0 (gd s4.2.2.2.2.2 0 []) then
              some ((r9.1.1, (r9.1.2.1, r9.1.2.2)), (s4.2.2.2.1, (s4.2.2.2.2.1, stt s4.2.2.2.2.2 0 (stt (gd s4.2.2.2.2.2 0 []) 0 r9.2))))
             else none
           else none
          else
           some ((r5.1.1, (r5.1.2.1, r5.1.2.2)), (s4.2.2.2.1, (s4.2.2.2.2.1, s4.2.2.2.2.2)))
         else
          some ((r5.1.1, (r5.1.2.1, r5.1.2.2)), (s4.2.2.2.1, (s4.2.2.2.2.1, s4.2.2.2.2.2)))
def spec_DrawIsLinear (code : List Int) : Option ((Int × (Int × (List (List Int))))) :=
 (spec_l1Cur_linear (code, (0, 0))).bind fun r1 =>
  some (r1.2.1, (r1.2.2.1, r1.2.2.2))
def laws_vInts_L4 : Nat → ((List Int) × (List Int) × Int) → Option ((Unit) ⊕ (Bool))
 | 0, _ => none
 | n + 1, (a, b, i) =>
  if decide (i < (a.length : Int)) then
   if inb i a then
    if inb i b then
     if (gd a i 0) != (gd b i 0) then
      some (.inr false)
     else
      laws_vInts_L4 n (a, b, w64 (i + 1))
    else none
   else none
  else
   some (.inl ())
def laws_vInts (a : List Int) (b : List Int) : Option (Bool) :=
 if (a.length : Int) != (b.length : Int) then
  some false
 else
  (laws_vInts_L4 fuel (a, b, 0)).bind fun s1 =>
   match s1 with
   | .inl s2 =>
    some true
   | .inr s3 =>
    some s3
end T
open Go Go.Va
namespace T
section
variable {p : Int} {V W N k : Nat} {A B C D : List (List Int)} {f g : Nat → Int}
def solC (p : Int) (k : Nat) (A : List (List Int)) (c : Nat → Int) : Prop := ∀ r ∈ A, cg p (sumN k fun i => r.getD i 0 * c i) (r.getD k 0)
theorem told_sol (hp : pr4 p) (hA : ∀ r ∈ A, okRow p (k + 1) r) (hf : failB k (elimF p A k) = false) : solC p k A (solV k (elimF p A k)) := by
 have hs := elimF_ok hp hA k (by omega)
 have hrr := elim_rr hp hA k (by omega)
 have hsp := elim_sp hp hA (V := k + 1) (Nat.le_refl _) k (by omega)
 generalize elimF p A k = s at *
 have h1 : ∀ r ∈ s.1 ++ s.2.2, cg p (sumN k fun i => r.getD i 0 * solV k s i) (r.getD k 0) := by
  intro r hr
  rcases List.mem_append.1 hr with hr | hr
  ·obtain ⟨i, hi, rfl⟩ := List.mem_iff_getElem.1 hr
   have hb : i < s.2.1.length := by have := hs.bl; omega
   have hbv := hs.bv _ (List.getElem_mem hb)
   have hbn : s.2.1[i] = (((s.2.1[i]).toNat : Nat) : Int) := by omega
   have hpos := posL_uniq hs.bn hb hbn
   have e1 : solV k s (s.2.1[i]).toNat = (s.1[i]).getD k 0 := by
    unfold solV
    rw [hpos, if_neg (by omega), Int.toNat_natCast, getD_of hi]
   have e2 : (s.1[i]).getD (s.2.1[i]).toNat 0 = 1 := by
    have := hrr.piv i hi i hi
    rw [getD_of hi, getD_of hb, if_pos rfl] at this
    exact this
   have e3 := sumN_one (n := k) (m := (s.2.1[i]).toNat) (h := fun u => (s.1[i]).getD u 0 * solV k s u) (by omega) fun u hu hne => by
    by_cases hm : (u : Int) ∈ s.2.1
    ·obtain ⟨j, hj, hj1, hj2⟩ := posL_at hm
     have hji : j ≠ i := fun e => by subst e; rw [hj2] at hne; exact hne (by omega)
     have := hrr.piv i hi j (by have := hs.bl; omega)
     rw [getD_of hi, getD_of hj, if_neg (fun e => hji e.symm), hj2, Int.toNat_natCast] at this
     rw [this]; simp
    ·have : solV k s u = 0 := by unfold solV; rw [if_pos (posL_neg.2 hm)]
     rw [this]; simp
   rw [e3]
   exact cg_of (by rw [e1, e2]; simp)
  ·have hz := hrr.zl r hr
   have h0 : nzB k r = false := by
    unfold failB at hf
    rw [List.any_eq_false] at hf
    simpa using hf r hr
   have h0 : r.getD k 0 = 0 := by unfold nzB at h0; simpa using h0
   rw [h0]
   exact sumN_zero fun j hj => by rw [hz j hj]; exact cg_of (by simp)
 intro r hr
 exact sp_phi h1 ((hsp _).1 (Sp.mem hr))
end
end T
open Go Go.Va
namespace T
abbrev CurT := List Int × Int × Int
def Cur (k : Nat) (c : CurT) : Prop := c.1.length ≤ 65536 ∧ (∀ x ∈ c.1, 0 ≤ x ∧ x < 256) ∧ 0 ≤ c.2.1 ∧ c.2.1 ≤ (k : Int)
theorem and255 (x : Int) : 0 ≤ w64 (andI .u64 x 255) ∧ w64 (andI .u64 x 255) < 256 := by
 have h1 : (BitVec.ofInt 64 x &&& BitVec.ofInt 64 255).toNat ≤ 255 := by
  rw [BitVec.toNat_and]
  have : (BitVec.ofInt 64 255).toNat = 255 := by decide
  rw [this]
  exact Nat.and_le_right
 have h2 : andI .u64 x 255 = ((BitVec.ofInt 64 x &&& BitVec.ofInt 64 255).toNat : Int) := by
  unfold andI
  have e : ∀ n : Nat, n ≤ 255 → IntKind.wrap .u64 (n : Int) = (n : Int) := fun n hn => by
   simp [IntKind.wrap, IntKind.bits, IntKind.signed]
   omega
  exact e _ h1
 rw [h2, w64_id (by omega) (by omega)]
 omega
theorem next_ok {k : Nat} {c : CurT} (h : Cur k c) (hk : k ≤ 1000000000) : ∃ c' x, spec_l1Cur_next c = some (c', x) ∧ Cur (k + 1) c' ∧ 0 ≤ x ∧ x < 256 := by
 obtain ⟨code, at', seed⟩ := c
 obtain ⟨h1, h2, h3, h4⟩ := h
 dsimp only at h1 h2 h3 h4
 have hw : w64 (at' + 1) = at' + 1 := w64_id (by omega) (by omega)
 have hC : ∀ s, Cur (k + 1) (code, (at' + 1, s)) := fun s => ⟨h1, h2, by dsimp only; omega, by dsimp only; omega⟩
 unfold spec_l1Cur_next
 simp only [hw]
 by_cases hc : at' < (code.length : Int)
 ·have hin : inb at' code := ⟨h3, hc⟩
  have hle : at' + 1 ≤ (code.length : Int) := by omega
  have hb : 0 ≤ gd code at' 0 ∧ gd code at' 0 < 256 := by
   have : gd code at' 0 = code.getD at'.toNat 0 := rfl
   rw [this, getD_of (by omega)]
   exact h2 _ (List.getElem_mem _)
  rw [if_pos (decide_eq_true hc), if_pos hin, if_pos (decide_eq_true hle)]
  exact ⟨_, _, rfl, hC _, by rw [w64_id (by omega) (by omega)]; exact hb⟩
 ·have hle : ¬ at' + 1 ≤ (code.length : Int) := by omega
  rw [if_neg (by simpa using hc), if_neg (by simpa using hle), if_pos (by decide)]
  exact ⟨_, _, rfl, hC _, and255 _⟩
theorem pick_ok {k : Nat} {c : CurT} (h : Cur k c) (hk : k ≤ 100000000) (n : Int) (hn : n ≤ 1000000) : ∃ c' x, spec_l1Cur_pick c n = some (c', x) ∧ Cur (k + 2) c' ∧ 0 ≤ x ∧ (1 ≤ n → x < n) ∧ (n ≤ 1 → x = 0) := by
 have mono : ∀ {c : CurT} {i j : Nat}, i ≤ j → Cur i c → Cur j c := fun hij ⟨a, b, d, e⟩ => ⟨a, b, d, by omega⟩
 unfold spec_l1Cur_pick
 by_cases h1 : n ≤ 1
 ·rw [if_pos (decide_eq_true h1)]
  exact ⟨_, _, rfl, mono (by omega) h, by omega, fun _ => by omega, fun _ => rfl⟩
 ·rw [if_neg (by simpa using h1)]
  obtain ⟨c1, x1, e1, g1, a1, b1⟩ := next_ok h (by omega)
  have e1 : spec_l1Cur_next (c.1, (c.2.1, c.2.2)) = _ := e1
  simp only [e1, Option.bind_some]
  by_cases h2 : n > 200
  ·obtain ⟨c2, x2, e2, g2, a2, b2⟩ := next_ok g1 (by omega)
   have e2 : spec_l1Cur_next (c1.1, (c1.2.1, c1.2.2)) = _ := e2
   rw [if_pos (decide_eq_true h2)]
   simp only [e2, Option.bind_some]
   rw [if_pos (by omega)]
   have w1 : w64 (x1 * 256) = x1 * 256 := w64_id (by omega) (by omega)
   have w2 : w64 (x1 * 256 + x2) = x1 * 256 + x2 := w64_id (by omega) (by omega)
   refine ⟨_, _, rfl, g2, ?_, fun _ => ?_, fun h => absurd h h1⟩
   ·rw [w1, w2, Int.tmod_eq_emod_of_nonneg (by omega)]; exact Int.emod_nonneg _ (by omega)
   ·rw [w1, w2, Int.tmod_eq_emod_of_nonneg (by omega)]; exact Int.emod_lt_of_pos _ (by omega)
  ·rw [if_neg (by simpa using h2), if_pos (by omega)]
   refine ⟨_, _, rfl, mono (by omega) g1, ?_, fun _ => ?_, fun h => absurd h h1⟩
   ·rw [Int.tmod_eq_emod_of_nonneg a1]; exact Int.emod_nonneg _ (by omega)
   ·rw [Int.tmod_eq_emod_of_nonneg a1]; exact Int.emod_lt_of_pos _ (by omega)
theorem among_ok {k : Nat} {c : CurT} (h : Cur k c) (hk : k ≤ 100000000) {l : List Int} (h0 : 0 < l.length) (hl : l.length ≤ 1000) : ∃ c' x, spec_l1Cur_among c l = some (c', x) ∧ Cur (k + 2) c' ∧ x ∈ l := by
 obtain ⟨c1, x1, e1, g1, a1, b1, _⟩ := pick_ok h hk (l.length : Int) (by omega)
 have b1 := b1 (by omega)
 unfold spec_l1Cur_among
 have e1 : spec_l1Cur_pick (c.1, (c.2.1, c.2.2)) (l.length : Int) = _ := e1
 simp only [e1, Option.bind_some]
 have hin : inb x1 l := ⟨a1, b1⟩
 rw [if_pos hin]
 refine ⟨_, _, rfl, g1, ?_⟩
 have : gd l x1 0 = l.getD x1.toNat 0 := rfl
 rw [this]
 exact getD_mem (by omega)
theorem one_ok {k : Nat} {c : CurT} (h : Cur k c) (hk : k ≤ 100000000) (n : Int) (hn : n ≤ 1000000) : ∃ c' x, spec_l1Cur_one c n = some (c', x) ∧ Cur (k + 2) c' := by
 obtain ⟨c1, x1, e1, g1, _⟩ := pick_ok h hk n hn
 unfold spec_l1Cur_one
 have e1 : spec_l1Cur_pick (c.1, (c.2.1, c.2.2)) n = _ := e1
 simp only [e1, Option.bind_some]
 exact ⟨_, _, rfl, g1⟩
theorem Cur.mono {c : CurT} {i j : Nat} (hij : i ≤ j) : Cur i c → Cur j c := fun ⟨a, b, d, e⟩ => ⟨a, b, d, by omega⟩
end T
open Go Go.Va
namespace T
abbrev LinT := Int × (Int × List (List Int))
section
variable {p : Int} {V : Nat}
theorem drawRow (hp : pr4 p) (hV : V ≤ 8) {t2 : LinT} {pr : Int} {rows : List (List Int)} {t5 : Int} : ∀ (d v f k : Nat) (c : CurT) (row : List Int), v + d = V + 1 → d < f → Cur k c → k + 2 * d ≤ 1000000 → okRow p v row →
    ∃ c' row', spec_l1Cur_linear_L8 f (c, t2, p, (pr, ((V : Int), rows)), t5, row, (v : Int)) = some (c', t2, p, (pr, ((V : Int), rows)), t5, row') ∧ Cur (k + 2 * d) c' ∧ okRow p (V + 1) row' := by
  intro d
  induction d with
  | zero =>
    intro v f k c row hv hf hc hk hr
    obtain ⟨f, rfl⟩ : ∃ z, f = z + 1 := ⟨f - 1, by omega⟩
    have : v = V + 1 := by omega
    subst this
    refine ⟨c, row, ?_, hc, hr⟩
    simp only [spec_l1Cur_linear_L8]
    rw [if_neg (by rw [decide_eq_true_eq]; omega)]
  | succ d ih =>
    intro v f k c row hv hf hc hk hr
    obtain ⟨f, rfl⟩ : ∃ z, f = z + 1 := ⟨f - 1, by omega⟩
    have hp' : 2 ≤ p ∧ p ≤ 7 := by unfold pr4 at hp; omega
    obtain ⟨c1, x1, e1, g1, a1, b1, _⟩ := pick_ok hc (by omega) p (by omega)
    have b1 := b1 (by omega)
    have e1 : spec_l1Cur_pick (c.1, (c.2.1, c.2.2)) p = _ := e1
    obtain ⟨c', row', e2, g2, r2⟩ := ih (v + 1) f (k + 2) c1 (row ++ [x1]) (by omega) (by omega) g1 (by omega) ⟨by rw [List.length_append, hr.1]; rfl, fun y hy => by
      rcases List.mem_append.1 hy with hy | hy
      · exact hr.2 y hy
      · rw [List.mem_singleton.1 hy]; exact ⟨a1, b1⟩⟩
    have hlen := hr.1
    refine ⟨c', row', ?_, g2.mono (by omega), r2⟩
    simp only [spec_l1Cur_linear_L8, e1, Option.bind_some, w64_succ (show v < 4611686018427387904 by omega)]
    rw [if_pos (by simp; omega), if_pos (by rw [List.length_singleton]; unfold lim; omega)]
    exact e2
theorem drawRows (hp : pr4 p) (hV : V ≤ 8) {t2 : LinT} : ∀ (d f k : Nat) (c : CurT) (rows : List (List Int)), d < f → Cur k c → k + 40 * d ≤ 1000000 → (∀ r ∈ rows, okRow p (V + 1) r) → rows.length + d ≤ 100 →
    ∃ c' rows', spec_l1Cur_linear_L4 f (c, t2, p, (p, ((V : Int), rows)), (d : Int)) = some (c', t2, p, (p, ((V : Int), rows'))) ∧ Cur (k + 40 * d) c' ∧ (∀ r ∈ rows', okRow p (V + 1) r) ∧ rows'.length ≤ rows.length + d := by
  intro d
  induction d with
  | zero =>
    intro f k c rows hf hc hk hr hl
    obtain ⟨f, rfl⟩ : ∃ z, f = z + 1 := ⟨f - 1, by omega⟩
    refine ⟨c, rows, ?_, hc, hr, by omega⟩
    simp only [spec_l1Cur_linear_L4]
    rw [if_neg (by simp)]
  | succ d ih =>
    intro f k c rows hf hc hk hr hl
    obtain ⟨f, rfl⟩ : ∃ z, f = z + 1 := ⟨f - 1, by omega⟩
    have hp' : 2 ≤ p ∧ p ≤ 7 := by unfold pr4 at hp; omega
    obtain ⟨c1, row, e1, g1, r1⟩ := drawRow (t2 := t2) (pr := p) (rows := rows) (t5 := ((d + 1 : Nat) : Int)) hp hV (V + 1) 0 fuel k c [] (by omega) (by unfold fuel; omega) hc (by omega) ⟨rfl, by simp⟩
    have e1 : spec_l1Cur_linear_L8 fuel ((c.1, (c.2.1, c.2.2)), (t2.1, (t2.2.1, t2.2.2)), p, (p, ((V : Int), rows)), ((d + 1 : Nat) : Int), [], 0) = _ := e1
    have hw : w64 (((d + 1 : Nat) : Int) - 1) = (d : Int) := by rw [w64_id (by omega) (by omega)]; omega
    have more : ∀ (c2 : CurT) (k2 : Nat) (row2 : List Int), Cur k2 c2 → k2 ≤ k + 40 → okRow p (V + 1) row2 → ∃ c' rows', (if rows.length + [row2].length ≤ lim then spec_l1Cur_linear_L4 f ((c2.1, (c2.2.1, c2.2.2)), (t2.1, (t2.2.1, t2.2.2)), p, (p, ((V : Int), rows ++ [row2])), w64 (((d + 1 : Nat) : Int) - 1)) else none) = some (c', t2, p, (p, ((V : Int), rows'))) ∧ Cur (k + 40 * (d + 1)) c' ∧ (∀ r ∈ rows', okRow p (V + 1) r) ∧ rows'.length ≤ rows.length + (d + 1) := by
      intro c2 k2 row2 hc2 hk2 hr2
      obtain ⟨c', rows', e, g, r, l⟩ := ih f (k + 40) c2 (rows ++ [row2]) (by omega) (hc2.mono hk2) (by omega) (fun r h => by
        rcases List.mem_append.1 h with h | h
        · exact hr r h
        · rw [List.mem_singleton.1 h]; exact hr2) (by rw [List.length_append, List.length_singleton]; omega)
      rw [if_pos (by rw [List.length_singleton]; unfold lim; omega), hw]
      exact ⟨c', rows', e, g.mono (by omega), r, by rw [List.length_append, List.length_singleton] at l; omega⟩
    simp only [spec_l1Cur_linear_L4]
    rw [if_pos (by simp)]
    simp only [e1, Option.bind_some]
    by_cases h0 : (rows.length : Int) > 0
    · rw [if_pos (decide_eq_true h0)]
      obtain ⟨c2, b2, e2, g2⟩ := one_ok g1 (by omega) 4 (by omega)
      have e2 : spec_l1Cur_one (c1.1, (c1.2.1, c1.2.2)) 4 = _ := e2
      simp only [e2, Option.bind_some]
      cases b2 with
      | false =>
        simp only [Bool.false_eq_true, if_false]
        exact more c2 _ row g2 (by omega) r1
      | true =>
        have hr0 : okRow p (V + 1) (gd rows 0 []) := by
          have : gd rows 0 [] = rows.getD 0 [] := rfl
          rw [this]; exact hr _ (getD_mem (by omega))
        have hin0 : inb (0 : Int) rows := by unfold inb; omega
        obtain ⟨c3, x3, e3, g3, a3, b3, _⟩ := pick_ok g2 (by omega) p (by omega)
        have b3 := b3 (by omega)
        have e3 : spec_l1Cur_pick (c2.1, (c2.2.1, c2.2.2)) p = _ := e3
        have e4 := spec_scale_ok hp (show V + 1 ≤ 1000 by omega) hr0 ⟨a3, b3⟩
        have k4 := scale_ok hp hr0 ⟨a3, b3⟩
        obtain ⟨c5, b5, e5, g5⟩ := one_ok g3 (by omega) 2 (by omega)
        have e5 : spec_l1Cur_one (c3.1, (c3.2.1, c3.2.2)) 2 = _ := e5
        simp only [if_true, hin0, e3, e4, e5, Option.bind_some]
        cases b5 with
        | false =>
          simp only [Bool.false_eq_true, if_false]
          exact more c5 _ _ g5 (by omega) k4
        | true =>
          obtain ⟨c6, x6, e6, g6, a6, b6, _⟩ := pick_ok g5 (by omega) p (by omega)
          have b6 := b6 (by omega)
          have e6 : spec_l1Cur_pick (c5.1, (c5.2.1, c5.2.2)) p = _ := e6
          have hin : inb (V : Int) (scaleR p x3 (gd rows 0 [])) := by unfold inb; rw [k4.1]; omega
          simp only [if_true, e6, Option.bind_some]
          rw [if_pos hin]
          refine more c6 _ _ g6 (by omega) ⟨by rw [stt_nat, List.length_set]; exact k4.1, fun y hy => ?_⟩
          rw [stt_nat] at hy
          rcases List.mem_or_eq_of_mem_set hy with hy | hy
          · exact k4.2 y hy
          · rw [hy]; exact ⟨a6, b6⟩
    · rw [if_neg (by simpa using h0)]
      exact more c1 _ row g1 (by omega) r1
theorem drawZ (hV : V ≤ 8) {t2 : LinT} {p : Int} : ∀ (d f k : Nat) (c : CurT) (rows : List (List Int)), rows.length + d = 9 → d < f → Cur k c → k + 2 * d ≤ 1000000 → (∀ r ∈ rows, r.length ≤ 9) →
    ∃ c' rows', spec_l1Cur_linear_L22 f (c, t2, (p, ((V : Int), rows))) = some (c', t2, (p, ((V : Int), rows'))) ∧ Cur (k + 2 * (d + 1)) c' ∧ (∀ r ∈ rows', r.length ≤ 9) ∧ rows'.length ≤ 9 := by
  intro d
  induction d with
  | zero =>
    intro f k c rows hl hf hc hk hr
    obtain ⟨f, rfl⟩ : ∃ z, f = z + 1 := ⟨f - 1, by omega⟩
    obtain ⟨c1, x1, e1, g1, a1, b1, _⟩ := pick_ok hc (by omega) 2 (by omega)
    have b1 := b1 (by omega)
    have e1 : spec_l1Cur_pick (c.1, (c.2.1, c.2.2)) 2 = _ := e1
    refine ⟨c1, rows, ?_, g1, hr, by omega⟩
    have hw : w64 (8 + x1) = 8 + x1 := w64_id (by omega) (by omega)
    simp only [spec_l1Cur_linear_L22, e1, Option.bind_some, hw]
    rw [if_neg (by simp; omega)]
  | succ d ih =>
    intro f k c rows hl hf hc hk hr
    obtain ⟨f, rfl⟩ : ∃ z, f = z + 1 := ⟨f - 1, by omega⟩
    obtain ⟨c1, x1, e1, g1, a1, b1, _⟩ := pick_ok hc (by omega) 2 (by omega)
    have b1 := b1 (by omega)
    have e1 : spec_l1Cur_pick (c.1, (c.2.1, c.2.2)) 2 = _ := e1
    have hw : w64 (8 + x1) = 8 + x1 := w64_id (by omega) (by omega)
    have hwV : w64 ((V : Int) + 1) = (V : Int) + 1 := w64_id (by omega) (by omega)
    simp only [spec_l1Cur_linear_L22, e1, Option.bind_some, hw, hwV]
    by_cases h : (rows.length : Int) < 8 + x1
    · obtain ⟨c', rows', e, g, r, l⟩ := ih f (k + 2) c1 (rows ++ [List.replicate (Int.toNat ((V : Int) + 1)) 0]) (by simp; omega) (by omega) g1 (by omega) (fun r h => by
        rcases List.mem_append.1 h with h | h
        · exact hr r h
        · rw [List.mem_singleton.1 h, List.length_replicate]; omega)
      refine ⟨c', rows', ?_, g.mono (by omega), r, l⟩
      rw [if_pos (decide_eq_true h), if_pos (by unfold lim; omega), if_pos (by rw [List.length_singleton]; unfold lim; omega)]
      exact e
    · rw [if_neg (by simpa using h)]
      exact ⟨c1, rows, rfl, g1.mono (by omega), hr, by omega⟩
theorem linear_ok {k : Nat} {c : CurT} (hc : Cur k c) (hk : k ≤ 100000) : ∃ c' l, spec_l1Cur_linear c = some (c', l) ∧ Cur (k + 1000) c' ∧ l.2.2.length ≤ 9 ∧ (∀ r ∈ l.2.2, r.length ≤ 9) ∧ l.1 ≤ 1000 := by
 obtain ⟨c1, p, e1, g1, m1⟩ := among_ok hc (by omega) (l := [2, 2, 3, 3, 5, 7]) (by simp) (by simp)
 obtain ⟨c2, v, e2, g2, m2⟩ := among_ok g1 (by omega) (l := [2, 3, 3, 4, 1, 5, 0, 8]) (by simp) (by simp)
 obtain ⟨c3, m, e3, g3, m3⟩ := among_ok g2 (by omega) (l := [1, 2, 2, 3, 3, 4, 0]) (by simp) (by simp)
 have hp : pr4 p := by simp at m1; unfold pr4; omega
 have hv : 0 ≤ v ∧ v ≤ 8 := by simp at m2; omega
 have hm : 0 ≤ m ∧ m ≤ 4 := by simp at m3; omega
 obtain ⟨V, rfl⟩ : ∃ V : Nat, v = (V : Int) := ⟨v.toNat, by omega⟩
 obtain ⟨M, rfl⟩ : ∃ M : Nat, m = (M : Int) := ⟨m.toNat, by omega⟩
 have hp' : 2 ≤ p ∧ p ≤ 7 := by unfold pr4 at hp; omega
 obtain ⟨c4, rows, e4, g4, r4, l4⟩ := drawRows (t2 := (0, (0, []))) hp (show V ≤ 8 by omega) M fuel (k + 6) c3 [] (by unfold fuel; omega) g3 (by omega) (by simp) (by simp; omega)
 obtain ⟨c5, x5, e5, g5, a5, b5, _⟩ := pick_ok g4 (by omega) 40 (by omega)
 have e1 : spec_l1Cur_among (c.1, (c.2.1, c.2.2)) [2, 2, 3, 3, 5, 7] = _ := e1
 have e2 : spec_l1Cur_among (c1.1, (c1.2.1, c1.2.2)) [2, 3, 3, 4, 1, 5, 0, 8] = _ := e2
 have e3 : spec_l1Cur_among (c2.1, (c2.2.1, c2.2.2)) [1, 2, 2, 3, 3, 4, 0] = _ := e3
 have e4 : spec_l1Cur_linear_L4 fuel ((c3.1, (c3.2.1, c3.2.2)), (0, (0, [])), p, (p, ((V : Int), [])), (M : Int)) = _ := e4
 have e5 : spec_l1Cur_pick (c4.1, (c4.2.1, c4.2.2)) 40 = _ := e5
 have hlen : rows.length ≤ 4 := by simp at l4; omega
 have hrl : ∀ r ∈ rows, r.length ≤ 9 := fun r hr => by have := (r4 r hr).1; omega
 unfold spec_l1Cur_linear
 simp only [e1, e2, e3, e4, e5, Option.bind_some]
 by_cases h0 : x5 = 0
 ·rw [if_pos (by simpa using h0)]
  obtain ⟨c6, x6, e6, g6, m6⟩ := among_ok g5 (by omega) (l := [4, 1, 0, 11, 9]) (by simp) (by simp)
  have e6 : spec_l1Cur_among (c5.1, (c5.2.1, c5.2.2)) [4, 1, 0, 11, 9] = _ := e6
  simp only [e6, Option.bind_some]
  exact ⟨_, _, rfl, g6.mono (by omega), by dsimp only; omega, hrl, by simp at m6; dsimp only; omega⟩
 ·rw [if_neg (by simpa using h0)]
  by_cases h1 : x5 = 1
  ·rw [if_pos (by simpa using h1)]
   obtain ⟨c6, x6, e6, g6, m6⟩ := among_ok g5 (by omega) (l := [(-1), 9, w64 ((V : Int) + 1)]) (by simp) (by simp)
   have e6 : spec_l1Cur_among (c5.1, (c5.2.1, c5.2.2)) [(-1), 9, w64 ((V : Int) + 1)] = _ := e6
   simp only [e6, Option.bind_some]
   exact ⟨_, _, rfl, g6.mono (by omega), by dsimp only; omega, hrl, by dsimp only; omega⟩
  ·rw [if_neg (by simpa using h1)]
   by_cases h2 : x5 = 2
   ·rw [if_pos (by simpa using h2)]
    obtain ⟨c6, rows6, e6, g6, r6, l6⟩ := drawZ (t2 := (0, (0, []))) (p := p) (show V ≤ 8 by omega) (9 - rows.length) fuel _ c5 rows (by omega) (by unfold fuel; omega) g5 (by omega) hrl
    have e6 : spec_l1Cur_linear_L22 fuel ((c5.1, (c5.2.1, c5.2.2)), (0, (0, [])), (p, ((V : Int), rows))) = _ := e6
    simp only [e6, Option.bind_some]
    exact ⟨_, _, rfl, g6.mono (by omega), l6, r6, by dsimp only; omega⟩
   ·rw [if_neg (by simpa using h2)]
    by_cases h3 : x5 = 3
    ·rw [if_pos (by simpa using h3)]
     by_cases h4 : (rows.length : Int) > 0
     ·rw [if_pos (decide_eq_true h4), if_pos (show inb (0 : Int) rows by unfold inb; omega)]
      obtain ⟨c6, x6, e6, g6, m6⟩ := among_ok g5 (by omega) (l := [(-1), p]) (by simp) (by simp)
      have e6 : spec_l1Cur_among (c5.1, (c5.2.1, c5.2.2)) [(-1), p] = _ := e6
      simp only [e6, Option.bind_some]
      have hg0 : gd rows 0 [] = rows.getD 0 [] := rfl
      have hm0 : rows.getD 0 [] ∈ rows := getD_mem (by omega)
      have hl0 := (r4 _ hm0).1
      rw [if_pos (show inb (0 : Int) (gd rows 0 []) by rw [hg0]; unfold inb; omega)]
      refine ⟨_, _, rfl, g6.mono (by omega), ?_, fun r hr => ?_, by dsimp only; omega⟩
      ·show (stt rows 0 _).length ≤ 9
       unfold stt; rw [List.length_set]; omega
      ·have hr : r ∈ rows.set 0 ((gd rows 0 []).set 0 x6) := hr
       rcases List.mem_or_eq_of_mem_set hr with hr | hr
       ·exact hrl r hr
       ·rw [hr, List.length_set, hg0]; omega
     ·rw [if_neg (by simpa using h4)]
      exact ⟨_, _, rfl, g5.mono (by omega), by dsimp only; omega, hrl, by dsimp only; omega⟩
    ·rw [if_neg (by simpa using h3)]
     exact ⟨_, _, rfl, g5.mono (by omega), by dsimp only; omega, hrl, by dsimp only; omega⟩
end
end T
open Go Go.Va
namespace T
def solR (a : Lin) : List Int × Bool := if goodB a then (if failB a.2.1.toNat (elimF a.1 a.2.2 a.2.1.toNat) then ([], false) else (solL a.2.1.toNat (elimF a.1 a.2.2 a.2.1.toNat), true)) else ([], false)
section
variable {a : Lin}
theorem SolveLinear_val (h : linS a) : impl_SolveLinear a = some (solR a) ∧ spec_SolveLinear a = some (solR a) := by
 obtain ⟨p, v, rows⟩ := a
 unfold impl_SolveLinear spec_SolveLinear solR
 rw [impl_IsLinear_ok h, spec_l21Good_ok h]
 cases hg : goodB (p, v, rows) with
 | false => exact ⟨rfl, rfl⟩
 | true =>
  obtain ⟨hp, V, hv, hV, hN, hr⟩ := lin_of hg
  dsimp only at hp hv hN hr
  subst hv
  have hs := elimF_ok hp hr V (by omega)
  unfold impl_eliminateLinear
  have e1 := elim_kept hp (show V ≤ V + 1 by omega) (by omega) hr (by omega)
  have e2 := solve_ok hp (show V < V + 1 by omega) (by omega) hr (by omega)
  have e3 := least_ok hp hs (by omega) (by omega) (by omega)
  simp only [e1, e2, e3, Option.bind_some, Bool.not_true, Bool.false_eq_true, if_false, if_true]
  exact ⟨rfl, rfl⟩
theorem good_parts (hg : goodB a = true) : pr4 a.1 ∧ (a.2.1.toNat : Int) = a.2.1 ∧ a.2.1.toNat ≤ 8 ∧ a.2.2.length ≤ 8 ∧ ∀ r ∈ a.2.2, okRow a.1 (a.2.1.toNat + 1) r := by
 obtain ⟨hp, V, hv, hV, hN, hr⟩ := lin_of hg
 have e : a.2.1.toNat = V := by rw [hv]; rfl
 rw [e]
 exact ⟨hp, hv.symm, hV, hN, hr⟩
end
theorem vInts_ok {x y : List Int} (h : x.length ≤ 1048576) : laws_vInts x y = some (decide (x = y)) := by
 unfold laws_vInts
 by_cases hl : x.length = y.length
 ·rw [if_neg (by simp [hl])]
  rw [eqX x y hl (fun n i => laws_vInts_L4 n (x, y, i)) (fun n k h1 h2 => ?_) (fun n => ?_) (n := fuel) (by unfold fuel; omega)]
  ·by_cases e : x = y <;> simp [e]
  ·simp only [laws_vInts_L4, inb_nat, gd_nat h1, gd_nat h2, w64_succ (show k < 4611686018427387904 by omega)]
   by_cases e : x[k] = y[k] <;> simp [h1, h2, e]
  ·simp [laws_vInts_L4]
 ·have : x ≠ y := fun e => hl (by rw [e])
  rw [if_pos (by simp; omega)]; simp [this]
end T
set_option linter.unusedVariables false
open Go Go.Va
namespace T
def spec_l8Put (list : List (List Int)) (t : List Int) : Option ((List (List Int))) :=
 (spec_l8Find list t).bind fun r1 =>
  if r1.2 then
   some list
  else
   if (0 : Int) ≤ 0 ∧ 0 ≤ r1.1 ∧ r1.1 ≤ (list.length : Int) then
    if ([] : List (List Int)).length + ((list.take (Int.toNat r1.1)).drop (Int.toNat 0)).length ≤ lim then
     if ([] ++ ((list.take (Int.toNat r1.1)).drop (Int.toNat 0))).length + [t].length ≤ lim then
      if (0 : Int) ≤ r1.1 ∧ r1.1 ≤ (list.length : Int) ∧ (list.length : Int) ≤ (list.length : Int) then
       if (([] ++ ((list.take (Int.toNat r1.1)).drop (Int.toNat 0))) ++ [t]).length + ((list.take (Int.toNat (list.length : Int))).drop (Int.toNat r1.1)).length ≤ lim then
        some ((([] ++ ((list.take (Int.toNat r1.1)).drop (Int.toNat 0))) ++ [t]) ++ ((list.take (Int.toNat (list.length : Int))).drop (Int.toNat r1.1)))
       else none
      else none
     else none
    else none
   else none
end T
open Go Go.Va
namespace T
def sortL (cmp : List Int → List Int → Int) (rows : List (List Int)) : List (List Int) := rows.mergeSort (fun x y => !decide (cmp y x < 0))
def cmpT (s t : List Int) : Int := if s.length < t.length then -1 else if t.length < s.length then 1 else cmpL s t
theorem cmpT_refl (s : List Int) : cmpT s s = 0 := by unfold cmpT; rw [if_neg (by omega), if_neg (by omega), cmpL_refl]
theorem cmpT_symm (s t : List Int) : cmpT t s = - cmpT s t := by
 unfold cmpT
 by_cases h1 : s.length < t.length
 ·rw [if_neg (by omega), if_pos h1, if_pos h1]; rfl
 ·by_cases h2 : t.length < s.length
  ·rw [if_pos h2, if_neg h1, if_pos h2]
  ·rw [if_neg h2, if_neg h1, if_neg h1, if_neg h2, cmpL_symm]
theorem cmpT_eq {s t : List Int} (h : cmpT s t = 0) : s = t := by
 unfold cmpT at h
 by_cases h1 : s.length < t.length
 ·rw [if_pos h1] at h; exact absurd h (by decide)
 ·rw [if_neg h1] at h
  by_cases h2 : t.length < s.length
  ·rw [if_pos h2] at h; exact absurd h (by decide)
  ·rw [if_neg h2] at h; exact cmpL_eq.1 h
theorem cmpT_trans {s t u : List Int} (h1 : cmpT s t < 0) (h2 : cmpT t u < 0) : cmpT s u < 0 := by
 unfold cmpT at *
 by_cases a1 : s.length < u.length
 ·rw [if_pos a1]; decide
 ·rw [if_neg a1]
  by_cases b1 : s.length < t.length
  ·have b2 : u.length < t.length := by omega
   rw [if_neg (by omega), if_pos b2] at h2; exact absurd h2 (by decide)
  ·rw [if_neg b1] at h1
   by_cases b3 : t.length < s.length
   ·rw [if_pos b3] at h1; exact absurd h1 (by decide)
   ·rw [if_neg b3] at h1
    by_cases c1 : t.length < u.length
    ·omega
    ·rw [if_neg c1] at h2
     by_cases c2 : u.length < t.length
     ·rw [if_pos c2] at h2; exact absurd h2 (by decide)
     ·rw [if_neg c2] at h2
      rw [if_neg (by omega)]
      exact cmpL_trans h1 h2
end T
open Go Go.Va
namespace T
theorem incB_pair {l : List (List Int)} : incB l = true ↔ l.Pairwise (fun a b => cmpL a b < 0) := by
 constructor
 ·intro h
  rw [List.pairwise_iff_getElem]
  exact fun i j hi hj hij => incB_lt h i j hij hj
 ·intro h
  rw [incB_iff]
  rw [List.pairwise_iff_getElem] at h
  exact fun i hi => h i (i + 1) (by omega) hi (by omega)
theorem spec_l8Put_ok {list : List (List Int)} {t : List Int} {k : Nat} (hl : list.length ≤ 1000000) (hk : k ≤ 1000000) (hv : ∀ u ∈ list, u.length = k) (ht : t.length = k) (hi : incB list = true) :
    ∃ out, spec_l8Put list t = some out ∧ incB out = true ∧ (∀ u, u ∈ out ↔ u = t ∨ u ∈ list) ∧ (t ∉ list → out.Perm (t :: list)) := by
  obtain ⟨c, e, k1, k2, k3⟩ := spec_l8Find_ok (by omega) (by omega) hv ht hi
  unfold spec_l8Put
  rw [e]
  simp only [Option.bind_some]
  by_cases hm : t ∈ list
  · rw [decide_eq_true hm, if_pos rfl]
    exact ⟨list, rfl, hi, fun u => ⟨Or.inr, fun h => h.elim (fun h => h ▸ hm) id⟩, fun h => absurd hm h⟩
  · rw [decide_eq_false hm, if_neg (by simp)]
    have e1 : (list.take (Int.toNat (c : Int))).drop (Int.toNat 0) = list.take c := by simp
    have e2 : (list.take (Int.toNat (list.length : Int))).drop (Int.toNat (c : Int)) = list.drop c := by simp
    have hlim : lim = 1099511627776 := rfl
    have t1 : (list.take c).length = c := by rw [List.length_take]; omega
    rw [e1, e2, if_pos (by omega), if_pos (by simp; omega), if_pos (by simp; omega), if_pos (by omega), if_pos (by simp; omega)]
    refine ⟨_, rfl, ?_, fun u => ?_, fun _ => ?_⟩
    · rw [incB_pair] at hi ⊢
      simp only [List.nil_append]
      have hsp : list = list.take c ++ list.drop c := (List.take_append_drop c list).symm
      rw [hsp, List.pairwise_append] at hi
      have h4 : ∀ u ∈ list.take c, cmpL u t < 0 := fun u hu => by
        obtain ⟨i, hi', rfl⟩ := List.mem_iff_getElem.1 hu
        rw [List.getElem_take]
        exact k2 i _ (by omega)
      have h5 : ∀ u ∈ list.drop c, cmpL t u < 0 := fun u hu => by
        obtain ⟨i, hi', rfl⟩ := List.mem_iff_getElem.1 hu
        rw [List.length_drop] at hi'
        rw [List.getElem_drop]
        have h6 := k3 (c + i) (by omega) (by omega)
        have h7 := cmpL_symm (list[c + i]'(by omega)) t
        have h8 : cmpL (list[c + i]'(by omega)) t ≠ 0 := fun h => hm (by rw [← cmpL_eq.1 h]; exact List.getElem_mem _)
        omega
      rw [List.pairwise_append, List.pairwise_append]
      refine ⟨⟨hi.1, List.pairwise_singleton _ _, fun a ha b hb => by rw [List.mem_singleton.1 hb]; exact h4 a ha⟩, hi.2.1, fun a ha b hb => ?_⟩
      rcases List.mem_append.1 ha with ha | ha
      · exact hi.2.2 a ha b hb
      · rw [List.mem_singleton.1 ha]; exact h5 b hb
    · have hsp : u ∈ list ↔ u ∈ list.take c ∨ u ∈ list.drop c := by rw [← List.mem_append, List.take_append_drop]
      simp only [List.nil_append, List.mem_append, List.mem_singleton, hsp]
      constructor
      · rintro ((h | h) | h)
        · exact Or.inr (Or.inl h)
        · exact Or.inl h
        · exact Or.inr (Or.inr h)
      · rintro (h | h | h)
        · exact Or.inl (Or.inr h)
        · exact Or.inl (Or.inl h)
        · exact Or.inr h
    · simp only [List.nil_append]
      refine (List.Perm.append_right _ (List.perm_append_comm)).trans ?_
      rw [List.append_assoc, List.take_append_drop]
      exact List.Perm.refl _
theorem cmpL_anti {x y : List Int} (h1 : ¬ cmpL y x < 0) (h2 : ¬ cmpL x y < 0) : x = y := by
 have := cmpL_symm x y
 exact cmpL_eq.1 (by omega)
theorem sortL_of {out l : List (List Int)} (hi : incB out = true) (hp : out.Perm l) : sortL cmpL l = out := by
 have hs : (sortL cmpL l).Pairwise fun x y => (!decide (cmpL y x < 0)) = true := by
  unfold sortL
  refine List.pairwise_mergeSort (fun a b c h1 h2 => ?_) (fun a b => ?_) l
  ·simp only [Bool.not_eq_true', decide_eq_false_iff_not] at *
   intro h3
   have q1 := cmpL_symm a b
   have q2 := cmpL_symm b c
   by_cases e : cmpL a b = 0
   ·rw [cmpL_eq.1 e] at h3; exact h2 h3
   ·exact h2 (cmpL_trans h3 (by omega))
  ·simp only [Bool.or_eq_true, Bool.not_eq_true', decide_eq_false_iff_not]
   have q1 := cmpL_symm a b
   omega
 have ho : out.Pairwise fun x y => (!decide (cmpL y x < 0)) = true := by
  refine (incB_pair.1 hi).imp ?_
  intro a b h
  simp only [Bool.not_eq_true', decide_eq_false_iff_not]
  have q1 := cmpL_symm a b
  omega
 have hpp : (sortL cmpL l).Perm out := (List.mergeSort_perm l _).trans hp.symm
 refine List.Perm.eq_of_pairwise (fun a b _ _ h1 h2 => ?_) hs ho hpp
 simp only [Bool.not_eq_true', decide_eq_false_iff_not] at h1 h2
 exact cmpL_anti h1 h2
end T
set_option linter.unusedVariables false
open Go Go.Va
namespace T
def spec_LinearSolutions_L12 : Nat → ((Int × Int × (List (List Int))) × (List (List Int)) × Int × (List Int) × Bool × (List (List Int)) × Int × (List Int) × (List Int) × Int) → Option ((Int × Int × (List (List Int))) × (List (List Int)) × Int × (List Int) × Bool × (List (List Int)) × Int × (List Int))
 | 0, _ => none
 | n + 1, (t1, t4, t5, t7, t8, t9, t10, t11, t12, t13) =>
  if decide (t13 < (t9.length : Int)) then
   if inb t13 t9 then
    if inb t13 t12 then
     (spec_l21Less t1.1 t11 (gd t9 t13 []) (w64 (t1.1 - (gd t12 t13 0)))).bind fun r7 =>
      spec_LinearSolutions_L12 n ((t1.1, (t1.2.1, t1.2.2)), t4, t5, t7, t8, t9, t10, r7, t12, w64 (t13 + 1))
    else none
   else none
  else
   some ((t1.1, (t1.2.1, t1.2.2)), t4, t5, t7, t8, t9, t10, t11)
def spec_LinearSolutions_L8 : Nat → ((Int × Int × (List (List Int))) × (List (List Int)) × Int × (List Int) × Bool × (List (List Int)) × Int) → Option ((List (List Int)))
 | 0, _ => none
 | n + 1, (t1, t4, t5, t7, t8, t9, t10) =>
  if decide (t10 < t5) then
   if t8 then
    (spec_l1Own t7).bind fun r5 =>
     (spec_l2Args t1.1 (t9.length : Int) t10).bind fun r6 =>
      (spec_LinearSolutions_L12 fuel ((t1.1, (t1.2.1, t1.2.2)), t4, t5, t7, t8, t9, t10, r5, r6, 0)).bind fun s7 =>
       (spec_l8Put s7.2.1 s7.2.2.2.2.2.2.2).bind fun r8 =>
        spec_LinearSolutions_L8 n ((s7.1.1, (s7.1.2.1, s7.1.2.2)), r8, s7.2.2.1, s7.2.2.2.1, s7.2.2.2.2.1, s7.2.2.2.2.2.1, w64 (s7.2.2.2.2.2.2.1 + 1))
   else
    some t4
  else
   some t4
def spec_LinearSolutions (t0 : Int × Int × (List (List Int))) : Option ((List (List Int)) × Bool) :=
 (spec_CountLinear (t0.1, (t0.2.1, t0.2.2))).bind fun r1 =>
  if !r1.2 then
   some ([], false)
  else
   if decide (r1.1 > 600) then
    some ([], false)
   else
    (spec_l21Solve t0.1 t0.2.1 t0.2.2).bind fun r2 =>
     (spec_l21Of (t0.1, (t0.2.1, t0.2.2))).bind fun r3 =>
      (spec_l21Kernel (r3.1, (r3.2.1, r3.2.2)) t0.1 t0.2.1).bind fun r4 =>
       (spec_LinearSolutions_L8 fuel ((t0.1, (t0.2.1, t0.2.2)), [], r1.1, r2.1, r2.2, r4, 0)).bind fun s5 =>
        some (s5, true)
def impl_sortRows_impl_compareLists (a0 : List (List Int)) (a1 : Unit) : Option (List (List Int)) :=
 if List.length a0 ≤ lim ∧ List.all a0 (fun x => decide (List.length x ≤ lim)) = true then some (sortL cmpL a0) else none
def impl_LinearSolutions_L8 : Nat → ((Int × Int × (List (List Int))) × Int × (Bool × Int × Int × (List (List Int)) × Int × (List Int)) × Int × (List (List Int)) × Int) → Option ((List (List Int)))
 | 0, _ => none
 | n + 1, (l, many, e, free, list, i) =>
  if decide (i < many) then
   (impl_argsAt i free l.1).bind fun r4 =>
    (impl_eliminated_solution_p e r4).bind fun r5 =>
     if list.length + [r5].length ≤ lim then
      impl_LinearSolutions_L8 n ((l.1, (l.2.1, l.2.2)), many, e, free, list ++ [r5], w64 (i + 1))
     else none
  else
   some list
def impl_LinearSolutions (l : Int × Int × (List (List Int))) : Option ((List (List Int)) × Bool) :=
 (impl_CountLinear (l.1, (l.2.1, l.2.2))).bind fun r1 =>
  if !r1.2 then
   some ([], false)
  else
   if decide (r1.1 > 600) then
    some ([], false)
   else
    (impl_eliminateLinear (l.1, (l.2.1, l.2.2))).bind fun r2 =>
     (impl_eliminated_freeVars_p r2).bind fun r3 =>
      (impl_LinearSolutions_L8 fuel ((l.1, (l.2.1, l.2.2)), r1.1, r2, (r3.length : Int), [], 0)).bind fun s4 =>
       (impl_sortRows_impl_compareLists s4 ()).bind fun r5 =>
        some (r5, true)
end T
open Go Go.Va
namespace T
section
variable {p : Int} {W N V : Nat}
def coG (p : Int) (s : ES) (u : Nat) (f : Int) : Int := if posL s.2.1 u < 0 then (if f = (u : Int) then 1 else 0) else p - (s.1.getD (posL s.2.1 u).toNat []).getD f.toNat 0
def sumG (p : Int) (V : Nat) (s : ES) (F x : List Int) (u : Nat) : Nat → Int
 | 0 => solV V s u
 | k + 1 => sumG p V s F x u k + coG p s u (F.getD k 0) * x.getD k 0
def vecG (p : Int) (V : Nat) (s : ES) (F x : List Int) (k : Nat) : List Int := (List.range V).map fun u => sumG p V s F x u k % p
structure GenOk (p : Int) (W N V : Nat) (s : ES) (F x : List Int) : Prop where
 hp : pr4 p
 hs : ESok p W N V s
 hV : V < W
 hW : W ≤ 1000
 hN : N ≤ 100000
 hF : F = freeL V s.2.1
 hx : x.length = F.length
 xb : ∀ v ∈ x, 0 ≤ v ∧ v < p
variable {s : ES} {F x : List Int}
theorem GenOk.fl (g : GenOk p W N V s F x) : F.length ≤ V := by rw [g.hF]; exact freeL_le
theorem GenOk.fm (g : GenOk p W N V s F x) (k : Nat) (hk : k < F.length) : ∃ u : Nat, u < V ∧ F[k] = (u : Int) ∧ (u : Int) ∉ s.2.1 := by
 have h : F[k] ∈ freeL V s.2.1 := by rw [← g.hF]; exact List.getElem_mem hk
 unfold freeL at h
 obtain ⟨u, hu, e⟩ := List.mem_map.1 h
 rw [List.mem_filter] at hu
 exact ⟨u, List.mem_range.1 hu.1, e.symm, by simpa using hu.2⟩
theorem GenOk.xv (g : GenOk p W N V s F x) (k : Nat) (hk : k < F.length) : 0 ≤ x.getD k 0 ∧ x.getD k 0 < p := by
 have : k < x.length := by rw [g.hx]; exact hk
 rw [getD_of this]; exact g.xb _ (List.getElem_mem this)
theorem GenOk.pb (g : GenOk p W N V s F x) : 2 ≤ p ∧ p ≤ 7 := by have := g.hp; unfold pr4 at this; omega
theorem GenOk.row (g : GenOk p W N V s F x) {u : Nat} (hu : ¬ posL s.2.1 u < 0) : (posL s.2.1 u).toNat < s.1.length ∧ okRow p W (s.1.getD (posL s.2.1 u).toNat []) := by
 have hm : (u : Int) ∈ s.2.1 := by
  rcases Decidable.em ((u : Int) ∈ s.2.1) with h | h
  ·exact h
  ·exact absurd (posL_neg.2 h) hu
 obtain ⟨i, hi, g1, _⟩ := posL_at hm
 rw [g1, Int.toNat_natCast]
 have := g.hs.bl
 exact ⟨by omega, by rw [getD_of (by omega)]; exact g.hs.t _ (List.getElem_mem _)⟩
theorem GenOk.base (g : GenOk p W N V s F x) (u : Nat) : 0 ≤ solV V s u ∧ solV V s u < p := by
 have := g.pb
 unfold solV
 split
 ·omega
 ·rename_i h
  exact ok_get (g.row h).2 g.hV
theorem GenOk.co (g : GenOk p W N V s F x) (u : Nat) {k : Nat} (hk : k < F.length) : 0 ≤ coG p s u (F.getD k 0) ∧ coG p s u (F.getD k 0) ≤ 7 := by
 have := g.pb
 unfold coG
 split
 ·split <;> omega
 ·rename_i h
  obtain ⟨f, hf, e, _⟩ := g.fm k hk
  rw [getD_of hk, e, Int.toNat_natCast]
  have := ok_get (g.row h).2 (show f < W by have := g.hV; omega)
  omega
theorem GenOk.bound (g : GenOk p W N V s F x) (u : Nat) : ∀ k, k ≤ F.length → 0 ≤ sumG p V s F x u k ∧ sumG p V s F x u k ≤ 7 + 49 * k
 | 0, _ => by have := g.base u; have := g.pb; simp only [sumG]; omega
 | k + 1, hk => by
  have ih := g.bound u k (by omega)
  have h1 := g.co u (k := k) (by omega)
  have h2 := g.xv k (by omega)
  have := g.pb
  have h3 : 0 ≤ coG p s u (F.getD k 0) * x.getD k 0 := Int.mul_nonneg h1.1 h2.1
  have h4 : coG p s u (F.getD k 0) * x.getD k 0 ≤ 7 * 7 := Int.mul_le_mul h1.2 (by omega) h2.1 (by omega)
  simp only [sumG]
  omega
theorem GenOk.free (g : GenOk p W N V s F x) {u j : Nat} (hj : j < F.length) (hu : F[j] = (u : Int)) : ∀ k, k ≤ F.length → sumG p V s F x u k = if j < k then x.getD j 0 else 0
 | 0, _ => by
  obtain ⟨u', _, e, hn⟩ := g.fm j hj
  have : u' = u := by omega
  subst this
  simp only [sumG, solV]
  rw [if_pos (posL_neg.2 hn)]; simp
 | k + 1, hk => by
  have ih := g.free hj hu k (by omega)
  obtain ⟨u', _, e, hn⟩ := g.fm j hj
  have : u' = u := by omega
  subst this
  have hnd : F.Nodup := by
   rw [g.hF]; unfold freeL
   refine List.Pairwise.map _ ?_ (List.nodup_range.filter _)
   intro a b hab h; exact hab (by omega)
  simp only [sumG, ih, coG]
  rw [if_pos (posL_neg.2 hn), getD_of (show k < F.length by omega)]
  by_cases hkj : k = j
  ·subst hkj
   rw [if_pos hu, if_neg (by omega), if_pos (by omega)]; omega
  ·have : F[k] ≠ (u' : Int) := fun h => hkj ((List.getElem_inj hnd).1 (h.trans hu.symm))
   rw [if_neg this]
   by_cases c : j < k
   ·rw [if_pos c, if_pos (by omega)]; omega
   ·rw [if_neg c, if_neg (by omega)]; omega
theorem vec_len {k : Nat} : (vecG p V s F x k).length = V := by simp [vecG]
theorem vec_get {k u : Nat} (hu : u < V) : (vecG p V s F x k).getD u 0 = sumG p V s F x u k % p := by rw [getD_of (by rw [vec_len]; exact hu)]; simp [vecG]
end
end T
open Go Go.Va
namespace T
section
variable {p : Int} {W N V : Nat} {s : ES} {F x : List Int}
theorem spec_less_gen (hp : pr4 p) (hV : V ≤ 1000) {r o : List Int} (hr : okRow p V r) (ho : okRow p V o) {c : Int} (hc : 0 ≤ c ∧ c ≤ p) : spec_l21Less p r o c = some ((List.range V).map fun i => Int.tmod (r.getD i 0 + (p - c) * o.getD i 0) p) := by
 unfold spec_l21Less
 have hlr := hr.1
 have hlo := ho.1
 have hp0 : p ≠ 0 := by unfold pr4 at hp; omega
 have hpb : 2 ≤ p ∧ p ≤ 7 := by unfold pr4 at hp; omega
 have := forS r.length (fun f q i => spec_l21Less_L3 f (p, r, o, c, q, i)) (fun j => (List.range j).map fun i => Int.tmod (r.getD i 0 + (p - c) * o.getD i 0) p) (r := some ((List.range V).map fun i => Int.tmod (r.getD i 0 + (p - c) * o.getD i 0) p)) (fun f j hj => ?_) (fun f => ?_) (n := fuel) (by unfold fuel; omega)
 ·have this : spec_l21Less_L3 fuel (p, r, o, c, [], 0) = _ := this
  rw [this]; rfl
 ·have e : (List.range (j + 1)).map (fun i => Int.tmod (r.getD i 0 + (p - c) * o.getD i 0) p) = (List.range j).map (fun i => Int.tmod (r.getD i 0 + (p - c) * o.getD i 0) p) ++ [Int.tmod (r.getD j 0 + (p - c) * o.getD j 0) p] := by rw [List.range_succ, List.map_append]; rfl
  have hjo : j < o.length := by omega
  have h1 := ok_get hr (i := j) (by omega)
  have h2 := ok_get ho (i := j) (by omega)
  have h3 : 0 ≤ (p - c) * o.getD j 0 := Int.mul_nonneg (by omega) h2.1
  have h4 : (p - c) * o.getD j 0 ≤ 7 * 7 := Int.mul_le_mul (by omega) (by omega) h2.1 (by omega)
  simp only [spec_l21Less_L3, inb_nat, hj, hjo, gd_D, w64_small (x := p - c) (by omega) (by omega), w64_small (x := (p - c) * o.getD j 0) (by omega) (by omega), w64_small (x := r.getD j 0 + (p - c) * o.getD j 0) (by omega) (by omega), e, if_true, w64_succ (show j < 4611686018427387904 by omega)]
  rw [if_pos (by simp; omega), if_pos hp0, if_pos (by simp; unfold lim; omega)]
 ·simp only [spec_l21Less_L3]
  rw [if_neg (by simp), hlr]
theorem vec_ok (hp : 2 ≤ p) (k : Nat) : okRow p V (vecG p V s F x k) := by
 refine ⟨vec_len, fun v hv => ?_⟩
 unfold vecG at hv
 obtain ⟨u, _, rfl⟩ := List.mem_map.1 hv
 exact ⟨Int.emod_nonneg _ (by omega), Int.emod_lt_of_pos _ (by omega)⟩
theorem GenOk.ker (g : GenOk p W N V s F x) {k f u : Nat} (hk : k < F.length) (hf : F[k] = (f : Int)) : kerU p s f u = coG p s u (F.getD k 0) % p := by
 have := g.pb
 rw [getD_of hk, hf]
 unfold kerU coG
 split
 ·by_cases h : u = f
  ·rw [if_pos h, if_pos (by omega), Int.emod_eq_of_lt (by omega) (by omega)]
  ·rw [if_neg h, if_neg (by omega)]; rfl
 ·rename_i h
  rw [Int.toNat_natCast]
  obtain ⟨f', hf', e, _⟩ := g.fm k hk
  have h3 := ok_get (g.row h).2 (show f < W by have := g.hV; omega)
  rw [Int.tmod_eq_emod_of_nonneg (by omega)]
theorem GenOk.step (g : GenOk p W N V s F x) {k f : Nat} (hk : k < F.length) (hf : F[k] = (f : Int)) : spec_l21Less p (vecG p V s F x k) (kerL p V s f) (p - x.getD k 0) = some (vecG p V s F x (k + 1)) := by
 have hb := g.pb
 have hx := g.xv k hk
 have hko : okRow p V (kerL p V s f) := by
  refine ⟨by simp [kerL], fun v hv => ?_⟩
  unfold kerL at hv
  obtain ⟨u, _, rfl⟩ := List.mem_map.1 hv
  rw [g.ker hk hf]
  exact ⟨Int.emod_nonneg _ (by omega), Int.emod_lt_of_pos _ (by omega)⟩
 rw [spec_less_gen g.hp (by have := g.hV; have := g.hW; omega) (vec_ok hb.1 k) hko (by omega)]
 congr 1
 unfold vecG
 refine List.map_congr_left fun u hu => ?_
 have hu := List.mem_range.1 hu
 have e1 : (kerL p V s f).getD u 0 = kerU p s f u := by rw [getD_of (by simp [kerL]; exact hu)]; simp [kerL]
 have e2 := vec_get (p := p) (s := s) (F := F) (x := x) (k := k) hu
 unfold vecG at e2
 rw [e2, e1, g.ker hk hf, show p - (p - x.getD k 0) = x.getD k 0 by omega]
 have h1 := g.bound u k (by omega)
 have h2 := g.co u hk
 have h3 : 0 ≤ sumG p V s F x u k % p := Int.emod_nonneg _ (by omega)
 have h4 : 0 ≤ coG p s u (F.getD k 0) % p := Int.emod_nonneg _ (by omega)
 have h5 : 0 ≤ x.getD k 0 * (coG p s u (F.getD k 0) % p) := Int.mul_nonneg hx.1 h4
 rw [Int.tmod_eq_emod_of_nonneg (by omega)]
 simp only [sumG]
 rw [Int.emod_add_emod, Int.add_emod, Int.mul_emod, Int.emod_emod, ← Int.mul_emod, ← Int.add_emod, Int.mul_comm]
theorem GenOk.zero (g : GenOk p W N V s F x) : vecG p V s F x 0 = solL V s := by
 unfold vecG solL
 refine List.map_congr_left fun u _ => ?_
 have := g.base u
 simp only [sumG]
 exact Int.emod_eq_of_lt this.1 this.2
theorem GenOk.L12 (g : GenOk p W N V s F x) (l : Int × Int × (List (List Int))) (hl : l.1 = p) (out : List (List Int)) (n : Int) (first : List Int) (some_ : Bool) (at_ : Int) :
    spec_LinearSolutions_L12 fuel (l, out, n, first, some_, kerLs p V s, at_, solL V s, x, 0) = some (l, out, n, first, some_, kerLs p V s, at_, vecG p V s F x F.length) := by
  have hb := g.pb
  have hlen : (kerLs p V s).length = F.length := by unfold kerLs; rw [List.length_map, g.hF]
  have hFV := g.fl
  have := forS F.length (fun m o i => spec_LinearSolutions_L12 m (l, out, n, first, some_, kerLs p V s, at_, o, x, i)) (fun k => vecG p V s F x k) (r := some (l, out, n, first, some_, kerLs p V s, at_, vecG p V s F x F.length)) (fun m k hk => ?_) (fun m => ?_) (n := fuel) (by have := g.hV; have := g.hW; unfold fuel; omega)
  · rw [g.zero] at this; exact this
  · obtain ⟨f, hf, e, _⟩ := g.fm k hk
    have hkl : k < (kerLs p V s).length := by rw [hlen]; exact hk
    have hkx : k < x.length := by rw [g.hx]; exact hk
    have hx := g.xv k hk
    have hkr : (kerLs p V s).getD k [] = kerL p V s f := by
      unfold kerLs; rw [← g.hF, getD_of (by simpa using hk), List.getElem_map, e, Int.toNat_natCast]
    have hst := g.step hk e
    simp only [spec_LinearSolutions_L12, inb_nat, hkl, hkx, gd_D, hkr, hl, w64_small (x := p - x.getD k 0) (by omega) (by omega), hst, Option.bind_some, if_true, w64_succ (show k < 4611686018427387904 by have := g.hV; have := g.hW; omega)]
    rw [if_pos (by simp [hlen]; omega), ← hl]
  · simp only [spec_LinearSolutions_L12]
    rw [if_neg (by simp [hlen])]
end
end T
open Go Go.Va
namespace T
section
variable {p : Int} {W N V : Nat} {s : ES} {F x : List Int}
def freG (p : Int) (V : Nat) (s : ES) (F x : List Int) (k : Nat) (u : Nat) : Int := if posL s.2.1 u < 0 then sumG p V s F x u k else 0
theorem GenOk.fre (g : GenOk p W N V s F x) {k f : Nat} (hk : k < F.length) (hf : F[k] = (f : Int)) : ((List.range V).map (freG p V s F x k)).set f (x.getD k 0) = (List.range V).map (freG p V s F x (k + 1)) := by
 obtain ⟨f', hf', e, hn⟩ := g.fm k hk
 have : f' = f := by omega
 subst this
 apply List.ext_getElem
 ·simp
 ·intro u h1 h2
  simp at h2
  rw [List.getElem_set]
  simp only [List.getElem_map, List.getElem_range]
  by_cases c : f' = u
  ·subst c
   rw [if_pos rfl]
   unfold freG
   rw [if_pos (posL_neg.2 hn), g.free hk hf (k + 1) (by omega), if_pos (by omega)]
  ·rw [if_neg c]
   unfold freG
   split
   ·rename_i hq
    simp only [sumG, coG]
    rw [if_pos hq, getD_of hk, hf, if_neg (by omega)]; omega
   ·rfl
theorem GenOk.sol (g : GenOk p W N V s F x) : impl_eliminated_solution_p (keptE p V s) x = some (vecG p V s F x F.length) := by
 have hp0 : p ≠ 0 := by have := g.pb; omega
 have hpb := g.pb
 have hV := g.hV
 have hN := g.hN
 have hW := g.hW
 have hFl := g.fl
 have hsb := g.hs.bl
 have hsn := g.hs.n
 generalize hE : keptE p V s = E
 have h1 : E.1 = true := by rw [← hE]; rfl
 have h2 : E.2.1 = p := by rw [← hE]; rfl
 have h3 : E.2.2.1 = (V : Int) := by rw [← hE]; rfl
 have h4 : E.2.2.2.1 = s.1 ++ s.2.2 := by rw [← hE]; rfl
 have h5 : E.2.2.2.2.2 = barr V s.2.1 := by rw [← hE]; rfl
 have hfr : impl_eliminated_freeVars_p E = some F := by rw [← hE, g.hF]; exact freeVars_ok (by omega)
 have l4 := forS F.length (fun f (o : List Int) i => impl_eliminated_solution_p_L4 f ((), E, x, o, F, (F.length : Int), i)) (fun k => (List.range V).map (freG p V s F x k)) (r := some (E, x, (List.range V).map (freG p V s F x F.length), F)) (fun f k hk => by
  obtain ⟨u, hu, e, _⟩ := g.fm k hk
  have hkx : k < x.length := by rw [g.hx]; exact hk
  have hu2 : u < ((List.range V).map (freG p V s F x k)).length := by simpa using hu
  simp only [impl_eliminated_solution_p_L4, inb_nat, hk, gd_nat hk, e, hkx, hu2, gd_D, stt_nat, g.fre hk e, if_true, w64_succ (show k < 4611686018427387904 by omega)]
  rw [if_pos (by simp; omega)]) (fun f => by
  simp only [impl_eliminated_solution_p_L4]
  rw [if_neg (by simp)]) (n := fuel) (by unfold fuel; omega)
 have e0 : (List.range V).map (freG p V s F x 0) = List.replicate V (0 : Int) := by
  apply List.ext_getElem
  ·simp
  ·intro u _ _
   simp only [List.getElem_map, List.getElem_range, List.getElem_replicate, freG, sumG, solV]
   split <;> rfl
 rw [e0] at l4
 have l14 : ∀ (out : List Int) (v : Nat), ¬ posL s.2.1 v < 0 → ∀ i : Nat, posL s.2.1 v = (i : Int) → impl_eliminated_solution_p_L14 fuel ((), E, x, out, F, (v : Int), (i : Int), solV V s v, barr V s.2.1, (V : Int), (v : Int), (F.length : Int), 0) = some (E, x, out, F, (v : Int), sumG p V s F x v F.length, barr V s.2.1, (V : Int), (v : Int)) := by
  intro out v hq i hi
  have hrow := g.row hq
  rw [hi, Int.toNat_natCast] at hrow
  refine forS F.length (fun f (y : Int) j => impl_eliminated_solution_p_L14 f ((), E, x, out, F, (v : Int), (i : Int), y, barr V s.2.1, (V : Int), (v : Int), (F.length : Int), j)) (fun k => sumG p V s F x v k) (r := some (E, x, out, F, (v : Int), sumG p V s F x v F.length, barr V s.2.1, (V : Int), (v : Int))) (fun f k hk => ?_) (fun f => ?_) (n := fuel) (by unfold fuel; omega)
  ·obtain ⟨u, hu, e, _⟩ := g.fm k hk
   have hkx : k < x.length := by rw [g.hx]; exact hk
   have hil : i < (s.1 ++ s.2.2).length := by rw [List.length_append]; omega
   have hr1 := hrow.1
   have hg : (s.1 ++ s.2.2).getD i [] = s.1.getD i [] := by rw [getD_of hil, List.getElem_append_left hr1, getD_of hr1]
   have hul : u < (s.1.getD i []).length := by rw [hrow.2.1]; omega
   have hro := ok_get hrow.2 (show u < W by omega)
   have hc : coG p s v (F.getD k 0) = p - (s.1.getD i []).getD u 0 := by unfold coG; rw [if_neg hq, hi, Int.toNat_natCast, getD_of hk, e, Int.toNat_natCast]
   have hb := g.bound v (k + 1) (by omega)
   have hb0 := g.bound v k (by omega)
   have hx := g.xv k hk
   have hxg : gd x (k : Int) 0 = x.getD k 0 := gd_D
   have h7 : 0 ≤ (p - (s.1.getD i []).getD u 0) * x.getD k 0 := Int.mul_nonneg (by omega) hx.1
   simp only [sumG, hc] at hb
   simp only [impl_eliminated_solution_p_L14, inb_nat, hk, gd_nat hk, e, h1, h2, h4, hil, hg, hul, hkx, gd_D, if_true, w64_succ (show k < 4611686018427387904 by omega), w64_small (x := p - (s.1.getD i []).getD u 0) (by omega) (by omega), w64_small (x := (p - (s.1.getD i []).getD u 0) * x.getD k 0) (by omega) (by omega), w64_small (x := sumG p V s F x v k + (p - (s.1.getD i []).getD u 0) * x.getD k 0) (by omega) (by omega)]
   rw [if_pos (by simp; omega)]
   simp only [sumG, hc]
  ·simp only [impl_eliminated_solution_p_L14]
   rw [if_neg (by simp)]
 have l9 := forS V (fun f (o : List Int) i => impl_eliminated_solution_p_L9 f (E, x, o, F, barr V s.2.1, (V : Int), i)) (fun v => mix (fun u => sumG p V s F x u F.length % p) (freG p V s F x F.length) V v) (r := some (vecG p V s F x F.length)) (fun f v hv => ?_) (fun f => ?_) (n := fuel) (by unfold fuel; omega)
 ·have e1 : mix (fun u => sumG p V s F x u F.length % p) (freG p V s F x F.length) V 0 = (List.range V).map (freG p V s F x F.length) := by
   unfold mix; simp
  rw [e1] at l9
  have l9 : impl_eliminated_solution_p_L9 fuel (E, x, (List.range V).map (freG p V s F x F.length), F, barr V s.2.1, (V : Int), 0) = _ := l9
  have l4 : impl_eliminated_solution_p_L4 fuel ((), E, x, List.replicate V (0 : Int), F, (F.length : Int), 0) = _ := l4
  unfold impl_eliminated_solution_p
  rw [if_pos h1, h3, if_pos (by unfold lim; omega), hfr]
  simp only [Option.bind_some, Int.toNat_natCast, l4]
  rw [if_pos h1, h5, barr_len, l9]; rfl
 ·have hvl : v < (barr V s.2.1).length := by rw [barr_len]; exact hv
  simp only [impl_eliminated_solution_p_L9, inb_nat, hvl, gd_D, barr_get hv, h1, h3, h4, if_true]
  rw [if_pos (by simp; omega)]
  by_cases hq : posL s.2.1 v < 0
  ·have hsm : sumG p V s F x v F.length % p = freG p V s F x F.length v := by
    unfold freG
    rw [if_pos hq]
    have hm : (v : Int) ∈ F := by
     rw [g.hF]; unfold freeL
     exact List.mem_map.2 ⟨v, List.mem_filter.2 ⟨List.mem_range.2 hv, by simpa using posL_neg.1 hq⟩, rfl⟩
    obtain ⟨j, hj, hjv⟩ := List.mem_iff_getElem.1 hm
    rw [g.free hj hjv F.length (Nat.le_refl _), if_pos hj]
    have := g.xv j hj
    exact Int.emod_eq_of_lt this.1 this.2
   rw [if_pos (by rw [decide_eq_true_iff]; exact hq), mix_same hv hsm, w64_succ (show v < 4611686018427387904 by omega)]
  ·obtain ⟨i, hi⟩ : ∃ i : Nat, posL s.2.1 v = (i : Int) := ⟨(posL s.2.1 v).toNat, by omega⟩
   have hrow := g.row hq
   rw [hi, Int.toNat_natCast] at hrow
   have hil : i < (s.1 ++ s.2.2).length := by rw [List.length_append]; omega
   have hr1 := hrow.1
   have hg : (s.1 ++ s.2.2).getD i [] = s.1.getD i [] := by rw [getD_of hil, List.getElem_append_left hr1, getD_of hr1]
   have hVl : V < (s.1.getD i []).length := by rw [hrow.2.1]; exact hV
   have hml : v < (mix (fun u => sumG p V s F x u F.length % p) (freG p V s F x F.length) V v).length := by rw [mix_len]; exact hv
   have hsv : solV V s v = (s.1.getD i []).getD V 0 := by unfold solV; rw [if_neg hq, hi, Int.toNat_natCast]
   have hst := mix_set (nw := fun u => sumG p V s F x u F.length % p) (old := freG p V s F x F.length) hv
   have hl := l14 (mix (fun u => sumG p V s F x u F.length % p) (freG p V s F x F.length) V v) v hq i hi
   rw [hsv] at hl
   have hb := g.bound v F.length (Nat.le_refl _)
   rw [hi, if_neg (by simp)]
   simp only [inb_nat, hil, hg, gd_D, hVl, if_true, barr_len]
   rw [hl]
   simp only [Option.bind_some, h1, h2, inb_nat, hml, if_true, stt_nat, w64_succ (show v < 4611686018427387904 by omega)]
   rw [if_pos hp0, Int.tmod_eq_emod_of_nonneg hb.1, hst]
 ·simp only [impl_eliminated_solution_p_L9, mix_full]
  rw [if_neg (by simp)]; rfl
end
end T
open Go Go.Va
namespace T
section
variable {a : Lin} {p : Int} {W N V : Nat} {s : ES} {F : List Int}
theorem dg_inj {b : Nat} (hb : 0 < b) : ∀ {k i j : Nat}, i < b ^ k → j < b ^ k → dg b k i = dg b k j → i = j
 | 0, i, j, hi, hj, _ => by simp at hi hj; omega
 | k + 1, i, j, hi, hj, h => by
  simp only [dg] at h
  have h1 := List.append_inj' h rfl
  have h2 : i % b = j % b := by simpa using h1.2
  have hi' : i / b < b ^ k := Nat.div_lt_of_lt_mul (by rw [Nat.mul_comm, ← Nat.pow_succ]; exact hi)
  have hj' : j / b < b ^ k := Nat.div_lt_of_lt_mul (by rw [Nat.mul_comm, ← Nat.pow_succ]; exact hj)
  have h3 := dg_inj hb hi' hj' h1.1
  have e1 := Nat.div_add_mod i b
  have e2 := Nat.div_add_mod j b
  rw [h3, h2] at e1
  omega
def solI (p : Int) (V : Nat) (s : ES) (F : List Int) (i : Nat) : List Int := vecG p V s F (cI (dg p.toNat F.length i)) F.length
theorem gen_of (hp : pr4 p) (hs : ESok p W N V s) (hV : V < W) (hW : W ≤ 1000) (hN : N ≤ 100000) (hF : F = freeL V s.2.1) (i : Nat) : GenOk p W N V s F (cI (dg p.toNat F.length i)) := by
 have hpb : 2 ≤ p ∧ p ≤ 7 := by unfold pr4 at hp; omega
 refine ⟨hp, hs, hV, hW, hN, hF, by rw [cI_len, dg_len], fun v hv => ?_⟩
 unfold cI at hv
 obtain ⟨y, hy, rfl⟩ := List.mem_map.1 hv
 have := dg_lt (b := p.toNat) (by omega) y hy
 omega
theorem sol_inj (hp : pr4 p) (hs : ESok p W N V s) (hV : V < W) (hW : W ≤ 1000) (hN : N ≤ 100000) (hF : F = freeL V s.2.1) {i j : Nat} (hi : i < p.toNat ^ F.length) (hj : j < p.toNat ^ F.length) (h : solI p V s F i = solI p V s F j) : i = j := by
 have hpb : 2 ≤ p ∧ p ≤ 7 := by unfold pr4 at hp; omega
 have g1 := gen_of hp hs hV hW hN hF i
 have g2 := gen_of hp hs hV hW hN hF j
 refine dg_inj (b := p.toNat) (by omega) hi hj (cI_inj ?_)
 apply List.ext_getElem
 ·rw [cI_len, cI_len, dg_len, dg_len]
 ·intro k h1 h2
  have hk : k < F.length := by rw [cI_len, dg_len] at h1; exact h1
  obtain ⟨u, hu, e, _⟩ := g1.fm k hk
  have q : (solI p V s F i).getD u 0 = (solI p V s F j).getD u 0 := by rw [h]
  unfold solI at q
  rw [vec_get hu, vec_get hu, g1.free hk e F.length (Nat.le_refl _), g2.free hk e F.length (Nat.le_refl _), if_pos hk, if_pos hk] at q
  have x1 := g1.xv k hk
  have x2 := g2.xv k hk
  rw [Int.emod_eq_of_lt x1.1 x1.2, Int.emod_eq_of_lt x2.1 x2.2, getD_of h1, getD_of h2] at q
  exact q
theorem Count_val (h : linS a) : impl_CountLinear a = some (if goodB a then (if failB a.2.1.toNat (elimF a.1 a.2.2 a.2.1.toNat) then 0 else a.1 ^ (freeL a.2.1.toNat (elimF a.1 a.2.2 a.2.1.toNat).2.1).length, true) else (0, false)) := by
 obtain ⟨p, v, rows⟩ := a
 unfold impl_CountLinear
 rw [impl_IsLinear_ok h]
 cases hg : goodB (p, v, rows) with
 | false => rfl
 | true =>
  obtain ⟨hp, V, hv, hV, hN, hr⟩ := lin_of hg
  dsimp only at hp hv hN hr
  subst hv
  have hs := elimF_ok hp hr V (by omega)
  unfold impl_eliminateLinear
  have e1 := elim_kept hp (show V ≤ V + 1 by omega) (by omega) hr (by omega)
  simp only [e1, Option.bind_some, Bool.not_true, Bool.false_eq_true, if_false, if_true, Int.toNat_natCast]
  generalize elimF p rows V = s at hs
  have e4 := fails_ok hs (by omega) (by omega)
  have e6 := freeVars_ok (p := p) (V := V) (s := s) (by omega)
  have hpb : 2 ≤ p ∧ p ≤ 7 := by unfold pr4 at hp; omega
  have hfl : (freeL V s.2.1).length ≤ V := freeL_le
  simp only [e4, Option.bind_some]
  cases failB V s with
  | true => rfl
  | false =>
   simp only [Bool.false_eq_true, if_false, e6, Option.bind_some, impl_power_ok (show 0 ≤ p by omega) (show p ≤ 8 by omega) (show (freeL V s.2.1).length ≤ 20 by omega)]
end
end T
open Go Go.Va
namespace T
section
variable {a : Lin} {p : Int} {W N V : Nat} {s : ES} {F : List Int}
theorem sortL_perm (l : List (List Int)) : (sortL cmpL l).Perm l := List.mergeSort_perm l _
theorem incB_sortL {l : List (List Int)} (hn : l.Nodup) : incB (sortL cmpL l) = true := by
 rw [incB_pair]
 have hs : (sortL cmpL l).Pairwise fun x y => (!decide (cmpL y x < 0)) = true := by
  unfold sortL
  refine List.pairwise_mergeSort (fun a b c h1 h2 => ?_) (fun a b => ?_) l
  ·simp only [Bool.not_eq_true', decide_eq_false_iff_not] at *
   intro h3
   have q1 := cmpL_symm a b
   have q2 := cmpL_symm b c
   by_cases e : cmpL a b = 0
   ·rw [cmpL_eq.1 e] at h3; exact h2 h3
   ·exact h2 (cmpL_trans h3 (by omega))
  ·simp only [Bool.or_eq_true, Bool.not_eq_true', decide_eq_false_iff_not]
   have q1 := cmpL_symm a b
   omega
 have hn' : (sortL cmpL l).Nodup := (sortL_perm l).nodup_iff.2 hn
 refine (hs.and hn').imp ?_
 intro x y h
 obtain ⟨h1, h2⟩ := h
 simp only [Bool.not_eq_true', decide_eq_false_iff_not] at h1
 have q1 := cmpL_symm x y
 have q2 : cmpL x y ≠ 0 := fun e => h2 (cmpL_eq.1 e)
 omega
theorem put_sort {l : List (List Int)} {t : List Int} {k : Nat} (hl : l.length ≤ 1000000) (hk : k ≤ 1000000) (hv : ∀ u ∈ l, u.length = k) (ht : t.length = k) (hn : l.Nodup) (hm : t ∉ l) : spec_l8Put (sortL cmpL l) t = some (sortL cmpL (l ++ [t])) := by
 have hp := sortL_perm l
 obtain ⟨out, e, h1, _, h3⟩ := spec_l8Put_ok (list := sortL cmpL l) (t := t) (k := k) (by rw [hp.length_eq]; exact hl) hk (fun u hu => hv u (hp.mem_iff.1 hu)) ht (incB_sortL hn)
 rw [e]
 have h4 := h3 (fun h => hm (hp.mem_iff.1 h))
 rw [sortL_of h1 (h4.trans ((List.Perm.cons t hp).trans (List.perm_append_comm (l₁ := [t]))))]
theorem sol_len (i : Nat) : (solI p V s F i).length = V := vec_len
theorem impl_loop (hp : pr4 p) (hs : ESok p W N V s) (hV : V < W) (hW : W ≤ 1000) (hN : N ≤ 100000) (hF : F = freeL V s.2.1) (l : Lin) (hl : l.1 = p) {M : Nat} (hM : M ≤ 600) :
    impl_LinearSolutions_L8 fuel (l, (M : Int), keptE p V s, (F.length : Int), [], 0) = some ((List.range M).map (solI p V s F)) := by
  have hpb : 2 ≤ p ∧ p ≤ 7 := by unfold pr4 at hp; omega
  have hFV : F.length ≤ V := by rw [hF]; exact freeL_le
  have := forS M (fun m o i => impl_LinearSolutions_L8 m (l, (M : Int), keptE p V s, (F.length : Int), o, i)) (fun k => (List.range k).map (solI p V s F)) (r := some ((List.range M).map (solI p V s F))) (fun m k hk => ?_) (fun m => ?_) (n := fuel) (by unfold fuel; omega)
  · exact this
  · have g := gen_of hp hs hV hW hN hF k
    have h1 := impl_argsAt_ok (b := p.toNat) (k := F.length) (i := k) (by omega) (by omega) (by omega)
    rw [show ((p.toNat : Nat) : Int) = p by omega] at h1
    simp only [impl_LinearSolutions_L8, hl, h1, g.sol, Option.bind_some, List.range_succ, List.map_append, List.map_cons, List.map_nil, w64_succ (show k < 4611686018427387904 by omega)]
    rw [if_pos (by simp; omega), if_pos (by simp; unfold lim; omega), ← hl]
    rfl
  · simp only [impl_LinearSolutions_L8]
    rw [if_neg (by simp)]
theorem spec_loop (hp : pr4 p) (hs : ESok p W N V s) (hV : V < W) (hW : W ≤ 1000) (hN : N ≤ 100000) (hF : F = freeL V s.2.1) (l : Lin) (hl : l.1 = p) {M : Nat} (hM : M ≤ 600) (hMp : M = p.toNat ^ F.length) :
    spec_LinearSolutions_L8 fuel (l, [], (M : Int), solL V s, true, kerLs p V s, 0) = some (sortL cmpL ((List.range M).map (solI p V s F))) := by
  have hpb : 2 ≤ p ∧ p ≤ 7 := by unfold pr4 at hp; omega
  have hFV : F.length ≤ V := by rw [hF]; exact freeL_le
  have hkl : (kerLs p V s).length = F.length := by unfold kerLs; rw [List.length_map, hF]
  have hnd : ∀ k, k ≤ M → ((List.range k).map (solI p V s F)).Nodup := fun k hk => by
    rw [List.nodup_iff_pairwise_ne, List.pairwise_map]
    refine (List.nodup_range (n := k)).imp_of_mem ?_
    intro i j hi hj hij e
    have hi := List.mem_range.1 hi
    have hj := List.mem_range.1 hj
    exact hij (sol_inj hp hs hV hW hN hF (by omega) (by omega) e)
  have := forS M (fun m o i => spec_LinearSolutions_L8 m (l, o, (M : Int), solL V s, true, kerLs p V s, i)) (fun k => sortL cmpL ((List.range k).map (solI p V s F))) (r := some (sortL cmpL ((List.range M).map (solI p V s F)))) (fun m k hk => ?_) (fun m => ?_) (n := fuel) (by unfold fuel; omega)
  · have e0 : sortL cmpL ((List.range 0).map (solI p V s F)) = [] := by simp [sortL]
    rw [e0] at this
    exact this
  · have g := gen_of hp hs hV hW hN hF k
    have h1 := spec_l2Args_ok (b := p.toNat) (k := F.length) (i := k) (by omega) (by omega) (by omega)
    rw [show ((p.toNat : Nat) : Int) = p by omega] at h1
    have h2 := spec_l1Own_ok (l := solL V s) (by simp [solL]; omega)
    have h3 := g.L12 l hl (sortL cmpL ((List.range k).map (solI p V s F))) (M : Int) (solL V s) true (k : Int)
    have h3' : spec_LinearSolutions_L12 fuel ((l.1, (l.2.1, l.2.2)), sortL cmpL ((List.range k).map (solI p V s F)), (M : Int), solL V s, true, kerLs p V s, (k : Int), solL V s, cI (dg p.toNat F.length k), 0) = _ := h3
    have h4 : spec_l8Put (sortL cmpL ((List.range k).map (solI p V s F))) (vecG p V s F (cI (dg p.toNat F.length k)) F.length) = some (sortL cmpL ((List.range (k + 1)).map (solI p V s F))) := by
      rw [List.range_succ, List.map_append]
      refine put_sort (k := V) (by simp; omega) (by omega) (fun u hu => ?_) vec_len (hnd k (by omega)) (fun h => ?_)
      · obtain ⟨i, _, rfl⟩ := List.mem_map.1 hu; exact sol_len i
      · obtain ⟨i, hi, e⟩ := List.mem_map.1 h
        have hi := List.mem_range.1 hi
        have := sol_inj (i := i) (j := k) hp hs hV hW hN hF (by omega) (by omega) e
        omega
    simp only [spec_LinearSolutions_L8, if_true, h2, hkl, hl, h1, Option.bind_some]
    rw [if_pos (by simp; omega)]
    rw [hl] at h3'
    rw [h3']
    simp only [Option.bind_some, h4, w64_succ (show k < 4611686018427387904 by omega)]
  · simp only [spec_LinearSolutions_L8]
    rw [if_neg (by simp)]
end
end T
open Go Go.Va
namespace T
section
variable {a : Nat} {ts : List (List Int)} {c : List Int} {q : Int}
def allO (ts : List (List Int)) (c : List Int) : Bool := ts.all fun t => c.any (litB t)
def wo (c : List Int) (k : Nat) : List Int := c.take k ++ c.drop (k + 1)
def pk (ts : List (List Int)) (c : List Int) (k : Nat) : Bool := allO ts c && (List.range k).all fun i => !allO ts (wo c i)
end
end T
open Go Go.Va
namespace T
section
variable {a : Nat} {ts : List (List Int)} {c : List Int} {q : Int}
def primes (T ts : List (List Int)) : List (List Int) := T.filter fun c => pk ts c c.length
end
end T
open Go Go.Va
namespace T
section
variable {p : Int} {V W N : Nat} {s : ES}
theorem bndL_take {b : List Int} : ∀ {v w : Nat}, v ≤ w → bndL v b = (bndL w b).take (bndL v b).length := by
  intro v w h
  induction w with
  | zero => have : v = 0 := by omega
            subst this; rw [List.take_length]
  | succ w ih =>
    by_cases e : v = w + 1
    · subst e; rw [List.take_length]
    · have h1 := ih (by omega)
      have h2 : (bndL v b).length ≤ (bndL w b).length := by
        have := congrArg List.length h1
        rw [List.length_take] at this; omega
      rw [bndL_succ, List.take_append_of_le_length h2]
      exact h1
theorem bndL_mem {b : List Int} {v : Nat} {x : Int} : x ∈ bndL v b ↔ x ∈ b ∧ ∃ u : Nat, u < v ∧ x = (u : Int) := by
 unfold bndL
 constructor
 ·intro h
  obtain ⟨u, hu, rfl⟩ := List.mem_map.1 h
  have := List.mem_filter.1 hu
  exact ⟨by simpa using this.2, u, List.mem_range.1 this.1, rfl⟩
 ·rintro ⟨h, u, hu, rfl⟩
  exact List.mem_map.2 ⟨u, List.mem_filter.2 ⟨List.mem_range.2 hu, by simpa using h⟩, rfl⟩
theorem inv_1 (hp : pr4 p) : invP p 1 = 1 := by
 have : ∀ q : Fin 8, (q.val = 2 ∨ q.val = 3 ∨ q.val = 5 ∨ q.val = 7) → invP (q.val : Int) 1 = 1 := by decide +kernel
 unfold pr4 at hp
 have := this ⟨p.toNat, by omega⟩ (by simp; omega)
 simpa [Int.toNat_of_nonneg (show 0 ≤ p by omega)] using this
theorem scale_1 {r : List Int} (h : okRow p W r) : scaleR p 1 r = r := by
 unfold scaleR
 apply List.ext_getElem
 ·simp
 ·intro i h1 h2
  rw [List.getElem_map, List.getElem_range, getD_of h2, Int.mul_one]
  have := h.2 _ (List.getElem_mem h2)
  exact Int.tmod_eq_of_lt this.1 this.2
theorem elim_again (hp : pr4 p) (hs : ESok p W N V s) (h : RR p V s) (hVW : V ≤ W) {Z : List (List Int)} (hZ : ∀ r ∈ Z, okRow p W r ∧ ∀ u, u < V → r.getD u 0 = 0) :
    ∀ v, v ≤ V → elimF p (s.1 ++ Z) v = (s.1.take (bndL v s.2.1).length, bndL v s.2.1, s.1.drop (bndL v s.2.1).length ++ Z) := by
  intro v
  induction v with
  | zero => intro _; simp [elimF, bndL]
  | succ v ih =>
    intro hv
    have hnx : elimF p (s.1 ++ Z) (v + 1) = elimS p (elimF p (s.1 ++ Z) v) v := by unfold elimF; rw [range_fold]
    rw [hnx, ih (by omega)]
    have hbl := hs.bl
    have htk := bndL_take (b := s.2.1) (show v ≤ V by omega)
    rw [h.bnd] at htk
    obtain ⟨j, hj⟩ : ∃ j, j = (bndL v s.2.1).length := ⟨_, rfl⟩
    have hjb : j ≤ s.2.1.length := by have := congrArg List.length htk; rw [List.length_take] at this; omega
    have hzt : ∀ i, i < s.1.length → ∀ r, r = s.1.getD i [] → okRow p W r := fun i hi r e => by rw [e]; exact hs.t _ (getD_mem hi)
    by_cases hm : (v : Int) ∈ s.2.1
    ·
      have htk1 := bndL_take (b := s.2.1) hv
      rw [h.bnd] at htk1
      have e1 : bndL (v + 1) s.2.1 = bndL v s.2.1 ++ [(v : Int)] := by rw [bndL_succ, if_pos hm]
      have l1 : (bndL (v + 1) s.2.1).length = j + 1 := by rw [e1, List.length_append, ← hj]; rfl
      rw [l1] at htk1
      have hjlt : j < s.2.1.length := by
        have := congrArg List.length htk1
        rw [l1, List.length_take] at this; omega
      have hbj : s.2.1.getD j 0 = (v : Int) := by
        have h1 : (bndL (v + 1) s.2.1).getD j 0 = (v : Int) := by rw [e1, hj, getD_snoc]
        rw [htk1, List.getD_eq_getElem?_getD, List.getElem?_take_of_lt (by omega), ← List.getD_eq_getElem?_getD] at h1
        exact h1
      rw [← hj]
      have hj1 : j < s.1.length := by omega
      have hpj : ∀ i, i < s.1.length → (s.1.getD i []).getD v 0 = if i = j then 1 else 0 := fun i hi => by
        have := h.piv i hi j hj1
        rw [hbj, Int.toNat_natCast] at this; exact this
      obtain ⟨P, hP⟩ : ∃ P, P = s.1.getD j [] := ⟨_, rfl⟩
      have hPok := hzt j hj1 P hP
      have hP1 : P.getD v 0 = 1 := by rw [hP, hpj j hj1, if_pos rfl]
      have hdr : s.1.drop j ++ Z = P :: (s.1.drop (j + 1) ++ Z) := by
        rw [List.drop_eq_getElem_cons hj1, hP, getD_of hj1]; rfl
      have hfi : (s.1.drop j ++ Z).findIdx (nzB v) = 0 := by
        rw [hdr, List.findIdx_cons]
        have : nzB v P = true := by unfold nzB; rw [hP1]; rfl
        rw [this]; rfl
      have hsame : ∀ r, okRow p W r → r.getD v 0 = 0 → lessR p P v r = r := fun r hr h0 => less_zero hp hr hPok h0
      have hpv : pivR p (s.1.take j, bndL v s.2.1, s.1.drop j ++ Z) v = P := by
        unfold pivR
        dsimp only
        rw [hfi, hdr]
        show scaleR p (invP p (P.getD v 0)) P = P
        rw [hP1, inv_1 hp, scale_1 hPok]
      rw [elimS_pos (by dsimp only; rw [hfi, hdr]; simp), hpv]
      dsimp only
      rw [hfi, hdr, l1, e1]
      have m1 : (s.1.take j).map (lessR p P v) = s.1.take j := by
        rw [List.map_congr_left (g := id) fun r hr => ?_, List.map_id]
        obtain ⟨i, hi, rfl⟩ := List.mem_iff_getElem.1 hr
        rw [List.length_take] at hi
        rw [List.getElem_take]
        have := hpj i (by omega)
        rw [getD_of (show i < s.1.length by omega), if_neg (by omega)] at this
        exact hsame _ (hs.t _ (List.getElem_mem _)) this
      have m2 : ((P :: (s.1.drop (j + 1) ++ Z)).eraseIdx 0).map (lessR p P v) = s.1.drop (j + 1) ++ Z := by
        rw [List.eraseIdx_cons_zero, List.map_congr_left (g := id) fun r hr => ?_, List.map_id]
        rcases List.mem_append.1 hr with hr | hr
        · obtain ⟨i, hi, rfl⟩ := List.mem_iff_getElem.1 hr
          rw [List.length_drop] at hi
          rw [List.getElem_drop]
          have := hpj (j + 1 + i) (by omega)
          rw [getD_of (show j + 1 + i < s.1.length by omega), if_neg (by omega)] at this
          exact hsame _ (hs.t _ (List.getElem_mem _)) this
        · exact hsame r (hZ r hr).1 ((hZ r hr).2 v (by omega))
      rw [m1, m2]
      have m3 : s.1.take j ++ [P] = s.1.take (j + 1) := by rw [List.take_succ_eq_append_getElem hj1, hP, getD_of hj1]
      rw [m3]
    · have e1 : bndL (v + 1) s.2.1 = bndL v s.2.1 := by rw [bndL_succ, if_neg hm, List.append_nil]
      rw [e1, elimS_neg]
      dsimp only
      rw [← hj]
      have : (s.1.drop j ++ Z).findIdx (nzB v) = (s.1.drop j ++ Z).length := by
        rw [List.findIdx_eq_length]
        intro r hr
        unfold nzB
        rcases List.mem_append.1 hr with hr | hr
        · obtain ⟨i, hi, rfl⟩ := List.mem_iff_getElem.1 hr
          rw [List.length_drop] at hi
          rw [List.getElem_drop]
          have hji : j + i < s.2.1.length := by omega
          have hbm := List.getElem_mem hji
          have hb2 := hs.bv _ hbm
          have hnot : ¬ s.2.1[j + i] < (v : Int) := fun hlt => by
            have hin : s.2.1[j + i] ∈ bndL v s.2.1 := bndL_mem.2 ⟨hbm, s.2.1[j + i].toNat, by omega, by omega⟩
            rw [htk, ← hj] at hin
            obtain ⟨q, hq, e⟩ := List.mem_iff_getElem.1 hin
            rw [List.length_take] at hq
            rw [List.getElem_take] at e
            have := (List.getElem_inj hs.bn).1 e
            omega
          have hne : s.2.1[j + i] ≠ (v : Int) := fun e => hm (e ▸ hbm)
          have := h.low (j + i) (by omega) v (by rw [getD_of hji]; omega)
          rw [getD_of (show j + i < s.1.length by omega)] at this
          rw [this]; rfl
        · rw [(hZ r hr).2 v (by omega)]; rfl
      omega
theorem elim_twice (hp : pr4 p) (hs : ESok p W N V s) (h : RR p V s) (hVW : V ≤ W) {Z : List (List Int)} (hZ : ∀ r ∈ Z, okRow p W r ∧ ∀ u, u < V → r.getD u 0 = 0) :
    elimF p (s.1 ++ Z) V = (s.1, s.2.1, Z) := by
  have := elim_again hp hs h hVW hZ V (Nat.le_refl _)
  rw [h.bnd, hs.bl, List.take_length, List.drop_length, List.nil_append] at this
  exact this
theorem ker_zero (hp : pr4 p) (hs : ESok p (V + 1) N V s) (h : RR p V s) {f : Nat} (hf : f < V) (hfb : (f : Int) ∉ s.2.1) :
    ∀ r ∈ s.1 ++ s.2.2, cg p (sumN V fun i => r.getD i 0 * kerU p s f i) 0 := by
  intro r hr
  rcases List.mem_append.1 hr with hr | hr
  · obtain ⟨i, hi, rfl⟩ := List.mem_iff_getElem.1 hr
    have hbl := hs.bl
    have hb : i < s.2.1.length := by omega
    have hbv := hs.bv _ (List.getElem_mem hb)
    have hbn : s.2.1[i] = (((s.2.1[i]).toNat : Nat) : Int) := by omega
    obtain ⟨b, hbe⟩ : ∃ b, b = (s.2.1[i]).toNat := ⟨_, rfl⟩
    rw [← hbe] at hbn
    have hbV : b < V := by omega
    have hpos := posL_uniq hs.bn hb hbn
    have hbf : b ≠ f := fun e => hfb (by rw [← e, ← hbn]; exact List.getElem_mem hb)
    have hk1 : kerU p s f b = Int.tmod (p - (s.1[i]).getD f 0) p := by
      unfold kerU; rw [hpos, if_neg (by omega), Int.toNat_natCast, getD_of hi]
    have hk2 : kerU p s f f = 1 := by unfold kerU; rw [if_pos (posL_neg.2 hfb), if_pos rfl]
    have hr1 : (s.1[i]).getD b 0 = 1 := by
      have := h.piv i hi i hi
      rw [getD_of hi, getD_of hb, if_pos rfl, ← hbe] at this; exact this
    have hrok := hs.t _ (List.getElem_mem hi)
    have hrf := ok_get hrok (show f < V + 1 by omega)
    have hz : ∀ u, u < V → u ≠ b → u ≠ f → (s.1[i]).getD u 0 * kerU p s f u = 0 := fun u hu h1 h2 => by
      by_cases hm : (u : Int) ∈ s.2.1
      · obtain ⟨j, hj, hj1, hj2⟩ := posL_at hm
        have hji : i ≠ j := fun e => by subst e; rw [hj2] at hbn; omega
        have := h.piv i hi j (by omega)
        rw [getD_of hi, getD_of hj, if_neg hji, hj2, Int.toNat_natCast] at this
        rw [this]; simp
      · have : kerU p s f u = 0 := by unfold kerU; rw [if_pos (posL_neg.2 hm), if_neg h2]
        rw [this]; simp
    have e : (sumN V fun u => (s.1[i]).getD u 0 * kerU p s f u) = (sumN V fun u => if u = b then kerU p s f b else 0) + 1 * (sumN V fun u => if u = f then (s.1[i]).getD f 0 else 0) := by
      rw [← sumN_add]
      refine sumN_congr fun u hu => ?_
      by_cases h1 : u = b
      · subst h1; rw [if_pos rfl, if_neg hbf, hr1]; simp
      · by_cases h2 : u = f
        · subst h2; rw [if_neg h1, if_pos rfl, hk2]; simp
        · rw [if_neg h1, if_neg h2, hz u hu h1 h2]; simp
    rw [e, sumN_one (m := b) hbV (fun j _ hj => if_neg hj), sumN_one (m := f) hf (fun j _ hj => if_neg hj), if_pos rfl, if_pos rfl, hk1]
    have h1 := cg_mod (p := p) (x := p - (s.1[i]).getD f 0) (by omega)
    obtain ⟨k, h1⟩ := h1
    exact ⟨k + 1, by grind⟩
  · have hz := h.zl r hr
    exact sumN_zero fun j hj => by rw [hz j hj]; exact cg_of (by simp)
theorem sp_phi0 {A : List (List Int)} {c f : Nat → Int} (h : ∀ r ∈ A, cg p (sumN V fun i => r.getD i 0 * c i) 0) (hf : Sp p V A f) : cg p (sumN V fun i => f i * c i) 0 := by
 induction hf with
 | zero => exact sumN_zero fun j _ => cg_of (by simp)
 | add r d hr _ ih =>
  rename_i f' _
  have e : (sumN V fun i => (f' i + d * r.getD i 0) * c i) = (sumN V fun i => f' i * c i) + d * sumN V fun i => r.getD i 0 * c i := by
   rw [← sumN_add]; exact sumN_congr fun i _ => by grind
  rw [e]
  have := cg_add ih (cg_mul d (h r hr))
  exact cg_trans this (cg_of (by simp))
 | cgr _ h2 ih => exact cg_trans (sumN_cg fun i hi => cg_mulr _ (h2 i hi)) ih
theorem ker_obeys (hp : pr4 p) {A : List (List Int)} (hA : ∀ r ∈ A, okRow p (V + 1) r) {f : Nat} (hf : f < V) (hfb : (f : Int) ∉ (elimF p A V).2.1) {r : List Int} (hr : r ∈ A) :
    cg p (sumN V fun i => r.getD i 0 * kerU p (elimF p A V) f i) 0 := by
  have hs := elimF_ok hp hA V (by omega)
  have hrr := elim_rr hp hA V (by omega)
  have hsp := elim_sp hp hA (V := V) (by omega) V (by omega)
  exact sp_phi0 (ker_zero hp hs hrr hf hfb) ((hsp _).1 (Sp.mem hr))
end
end T
set_option linter.unusedVariables false
open Go Go.Va
namespace T
def spec_DrawEliminate (code : List Int) : Option ((Int × (Int × (List (List Int))))) :=
 (spec_DrawIsLinear code).bind fun r1 =>
  some (r1.1, (r1.2.1, r1.2.2))
def laws_vTable_L4 : Nat → ((List (List Int)) × (List (List Int)) × Int) → Option ((Unit) ⊕ (Bool))
 | 0, _ => none
 | n + 1, (a, b, i) =>
  if decide (i < (a.length : Int)) then
   if inb i a then
    if inb i b then
     (laws_vInts (gd a i []) (gd b i [])).bind fun r1 =>
      if !r1 then
       some (.inr false)
      else
       laws_vTable_L4 n (a, b, w64 (i + 1))
    else none
   else none
  else
   some (.inl ())
def laws_vTable (a : List (List Int)) (b : List (List Int)) : Option (Bool) :=
 if (a.length : Int) != (b.length : Int) then
  some false
 else
  (laws_vTable_L4 fuel (a, b, 0)).bind fun s1 =>
   match s1 with
   | .inl s2 =>
    some true
   | .inr s3 =>
    some s3
def laws_vLinear (l : Int × Int × (List (List Int))) (m : Int × Int × (List (List Int))) : Option (Bool) :=
 if l.1 == m.1 then
  if l.2.1 == m.2.1 then
   (laws_vTable l.2.2 m.2.2).bind fun r1 =>
    some r1
  else
   some false
 else
  some false
def laws_vIn_L2 : Nat → ((List (List Int)) × (List Int) × Int) → Option ((Unit) ⊕ (Bool))
 | 0, _ => none
 | n + 1, (lists, l, i) =>
  if decide (i < (lists.length : Int)) then
   if inb i lists then
    (laws_vInts (gd lists i []) l).bind fun r1 =>
     if r1 then
      some (.inr true)
     else
      laws_vIn_L2 n (lists, l, w64 (i + 1))
   else none
  else
   some (.inl ())
def laws_vIn (lists : List (List Int)) (l : List Int) : Option (Bool) :=
 (laws_vIn_L2 fuel (lists, l, 0)).bind fun s1 =>
  match s1 with
  | .inl s2 =>
   some false
  | .inr s3 =>
   some s3
def laws_FnLinear_L32 : Nat → ((Int × Int × (List (List Int))) × (List Int) × Bool × (List Int) × (List (List Int)) × Int × Int × Int) → Option ((Int × Int × (List (List Int))) × (List Int) × Bool × (List (List Int)) × Int × Int)
 | 0, _ => none
 | n + 1, (t3, t8, t9, t12, t16, t20, t28, t29) =>
  if decide (t29 < (t12.length : Int)) then
   laws_FnLinear_L32 n ((t3.1, (t3.2.1, t3.2.2)), t8, t9, t12, t16, t20, w64 (t28 * t3.1), w64 (t29 + 1))
  else
   some ((t3.1, (t3.2.1, t3.2.2)), t8, t9, t16, t20, t28)
def laws_FnLinear_L42 : Nat → ((Int × Int × (List (List Int))) × (List Int) × Bool × (List (List Int)) × Int × Int × Int × Int) → Option ((Int × Int × (List (List Int))) × (List Int) × Bool × (List (List Int)) × Int × Int × Int)
 | 0, _ => none
 | n + 1, (t3, t8, t9, t16, t20, t30, t31, t32) =>
  if decide (t32 < (t8.length : Int)) then
   if inb t30 t3.2.2 then
    if inb t32 (gd t3.2.2 t30 []) then
     if inb t32 t8 then
      laws_FnLinear_L42 n ((t3.1, (t3.2.1, t3.2.2)), t8, t9, t16, t20, t30, w64 (t31 + (w64 ((gd (gd t3.2.2 t30 []) t32 0) * (gd t8 t32 0)))), w64 (t32 + 1))
     else none
    else none
   else none
  else
   some ((t3.1, (t3.2.1, t3.2.2)), t8, t9, t16, t20, t30, t31)
def laws_FnLinear_L52 : Nat → ((Int × Int × (List (List Int))) × (List Int) × Bool × (List (List Int)) × Int × Int × Int × Int × Int) → Option ((Int × Int × (List (List Int))) × (List Int) × Bool × (List (List Int)) × Int × Int × Int × Int)
 | 0, _ => none
 | n + 1, (t3, t8, t9, t16, t20, t30, t31, t33, t34) =>
  if inb t33 t16 then
   if decide (t34 < ((gd t16 t33 []).length : Int)) then
    if inb t30 t3.2.2 then
     if inb t34 (gd t3.2.2 t30 []) then
      if inb t33 t16 then
       if inb t34 (gd t16 t33 []) then
        laws_FnLinear_L52 n ((t3.1, (t3.2.1, t3.2.2)), t8, t9, t16, t20, t30, w64 (t31 + (w64 ((gd (gd t3.2.2 t30 []) t34 0) * (gd (gd t16 t33 []) t34 0)))), t33, w64 (t34 + 1))
       else none
      else none
     else none
    else none
   else
    some ((t3.1, (t3.2.1, t3.2.2)), t8, t9, t16, t20, t30, t31, t33)
  else none
def laws_FnLinear_L48 : Nat → ((Int × Int × (List (List Int))) × (List Int) × Bool × (List (List Int)) × Int × Int × Int) → Option (((Int × Int × (List (List Int))) × (List Int) × Bool × (List (List Int)) × Int × Int) ⊕ (Bool))
 | 0, _ => none
 | n + 1, (t3, t8, t9, t16, t20, t30, t33) =>
  if decide (t33 < (t16.length : Int)) then
   (laws_FnLinear_L52 fuel ((t3.1, (t3.2.1, t3.2.2)), t8, t9, t16, t20, t30, 0, t33, 0)).bind fun s24 =>
    if s24.1.1 ≠ 0 then
     if (Int.tmod s24.2.2.2.2.2.2.1 s24.1.1) != 0 then
      some (.inr false)
     else
      laws_FnLinear_L48 n ((s24.1.1, (s24.1.2.1, s24.1.2.2)), s24.2.1, s24.2.2.1, s24.2.2.2.1, s24.2.2.2.2.1, s24.2.2.2.2.2.1, w64 (s24.2.2.2.2.2.2.2 + 1))
    else none
  else
   some (.inl ((t3.1, (t3.2.1, t3.2.2)), t8, t9, t16, t20, t30))
def laws_FnLinear_L38 : Nat → ((Int × Int × (List (List Int))) × (List Int) × Bool × (List (List Int)) × Int × Int) → Option (((Int × Int × (List (List Int))) × (List Int) × Bool × Int) ⊕ (Bool))
 | 0, _ => none
 | n + 1, (t3, t8, t9, t16, t20, t30) =>
  if decide (t30 < (t3.2.2.length : Int)) then
   (laws_FnLinear_L42 fuel ((t3.1, (t3.2.1, t3.2.2)), t8, t9, t16, t20, t30, 0, 0)).bind fun s23 =>
    if s23.2.2.1 then
     if s23.1.1 ≠ 0 then
      if inb s23.2.2.2.2.2.1 s23.1.2.2 then
       if inb s23.1.2.1 (gd s23.1.2.2 s23.2.2.2.2.2.1 []) then
        if (Int.tmod s23.2.2.2.2.2.2 s23.1.1) != (gd (gd s23.1.2.2 s23.2.2.2.2.2.1 []) s23.1.2.1 0) then
         some (.inr false)
        else
         (laws_FnLinear_L48 fuel ((s23.1.1, (s23.1.2.1, s23.1.2.2)), s23.2.1, s23.2.2.1, s23.2.2.2.1, s23.2.2.2.2.1, s23.2.2.2.2.2.1, 0)).bind fun s24 =>
          match s24 with
          | .inl s25 =>
           laws_FnLinear_L38 n ((s25.1.1, (s25.1.2.1, s25.1.2.2)), s25.2.1, s25.2.2.1, s25.2.2.2.1, s25.2.2.2.2.1, w64 (s25.2.2.2.2.2 + 1))
          | .inr s26 =>
           some (.inr s26)
       else none
      else none
     else none
    else
     (laws_FnLinear_L48 fuel ((s23.1.1, (s23.1.2.1, s23.1.2.2)), s23.2.1, s23.2.2.1, s23.2.2.2.1, s23.2.2.2.2.1, s23.2.2.2.2.2.1, 0)).bind fun s27 =>
      match s27 with
      | .inl s28 =>
       laws_FnLinear_L38 n ((s28.1.1, (s28.1.2.1, s28.1.2.2)), s28.2.1, s28.2.2.1, s28.2.2.2.1, s28.2.2.2.2.1, w64 (s28.2.2.2.2.2 + 1))
      | .inr s29 =>
       some (.inr s29)
  else
   some (.inl ((t3.1, (t3.2.1, t3.2.2)), t8, t9, t20))
def laws_FnLinear (t0 : List Int) : Option (Bool) :=
 (laws_vBig t0).bind fun r1 =>
  if r1 then
   some true
  else
   (spec_DrawEliminate t0).bind fun r2 =>
    (impl_Eliminate (r2.1, (r2.2.1, r2.2.2))).bind fun r3 =>
     (spec_Eliminate (r2.1, (r2.2.1, r2.2.2))).bind fun r4 =>
      if r3.2 != r4.2 then
       some false
      else
       (impl_IsLinear (r2.1, (r2.2.1, r2.2.2))).bind fun r5 =>
        if r3.2 != r5 then
         some false
        else
         (laws_vLinear (r3.1.1, (r3.1.2.1, r3.1.2.2)) (r4.1.1, (r4.1.2.1, r4.1.2.2))).bind fun r6 =>
          if !r6 then
           some false
          else
           (impl_SolveLinear (r2.1, (r2.2.1, r2.2.2))).bind fun r7 =>
            (spec_SolveLinear (r2.1, (r2.2.1, r2.2.2))).bind fun r8 =>
             if r7.2 != r8.2 then
              some false
             else
              (laws_vInts r7.1 r8.1).bind fun r9 =>
               if !r9 then
                some false
               else
                (impl_FreeVars (r2.1, (r2.2.1, r2.2.2))).bind fun r10 =>
                 (spec_FreeVars (r2.1, (r2.2.1, r2.2.2))).bind fun r11 =>
                  if r10.2 != r11.2 then
                   some false
                  else
                   if r10.2 != r3.2 then
                    some false
                   else
                    (laws_vInts r10.1 r11.1).bind fun r12 =>
                     if !r12 then
                      some false
                     else
                      (impl_LinearKernel (r2.1, (r2.2.1, r2.2.2))).bind fun r13 =>
                       (spec_LinearKernel (r2.1, (r2.2.1, r2.2.2))).bind fun r14 =>
                        if r13.2 != r14.2 then
                         some false
                        else
                         if r13.2 != r3.2 then
                          some false
                         else
                          (laws_vTable r13.1 r14.1).bind fun r15 =>
                           if !r15 then
                            some false
                           else
                            (impl_CountLinear (r2.1, (r2.2.1, r2.2.2))).bind fun r16 =>
                             (spec_CountLinear (r2.1, (r2.2.1, r2.2.2))).bind fun r17 =>
                              if r16.1 != r17.1 then
                               some false
                              else
                               if r16.2 != r17.2 then
                                some false
                               else
                                if r16.2 != r3.2 then
                                 some false
                                else
                                 if !r3.2 then
                                  some (!r7.2)
                                 else
                                  (impl_Eliminate (r3.1.1, (r3.1.2.1, r3.1.2.2))).bind fun r18 =>
                                   (impl_SolveLinear (r3.1.1, (r3.1.2.1, r3.1.2.2))).bind fun r19 =>
                                    if !r18.2 then
                                     some false
                                    else
                                     (laws_vLinear (r18.1.1, (r18.1.2.1, r18.1.2.2)) (r3.1.1, (r3.1.2.1, r3.1.2.2))).bind fun r20 =>
                                      if !r20 then
                                       some false
                                      else
                                       if r19.2 != r7.2 then
                                        some false
                                       else
                                        (laws_vInts r7.1 r19.1).bind fun r21 =>
                                         if !r21 then
                                          some false
                                         else
                                          if (r13.1.length : Int) != (r10.1.length : Int) then
                                           some false
                                          else
                                           (laws_FnLinear_L32 fuel ((r2.1, (r2.2.1, r2.2.2)), r7.1, r7.2, r10.1, r13.1, r16.1, 1, 0)).bind fun s22 =>
                                            if s22.2.2.1 then
                                             if s22.2.2.2.2.1 != s22.2.2.2.2.2 then
                                              some false
                                             else
                                              if !s22.2.2.1 then
                                               if s22.2.2.2.2.1 != 0 then
                                                some false
                                               else
                                                (laws_FnLinear_L38 fuel ((s22.1.1, (s22.1.2.1, s22.1.2.2)), s22.2.1, s22.2.2.1, s22.2.2.2.1, s22.2.2.2.2.1, 0)).bind fun s23 =>
                                                 match s23 with
                                                 | .inl s24 =>
                                                  (impl_LinearSolutions (s24.1.1, (s24.1.2.1, s24.1.2.2))).bind fun r26 =>
                                                   (spec_LinearSolutions (s24.1.1, (s24.1.2.1, s24.1.2.2))).bind fun r27 =>
                                                    if r26.2 != r27.2 then
                                                     some false
                                                    else
                                                     (laws_vTable r26.1 r27.1).bind fun r28 =>
                                                      if !r28 then
                                                       some false
                                                      else
                                                       if !r26.2 then
                                                        some true
                                                       else
                                                        if (r26.1.length : Int) == s24.2.2.2 then
                                                         if !s24.2.2.1 then
                                                          some true
                                                         else
                                                          (laws_vIn r26.1 s24.2.1).bind fun r29 =>
                                                           some r29
                                                        else
                                                         some false
                                                 | .inr s25 =>
                                                  some s25
                                              else
                                               (laws_FnLinear_L38 fuel ((s22.1.1, (s22.1.2.1, s22.1.2.2)), s22.2.1, s22.2.2.1, s22.2.2.2.1, s22.2.2.2.2.1, 0)).bind fun s30 =>
                                                match s30 with
                                                | .inl s31 =>
                                                 (impl_LinearSolutions (s31.1.1, (s31.1.2.1, s31.1.2.2))).bind fun r33 =>
                                                  (spec_LinearSolutions (s31.1.1, (s31.1.2.1, s31.1.2.2))).bind fun r34 =>
                                                   if r33.2 != r34.2 then
                                                    some false
                                                   else
                                                    (laws_vTable r33.1 r34.1).bind fun r35 =>
                                                     if !r35 then
                                                      some false
                                                     else
                                                      if !r33.2 then
                                                       some true
                                                      else
                                                       if (r33.1.length : Int) == s31.2.2.2 then
                                                        if !s31.2.2.1 then
                                                         some true
                                                        else
                                                         (laws_vIn r33.1 s31.2.1).bind fun r36 =>
                                                          some r36
                                                       else
                                                        some false
                                                | .inr s32 =>
                                                 some s32
                                            else
                                             if !s22.2.2.1 then
                                              if s22.2.2.2.2.1 != 0 then
                                               some false
                                              else
                                               (laws_FnLinear_L38 fuel ((s22.1.1, (s22.1.2.1, s22.1.2.2)), s22.2.1, s22.2.2.1, s22.2.2.2.1, s22.2.2.2.2.1, 0)).bind fun s37 =>
                                                match s37 with
                                                | .inl s38 =>
                                                 (impl_LinearSolutions (s38.1.1, (s38.1.2.1, s38.1.2.2))).bind fun r40 =>
                                                  (spec_LinearSolutions (s38.1.1, (s38.1.2.1, s38.1.2.2))).bind fun r41 =>
                                                   if r40.2 != r41.2 then
                                                    some false
                                                   else
                                                    (laws_vTable r40.1 r41.1).bind fun r42 =>
                                                     if !r42 then
                                                      some false
                                                     else
                                                      if !r40.2 then
                                                       some true
                                                      else
                                                       if (r40.1.length : Int) == s38.2.2.2 then
                                                        if !s38.2.2.1 then
                                                         some true
                                                        else
                                                         (laws_vIn r40.1 s38.2.1).bind fun r43 =>
                                                          some r43
                                                       else
                                                        some false
                                                | .inr s39 =>
                                                 some s39
                                             else
                                              (laws_FnLinear_L38 fuel ((s22.1.1, (s22.1.2.1, s22.1.2.2)), s22.2.1, s22.2.2.1, s22.2.2.2.1, s22.2.2.2.2.1, 0)).bind fun s44 =>
                                               match s44 with
                                               | .inl s45 =>
                                                (impl_LinearSolutions (s45.1.1, (s45.1.2.1, s45.1.2.2))).bind fun r47 =>
                                                 (spec_LinearSolutions (s45.1.1, (s45.1.2.1, s45.1.2.2))).bind fun r48 =>
                                                  if r47.2 != r48.2 then
                                                   some false
                                                  else
                                                   (laws_vTable r47.1 r48.1).bind fun r49 =>
                                                    if !r49 then
                                                     some false
                                                    else
                                                     if !r47.2 then
                                                      some true
                                                     else
                                                      if (r47.1.length : Int) == s45.2.2.2 then
                                                       if !s45.2.2.1 then
                                                        some true
                                                       else
                                                        (laws_vIn r47.1 s45.2.1).bind fun r50 =>
                                                         some r50
                                                      else
                                                       some false
                                               | .inr s46 =>
                                                some s46
end T
open Go Go.Va
namespace T
section
variable {a : Lin} {p : Int} {V W N : Nat} {s : ES}
def esA (a : Lin) : ES := elimF a.1 a.2.2 a.2.1.toNat
def elR (a : Lin) : Lin × Bool := if goodB a then ((a.1, (a.2.1, (esA a).1 ++ (esA a).2.2.filter (nzB a.2.1.toNat))), true) else ((0, (0, [])), false)
def frR (a : Lin) : List Int × Bool := if goodB a then (freeL a.2.1.toNat (esA a).2.1, true) else ([], false)
def keR (a : Lin) : List (List Int) × Bool := if goodB a then (kerLs a.1 a.2.1.toNat (esA a), true) else ([], false)
def coR (a : Lin) : Int × Bool := if goodB a then (if failB a.2.1.toNat (esA a) then 0 else a.1 ^ (freeL a.2.1.toNat (esA a).2.1).length, true) else (0, false)
def liR (a : Lin) : List (List Int) × Bool :=
 if goodB a then
  if failB a.2.1.toNat (esA a) then ([], true) else
   if a.1 ^ (freeL a.2.1.toNat (esA a).2.1).length > 600 then ([], false) else (sortL cmpL ((List.range (a.1.toNat ^ (freeL a.2.1.toNat (esA a).2.1).length)).map (solI a.1 a.2.1.toNat (esA a) (freeL a.2.1.toNat (esA a).2.1))), true)
 else ([], false)
theorem Elim_val (h : linS a) : impl_Eliminate a = some (elR a) ∧ spec_Eliminate a = some (elR a) := by
 obtain ⟨p, v, rows⟩ := a
 unfold impl_Eliminate spec_Eliminate elR esA
 rw [impl_IsLinear_ok h, spec_l21Good_ok h]
 cases hg : goodB (p, v, rows) with
 | false => exact ⟨rfl, rfl⟩
 | true =>
  obtain ⟨hp, V, hv, hV, hN, hr⟩ := lin_of hg
  dsimp only at hp hv hN hr
  subst hv
  have hs := elimF_ok hp hr V (by omega)
  unfold impl_eliminateLinear spec_l21Of
  have e1 := elim_kept hp (show V ≤ V + 1 by omega) (by omega) hr (by omega)
  have e2 := spec_Eliminate_ok hp (show V ≤ V + 1 by omega) (by omega) hr (by omega)
  simp only [e1, e2, Option.bind_some, Bool.not_true, Bool.false_eq_true, if_false, if_true, Int.toNat_natCast]
  generalize elimF p rows V = s at hs
  have e3 := linearOf_ok hs (by omega) (by omega) (by omega)
  have e4 := spec_elim_L6 hs (by omega) (by omega) rows
  simp only [e3, e4, Option.bind_some]
  exact ⟨trivial, trivial⟩
theorem Free_val (h : linS a) : impl_FreeVars a = some (frR a) ∧ spec_FreeVars a = some (frR a) := by
 obtain ⟨p, v, rows⟩ := a
 unfold impl_FreeVars spec_FreeVars frR esA
 rw [impl_IsLinear_ok h, spec_l21Good_ok h]
 cases hg : goodB (p, v, rows) with
 | false => exact ⟨rfl, rfl⟩
 | true =>
  obtain ⟨hp, V, hv, hV, hN, hr⟩ := lin_of hg
  dsimp only at hp hv hN hr
  subst hv
  have hs := elimF_ok hp hr V (by omega)
  unfold impl_eliminateLinear spec_l21Of
  have e1 := elim_kept hp (show V ≤ V + 1 by omega) (by omega) hr (by omega)
  have e2 := spec_Eliminate_ok hp (show V ≤ V + 1 by omega) (by omega) hr (by omega)
  simp only [e1, e2, Option.bind_some, Bool.not_true, Bool.false_eq_true, if_false, if_true, Int.toNat_natCast]
  generalize elimF p rows V = s at hs
  have e5 := free_ok hs (by omega) (by omega)
  have e5 : spec_l21Free (s.1, (s.2.1, s.2.2)) (V : Int) = _ := e5
  have e6 := freeVars_ok (p := p) (V := V) (s := s) (by omega)
  simp only [e5, e6, Option.bind_some]
  exact ⟨trivial, trivial⟩
theorem Ker_val (h : linS a) : impl_LinearKernel a = some (keR a) ∧ spec_LinearKernel a = some (keR a) := by
 obtain ⟨p, v, rows⟩ := a
 unfold impl_LinearKernel spec_LinearKernel keR esA
 rw [impl_IsLinear_ok h, spec_l21Good_ok h]
 cases hg : goodB (p, v, rows) with
 | false => exact ⟨rfl, rfl⟩
 | true =>
  obtain ⟨hp, V, hv, hV, hN, hr⟩ := lin_of hg
  dsimp only at hp hv hN hr
  subst hv
  have hs := elimF_ok hp hr V (by omega)
  unfold impl_eliminateLinear_b spec_l21Of
  have e1 : impl_eliminate_b p (V : Int) rows = some (boxE p V (elimF p rows V)) := elb_of (elim_kept hp (show V ≤ V + 1 by omega) (by omega) hr (by omega))
  have e2 := spec_Eliminate_ok hp (show V ≤ V + 1 by omega) (by omega) hr (by omega)
  simp only [e1, e2, Option.bind_some, Bool.not_true, Bool.false_eq_true, if_false, if_true, Int.toNat_natCast]
  generalize elimF p rows V = s at hs
  have e3 := ker_ok hp hs (by omega) (by omega) (by omega)
  have e4 := spec_ker_ok hp hs (by omega) (by omega) (by omega)
  have e4 : spec_l21Kernel (s.1, (s.2.1, s.2.2)) p (V : Int) = _ := e4
  have e3 : impl_eliminated_kernel ((boxE p V s).1, ((boxE p V s).2.1, ((boxE p V s).2.2.1, ((boxE p V s).2.2.2.1, (boxE p V s).2.2.2.2)))) = _ := e3
  simp only [e3, e4, Option.bind_some]
  exact ⟨trivial, trivial⟩
theorem Count_val2 (h : linS a) : impl_CountLinear a = some (coR a) ∧ spec_CountLinear a = some (coR a) := by
 obtain ⟨R, c1, c2⟩ := CountLinear_ok h
 have cv := Count_val h
 rw [cv] at c1
 obtain rfl := Option.some.inj c1
 exact ⟨cv, c2⟩
theorem LinSol_val (h : linS a) : impl_LinearSolutions a = some (liR a) ∧ spec_LinearSolutions a = some (liR a) := by
 obtain ⟨cv, c2⟩ := Count_val2 h
 obtain ⟨p, v, rows⟩ := a
 have cv : impl_CountLinear (p, (v, rows)) = _ := cv
 have c2 : spec_CountLinear (p, (v, rows)) = _ := c2
 unfold impl_LinearSolutions spec_LinearSolutions
 dsimp only
 rw [cv, c2]
 unfold coR liR esA
 simp only [Option.bind_some]
 cases hg : goodB (p, v, rows) with
 | false => exact ⟨rfl, rfl⟩
 | true =>
  obtain ⟨hp, V, hv, hV, hN, hr⟩ := lin_of hg
  dsimp only at hp hv hN hr
  subst hv
  have hs := elimF_ok hp hr V (by omega)
  have hpb : 2 ≤ p ∧ p ≤ 7 := by unfold pr4 at hp; omega
  have e1 := elim_kept hp (show V ≤ V + 1 by omega) (by omega) hr (by omega)
  have e2 := spec_Eliminate_ok hp (show V ≤ V + 1 by omega) (by omega) hr (by omega)
  have e3 := solve_ok hp (V := V) (W := V + 1) (by omega) (by omega) hr (by omega)
  unfold impl_eliminateLinear spec_l21Of
  simp only [e1, e2, e3, Option.bind_some, Bool.not_true, Bool.false_eq_true, if_false, if_true, Int.toNat_natCast]
  generalize elimF p rows V = s at hs
  obtain ⟨F, hF⟩ : ∃ F, F = freeL V s.2.1 := ⟨_, rfl⟩
  have e6 : impl_eliminated_freeVars_p (keptE p V s) = some F := by rw [hF]; exact freeVars_ok (by omega)
  have e7 := spec_ker_ok hp hs (by omega) (by omega) (by omega)
  have e7 : spec_l21Kernel (s.1, (s.2.1, s.2.2)) p (V : Int) = _ := e7
  have hFV : F.length ≤ V := by rw [hF]; exact freeL_le
  rw [← hF]
  have hlim : lim = 1099511627776 := rfl
  cases failB V s with
  | true =>
   have i1 := impl_loop (M := 0) hp hs (show V < V + 1 by omega) (by omega) (by omega) hF (p, ((V : Int), rows)) rfl (by omega)
   have i1 : impl_LinearSolutions_L8 fuel ((p, ((V : Int), rows)), (0 : Int), keptE p V s, (F.length : Int), [], 0) = some [] := i1
   have i2 : spec_LinearSolutions_L8 fuel ((p, ((V : Int), rows)), [], (0 : Int), [], false, kerLs p V s, 0) = some [] := by
    have := forS 0 (fun m (_ : Unit) i => spec_LinearSolutions_L8 m ((p, ((V : Int), rows)), [], (0 : Int), [], false, kerLs p V s, i)) (fun _ => ()) (r := some []) (fun m k hk => by omega) (fun m => by simp only [spec_LinearSolutions_L8]; rw [if_neg (by simp)]) (n := fuel) (by unfold fuel; omega)
    exact this
   have i3 : impl_sortRows_impl_compareLists [] () = some [] := by
    unfold impl_sortRows_impl_compareLists
    rw [if_pos (by simp)]; simp [sortL]
   simp only [if_true]
   rw [if_neg (by simp), if_neg (by simp)]
   simp only [e6, e7, i1, i2, i3, Option.bind_some]
   exact ⟨trivial, trivial⟩
  | false =>
   simp only [Bool.false_eq_true, if_false]
   obtain ⟨M, hM⟩ : ∃ M : Nat, M = p.toNat ^ F.length := ⟨_, rfl⟩
   have hMp : p ^ F.length = (M : Int) := by rw [hM, Int.natCast_pow]; congr 1; omega
   rw [hMp, ← hM]
   by_cases hbig : (M : Int) > 600
   ·rw [if_pos (by simpa using hbig), if_pos hbig, if_pos (by simpa using hbig)]
    exact ⟨rfl, rfl⟩
   ·rw [if_neg (by simpa using hbig), if_neg hbig, if_neg (by simpa using hbig)]
    have i1 := impl_loop (M := M) hp hs (show V < V + 1 by omega) (by omega) (by omega) hF (p, ((V : Int), rows)) rfl (by omega)
    have i2 := spec_loop (M := M) hp hs (show V < V + 1 by omega) (by omega) (by omega) hF (p, ((V : Int), rows)) rfl (by omega) hM
    have i3 : impl_sortRows_impl_compareLists ((List.range M).map (solI p V s F)) () = some (sortL cmpL ((List.range M).map (solI p V s F))) := by
     unfold impl_sortRows_impl_compareLists
     rw [if_pos]
     refine ⟨by simp; omega, ?_⟩
     rw [List.all_eq_true]
     intro r hr
     obtain ⟨i, _, rfl⟩ := List.mem_map.1 hr
     rw [decide_eq_true_iff, sol_len]; omega
    simp only [e6, e7, i1, i2, i3, Option.bind_some]
    exact ⟨trivial, trivial⟩
end
theorem vTable_ok {x y : List (List Int)} (h : x.length ≤ 1048576) (hr : ∀ r ∈ x, r.length ≤ 1048576) : laws_vTable x y = some (decide (x = y)) := by
 unfold laws_vTable
 by_cases hl : x.length = y.length
 ·rw [if_neg (by simp [hl]), eqX x y hl (fun n i => laws_vTable_L4 n (x, y, i)) ?_ ?_ (by unfold fuel; omega)]
  ·by_cases h : x = y <;> simp [h]
  ·intro n k h1 h2
   simp only [laws_vTable_L4, inb_nat, gd_nat h1, gd_nat h2, w64_succ (show k < 4611686018427387904 by omega), vInts_ok (hr _ (List.getElem_mem h1))]
   by_cases h : x[k] = y[k] <;> simp [h1, h2, h]
  ·intro n
   simp [laws_vTable_L4]
 ·rw [if_pos (by simp; omega), decide_eq_false (fun e => hl (by rw [e]))]
theorem vLinear_same {a : Lin} (h : linS a) : laws_vLinear a a = some true := by
 unfold laws_vLinear
 rw [if_pos (by simp), if_pos (by simp), vTable_ok h.1 h.2]
 simp
theorem vIn_ok {l : List (List Int)} {t : List Int} (h : l.length ≤ 1048576) (hr : ∀ r ∈ l, r.length ≤ 1048576) : laws_vIn l t = some (decide (t ∈ l)) := by
 unfold laws_vIn
 have := allX l (fun n i => laws_vIn_L2 n (l, t, i)) (fun r => !decide (r = t)) (.inr true) (.inl ()) (fun n k hk => by
  simp only [laws_vIn_L2, inb_nat, gd_nat hk, w64_succ (show k < 4611686018427387904 by omega), vInts_ok (hr _ (List.getElem_mem hk))]
  by_cases e : l[k] = t <;> simp [e, hk]) (fun n => by simp [laws_vIn_L2]) (n := fuel) (by unfold fuel; omega)
 rw [this]
 by_cases hm : t ∈ l
 ·have : l.all (fun r => !decide (r = t)) = false := by
   rw [List.all_eq_false]; exact ⟨t, hm, by simp⟩
  rw [this]; simp [hm]
 ·have : l.all (fun r => !decide (r = t)) = true := by
   rw [List.all_eq_true]; intro r hr; simp; exact fun e => hm (e ▸ hr)
  rw [this]; simp [hm]
end T
open Go Go.Va
namespace T
section
variable {a : Lin} {p : Int} {V N : Nat} {s : ES} {A : List (List Int)}
theorem pow_le7 (h0 : 0 ≤ p) (h1 : p ≤ 7) : ∀ k : Nat, 0 ≤ p ^ k ∧ p ^ k ≤ (7 ^ k : Nat)
 | 0 => by simp
 | k + 1 => by
  have ih := pow_le7 h0 h1 k
  rw [Int.pow_succ, Nat.pow_succ]
  refine ⟨Int.mul_nonneg ih.1 h0, ?_⟩
  have h2 : p ^ k * p ≤ p ^ k * 7 := Int.mul_le_mul_of_nonneg_left h1 ih.1
  have h3 : p ^ k * 7 ≤ (7 ^ k : Nat) * 7 := Int.mul_le_mul_of_nonneg_right ih.2 (by decide)
  rw [Int.natCast_mul]
  exact Int.le_trans h2 h3
theorem seven_le {k : Nat} (h : k ≤ 8) : 7 ^ k ≤ 5764801 := Nat.le_trans (Nat.pow_le_pow_right (by decide) h) (by decide)
theorem fl_L32 {l : Lin} (h0 : 0 ≤ l.1) (h1 : l.1 ≤ 7) {x F : List Int} {b : Bool} {K : List (List Int)} {n : Int} (hF : F.length ≤ 8) : laws_FnLinear_L32 fuel (l, x, b, F, K, n, 1, 0) = some (l, x, b, K, n, l.1 ^ F.length) := by
 have := forS F.length (fun f o i => laws_FnLinear_L32 f (l, x, b, F, K, n, o, i)) (fun k => l.1 ^ k) (r := some (l, x, b, K, n, l.1 ^ F.length)) (fun f k hk => ?_) (fun f => ?_) (n := fuel) (by unfold fuel; omega)
 ·rw [Int.pow_zero] at this; exact this
 ·have e1 := pow_le7 h0 h1 (k + 1)
  have e2 := seven_le (k := k + 1) (by omega)
  simp only [laws_FnLinear_L32, w64_succ (show k < 4611686018427387904 by omega)]
  have e3 : l.1 ^ k * l.1 = l.1 ^ (k + 1) := (Int.pow_succ l.1 k).symm
  rw [if_pos (by simp; omega), e3, w64_id (by omega) (by omega)]
 ·simp only [laws_FnLinear_L32]
  rw [if_neg (by simp)]
theorem mul_in {x y : Int} (hp : p ≤ 7) (hx : 0 ≤ x ∧ x < p) (hy : 0 ≤ y ∧ y < p) : 0 ≤ x * y ∧ x * y ≤ 49 := by
 have := prod_le hx.1 (show x ≤ 8 by omega) hy.1 (show y ≤ 8 by omega)
 refine ⟨this.1, ?_⟩
 have h1 : x * y ≤ x * 6 := Int.mul_le_mul_of_nonneg_left (by omega) hx.1
 omega
theorem fl_L42 {l : Lin} (hp : l.1 ≤ 7) {x : List Int} {b : Bool} {K : List (List Int)} {n : Int} {i : Nat} (hi : i < l.2.2.length) (hV : x.length ≤ 8) (hr : x.length < (l.2.2[i]).length) (h1 : ∀ y ∈ l.2.2[i], 0 ≤ y ∧ y < l.1) (h2 : ∀ y ∈ x, 0 ≤ y ∧ y < l.1) :
    laws_FnLinear_L42 fuel (l, x, b, K, n, (i : Int), 0, 0) = some (l, x, b, K, n, (i : Int), sumN x.length fun v => (l.2.2[i]).getD v 0 * x.getD v 0) := by
  have hb : ∀ v, v < x.length → 0 ≤ (l.2.2[i]).getD v 0 * x.getD v 0 ∧ (l.2.2[i]).getD v 0 * x.getD v 0 ≤ 49 := fun v hv => by
    rw [getD_of (show v < (l.2.2[i]).length by omega), getD_of hv]
    exact mul_in hp (h1 _ (List.getElem_mem _)) (h2 _ (List.getElem_mem _))
  have := forS x.length (fun f o v => laws_FnLinear_L42 f (l, x, b, K, n, (i : Int), o, v)) (fun k => sumN k fun v => (l.2.2[i]).getD v 0 * x.getD v 0) (r := some (l, x, b, K, n, (i : Int), sumN x.length fun v => (l.2.2[i]).getD v 0 * x.getD v 0)) (fun f k hk => ?_) (fun f => ?_) (n := fuel) (by unfold fuel; omega)
  · exact this
  · have e1 := hb k hk
    have e2 := sumN_nonneg (n := k) (h := fun v => (l.2.2[i]).getD v 0 * x.getD v 0) (M := 49) fun j hj => hb j (by omega)
    simp only [laws_FnLinear_L42, inb_nat, gd_nat hi, hi, if_true, gd_D, w64_succ (show k < 4611686018427387904 by omega), hk, show k < (l.2.2[i]).length by omega]
    rw [if_pos (by simp; omega), sumN_succ, w64_id (x := (l.2.2[i]).getD k 0 * x.getD k 0) (by omega) (by omega), w64_id (by omega) (by omega)]
  · simp only [laws_FnLinear_L42]
    rw [if_neg (by simp)]
theorem fl_L52 {l : Lin} (hp : l.1 ≤ 7) {x : List Int} {b : Bool} {K : List (List Int)} {n : Int} {i j : Nat} (hi : i < l.2.2.length) (hj : j < K.length) (hV : (K[j]).length ≤ 8) (hr : (K[j]).length < (l.2.2[i]).length) (h1 : ∀ y ∈ l.2.2[i], 0 ≤ y ∧ y < l.1) (h2 : ∀ y ∈ K[j], 0 ≤ y ∧ y < l.1) :
    laws_FnLinear_L52 fuel (l, x, b, K, n, (i : Int), 0, (j : Int), 0) = some (l, x, b, K, n, (i : Int), (sumN (K[j]).length fun v => (l.2.2[i]).getD v 0 * (K[j]).getD v 0), (j : Int)) := by
  have hb : ∀ v, v < (K[j]).length → 0 ≤ (l.2.2[i]).getD v 0 * (K[j]).getD v 0 ∧ (l.2.2[i]).getD v 0 * (K[j]).getD v 0 ≤ 49 := fun v hv => by
    rw [getD_of (show v < (l.2.2[i]).length by omega), getD_of hv]
    exact mul_in hp (h1 _ (List.getElem_mem _)) (h2 _ (List.getElem_mem _))
  have := forS (K[j]).length (fun f o v => laws_FnLinear_L52 f (l, x, b, K, n, (i : Int), o, (j : Int), v)) (fun k => sumN k fun v => (l.2.2[i]).getD v 0 * (K[j]).getD v 0) (r := some (l, x, b, K, n, (i : Int), (sumN (K[j]).length fun v => (l.2.2[i]).getD v 0 * (K[j]).getD v 0), (j : Int))) (fun f k hk => ?_) (fun f => ?_) (n := fuel) (by unfold fuel; omega)
  · exact this
  · have e1 := hb k hk
    have e2 := sumN_nonneg (n := k) (h := fun v => (l.2.2[i]).getD v 0 * (K[j]).getD v 0) (M := 49) fun j hj => hb j (by omega)
    simp only [laws_FnLinear_L52, inb_nat, gd_nat hi, hi, gd_nat hj, hj, if_true, gd_D, w64_succ (show k < 4611686018427387904 by omega), hk, show k < (l.2.2[i]).length by omega]
    rw [if_pos (by simp; omega), sumN_succ, w64_id (x := (l.2.2[i]).getD k 0 * (K[j]).getD k 0) (by omega) (by omega), w64_id (by omega) (by omega)]
  · simp only [laws_FnLinear_L52, inb_nat, gd_nat hj, hj, if_true]
    rw [if_neg (by simp)]
theorem rest_of (hp : 2 ≤ p) {S y : Int} (h0 : 0 ≤ S) (hy : 0 ≤ y ∧ y < p) (h : cg p S y) : Int.tmod S p = y := by
 have h1 := cg_mod (p := p) h0
 rw [Int.tmod_eq_emod_of_nonneg h0] at h1 ⊢
 exact cg_eq (cg_trans h1 h) ⟨Int.emod_nonneg _ (by omega), Int.emod_lt_of_pos _ (by omega)⟩ hy
theorem fl_L48 {l : Lin} (hp : 2 ≤ l.1 ∧ l.1 ≤ 7) {x : List Int} {b : Bool} {K : List (List Int)} {n : Int} {i V : Nat} (hi : i < l.2.2.length) (hK : K.length ≤ 8) (hV : V ≤ 8) (hr : V < (l.2.2[i]).length) (h1 : ∀ y ∈ l.2.2[i], 0 ≤ y ∧ y < l.1)
    (h2 : ∀ k ∈ K, k.length = V ∧ (∀ y ∈ k, 0 ≤ y ∧ y < l.1) ∧ cg l.1 (sumN V fun v => (l.2.2[i]).getD v 0 * k.getD v 0) 0) :
    laws_FnLinear_L48 fuel (l, x, b, K, n, (i : Int), 0) = some (.inl (l, x, b, K, n, (i : Int))) := by
  have := forS K.length (fun f (_ : Unit) v => laws_FnLinear_L48 f (l, x, b, K, n, (i : Int), v)) (fun k => ()) (r := some (.inl (l, x, b, K, n, (i : Int)))) (fun f k hk => ?_) (fun f => ?_) (n := fuel) (by unfold fuel; omega)
  · exact this
  · obtain ⟨g1, g2, g3⟩ := h2 _ (List.getElem_mem hk)
    have e1 := fl_L52 (x := x) (b := b) (n := n) hp.2 hi hk (by omega) (by omega) h1 g2
    have e1 : laws_FnLinear_L52 fuel ((l.1, (l.2.1, l.2.2)), x, b, K, n, (i : Int), 0, (k : Int), 0) = _ := e1
    rw [g1] at e1
    have hS : 0 ≤ sumN V fun v => (l.2.2[i]).getD v 0 * (K[k]).getD v 0 := (sumN_nonneg (M := 49) fun j hj => by
      rw [getD_of (show j < (l.2.2[i]).length by omega), getD_of (show j < (K[k]).length by omega)]
      exact mul_in hp.2 (h1 _ (List.getElem_mem _)) (g2 _ (List.getElem_mem _))).1
    have e2 := rest_of hp.1 hS (show 0 ≤ (0 : Int) ∧ 0 < l.1 by omega) g3
    simp only [laws_FnLinear_L48, e1, Option.bind_some, e2, w64_succ (show k < 4611686018427387904 by omega)]
    rw [if_pos (by simp; omega), if_pos (by omega), if_neg (by simp)]
  · simp only [laws_FnLinear_L48]
    rw [if_neg (by simp)]
theorem fl_L38 {l : Lin} {V : Nat} (hp : 2 ≤ l.1 ∧ l.1 ≤ 7) (hv : l.2.1 = (V : Int)) (hV : V ≤ 8) (hN : l.2.2.length ≤ 8) (hr : ∀ r ∈ l.2.2, okRow l.1 (V + 1) r) {x : List Int} {b : Bool} {K : List (List Int)} {n : Int} (hK : K.length ≤ 8)
    (hx : x.length ≤ V ∧ ∀ y ∈ x, 0 ≤ y ∧ y < l.1) (hb : b = true → x.length = V ∧ ∀ r ∈ l.2.2, cg l.1 (sumN V fun v => r.getD v 0 * x.getD v 0) (r.getD V 0))
    (h2 : ∀ k ∈ K, k.length = V ∧ (∀ y ∈ k, 0 ≤ y ∧ y < l.1) ∧ ∀ r ∈ l.2.2, cg l.1 (sumN V fun v => r.getD v 0 * k.getD v 0) 0) :
    laws_FnLinear_L38 fuel (l, x, b, K, n, 0) = some (.inl (l, x, b, n)) := by
  have := forS l.2.2.length (fun f (_ : Unit) v => laws_FnLinear_L38 f (l, x, b, K, n, v)) (fun k => ()) (r := some (.inl (l, x, b, n))) (fun f i hi => ?_) (fun f => ?_) (n := fuel) (by unfold fuel; omega)
  · exact this
  · have hrow := hr _ (List.getElem_mem hi)
    have hrl := hrow.1
    have e1 := fl_L42 (b := b) (K := K) (n := n) hp.2 hi (by omega) (by omega) hrow.2 hx.2
    have e1 : laws_FnLinear_L42 fuel ((l.1, (l.2.1, l.2.2)), x, b, K, n, (i : Int), 0, 0) = _ := e1
    have e2 := fl_L48 (x := x) (b := b) (n := n) hp hi hK hV (by omega) hrow.2 fun k hk => ⟨(h2 k hk).1, (h2 k hk).2.1, (h2 k hk).2.2 _ (List.getElem_mem hi)⟩
    have e2 : laws_FnLinear_L48 fuel ((l.1, (l.2.1, l.2.2)), x, b, K, n, (i : Int), 0) = _ := e2
    simp only [laws_FnLinear_L38, e1, Option.bind_some, w64_succ (show i < 4611686018427387904 by omega)]
    rw [if_pos (by simp; omega)]
    cases b with
    | true =>
      obtain ⟨h3, h4⟩ := hb rfl
      have h5 := h4 _ (List.getElem_mem hi)
      have hS : 0 ≤ sumN V fun v => (l.2.2[i]).getD v 0 * x.getD v 0 := (sumN_nonneg (M := 49) fun j hj => by
        rw [getD_of (show j < (l.2.2[i]).length by omega), getD_of (show j < x.length by omega)]
        exact mul_in hp.2 (hrow.2 _ (List.getElem_mem _)) (hx.2 _ (List.getElem_mem _))).1
      have e3 := rest_of hp.1 hS (ok_get hrow (show V < V + 1 by omega)) h5
      simp only [if_true, inb_nat, hi, gd_nat hi, hv, show V < (l.2.2[i]).length by omega, gd_D, h3, e3]
      rw [if_pos (by omega), if_neg (by simp)]
      simp only [hv] at e2
      simp only [e2, Option.bind_some, w64_succ (show i < 4611686018427387904 by omega)]
    | false =>
      simp only [Bool.false_eq_true, if_false, e2, Option.bind_some, w64_succ (show i < 4611686018427387904 by omega)]
  · simp only [laws_FnLinear_L38]
    rw [if_neg (by simp)]
end
end T
open Go Go.Va
namespace T
section
variable {a : Lin} {p : Int} {V N : Nat} {s : ES} {A : List (List Int)}
theorem solV_in (hp : pr4 p) (hs : ESok p (V + 1) N V s) (i : Nat) : 0 ≤ solV V s i ∧ solV V s i < p := by
 unfold solV
 split
 ·unfold pr4 at hp; omega
 ·rename_i h0
  have hm : (i : Int) ∈ s.2.1 := by
   by_cases hm : (i : Int) ∈ s.2.1
   ·exact hm
   ·exact absurd (posL_neg.2 hm) h0
  obtain ⟨j, hj, h1, _⟩ := posL_at hm
  rw [h1, Int.toNat_natCast]
  have hjt : j < s.1.length := by have := hs.bl; omega
  exact ok_get (hs.t _ (getD_mem hjt)) (by omega)
theorem lin_good (hp : pr4 p) (hV : V ≤ 8) (hA : A.length ≤ 8) (hr : ∀ r ∈ A, okRow p (V + 1) r) : goodB (p, ((V : Int), A)) = true := by
 unfold goodB
 simp only [Bool.and_eq_true, decide_eq_true_eq, List.all_eq_true]
 refine ⟨⟨⟨?_, by omega, by omega⟩, hA⟩, fun r h => ⟨by rw [(hr r h).1]; rfl, ?_⟩⟩
 ·unfold primeB; unfold pr4 at hp; simp; omega
 ·unfold belowB; rw [List.all_eq_true]; intro x hx; simpa using (hr r h).2 x hx
theorem sum_zero {F x : List Int} (h : ∀ k, x.getD k 0 = 0) (u : Nat) : ∀ k, sumG p V s F x u k = solV V s u
 | 0 => rfl
 | k + 1 => by rw [sumG, sum_zero h u k, h k, Int.mul_zero, Int.add_zero]
theorem solI_zero (hp : pr4 p) (hs : ESok p (V + 1) N V s) {F : List Int} : solI p V s F 0 = solL V s := by
 unfold solI vecG solL
 refine List.map_congr_left fun u _ => ?_
 rw [sum_zero fun k => ?_]
 ·have := solV_in hp hs u
  exact Int.emod_eq_of_lt this.1 this.2
 ·rcases Nat.lt_or_ge k (cI (dg p.toNat F.length 0)).length with h | h
  ·have hm := getD_mem (d := 0) h
   unfold cI at hm
   obtain ⟨y, hy, e⟩ := List.mem_map.1 hm
   rw [dg_zero] at hy
   have := List.eq_of_mem_replicate hy
   unfold cI
   rw [← e, this]; rfl
  ·rw [List.getD_eq_getElem?_getD, List.getElem?_eq_none h]; rfl
theorem el_again (hg : goodB a = true) : linS (elR a).1 ∧ elR (elR a).1 = elR a ∧ solR (elR a).1 = solR a := by
 obtain ⟨hp, hv, hV, hN, hr⟩ := good_parts hg
 have hs := elimF_ok hp hr a.2.1.toNat (by omega)
 have hrr := elim_rr hp hr a.2.1.toNat (by omega)
 have e0 : (elR a) = ((a.1, (a.2.1, (esA a).1 ++ (esA a).2.2.filter (nzB a.2.1.toNat))), true) := by unfold elR; rw [hg]; rfl
 have es : esA a = elimF a.1 a.2.2 a.2.1.toNat := rfl
 rw [e0, es]
 have esol : solR a = if failB a.2.1.toNat (elimF a.1 a.2.2 a.2.1.toNat) then ([], false) else (solL a.2.1.toNat (elimF a.1 a.2.2 a.2.1.toNat), true) := by unfold solR; rw [hg]; rfl
 rw [esol]
 generalize elimF a.1 a.2.2 a.2.1.toNat = s at *
 obtain ⟨Z, hZ⟩ : ∃ Z, Z = s.2.2.filter (nzB a.2.1.toNat) := ⟨_, rfl⟩
 have hZm : ∀ r ∈ Z, okRow a.1 (a.2.1.toNat + 1) r ∧ ∀ u, u < a.2.1.toNat → r.getD u 0 = 0 := fun r h => by
  rw [hZ] at h
  have := (List.mem_filter.1 h).1
  exact ⟨hs.l r this, hrr.zl r this⟩
 have hZl : Z.length ≤ s.2.2.length := by rw [hZ]; exact List.length_filter_le _ _
 have hR : ∀ r ∈ s.1 ++ Z, okRow a.1 (a.2.1.toNat + 1) r := fun r h => (List.mem_append.1 h).elim (hs.t r) fun h => (hZm r h).1
 have hn := hs.n
 have hl : (s.1 ++ Z).length ≤ 8 := by rw [List.length_append]; omega
 have hgm : goodB (a.1, (a.2.1, s.1 ++ Z)) = true := by rw [← hv]; exact lin_good hp hV hl hR
 have ea : elimF a.1 (s.1 ++ Z) a.2.1.toNat = (s.1, s.2.1, Z) := elim_twice hp hs hrr (by omega) hZm
 have hZZ : Z.filter (nzB a.2.1.toNat) = Z := by rw [hZ, List.filter_filter]; simp
 rw [← hZ]
 dsimp only
 refine ⟨⟨by dsimp only; omega, fun r h => by have := (hR r h).1; omega⟩, ?_, ?_⟩
 ·unfold elR esA
  rw [hgm]
  dsimp only
  rw [ea, if_pos rfl]
  dsimp only
  rw [hZZ]
 ·unfold solR
  rw [hgm]
  dsimp only
  rw [ea, if_pos rfl]
  have ef : failB a.2.1.toNat (s.1, s.2.1, Z) = failB a.2.1.toNat s := by
   unfold failB
   dsimp only
   rw [hZ, Bool.eq_iff_iff, List.any_eq_true, List.any_eq_true]
   exact ⟨fun ⟨r, h1, h2⟩ => ⟨r, (List.mem_filter.1 h1).1, h2⟩, fun ⟨r, h1, h2⟩ => ⟨r, List.mem_filter.2 ⟨h1, h2⟩, h2⟩⟩
  rw [ef]
  rfl
theorem vInts_same {x : List Int} (h : x.length ≤ 1048576) : laws_vInts x x = some true := by rw [vInts_ok h]; simp
theorem vTable_same {x : List (List Int)} (h : x.length ≤ 1048576) (hr : ∀ r ∈ x, r.length ≤ 1048576) : laws_vTable x x = some true := by rw [vTable_ok h hr]; simp
theorem DrawEliminate_ok {code : List Int} (h1 : code.length ≤ 65536) (h2 : ∀ x ∈ code, 0 ≤ x ∧ x < 256) : ∃ l, spec_DrawEliminate code = some l ∧ linS l := by
 obtain ⟨c', l, e, _, l1, l2, _⟩ := linear_ok (k := 0) (c := (code, (0, 0))) ⟨h1, h2, by simp, by simp⟩ (by omega)
 refine ⟨l, ?_, ⟨by omega, fun r hr => by have := l2 r hr; omega⟩⟩
 unfold spec_DrawEliminate spec_DrawIsLinear
 simp only [e, Option.bind_some]
theorem FnLinear_law {code : List Int} (h : wfT (.slice (.num .u8)) code) : laws_FnLinear code = some true := by
 unfold laws_FnLinear laws_vBig
 simp only [Option.bind_some]
 by_cases hb : (code.length : Int) > 65536
 ·rw [if_pos (decide_eq_true hb)]
 ·rw [if_neg (by simpa using hb)]
  have h1 : code.length ≤ 65536 := by omega
  have h2 : ∀ x ∈ code, 0 ≤ x ∧ x < 256 := fun x hx => by
   have : IntKind.u8.min ≤ x ∧ x ≤ IntKind.u8.max := h.2 x hx
   have e1 : IntKind.u8.min = 0 := by decide
   have e2 : IntKind.u8.max = 255 := by decide
   omega
  obtain ⟨l, el, hl⟩ := DrawEliminate_ok h1 h2
  obtain ⟨x1, x2⟩ := Elim_val hl
  obtain ⟨y1, y2⟩ := SolveLinear_val hl
  obtain ⟨z1, z2⟩ := Free_val hl
  obtain ⟨k1, k2⟩ := Ker_val hl
  obtain ⟨c1, c2⟩ := Count_val2 hl
  obtain ⟨s1, s2⟩ := LinSol_val hl
  have i1 := impl_IsLinear_ok hl
  have x1 : impl_Eliminate (l.1, (l.2.1, l.2.2)) = _ := x1
  have x2 : spec_Eliminate (l.1, (l.2.1, l.2.2)) = _ := x2
  have y1 : impl_SolveLinear (l.1, (l.2.1, l.2.2)) = _ := y1
  have y2 : spec_SolveLinear (l.1, (l.2.1, l.2.2)) = _ := y2
  have z1 : impl_FreeVars (l.1, (l.2.1, l.2.2)) = _ := z1
  have z2 : spec_FreeVars (l.1, (l.2.1, l.2.2)) = _ := z2
  have k1 : impl_LinearKernel (l.1, (l.2.1, l.2.2)) = _ := k1
  have k2 : spec_LinearKernel (l.1, (l.2.1, l.2.2)) = _ := k2
  have c1 : impl_CountLinear (l.1, (l.2.1, l.2.2)) = _ := c1
  have c2 : spec_CountLinear (l.1, (l.2.1, l.2.2)) = _ := c2
  have s1 : impl_LinearSolutions (l.1, (l.2.1, l.2.2)) = _ := s1
  have s2 : spec_LinearSolutions (l.1, (l.2.1, l.2.2)) = _ := s2
  have i1 : impl_IsLinear (l.1, (l.2.1, l.2.2)) = _ := i1
  have hbe : ∀ b : Bool, (b != b) = false := fun b => by cases b <;> rfl
  have hne : ∀ n : Int, (n != n) = false := fun n => by simp
  have hse : linS (elR l).1 ∧ (solR l).1.length ≤ 1048576 ∧ (frR l).1.length ≤ 1048576 ∧ ((keR l).1.length ≤ 1048576 ∧ ∀ r ∈ (keR l).1, r.length ≤ 1048576) ∧ ((liR l).1.length ≤ 1048576 ∧ ∀ r ∈ (liR l).1, r.length ≤ 1048576) := by
   cases hg : goodB l with
   | false =>
    have e1 : elR l = ((0, (0, [])), false) := by unfold elR; rw [hg]; rfl
    have e2 : solR l = ([], false) := by unfold solR; rw [hg]; rfl
    have e3 : frR l = ([], false) := by unfold frR; rw [hg]; rfl
    have e4 : keR l = ([], false) := by unfold keR; rw [hg]; rfl
    have e5 : liR l = ([], false) := by unfold liR; rw [hg]; rfl
    rw [e1, e2, e3, e4, e5]
    exact ⟨⟨by simp, by simp⟩, by simp, by simp, ⟨by simp, by simp⟩, ⟨by simp, by simp⟩⟩
   | true =>
    obtain ⟨hp, hv, hV, hN, hr⟩ := good_parts hg
    refine ⟨(el_again hg).1, ?_, ?_, ⟨?_, ?_⟩, ?_⟩
    ·unfold solR; rw [hg]; simp only [if_true]; split
     ·simp
     ·simp [solL]; omega
    ·unfold frR; rw [hg]
     have := freeL_le (N := l.2.1.toNat) (b := (esA l).2.1)
     simp only [if_true]; omega
    ·unfold keR; rw [hg]
     have := freeL_le (N := l.2.1.toNat) (b := (esA l).2.1)
     simp only [if_true, kerLs, List.length_map]; omega
    ·unfold keR; rw [hg]
     intro r hr
     obtain ⟨f, _, rfl⟩ := List.mem_map.1 hr
     simp [kerL]; omega
    ·unfold liR; rw [hg]
     simp only [if_true]
     split
     ·simp
     ·split
      ·simp
      ·rename_i hbig
       have hpb : 2 ≤ l.1 ∧ l.1 ≤ 7 := by unfold pr4 at hp; omega
       have e : ((l.1.toNat ^ (freeL l.2.1.toNat (esA l).2.1).length : Nat) : Int) = l.1 ^ (freeL l.2.1.toNat (esA l).2.1).length := by rw [Int.natCast_pow]; congr 1; omega
       have hp' := sortL_perm ((List.range (l.1.toNat ^ (freeL l.2.1.toNat (esA l).2.1).length)).map (solI l.1 l.2.1.toNat (esA l) (freeL l.2.1.toNat (esA l).2.1)))
       refine ⟨by dsimp only; rw [hp'.length_eq]; simp; omega, fun r hr => ?_⟩
       obtain ⟨i, _, rfl⟩ := List.mem_map.1 (hp'.mem_iff.1 hr)
       rw [sol_len]; omega
  obtain ⟨h3, h4, h5, h6, h7⟩ := hse
  have v1 : laws_vLinear ((elR l).1.1, ((elR l).1.2.1, (elR l).1.2.2)) ((elR l).1.1, ((elR l).1.2.1, (elR l).1.2.2)) = _ := vLinear_same h3
  simp only [el, x1, x2, y1, y2, z1, z2, k1, k2, c1, c2, s1, s2, i1, v1, vInts_same h4, vInts_same h5, vTable_same h6.1 h6.2, hbe, hne, Option.bind_some, Bool.false_eq_true, if_false, Bool.not_true]
  cases hg : goodB l with
  | false =>
   have e1 : elR l = ((0, (0, [])), false) := by unfold elR; rw [hg]; rfl
   have e2 : solR l = ([], false) := by unfold solR; rw [hg]; rfl
   have e3 : frR l = ([], false) := by unfold frR; rw [hg]; rfl
   have e4 : keR l = ([], false) := by unfold keR; rw [hg]; rfl
   have e5 : coR l = (0, false) := by unfold coR; rw [hg]; rfl
   rw [e1, e2, e3, e4, e5]
   simp
  | true =>
   obtain ⟨hp, hv, hV, hN, hr⟩ := good_parts hg
   have hpb : 2 ≤ l.1 ∧ l.1 ≤ 7 := by unfold pr4 at hp; omega
   obtain ⟨_, g2, g3⟩ := el_again hg
   have w1 := (Elim_val h3).1
   have w2 := (SolveLinear_val h3).1
   rw [g2] at w1
   rw [g3] at w2
   have w1 : impl_Eliminate ((elR l).1.1, ((elR l).1.2.1, (elR l).1.2.2)) = _ := w1
   have w2 : impl_SolveLinear ((elR l).1.1, ((elR l).1.2.1, (elR l).1.2.2)) = _ := w2
   have f1 : (elR l).2 = true := by unfold elR; rw [hg]; rfl
   have f2 : (frR l).2 = true := by unfold frR; rw [hg]; rfl
   have f3 : (keR l).2 = true := by unfold keR; rw [hg]; rfl
   have f4 : (coR l).2 = true := by unfold coR; rw [hg]; rfl
   have f5 : (keR l).1.length = (frR l).1.length := by unfold keR frR; rw [hg]; simp [kerLs]
   have f6 : (frR l).1 = freeL l.2.1.toNat (esA l).2.1 := by unfold frR; rw [hg]; rfl
   have f7 : (keR l).1 = kerLs l.1 l.2.1.toNat (esA l) := by unfold keR; rw [hg]; rfl
   have hFl : (frR l).1.length ≤ 8 := by rw [f6]; have := freeL_le (N := l.2.1.toNat) (b := (esA l).2.1); omega
   have l32 := fl_L32 (l := l) (by omega) hpb.2 (x := (solR l).1) (b := (solR l).2) (K := (keR l).1) (n := (coR l).1) hFl
   have l32 : laws_FnLinear_L32 fuel ((l.1, (l.2.1, l.2.2)), (solR l).1, (solR l).2, (frR l).1, (keR l).1, (coR l).1, 1, 0) = _ := l32
   have hs := elimF_ok hp hr l.2.1.toNat (by omega)
   have hs : ESok l.1 (l.2.1.toNat + 1) l.2.2.length l.2.1.toNat (esA l) := hs
   have hsl : (solR l).1.length ≤ l.2.1.toNat ∧ ∀ y ∈ (solR l).1, 0 ≤ y ∧ y < l.1 := by
    unfold solR; rw [hg]; simp only [if_true]; split
    ·simp
    ·refine ⟨by simp [solL], fun y hy => ?_⟩
     obtain ⟨i, _, rfl⟩ := List.mem_map.1 hy
     exact solV_in hp hs i
   have hsb : (solR l).2 = true → (solR l).1.length = l.2.1.toNat ∧ ∀ r ∈ l.2.2, cg l.1 (sumN l.2.1.toNat fun v => r.getD v 0 * (solR l).1.getD v 0) (r.getD l.2.1.toNat 0) := by
    intro ht
    cases hf : failB l.2.1.toNat (elimF l.1 l.2.2 l.2.1.toNat) with
    | true => unfold solR at ht; rw [hg, hf] at ht; simp at ht
    | false =>
     have e : (solR l).1 = solL l.2.1.toNat (elimF l.1 l.2.2 l.2.1.toNat) := by unfold solR; rw [hg, hf]; rfl
     rw [e]
     refine ⟨by simp [solL], fun r hrm => ?_⟩
     have := told_sol hp hr hf r hrm
     have ec : (sumN l.2.1.toNat fun v => r.getD v 0 * (solL l.2.1.toNat (elimF l.1 l.2.2 l.2.1.toNat)).getD v 0) = sumN l.2.1.toNat fun v => r.getD v 0 * solV l.2.1.toNat (elimF l.1 l.2.2 l.2.1.toNat) v := sumN_congr fun i hi => by
      rw [getD_of (show i < (solL l.2.1.toNat (elimF l.1 l.2.2 l.2.1.toNat)).length by simp [solL]; omega)]; simp [solL]
     rw [ec]
     exact this
   have hke : ∀ k ∈ (keR l).1, k.length = l.2.1.toNat ∧ (∀ y ∈ k, 0 ≤ y ∧ y < l.1) ∧ ∀ r ∈ l.2.2, cg l.1 (sumN l.2.1.toNat fun v => r.getD v 0 * k.getD v 0) 0 := by
    rw [f7]
    intro k hk
    have hkr := ker_row hp hs hk
    refine ⟨hkr.1, hkr.2, fun r hrm => ?_⟩
    obtain ⟨f, hf, rfl⟩ := List.mem_map.1 hk
    obtain ⟨u, hu, rfl⟩ := freeL_mem hf
    have := ker_obeys hp hr hu (freeL_not hf) hrm
    have ec : (sumN l.2.1.toNat fun v => r.getD v 0 * (kerL l.1 l.2.1.toNat (esA l) ((u : Int)).toNat).getD v 0) = sumN l.2.1.toNat fun v => r.getD v 0 * kerU l.1 (esA l) u v := sumN_congr fun i hi => by
     rw [getD_of (show i < (kerL l.1 l.2.1.toNat (esA l) ((u : Int)).toNat).length by simp [kerL]; omega)]; simp [kerL]
    rw [ec]
    exact this
   have l38 := fl_L38 (n := (coR l).1) hpb hv.symm hV hN hr (b := (solR l).2) (K := (keR l).1) (by omega) hsl hsb hke
   have l38 : laws_FnLinear_L38 fuel ((l.1, (l.2.1, l.2.2)), (solR l).1, (solR l).2, (keR l).1, (coR l).1, 0) = _ := l38
   have hcf : (solR l).2 = !failB l.2.1.toNat (esA l) := by unfold solR esA; rw [hg]; simp only [if_true]; split <;> simp_all
   have hvi : (liR l).2 = true → ((liR l).1.length : Int) = (coR l).1 ∧ ((solR l).2 = true → laws_vIn (liR l).1 (solR l).1 = some true) := by
    intro ht
    have e1 : coR l = (if failB l.2.1.toNat (esA l) then 0 else l.1 ^ (freeL l.2.1.toNat (esA l).2.1).length, true) := by unfold coR; rw [hg]; rfl
    cases hf : failB l.2.1.toNat (esA l) with
    | true =>
     have e2 : liR l = ([], true) := by unfold liR; rw [hg, hf]; rfl
     rw [e1, e2, hf]
     refine ⟨rfl, fun h => ?_⟩
     rw [hcf, hf] at h; simp at h
    | false =>
     have hbig : ¬ l.1 ^ (freeL l.2.1.toNat (esA l).2.1).length > 600 := fun hbig => by unfold liR at ht; rw [hg, hf, if_pos hbig] at ht; simp at ht
     have e2 : liR l = (sortL cmpL ((List.range (l.1.toNat ^ (freeL l.2.1.toNat (esA l).2.1).length)).map (solI l.1 l.2.1.toNat (esA l) (freeL l.2.1.toNat (esA l).2.1))), true) := by unfold liR; rw [hg, hf, if_neg hbig]; rfl
     have e : ((l.1.toNat ^ (freeL l.2.1.toNat (esA l).2.1).length : Nat) : Int) = l.1 ^ (freeL l.2.1.toNat (esA l).2.1).length := by rw [Int.natCast_pow]; congr 1; omega
     have hp' := sortL_perm ((List.range (l.1.toNat ^ (freeL l.2.1.toNat (esA l).2.1).length)).map (solI l.1 l.2.1.toNat (esA l) (freeL l.2.1.toNat (esA l).2.1)))
     refine ⟨?_, fun _ => ?_⟩
     ·rw [e1, e2, hf]
      dsimp only
      rw [hp'.length_eq, List.length_map, List.length_range, e]; simp
     ·rw [vIn_ok h7.1 h7.2, e2]
      have es : (solR l).1 = solL l.2.1.toNat (esA l) := by unfold solR; rw [hg]; simp only [if_true]; rw [show failB l.2.1.toNat (elimF l.1 l.2.2 l.2.1.toNat) = false from hf]; rfl
      rw [es]
      have hm : solL l.2.1.toNat (esA l) ∈ sortL cmpL ((List.range (l.1.toNat ^ (freeL l.2.1.toNat (esA l).2.1).length)).map (solI l.1 l.2.1.toNat (esA l) (freeL l.2.1.toNat (esA l).2.1))) := by
       rw [hp'.mem_iff, ← solI_zero hp hs (F := freeL l.2.1.toNat (esA l).2.1)]
       refine List.mem_map_of_mem (List.mem_range.2 (Nat.pow_pos (by omega)))
      simp [hm]
   have hco : (coR l).1 = if (solR l).2 then l.1 ^ (frR l).1.length else 0 := by
    rw [hcf, f6]
    unfold coR; rw [hg]; simp only [if_true]
    cases failB l.2.1.toNat (esA l) <;> rfl
   simp only [w1, w2, f1, f2, f3, f4, f5, v1, vInts_same h4, l32, l38, hbe, hne, s1, s2, vTable_same h7.1 h7.2, Option.bind_some, Bool.not_true, Bool.false_eq_true, if_false]
   cases hsol : (solR l).2 with
   | true =>
    rw [hsol] at hco hvi
    simp only [if_true] at hco
    rw [hco]
    simp only [hne, if_true, Bool.not_true, Bool.false_eq_true, if_false]
    cases hfl : (liR l).2 with
    | false => rfl
    | true =>
     obtain ⟨q1, q2⟩ := hvi hfl
     rw [hco] at q1
     simp [q1, q2 rfl]
   | false =>
    rw [hsol] at hco hvi
    simp only [Bool.false_eq_true, if_false] at hco
    rw [hco]
    simp only [hne, Bool.not_false, if_true, Bool.false_eq_true, if_false]
    cases hfl : (liR l).2 with
    | false => rfl
    | true =>
     obtain ⟨q1, q2⟩ := hvi hfl
     rw [hco] at q1
     simp [q1]
end
end T
