/- Plain lemmas on the typed functions of the program, and the plain law of FnPolymorphismNetwork; no conditions. -/
import Derived.Test.YtcdjlpcapanibacV1
import Derived.Test.YtcdjlpcapanibacV5
import Derived.KernelRfl
import Derived.Test.YtcdjlpcapanibacOFnPolymorphismNetwork
set_option linter.all false
open Go Go.Va
namespace T
def cg (p a b : Int) : Prop := ∃ k, a = b + p * k
section
variable {p a b c d : Int}
theorem cg_of (h : a = b) : cg p a b := ⟨0, by rw [h]; simp⟩
theorem cg_add (h : cg p a b) (g : cg p c d) : cg p (a + c) (b + d) := by obtain ⟨k, h⟩ := h; obtain ⟨m, g⟩ := g; exact ⟨k + m, by grind⟩
theorem cg_mul (x : Int) (h : cg p a b) : cg p (x * a) (x * b) := by obtain ⟨k, h⟩ := h; exact ⟨x * k, by grind⟩
end
inductive Sp (p : Int) (V : Nat) (A : List (List Int)) : (Nat → Int) → Prop
 | zero : Sp p V A fun _ => 0
 | add {f : Nat → Int} (r : List Int) (c : Int) : r ∈ A → Sp p V A f → Sp p V A fun i => f i + c * r.getD i 0
 | cgr {f g : Nat → Int} : Sp p V A f → (∀ i, i < V → cg p (g i) (f i)) → Sp p V A g
section
variable {p : Int} {V W N : Nat} {A B : List (List Int)} {f g : Nat → Int}
theorem Sp.lin (hf : Sp p V A f) (hg : Sp p V A g) (c : Int) : Sp p V A fun i => f i + c * g i := by
 induction hg with
 | zero => exact hf.cgr fun i _ => cg_of (by simp)
 | add r d hr _ ih => exact (ih.add r (c * d) hr).cgr fun i _ => cg_of (by grind)
 | cgr _ h ih => exact ih.cgr fun i hi => cg_add (cg_of rfl) (cg_mul c (h i hi))
theorem Sp.mem {r : List Int} (h : r ∈ A) : Sp p V A fun i => r.getD i 0 := (Sp.add r 1 h .zero).cgr fun i _ => cg_of (by simp)
theorem Sp.sub (h : ∀ r ∈ A, Sp p V B fun i => r.getD i 0) (hf : Sp p V A f) : Sp p V B f := by
 induction hf with
 | zero => exact .zero
 | add r c hr _ ih => exact ih.lin (h r hr) c
 | cgr _ h ih => exact ih.cgr h
def eqSp (p : Int) (V : Nat) (A B : List (List Int)) : Prop := ∀ f, Sp p V A f ↔ Sp p V B f
theorem eqSp_of (h : ∀ r ∈ A, Sp p V B fun i => r.getD i 0) (g : ∀ r ∈ B, Sp p V A fun i => r.getD i 0) : eqSp p V A B := fun _ => ⟨Sp.sub h, Sp.sub g⟩
end
end T
open Go Go.Va
namespace T
section
variable {p : Int} {V W N : Nat} {A B : List (List Int)} {f g : Nat → Int}
theorem getD_mem {α : Type} {l : List α} {i : Nat} {d : α} (hi : i < l.length) : l.getD i d ∈ l := by rw [getD_of hi]; exact List.getElem_mem hi
end
end T
open Go Go.Va
namespace T
section
variable {p : Int} {V W N : Nat} {A B C D : List (List Int)} {f g : Nat → Int}
theorem eqSp.symm (h : eqSp p V A B) : eqSp p V B A := fun f => (h f).symm
theorem eqSp.trans (h : eqSp p V A B) (g : eqSp p V B C) : eqSp p V A C := fun f => (h f).trans (g f)
theorem eqSp.app (h : eqSp p V A B) : eqSp p V (A ++ C) (B ++ C) := by
 have key : ∀ {A B : List (List Int)}, eqSp p V A B → ∀ r ∈ A ++ C, Sp p V (B ++ C) fun i => r.getD i 0 := fun {A B} h r hr => by
  rcases List.mem_append.1 hr with hr | hr
  ·exact Sp.sub (fun q hq => Sp.mem (List.mem_append_left _ hq)) ((h _).1 (Sp.mem hr))
  ·exact Sp.mem (List.mem_append_right _ hr)
 exact eqSp_of (key h) (key h.symm)
end
end T
open Go Go.Va
namespace T
def i64 (x : Int) : Prop := -9223372036854775808 ≤ x ∧ x ≤ 9223372036854775807
section
variable {c : List Int} {ar : Int}
end
end T
set_option linter.unusedVariables false
open Go Go.Va
namespace T
def impl_newNetSearch_L7 : Nat → ((Int × ((List (List (List Int))) × (List (List (List ByteArray))))) × ((List Int) × Int × (List (List Int))) × Int × (List ((List Int) × Int × (List (List Int)))) × Int × Int × (List Int) × Int × Int) → Option ((Int × ((List (List (List Int))) × (List (List (List ByteArray))))) × ((List Int) × Int × (List (List Int))) × Int × (List ((List Int) × Int × (List (List Int)))) × Int × Int)
 | 0, _ => none
 | n + 1, (t3, t5, t6, t20, t21, t22, t27, t28, t29) =>
  if decide (t29 < t28) then
   if inb t29 t27 then
    impl_newNetSearch_L7 n ((t3.1, (t3.2.1, t3.2.2)), (t5.1, (t5.2.1, t5.2.2)), maxI t6 (gd t27 t29 0), t20, t21, t22, t27, t28, w64 (t29 + 1))
   else none
  else
   some ((t3.1, (t3.2.1, t3.2.2)), (t5.1, (t5.2.1, t5.2.2)), t6, t20, t21, t22)
def impl_newNetSearch_L3 : Nat → ((Int × ((List (List (List Int))) × (List (List (List ByteArray))))) × (List ((List Int) × Int × (List (List Int)))) × Int × Int) → Option ((Int × ((List (List (List Int))) × (List (List (List ByteArray))))))
 | 0, _ => none
 | n + 1, (t3, t20, t21, t22) =>
  if decide (t22 < t21) then
   if inb t22 t20 then
    (impl_newNetSearch_L7 fuel ((t3.1, (t3.2.1, t3.2.2)), ((gd t20 t22 ([], (0, []))).1, (((gd t20 t22 ([], (0, []))).2).1, ((gd t20 t22 ([], (0, []))).2).2)), 0, t20, t21, t22, (gd t20 t22 ([], (0, []))).1, (((gd t20 t22 ([], (0, []))).1).length : Int), 0)).bind fun s1 =>
     if inb s1.2.2.1 s1.1.2.1 then
      if (gd s1.1.2.1 s1.2.2.1 []).length + [s1.2.1.1].length ≤ lim then
       if inb s1.2.2.1 s1.1.2.1 then
        if s1.2.2.1 = s1.2.2.1 then
         if inb s1.2.2.1 s1.1.2.2 then
          (impl_tupleSet (s1.2.1.2.1, s1.2.1.2.2)).bind fun r2 =>
           if (gd s1.1.2.2 s1.2.2.1 []).length + [r2].length ≤ lim then
            if inb s1.2.2.1 s1.1.2.2 then
             if s1.2.2.1 = s1.2.2.1 then
              impl_newNetSearch_L3 n ((s1.1.1, (stt s1.1.2.1 s1.2.2.1 ((gd s1.1.2.1 s1.2.2.1 []) ++ [s1.2.1.1]), stt s1.1.2.2 s1.2.2.1 ((gd s1.1.2.2 s1.2.2.1 []) ++ [r2]))), s1.2.2.2.1, s1.2.2.2.2.1, w64 (s1.2.2.2.2.2 + 1))
             else none
            else none
           else none
         else none
        else none
       else none
      else none
     else none
   else none
  else
   some (t3.1, (t3.2.1, t3.2.2))
def impl_newNetSearch (t0 : Int × Int × (List ((List Int) × Int × (List (List Int))))) : Option ((Bool × Int × (List (List (List Int))) × (List (List (List ByteArray))))) :=
 if 0 ≤ t0.1 ∧ t0.1 ≤ t0.1 ∧ t0.1 ≤ lim then
  if 0 ≤ t0.1 ∧ t0.1 ≤ t0.1 ∧ t0.1 ≤ lim then
   (impl_newNetSearch_L3 fuel ((t0.2.1, (List.replicate (Int.toNat t0.1) ([] : List (List Int)), List.replicate (Int.toNat t0.1) ([] : List (List ByteArray)))), t0.2.2, (t0.2.2.length : Int), 0)).bind fun s1 =>
    some (true, (s1.1, (s1.2.1, s1.2.2)))
  else none
 else none
end T
open Go Go.Va
namespace T
abbrev NS := Bool × Int × List (List (List Int)) × List (List (List ByteArray))
abbrev NIn (σ : Type) := Int × List Int × σ × NS × List Int × Unit
abbrev NOut (σ : Type) := List Int × σ × NS × List Int × Bool
def hM {σ : Type} : Nat → (Int × List Int × σ × NS × List Int × Unit × Int × Bool × List (List Int) × Int × Int) → Option (Int × List Int × σ × NS × List Int × Unit × Int × Bool)
 | 0, _ => none
 | n + 1, (t0, t1, t2, t3, t4, t5, t8, t9, t50, t51, t52) =>
  if decide (t52 < t51) then
   if inb t52 t50 then
    if t9 then
     if t3.1 = true then
      if inb t0 t3.2.2.2 then
       if inb t52 (gd t3.2.2.2 t0 []) then
        (impl_compose (gd t50 t52 []) t1).bind fun r2 =>
         (impl_keyOf r2).bind fun r3 =>
          hM n (t0, t1, t2, t3, t4, (), t8, mhas (gd (gd t3.2.2.2 t0 []) t52 []) r3, t50, t51, w64 (t52 + 1))
       else none
      else none
     else none
    else
     hM n (t0, t1, t2, t3, t4, (), t8, false, t50, t51, w64 (t52 + 1))
   else none
  else
   some (t0, t1, t2, t3, t4, (), t8, t9)
def hL {σ : Type} (rec : NIn σ → Option (NOut σ)) : Nat → (Int × List Int × σ × NS × List Int × Unit × Int) → Option ((List Int × σ × NS × List Int × Unit) ⊕ (List Int × σ × NS × List Int × Unit × Bool))
 | 0, _ => none
 | n + 1, (t0, t1, t2, t3, t4, t5, t8) =>
  if t3.1 = true then
   if decide (t8 < t3.2.1) then
    if inb t0 t4 then
     if decide ((gd t4 t0 0) ≥ 0) then
      if inb t0 t4 then
       if (gd t4 t0 0) != t8 then
        hL rec n (t0, t1, t2, t3, t4, (), w64 (t8 + 1))
       else
        if inb t0 t1 then
         if t3.1 = true then
          if inb t0 t3.2.2.1 then
           (hM fuel (t0, stt t1 t0 t8, t2, t3, t4, (), t8, true, gd t3.2.2.1 t0 [], ((gd t3.2.2.1 t0 []).length : Int), 0)).bind fun s2 =>
            if s2.2.2.2.2.2.2.2 then
             (rec (w64 (s2.1 + 1), s2.2.1, s2.2.2.1, s2.2.2.2.1, s2.2.2.2.2.1, ())).bind fun r3 =>
              if !r3.2.2.2.2 then
               some (.inr (r3.1, r3.2.1, r3.2.2.1, r3.2.2.2.1, (), false))
              else
               hL rec n (s2.1, r3.1, r3.2.1, r3.2.2.1, r3.2.2.2.1, (), w64 (s2.2.2.2.2.2.2.1 + 1))
            else
             hL rec n (s2.1, s2.2.1, s2.2.2.1, s2.2.2.2.1, s2.2.2.2.2.1, (), w64 (s2.2.2.2.2.2.2.1 + 1))
          else none
         else none
        else none
      else none
     else
      if inb t0 t1 then
       if t3.1 = true then
        if inb t0 t3.2.2.1 then
         (hM fuel (t0, stt t1 t0 t8, t2, t3, t4, (), t8, true, gd t3.2.2.1 t0 [], ((gd t3.2.2.1 t0 []).length : Int), 0)).bind fun s4 =>
          if s4.2.2.2.2.2.2.2 then
           (rec (w64 (s4.1 + 1), s4.2.1, s4.2.2.1, s4.2.2.2.1, s4.2.2.2.2.1, ())).bind fun r5 =>
            if !r5.2.2.2.2 then
             some (.inr (r5.1, r5.2.1, r5.2.2.1, r5.2.2.2.1, (), false))
            else
             hL rec n (s4.1, r5.1, r5.2.1, r5.2.2.1, r5.2.2.2.1, (), w64 (s4.2.2.2.2.2.2.1 + 1))
          else
           hL rec n (s4.1, s4.2.1, s4.2.2.1, s4.2.2.2.1, s4.2.2.2.2.1, (), w64 (s4.2.2.2.2.2.2.1 + 1))
        else none
       else none
      else none
    else none
   else
    some (.inl (t1, t2, t3, t4, ()))
  else none
def hBody {σ : Type} (cb : List Int → σ → Option (σ × Bool)) (rec : NIn σ → Option (NOut σ)) (x : NIn σ) : Option (NOut σ) :=
 if x.1 == (x.2.1.length : Int) then
  (cb x.2.1 x.2.2.1).bind fun r1 => some (x.2.1, r1.1, x.2.2.2.1, x.2.2.2.2.1, r1.2)
 else
  (hL rec fuel (x.1, x.2.1, x.2.2.1, x.2.2.2.1, x.2.2.2.2.1, (), 0)).bind fun s2 =>
   match s2 with
   | .inl s3 => some (s3.1, s3.2.1, s3.2.2.1, s3.2.2.2.1, true)
   | .inr s4 => some (s4.1, s4.2.1, s4.2.2.1, s4.2.2.2.1, s4.2.2.2.2.2)
def hF {σ : Type} (cb : List Int → σ → Option (σ × Bool)) : Nat → NIn σ → Option (NOut σ)
 | 0, _ => none
 | d + 1, x => hBody cb (hF cb d) x
def mostC (c : Con) : Nat := c.1.foldl (fun m v => max m v.toNat) 0
def conAt (cs : List Con) (v : Nat) : List Con := cs.filter fun c => mostC c == v
def scopesN (cs : List Con) (V : Nat) : List (List (List Int)) := (List.range V).map fun v => (conAt cs v).map (·.1)
def setsN (cs : List Con) (V : Nat) : List (List (List ByteArray)) := (List.range V).map fun v => (conAt cs v).map fun c => keys c.2.2
def okN (cs : List Con) (pre : List Int) : Bool := (conAt cs (pre.length - 1)).all (conH pre)
theorem max_fold : ∀ (l : List Int) (m : Nat), m ≤ l.foldl (fun m v => max m v.toNat) m ∧ (∀ v ∈ l, v.toNat ≤ l.foldl (fun m v => max m v.toNat) m) ∧ ∀ B, m ≤ B → (∀ v ∈ l, v.toNat ≤ B) → l.foldl (fun m v => max m v.toNat) m ≤ B
 | [], m => ⟨Nat.le_refl _, by simp, fun B h _ => h⟩
 | v :: l, m => by
  obtain ⟨h1, h2, h3⟩ := max_fold l (max m v.toNat)
  simp only [List.foldl_cons]
  refine ⟨by omega, fun w hw => ?_, fun B h h' => h3 B (by have := h' v (List.mem_cons_self ..); omega) fun w hw => h' w (List.mem_cons_of_mem _ hw)⟩
  rcases List.mem_cons.1 hw with rfl | hw
  ·omega
  ·exact h2 w hw
section
variable {V n : Nat} {cs : List Con} {given : List Int}
structure SrchOk (V n : Nat) (cs : List Con) : Prop where
 hv : V ≤ 9
 hn : 1 ≤ n ∧ n ≤ 4
 hc : cs.length ≤ 40
 con : ∀ c ∈ cs, ConOk (V : Int) (n : Int) c
theorem mem_conAt {c : Con} {v : Nat} : c ∈ conAt cs v ↔ c ∈ cs ∧ mostC c = v := by simp [conAt]
theorem conAt_ok (h : SrchOk V n cs) {v : Nat} {c : Con} (hc : c ∈ conAt cs v) : ConOk ((v + 1 : Nat) : Int) (n : Int) c ∧ v < V := by
 obtain ⟨h1, h2⟩ := mem_conAt.1 hc
 have hk := h.con c h1
 obtain ⟨_, g2, g3⟩ := max_fold c.1 0
 have hv : v < V := by
  have hm := hk.ar
  have hsl := hk.sl
  have h0 := hk.sv 0 (by omega)
  have := g3 (V - 1) (by omega) fun w hw => by
   obtain ⟨i, hi, rfl⟩ := List.mem_iff_getElem.1 hw
   have := hk.sv i hi
   omega
  have : mostC c ≤ V - 1 := this
  omega
 refine ⟨⟨hk.ar, hk.sl, fun i hi => ?_, hk.tl, hk.tv, hk.inc, hk.many⟩, hv⟩
 have h3 := hk.sv i hi
 have h4 := g2 _ (List.getElem_mem hi)
 have h4 : (c.1[i]).toNat ≤ mostC c := h4
 omega
theorem conH_take (h : SrchOk V n cs) {v : Nat} {c : Con} (hc : c ∈ conAt cs v) (tab : List Int) : conH (tab.take (v + 1)) c = conH tab c := by
 have hk := (conAt_ok h hc).1
 unfold conH
 have : c.1.map (valI (tab.take (v + 1))) = c.1.map (valI tab) := List.map_congr_left fun x hx => by
  obtain ⟨i, hi, rfl⟩ := List.mem_iff_getElem.1 hx
  have := hk.sv i hi
  unfold valI
  rw [List.getD_eq_getElem?_getD, List.getD_eq_getElem?_getD, List.getElem?_take, if_pos (by omega)]
 rw [this]
theorem okN_take (h : SrchOk V n cs) {v : Nat} {tab : List Int} (hv : v < tab.length) : okN cs (tab.take (v + 1)) = (conAt cs v).all (conH tab) := by
 unfold okN
 rw [List.length_take, show min (v + 1) tab.length - 1 = v by omega, Bool.eq_iff_iff, List.all_eq_true, List.all_eq_true]
 exact ⟨fun g c hc => by rw [← conH_take h hc]; exact g c hc, fun g c hc => by rw [conH_take h hc]; exact g c hc⟩
theorem scopesN_get {v : Nat} (hv : v < V) : (scopesN cs V).length = V ∧ (scopesN cs V).getD v [] = (conAt cs v).map (·.1) := by
 refine ⟨by simp [scopesN], ?_⟩
 rw [getD_of (by simp [scopesN]; exact hv)]; simp [scopesN]
theorem setsN_get {v : Nat} (hv : v < V) : (setsN cs V).length = V ∧ (setsN cs V).getD v [] = (conAt cs v).map fun c => keys c.2.2 := by
 refine ⟨by simp [setsN], ?_⟩
 rw [getD_of (by simp [setsN]; exact hv)]; simp [setsN]
theorem hM_ok (h : SrchOk V n cs) {v : Nat} (hv : v < V) {tab : List Int} (ht : tab.length = V) (htv : ∀ x ∈ tab, 0 ≤ x ∧ x < 256) {σ : Type} (s : σ) (x : Int) :
    hM fuel ((v : Int), tab, s, (true, ((n : Int), (scopesN cs V, setsN cs V))), given, (), x, true, gd (scopesN cs V) (v : Int) [], ((gd (scopesN cs V) (v : Int) []).length : Int), 0) =
      some ((v : Int), tab, s, (true, ((n : Int), (scopesN cs V, setsN cs V))), given, (), x, okN cs (tab.take (v + 1))) := by
  obtain ⟨l1, e1⟩ := scopesN_get (cs := cs) hv
  obtain ⟨l2, e2⟩ := setsN_get (cs := cs) hv
  have hn := h.hn
  have hg1 : gd (scopesN cs V) (v : Int) [] = (conAt cs v).map (·.1) := e1
  have hg2 : gd (setsN cs V) (v : Int) [] = (conAt cs v).map fun c => keys c.2.2 := e2
  rw [okN_take h (by omega), hg1]
  have hlen : (conAt cs v).length ≤ 40 := Nat.le_trans (List.length_filter_le _ _) h.hc
  have := forS (conAt cs v).length (fun f (o : Bool) i => hM f ((v : Int), tab, s, (true, ((n : Int), (scopesN cs V, setsN cs V))), given, (), x, o, (conAt cs v).map (·.1), (((conAt cs v).map (·.1)).length : Int), i)) (fun k => ((conAt cs v).take k).all (conH tab)) (r := some ((v : Int), tab, s, (true, ((n : Int), (scopesN cs V, setsN cs V))), given, (), x, (conAt cs v).all (conH tab))) (fun f k hk => ?_) (fun f => ?_) (n := fuel) (by unfold fuel; omega)
  · exact this
  · have hmem := List.getElem_mem hk
    have hcon := (conAt_ok h hmem).1
    have hsl := hcon.sl
    have har := hcon.ar
    have hmany := hcon.many
    have hin : inb (k : Int) ((conAt cs v).map (·.1)) := by unfold inb; rw [List.length_map]; omega
    have hgk : gd ((conAt cs v).map (·.1)) (k : Int) [] = (conAt cs v)[k].1 := by
      have := gd_nat (xs := (conAt cs v).map (·.1)) (d := []) (k := k) (by simpa using hk)
      rw [this]; simp
    have hin2 : inb (k : Int) ((conAt cs v).map fun c => keys c.2.2) := by unfold inb; rw [List.length_map]; omega
    have hgk2 : gd ((conAt cs v).map fun c => keys c.2.2) (k : Int) [] = keys (conAt cs v)[k].2.2 := by
      have := gd_nat (xs := (conAt cs v).map fun c => keys c.2.2) (d := []) (k := k) (by simpa using hk)
      rw [this]; simp
    have hsc : ∀ y ∈ (conAt cs v)[k].1, 0 ≤ y ∧ y < tab.length := fun y hy => by
      obtain ⟨i, hi, rfl⟩ := List.mem_iff_getElem.1 hy
      have := hcon.sv i hi
      omega
    have hc := impl_compose_ok (f := (conAt cs v)[k].1) (g := tab) (by omega) hsc
    have hval : ∀ y ∈ (conAt cs v)[k].1.map (valI tab), 0 ≤ y ∧ y < 256 := fun y hy => by
      obtain ⟨z, hz, rfl⟩ := List.mem_map.1 hy
      have := hsc z hz
      exact htv _ (getD_mem (by omega))
    have hk2 := impl_keyOf_ok (l := (conAt cs v)[k].1.map (valI tab)) (by rw [List.length_map]; omega) hval
    have hmk := mhas_keys (l := (conAt cs v)[k].2.2) (t := (conAt cs v)[k].1.map (valI tab)) (fun t ht y hy => by
      obtain ⟨i, hi, rfl⟩ := List.mem_iff_getElem.1 hy
      have := hcon.tv t ht i hi
      omega) hval
    have hiv : inb (v : Int) (setsN cs V) := by unfold inb; omega
    have htk : ((conAt cs v).take (k + 1)).all (conH tab) = (((conAt cs v).take k).all (conH tab) && conH tab (conAt cs v)[k]) := by
      rw [List.take_succ_eq_append_getElem hk, List.all_append]; simp
    simp only [hM, hin, hgk, hc, hk2, hiv, hg2, hin2, hgk2, hmk, Option.bind_some, w64_succ (show k < 4611686018427387904 by omega), htk, if_true]
    rw [if_pos (by simp; omega)]
    cases ((conAt cs v).take k).all (conH tab) with
    | false => simp
    | true => simp [conH]
  · simp only [hM, List.take_length]
    rw [if_neg (by simp)]
end
end T
open Go Go.Va
namespace T
section
variable {V n : Nat} {cs : List Con} {given : List Int}
abbrev nsOf (V n : Nat) (cs : List Con) : NS := (true, ((n : Int), (scopesN cs V, setsN cs V)))
theorem hF_ok (h : SrchOk V n cs) (hg : given.length = V) {σ : Type} (cb : List Int → σ → Option (σ × Bool)) : ∀ (m d at' : Nat) (tab : List Int) (s : σ), at' + m = V → m < d → tab.length = V → (∀ x ∈ tab, 0 ≤ x ∧ x < 256) →
    ∀ s' b, foldU cb (extL n given (okN cs) m (tab.take at')) s = some (s', b) →
    ∃ tab' : List Int, tab'.length = V ∧ (∀ x ∈ tab', 0 ≤ x ∧ x < 256) ∧ tab'.take at' = tab.take at' ∧ hF cb d ((at' : Int), tab, s, nsOf V n cs, given, ()) = some (tab', s', nsOf V n cs, given, b) := by
  have hn := h.hn
  have hV := h.hv
  intro m
  induction m with
  | zero =>
    intro d a tab s ha hd ht hv s' b hf
    obtain ⟨d, rfl⟩ : ∃ z, d = z + 1 := ⟨d - 1, by omega⟩
    have e : tab.take a = tab := List.take_of_length_le (by omega)
    rw [e] at hf
    simp only [extL, foldU] at hf
    refine ⟨tab, ht, hv, rfl, ?_⟩
    simp only [hF, hBody]
    rw [if_pos (by simp; omega)]
    cases hc : cb tab s with
    | none => rw [hc] at hf; exact absurd hf (by simp)
    | some q =>
      obtain ⟨s1, b1⟩ := q
      rw [hc] at hf
      have : s1 = s' ∧ b1 = b := by cases b1 <;> simpa using hf
      obtain ⟨rfl, rfl⟩ := this
      rfl
  | succ m ih =>
    intro d a tab s ha hd ht hv s' b hf
    obtain ⟨d, rfl⟩ : ∃ z, d = z + 1 := ⟨d - 1, by omega⟩
    have hat : a < V := by omega
    have key : ∀ (c x f : Nat) (tab1 : List Int) (s1 : σ), x + c = n → c < f → tab1.length = V → (∀ x ∈ tab1, 0 ≤ x ∧ x < 256) → tab1.take a = tab.take a → ∀ s' b,
        foldU cb ((List.range' x c).flatMap fun x => if mstB given (tab.take a).length x && okN cs (tab.take a ++ [(x : Int)]) then extL n given (okN cs) m (tab.take a ++ [(x : Int)]) else []) s1 = some (s', b) →
        ∃ tab' : List Int, tab'.length = V ∧ (∀ x ∈ tab', 0 ≤ x ∧ x < 256) ∧ tab'.take a = tab.take a ∧ hL (hF cb d) f ((a : Int), tab1, s1, nsOf V n cs, given, (), (x : Int)) = some (if b then .inl (tab', s', nsOf V n cs, given, ()) else .inr (tab', s', nsOf V n cs, given, (), false)) := by
      intro c
      induction c with
      | zero =>
        intro x f tab1 s1 hx hf1 ht1 hv1 htk s' b hf2
        obtain ⟨f, rfl⟩ : ∃ z, f = z + 1 := ⟨f - 1, by omega⟩
        have : s1 = s' ∧ true = b := by simpa [foldU] using hf2
        obtain ⟨rfl, rfl⟩ := this
        refine ⟨tab1, ht1, hv1, htk, ?_⟩
        simp only [hL]
        rw [if_pos trivial, if_neg (by simp; omega)]; rfl
      | succ c ihc =>
        intro x f tab1 s1 hx hf1 ht1 hv1 htk s' b hf2
        obtain ⟨f, rfl⟩ : ∃ z, f = z + 1 := ⟨f - 1, by omega⟩
        have hlen : (tab.take a).length = a := by rw [List.length_take]; omega
        have hag : a < given.length := by omega
        have hat1 : a < tab1.length := by omega
        have hsc : a < (scopesN cs V).length := by rw [(scopesN_get (cs := cs) hat).1]; exact hat
        rw [List.range'_succ, List.flatMap_cons, foldU_append, hlen] at hf2
        rw [hlen] at ihc
        have hset : (tab1.set a (x : Int)).take (a + 1) = tab.take a ++ [(x : Int)] := by
          rw [List.take_succ_eq_append_getElem (by simp; omega), List.take_set_of_le (Nat.le_refl _), List.getElem_set_self, htk]
        have hsl : (tab1.set a (x : Int)).length = V := by simp [ht1]
        have hsv : ∀ y ∈ tab1.set a (x : Int), 0 ≤ y ∧ y < 256 := fun y hy => by
          rcases List.mem_or_eq_of_mem_set hy with h1 | h1
          · exact hv1 y h1
          · subst h1; omega
        have hst : (tab1.set a (x : Int)).take a = tab.take a := by rw [List.take_set_of_le (Nat.le_refl _), htk]
        have hfit := hM_ok (given := given) h hat hsl hsv s1 (x : Int)
        rw [hset] at hfit
        have hw : w64 ((x : Int) + 1) = ((x + 1 : Nat) : Int) := w64_succ (by omega)
        have hwa : w64 ((a : Int) + 1) = ((a + 1 : Nat) : Int) := w64_succ (by omega)
        have step : mstB given a x = true → ∀ R, R = (hM fuel ((a : Int), tab1.set a (x : Int), s1, nsOf V n cs, given, (), (x : Int), true, gd (scopesN cs V) (a : Int) [], ((gd (scopesN cs V) (a : Int) []).length : Int), 0)).bind (fun s4 =>
                if s4.2.2.2.2.2.2.2 then
                  (hF cb d (w64 (s4.1 + 1), s4.2.1, s4.2.2.1, s4.2.2.2.1, s4.2.2.2.2.1, ())).bind fun r5 =>
                    if !r5.2.2.2.2 then
                      some (.inr (r5.1, r5.2.1, r5.2.2.1, r5.2.2.2.1, (), false))
                    else
                      hL (hF cb d) f (s4.1, r5.1, r5.2.1, r5.2.2.1, r5.2.2.2.1, (), w64 (s4.2.2.2.2.2.2.1 + 1))
                else
                  hL (hF cb d) f (s4.1, s4.2.1, s4.2.2.1, s4.2.2.2.1, s4.2.2.2.2.1, (), w64 (s4.2.2.2.2.2.2.1 + 1))) →
            ∃ tab' : List Int, tab'.length = V ∧ (∀ x ∈ tab', 0 ≤ x ∧ x < 256) ∧ tab'.take a = tab.take a ∧ R = some (if b then .inl (tab', s', nsOf V n cs, given, ()) else .inr (tab', s', nsOf V n cs, given, (), false)) := by
          intro hm R hR
          rw [hfit] at hR
          simp only [Option.bind_some] at hR
          rw [hm] at hf2
          cases hfi : okN cs (tab.take a ++ [(x : Int)]) with
          | false =>
            rw [hfi] at hf2 hR
            simp only [Bool.and_false, Bool.false_eq_true, if_false, foldU] at hf2 hR
            rw [hw] at hR
            rw [hR]
            exact ihc (x + 1) f _ s1 (by omega) (by omega) hsl hsv hst s' b hf2
          | true =>
            rw [hfi] at hf2 hR
            simp only [Bool.and_true, if_true] at hf2 hR
            rw [hwa] at hR
            cases hq : foldU cb (extL n given (okN cs) m (tab.take a ++ [(x : Int)])) s1 with
            | none => rw [hq] at hf2; exact absurd hf2 (by simp)
            | some q =>
              obtain ⟨s2, b2⟩ := q
              rw [hq] at hf2
              rw [← hset] at hq
              obtain ⟨tab2, h1, h2, h3, h4⟩ := ih d (a + 1) _ s1 (by omega) (by omega) hsl hsv s2 b2 hq
              have h3' : tab2.take a = tab.take a := by
                have := congrArg (List.take a) h3
                rw [List.take_take, List.take_take, Nat.min_eq_left (by omega)] at this
                rw [this, hst]
              rw [h4] at hR
              simp only [Option.bind_some] at hR
              cases b2 with
              | false =>
                have : s2 = s' ∧ false = b := by simpa using hf2
                obtain ⟨rfl, rfl⟩ := this
                refine ⟨tab2, h1, h2, h3', ?_⟩
                rw [hR]; rfl
              | true =>
                simp only [Bool.not_true, Bool.false_eq_true, if_false, hw] at hR
                rw [hR]
                exact ihc (x + 1) f tab2 s2 (by omega) (by omega) h1 h2 h3' s' b hf2
        simp only [hL, stt_nat, inb_nat, hag, hat1, hsc, if_true]
        rw [if_pos (by simp; omega)]
        by_cases hc1 : gd given (a : Int) 0 ≥ 0
        · rw [if_pos (decide_eq_true hc1)]
          by_cases hc2 : gd given (a : Int) 0 = (x : Int)
          · rw [if_neg (by simpa using hc2)]
            exact step (by unfold mstB; rw [show given.getD a 0 = (x : Int) from hc2]; simp) _ rfl
          · rw [if_pos (by simpa using hc2), hw]
            have hm : mstB given a x = false := by
              unfold mstB
              rw [decide_eq_true (show given.getD a 0 ≥ 0 from hc1)]
              simp only [Bool.true_and, Bool.not_eq_false', bne_iff_ne]; exact hc2
            rw [hm] at hf2
            simp only [Bool.false_and, Bool.false_eq_true, if_false, foldU] at hf2
            exact ihc (x + 1) f tab1 s1 (by omega) (by omega) ht1 hv1 htk s' b hf2
        · rw [if_neg (by simpa using hc1)]
          exact step (by unfold mstB; rw [decide_eq_false (show ¬ given.getD a 0 ≥ 0 from hc1)]; rfl) _ rfl
    simp only [extL] at hf
    rw [List.range_eq_range'] at hf
    obtain ⟨tab', h1, h2, h3, h4⟩ := key n 0 fuel tab s (by omega) (by unfold fuel; omega) ht hv rfl s' b hf
    refine ⟨tab', h1, h2, h3, ?_⟩
    simp only [hF, hBody]
    rw [if_neg (by simp; omega)]
    have h4 : hL (hF cb d) fuel ((a : Int), tab, s, nsOf V n cs, given, (), 0) = _ := h4
    rw [h4]
    cases b <;> rfl
def solsN (V n : Nat) (cs : List Con) (given : List Int) : List (List Int) := extL n given (okN cs) V []
theorem maxI_of {a b : Nat} {x : Int} (hx : x = (b : Int)) : maxI (a : Int) x = ((max a b : Nat) : Int) := by
 subst hx; unfold maxI; split <;> omega
theorem newNet_ok (h : SrchOk V n cs) : impl_newNetSearch ((V : Int), ((n : Int), cs)) = some (nsOf V n cs) := by
 have hV := h.hv
 have hc := h.hc
 unfold impl_newNetSearch
 have h3 := forS cs.length (fun f (o : Int × (List (List (List Int)) × List (List (List ByteArray)))) i => impl_newNetSearch_L3 f (o, cs, (cs.length : Int), i)) (fun k => ((n : Int), (scopesN (cs.take k) V, setsN (cs.take k) V))) (r := some ((n : Int), (scopesN cs V, setsN cs V))) (fun f k hk => ?_) (fun f => ?_) (n := fuel) (by unfold fuel; omega)
 ·have e1 : scopesN (cs.take 0) V = List.replicate V [] := by
   unfold scopesN conAt; simp [List.map_const']
  have e2 : setsN (cs.take 0) V = List.replicate V [] := by
   unfold setsN conAt; simp [List.map_const']
  rw [e1, e2] at h3
  have h3 : impl_newNetSearch_L3 fuel (((n : Int), (List.replicate (Int.toNat (V : Int)) ([] : List (List Int)), List.replicate (Int.toNat (V : Int)) ([] : List (List ByteArray)))), cs, (cs.length : Int), 0) = _ := h3
  rw [if_pos (by unfold lim; omega), if_pos (by unfold lim; omega), h3]; rfl
 ·have hcon := h.con _ (List.getElem_mem hk)
  have hsl := hcon.sl
  have har := hcon.ar
  have hmany := hcon.many
  have h7 := forS cs[k].1.length (fun f (o : Int) i => impl_newNetSearch_L7 f (((n : Int), (scopesN (cs.take k) V, setsN (cs.take k) V)), cs[k], o, cs, (cs.length : Int), (k : Int), cs[k].1, (cs[k].1.length : Int), i)) (fun j => (((cs[k].1.take j).foldl (fun m v => max m v.toNat) 0 : Nat) : Int)) (r := some (((n : Int), (scopesN (cs.take k) V, setsN (cs.take k) V)), cs[k], (mostC cs[k] : Int), cs, (cs.length : Int), (k : Int))) (fun f j hj => ?_) (fun f => ?_) (n := fuel) (by unfold fuel; omega)
  ·have hm : mostC cs[k] < V := (conAt_ok h (mem_conAt.2 ⟨List.getElem_mem hk, rfl⟩)).2
   have h7 : impl_newNetSearch_L7 fuel (((n : Int), (scopesN (cs.take k) V, setsN (cs.take k) V)), (cs[k].1, (cs[k].2.1, cs[k].2.2)), 0, cs, (cs.length : Int), (k : Int), cs[k].1, (cs[k].1.length : Int), 0) = _ := h7
   obtain ⟨l1, e1⟩ := scopesN_get (cs := cs.take k) hm
   obtain ⟨l2, e2⟩ := setsN_get (cs := cs.take k) hm
   have hi1 : inb (mostC cs[k] : Int) (scopesN (cs.take k) V) := by unfold inb; omega
   have hi2 : inb (mostC cs[k] : Int) (setsN (cs.take k) V) := by unfold inb; omega
   have g1 : gd (scopesN (cs.take k) V) (mostC cs[k] : Int) [] = (conAt (cs.take k) (mostC cs[k])).map (·.1) := e1
   have g2 : gd (setsN (cs.take k) V) (mostC cs[k] : Int) [] = (conAt (cs.take k) (mostC cs[k])).map fun c => keys c.2.2 := e2
   have hts := impl_tupleSet_ok (r := (cs[k].2.1, cs[k].2.2)) (show cs[k].2.2.length ≤ 1048576 by omega) (fun t ht => ⟨by have := hcon.tl t ht; omega, fun y hy => by
    obtain ⟨i, hi, rfl⟩ := List.mem_iff_getElem.1 hy
    have := hcon.tv t ht i hi
    have := h.hn
    omega⟩)
   have hcl : (conAt (cs.take k) (mostC cs[k])).length ≤ 40 := Nat.le_trans (List.length_filter_le _ _) (by rw [List.length_take]; omega)
   have hca : ∀ v, conAt (cs.take (k + 1)) v = conAt (cs.take k) v ++ (if mostC cs[k] = v then [cs[k]] else []) := fun v => by
    unfold conAt
    rw [List.take_succ_eq_append_getElem hk, List.filter_append]
    congr 1
    by_cases e : mostC cs[k] = v <;> simp [e]
   have s1 : (scopesN (cs.take k) V).set (mostC cs[k]) ((conAt (cs.take k) (mostC cs[k])).map (·.1) ++ [cs[k].1]) = scopesN (cs.take (k + 1)) V := by
    apply List.ext_getElem
    ·simp [scopesN]
    ·intro v h1 h2
     rw [List.getElem_set]
     simp only [scopesN, List.getElem_map, List.getElem_range, hca, List.map_append]
     by_cases e : mostC cs[k] = v
     ·rw [if_pos e, if_pos e, ← e]; rfl
     ·rw [if_neg e, if_neg e]; simp
   have s2 : (setsN (cs.take k) V).set (mostC cs[k]) ((conAt (cs.take k) (mostC cs[k])).map (fun c => keys c.2.2) ++ [keys cs[k].2.2]) = setsN (cs.take (k + 1)) V := by
    apply List.ext_getElem
    ·simp [setsN]
    ·intro v h1 h2
     rw [List.getElem_set]
     simp only [setsN, List.getElem_map, List.getElem_range, hca, List.map_append]
     by_cases e : mostC cs[k] = v
     ·rw [if_pos e, if_pos e, ← e]; rfl
     ·rw [if_neg e, if_neg e]; simp
   simp only [impl_newNetSearch_L3, inb_nat, hk, gd_nat hk, h7, Option.bind_some, if_true, inb_nat.1 hi1, inb_nat.1 hi2, g1, g2, hts, stt_nat, s1, s2, w64_succ (show k < 4611686018427387904 by omega)]
   rw [if_pos (by simp; omega), if_pos (by simp; unfold lim; omega), if_pos (by simp; unfold lim; omega)]
  ·have hj' := hcon.sv j hj
   have e := maxI_of (a := (cs[k].1.take j).foldl (fun m v => max m v.toNat) 0) (b := (cs[k].1[j]).toNat) (x := cs[k].1[j]) (by omega)
   have e2 : (cs[k].1.take (j + 1)).foldl (fun m v => max m v.toNat) 0 = max ((cs[k].1.take j).foldl (fun m v => max m v.toNat) 0) (cs[k].1[j]).toNat := by
    rw [List.take_succ_eq_append_getElem hj, List.foldl_append]; rfl
   simp only [impl_newNetSearch_L7, inb_nat, hj, gd_nat hj, e, e2, if_true, w64_succ (show j < 4611686018427387904 by omega)]
   rw [if_pos (by simp; omega)]
  ·simp only [impl_newNetSearch_L7, List.take_length]
   rw [if_neg (by simp)]; rfl
 ·simp only [impl_newNetSearch_L3, List.take_length]
  rw [if_neg (by simp)]
end
end T
set_option linter.unusedVariables false
open Go Go.Va
namespace T
def spec_l1Cur_next (c : (List Int) × Int × Int) : Option (((List Int) × Int × Int) × Int) :=
 if decide (c.2.1 < (c.1.length : Int)) then
  if inb c.2.1 c.1 then
   if decide ((w64 (c.2.1 + 1)) ≤ (c.1.length : Int)) then
    some ((c.1, (w64 (c.2.1 + 1), IntKind.wrap .u64 ((IntKind.wrap .u64 ((IntKind.wrap .u64 (c.2.2 * 6364136223846793005)) + (IntKind.wrap .u64 (w64 (gd c.1 c.2.1 0))))) + 550289))), w64 (gd c.1 c.2.1 0))
   else
    if (0 : Int) ≤ 40 then
     some ((c.1, (w64 (c.2.1 + 1), IntKind.wrap .u64 ((IntKind.wrap .u64 ((IntKind.wrap .u64 (c.2.2 * 6364136223846793005)) + (IntKind.wrap .u64 (w64 (gd c.1 c.2.1 0))))) + 550289))), w64 (andI .u64 (shrI .u64 (IntKind.wrap .u64 ((IntKind.wrap .u64 ((IntKind.wrap .u64 (c.2.2 * 6364136223846793005)) + (IntKind.wrap .u64 (w64 (gd c.1 c.2.1 0))))) + 550289)) 40) 255))
    else none
  else none
 else
  if decide ((w64 (c.2.1 + 1)) ≤ (c.1.length : Int)) then
   some ((c.1, (w64 (c.2.1 + 1), IntKind.wrap .u64 ((IntKind.wrap .u64 ((IntKind.wrap .u64 (c.2.2 * 6364136223846793005)) + (IntKind.wrap .u64 (0)))) + 550289))), 0)
  else
   if (0 : Int) ≤ 40 then
    some ((c.1, (w64 (c.2.1 + 1), IntKind.wrap .u64 ((IntKind.wrap .u64 ((IntKind.wrap .u64 (c.2.2 * 6364136223846793005)) + (IntKind.wrap .u64 (0)))) + 550289))), w64 (andI .u64 (shrI .u64 (IntKind.wrap .u64 ((IntKind.wrap .u64 ((IntKind.wrap .u64 (c.2.2 * 6364136223846793005)) + (IntKind.wrap .u64 (0)))) + 550289)) 40) 255))
   else none
def spec_l1Cur_pick (c : (List Int) × Int × Int) (n_ : Int) : Option (((List Int) × Int × Int) × Int) :=
 if decide (n_ ≤ 1) then
  some ((c.1, (c.2.1, c.2.2)), 0)
 else
  (spec_l1Cur_next (c.1, (c.2.1, c.2.2))).bind fun r1 =>
   if decide (n_ > 200) then
    (spec_l1Cur_next (r1.1.1, (r1.1.2.1, r1.1.2.2))).bind fun r2 =>
     if n_ ≠ 0 then
      some ((r2.1.1, (r2.1.2.1, r2.1.2.2)), Int.tmod (w64 ((w64 (r1.2 * 256)) + r2.2)) n_)
     else none
   else
    if n_ ≠ 0 then
     some ((r1.1.1, (r1.1.2.1, r1.1.2.2)), Int.tmod r1.2 n_)
    else none
def spec_l1Cur_among (c : (List Int) × Int × Int) (list : List Int) : Option (((List Int) × Int × Int) × Int) :=
 (spec_l1Cur_pick (c.1, (c.2.1, c.2.2)) (list.length : Int)).bind fun r1 =>
  if inb r1.2 list then
   some ((r1.1.1, (r1.1.2.1, r1.1.2.2)), gd list r1.2 0)
  else none
def spec_l1Cur_one (c : (List Int) × Int × Int) (n_ : Int) : Option (((List Int) × Int × Int) × Bool) :=
 (spec_l1Cur_pick (c.1, (c.2.1, c.2.2)) n_).bind fun r1 =>
  some ((r1.1.1, (r1.1.2.1, r1.1.2.2)), r1.2 == 0)
end T
open Go Go.Va
namespace T
abbrev CurT := List Int × Int × Int
def Cur (k : Nat) (c : CurT) : Prop := c.1.length ≤ 65536 ∧ (∀ x ∈ c.1, 0 ≤ x ∧ x < 256) ∧ 0 ≤ c.2.1 ∧ c.2.1 ≤ (k : Int)
theorem and255 (x : Int) : 0 ≤ w64 (andI .u64 x 255) ∧ w64 (andI .u64 x 255) < 256 := by
 have h1 : (BitVec.ofInt 64 x &&& BitVec.ofInt 64 255).toNat ≤ 255 := by
  rw [BitVec.toNat_and]
  have : (BitVec.ofInt 64 255).toNat = 255 := by decide
  rw [this]
  exact Nat.and_le_right
 have h2 : andI .u64 x 255 = ((BitVec.ofInt 64 x &&& BitVec.ofInt 64 255).toNat : Int) := by
  unfold andI
  have e : ∀ n : Nat, n ≤ 255 → IntKind.wrap .u64 (n : Int) = (n : Int) := fun n hn => by
   simp [IntKind.wrap, IntKind.bits, IntKind.signed]
   omega
  exact e _ h1
 rw [h2, w64_id (by omega) (by omega)]
 omega
theorem next_ok {k : Nat} {c : CurT} (h : Cur k c) (hk : k ≤ 1000000000) : ∃ c' x, spec_l1Cur_next c = some (c', x) ∧ Cur (k + 1) c' ∧ 0 ≤ x ∧ x < 256 := by
 obtain ⟨code, at', seed⟩ := c
 obtain ⟨h1, h2, h3, h4⟩ := h
 dsimp only at h1 h2 h3 h4
 have hw : w64 (at' + 1) = at' + 1 := w64_id (by omega) (by omega)
 have hC : ∀ s, Cur (k + 1) (code, (at' + 1, s)) := fun s => ⟨h1, h2, by dsimp only; omega, by dsimp only; omega⟩
 unfold spec_l1Cur_next
 simp only [hw]
 by_cases hc : at' < (code.length : Int)
 ·have hin : inb at' code := ⟨h3, hc⟩
  have hle : at' + 1 ≤ (code.length : Int) := by omega
  have hb : 0 ≤ gd code at' 0 ∧ gd code at' 0 < 256 := by
   have : gd code at' 0 = code.getD at'.toNat 0 := rfl
   rw [this, getD_of (by omega)]
   exact h2 _ (List.getElem_mem _)
  rw [if_pos (decide_eq_true hc), if_pos hin, if_pos (decide_eq_true hle)]
  exact ⟨_, _, rfl, hC _, by rw [w64_id (by omega) (by omega)]; exact hb⟩
 ·have hle : ¬ at' + 1 ≤ (code.length : Int) := by omega
  rw [if_neg (by simpa using hc), if_neg (by simpa using hle), if_pos (by decide)]
  exact ⟨_, _, rfl, hC _, and255 _⟩
theorem pick_ok {k : Nat} {c : CurT} (h : Cur k c) (hk : k ≤ 100000000) (n : Int) (hn : n ≤ 1000000) : ∃ c' x, spec_l1Cur_pick c n = some (c', x) ∧ Cur (k + 2) c' ∧ 0 ≤ x ∧ (1 ≤ n → x < n) ∧ (n ≤ 1 → x = 0) := by
 have mono : ∀ {c : CurT} {i j : Nat}, i ≤ j → Cur i c → Cur j c := fun hij ⟨a, b, d, e⟩ => ⟨a, b, d, by omega⟩
 unfold spec_l1Cur_pick
 by_cases h1 : n ≤ 1
 ·rw [if_pos (decide_eq_true h1)]
  exact ⟨_, _, rfl, mono (by omega) h, by omega, fun _ => by omega, fun _ => rfl⟩
 ·rw [if_neg (by simpa using h1)]
  obtain ⟨c1, x1, e1, g1, a1, b1⟩ := next_ok h (by omega)
  have e1 : spec_l1Cur_next (c.1, (c.2.1, c.2.2)) = _ := e1
  simp only [e1, Option.bind_some]
  by_cases h2 : n > 200
  ·obtain ⟨c2, x2, e2, g2, a2, b2⟩ := next_ok g1 (by omega)
   have e2 : spec_l1Cur_next (c1.1, (c1.2.1, c1.2.2)) = _ := e2
   rw [if_pos (decide_eq_true h2)]
   simp only [e2, Option.bind_some]
   rw [if_pos (by omega)]
   have w1 : w64 (x1 * 256) = x1 * 256 := w64_id (by omega) (by omega)
   have w2 : w64 (x1 * 256 + x2) = x1 * 256 + x2 := w64_id (by omega) (by omega)
   refine ⟨_, _, rfl, g2, ?_, fun _ => ?_, fun h => absurd h h1⟩
   ·rw [w1, w2, Int.tmod_eq_emod_of_nonneg (by omega)]; exact Int.emod_nonneg _ (by omega)
   ·rw [w1, w2, Int.tmod_eq_emod_of_nonneg (by omega)]; exact Int.emod_lt_of_pos _ (by omega)
  ·rw [if_neg (by simpa using h2), if_pos (by omega)]
   refine ⟨_, _, rfl, mono (by omega) g1, ?_, fun _ => ?_, fun h => absurd h h1⟩
   ·rw [Int.tmod_eq_emod_of_nonneg a1]; exact Int.emod_nonneg _ (by omega)
   ·rw [Int.tmod_eq_emod_of_nonneg a1]; exact Int.emod_lt_of_pos _ (by omega)
theorem among_ok {k : Nat} {c : CurT} (h : Cur k c) (hk : k ≤ 100000000) {l : List Int} (h0 : 0 < l.length) (hl : l.length ≤ 1000) : ∃ c' x, spec_l1Cur_among c l = some (c', x) ∧ Cur (k + 2) c' ∧ x ∈ l := by
 obtain ⟨c1, x1, e1, g1, a1, b1, _⟩ := pick_ok h hk (l.length : Int) (by omega)
 have b1 := b1 (by omega)
 unfold spec_l1Cur_among
 have e1 : spec_l1Cur_pick (c.1, (c.2.1, c.2.2)) (l.length : Int) = _ := e1
 simp only [e1, Option.bind_some]
 have hin : inb x1 l := ⟨a1, b1⟩
 rw [if_pos hin]
 refine ⟨_, _, rfl, g1, ?_⟩
 have : gd l x1 0 = l.getD x1.toNat 0 := rfl
 rw [this]
 exact getD_mem (by omega)
theorem one_ok {k : Nat} {c : CurT} (h : Cur k c) (hk : k ≤ 100000000) (n : Int) (hn : n ≤ 1000000) : ∃ c' x, spec_l1Cur_one c n = some (c', x) ∧ Cur (k + 2) c' := by
 obtain ⟨c1, x1, e1, g1, _⟩ := pick_ok h hk n hn
 unfold spec_l1Cur_one
 have e1 : spec_l1Cur_pick (c.1, (c.2.1, c.2.2)) n = _ := e1
 simp only [e1, Option.bind_some]
 exact ⟨_, _, rfl, g1⟩
theorem Cur.mono {c : CurT} {i j : Nat} (hij : i ≤ j) : Cur i c → Cur j c := fun ⟨a, b, d, e⟩ => ⟨a, b, d, by omega⟩
end T
set_option linter.unusedVariables false
open Go Go.Va
namespace T
def spec_l8Put (list : List (List Int)) (t : List Int) : Option ((List (List Int))) :=
 (spec_l8Find list t).bind fun r1 =>
  if r1.2 then
   some list
  else
   if (0 : Int) ≤ 0 ∧ 0 ≤ r1.1 ∧ r1.1 ≤ (list.length : Int) then
    if ([] : List (List Int)).length + ((list.take (Int.toNat r1.1)).drop (Int.toNat 0)).length ≤ lim then
     if ([] ++ ((list.take (Int.toNat r1.1)).drop (Int.toNat 0))).length + [t].length ≤ lim then
      if (0 : Int) ≤ r1.1 ∧ r1.1 ≤ (list.length : Int) ∧ (list.length : Int) ≤ (list.length : Int) then
       if (([] ++ ((list.take (Int.toNat r1.1)).drop (Int.toNat 0))) ++ [t]).length + ((list.take (Int.toNat (list.length : Int))).drop (Int.toNat r1.1)).length ≤ lim then
        some ((([] ++ ((list.take (Int.toNat r1.1)).drop (Int.toNat 0))) ++ [t]) ++ ((list.take (Int.toNat (list.length : Int))).drop (Int.toNat r1.1)))
       else none
      else none
     else none
    else none
   else none
end T
open Go Go.Va
namespace T
def sortL (cmp : List Int → List Int → Int) (rows : List (List Int)) : List (List Int) := rows.mergeSort (fun x y => !decide (cmp y x < 0))
end T
open Go Go.Va
namespace T
theorem incB_pair {l : List (List Int)} : incB l = true ↔ l.Pairwise (fun a b => cmpL a b < 0) := by
 constructor
 ·intro h
  rw [List.pairwise_iff_getElem]
  exact fun i j hi hj hij => incB_lt h i j hij hj
 ·intro h
  rw [incB_iff]
  rw [List.pairwise_iff_getElem] at h
  exact fun i hi => h i (i + 1) (by omega) hi (by omega)
theorem spec_l8Put_ok {list : List (List Int)} {t : List Int} {k : Nat} (hl : list.length ≤ 1000000) (hk : k ≤ 1000000) (hv : ∀ u ∈ list, u.length = k) (ht : t.length = k) (hi : incB list = true) :
    ∃ out, spec_l8Put list t = some out ∧ incB out = true ∧ (∀ u, u ∈ out ↔ u = t ∨ u ∈ list) ∧ (t ∉ list → out.Perm (t :: list)) := by
  obtain ⟨c, e, k1, k2, k3⟩ := spec_l8Find_ok (by omega) (by omega) hv ht hi
  unfold spec_l8Put
  rw [e]
  simp only [Option.bind_some]
  by_cases hm : t ∈ list
  · rw [decide_eq_true hm, if_pos rfl]
    exact ⟨list, rfl, hi, fun u => ⟨Or.inr, fun h => h.elim (fun h => h ▸ hm) id⟩, fun h => absurd hm h⟩
  · rw [decide_eq_false hm, if_neg (by simp)]
    have e1 : (list.take (Int.toNat (c : Int))).drop (Int.toNat 0) = list.take c := by simp
    have e2 : (list.take (Int.toNat (list.length : Int))).drop (Int.toNat (c : Int)) = list.drop c := by simp
    have hlim : lim = 1099511627776 := rfl
    have t1 : (list.take c).length = c := by rw [List.length_take]; omega
    rw [e1, e2, if_pos (by omega), if_pos (by simp; omega), if_pos (by simp; omega), if_pos (by omega), if_pos (by simp; omega)]
    refine ⟨_, rfl, ?_, fun u => ?_, fun _ => ?_⟩
    · rw [incB_pair] at hi ⊢
      simp only [List.nil_append]
      have hsp : list = list.take c ++ list.drop c := (List.take_append_drop c list).symm
      rw [hsp, List.pairwise_append] at hi
      have h4 : ∀ u ∈ list.take c, cmpL u t < 0 := fun u hu => by
        obtain ⟨i, hi', rfl⟩ := List.mem_iff_getElem.1 hu
        rw [List.getElem_take]
        exact k2 i _ (by omega)
      have h5 : ∀ u ∈ list.drop c, cmpL t u < 0 := fun u hu => by
        obtain ⟨i, hi', rfl⟩ := List.mem_iff_getElem.1 hu
        rw [List.length_drop] at hi'
        rw [List.getElem_drop]
        have h6 := k3 (c + i) (by omega) (by omega)
        have h7 := cmpL_symm (list[c + i]'(by omega)) t
        have h8 : cmpL (list[c + i]'(by omega)) t ≠ 0 := fun h => hm (by rw [← cmpL_eq.1 h]; exact List.getElem_mem _)
        omega
      rw [List.pairwise_append, List.pairwise_append]
      refine ⟨⟨hi.1, List.pairwise_singleton _ _, fun a ha b hb => by rw [List.mem_singleton.1 hb]; exact h4 a ha⟩, hi.2.1, fun a ha b hb => ?_⟩
      rcases List.mem_append.1 ha with ha | ha
      · exact hi.2.2 a ha b hb
      · rw [List.mem_singleton.1 ha]; exact h5 b hb
    · have hsp : u ∈ list ↔ u ∈ list.take c ∨ u ∈ list.drop c := by rw [← List.mem_append, List.take_append_drop]
      simp only [List.nil_append, List.mem_append, List.mem_singleton, hsp]
      constructor
      · rintro ((h | h) | h)
        · exact Or.inr (Or.inl h)
        · exact Or.inl h
        · exact Or.inr (Or.inr h)
      · rintro (h | h | h)
        · exact Or.inl (Or.inr h)
        · exact Or.inl (Or.inl h)
        · exact Or.inr h
    · simp only [List.nil_append]
      refine (List.Perm.append_right _ (List.perm_append_comm)).trans ?_
      rw [List.append_assoc, List.take_append_drop]
      exact List.Perm.refl _
theorem cmpL_anti {x y : List Int} (h1 : ¬ cmpL y x < 0) (h2 : ¬ cmpL x y < 0) : x = y := by
 have := cmpL_symm x y
 exact cmpL_eq.1 (by omega)
theorem sortL_of {out l : List (List Int)} (hi : incB out = true) (hp : out.Perm l) : sortL cmpL l = out := by
 have hs : (sortL cmpL l).Pairwise fun x y => (!decide (cmpL y x < 0)) = true := by
  unfold sortL
  refine List.pairwise_mergeSort (fun a b c h1 h2 => ?_) (fun a b => ?_) l
  ·simp only [Bool.not_eq_true', decide_eq_false_iff_not] at *
   intro h3
   have q1 := cmpL_symm a b
   have q2 := cmpL_symm b c
   by_cases e : cmpL a b = 0
   ·rw [cmpL_eq.1 e] at h3; exact h2 h3
   ·exact h2 (cmpL_trans h3 (by omega))
  ·simp only [Bool.or_eq_true, Bool.not_eq_true', decide_eq_false_iff_not]
   have q1 := cmpL_symm a b
   omega
 have ho : out.Pairwise fun x y => (!decide (cmpL y x < 0)) = true := by
  refine (incB_pair.1 hi).imp ?_
  intro a b h
  simp only [Bool.not_eq_true', decide_eq_false_iff_not]
  have q1 := cmpL_symm a b
  omega
 have hpp : (sortL cmpL l).Perm out := (List.mergeSort_perm l _).trans hp.symm
 refine List.Perm.eq_of_pairwise (fun a b _ _ h1 h2 => ?_) hs ho hpp
 simp only [Bool.not_eq_true', decide_eq_false_iff_not] at h1 h2
 exact cmpL_anti h1 h2
end T
open Go Go.Va
namespace T
section
variable {p : Int} {W N V : Nat}
def coG (p : Int) (s : ES) (u : Nat) (f : Int) : Int := if posL s.2.1 u < 0 then (if f = (u : Int) then 1 else 0) else p - (s.1.getD (posL s.2.1 u).toNat []).getD f.toNat 0
def sumG (p : Int) (V : Nat) (s : ES) (F x : List Int) (u : Nat) : Nat → Int
 | 0 => solV V s u
 | k + 1 => sumG p V s F x u k + coG p s u (F.getD k 0) * x.getD k 0
def vecG (p : Int) (V : Nat) (s : ES) (F x : List Int) (k : Nat) : List Int := (List.range V).map fun u => sumG p V s F x u k % p
structure GenOk (p : Int) (W N V : Nat) (s : ES) (F x : List Int) : Prop where
 hp : pr4 p
 hs : ESok p W N V s
 hV : V < W
 hW : W ≤ 1000
 hN : N ≤ 100000
 hF : F = freeL V s.2.1
 hx : x.length = F.length
 xb : ∀ v ∈ x, 0 ≤ v ∧ v < p
variable {s : ES} {F x : List Int}
theorem GenOk.pb (g : GenOk p W N V s F x) : 2 ≤ p ∧ p ≤ 7 := by have := g.hp; unfold pr4 at this; omega
theorem GenOk.row (g : GenOk p W N V s F x) {u : Nat} (hu : ¬ posL s.2.1 u < 0) : (posL s.2.1 u).toNat < s.1.length ∧ okRow p W (s.1.getD (posL s.2.1 u).toNat []) := by
 have hm : (u : Int) ∈ s.2.1 := by
  rcases Decidable.em ((u : Int) ∈ s.2.1) with h | h
  ·exact h
  ·exact absurd (posL_neg.2 h) hu
 obtain ⟨i, hi, g1, _⟩ := posL_at hm
 rw [g1, Int.toNat_natCast]
 have := g.hs.bl
 exact ⟨by omega, by rw [getD_of (by omega)]; exact g.hs.t _ (List.getElem_mem _)⟩
theorem GenOk.base (g : GenOk p W N V s F x) (u : Nat) : 0 ≤ solV V s u ∧ solV V s u < p := by
 have := g.pb
 unfold solV
 split
 ·omega
 ·rename_i h
  exact ok_get (g.row h).2 g.hV
end
end T
open Go Go.Va
namespace T
section
variable {p : Int} {W N V : Nat} {s : ES} {F x : List Int}
theorem GenOk.zero (g : GenOk p W N V s F x) : vecG p V s F x 0 = solL V s := by
 unfold vecG solL
 refine List.map_congr_left fun u _ => ?_
 have := g.base u
 simp only [sumG]
 exact Int.emod_eq_of_lt this.1 this.2
end
end T
open Go Go.Va
namespace T
theorem inc_uniq : ∀ {a b : List (List Int)}, incB a = true → incB b = true → (∀ u, u ∈ a ↔ u ∈ b) → a = b := by
 intro a b ha hb h
 have pa := incB_pair.1 ha
 have pb := incB_pair.1 hb
 have na : a.Nodup := pa.imp fun {x y} h e => by rw [e, cmpL_refl] at h; omega
 have nb : b.Nodup := pb.imp fun {x y} h e => by rw [e, cmpL_refl] at h; omega
 have hp : a.Perm b := (List.perm_ext_iff_of_nodup na nb).2 h
 rw [← sortL_of ha (List.Perm.refl _), ← sortL_of hb (List.Perm.refl _)]
 have h1 := sortL_of ha hp
 have h2 := sortL_of hb (List.Perm.refl b)
 have h3 := sortL_of ha (List.Perm.refl a)
 rw [h2, h3, ← h1, h2]
end T
open Go Go.Va
namespace T
section
variable {n : Int} {k : Nat} {ts : List (List Int)}
theorem put_len {out list : List (List Int)} {t : List Int} (h1 : incB out = true) (h0 : incB list = true) (h2 : ∀ u, u ∈ out ↔ u = t ∨ u ∈ list) (h3 : t ∉ list → out.Perm (t :: list)) : out.length ≤ list.length + 1 := by
 by_cases hm : t ∈ list
 ·have : out = list := inc_uniq h1 h0 fun u => (h2 u).trans ⟨fun h => h.elim (fun h => h ▸ hm) id, Or.inr⟩
  rw [this]; omega
 ·rw [(h3 hm).length_eq]; simp
end
end T
set_option linter.unusedVariables false
open Go Go.Va
namespace T
def spec_l19Copy_L7 : Nat → ((List ((List Int) × Int × (List (List Int)))) × (List ((List Int) × Int × (List (List Int)))) × Int × ((List Int) × (Int × (List (List Int)))) × Int) → Option ((List ((List Int) × Int × (List (List Int)))) × (List ((List Int) × Int × (List (List Int)))) × Int × ((List Int) × (Int × (List (List Int)))))
 | 0, _ => none
 | n + 1, (list, out, i, c, k) =>
  if inb i list then
   if decide (k < ((((gd list i ([], (0, []))).2).2).length : Int)) then
    if inb i list then
     if inb k (((gd list i ([], (0, []))).2).2) then
      (spec_l1Own (gd (((gd list i ([], (0, []))).2).2) k [])).bind fun r2 =>
       if c.2.2.length + [r2].length ≤ lim then
        spec_l19Copy_L7 n (list, out, i, (c.1, (c.2.1, c.2.2 ++ [r2])), w64 (k + 1))
       else none
     else none
    else none
   else
    some (list, out, i, (c.1, (c.2.1, c.2.2)))
  else none
def spec_l19Copy_L3 : Nat → ((List ((List Int) × Int × (List (List Int)))) × (List ((List Int) × Int × (List (List Int)))) × Int) → Option ((List ((List Int) × Int × (List (List Int)))))
 | 0, _ => none
 | n + 1, (list, out, i) =>
  if decide (i < (list.length : Int)) then
   if inb i list then
    (spec_l1Own ((gd list i ([], (0, []))).1)).bind fun r1 =>
     if inb i list then
      (spec_l19Copy_L7 fuel (list, out, i, (r1, (((gd list i ([], (0, []))).2).1, [])), 0)).bind fun s2 =>
       if s2.2.1.length + [(s2.2.2.2.1, (s2.2.2.2.2.1, s2.2.2.2.2.2))].length ≤ lim then
        spec_l19Copy_L3 n (s2.1, s2.2.1 ++ [(s2.2.2.2.1, (s2.2.2.2.2.1, s2.2.2.2.2.2))], w64 (s2.2.2.1 + 1))
       else none
     else none
   else none
  else
   some out
def spec_l19Copy (list : List ((List Int) × Int × (List (List Int)))) : Option ((List ((List Int) × Int × (List (List Int))))) :=
 (spec_l19Copy_L3 fuel (list, [], 0)).bind fun s1 =>
  some s1
end T
set_option linter.unusedVariables false
open Go Go.Va
namespace T
def impl_cloneRelation (r : Int × (List (List Int))) : Option ((Int × (List (List Int)))) :=
 (impl_cloneRows r.2).bind fun r1 =>
  some (r.1, r1)
end T
open Go Go.Va
namespace T
section
variable {a : Net} {f : Opn} {n : Int}
theorem clone_ok {l : List Int} (h : l.length ≤ 1000000) : impl_clone l = some l := by
 unfold impl_clone
 rw [if_pos (by simp; unfold lim; omega)]; simp
theorem copy_L7 {l out : List Con} {i : Nat} (hi : i < l.length) (hr : ∀ r ∈ l[i].2.2, r.length ≤ 1048576) (hl : l[i].2.2.length ≤ 1048576) (s : List Int) (ar : Int) : spec_l19Copy_L7 fuel (l, out, (i : Int), (s, (ar, [])), 0) = some (l, out, (i : Int), (s, (ar, l[i].2.2))) := by
 have := forS l[i].2.2.length (fun m (o : List (List Int)) k => spec_l19Copy_L7 m (l, out, (i : Int), (s, (ar, o)), k)) (fun k => l[i].2.2.take k) (r := some (l, out, (i : Int), (s, (ar, l[i].2.2)))) (fun m k hk => ?_) (fun m => ?_) (n := fuel) (by unfold fuel; omega)
 ·exact this
 ·have e := spec_l1Own_ok (l := l[i].2.2[k]) (by have := hr _ (List.getElem_mem hk); omega)
  simp only [spec_l19Copy_L7, inb_nat, hi, gd_nat hi, hk, gd_nat hk, if_true, e, Option.bind_some, w64_succ (show k < 4611686018427387904 by omega)]
  rw [if_pos (by simp; omega), if_pos (by simp; unfold lim; omega), List.take_succ_eq_append_getElem hk]
 ·simp only [spec_l19Copy_L7, inb_nat, hi, gd_nat hi, if_true, List.take_length]
  rw [if_neg (by simp)]
theorem spec_l19Copy_ok {l : List Con} (hl : l.length ≤ 1000000) (hc : ∀ c ∈ l, conS c) : spec_l19Copy l = some l := by
 have := forS l.length (fun m (o : List Con) i => spec_l19Copy_L3 m (l, o, i)) (fun k => l.take k) (r := some l) (fun m k hk => ?_) (fun m => ?_) (n := fuel) (by unfold fuel; omega)
 ·have this : spec_l19Copy_L3 fuel (l, [], 0) = _ := this
  unfold spec_l19Copy
  rw [this]; rfl
 ·have h := hc _ (List.getElem_mem hk)
  have e1 := spec_l1Own_ok (l := l[k].1) (by have := h.1; omega)
  have e2 := copy_L7 (out := l.take k) hk (fun r hr => by have := h.2.2 r hr; omega) (by have := h.2.1; omega) l[k].1 l[k].2.1
  simp only [spec_l19Copy_L3, inb_nat, hk, gd_nat hk, if_true, e1, e2, Option.bind_some, w64_succ (show k < 4611686018427387904 by omega)]
  rw [if_pos (by simp; omega), if_pos (by simp; unfold lim; omega), List.take_succ_eq_append_getElem hk]
 ·simp only [spec_l19Copy_L3, List.take_length]
  rw [if_neg (by simp)]
end
end T
set_option linter.unusedVariables false
open Go Go.Va
namespace T
def laws_rBig (code : List Int) : Option (Bool) :=
 some (decide ((code.length : Int) > 65536))
def spec_l14Known (t0 : Int) : Option (Int × (List (Int × (List (List Int))))) :=
 if t0 == 0 then
  some (2, [(2, [[0, 0], [0, 1], [1, 1]])])
 else
  if t0 == 1 then
   some (2, [(2, [[0, 1], [1, 0], [1, 1]]), (2, [[0, 0], [0, 1], [1, 0]])])
  else
   if t0 == 2 then
    some (2, [(3, [[0, 0, 0], [0, 1, 1], [1, 0, 1], [1, 1, 0]])])
   else
    if t0 == 3 then
     some (2, [(3, [[0, 0, 1], [0, 1, 0], [1, 0, 0]])])
    else
     if t0 == 4 then
      some (2, [(3, [[0, 0, 0], [0, 0, 1], [0, 1, 0], [0, 1, 1], [1, 0, 0], [1, 0, 1], [1, 1, 1]]), (1, [[1]])])
     else
      if t0 == 5 then
       some (3, [(2, [[0, 1], [0, 2], [1, 0], [1, 2], [2, 0], [2, 1]])])
      else
       if t0 == 6 then
        some (3, [(2, [[0, 0], [0, 1], [0, 2], [1, 1], [1, 2], [2, 2]])])
       else
        if t0 == 7 then
         some (3, [(2, [[0, 1], [1, 2], [2, 0]])])
        else
         if t0 == 8 then
          some (2, [(2, [[0, 1], [1, 0]])])
         else
          if t0 == 9 then
           some (4, [(2, [[0, 1], [1, 0], [1, 2], [2, 1], [2, 3], [3, 2]])])
          else
           some (2, [])
def spec_l1Cur_partition13_L3 : Nat → (((List Int) × Int × Int) × Int × (List Int) × Int) → Option (((List Int) × Int × Int) × (List Int))
 | 0, _ => none
 | n + 1, (c, n_, out, x) =>
  if decide (x < n_) then
   (spec_l1Cur_pick (c.1, (c.2.1, c.2.2)) (w64 (x + 1))).bind fun r1 =>
    if decide (r1.2 < x) then
     if inb r1.2 out then
      if out.length + [gd out r1.2 0].length ≤ lim then
       spec_l1Cur_partition13_L3 n ((r1.1.1, (r1.1.2.1, r1.1.2.2)), n_, out ++ [gd out r1.2 0], w64 (x + 1))
      else none
     else none
    else
     if out.length + [r1.2].length ≤ lim then
      spec_l1Cur_partition13_L3 n ((r1.1.1, (r1.1.2.1, r1.1.2.2)), n_, out ++ [r1.2], w64 (x + 1))
     else none
  else
   some ((c.1, (c.2.1, c.2.2)), out)
def spec_l1Cur_partition13 (c : (List Int) × Int × Int) (n_ : Int) : Option (((List Int) × Int × Int) × (List Int)) :=
 (spec_l1Cur_partition13_L3 fuel ((c.1, (c.2.1, c.2.2)), n_, [], 0)).bind fun s1 =>
  some ((s1.1.1, (s1.1.2.1, s1.1.2.2)), s1.2)
def spec_l13OfPartition_L6 : Nat → ((List Int) × (Int × (List (List Int))) × (Int × (List (List Int))) × Int × Int) → Option ((List Int) × (Int × (List (List Int))) × (Int × (List (List Int))) × Int)
 | 0, _ => none
 | n + 1, (p, t2, out, x, y) =>
  if decide (y < (p.length : Int)) then
   if inb x p then
    if inb y p then
     if (gd p x 0) == (gd p y 0) then
      if out.2.length + [[x, y]].length ≤ lim then
       spec_l13OfPartition_L6 n (p, (t2.1, t2.2), (out.1, out.2 ++ [[x, y]]), x, w64 (y + 1))
      else none
     else
      spec_l13OfPartition_L6 n (p, (t2.1, t2.2), (out.1, out.2), x, w64 (y + 1))
    else none
   else none
  else
   some (p, (t2.1, t2.2), (out.1, out.2), x)
def spec_l13OfPartition_L3 : Nat → ((List Int) × (Int × (List (List Int))) × (Int × (List (List Int))) × Int) → Option ((Int × (List (List Int))) × (Int × (List (List Int))))
 | 0, _ => none
 | n + 1, (p, t2, out, x) =>
  if decide (x < (p.length : Int)) then
   (spec_l13OfPartition_L6 fuel (p, (t2.1, t2.2), (out.1, out.2), x, 0)).bind fun s1 =>
    spec_l13OfPartition_L3 n (s1.1, (s1.2.1.1, s1.2.1.2), (s1.2.2.1.1, s1.2.2.1.2), w64 (s1.2.2.2 + 1))
  else
   some ((t2.1, t2.2), (out.1, out.2))
def spec_l13OfPartition (p : List Int) : Option ((Int × (List (List Int)))) :=
 (spec_l13OfPartition_L3 fuel (p, (0, []), (2, []), 0)).bind fun s1 =>
  some (s1.2.1, s1.2.2)
def spec_l13Full_L3 : Nat → (Int × Int × (Int × (List (List Int))) × (Int × (List (List Int))) × Int) → Option ((Int × (List (List Int))) × (Int × (List (List Int))))
 | 0, _ => none
 | n + 1, (n_, arity, t4, out, at_) =>
  (spec_l2Pow n_ arity).bind fun r1 =>
   if decide (at_ < r1) then
    (spec_l2Args n_ arity at_).bind fun r2 =>
     if out.2.length + [r2].length ≤ lim then
      spec_l13Full_L3 n (n_, arity, (t4.1, t4.2), (out.1, out.2 ++ [r2]), w64 (at_ + 1))
     else none
   else
    some ((t4.1, t4.2), (out.1, out.2))
def spec_l13Full (n_ : Int) (arity : Int) : Option ((Int × (List (List Int)))) :=
 (spec_l13Full_L3 fuel (n_, arity, (0, []), (arity, []), 0)).bind fun s1 =>
  some (s1.2.1, s1.2.2)
def spec_l8Put_b (list : List (List Int)) (t : List Int) : Option ((List (List Int))) :=
 (spec_l8Find list t).bind fun r1 =>
  if r1.2 then
   some list
  else
   if (0 : Int) ≤ 0 ∧ 0 ≤ r1.1 ∧ r1.1 ≤ (list.length : Int) then
    if ([] : List (List Int)).length + ((list.take (Int.toNat r1.1)).drop (Int.toNat 0)).length ≤ lim then
     if ([] ++ ((list.take (Int.toNat r1.1)).drop (Int.toNat 0))).length + [t].length ≤ lim then
      if (0 : Int) ≤ r1.1 ∧ r1.1 ≤ (list.length : Int) ∧ (list.length : Int) ≤ (list.length : Int) then
       if (([] ++ ((list.take (Int.toNat r1.1)).drop (Int.toNat 0))) ++ [t]).length + ((list.take (Int.toNat (list.length : Int))).drop (Int.toNat r1.1)).length ≤ lim then
        some ((([] ++ ((list.take (Int.toNat r1.1)).drop (Int.toNat 0))) ++ [t]) ++ ((list.take (Int.toNat (list.length : Int))).drop (Int.toNat r1.1)))
       else none
      else none
     else none
    else none
   else none
def spec_l1Cur_relation_L9 : Nat → (((List Int) × Int × Int) × Int × Int × (Int × (List (List Int))) × (Int × (List (List Int))) × Int × (List Int) × Int) → Option (((List Int) × Int × Int) × Int × Int × (Int × (List (List Int))) × (Int × (List (List Int))) × Int × (List Int))
 | 0, _ => none
 | n + 1, (t0, t1, t2, t6, t7, t8, t9, t10) =>
  if decide (t10 < t2) then
   (spec_l1Cur_pick (t0.1, (t0.2.1, t0.2.2)) t1).bind fun r4 =>
    if t9.length + [r4.2].length ≤ lim then
     spec_l1Cur_relation_L9 n ((r4.1.1, (r4.1.2.1, r4.1.2.2)), t1, t2, (t6.1, t6.2), (t7.1, t7.2), t8, t9 ++ [r4.2], w64 (t10 + 1))
    else none
  else
   some ((t0.1, (t0.2.1, t0.2.2)), t1, t2, (t6.1, t6.2), (t7.1, t7.2), t8, t9)
def spec_l1Cur_relation_L5 : Nat → (((List Int) × Int × Int) × Int × Int × (Int × (List (List Int))) × (Int × (List (List Int))) × Int) → Option (((List Int) × Int × Int) × Int × Int × (Int × (List (List Int))) × (Int × (List (List Int))))
 | 0, _ => none
 | n + 1, (t0, t1, t2, t6, t7, t8) =>
  if decide (t8 > 0) then
   (spec_l1Cur_relation_L9 fuel ((t0.1, (t0.2.1, t0.2.2)), t1, t2, (t6.1, t6.2), (t7.1, t7.2), t8, [], 0)).bind fun s4 =>
    (spec_l8Put_b s4.2.2.2.2.1.2 s4.2.2.2.2.2.2).bind fun r5 =>
     spec_l1Cur_relation_L5 n ((s4.1.1, (s4.1.2.1, s4.1.2.2)), s4.2.1, s4.2.2.1, (s4.2.2.2.1.1, s4.2.2.2.1.2), (s4.2.2.2.2.1.1, r5), w64 (s4.2.2.2.2.2.1 - 1))
  else
   some ((t0.1, (t0.2.1, t0.2.2)), t1, t2, (t6.1, t6.2), (t7.1, t7.2))
def spec_l1Cur_relation (t0 : (List Int) × Int × Int) (t1 : Int) (t2 : Int) : Option (((List Int) × Int × Int) × (Int × (List (List Int)))) :=
 (spec_l6Size t1).bind fun r1 =>
  if !r1 then
   some ((t0.1, (t0.2.1, t0.2.2)), (t2, []))
  else
   (spec_l1In t2 1 3).bind fun r2 =>
    if !r2 then
     some ((t0.1, (t0.2.1, t0.2.2)), (t2, []))
    else
     (spec_l1Cur_among (t0.1, (t0.2.1, t0.2.2)) [0, 1, 2, 3, 4, 6, 9]).bind fun r3 =>
      (spec_l1Cur_relation_L5 fuel ((r3.1.1, (r3.1.2.1, r3.1.2.2)), t1, t2, (0, []), (t2, []), r3.2)).bind fun s4 =>
       if s4.2.2.1 == 2 then
        (spec_l1Cur_one (s4.1.1, (s4.1.2.1, s4.1.2.2)) 3).bind fun r5 =>
         if r5.2 then
          (spec_l1Cur_partition13 (r5.1.1, (r5.1.2.1, r5.1.2.2)) s4.2.1).bind fun r6 =>
           (spec_l13OfPartition r6.2).bind fun r7 =>
            (spec_l1Cur_one (r6.1.1, (r6.1.2.1, r6.1.2.2)) 12).bind fun r8 =>
             if r8.2 then
              (spec_l13Full s4.2.1 s4.2.2.1).bind fun r9 =>
               (spec_l1Cur_pick (r8.1.1, (r8.1.2.1, r8.1.2.2)) 40).bind fun r10 =>
                if r10.2 == 0 then
                 (spec_l1Cur_among (r10.1.1, (r10.1.2.1, r10.1.2.2)) [0, 4, (-1)]).bind fun r11 =>
                  some ((r11.1.1, (r11.1.2.1, r11.1.2.2)), (r11.2, r9.2))
                else
                 if r10.2 == 1 then
                  if 0 ≤ s4.2.2.1 ∧ s4.2.2.1 ≤ s4.2.2.1 ∧ s4.2.2.1 ≤ lim then
                   if r9.2.length + [List.replicate (Int.toNat s4.2.2.1) (0 : Int)].length ≤ lim then
                    some ((r10.1.1, (r10.1.2.1, r10.1.2.2)), (r9.1, r9.2 ++ [List.replicate (Int.toNat s4.2.2.1) (0 : Int)]))
                   else none
                  else none
                 else
                  if r10.2 == 2 then
                   if decide ((r9.2.length : Int) > 0) then
                    (spec_l1Cur_among (r10.1.1, (r10.1.2.1, r10.1.2.2)) [(-1), s4.2.1, 0]).bind fun r12 =>
                     if inb 0 r9.2 then
                      some ((r12.1.1, (r12.1.2.1, r12.1.2.2)), (r9.1, stt r9.2 0 [r12.2]))
                     else none
                   else
                    some ((r10.1.1, (r10.1.2.1, r10.1.2.2)), (r9.1, r9.2))
                  else
                   some ((r10.1.1, (r10.1.2.1, r10.1.2.2)), (r9.1, r9.2))
             else
              (spec_l1Cur_pick (r8.1.1, (r8.1.2.1, r8.1.2.2)) 40).bind fun r13 =>
               if r13.2 == 0 then
                (spec_l1Cur_among (r13.1.1, (r13.1.2.1, r13.1.2.2)) [0, 4, (-1)]).bind fun r14 =>
                 some ((r14.1.1, (r14.1.2.1, r14.1.2.2)), (r14.2, r7.2))
               else
                if r13.2 == 1 then
                 if 0 ≤ s4.2.2.1 ∧ s4.2.2.1 ≤ s4.2.2.1 ∧ s4.2.2.1 ≤ lim then
                  if r7.2.length + [List.replicate (Int.toNat s4.2.2.1) (0 : Int)].length ≤ lim then
                   some ((r13.1.1, (r13.1.2.1, r13.1.2.2)), (r7.1, r7.2 ++ [List.replicate (Int.toNat s4.2.2.1) (0 : Int)]))
                  else none
                 else none
                else
                 if r13.2 == 2 then
                  if decide ((r7.2.length : Int) > 0) then
                   (spec_l1Cur_among (r13.1.1, (r13.1.2.1, r13.1.2.2)) [(-1), s4.2.1, 0]).bind fun r15 =>
                    if inb 0 r7.2 then
                     some ((r15.1.1, (r15.1.2.1, r15.1.2.2)), (r7.1, stt r7.2 0 [r15.2]))
                    else none
                  else
                   some ((r13.1.1, (r13.1.2.1, r13.1.2.2)), (r7.1, r7.2))
                 else
                  some ((r13.1.1, (r13.1.2.1, r13.1.2.2)), (r7.1, r7.2))
         else
          (spec_l1Cur_one (r5.1.1, (r5.1.2.1, r5.1.2.2)) 12).bind fun r16 =>
           if r16.2 then
            (spec_l13Full s4.2.1 s4.2.2.1).bind fun r17 =>
             (spec_l1Cur_pick (r16.1.1, (r16.1.2.1, r16.1.2.2)) 40).bind fun r18 =>
              if r18.2 == 0 then
               (spec_l1Cur_among (r18.1.1, (r18.1.2.1, r18.1.2.2)) [0, 4, (-1)]).bind fun r19 =>
                some ((r19.1.1, (r19.1.2.1, r19.1.2.2)), (r19.2, r17.2))
              else
               if r18.2 == 1 then
                if 0 ≤ s4.2.2.1 ∧ s4.2.2.1 ≤ s4.2.2.1 ∧ s4.2.2.1 ≤ lim then
                 if r17.2.length + [List.replicate (Int.toNat s4.2.2.1) (0 : Int)].length ≤ lim then
                  some ((r18.1.1, (r18.1.2.1, r18.1.2.2)), (r17.1, r17.2 ++ [List.replicate (Int.toNat s4.2.2.1) (0 : Int)]))
                 else none
                else none
               else
                if r18.2 == 2 then
                 if decide ((r17.2.length : Int) > 0) then
                  (spec_l1Cur_among (r18.1.1, (r18.1.2.1, r18.1.2.2)) [(-1), s4.2.1, 0]).bind fun r20 =>
                   if inb 0 r17.2 then
                    some ((r20.1.1, (r20.1.2.1, r20.1.2.2)), (r17.1, stt r17.2 0 [r20.2]))
                   else none
                 else
                  some ((r18.1.1, (r18.1.2.1, r18.1.2.2)), (r17.1, r17.2))
                else
                 some ((r18.1.1, (r18.1.2.1, r18.1.2.2)), (r17.1, r17.2))
           else
            (spec_l1Cur_pick (r16.1.1, (r16.1.2.1, r16.1.2.2)) 40).bind fun r21 =>
             if r21.2 == 0 then
              (spec_l1Cur_among (r21.1.1, (r21.1.2.1, r21.1.2.2)) [0, 4, (-1)]).bind fun r22 =>
               some ((r22.1.1, (r22.1.2.1, r22.1.2.2)), (r22.2, s4.2.2.2.2.2))
             else
              if r21.2 == 1 then
               if 0 ≤ s4.2.2.1 ∧ s4.2.2.1 ≤ s4.2.2.1 ∧ s4.2.2.1 ≤ lim then
                if s4.2.2.2.2.2.length + [List.replicate (Int.toNat s4.2.2.1) (0 : Int)].length ≤ lim then
                 some ((r21.1.1, (r21.1.2.1, r21.1.2.2)), (s4.2.2.2.2.1, s4.2.2.2.2.2 ++ [List.replicate (Int.toNat s4.2.2.1) (0 : Int)]))
                else none
               else none
              else
               if r21.2 == 2 then
                if decide ((s4.2.2.2.2.2.length : Int) > 0) then
                 (spec_l1Cur_among (r21.1.1, (r21.1.2.1, r21.1.2.2)) [(-1), s4.2.1, 0]).bind fun r23 =>
                  if inb 0 s4.2.2.2.2.2 then
                   some ((r23.1.1, (r23.1.2.1, r23.1.2.2)), (s4.2.2.2.2.1, stt s4.2.2.2.2.2 0 [r23.2]))
                  else none
                else
                 some ((r21.1.1, (r21.1.2.1, r21.1.2.2)), (s4.2.2.2.2.1, s4.2.2.2.2.2))
               else
                some ((r21.1.1, (r21.1.2.1, r21.1.2.2)), (s4.2.2.2.2.1, s4.2.2.2.2.2))
       else
        (spec_l1Cur_one (s4.1.1, (s4.1.2.1, s4.1.2.2)) 12).bind fun r24 =>
         if r24.2 then
          (spec_l13Full s4.2.1 s4.2.2.1).bind fun r25 =>
           (spec_l1Cur_pick (r24.1.1, (r24.1.2.1, r24.1.2.2)) 40).bind fun r26 =>
            if r26.2 == 0 then
             (spec_l1Cur_among (r26.1.1, (r26.1.2.1, r26.1.2.2)) [0, 4, (-1)]).bind fun r27 =>
              some ((r27.1.1, (r27.1.2.1, r27.1.2.2)), (r27.2, r25.2))
            else
             if r26.2 == 1 then
              if 0 ≤ s4.2.2.1 ∧ s4.2.2.1 ≤ s4.2.2.1 ∧ s4.2.2.1 ≤ lim then
               if r25.2.length + [List.replicate (Int.toNat s4.2.2.1) (0 : Int)].length ≤ lim then
                some ((r26.1.1, (r26.1.2.1, r26.1.2.2)), (r25.1, r25.2 ++ [List.replicate (Int.toNat s4.2.2.1) (0 : Int)]))
               else none
              else none
             else
              if r26.2 == 2 then
               if decide ((r25.2.length : Int) > 0) then
                (spec_l1Cur_among (r26.1.1, (r26.1.2.1, r26.1.2.2)) [(-1), s4.2.1, 0]).bind fun r28 =>
                 if inb 0 r25.2 then
                  some ((r28.1.1, (r28.1.2.1, r28.1.2.2)), (r25.1, stt r25.2 0 [r28.2]))
                 else none
               else
                some ((r26.1.1, (r26.1.2.1, r26.1.2.2)), (r25.1, r25.2))
              else
               some ((r26.1.1, (r26.1.2.1, r26.1.2.2)), (r25.1, r25.2))
         else
          (spec_l1Cur_pick (r24.1.1, (r24.1.2.1, r24.1.2.2)) 40).bind fun r29 =>
           if r29.2 == 0 then
            (spec_l1Cur_among (r29.1.1, (r29.1.2.1, r29.1.2.2)) [0, 4, (-1)]).bind fun r30 =>
             some ((r30.1.1, (r30.1.2.1, r30.1.2.2)), (r30.2, s4.2.2.2.2.2))
           else
            if r29.2 == 1 then
             if 0 ≤ s4.2.2.1 ∧ s4.2.2.1 ≤ s4.2.2.1 ∧ s4.2.2.1 ≤ lim then
              if s4.2.2.2.2.2.length + [List.replicate (Int.toNat s4.2.2.1) (0 : Int)].length ≤ lim then
               some ((r29.1.1, (r29.1.2.1, r29.1.2.2)), (s4.2.2.2.2.1, s4.2.2.2.2.2 ++ [List.replicate (Int.toNat s4.2.2.1) (0 : Int)]))
              else none
             else none
            else
             if r29.2 == 2 then
              if decide ((s4.2.2.2.2.2.length : Int) > 0) then
               (spec_l1Cur_among (r29.1.1, (r29.1.2.1, r29.1.2.2)) [(-1), s4.2.1, 0]).bind fun r31 =>
                if inb 0 s4.2.2.2.2.2 then
                 some ((r31.1.1, (r31.1.2.1, r31.1.2.2)), (s4.2.2.2.2.1, stt s4.2.2.2.2.2 0 [r31.2]))
                else none
              else
               some ((r29.1.1, (r29.1.2.1, r29.1.2.2)), (s4.2.2.2.2.1, s4.2.2.2.2.2))
             else
              some ((r29.1.1, (r29.1.2.1, r29.1.2.2)), (s4.2.2.2.2.1, s4.2.2.2.2.2))
def spec_l1Cur_template_L9 : Nat → (((List Int) × Int × Int) × Int × (List (Int × (List (List Int)))) × (List (Int × (List (List Int)))) × Int × (Int × (List (List Int))) × Int) → Option (((List Int) × Int × Int) × Int × (List (Int × (List (List Int)))) × (List (Int × (List (List Int)))) × Int × (Int × (List (List Int))))
 | 0, _ => none
 | n + 1, (t0, t4, t5, t6, t7, t8, t9) =>
  if inb t7 t5 then
   if decide (t9 < (((gd t5 t7 (0, [])).2).length : Int)) then
    if inb t7 t5 then
     if inb t9 ((gd t5 t7 (0, [])).2) then
      (spec_l1Own (gd ((gd t5 t7 (0, [])).2) t9 [])).bind fun r4 =>
       if t8.2.length + [r4].length ≤ lim then
        spec_l1Cur_template_L9 n ((t0.1, (t0.2.1, t0.2.2)), t4, t5, t6, t7, (t8.1, t8.2 ++ [r4]), w64 (t9 + 1))
       else none
     else none
    else none
   else
    some ((t0.1, (t0.2.1, t0.2.2)), t4, t5, t6, t7, (t8.1, t8.2))
  else none
def spec_l1Cur_template_L5 : Nat → (((List Int) × Int × Int) × Int × (List (Int × (List (List Int)))) × (List (Int × (List (List Int)))) × Int) → Option (((List Int) × Int × Int) × Int × (List (Int × (List (List Int)))))
 | 0, _ => none
 | n + 1, (t0, t4, t5, t6, t7) =>
  if decide (t7 < (t5.length : Int)) then
   if inb t7 t5 then
    (spec_l1Cur_template_L9 fuel ((t0.1, (t0.2.1, t0.2.2)), t4, t5, t6, t7, ((gd t5 t7 (0, [])).1, []), 0)).bind fun s4 =>
     if s4.2.2.2.1.length + [(s4.2.2.2.2.2.1, s4.2.2.2.2.2.2)].length ≤ lim then
      spec_l1Cur_template_L5 n ((s4.1.1, (s4.1.2.1, s4.1.2.2)), s4.2.1, s4.2.2.1, s4.2.2.2.1 ++ [(s4.2.2.2.2.2.1, s4.2.2.2.2.2.2)], w64 (s4.2.2.2.2.1 + 1))
     else none
   else none
  else
   some ((t0.1, (t0.2.1, t0.2.2)), t4, t6)
def spec_l1Cur_template_L17 : Nat → (((List Int) × Int × Int) × Int × (List (Int × (List (List Int)))) × Int) → Option (((List Int) × Int × Int) × Int × (List (Int × (List (List Int)))))
 | 0, _ => none
 | n + 1, (t0, t10, t11, t12) =>
  if decide (t12 > 0) then
   (spec_l1Cur_among (t0.1, (t0.2.1, t0.2.2)) [1, 2, 2, 3]).bind fun r10 =>
    (spec_l1Cur_relation (r10.1.1, (r10.1.2.1, r10.1.2.2)) t10 r10.2).bind fun r11 =>
     if t11.length + [r11.2].length ≤ lim then
      spec_l1Cur_template_L17 n ((r11.1.1, (r11.1.2.1, r11.1.2.2)), t10, t11 ++ [r11.2], w64 (t12 - 1))
     else none
  else
   some ((t0.1, (t0.2.1, t0.2.2)), t10, t11)
def spec_l1Cur_template (t0 : (List Int) × Int × Int) : Option (((List Int) × Int × Int) × Int × (List (Int × (List (List Int))))) :=
 (spec_l1Cur_one (t0.1, (t0.2.1, t0.2.2)) 3).bind fun r1 =>
  if !r1.2 then
   (spec_l1Cur_pick (r1.1.1, (r1.1.2.1, r1.1.2.2)) 11).bind fun r2 =>
    (spec_l14Known r2.2).bind fun r3 =>
     (spec_l1Cur_template_L5 fuel ((r2.1.1, (r2.1.2.1, r2.1.2.2)), r3.1, r3.2, [], 0)).bind fun s4 =>
      some ((s4.1.1, (s4.1.2.1, s4.1.2.2)), s4.2.1, s4.2.2)
  else
   (spec_l1Cur_pick (r1.1.1, (r1.1.2.1, r1.1.2.2)) 24).bind fun r5 =>
    if (11 : Int) ≠ 0 then
     if (0 : Int) ≤ 0 ∧ 0 ≤ (w64 (7 + (w64 (Int.tdiv r5.2 11)))) ∧ (w64 (7 + (w64 (Int.tdiv r5.2 11)))) ≤ ([1, 2, 2, 2, 3, 3, 4, 0, 5].length : Int) then
      (spec_l1Cur_among (r5.1.1, (r5.1.2.1, r5.1.2.2)) (([1, 2, 2, 2, 3, 3, 4, 0, 5].take (Int.toNat (w64 (7 + (w64 (Int.tdiv r5.2 11)))))).drop (Int.toNat 0))).bind fun r6 =>
       (spec_l1Cur_pick (r6.1.1, (r6.1.2.1, r6.1.2.2)) 24).bind fun r7 =>
        if (23 : Int) ≠ 0 then
         if (0 : Int) ≤ 0 ∧ 0 ≤ (w64 (5 + (w64 (Int.tdiv r7.2 23)))) ∧ (w64 (5 + (w64 (Int.tdiv r7.2 23)))) ≤ ([0, 1, 1, 2, 4, 5].length : Int) then
          (spec_l1Cur_among (r7.1.1, (r7.1.2.1, r7.1.2.2)) (([0, 1, 1, 2, 4, 5].take (Int.toNat (w64 (5 + (w64 (Int.tdiv r7.2 23)))))).drop (Int.toNat 0))).bind fun r8 =>
           (spec_l1Cur_template_L17 fuel ((r8.1.1, (r8.1.2.1, r8.1.2.2)), r6.2, [], r8.2)).bind fun s9 =>
            some ((s9.1.1, (s9.1.2.1, s9.1.2.2)), s9.2.1, s9.2.2)
         else none
        else none
     else none
    else none
def spec_l1Cur_arity12 (c : (List Int) × Int × Int) : Option (((List Int) × Int × Int) × Int) :=
 (spec_l1Cur_pick (c.1, (c.2.1, c.2.2)) 24).bind fun r1 =>
  if (11 : Int) ≠ 0 then
   if (0 : Int) ≤ 0 ∧ 0 ≤ (w64 (6 + (w64 (Int.tdiv r1.2 11)))) ∧ (w64 (6 + (w64 (Int.tdiv r1.2 11)))) ≤ ([1, 1, 2, 2, 2, 3, 0, 4].length : Int) then
    (spec_l1Cur_among (r1.1.1, (r1.1.2.1, r1.1.2.2)) (([1, 1, 2, 2, 2, 3, 0, 4].take (Int.toNat (w64 (6 + (w64 (Int.tdiv r1.2 11)))))).drop (Int.toNat 0))).bind fun r2 =>
     some ((r2.1.1, (r2.1.2.1, r2.1.2.2)), r2.2)
   else none
  else none
def spec_DrawPolymorphismsOf (code : List Int) : Option (Int × (List (Int × (List (List Int)))) × Int) :=
 (spec_l1Cur_template (code, (0, 0))).bind fun r1 =>
  (spec_l1Cur_arity12 (r1.1.1, (r1.1.2.1, r1.1.2.2))).bind fun r2 =>
   some (r1.2.1, r1.2.2, r2.2)
def spec_DrawNetworkOfPolymorphisms (code : List Int) : Option (Int × (List (Int × (List (List Int)))) × Int) :=
 (spec_DrawPolymorphismsOf code).bind fun r1 =>
  some (r1.1, r1.2.1, r1.2.2)
def impl_sameRelation_L4 : Nat → ((Int × (List (List Int))) × (List (List Int)) × Int × Int) → Option ((Unit) ⊕ (Bool))
 | 0, _ => none
 | n + 1, (s, t22, t23, t24) =>
  if decide (t24 < t23) then
   if inb t24 t22 then
    if inb t24 s.2 then
     (impl_sameList (gd t22 t24 []) (gd s.2 t24 [])).bind fun r1 =>
      if !r1 then
       some (.inr false)
      else
       impl_sameRelation_L4 n ((s.1, s.2), t22, t23, w64 (t24 + 1))
    else none
   else none
  else
   some (.inl ())
def impl_sameRelation (r : Int × (List (List Int))) (s : Int × (List (List Int))) : Option (Bool) :=
 if r.1 != s.1 then
  some false
 else
  if (r.2.length : Int) != (s.2.length : Int) then
   some false
  else
   (impl_sameRelation_L4 fuel ((s.1, s.2), r.2, (r.2.length : Int), 0)).bind fun s1 =>
    match s1 with
    | .inl s2 =>
     some true
    | .inr s3 =>
     some s3
def impl_hasConstraint_L2 : Nat → (((List Int) × Int × (List (List Int))) × (List ((List Int) × Int × (List (List Int)))) × Int × Int) → Option ((Unit) ⊕ (Bool))
 | 0, _ => none
 | n + 1, (c, t7, t8, t9) =>
  if decide (t9 < t8) then
   if inb t9 t7 then
    (impl_sameList c.1 ((gd t7 t9 ([], (0, []))).1)).bind fun r1 =>
     if r1 then
      (impl_sameRelation (c.2.1, c.2.2) (((gd t7 t9 ([], (0, []))).2).1, ((gd t7 t9 ([], (0, []))).2).2)).bind fun r2 =>
       if r2 then
        some (.inr true)
       else
        impl_hasConstraint_L2 n ((c.1, (c.2.1, c.2.2)), t7, t8, w64 (t9 + 1))
     else
      impl_hasConstraint_L2 n ((c.1, (c.2.1, c.2.2)), t7, t8, w64 (t9 + 1))
   else none
  else
   some (.inl ())
def impl_hasConstraint (list : List ((List Int) × Int × (List (List Int)))) (c : (List Int) × Int × (List (List Int))) : Option (Bool) :=
 (impl_hasConstraint_L2 fuel ((c.1, (c.2.1, c.2.2)), list, (list.length : Int), 0)).bind fun s1 =>
  match s1 with
  | .inl s2 =>
   some false
  | .inr s3 =>
   some s3
def impl_NetworkOfPolymorphisms_L15 : Nat → (Int × Int × (Int × (Int × (List ((List Int) × Int × (List (List Int)))))) × (Int × (Int × (List ((List Int) × Int × (List (List Int)))))) × (Int × (List (List Int))) × Int × ((List Int) × (Int × (List (List Int)))) × Int × (List (Int × (List (List Int)))) × Int × Int × (List Int) × Int × Int × Int × Int) → Option (Int × Int × (Int × (Int × (List ((List Int) × Int × (List (List Int)))))) × (Int × (Int × (List ((List Int) × Int × (List (List Int)))))) × (Int × (List (List Int))) × Int × ((List Int) × (Int × (List (List Int)))) × (List (Int × (List (List Int)))) × Int × Int × (List Int) × Int × Int)
 | 0, _ => none
 | n + 1, (t0, t2, t6, t8, t10, t11, t12, t14, t33, t34, t35, t59, t60, t61, t67, t68) =>
  if decide (t68 < t67) then
   if inb t68 t12.1 then
    if inb t14 t10.2 then
     if inb t68 (gd t10.2 t14 []) then
      if inb t68 t12.1 then
       impl_NetworkOfPolymorphisms_L15 n (t0, t2, (t6.1, (t6.2.1, t6.2.2)), (t8.1, (t8.2.1, t8.2.2)), (t10.1, t10.2), t11, (stt t12.1 t68 (w64 ((w64 ((gd t12.1 t68 0) * t0)) + (gd (gd t10.2 t14 []) t68 0))), (t12.2.1, t12.2.2)), t14, t33, t34, t35, t59, t60, t61, t67, w64 (t68 + 1))
      else none
     else none
    else none
   else none
  else
   some (t0, t2, (t6.1, (t6.2.1, t6.2.2)), (t8.1, (t8.2.1, t8.2.2)), (t10.1, t10.2), t11, (t12.1, (t12.2.1, t12.2.2)), t33, t34, t35, t59, t60, t61)
def impl_NetworkOfPolymorphisms_L12 : Nat → (Int × Int × (Int × (Int × (List ((List Int) × Int × (List (List Int)))))) × (Int × (Int × (List ((List Int) × Int × (List (List Int)))))) × (Int × (List (List Int))) × Int × ((List Int) × (Int × (List (List Int)))) × (List (Int × (List (List Int)))) × Int × Int × (List Int) × Int × Int) → Option (Int × Int × (Int × (Int × (List ((List Int) × Int × (List (List Int)))))) × (Int × (Int × (List ((List Int) × Int × (List (List Int)))))) × (Int × (List (List Int))) × Int × ((List Int) × (Int × (List (List Int)))) × (List (Int × (List (List Int)))) × Int × Int)
 | 0, _ => none
 | n + 1, (t0, t2, t6, t8, t10, t11, t12, t33, t34, t35, t59, t60, t61) =>
  if decide (t61 < t60) then
   if inb t61 t59 then
    (impl_NetworkOfPolymorphisms_L15 fuel (t0, t2, (t6.1, (t6.2.1, t6.2.2)), (t8.1, (t8.2.1, t8.2.2)), (t10.1, t10.2), t11, (t12.1, (t12.2.1, t12.2.2)), gd t59 t61 0, t33, t34, t35, t59, t60, t61, (t12.1.length : Int), 0)).bind fun s7 =>
     impl_NetworkOfPolymorphisms_L12 n (s7.1, s7.2.1, (s7.2.2.1.1, (s7.2.2.1.2.1, s7.2.2.1.2.2)), (s7.2.2.2.1.1, (s7.2.2.2.1.2.1, s7.2.2.2.1.2.2)), (s7.2.2.2.2.1.1, s7.2.2.2.2.1.2), s7.2.2.2.2.2.1, (s7.2.2.2.2.2.2.1.1, (s7.2.2.2.2.2.2.1.2.1, s7.2.2.2.2.2.2.1.2.2)), s7.2.2.2.2.2.2.2.1, s7.2.2.2.2.2.2.2.2.1, s7.2.2.2.2.2.2.2.2.2.1, s7.2.2.2.2.2.2.2.2.2.2.1, s7.2.2.2.2.2.2.2.2.2.2.2.1, w64 (s7.2.2.2.2.2.2.2.2.2.2.2.2 + 1))
   else none
  else
   some (t0, t2, (t6.1, (t6.2.1, t6.2.2)), (t8.1, (t8.2.1, t8.2.2)), (t10.1, t10.2), t11, (t12.1, (t12.2.1, t12.2.2)), t33, t34, t35)
def impl_NetworkOfPolymorphisms_L8 : Nat → (Int × Int × (Int × (Int × (List ((List Int) × Int × (List (List Int)))))) × (Int × (Int × (List ((List Int) × Int × (List (List Int)))))) × (Int × (List (List Int))) × Int × (List (Int × (List (List Int)))) × Int × Int) → Option ((Int × Int × (Int × (Int × (List ((List Int) × Int × (List (List Int)))))) × (Int × (Int × (List ((List Int) × Int × (List (List Int)))))) × (List (Int × (List (List Int)))) × Int × Int) ⊕ ((Int × Int × (List ((List Int) × Int × (List (List Int))))) × Bool))
 | 0, _ => none
 | n + 1, (t0, t2, t6, t8, t10, t11, t33, t34, t35) =>
  (impl_power (t10.2.length : Int) t2).bind fun r4 =>
   if decide (t11 < r4) then
    if 0 ≤ t10.1 ∧ t10.1 ≤ t10.1 ∧ t10.1 ≤ lim then
     (impl_cloneRelation (t10.1, t10.2)).bind fun r5 =>
      (impl_argsAt t11 t2 (t10.2.length : Int)).bind fun r6 =>
       (impl_NetworkOfPolymorphisms_L12 fuel (t0, t2, (t6.1, (t6.2.1, t6.2.2)), (t8.1, (t8.2.1, t8.2.2)), (t10.1, t10.2), t11, (List.replicate (Int.toNat t10.1) (0 : Int), (r5.1, r5.2)), t33, t34, t35, r6, (r6.length : Int), 0)).bind fun s7 =>
        (impl_hasConstraint s7.2.2.2.1.2.2 (s7.2.2.2.2.2.2.1.1, (s7.2.2.2.2.2.2.1.2.1, s7.2.2.2.2.2.2.1.2.2))).bind fun r8 =>
         if r8 then
          impl_NetworkOfPolymorphisms_L8 n (s7.1, s7.2.1, (s7.2.2.1.1, (s7.2.2.1.2.1, s7.2.2.1.2.2)), (s7.2.2.2.1.1, (s7.2.2.2.1.2.1, s7.2.2.2.1.2.2)), (s7.2.2.2.2.1.1, s7.2.2.2.2.1.2), w64 (s7.2.2.2.2.2.1 + 1), s7.2.2.2.2.2.2.2.1, s7.2.2.2.2.2.2.2.2.1, s7.2.2.2.2.2.2.2.2.2)
         else
          if (s7.2.2.2.1.2.2.length : Int) == 40 then
           some (.inr ((0, (0, [])), false))
          else
           if s7.2.2.2.1.2.2.length + [(s7.2.2.2.2.2.2.1.1, (s7.2.2.2.2.2.2.1.2.1, s7.2.2.2.2.2.2.1.2.2))].length ≤ lim then
            impl_NetworkOfPolymorphisms_L8 n (s7.1, s7.2.1, (s7.2.2.1.1, (s7.2.2.1.2.1, s7.2.2.1.2.2)), (s7.2.2.2.1.1, (s7.2.2.2.1.2.1, s7.2.2.2.1.2.2 ++ [(s7.2.2.2.2.2.2.1.1, (s7.2.2.2.2.2.2.1.2.1, s7.2.2.2.2.2.2.1.2.2))])), (s7.2.2.2.2.1.1, s7.2.2.2.2.1.2), w64 (s7.2.2.2.2.2.1 + 1), s7.2.2.2.2.2.2.2.1, s7.2.2.2.2.2.2.2.2.1, s7.2.2.2.2.2.2.2.2.2)
           else none
    else none
   else
    some (.inl (t0, t2, (t6.1, (t6.2.1, t6.2.2)), (t8.1, (t8.2.1, t8.2.2)), t33, t34, t35))
def impl_NetworkOfPolymorphisms_L5 : Nat → (Int × Int × (Int × (Int × (List ((List Int) × Int × (List (List Int)))))) × (Int × (Int × (List ((List Int) × Int × (List (List Int)))))) × (List (Int × (List (List Int)))) × Int × Int) → Option (((Int × (Int × (List ((List Int) × Int × (List (List Int)))))) × (Int × (Int × (List ((List Int) × Int × (List (List Int))))))) ⊕ ((Int × Int × (List ((List Int) × Int × (List (List Int))))) × Bool))
 | 0, _ => none
 | n + 1, (t0, t2, t6, t8, t33, t34, t35) =>
  if decide (t35 < t34) then
   if inb t35 t33 then
    (impl_NetworkOfPolymorphisms_L8 fuel (t0, t2, (t6.1, (t6.2.1, t6.2.2)), (t8.1, (t8.2.1, t8.2.2)), ((gd t33 t35 (0, [])).1, (gd t33 t35 (0, [])).2), 0, t33, t34, t35)).bind fun s4 =>
     match s4 with
     | .inl s5 =>
      impl_NetworkOfPolymorphisms_L5 n (s5.1, s5.2.1, (s5.2.2.1.1, (s5.2.2.1.2.1, s5.2.2.1.2.2)), (s5.2.2.2.1.1, (s5.2.2.2.1.2.1, s5.2.2.2.1.2.2)), s5.2.2.2.2.1, s5.2.2.2.2.2.1, w64 (s5.2.2.2.2.2.2 + 1))
     | .inr s6 =>
      some (.inr ((s6.1.1, (s6.1.2.1, s6.1.2.2)), s6.2))
   else none
  else
   some (.inl ((t6.1, (t6.2.1, t6.2.2)), (t8.1, (t8.2.1, t8.2.2))))
def impl_NetworkOfPolymorphisms (t0 : Int) (t1 : List (Int × (List (List Int)))) (t2 : Int) : Option ((Int × Int × (List ((List Int) × Int × (List (List Int))))) × Bool) :=
 (impl_canAsk t0 t1 t2).bind fun r1 =>
  if !r1 then
   some ((0, (0, [])), false)
  else
   (impl_isPolyRange t0 t2).bind fun r2 =>
    if !r2 then
     some ((0, (0, [])), false)
    else
     (impl_power t0 t2).bind fun r3 =>
      (impl_NetworkOfPolymorphisms_L5 fuel (t0, t2, (0, (0, [])), (r3, (t0, [])), t1, (t1.length : Int), 0)).bind fun s4 =>
       match s4 with
       | .inl s5 =>
        some ((s5.2.1, (s5.2.2.1, s5.2.2.2)), true)
       | .inr s6 =>
        some ((s6.1.1, (s6.1.2.1, s6.1.2.2)), s6.2)
def spec_l19SameRel_L4 : Nat → ((Int × (List (List Int))) × (Int × (List (List Int))) × Int) → Option ((Unit) ⊕ (Bool))
 | 0, _ => none
 | n + 1, (r, s, i) =>
  if decide (i < (r.2.length : Int)) then
   if inb i r.2 then
    if inb i s.2 then
     (spec_l1Same (gd r.2 i []) (gd s.2 i [])).bind fun r1 =>
      if !r1 then
       some (.inr false)
      else
       spec_l19SameRel_L4 n ((r.1, r.2), (s.1, s.2), w64 (i + 1))
    else none
   else none
  else
   some (.inl ())
def spec_l19SameRel (r : Int × (List (List Int))) (s : Int × (List (List Int))) : Option (Bool) :=
 if r.1 != s.1 then
  some false
 else
  if (r.2.length : Int) != (s.2.length : Int) then
   some false
  else
   (spec_l19SameRel_L4 fuel ((r.1, r.2), (s.1, s.2), 0)).bind fun s1 =>
    match s1 with
    | .inl s2 =>
     some true
    | .inr s3 =>
     some s3
def spec_NetworkOfPolymorphisms_L18 : Nat → (Int × (List (Int × (List (List Int)))) × Int × (Int × (Int × (List ((List Int) × Int × (List (List Int)))))) × (Int × (Int × (List ((List Int) × Int × (List (List Int)))))) × Int × Int × Int × (List Int) × (List Int) × Int × Int × Int) → Option (Int × (List (Int × (List (List Int)))) × Int × (Int × (Int × (List ((List Int) × Int × (List (List Int)))))) × (Int × (Int × (List ((List Int) × Int × (List (List Int)))))) × Int × Int × Int × (List Int) × (List Int) × Int × Int)
 | 0, _ => none
 | n + 1, (t0, t1, t2, t6, t8, t9, t10, t11, t12, t13, t14, t15, t16) =>
  if decide (t16 < t2) then
   if inb t9 t1 then
    if inb t16 t12 then
     if inb (gd t12 t16 0) ((gd t1 t9 (0, [])).2) then
      if inb t14 (gd ((gd t1 t9 (0, [])).2) (gd t12 t16 0) []) then
       spec_NetworkOfPolymorphisms_L18 n (t0, t1, t2, (t6.1, (t6.2.1, t6.2.2)), (t8.1, (t8.2.1, t8.2.2)), t9, t10, t11, t12, t13, t14, w64 ((w64 (t15 * t0)) + (gd (gd ((gd t1 t9 (0, [])).2) (gd t12 t16 0) []) t14 0)), w64 (t16 + 1))
      else none
     else none
    else none
   else none
  else
   some (t0, t1, t2, (t6.1, (t6.2.1, t6.2.2)), (t8.1, (t8.2.1, t8.2.2)), t9, t10, t11, t12, t13, t14, t15)
def spec_NetworkOfPolymorphisms_L14 : Nat → (Int × (List (Int × (List (List Int)))) × Int × (Int × (Int × (List ((List Int) × Int × (List (List Int)))))) × (Int × (Int × (List ((List Int) × Int × (List (List Int)))))) × Int × Int × Int × (List Int) × (List Int) × Int) → Option (Int × (List (Int × (List (List Int)))) × Int × (Int × (Int × (List ((List Int) × Int × (List (List Int)))))) × (Int × (Int × (List ((List Int) × Int × (List (List Int)))))) × Int × Int × Int × (List Int))
 | 0, _ => none
 | n + 1, (t0, t1, t2, t6, t8, t9, t10, t11, t12, t13, t14) =>
  if inb t9 t1 then
   if decide (t14 < ((gd t1 t9 (0, [])).1)) then
    (spec_NetworkOfPolymorphisms_L18 fuel (t0, t1, t2, (t6.1, (t6.2.1, t6.2.2)), (t8.1, (t8.2.1, t8.2.2)), t9, t10, t11, t12, t13, t14, 0, 0)).bind fun s5 =>
     if s5.2.2.2.2.2.2.2.2.2.1.length + [s5.2.2.2.2.2.2.2.2.2.2.2].length ≤ lim then
      spec_NetworkOfPolymorphisms_L14 n (s5.1, s5.2.1, s5.2.2.1, (s5.2.2.2.1.1, (s5.2.2.2.1.2.1, s5.2.2.2.1.2.2)), (s5.2.2.2.2.1.1, (s5.2.2.2.2.1.2.1, s5.2.2.2.2.1.2.2)), s5.2.2.2.2.2.1, s5.2.2.2.2.2.2.1, s5.2.2.2.2.2.2.2.1, s5.2.2.2.2.2.2.2.2.1, s5.2.2.2.2.2.2.2.2.2.1 ++ [s5.2.2.2.2.2.2.2.2.2.2.2], w64 (s5.2.2.2.2.2.2.2.2.2.2.1 + 1))
     else none
   else
    some (t0, t1, t2, (t6.1, (t6.2.1, t6.2.2)), (t8.1, (t8.2.1, t8.2.2)), t9, t10, t11, t13)
  else none
def spec_NetworkOfPolymorphisms_L24 : Nat → (Int × (List (Int × (List (List Int)))) × Int × (Int × (Int × (List ((List Int) × Int × (List (List Int)))))) × (Int × (Int × (List ((List Int) × Int × (List (List Int)))))) × Int × Int × Int × (List Int) × Bool × Int) → Option (Int × (List (Int × (List (List Int)))) × Int × (Int × (Int × (List ((List Int) × Int × (List (List Int)))))) × (Int × (Int × (List ((List Int) × Int × (List (List Int)))))) × Int × Int × Int × (List Int) × Bool)
 | 0, _ => none
 | n + 1, (t0, t1, t2, t6, t8, t9, t10, t11, t13, t17, t18) =>
  if decide (t18 < (t8.2.2.length : Int)) then
   if t17 then
    spec_NetworkOfPolymorphisms_L24 n (t0, t1, t2, (t6.1, (t6.2.1, t6.2.2)), (t8.1, (t8.2.1, t8.2.2)), t9, t10, t11, t13, true, w64 (t18 + 1))
   else
    if inb t18 t8.2.2 then
     (spec_l1Same ((gd t8.2.2 t18 ([], (0, []))).1) t13).bind fun r7 =>
      if r7 then
       if inb t18 t8.2.2 then
        if inb t9 t1 then
         (spec_l19SameRel (((gd t8.2.2 t18 ([], (0, []))).2).1, ((gd t8.2.2 t18 ([], (0, []))).2).2) (gd t1 t9 (0, []))).bind fun r8 =>
          spec_NetworkOfPolymorphisms_L24 n (t0, t1, t2, (t6.1, (t6.2.1, t6.2.2)), (t8.1, (t8.2.1, t8.2.2)), t9, t10, t11, t13, r8, w64 (t18 + 1))
        else none
       else none
      else
       spec_NetworkOfPolymorphisms_L24 n (t0, t1, t2, (t6.1, (t6.2.1, t6.2.2)), (t8.1, (t8.2.1, t8.2.2)), t9, t10, t11, t13, false, w64 (t18 + 1))
    else none
  else
   some (t0, t1, t2, (t6.1, (t6.2.1, t6.2.2)), (t8.1, (t8.2.1, t8.2.2)), t9, t10, t11, t13, t17)
def spec_NetworkOfPolymorphisms_L9 : Nat → (Int × (List (Int × (List (List Int)))) × Int × (Int × (Int × (List ((List Int) × Int × (List (List Int)))))) × (Int × (Int × (List ((List Int) × Int × (List (List Int)))))) × Int × Int × Int) → Option ((Int × (List (Int × (List (List Int)))) × Int × (Int × (Int × (List ((List Int) × Int × (List (List Int)))))) × (Int × (Int × (List ((List Int) × Int × (List (List Int)))))) × Int) ⊕ ((Int × Int × (List ((List Int) × Int × (List (List Int))))) × Bool))
 | 0, _ => none
 | n + 1, (t0, t1, t2, t6, t8, t9, t10, t11) =>
  (spec_l2Pow t10 t2).bind fun r3 =>
   if decide (t11 < r3) then
    (spec_l2Args t10 t2 t11).bind fun r4 =>
     (spec_NetworkOfPolymorphisms_L14 fuel (t0, t1, t2, (t6.1, (t6.2.1, t6.2.2)), (t8.1, (t8.2.1, t8.2.2)), t9, t10, t11, r4, [], 0)).bind fun s5 =>
      (spec_NetworkOfPolymorphisms_L24 fuel (s5.1, s5.2.1, s5.2.2.1, (s5.2.2.2.1.1, (s5.2.2.2.1.2.1, s5.2.2.2.1.2.2)), (s5.2.2.2.2.1.1, (s5.2.2.2.2.1.2.1, s5.2.2.2.2.1.2.2)), s5.2.2.2.2.2.1, s5.2.2.2.2.2.2.1, s5.2.2.2.2.2.2.2.1, s5.2.2.2.2.2.2.2.2, false, 0)).bind fun s6 =>
       if s6.2.2.2.2.2.2.2.2.2 then
        spec_NetworkOfPolymorphisms_L9 n (s6.1, s6.2.1, s6.2.2.1, (s6.2.2.2.1.1, (s6.2.2.2.1.2.1, s6.2.2.2.1.2.2)), (s6.2.2.2.2.1.1, (s6.2.2.2.2.1.2.1, s6.2.2.2.2.1.2.2)), s6.2.2.2.2.2.1, s6.2.2.2.2.2.2.1, w64 (s6.2.2.2.2.2.2.2.1 + 1))
       else
        if (s6.2.2.2.2.1.2.2.length : Int) == 40 then
         some (.inr ((0, (0, [])), false))
        else
         if inb s6.2.2.2.2.2.1 s6.2.1 then
          (spec_l19Copy [(s6.2.2.2.2.2.2.2.2.1, gd s6.2.1 s6.2.2.2.2.2.1 (0, []))]).bind fun r7 =>
           if inb 0 r7 then
            if s6.2.2.2.2.1.2.2.length + [((gd r7 0 ([], (0, []))).1, (((gd r7 0 ([], (0, []))).2).1, ((gd r7 0 ([], (0, []))).2).2))].length ≤ lim then
             spec_NetworkOfPolymorphisms_L9 n (s6.1, s6.2.1, s6.2.2.1, (s6.2.2.2.1.1, (s6.2.2.2.1.2.1, s6.2.2.2.1.2.2)), (s6.2.2.2.2.1.1, (s6.2.2.2.2.1.2.1, s6.2.2.2.2.1.2.2 ++ [((gd r7 0 ([], (0, []))).1, (((gd r7 0 ([], (0, []))).2).1, ((gd r7 0 ([], (0, []))).2).2))])), s6.2.2.2.2.2.1, s6.2.2.2.2.2.2.1, w64 (s6.2.2.2.2.2.2.2.1 + 1))
            else none
           else none
         else none
   else
    some (.inl (t0, t1, t2, (t6.1, (t6.2.1, t6.2.2)), (t8.1, (t8.2.1, t8.2.2)), t9))
def spec_NetworkOfPolymorphisms_L5 : Nat → (Int × (List (Int × (List (List Int)))) × Int × (Int × (Int × (List ((List Int) × Int × (List (List Int)))))) × (Int × (Int × (List ((List Int) × Int × (List (List Int)))))) × Int) → Option (((Int × (Int × (List ((List Int) × Int × (List (List Int)))))) × (Int × (Int × (List ((List Int) × Int × (List (List Int))))))) ⊕ ((Int × Int × (List ((List Int) × Int × (List (List Int))))) × Bool))
 | 0, _ => none
 | n + 1, (t0, t1, t2, t6, t8, t9) =>
  if decide (t9 < (t1.length : Int)) then
   if inb t9 t1 then
    (spec_NetworkOfPolymorphisms_L9 fuel (t0, t1, t2, (t6.1, (t6.2.1, t6.2.2)), (t8.1, (t8.2.1, t8.2.2)), t9, (((gd t1 t9 (0, [])).2).length : Int), 0)).bind fun s3 =>
     match s3 with
     | .inl s4 =>
      spec_NetworkOfPolymorphisms_L5 n (s4.1, s4.2.1, s4.2.2.1, (s4.2.2.2.1.1, (s4.2.2.2.1.2.1, s4.2.2.2.1.2.2)), (s4.2.2.2.2.1.1, (s4.2.2.2.2.1.2.1, s4.2.2.2.2.1.2.2)), w64 (s4.2.2.2.2.2 + 1))
     | .inr s5 =>
      some (.inr ((s5.1.1, (s5.1.2.1, s5.1.2.2)), s5.2))
   else none
  else
   some (.inl ((t6.1, (t6.2.1, t6.2.2)), (t8.1, (t8.2.1, t8.2.2))))
def spec_NetworkOfPolymorphisms (t0 : Int) (t1 : List (Int × (List (List Int)))) (t2 : Int) : Option ((Int × Int × (List ((List Int) × Int × (List (List Int))))) × Bool) :=
 (spec_l14Small t0 t1 t2).bind fun r1 =>
  if !r1 then
   some ((0, (0, [])), false)
  else
   (spec_l2Pow t0 t2).bind fun r2 =>
    (spec_NetworkOfPolymorphisms_L5 fuel (t0, t1, t2, (0, (0, [])), (r2, (t0, [])), 0)).bind fun s3 =>
     match s3 with
     | .inl s4 =>
      some ((s4.2.1, (s4.2.2.1, s4.2.2.2)), true)
     | .inr s5 =>
      some ((s5.1.1, (s5.1.2.1, s5.1.2.2)), s5.2)
def laws_rInts_L4 : Nat → ((List Int) × (List Int) × Int) → Option ((Unit) ⊕ (Bool))
 | 0, _ => none
 | n + 1, (a, b, i) =>
  if decide (i < (a.length : Int)) then
   if inb i a then
    if inb i b then
     if (gd a i 0) != (gd b i 0) then
      some (.inr false)
     else
      laws_rInts_L4 n (a, b, w64 (i + 1))
    else none
   else none
  else
   some (.inl ())
def laws_rInts (a : List Int) (b : List Int) : Option (Bool) :=
 if (a.length : Int) != (b.length : Int) then
  some false
 else
  (laws_rInts_L4 fuel (a, b, 0)).bind fun s1 =>
   match s1 with
   | .inl s2 =>
    some true
   | .inr s3 =>
    some s3
def laws_rTable_L4 : Nat → ((List (List Int)) × (List (List Int)) × Int) → Option ((Unit) ⊕ (Bool))
 | 0, _ => none
 | n + 1, (a, b, i) =>
  if decide (i < (a.length : Int)) then
   if inb i a then
    if inb i b then
     (laws_rInts (gd a i []) (gd b i [])).bind fun r1 =>
      if !r1 then
       some (.inr false)
      else
       laws_rTable_L4 n (a, b, w64 (i + 1))
    else none
   else none
  else
   some (.inl ())
def laws_rTable (a : List (List Int)) (b : List (List Int)) : Option (Bool) :=
 if (a.length : Int) != (b.length : Int) then
  some false
 else
  (laws_rTable_L4 fuel (a, b, 0)).bind fun s1 =>
   match s1 with
   | .inl s2 =>
    some true
   | .inr s3 =>
    some s3
def impl_CountSolutions_c1 (t0 : List Int) (t1 : Int) : Option (Int × Bool) :=
 some (w64 (t1 + 1), true)
def impl_netSearch_each_c1_impl_CountSolutions_c1_L10 (rec : (Int × (List Int) × Int × (Bool × Int × (List (List (List Int))) × (List (List (List ByteArray)))) × (List Int) × Unit) → Option ((List Int) × Int × (Bool × Int × (List (List (List Int))) × (List (List (List ByteArray)))) × (List Int) × Bool)) : Nat → (Int × (List Int) × Int × (Bool × Int × (List (List (List Int))) × (List (List (List ByteArray)))) × (List Int) × Unit × Int × Bool × (List (List Int)) × Int × Int) → Option (Int × (List Int) × Int × (Bool × Int × (List (List (List Int))) × (List (List (List ByteArray)))) × (List Int) × Unit × Int × Bool)
 | 0, _ => none
 | n + 1, (t0, t1, t2, t3, t4, t5, t8, t9, t50, t51, t52) =>
  if decide (t52 < t51) then
   if inb t52 t50 then
    if t9 then
     if t3.1 = true then
      if inb t0 t3.2.2.2 then
       if inb t52 (gd t3.2.2.2 t0 []) then
        (impl_compose (gd t50 t52 []) t1).bind fun r2 =>
         (impl_keyOf r2).bind fun r3 =>
          impl_netSearch_each_c1_impl_CountSolutions_c1_L10 rec n (t0, t1, t2, t3, t4, (), t8, mhas (gd (gd t3.2.2.2 t0 []) t52 []) r3, t50, t51, w64 (t52 + 1))
       else none
      else none
     else none
    else
     impl_netSearch_each_c1_impl_CountSolutions_c1_L10 rec n (t0, t1, t2, t3, t4, (), t8, false, t50, t51, w64 (t52 + 1))
   else none
  else
   some (t0, t1, t2, t3, t4, (), t8, t9)
def impl_netSearch_each_c1_impl_CountSolutions_c1_L4 (rec : (Int × (List Int) × Int × (Bool × Int × (List (List (List Int))) × (List (List (List ByteArray)))) × (List Int) × Unit) → Option ((List Int) × Int × (Bool × Int × (List (List (List Int))) × (List (List (List ByteArray)))) × (List Int) × Bool)) : Nat → (Int × (List Int) × Int × (Bool × Int × (List (List (List Int))) × (List (List (List ByteArray)))) × (List Int) × Unit × Int) → Option (((List Int) × Int × (Bool × Int × (List (List (List Int))) × (List (List (List ByteArray)))) × (List Int) × Unit) ⊕ ((List Int) × Int × (Bool × Int × (List (List (List Int))) × (List (List (List ByteArray)))) × (List Int) × Unit × Bool))
 | 0, _ => none
 | n + 1, (t0, t1, t2, t3, t4, t5, t8) =>
  if t3.1 = true then
   if decide (t8 < t3.2.1) then
    if inb t0 t4 then
     if decide ((gd t4 t0 0) ≥ 0) then
      if inb t0 t4 then
       if (gd t4 t0 0) != t8 then
        impl_netSearch_each_c1_impl_CountSolutions_c1_L4 rec n (t0, t1, t2, t3, t4, (), w64 (t8 + 1))
       else
        if inb t0 t1 then
         if t3.1 = true then
          if inb t0 t3.2.2.1 then
           (impl_netSearch_each_c1_impl_CountSolutions_c1_L10 rec fuel (t0, stt t1 t0 t8, t2, t3, t4, (), t8, true, gd t3.2.2.1 t0 [], ((gd t3.2.2.1 t0 []).length : Int), 0)).bind fun s2 =>
            if s2.2.2.2.2.2.2.2 then
             (rec (w64 (s2.1 + 1), s2.2.1, s2.2.2.1, s2.2.2.2.1, s2.2.2.2.2.1, ())).bind fun r3 =>
              if !r3.2.2.2.2 then
               some (.inr (r3.1, r3.2.1, r3.2.2.1, r3.2.2.2.1, (), false))
              else
               impl_netSearch_each_c1_impl_CountSolutions_c1_L4 rec n (s2.1, r3.1, r3.2.1, r3.2.2.1, r3.2.2.2.1, (), w64 (s2.2.2.2.2.2.2.1 + 1))
            else
             impl_netSearch_each_c1_impl_CountSolutions_c1_L4 rec n (s2.1, s2.2.1, s2.2.2.1, s2.2.2.2.1, s2.2.2.2.2.1, (), w64 (s2.2.2.2.2.2.2.1 + 1))
          else none
         else none
        else none
      else none
     else
      if inb t0 t1 then
       if t3.1 = true then
        if inb t0 t3.2.2.1 then
         (impl_netSearch_each_c1_impl_CountSolutions_c1_L10 rec fuel (t0, stt t1 t0 t8, t2, t3, t4, (), t8, true, gd t3.2.2.1 t0 [], ((gd t3.2.2.1 t0 []).length : Int), 0)).bind fun s4 =>
          if s4.2.2.2.2.2.2.2 then
           (rec (w64 (s4.1 + 1), s4.2.1, s4.2.2.1, s4.2.2.2.1, s4.2.2.2.2.1, ())).bind fun r5 =>
            if !r5.2.2.2.2 then
             some (.inr (r5.1, r5.2.1, r5.2.2.1, r5.2.2.2.1, (), false))
            else
             impl_netSearch_each_c1_impl_CountSolutions_c1_L4 rec n (s4.1, r5.1, r5.2.1, r5.2.2.1, r5.2.2.2.1, (), w64 (s4.2.2.2.2.2.2.1 + 1))
          else
           impl_netSearch_each_c1_impl_CountSolutions_c1_L4 rec n (s4.1, s4.2.1, s4.2.2.1, s4.2.2.2.1, s4.2.2.2.2.1, (), w64 (s4.2.2.2.2.2.2.1 + 1))
        else none
       else none
      else none
    else none
   else
    some (.inl (t1, t2, t3, t4, ()))
  else none
def impl_netSearch_each_c1_impl_CountSolutions_c1_body (rec : (Int × (List Int) × Int × (Bool × Int × (List (List (List Int))) × (List (List (List ByteArray)))) × (List Int) × Unit) → Option ((List Int) × Int × (Bool × Int × (List (List (List Int))) × (List (List (List ByteArray)))) × (List Int) × Bool)) (t0 : Int) (t1 : List Int) (t2 : Int) (t3 : Bool × Int × (List (List (List Int))) × (List (List (List ByteArray)))) (t4 : List Int) (t5 : Unit) : Option ((List Int) × Int × (Bool × Int × (List (List (List Int))) × (List (List (List ByteArray)))) × (List Int) × Bool) :=
 if t0 == (t1.length : Int) then
  (impl_CountSolutions_c1 t1 t2).bind fun r1 =>
   some (t1, r1.1, t3, t4, r1.2)
 else
  (impl_netSearch_each_c1_impl_CountSolutions_c1_L4 rec fuel (t0, t1, t2, t3, t4, (), 0)).bind fun s2 =>
   match s2 with
   | .inl s3 =>
    some (s3.1, s3.2.1, s3.2.2.1, s3.2.2.2.1, true)
   | .inr s4 =>
    some (s4.1, s4.2.1, s4.2.2.1, s4.2.2.2.1, s4.2.2.2.2.2)
def impl_netSearch_each_c1_impl_CountSolutions_c1 : Nat → (Int × (List Int) × Int × (Bool × Int × (List (List (List Int))) × (List (List (List ByteArray)))) × (List Int) × Unit) → Option ((List Int) × Int × (Bool × Int × (List (List (List Int))) × (List (List (List ByteArray)))) × (List Int) × Bool)
 | 0, _ => none
 | d + 1, x => impl_netSearch_each_c1_impl_CountSolutions_c1_body (impl_netSearch_each_c1_impl_CountSolutions_c1 d) x.1 x.2.1 x.2.2.1 x.2.2.2.1 x.2.2.2.2.1 x.2.2.2.2.2
def impl_netSearch_each_impl_CountSolutions_c1 (s : Bool × Int × (List (List (List Int))) × (List (List (List ByteArray)))) (partial_ : List Int) (found : Int) : Option (Int) :=
 if 0 ≤ (partial_.length : Int) ∧ (partial_.length : Int) ≤ (partial_.length : Int) ∧ (partial_.length : Int) ≤ lim then
  (impl_netSearch_each_c1_impl_CountSolutions_c1 fuel (0, List.replicate (Int.toNat (partial_.length : Int)) (0 : Int), found, s, partial_, ())).bind fun r1 =>
   some r1.2.1
 else none
def impl_eachSolution_impl_CountSolutions_c1 (net : Int × Int × (List ((List Int) × Int × (List (List Int))))) (found : Int) : Option (Int) :=
 (impl_newNetSearch (net.1, (net.2.1, net.2.2))).bind fun r1 =>
  (impl_freeTable net.1).bind fun r2 =>
   (impl_netSearch_each_impl_CountSolutions_c1 r1 r2 found).bind fun r3 =>
    some r3
def impl_CountSolutions (net : Int × Int × (List ((List Int) × Int × (List (List Int))))) : Option (Int × Bool) :=
 (impl_IsNetwork (net.1, (net.2.1, net.2.2))).bind fun r1 =>
  if !r1 then
   some (0, false)
  else
   (impl_eachSolution_impl_CountSolutions_c1 (net.1, (net.2.1, net.2.2)) 0).bind fun r2 =>
    some (r2, true)
def impl_CountPolymorphisms_c1 (t0 : List Int) (t1 : Int) : Option (Int × Bool) :=
 some (w64 (t1 + 1), true)
def impl_polySearch_each_c1_impl_CountPolymorphisms_c1_L4 (rec : (Int × (List Int) × Int × (Bool × Int × Int × (List (List ((List Int) × (List ByteArray))))) × (List Int) × Unit) → Option ((List Int) × Int × (Bool × Int × Int × (List (List ((List Int) × (List ByteArray))))) × (List Int) × Bool)) : Nat → (Int × (List Int) × Int × (Bool × Int × Int × (List (List ((List Int) × (List ByteArray))))) × (List Int) × Unit × Int) → Option (((List Int) × Int × (Bool × Int × Int × (List (List ((List Int) × (List ByteArray))))) × (List Int) × Unit) ⊕ ((List Int) × Int × (Bool × Int × Int × (List (List ((List Int) × (List ByteArray))))) × (List Int) × Unit × Bool))
 | 0, _ => none
 | n + 1, (at_, t1, t2, t3, t4, t5, x) =>
  if t3.1 = true then
   if decide (x < t3.2.1) then
    if inb at_ t4 then
     if decide ((gd t4 at_ 0) ≥ 0) then
      if inb at_ t4 then
       if (gd t4 at_ 0) != x then
        impl_polySearch_each_c1_impl_CountPolymorphisms_c1_L4 rec n (at_, t1, t2, t3, t4, (), w64 (x + 1))
       else
        if inb at_ t1 then
         (impl_polySearch_fits_p t3 (stt t1 at_ x) at_).bind fun r2 =>
          if r2 then
           (rec (w64 (at_ + 1), stt t1 at_ x, t2, t3, t4, ())).bind fun r3 =>
            if !r3.2.2.2.2 then
             some (.inr (r3.1, r3.2.1, r3.2.2.1, r3.2.2.2.1, (), false))
            else
             impl_polySearch_each_c1_impl_CountPolymorphisms_c1_L4 rec n (at_, r3.1, r3.2.1, r3.2.2.1, r3.2.2.2.1, (), w64 (x + 1))
          else
           impl_polySearch_each_c1_impl_CountPolymorphisms_c1_L4 rec n (at_, stt t1 at_ x, t2, t3, t4, (), w64 (x + 1))
        else none
      else none
     else
      if inb at_ t1 then
       (impl_polySearch_fits_p t3 (stt t1 at_ x) at_).bind fun r4 =>
        if r4 then
         (rec (w64 (at_ + 1), stt t1 at_ x, t2, t3, t4, ())).bind fun r5 =>
          if !r5.2.2.2.2 then
           some (.inr (r5.1, r5.2.1, r5.2.2.1, r5.2.2.2.1, (), false))
          else
           impl_polySearch_each_c1_impl_CountPolymorphisms_c1_L4 rec n (at_, r5.1, r5.2.1, r5.2.2.1, r5.2.2.2.1, (), w64 (x + 1))
        else
         impl_polySearch_each_c1_impl_CountPolymorphisms_c1_L4 rec n (at_, stt t1 at_ x, t2, t3, t4, (), w64 (x + 1))
      else none
    else none
   else
    some (.inl (t1, t2, t3, t4, ()))
  else none
def impl_polySearch_each_c1_impl_CountPolymorphisms_c1_body (rec : (Int × (List Int) × Int × (Bool × Int × Int × (List (List ((List Int) × (List ByteArray))))) × (List Int) × Unit) → Option ((List Int) × Int × (Bool × Int × Int × (List (List ((List Int) × (List ByteArray))))) × (List Int) × Bool)) (at_ : Int) (t1 : List Int) (t2 : Int) (t3 : Bool × Int × Int × (List (List ((List Int) × (List ByteArray))))) (t4 : List Int) (t5 : Unit) : Option ((List Int) × Int × (Bool × Int × Int × (List (List ((List Int) × (List ByteArray))))) × (List Int) × Bool) :=
 if at_ == (t1.length : Int) then
  (impl_CountPolymorphisms_c1 t1 t2).bind fun r1 =>
   some (t1, r1.1, t3, t4, r1.2)
 else
  (impl_polySearch_each_c1_impl_CountPolymorphisms_c1_L4 rec fuel (at_, t1, t2, t3, t4, (), 0)).bind fun s2 =>
   match s2 with
   | .inl s3 =>
    some (s3.1, s3.2.1, s3.2.2.1, s3.2.2.2.1, true)
   | .inr s4 =>
    some (s4.1, s4.2.1, s4.2.2.1, s4.2.2.2.1, s4.2.2.2.2.2)
def impl_polySearch_each_c1_impl_CountPolymorphisms_c1 : Nat → (Int × (List Int) × Int × (Bool × Int × Int × (List (List ((List Int) × (List ByteArray))))) × (List Int) × Unit) → Option ((List Int) × Int × (Bool × Int × Int × (List (List ((List Int) × (List ByteArray))))) × (List Int) × Bool)
 | 0, _ => none
 | d + 1, x => impl_polySearch_each_c1_impl_CountPolymorphisms_c1_body (impl_polySearch_each_c1_impl_CountPolymorphisms_c1 d) x.1 x.2.1 x.2.2.1 x.2.2.2.1 x.2.2.2.2.1 x.2.2.2.2.2
def impl_polySearch_each_impl_CountPolymorphisms_c1 (s : Bool × Int × Int × (List (List ((List Int) × (List ByteArray))))) (given : List Int) (found : Int) : Option (Int) :=
 if 0 ≤ (given.length : Int) ∧ (given.length : Int) ≤ (given.length : Int) ∧ (given.length : Int) ≤ lim then
  (impl_polySearch_each_c1_impl_CountPolymorphisms_c1 fuel (0, List.replicate (Int.toNat (given.length : Int)) (0 : Int), found, s, given, ())).bind fun r1 =>
   some r1.2.1
 else none
def impl_CountPolymorphisms (n_ : Int) (rels : List (Int × (List (List Int)))) (k : Int) : Option (Int × Bool) :=
 (impl_canAsk n_ rels k).bind fun r1 =>
  if !r1 then
   some (0, false)
  else
   (impl_isPolyRange n_ k).bind fun r2 =>
    if !r2 then
     some (0, false)
    else
     (impl_newPolySearch n_ rels k).bind fun r3 =>
      (impl_power n_ k).bind fun r4 =>
       (impl_freeTable r4).bind fun r5 =>
        (impl_polySearch_each_impl_CountPolymorphisms_c1 r3 r5 0).bind fun r6 =>
         some (r6, true)
def impl_AllSolutions_c1 (values : List Int) (t1 : List (List Int)) : Option ((List (List Int)) × Bool) :=
 (impl_clone values).bind fun r1 =>
  if t1.length + [r1].length ≤ lim then
   some (t1 ++ [r1], decide (((t1 ++ [r1]).length : Int) ≤ 300))
  else none
def impl_netSearch_each_c1_impl_AllSolutions_c1_L10 (rec : (Int × (List Int) × (List (List Int)) × (Bool × Int × (List (List (List Int))) × (List (List (List ByteArray)))) × (List Int) × Unit) → Option ((List Int) × (List (List Int)) × (Bool × Int × (List (List (List Int))) × (List (List (List ByteArray)))) × (List Int) × Bool)) : Nat → (Int × (List Int) × (List (List Int)) × (Bool × Int × (List (List (List Int))) × (List (List (List ByteArray)))) × (List Int) × Unit × Int × Bool × (List (List Int)) × Int × Int) → Option (Int × (List Int) × (List (List Int)) × (Bool × Int × (List (List (List Int))) × (List (List (List ByteArray)))) × (List Int) × Unit × Int × Bool)
 | 0, _ => none
 | n + 1, (t0, t1, t2, t3, t4, t5, t8, t9, t50, t51, t52) =>
  if decide (t52 < t51) then
   if inb t52 t50 then
    if t9 then
     if t3.1 = true then
      if inb t0 t3.2.2.2 then
       if inb t52 (gd t3.2.2.2 t0 []) then
        (impl_compose (gd t50 t52 []) t1).bind fun r2 =>
         (impl_keyOf r2).bind fun r3 =>
          impl_netSearch_each_c1_impl_AllSolutions_c1_L10 rec n (t0, t1, t2, t3, t4, (), t8, mhas (gd (gd t3.2.2.2 t0 []) t52 []) r3, t50, t51, w64 (t52 + 1))
       else none
      else none
     else none
    else
     impl_netSearch_each_c1_impl_AllSolutions_c1_L10 rec n (t0, t1, t2, t3, t4, (), t8, false, t50, t51, w64 (t52 + 1))
   else none
  else
   some (t0, t1, t2, t3, t4, (), t8, t9)
def impl_netSearch_each_c1_impl_AllSolutions_c1_L4 (rec : (Int × (List Int) × (List (List Int)) × (Bool × Int × (List (List (List Int))) × (List (List (List ByteArray)))) × (List Int) × Unit) → Option ((List Int) × (List (List Int)) × (Bool × Int × (List (List (List Int))) × (List (List (List ByteArray)))) × (List Int) × Bool)) : Nat → (Int × (List Int) × (List (List Int)) × (Bool × Int × (List (List (List Int))) × (List (List (List ByteArray)))) × (List Int) × Unit × Int) → Option (((List Int) × (List (List Int)) × (Bool × Int × (List (List (List Int))) × (List (List (List ByteArray)))) × (List Int) × Unit) ⊕ ((List Int) × (List (List Int)) × (Bool × Int × (List (List (List Int))) × (List (List (List ByteArray)))) × (List Int) × Unit × Bool))
 | 0, _ => none
 | n + 1, (t0, t1, t2, t3, t4, t5, t8) =>
  if t3.1 = true then
   if decide (t8 < t3.2.1) then
    if inb t0 t4 then
     if decide ((gd t4 t0 0) ≥ 0) then
      if inb t0 t4 then
       if (gd t4 t0 0) != t8 then
        impl_netSearch_each_c1_impl_AllSolutions_c1_L4 rec n (t0, t1, t2, t3, t4, (), w64 (t8 + 1))
       else
        if inb t0 t1 then
         if t3.1 = true then
          if inb t0 t3.2.2.1 then
           (impl_netSearch_each_c1_impl_AllSolutions_c1_L10 rec fuel (t0, stt t1 t0 t8, t2, t3, t4, (), t8, true, gd t3.2.2.1 t0 [], ((gd t3.2.2.1 t0 []).length : Int), 0)).bind fun s2 =>
            if s2.2.2.2.2.2.2.2 then
             (rec (w64 (s2.1 + 1), s2.2.1, s2.2.2.1, s2.2.2.2.1, s2.2.2.2.2.1, ())).bind fun r3 =>
              if !r3.2.2.2.2 then
               some (.inr (r3.1, r3.2.1, r3.2.2.1, r3.2.2.2.1, (), false))
              else
               impl_netSearch_each_c1_impl_AllSolutions_c1_L4 rec n (s2.1, r3.1, r3.2.1, r3.2.2.1, r3.2.2.2.1, (), w64 (s2.2.2.2.2.2.2.1 + 1))
            else
             impl_netSearch_each_c1_impl_AllSolutions_c1_L4 rec n (s2.1, s2.2.1, s2.2.2.1, s2.2.2.2.1, s2.2.2.2.2.1, (), w64 (s2.2.2.2.2.2.2.1 + 1))
          else none
         else none
        else none
      else none
     else
      if inb t0 t1 then
       if t3.1 = true then
        if inb t0 t3.2.2.1 then
         (impl_netSearch_each_c1_impl_AllSolutions_c1_L10 rec fuel (t0, stt t1 t0 t8, t2, t3, t4, (), t8, true, gd t3.2.2.1 t0 [], ((gd t3.2.2.1 t0 []).length : Int), 0)).bind fun s4 =>
          if s4.2.2.2.2.2.2.2 then
           (rec (w64 (s4.1 + 1), s4.2.1, s4.2.2.1, s4.2.2.2.1, s4.2.2.2.2.1, ())).bind fun r5 =>
            if !r5.2.2.2.2 then
             some (.inr (r5.1, r5.2.1, r5.2.2.1, r5.2.2.2.1, (), false))
            else
             impl_netSearch_each_c1_impl_AllSolutions_c1_L4 rec n (s4.1, r5.1, r5.2.1, r5.2.2.1, r5.2.2.2.1, (), w64 (s4.2.2.2.2.2.2.1 + 1))
          else
           impl_netSearch_each_c1_impl_AllSolutions_c1_L4 rec n (s4.1, s4.2.1, s4.2.2.1, s4.2.2.2.1, s4.2.2.2.2.1, (), w64 (s4.2.2.2.2.2.2.1 + 1))
        else none
       else none
      else none
    else none
   else
    some (.inl (t1, t2, t3, t4, ()))
  else none
def impl_netSearch_each_c1_impl_AllSolutions_c1_body (rec : (Int × (List Int) × (List (List Int)) × (Bool × Int × (List (List (List Int))) × (List (List (List ByteArray)))) × (List Int) × Unit) → Option ((List Int) × (List (List Int)) × (Bool × Int × (List (List (List Int))) × (List (List (List ByteArray)))) × (List Int) × Bool)) (t0 : Int) (t1 : List Int) (t2 : List (List Int)) (t3 : Bool × Int × (List (List (List Int))) × (List (List (List ByteArray)))) (t4 : List Int) (t5 : Unit) : Option ((List Int) × (List (List Int)) × (Bool × Int × (List (List (List Int))) × (List (List (List ByteArray)))) × (List Int) × Bool) :=
 if t0 == (t1.length : Int) then
  (impl_AllSolutions_c1 t1 t2).bind fun r1 =>
   some (t1, r1.1, t3, t4, r1.2)
 else
  (impl_netSearch_each_c1_impl_AllSolutions_c1_L4 rec fuel (t0, t1, t2, t3, t4, (), 0)).bind fun s2 =>
   match s2 with
   | .inl s3 =>
    some (s3.1, s3.2.1, s3.2.2.1, s3.2.2.2.1, true)
   | .inr s4 =>
    some (s4.1, s4.2.1, s4.2.2.1, s4.2.2.2.1, s4.2.2.2.2.2)
def impl_netSearch_each_c1_impl_AllSolutions_c1 : Nat → (Int × (List Int) × (List (List Int)) × (Bool × Int × (List (List (List Int))) × (List (List (List ByteArray)))) × (List Int) × Unit) → Option ((List Int) × (List (List Int)) × (Bool × Int × (List (List (List Int))) × (List (List (List ByteArray)))) × (List Int) × Bool)
 | 0, _ => none
 | d + 1, x => impl_netSearch_each_c1_impl_AllSolutions_c1_body (impl_netSearch_each_c1_impl_AllSolutions_c1 d) x.1 x.2.1 x.2.2.1 x.2.2.2.1 x.2.2.2.2.1 x.2.2.2.2.2
def impl_netSearch_each_impl_AllSolutions_c1 (s : Bool × Int × (List (List (List Int))) × (List (List (List ByteArray)))) (partial_ : List Int) (found : List (List Int)) : Option ((List (List Int))) :=
 if 0 ≤ (partial_.length : Int) ∧ (partial_.length : Int) ≤ (partial_.length : Int) ∧ (partial_.length : Int) ≤ lim then
  (impl_netSearch_each_c1_impl_AllSolutions_c1 fuel (0, List.replicate (Int.toNat (partial_.length : Int)) (0 : Int), found, s, partial_, ())).bind fun r1 =>
   some r1.2.1
 else none
def impl_eachSolution_impl_AllSolutions_c1 (net : Int × Int × (List ((List Int) × Int × (List (List Int))))) (found : List (List Int)) : Option ((List (List Int))) :=
 (impl_newNetSearch (net.1, (net.2.1, net.2.2))).bind fun r1 =>
  (impl_freeTable net.1).bind fun r2 =>
   (impl_netSearch_each_impl_AllSolutions_c1 r1 r2 found).bind fun r3 =>
    some r3
def impl_AllSolutions (net : Int × Int × (List ((List Int) × Int × (List (List Int))))) : Option ((List (List Int)) × Bool) :=
 (impl_IsNetwork (net.1, (net.2.1, net.2.2))).bind fun r1 =>
  if !r1 then
   some ([], false)
  else
   (impl_eachSolution_impl_AllSolutions_c1 (net.1, (net.2.1, net.2.2)) []).bind fun r2 =>
    if decide ((r2.length : Int) > 300) then
     some ([], false)
    else
     some (r2, true)
def laws_FnPolymorphismNetwork_L9 : Nat → (Int × (List (Int × (List (List Int)))) × Int × (Int × Int × (List ((List Int) × Int × (List (List Int))))) × Bool × (Int × Int × (List ((List Int) × Int × (List (List Int))))) × Int) → Option ((Int × (List (Int × (List (List Int)))) × Int × (Int × Int × (List ((List Int) × Int × (List (List Int))))) × Bool) ⊕ (Bool))
 | 0, _ => none
 | n + 1, (t3, t4, t5, t6, t7, t8, t10) =>
  if decide (t10 < (t6.2.2.length : Int)) then
   if inb t10 t6.2.2 then
    if inb t10 t8.2.2 then
     (laws_rInts ((gd t6.2.2 t10 ([], (0, []))).1) ((gd t8.2.2 t10 ([], (0, []))).1)).bind fun r5 =>
      if !r5 then
       some (.inr false)
      else
       if inb t10 t6.2.2 then
        if inb t10 t8.2.2 then
         (laws_rTable (((gd t6.2.2 t10 ([], (0, []))).2).2) (((gd t8.2.2 t10 ([], (0, []))).2).2)).bind fun r6 =>
          if !r6 then
           some (.inr false)
          else
           laws_FnPolymorphismNetwork_L9 n (t3, t4, t5, (t6.1, (t6.2.1, t6.2.2)), t7, (t8.1, (t8.2.1, t8.2.2)), w64 (t10 + 1))
        else none
       else none
    else none
   else none
  else
   some (.inl (t3, t4, t5, (t6.1, (t6.2.1, t6.2.2)), t7))
def laws_FnPolymorphismNetwork_L24 : Nat → ((List (List Int)) × (List (Int × (List Int))) × Int) → Option ((Unit) ⊕ (Bool))
 | 0, _ => none
 | n + 1, (t15, t17, t19) =>
  if decide (t19 < (t15.length : Int)) then
   if inb t19 t15 then
    if inb t19 t17 then
     (laws_rInts (gd t15 t19 []) ((gd t17 t19 (0, [])).2)).bind fun r14 =>
      if !r14 then
       some (.inr false)
      else
       laws_FnPolymorphismNetwork_L24 n (t15, t17, w64 (t19 + 1))
    else none
   else none
  else
   some (.inl ())
def laws_FnPolymorphismNetwork (t0 : List Int) : Option (Bool) :=
 (laws_rBig t0).bind fun r1 =>
  if r1 then
   some true
  else
   (spec_DrawNetworkOfPolymorphisms t0).bind fun r2 =>
    (impl_NetworkOfPolymorphisms r2.1 r2.2.1 r2.2.2).bind fun r3 =>
     (spec_NetworkOfPolymorphisms r2.1 r2.2.1 r2.2.2).bind fun r4 =>
      if r3.2 != r4.2 then
       some false
      else
       if r3.1.1 != r4.1.1 then
        some false
       else
        if r3.1.2.1 != r4.1.2.1 then
         some false
        else
         if (r3.1.2.2.length : Int) != (r4.1.2.2.length : Int) then
          some false
         else
          (laws_FnPolymorphismNetwork_L9 fuel (r2.1, r2.2.1, r2.2.2, (r3.1.1, (r3.1.2.1, r3.1.2.2)), r3.2, (r4.1.1, (r4.1.2.1, r4.1.2.2)), 0)).bind fun s5 =>
           match s5 with
           | .inl s6 =>
            if !s6.2.2.2.2 then
             some true
            else
             (impl_CountSolutions (s6.2.2.2.1.1, (s6.2.2.2.1.2.1, s6.2.2.2.1.2.2))).bind fun r8 =>
              (impl_CountPolymorphisms s6.1 s6.2.1 s6.2.2.1).bind fun r9 =>
               if !r8.2 then
                some false
               else
                if !r9.2 then
                 some false
                else
                 if r8.1 != r9.1 then
                  some false
                 else
                  (impl_AllSolutions (s6.2.2.2.1.1, (s6.2.2.2.1.2.1, s6.2.2.2.1.2.2))).bind fun r10 =>
                   (impl_PolymorphismsOf s6.1 s6.2.1 s6.2.2.1).bind fun r11 =>
                    if r10.2 != r11.2 then
                     some false
                    else
                     if (r10.1.length : Int) != (r11.1.length : Int) then
                      some false
                     else
                      (laws_FnPolymorphismNetwork_L24 fuel (r10.1, r11.1, 0)).bind fun s12 =>
                       match s12 with
                       | .inl s13 =>
                        some true
                       | .inr s14 =>
                        some s14
           | .inr s7 =>
            some s7
end T
open Go Go.Va
namespace T
def rowsB (R W : Nat) (l : List (List Int)) : Prop := l.length ≤ R ∧ ∀ r ∈ l, r.length ≤ W
theorem rowsB.mono {R W R' W' : Nat} {l : List (List Int)} (h : rowsB R W l) (h1 : R ≤ R') (h2 : W ≤ W') : rowsB R' W' l := ⟨by have := h.1; omega, fun r hr => by have := h.2 r hr; omega⟩
theorem rowsB.app {R W : Nat} {l : List (List Int)} {t : List Int} (h : rowsB R W l) (ht : t.length ≤ W) : rowsB (R + 1) W (l ++ [t]) := ⟨by rw [List.length_append, List.length_singleton]; have := h.1; omega, fun r hr => by
 rcases List.mem_append.1 hr with hr | hr
 ·exact h.2 r hr
 ·rw [List.mem_singleton.1 hr]; exact ht⟩
theorem put_b : spec_l8Put_b = spec_l8Put := rfl
theorem part_L3 {N : Nat} (hN : N ≤ 8) : ∀ (d f k x : Nat) (c : CurT) (o : List Int), x + d = N → d < f → Cur k c → k + 2 * d ≤ 1000000 → o.length = x →
    ∃ c' o', spec_l1Cur_partition13_L3 f (c, (N : Int), o, (x : Int)) = some (c', o') ∧ Cur (k + 2 * d) c' ∧ o'.length = N := by
  intro d
  induction d with
  | zero =>
    intro f k x c o hx hf hc hk ho
    obtain ⟨f, rfl⟩ : ∃ z, f = z + 1 := ⟨f - 1, by omega⟩
    refine ⟨c, o, ?_, hc, by omega⟩
    simp only [spec_l1Cur_partition13_L3]
    rw [if_neg (by simp; omega)]
  | succ d ih =>
    intro f k x c o hx hf hc hk ho
    obtain ⟨f, rfl⟩ : ∃ z, f = z + 1 := ⟨f - 1, by omega⟩
    obtain ⟨c1, x1, e1, g1, a1, b1, _⟩ := pick_ok hc (by omega) ((x + 1 : Nat) : Int) (by omega)
    have b1 := b1 (by omega)
    have e1 : spec_l1Cur_pick (c.1, (c.2.1, c.2.2)) ((x + 1 : Nat) : Int) = _ := e1
    have ew := w64_succ (show x < 4611686018427387904 by omega)
    simp only [spec_l1Cur_partition13_L3, ew, e1, Option.bind_some]
    rw [if_pos (by simp; omega)]
    by_cases h : x1 < (x : Int)
    · obtain ⟨c', o', e2, g2, l2⟩ := ih f (k + 2) (x + 1) c1 (o ++ [gd o x1 0]) (by omega) (by omega) g1 (by omega) (by simp; omega)
      refine ⟨c', o', ?_, g2.mono (by omega), l2⟩
      rw [if_pos (by simpa using h), if_pos (by unfold inb; omega), if_pos (by simp; unfold lim; omega)]
      exact e2
    · obtain ⟨c', o', e2, g2, l2⟩ := ih f (k + 2) (x + 1) c1 (o ++ [x1]) (by omega) (by omega) g1 (by omega) (by simp; omega)
      refine ⟨c', o', ?_, g2.mono (by omega), l2⟩
      rw [if_neg (by simpa using h), if_pos (by simp; unfold lim; omega)]
      exact e2
theorem partition_ok {N k : Nat} {c : CurT} (hN : N ≤ 8) (hc : Cur k c) (hk : k ≤ 500000) : ∃ c' o, spec_l1Cur_partition13 c (N : Int) = some (c', o) ∧ Cur (k + 16) c' ∧ o.length = N := by
 obtain ⟨c', o, e, g, l⟩ := part_L3 hN N fuel k 0 c [] (by omega) (by unfold fuel; omega) hc (by omega) rfl
 refine ⟨c', o, ?_, g.mono (by omega), l⟩
 unfold spec_l1Cur_partition13
 have e : spec_l1Cur_partition13_L3 fuel ((c.1, (c.2.1, c.2.2)), (N : Int), [], 0) = _ := e
 rw [e]; rfl
theorem ofPart_ok {p : List Int} (hp : p.length ≤ 8) : ∃ out, spec_l13OfPartition p = some (2, out) ∧ rowsB 64 2 out := by
  have in6 : ∀ (x : Nat), x < p.length → ∀ (d f y : Nat) (o : List (List Int)), y + d = p.length → d < f → rowsB (8 * x + y) 2 o →
      ∃ o', spec_l13OfPartition_L6 f (p, (0, []), (2, o), (x : Int), (y : Int)) = some (p, (0, []), (2, o'), (x : Int)) ∧ rowsB (8 * x + p.length) 2 o' := by
    intro x hx d
    induction d with
    | zero =>
      intro f y o hy hf ho
      obtain ⟨f, rfl⟩ : ∃ z, f = z + 1 := ⟨f - 1, by omega⟩
      refine ⟨o, ?_, ho.mono (by omega) (by omega)⟩
      simp only [spec_l13OfPartition_L6]
      rw [if_neg (by simp; omega)]
    | succ d ih =>
      intro f y o hy hf ho
      obtain ⟨f, rfl⟩ : ∃ z, f = z + 1 := ⟨f - 1, by omega⟩
      have hyl : y < p.length := by omega
      have hol := ho.1
      simp only [spec_l13OfPartition_L6, inb_nat, hx, hyl, if_true, w64_succ (show y < 4611686018427387904 by omega)]
      rw [if_pos (by simp; omega)]
      by_cases h : (gd p (x : Int) 0 == gd p (y : Int) 0) = true
      · obtain ⟨o', e, g⟩ := ih f (y + 1) (o ++ [[(x : Int), (y : Int)]]) (by omega) (by omega) (by rw [← Nat.add_assoc]; exact ho.app (by simp))
        refine ⟨o', ?_, g⟩
        rw [if_pos h, if_pos (by simp; unfold lim; omega)]
        exact e
      · obtain ⟨o', e, g⟩ := ih f (y + 1) o (by omega) (by omega) (ho.mono (by omega) (by omega))
        refine ⟨o', ?_, g⟩
        rw [if_neg h]
        exact e
  have in3 : ∀ (d f x : Nat) (o : List (List Int)), x + d = p.length → d < f → rowsB (8 * x) 2 o →
      ∃ o', spec_l13OfPartition_L3 f (p, (0, []), (2, o), (x : Int)) = some ((0, []), (2, o')) ∧ rowsB 64 2 o' := by
    intro d
    induction d with
    | zero =>
      intro f x o hx hf ho
      obtain ⟨f, rfl⟩ : ∃ z, f = z + 1 := ⟨f - 1, by omega⟩
      refine ⟨o, ?_, ho.mono (by omega) (by omega)⟩
      simp only [spec_l13OfPartition_L3]
      rw [if_neg (by simp; omega)]
    | succ d ih =>
      intro f x o hx hf ho
      obtain ⟨f, rfl⟩ : ∃ z, f = z + 1 := ⟨f - 1, by omega⟩
      obtain ⟨o1, e1, g1⟩ := in6 x (by omega) p.length fuel 0 o (by omega) (by unfold fuel; omega) ho
      have e1 : spec_l13OfPartition_L6 fuel (p, (0, []), (2, o), (x : Int), 0) = _ := e1
      obtain ⟨o', e2, g2⟩ := ih f (x + 1) o1 (by omega) (by omega) (g1.mono (by omega) (by omega))
      refine ⟨o', ?_, g2⟩
      simp only [spec_l13OfPartition_L3, e1, Option.bind_some, w64_succ (show x < 4611686018427387904 by omega)]
      rw [if_pos (by simp; omega)]
      exact e2
  obtain ⟨o, e, g⟩ := in3 p.length fuel 0 [] (by omega) (by unfold fuel; omega) ⟨by simp, by simp⟩
  refine ⟨o, ?_, g⟩
  unfold spec_l13OfPartition
  have e : spec_l13OfPartition_L3 fuel (p, (0, []), (2, []), 0) = _ := e
  rw [e]; rfl
theorem full13_ok {N A : Nat} (hN : 1 ≤ N ∧ N ≤ 8) (hA : 1 ≤ A ∧ A ≤ 3) : ∃ out, spec_l13Full (N : Int) (A : Int) = some ((A : Int), out) ∧ rowsB 512 3 out := by
  have hp : N ^ A ≤ 512 := by
    have : N ^ A ≤ 8 ^ 3 := Nat.le_trans (Nat.pow_le_pow_left hN.2 A) (Nat.pow_le_pow_right (by omega) hA.2)
    omega
  have e1 := spec_l2Pow_ok (n := (N : Int)) (by omega) (by omega) (k := A) (by omega)
  have e0 : (N : Int) ^ A = ((N ^ A : Nat) : Int) := by rw [Int.natCast_pow]
  rw [e0] at e1
  have key : ∀ (d f x : Nat) (o : List (List Int)), x + d = N ^ A → d < f → rowsB x 3 o →
      ∃ o', spec_l13Full_L3 f ((N : Int), (A : Int), (0, []), ((A : Int), o), (x : Int)) = some ((0, []), ((A : Int), o')) ∧ rowsB (N ^ A) 3 o' := by
    intro d
    induction d with
    | zero =>
      intro f x o hx hf ho
      obtain ⟨f, rfl⟩ : ∃ z, f = z + 1 := ⟨f - 1, by omega⟩
      refine ⟨o, ?_, ho.mono (by omega) (by omega)⟩
      simp only [spec_l13Full_L3, e1, Option.bind_some]
      rw [if_neg (by simp only [decide_eq_true_eq]; omega)]
    | succ d ih =>
      intro f x o hx hf ho
      obtain ⟨f, rfl⟩ : ∃ z, f = z + 1 := ⟨f - 1, by omega⟩
      have hol := ho.1
      have e2 := spec_l2Args_ok (b := N) (k := A) (i := x) (by omega) (by omega) (by omega)
      have hl2 : (cI (dg N A x)).length = A := by rw [cI_len, dg_len]
      obtain ⟨o', e3, g3⟩ := ih f (x + 1) (o ++ [cI (dg N A x)]) (by omega) (by omega) (ho.app (by omega))
      refine ⟨o', ?_, g3⟩
      simp only [spec_l13Full_L3, e1, e2, Option.bind_some, w64_succ (show x < 4611686018427387904 by omega)]
      rw [if_pos (by simp only [decide_eq_true_eq]; omega), if_pos (by simp; unfold lim; omega)]
      exact e3
  obtain ⟨o, e, g⟩ := key (N ^ A) fuel 0 [] (by omega) (by unfold fuel; omega) ⟨by simp, by simp⟩
  refine ⟨o, ?_, g.mono hp (by omega)⟩
  unfold spec_l13Full
  have e : spec_l13Full_L3 fuel ((N : Int), (A : Int), (0, []), ((A : Int), []), 0) = _ := e
  rw [e]; rfl
theorem rel_L9 {N : Int} (hN : N ≤ 100) {A : Nat} (hA : A ≤ 3) (t6 t7 : Int × List (List Int)) (t8 : Int) : ∀ (d f k x : Nat) (c : CurT) (o : List Int), x + d = A → d < f → Cur k c → k + 2 * d ≤ 1000000 → o.length = x →
    ∃ c' o', spec_l1Cur_relation_L9 f (c, N, (A : Int), t6, t7, t8, o, (x : Int)) = some (c', N, (A : Int), t6, t7, t8, o') ∧ Cur (k + 2 * d) c' ∧ o'.length = A := by
  intro d
  induction d with
  | zero =>
    intro f k x c o hx hf hc hk ho
    obtain ⟨f, rfl⟩ : ∃ z, f = z + 1 := ⟨f - 1, by omega⟩
    refine ⟨c, o, ?_, hc, by omega⟩
    simp only [spec_l1Cur_relation_L9]
    rw [if_neg (by simp; omega)]
  | succ d ih =>
    intro f k x c o hx hf hc hk ho
    obtain ⟨f, rfl⟩ : ∃ z, f = z + 1 := ⟨f - 1, by omega⟩
    obtain ⟨c1, x1, e1, g1, _⟩ := pick_ok hc (by omega) N (by omega)
    have e1 : spec_l1Cur_pick (c.1, (c.2.1, c.2.2)) N = _ := e1
    obtain ⟨c', o', e2, g2, l2⟩ := ih f (k + 2) (x + 1) c1 (o ++ [x1]) (by omega) (by omega) g1 (by omega) (by simp; omega)
    refine ⟨c', o', ?_, g2.mono (by omega), l2⟩
    simp only [spec_l1Cur_relation_L9, e1, Option.bind_some, w64_succ (show x < 4611686018427387904 by omega)]
    rw [if_pos (by simp; omega), if_pos (by simp; unfold lim; omega)]
    exact e2
theorem rel_L5 {N : Int} (hN : N ≤ 100) {A : Nat} (hA : A ≤ 3) (t6 : Int × List (List Int)) : ∀ (d f k : Nat) (c : CurT) (o : List (List Int)), d < f → Cur k c → k + 10 * d ≤ 500000 → o.length + d ≤ 1000 → incB o = true → (∀ u ∈ o, u.length = A) →
    ∃ c' o', spec_l1Cur_relation_L5 f (c, N, (A : Int), t6, ((A : Int), o), (d : Int)) = some (c', N, (A : Int), t6, ((A : Int), o')) ∧ Cur (k + 10 * d) c' ∧ rowsB (o.length + d) A o' := by
  intro d
  induction d with
  | zero =>
    intro f k c o hf hc hk ho hi hl
    obtain ⟨f, rfl⟩ : ∃ z, f = z + 1 := ⟨f - 1, by omega⟩
    refine ⟨c, o, ?_, hc, ⟨by omega, fun u hu => by rw [hl u hu]; exact Nat.le_refl _⟩⟩
    simp only [spec_l1Cur_relation_L5]
    rw [if_neg (by simp)]
  | succ d ih =>
    intro f k c o hf hc hk ho hi hl
    obtain ⟨f, rfl⟩ : ∃ z, f = z + 1 := ⟨f - 1, by omega⟩
    obtain ⟨c1, t, e1, g1, l1⟩ := rel_L9 hN hA t6 ((A : Int), o) ((d + 1 : Nat) : Int) A fuel k 0 c [] (by omega) (by unfold fuel; omega) hc (by omega) rfl
    have e1 : spec_l1Cur_relation_L9 fuel ((c.1, (c.2.1, c.2.2)), N, (A : Int), (t6.1, t6.2), ((A : Int), o), ((d + 1 : Nat) : Int), [], 0) = _ := e1
    obtain ⟨o1, p1, p2, p3, p4⟩ := spec_l8Put_ok (list := o) (t := t) (k := A) (by omega) (by omega) hl l1 hi
    have z1 := put_len p2 hi p3 p4
    obtain ⟨c', o', e2, g2, l2⟩ := ih f (k + 2 * A) c1 o1 (by omega) g1 (by omega) (by omega) p2 (fun u hu => ((p3 u).1 hu).elim (fun h => by rw [h]; exact l1) (hl u))
    refine ⟨c', o', ?_, g2.mono (by omega), l2.mono (by omega) (by omega)⟩
    have ew : w64 (((d + 1 : Nat) : Int) - 1) = (d : Int) := by rw [w64_id (by omega) (by omega)]; omega
    simp only [spec_l1Cur_relation_L5, e1, put_b, p1, Option.bind_some, ew]
    rw [if_pos (by simp)]
    exact e2
def relTail (c : CurT) (N A : Int) (out : Int × List (List Int)) : Option (CurT × (Int × List (List Int))) :=
 (spec_l1Cur_pick (c.1, (c.2.1, c.2.2)) 40).bind fun r10 =>
  if r10.2 == 0 then
   (spec_l1Cur_among (r10.1.1, (r10.1.2.1, r10.1.2.2)) [0, 4, (-1)]).bind fun r11 =>
    some ((r11.1.1, (r11.1.2.1, r11.1.2.2)), (r11.2, out.2))
  else
   if r10.2 == 1 then
    if 0 ≤ A ∧ A ≤ A ∧ A ≤ lim then
     if out.2.length + [List.replicate (Int.toNat A) (0 : Int)].length ≤ lim then
      some ((r10.1.1, (r10.1.2.1, r10.1.2.2)), (out.1, out.2 ++ [List.replicate (Int.toNat A) (0 : Int)]))
     else none
    else none
   else
    if r10.2 == 2 then
     if decide ((out.2.length : Int) > 0) then
      (spec_l1Cur_among (r10.1.1, (r10.1.2.1, r10.1.2.2)) [(-1), N, 0]).bind fun r12 =>
       if inb 0 out.2 then
        some ((r12.1.1, (r12.1.2.1, r12.1.2.2)), (out.1, stt out.2 0 [r12.2]))
       else none
     else
      some ((r10.1.1, (r10.1.2.1, r10.1.2.2)), (out.1, out.2))
    else
     some ((r10.1.1, (r10.1.2.1, r10.1.2.2)), (out.1, out.2))
theorem relTail_ok {k : Nat} {c : CurT} (hc : Cur k c) (hk : k ≤ 1000000) {N : Int} {A : Nat} (hA : A ≤ 3) {out : Int × List (List Int)} (ho : rowsB 600 3 out.2) : ∃ c' r, relTail c N (A : Int) out = some (c', r) ∧ Cur (k + 4) c' ∧ rowsB 601 3 r.2 := by
 obtain ⟨c1, x1, e1, g1, _⟩ := pick_ok hc (by omega) 40 (by omega)
 have e1 : spec_l1Cur_pick (c.1, (c.2.1, c.2.2)) 40 = _ := e1
 have hol := ho.1
 unfold relTail
 simp only [e1, Option.bind_some]
 by_cases h0 : x1 = 0
 ·rw [if_pos (by simpa using h0)]
  obtain ⟨c2, x2, e2, g2, _⟩ := among_ok g1 (by omega) (l := [0, 4, (-1)]) (by simp) (by simp)
  have e2 : spec_l1Cur_among (c1.1, (c1.2.1, c1.2.2)) [0, 4, (-1)] = _ := e2
  simp only [e2, Option.bind_some]
  exact ⟨_, _, rfl, g2.mono (by omega), ho.mono (by omega) (by omega)⟩
 ·rw [if_neg (by simpa using h0)]
  by_cases h1 : x1 = 1
  ·rw [if_pos (by simpa using h1), if_pos (by unfold lim; omega), if_pos (by simp; unfold lim; omega)]
   exact ⟨_, _, rfl, g1.mono (by omega), ho.app (by simp; omega)⟩
  ·rw [if_neg (by simpa using h1)]
   by_cases h2 : x1 = 2
   ·rw [if_pos (by simpa using h2)]
    by_cases h3 : (out.2.length : Int) > 0
    ·rw [if_pos (by simpa using h3)]
     obtain ⟨c2, x2, e2, g2, _⟩ := among_ok g1 (by omega) (l := [(-1), N, 0]) (by simp) (by simp)
     have e2 : spec_l1Cur_among (c1.1, (c1.2.1, c1.2.2)) [(-1), N, 0] = _ := e2
     simp only [e2, Option.bind_some]
     rw [if_pos (by unfold inb; omega)]
     refine ⟨_, _, rfl, g2.mono (by omega), ⟨by show (List.set out.2 _ _).length ≤ 601; rw [List.length_set]; omega, fun r hr => ?_⟩⟩
     have hr : r ∈ List.set out.2 (0 : Int).toNat [x2] := hr
     rcases List.mem_or_eq_of_mem_set hr with hr | rfl
     ·exact ho.2 r hr
     ·simp
    ·rw [if_neg (by simpa using h3)]
     exact ⟨_, _, rfl, g1.mono (by omega), ho.mono (by omega) (by omega)⟩
   ·rw [if_neg (by simpa using h2)]
    exact ⟨_, _, rfl, g1.mono (by omega), ho.mono (by omega) (by omega)⟩
theorem relation_ok {k : Nat} {c : CurT} (hc : Cur k c) (hk : k ≤ 100000) {N A : Int} (hN : N ≤ 100) : ∃ c' r, spec_l1Cur_relation c N A = some (c', r) ∧ Cur (k + 200) c' ∧ rowsB 601 3 r.2 := by
 unfold spec_l1Cur_relation
 rw [spec_l6Size_ok, spec_l1In_ok]
 simp only [Option.bind_some]
 cases hs : sizeB N with
 | false => exact ⟨_, _, rfl, hc.mono (by omega), ⟨by simp, by simp⟩⟩
 | true =>
  simp only [Bool.not_true, Bool.false_eq_true, if_false]
  by_cases hA : 1 ≤ A ∧ A ≤ 3
  ·rw [if_neg (by simp; omega)]
   obtain ⟨a, rfl⟩ : ∃ a : Nat, A = (a : Int) := ⟨A.toNat, by omega⟩
   have hn : 1 ≤ N ∧ N ≤ 8 := by unfold sizeB at hs; simpa using hs
   obtain ⟨n, rfl⟩ : ∃ n : Nat, N = (n : Int) := ⟨N.toNat, by omega⟩
   obtain ⟨c1, x1, e1, g1, m1⟩ := among_ok hc (by omega) (l := [0, 1, 2, 3, 4, 6, 9]) (by simp) (by simp)
   have hx1 : 0 ≤ x1 ∧ x1 ≤ 9 := by simp at m1; omega
   obtain ⟨m, rfl⟩ : ∃ m : Nat, x1 = (m : Int) := ⟨x1.toNat, by omega⟩
   obtain ⟨c2, o, e2, g2, r2⟩ := rel_L5 (N := (n : Int)) (by omega) (A := a) (by omega) (0, []) m fuel (k + 2) c1 [] (by unfold fuel; omega) g1 (by omega) (by simp; omega) rfl (by simp)
   have r2 : rowsB 600 3 o := r2.mono (by simp; omega) (by omega)
   have e1 : spec_l1Cur_among (c.1, (c.2.1, c.2.2)) [0, 1, 2, 3, 4, 6, 9] = _ := e1
   have e2 : spec_l1Cur_relation_L5 fuel ((c1.1, (c1.2.1, c1.2.2)), (n : Int), (a : Int), (0, []), ((a : Int), []), (m : Int)) = _ := e2
   simp only [e1, e2, Option.bind_some]
   have hn' : 1 ≤ n ∧ n ≤ 8 := by omega
   have ha' : 1 ≤ a ∧ a ≤ 3 := by omega
   have fin : ∀ (c : CurT) (out : Int × List (List Int)), Cur (k + 150) c → rowsB 600 3 out.2 → ∃ c' r, relTail c (n : Int) (a : Int) out = some (c', r) ∧ Cur (k + 200) c' ∧ rowsB 601 3 r.2 := fun c out hc ho => by
    obtain ⟨c', r, e, g, h⟩ := relTail_ok hc (by omega) (N := (n : Int)) (A := a) (by omega) ho
    exact ⟨c', r, e, g.mono (by omega), h⟩
   have mid : ∀ (c : CurT) (out : Int × List (List Int)), Cur (k + 130) c → rowsB 600 3 out.2 → ∃ c' r, ((spec_l1Cur_one (c.1, (c.2.1, c.2.2)) 12).bind fun r8 => if r8.2 then (spec_l13Full (n : Int) (a : Int)).bind fun r9 => relTail r8.1 (n : Int) (a : Int) r9 else relTail r8.1 (n : Int) (a : Int) out) = some (c', r) ∧ Cur (k + 200) c' ∧ rowsB 601 3 r.2 := fun c out hc ho => by
    obtain ⟨c3, b3, e3, g3⟩ := one_ok hc (by omega) 12 (by omega)
    have e3 : spec_l1Cur_one (c.1, (c.2.1, c.2.2)) 12 = _ := e3
    simp only [e3, Option.bind_some]
    cases b3 with
    | true =>
     obtain ⟨w, e4, h4⟩ := full13_ok hn' ha'
     simp only [if_true, e4, Option.bind_some]
     exact fin c3 ((a : Int), w) (g3.mono (by omega)) (h4.mono (by omega) (by omega))
    | false =>
     simp only [Bool.false_eq_true, if_false]
     exact fin c3 out (g3.mono (by omega)) ho
   by_cases h2 : ((a : Int) == 2) = true
   ·rw [if_pos h2]
    obtain ⟨c3, b3, e3, g3⟩ := one_ok g2 (by omega) 3 (by omega)
    have e3 : spec_l1Cur_one (c2.1, (c2.2.1, c2.2.2)) 3 = _ := e3
    simp only [e3, Option.bind_some]
    cases b3 with
    | true =>
     obtain ⟨c4, p, e4, g4, l4⟩ := partition_ok (N := n) (by omega) g3 (by omega)
     have e4 : spec_l1Cur_partition13 (c3.1, (c3.2.1, c3.2.2)) (n : Int) = _ := e4
     obtain ⟨w, e5, h5⟩ := ofPart_ok (p := p) (by omega)
     simp only [if_true, e4, e5, Option.bind_some]
     exact mid c4 (2, w) (g4.mono (by omega)) (h5.mono (by omega) (by omega))
    | false =>
     simp only [Bool.false_eq_true, if_false]
     exact mid c3 ((a : Int), o) (g3.mono (by omega)) r2
   ·rw [if_neg h2]
    exact mid c2 ((a : Int), o) (g2.mono (by omega)) r2
  ·rw [if_pos (by simp; omega)]
   exact ⟨_, _, rfl, hc.mono (by omega), ⟨by simp, by simp⟩⟩
end T
open Go Go.Va
namespace T
def relsB (l : List RelT) : Prop := l.length ≤ 5 ∧ ∀ r ∈ l, rowsB 601 3 r.2
def knownC (o : Option (Int × List RelT)) : Bool := match o with
 | some (n, rels) => decide (0 ≤ n ∧ n ≤ 5) && (decide (rels.length ≤ 5) && rels.all fun r => decide (r.2.length ≤ 601) && r.2.all fun t => decide (t.length ≤ 3))
 | none => false
theorem known_c (x : Int) : knownC (spec_l14Known x) = true := by
 unfold spec_l14Known
 repeat' split
 all_goals rfl
theorem known_ok (x : Int) : ∃ n rels, spec_l14Known x = some (n, rels) ∧ 0 ≤ n ∧ n ≤ 5 ∧ relsB rels := by
 have h := known_c x
 unfold knownC at h
 split at h
 ·rename_i n rels e
  simp only [Bool.and_eq_true, decide_eq_true_eq, List.all_eq_true] at h
  exact ⟨n, rels, e, h.1.1, h.1.2, h.2.1, fun r hr => h.2.2 r hr⟩
 ·simp at h
theorem tmp_L9 {l : List RelT} {i : Nat} (hi : i < l.length) (hr : rowsB 1000 1000 l[i].2) (c : CurT) (n : Int) (o : List RelT) (ar : Int) : spec_l1Cur_template_L9 fuel (c, n, l, o, (i : Int), (ar, []), 0) = some (c, n, l, o, (i : Int), (ar, l[i].2)) := by
 have h1 := hr.1
 have := forS l[i].2.length (fun m (q : List (List Int)) k => spec_l1Cur_template_L9 m (c, n, l, o, (i : Int), (ar, q), k)) (fun k => l[i].2.take k) (r := some (c, n, l, o, (i : Int), (ar, l[i].2))) (fun m k hk => ?_) (fun m => ?_) (n := fuel) (by unfold fuel; omega)
 ·exact this
 ·have e := spec_l1Own_ok (l := l[i].2[k]) (by have := hr.2 _ (List.getElem_mem hk); omega)
  simp only [spec_l1Cur_template_L9, inb_nat, hi, gd_nat hi, hk, gd_nat hk, if_true, e, Option.bind_some, w64_succ (show k < 4611686018427387904 by omega)]
  rw [if_pos (by simp; omega), if_pos (by simp; unfold lim; omega), List.take_succ_eq_append_getElem hk]
 ·simp only [spec_l1Cur_template_L9, inb_nat, hi, gd_nat hi, if_true, List.take_length]
  rw [if_neg (by simp)]
theorem tmp_L5 {l : List RelT} (h : relsB l) (c : CurT) (n : Int) : spec_l1Cur_template_L5 fuel (c, n, l, [], 0) = some (c, n, l) := by
 have h1 := h.1
 have := forS l.length (fun m (q : List RelT) k => spec_l1Cur_template_L5 m (c, n, l, q, k)) (fun k => l.take k) (r := some (c, n, l)) (fun m k hk => ?_) (fun m => ?_) (n := fuel) (by unfold fuel; omega)
 ·exact this
 ·have e := tmp_L9 hk ((h.2 _ (List.getElem_mem hk)).mono (by omega) (by omega)) c n (l.take k) l[k].1
  have e : spec_l1Cur_template_L9 fuel ((c.1, (c.2.1, c.2.2)), n, l, l.take k, (k : Int), (l[k].1, []), 0) = _ := e
  simp only [spec_l1Cur_template_L5, inb_nat, hk, gd_nat hk, if_true, e, Option.bind_some, w64_succ (show k < 4611686018427387904 by omega)]
  rw [if_pos (by simp; omega), if_pos (by simp; unfold lim; omega), List.take_succ_eq_append_getElem hk]
 ·simp only [spec_l1Cur_template_L5, List.take_length]
  rw [if_neg (by simp)]
theorem tmp_L17 {n : Int} (hn : n ≤ 100) : ∀ (d f k : Nat) (c : CurT) (o : List RelT), d < f → Cur k c → k + 300 * d ≤ 50000 → o.length + d ≤ 5 → (∀ r ∈ o, rowsB 601 3 r.2) →
    ∃ c' o', spec_l1Cur_template_L17 f (c, n, o, (d : Int)) = some (c', n, o') ∧ Cur (k + 300 * d) c' ∧ relsB o' := by
  intro d
  induction d with
  | zero =>
    intro f k c o hf hc hk ho hr
    obtain ⟨f, rfl⟩ : ∃ z, f = z + 1 := ⟨f - 1, by omega⟩
    refine ⟨c, o, ?_, hc, ⟨by omega, hr⟩⟩
    simp only [spec_l1Cur_template_L17]
    rw [if_neg (by simp)]
  | succ d ih =>
    intro f k c o hf hc hk ho hr
    obtain ⟨f, rfl⟩ : ∃ z, f = z + 1 := ⟨f - 1, by omega⟩
    obtain ⟨c1, x1, e1, g1, _⟩ := among_ok hc (by omega) (l := [1, 2, 2, 3]) (by simp) (by simp)
    have e1 : spec_l1Cur_among (c.1, (c.2.1, c.2.2)) [1, 2, 2, 3] = _ := e1
    obtain ⟨c2, r, e2, g2, h2⟩ := relation_ok (N := n) (A := x1) g1 (by omega) hn
    have e2 : spec_l1Cur_relation (c1.1, (c1.2.1, c1.2.2)) n x1 = _ := e2
    obtain ⟨c', o', e3, g3, h3⟩ := ih f (k + 202) c2 (o ++ [r]) (by omega) (g2.mono (by omega)) (by omega) (by simp; omega) (fun q hq => by
      rcases List.mem_append.1 hq with hq | hq
      · exact hr q hq
      · rw [List.mem_singleton.1 hq]; exact h2)
    refine ⟨c', o', ?_, g3.mono (by omega), h3⟩
    have ew : w64 (((d + 1 : Nat) : Int) - 1) = (d : Int) := by rw [w64_id (by omega) (by omega)]; omega
    simp only [spec_l1Cur_template_L17, e1, e2, Option.bind_some, ew]
    rw [if_pos (by simp), if_pos (by simp; unfold lim; omega)]
    exact e3
theorem part_draw {k : Nat} {c : CurT} (hc : Cur k c) (hk : k ≤ 1000000) (l : List Int) (b m : Nat) (hm : 11 ≤ m ∧ m ≤ 24) (hb : 0 < b) (hl : b + (23 / m) ≤ l.length) (hl2 : l.length ≤ 100) :
    ∃ c1 x1 c' x, spec_l1Cur_pick (c.1, (c.2.1, c.2.2)) 24 = some (c1, x1) ∧ ((0 : Int) ≤ 0 ∧ 0 ≤ (w64 ((b : Int) + (w64 (Int.tdiv x1 (m : Int))))) ∧ (w64 ((b : Int) + (w64 (Int.tdiv x1 (m : Int))))) ≤ (l.length : Int)) ∧
      spec_l1Cur_among (c1.1, (c1.2.1, c1.2.2)) ((l.take (Int.toNat (w64 ((b : Int) + (w64 (Int.tdiv x1 (m : Int))))))).drop (Int.toNat 0)) = some (c', x) ∧ Cur (k + 4) c' ∧ x ∈ l := by
  obtain ⟨c1, x1, e1, g1, a1, b1, _⟩ := pick_ok hc (by omega) 24 (by omega)
  have b1 := b1 (by omega)
  obtain ⟨y, rfl⟩ : ∃ y : Nat, x1 = (y : Int) := ⟨x1.toNat, by omega⟩
  have hqb : y / m ≤ 23 / m := Nat.div_le_div_right (by omega)
  have hq : Int.tdiv (y : Int) (m : Int) = ((y / m : Nat) : Int) := by rw [Int.tdiv_eq_ediv_of_nonneg (by omega)]; rfl
  obtain ⟨q, eq⟩ : ∃ q, q = y / m := ⟨_, rfl⟩
  obtain ⟨z, ez⟩ : ∃ z, z = 23 / m := ⟨_, rfl⟩
  rw [← ez] at hqb hl
  rw [← eq] at hqb hq
  clear eq ez
  refine ⟨c1, (y : Int), ?_⟩
  rw [hq]
  clear hq
  have w1 : w64 ((q : Nat) : Int) = (q : Int) := w64_id (by omega) (by omega)
  have w2 : w64 ((b : Int) + (q : Int)) = ((b + q : Nat) : Int) := by rw [w64_id (by omega) (by omega)]; omega
  rw [w1, w2]
  have e0 : (l.take (Int.toNat ((b + q : Nat) : Int))).drop (Int.toNat 0) = l.take (b + q) := by rw [Int.toNat_natCast]; rfl
  rw [e0]
  obtain ⟨c2, x2, e2, g2, m2⟩ := among_ok g1 (by omega) (l := l.take (b + q)) (by rw [List.length_take]; omega) (by rw [List.length_take]; omega)
  exact ⟨c2, x2, e1, by omega, e2, g2.mono (by omega), List.mem_of_mem_take m2⟩
theorem template_ok {k : Nat} {c : CurT} (hc : Cur k c) (hk : k ≤ 10000) : ∃ c' n rels, spec_l1Cur_template c = some (c', n, rels) ∧ Cur (k + 2000) c' ∧ 0 ≤ n ∧ n ≤ 5 ∧ relsB rels := by
 obtain ⟨c1, b1, e1, g1⟩ := one_ok hc (by omega) 3 (by omega)
 have e1 : spec_l1Cur_one (c.1, (c.2.1, c.2.2)) 3 = _ := e1
 unfold spec_l1Cur_template
 simp only [e1, Option.bind_some]
 cases b1 with
 | false =>
  obtain ⟨c2, x2, e2, g2, _⟩ := pick_ok g1 (by omega) 11 (by omega)
  have e2 : spec_l1Cur_pick (c1.1, (c1.2.1, c1.2.2)) 11 = _ := e2
  obtain ⟨n, rels, e3, h1, h2, h3⟩ := known_ok x2
  have e4 := tmp_L5 h3 c2 n
  have e4 : spec_l1Cur_template_L5 fuel ((c2.1, (c2.2.1, c2.2.2)), n, rels, [], 0) = _ := e4
  simp only [Bool.not_false, if_true, e2, e3, e4, Option.bind_some]
  exact ⟨_, _, _, rfl, g2.mono (by omega), h1, h2, h3⟩
 | true =>
  simp only [Bool.not_true, Bool.false_eq_true, if_false]
  obtain ⟨d1, y1, c2, n, e2, i2, f2, g2, m2⟩ := part_draw g1 (by omega) [1, 2, 2, 2, 3, 3, 4, 0, 5] 7 11 (by omega) (by omega) (by simp) (by simp)
  obtain ⟨d2, y2, c3, d, e3, i3, f3, g3, m3⟩ := part_draw g2 (by omega) [0, 1, 1, 2, 4, 5] 5 23 (by omega) (by omega) (by simp) (by simp)
  have hn : 0 ≤ n ∧ n ≤ 5 := by simp at m2; omega
  have hd : 0 ≤ d ∧ d ≤ 5 := by simp at m3; omega
  obtain ⟨D, rfl⟩ : ∃ D : Nat, d = (D : Int) := ⟨d.toNat, by omega⟩
  obtain ⟨c4, rels, e4, g4, h4⟩ := tmp_L17 (n := n) (by omega) D fuel (k + 10) c3 [] (by unfold fuel; omega) (g3.mono (by omega)) (by omega) (by simp; omega) (by simp)
  have e4 : spec_l1Cur_template_L17 fuel ((c3.1, (c3.2.1, c3.2.2)), n, [], (D : Int)) = _ := e4
  simp only [e2, Option.bind_some]
  rw [if_pos (by decide), if_pos (show (0 : Int) ≤ 0 ∧ 0 ≤ (w64 (7 + (w64 (Int.tdiv y1 11)))) ∧ (w64 (7 + (w64 (Int.tdiv y1 11)))) ≤ ([1, 2, 2, 2, 3, 3, 4, 0, 5].length : Int) from i2)]
  have f2 : spec_l1Cur_among (d1.1, (d1.2.1, d1.2.2)) (([1, 2, 2, 2, 3, 3, 4, 0, 5].take (Int.toNat (w64 (7 + (w64 (Int.tdiv y1 11)))))).drop (Int.toNat 0)) = _ := f2
  rw [f2]
  simp only [Option.bind_some, e3]
  rw [if_pos (by decide), if_pos (show (0 : Int) ≤ 0 ∧ 0 ≤ (w64 (5 + (w64 (Int.tdiv y2 23)))) ∧ (w64 (5 + (w64 (Int.tdiv y2 23)))) ≤ ([0, 1, 1, 2, 4, 5].length : Int) from i3)]
  have f3 : spec_l1Cur_among (d2.1, (d2.2.1, d2.2.2)) (([0, 1, 1, 2, 4, 5].take (Int.toNat (w64 (5 + (w64 (Int.tdiv y2 23)))))).drop (Int.toNat 0)) = _ := f3
  rw [f3]
  simp only [Option.bind_some, e4]
  exact ⟨_, _, _, rfl, g4.mono (by omega), hn.1, hn.2, h4⟩
theorem arity_ok {k : Nat} {c : CurT} (hc : Cur k c) (hk : k ≤ 100000) : ∃ c' x, spec_l1Cur_arity12 c = some (c', x) ∧ Cur (k + 4) c' ∧ 0 ≤ x ∧ x ≤ 4 := by
 obtain ⟨d1, y1, c2, n, e2, i2, f2, g2, m2⟩ := part_draw hc (by omega) [1, 1, 2, 2, 2, 3, 0, 4] 6 11 (by omega) (by omega) (by simp) (by simp)
 unfold spec_l1Cur_arity12
 simp only [e2, Option.bind_some]
 rw [if_pos (by decide), if_pos (show (0 : Int) ≤ 0 ∧ 0 ≤ (w64 (6 + (w64 (Int.tdiv y1 11)))) ∧ (w64 (6 + (w64 (Int.tdiv y1 11)))) ≤ ([1, 1, 2, 2, 2, 3, 0, 4].length : Int) from i2)]
 have f2 : spec_l1Cur_among (d1.1, (d1.2.1, d1.2.2)) (([1, 1, 2, 2, 2, 3, 0, 4].take (Int.toNat (w64 (6 + (w64 (Int.tdiv y1 11)))))).drop (Int.toNat 0)) = _ := f2
 rw [f2]
 simp only [Option.bind_some]
 exact ⟨_, _, rfl, g2, by simp at m2; omega⟩
theorem DrawPolymorphismsOf_ok {code : List Int} (h1 : code.length ≤ 65536) (h2 : ∀ x ∈ code, 0 ≤ x ∧ x < 256) : ∃ n rels k, spec_DrawPolymorphismsOf code = some (n, rels, k) ∧ 0 ≤ n ∧ n ≤ 5 ∧ relsB rels ∧ 0 ≤ k ∧ k ≤ 4 := by
 obtain ⟨c1, n, rels, e1, g1, a, b, c⟩ := template_ok (k := 0) (c := (code, (0, 0))) ⟨h1, h2, by simp, by simp⟩ (by omega)
 obtain ⟨c2, k, e2, g2, d⟩ := arity_ok g1 (by omega)
 have e2 : spec_l1Cur_arity12 (c1.1, (c1.2.1, c1.2.2)) = _ := e2
 unfold spec_DrawPolymorphismsOf
 simp only [e1, e2, Option.bind_some]
 exact ⟨n, rels, k, rfl, a, b, c, d⟩
end T
open Go Go.Va
namespace T
theorem all_eqD {α : Type} [DecidableEq α] {l l' : List α} (d : α) (h : l.length = l'.length) : (List.range l.length).all (fun k => decide (l.getD k d = l'.getD k d)) = decide (l = l') := by
 rw [Bool.eq_iff_iff]
 simp only [List.all_eq_true, List.mem_range, decide_eq_true_eq]
 constructor
 ·intro hx
  refine List.ext_getElem h fun i h1 h2 => ?_
  have := hx i h1
  rwa [getD_of h1, getD_of h2] at this
 ·rintro rfl _ _; rfl
theorem impl_sameRel_ok {r s : RelT} (hr : r.2.length ≤ 1000) (ht : ∀ t ∈ r.2, t.length ≤ 1000) : impl_sameRelation r s = some (decide (r = s)) := by
 obtain ⟨ra, rt⟩ := r
 obtain ⟨sa, st⟩ := s
 dsimp only at hr ht
 unfold impl_sameRelation
 dsimp only
 by_cases h1 : ra = sa
 ·subst h1
  rw [if_neg (by simp)]
  by_cases h2 : rt.length = st.length
  ·rw [if_neg (by simp [h2])]
   have := forA rt.length (fun n (_ : Unit) i => impl_sameRelation_L4 n ((ra, st), rt, (rt.length : Int), i)) (fun _ => ()) (fun k => decide (rt.getD k [] = st.getD k [])) (r := some (.inr false)) (e := some (.inl ())) (fun f k hk => ?_) (fun f => ?_) (n := fuel) (by unfold fuel; omega)
   ·rw [all_eqD [] h2] at this
    have this : impl_sameRelation_L4 fuel ((ra, st), rt, (rt.length : Int), 0) = _ := this
    rw [this]
    by_cases e : rt = st
    ·subst e; simp
    ·simp [e]
   ·have e := impl_sameList_ok (x := rt[k]) (y := st[k]) (by have := ht _ (List.getElem_mem hk); omega)
    simp only [impl_sameRelation_L4, inb_nat, hk, gd_nat hk, h2 ▸ hk, gd_nat (h2 ▸ hk), e, Option.bind_some, if_true, getD_of hk, getD_of (h2 ▸ hk : k < st.length), w64_succ (show k < 4611686018427387904 by omega)]
    rw [if_pos (by simp; omega)]
    by_cases e : rt[k] = st[k] <;> simp [e]
   ·simp only [impl_sameRelation_L4]
    rw [if_neg (by simp)]
  ·rw [if_pos (by simpa using fun h => h2 (by omega))]
   simp only [Prod.mk.injEq, true_and]
   rw [decide_eq_false fun h => h2 (by rw [h])]
 ·rw [if_pos (by simpa using h1)]
  simp [h1]
theorem spec_sameRel_ok {r s : RelT} (hr : r.2.length ≤ 1000) (ht : ∀ t ∈ r.2, t.length ≤ 1000) : spec_l19SameRel r s = some (decide (r = s)) := by
 obtain ⟨ra, rt⟩ := r
 obtain ⟨sa, st⟩ := s
 dsimp only at hr ht
 unfold spec_l19SameRel
 dsimp only
 by_cases h1 : ra = sa
 ·subst h1
  rw [if_neg (by simp)]
  by_cases h2 : rt.length = st.length
  ·rw [if_neg (by simp [h2])]
   have := forA rt.length (fun n (_ : Unit) i => spec_l19SameRel_L4 n ((ra, rt), (ra, st), i)) (fun _ => ()) (fun k => decide (rt.getD k [] = st.getD k [])) (r := some (.inr false)) (e := some (.inl ())) (fun f k hk => ?_) (fun f => ?_) (n := fuel) (by unfold fuel; omega)
   ·rw [all_eqD [] h2] at this
    have this : spec_l19SameRel_L4 fuel ((ra, rt), (ra, st), 0) = _ := this
    rw [this]
    by_cases e : rt = st
    ·subst e; simp
    ·simp [e]
   ·have e := spec_l1Same_ok (a := rt[k]) (b := st[k]) (by have := ht _ (List.getElem_mem hk); omega)
    simp only [spec_l19SameRel_L4, inb_nat, hk, gd_nat hk, h2 ▸ hk, gd_nat (h2 ▸ hk), e, Option.bind_some, if_true, getD_of hk, getD_of (h2 ▸ hk : k < st.length), w64_succ (show k < 4611686018427387904 by omega)]
    rw [if_pos (by simp; omega)]
    by_cases e : rt[k] = st[k] <;> simp [e]
   ·simp only [spec_l19SameRel_L4]
    rw [if_neg (by simp)]
  ·rw [if_pos (by simpa using fun h => h2 (by omega))]
   simp only [Prod.mk.injEq, true_and]
   rw [decide_eq_false fun h => h2 (by rw [h])]
 ·rw [if_pos (by simpa using h1)]
  simp [h1]
theorem hasCon_ok {l : List Con} {c : Con} (hl : l.length ≤ 1000) (h1 : c.1.length ≤ 1000) (h2 : c.2.2.length ≤ 1000) (h3 : ∀ t ∈ c.2.2, t.length ≤ 1000) : impl_hasConstraint l c = some (decide (c ∈ l)) := by
 obtain ⟨sc, ar, ts⟩ := c
 dsimp only at h1 h2 h3
 unfold impl_hasConstraint
 dsimp only
 rw [allX l (fun n i => impl_hasConstraint_L2 n ((sc, (ar, ts)), l, (l.length : Int), i)) (fun y => !decide ((sc, (ar, ts)) = y)) (.inr true) (.inl ()) ?_ ?_ (by unfold fuel; omega)]
 ·by_cases hx : (sc, (ar, ts)) ∈ l
  ·have : l.all (fun y => !decide ((sc, (ar, ts)) = y)) = false := by
    rw [List.all_eq_false]; exact ⟨_, hx, by simp⟩
   rw [this]; simp [hx]
  ·have : l.all (fun y => !decide ((sc, (ar, ts)) = y)) = true := by
    rw [List.all_eq_true]
    intro y hy
    have : (sc, (ar, ts)) ≠ y := fun e => hx (e ▸ hy)
    simp [this]
   rw [this]; simp [hx]
 ·intro n k hk
  rcases hlk : l[k] with ⟨sb, ab, tb⟩
  have e1 := impl_sameList_ok (x := sc) (y := sb) (by omega)
  have e2 := impl_sameRel_ok (r := (ar, ts)) (s := (ab, tb)) h2 h3
  simp only [impl_hasConstraint_L2, inb_nat, hk, gd_nat hk, hlk, e1, e2, Option.bind_some, if_true, w64_succ (show k < 4611686018427387904 by omega)]
  rw [if_pos (by simp; omega)]
  by_cases e : sc = sb
  ·subst e
   by_cases e' : (ar, ts) = (ab, tb)
   ·rw [e']; simp
   ·simp [e']
  ·simp [e]
 ·intro n
  simp only [impl_hasConstraint_L2]
  rw [if_neg (by simp)]
def mixF (A B : Nat → Nat) (m j : Nat) : List Int := (List.range m).map fun i => if i < j then ((B i : Nat) : Int) else ((A i : Nat) : Int)
section
variable {A B : Nat → Nat} {m j : Nat}
theorem mixF_len : (mixF A B m j).length = m := by simp [mixF]
theorem mixF_get {i : Nat} (h : i < m) : (mixF A B m j).getD i 0 = if i < j then ((B i : Nat) : Int) else ((A i : Nat) : Int) := by
 rw [getD_of (by rw [mixF_len]; exact h)]; simp [mixF]
theorem mixF_set (h : j < m) : (mixF A B m j).set j ((B j : Nat) : Int) = mixF A B m (j + 1) := by
 refine List.ext_getElem (by simp [mixF]) fun i h1 h2 => ?_
 rw [List.getElem_set]
 simp only [mixF, List.getElem_map, List.getElem_range]
 by_cases e : j = i
 ·subst e; simp
 ·rw [if_neg e]
  by_cases e' : i < j
  ·rw [if_pos e', if_pos (by omega)]
  ·rw [if_neg e', if_neg (by omega)]
theorem mixF_zero : mixF A B m 0 = cI ((List.range m).map A) := by simp [mixF, cI]
theorem mixF_all : mixF A B m m = cI ((List.range m).map B) := by
 unfold mixF cI
 rw [List.map_map]
 refine List.map_congr_left fun i hi => ?_
 rw [if_pos (List.mem_range.1 hi)]; rfl
end
def addC (n k : Nat) (r : RelT) (l : List Con) (i : Nat) : Option (List Con) := if (cI (PL n k r i), r) ∈ l then some l else if l.length = 40 then none else some (l ++ [(cI (PL n k r i), r)])
def addR (n k : Nat) (r : RelT) : List Nat → List Con → Option (List Con)
 | [], l => some l
 | i :: t, l => (addC n k r l i).bind (addR n k r t)
def netL (n k : Nat) : List RelT → List Con → Option (List Con)
 | [], l => some l
 | r :: t, l => (addR n k r (List.range (r.2.length ^ k)) l).bind (netL n k t)
def netZ : Net := (0, (0, []))
def netR (n : Int) (rels : List RelT) (k : Int) : Net × Bool :=
 if polyB n rels k then match netL n.toNat k.toNat rels [] with
  | some l => ((((n.toNat ^ k.toNat : Nat) : Int), (n, l)), true)
  | none => (netZ, false)
 else (netZ, false)
section
variable {n k m : Nat} {r : RelT} {rels : List RelT}
theorem inp_L15 (h : ROk n m r) (hn : 1 ≤ n ∧ n ≤ 4) {A : Nat → Nat} (hA : ∀ i, i < m → A i ≤ 64) {x : Nat} (hx : x < r.2.length) (t2 t11 : Int) (t6 t8 : Net) (R : RelT) (t33 : List RelT) (t34 t35 : Int) (t59 : List Int) (t60 t61 : Int) :
    impl_NetworkOfPolymorphisms_L15 fuel ((n : Int), t2, t6, t8, r, t11, (cI ((List.range m).map A), R), (x : Int), t33, t34, t35, t59, t60, t61, ((cI ((List.range m).map A)).length : Int), 0)
      = some ((n : Int), t2, t6, t8, r, t11, (cI ((List.range m).map fun i => A i * n + vt r.2 x i), R), t33, t34, t35, t59, t60, t61) := by
  have hm := h.hm
  have hcl : (cI ((List.range m).map A)).length = m := by rw [cI_len]; simp
  rw [hcl]
  have := forS m (fun f (o : List Int) i => impl_NetworkOfPolymorphisms_L15 f ((n : Int), t2, t6, t8, r, t11, (o, R), (x : Int), t33, t34, t35, t59, t60, t61, (m : Int), i)) (mixF A (fun i => A i * n + vt r.2 x i) m)
    (r := some ((n : Int), t2, t6, t8, r, t11, (cI ((List.range m).map fun i => A i * n + vt r.2 x i), R), t33, t34, t35, t59, t60, t61)) (fun f j hj => ?_) (fun f => ?_) (n := fuel) (by unfold fuel; omega)
  · rw [mixF_zero] at this
    exact this
  · obtain ⟨v1, v2, v3⟩ := h.vt_lt hx hj
    have hl : j < (mixF A (fun i => A i * n + vt r.2 x i) m j).length := by rw [mixF_len]; exact hj
    have hg := mixF_get (A := A) (B := fun i => A i * n + vt r.2 x i) (j := j) hj
    rw [if_neg (by omega)] at hg
    have hstep := w64_step (n := n) hn.2 (x := A j) (v := vt r.2 x j) (hA j hj) v1
    have hset := mixF_set (A := A) (B := fun i => A i * n + vt r.2 x i) hj
    simp only [impl_NetworkOfPolymorphisms_L15, inb_nat, hl, hx, gd_D, hg, v2, v3, hstep, stt_nat, if_true, w64_succ (show j < 4611686018427387904 by omega)]
    rw [if_pos (by simp; omega), hset]
  · simp only [impl_NetworkOfPolymorphisms_L15]
    rw [if_neg (by simp), mixF_all]
theorem inp_L12 (h : ROk n m r) (hn : 1 ≤ n ∧ n ≤ 4) {args : List Nat} (hl : args.length ≤ 3) (ha : ∀ x ∈ args, x < r.2.length) (t2 t11 : Int) (t6 t8 : Net) (R : RelT) (t33 : List RelT) (t34 t35 : Int) :
    impl_NetworkOfPolymorphisms_L12 fuel ((n : Int), t2, t6, t8, r, t11, (List.replicate (Int.toNat r.1) (0 : Int), R), t33, t34, t35, cI args, ((cI args).length : Int), 0)
      = some ((n : Int), t2, t6, t8, r, t11, (cI ((List.range m).map fun j => atF n r.2 j args), R), t33, t34, t35) := by
  have hm := h.hm
  have hrep : List.replicate (Int.toNat r.1) (0 : Int) = cI ((List.range m).map fun j => atF n r.2 j (args.take 0)) := by
    rw [h.ar]
    simp only [Int.toNat_natCast, List.take_zero, atF, List.foldl_nil]
    refine List.ext_getElem (by simp [cI]) fun i h1 h2 => by simp [cI]
  rw [hrep, cI_len]
  have := forS args.length (fun f (o : List Int) i => impl_NetworkOfPolymorphisms_L12 f ((n : Int), t2, t6, t8, r, t11, (o, R), t33, t34, t35, cI args, (args.length : Int), i)) (fun z => cI ((List.range m).map fun j => atF n r.2 j (args.take z)))
    (r := some ((n : Int), t2, t6, t8, r, t11, (cI ((List.range m).map fun j => atF n r.2 j args), R), t33, t34, t35)) (fun f z hz => ?_) (fun f => ?_) (n := fuel) (by unfold fuel; omega)
  · exact this
  · have hzc : z < (cI args).length := by rw [cI_len]; exact hz
    have hg : (cI args).getD z 0 = ((args[z] : Nat) : Int) := by rw [getD_of hzc]; simp [cI]
    have htk : args.take (z + 1) = args.take z ++ [args[z]] := List.take_succ_eq_append_getElem hz
    have e1 := inp_L15 h hn (A := fun j => atF n r.2 j (args.take z)) (fun j hj => by
      have hlt := h.at_lt hj (args.take z) fun x hx => ha x (List.mem_of_mem_take hx)
      have hp := pow_le3 (n := n) (k := (args.take z).length) hn.2 (by rw [List.length_take]; omega)
      show atF n r.2 j (args.take z) ≤ 64
      omega) (ha _ (List.getElem_mem hz)) t2 t11 t6 t8 R t33 t34 t35 (cI args) (args.length : Int) (z : Int)
    have e1 : impl_NetworkOfPolymorphisms_L15 fuel ((n : Int), t2, (t6.1, (t6.2.1, t6.2.2)), (t8.1, (t8.2.1, t8.2.2)), (r.1, r.2), t11, (cI ((List.range m).map fun j => atF n r.2 j (args.take z)), (R.1, R.2)), ((args[z] : Nat) : Int), t33, t34, t35, cI args, (args.length : Int), (z : Int), ((cI ((List.range m).map fun j => atF n r.2 j (args.take z))).length : Int), 0) = _ := e1
    simp only [impl_NetworkOfPolymorphisms_L12, inb_nat, hzc, gd_D, hg, e1, Option.bind_some, if_true, htk, atF_append, w64_succ (show z < 4611686018427387904 by omega)]
    rw [if_pos (by simp; omega)]
  · simp only [impl_NetworkOfPolymorphisms_L12, List.take_length]
    rw [if_neg (by simp)]
theorem cloneRel_ok (h : ROk n m r) : impl_cloneRelation (r.1, r.2) = some r := by
 have hm := h.hm
 have hc := h.many
 have e2 := cloneRows_ok (rows := r.2) (by omega) fun u hu => by have := h.tl u hu; omega
 unfold impl_cloneRelation
 simp only [e2, Option.bind_some]
end
end T
open Go Go.Va
namespace T
section
variable {n k m : Nat} {r : RelT} {rels : List RelT}
theorem addC_len {l l' : List Con} {i : Nat} (h : addC n k r l i = some l') : l.length ≤ 40 → l'.length ≤ 40 := by
 unfold addC at h
 intro hl
 split at h
 ·injection h with h; rw [← h]; exact hl
 ·split at h
  ·exact absurd h (by simp)
  ·injection h with h; rw [← h]; simp; omega
theorem PL_eq (h : ROk n m r) {i : Nat} : (List.range m).map (fun j => atF n r.2 j (dg r.2.length k i)) = PL n k r i := by
 unfold PL; rw [h.ar]; simp
theorem inp_L8 (h : ROk n m r) (hn : 1 ≤ n ∧ n ≤ 4) (hk : 1 ≤ k ∧ k ≤ 3) (V : Int) (t33 : List RelT) (t34 t35 : Int) :
    ∀ (d f i : Nat) (l : List Con), i + d = r.2.length ^ k → d < f → l.length ≤ 40 →
    impl_NetworkOfPolymorphisms_L8 f ((n : Int), (k : Int), netZ, (V, ((n : Int), l)), r, (i : Int), t33, t34, t35)
      = match addR n k r (List.range' i d) l with
        | some l' => some (.inl ((n : Int), (k : Int), netZ, (V, ((n : Int), l')), t33, t34, t35))
        | none => some (.inr (netZ, false)) := by
  have hm := h.hm
  have hmany := h.many
  intro d
  induction d with
  | zero =>
    intro f i l hi hf hl
    obtain ⟨f, rfl⟩ := Nat.exists_eq_add_of_le' hf
    have e1 := impl_power64 (b := r.2.length) (k := k) (by omega) hk.2
    simp only [impl_NetworkOfPolymorphisms_L8, e1, Option.bind_some, List.range'_zero, addR]
    rw [if_neg (by rw [decide_eq_true_eq]; omega)]
  | succ d ih =>
    intro f i l hi hf hl
    obtain ⟨f, rfl⟩ := Nat.exists_eq_add_of_le' (show 1 ≤ f by omega)
    have hp := pow64 (b := r.2.length) (k := k) (by omega) hk.2
    have hb : 0 < r.2.length := by
      rcases Nat.eq_zero_or_pos r.2.length with e | e
      · rw [e, Nat.zero_pow (by omega)] at hi; omega
      · exact e
    have e1 := impl_power64 (b := r.2.length) (k := k) (by omega) hk.2
    have e2 := cloneRel_ok h
    have e3 := impl_argsAt_ok (b := r.2.length) (k := k) (i := i) hb (by omega) (by omega)
    have e4 := inp_L12 h hn (args := dg r.2.length k i) (by rw [dg_len]; omega) (fun x hx => dg_lt hb x hx) (k : Int) (i : Int) netZ (V, ((n : Int), l)) r t33 t34 t35
    rw [PL_eq h] at e4
    have e4 : impl_NetworkOfPolymorphisms_L12 fuel ((n : Int), (k : Int), (netZ.1, (netZ.2.1, netZ.2.2)), (V, ((n : Int), l)), (r.1, r.2), (i : Int), (List.replicate (Int.toNat r.1) (0 : Int), (r.1, r.2)), t33, t34, t35, cI (dg r.2.length k i), ((cI (dg r.2.length k i)).length : Int), 0) = _ := e4
    have hpl := h.pl_len (k := k) (i := i)
    have e5 := hasCon_ok (l := l) (c := (cI (PL n k r i), r)) (by omega) (by show (cI (PL n k r i)).length ≤ 1000; rw [cI_len]; omega) (by show r.2.length ≤ 1000; omega) (fun t ht => by have := h.tl t ht; omega)
    have e5 : impl_hasConstraint l (cI (PL n k r i), (r.1, r.2)) = _ := e5
    rw [List.range'_succ]
    have har := h.ar
    simp only [impl_NetworkOfPolymorphisms_L8, e1, e2, e3, e4, e5, Option.bind_some, addR, addC, w64_succ (show i < 4611686018427387904 by omega)]
    rw [if_pos (by rw [decide_eq_true_eq]; omega), if_pos (by unfold lim; omega)]
    by_cases hx : (cI (PL n k r i), r) ∈ l
    · rw [if_pos hx, if_pos (by simpa using hx)]
      exact ih f (i + 1) l (by omega) (by omega) hl
    · rw [if_neg hx, if_neg (by simpa using hx)]
      by_cases h40 : l.length = 40
      · rw [if_pos h40, if_pos (by simp; omega)]; rfl
      · rw [if_neg h40, if_neg (by simp; omega), if_pos (by simp; unfold lim; omega)]
        exact ih f (i + 1) _ (by omega) (by omega) (by simp; omega)
theorem addR_len : ∀ (t : List Nat) (l l' : List Con), addR n k r t l = some l' → l.length ≤ 40 → l'.length ≤ 40
 | [], l, l', h, hl => by injection h with h; rw [← h]; exact hl
 | i :: t, l, l', h, hl => by
  simp only [addR] at h
  cases ha : addC n k r l i with
  | none => rw [ha] at h; simp at h
  | some l1 =>
   rw [ha] at h
   exact addR_len t l1 l' h (addC_len ha hl)
theorem inp_L5 (hR : RelsOk n k rels) (V : Int) :
    ∀ (d f t : Nat) (l : List Con), t + d = rels.length → d < f → l.length ≤ 40 →
    impl_NetworkOfPolymorphisms_L5 f ((n : Int), (k : Int), netZ, (V, ((n : Int), l)), rels, (rels.length : Int), (t : Int))
      = match netL n k (rels.drop t) l with
        | some l' => some (.inl (netZ, (V, ((n : Int), l'))))
        | none => some (.inr (netZ, false)) := by
  have hl8 := hR.len
  intro d
  induction d with
  | zero =>
    intro f t l ht hf hl
    obtain ⟨f, rfl⟩ := Nat.exists_eq_add_of_le' hf
    rw [List.drop_of_length_le (by omega)]
    simp only [impl_NetworkOfPolymorphisms_L5, netL]
    rw [if_neg (by simp; omega)]
  | succ d ih =>
    intro f t l ht hf hl
    obtain ⟨f, rfl⟩ := Nat.exists_eq_add_of_le' (show 1 ≤ f by omega)
    have htl : t < rels.length := by omega
    have hr := hR.ok _ (List.getElem_mem htl)
    have hc := hR.cnt (List.getElem_mem htl)
    have e1 := inp_L8 hr hR.hn hR.hk V rels (rels.length : Int) (t : Int) (rels[t].2.length ^ k) fuel 0 l (by omega) (by unfold fuel; omega) hl
    have e1 : impl_NetworkOfPolymorphisms_L8 fuel ((n : Int), (k : Int), (netZ.1, (netZ.2.1, netZ.2.2)), (V, ((n : Int), l)), (rels[t].1, rels[t].2), 0, rels, (rels.length : Int), (t : Int)) = _ := e1
    rw [List.drop_eq_getElem_cons htl]
    simp only [impl_NetworkOfPolymorphisms_L5, inb_nat, htl, gd_nat htl, if_true, e1, netL, List.range_eq_range', w64_succ (show t < 4611686018427387904 by omega)]
    rw [if_pos (by simp; omega)]
    cases ha : addR n k rels[t] (List.range' 0 (rels[t].2.length ^ k)) l with
    | none => rfl
    | some l1 =>
      simp only [Option.bind_some, w64_succ (show t < 4611686018427387904 by omega)]
      exact ih f (t + 1) l1 (by omega) (by omega) (addR_len _ _ _ ha hl)
theorem impl_NetworkOfP_ok {n k : Int} (h : relsS rels) : impl_NetworkOfPolymorphisms n rels k = some (netR n rels k) := by
 unfold impl_NetworkOfPolymorphisms netR
 rw [impl_canAsk_ok h]
 cases hb : polyB n rels k with
 | false =>
  cases hc : tmplB n rels && fewB k rels with
  | false => simp; rfl
  | true =>
   unfold polyB at hb
   rw [hc, Bool.true_and] at hb
   rw [Bool.and_eq_true] at hc
   simp only [Option.bind_some, Bool.not_true, Bool.false_eq_true, if_false, impl_range_ok (k := k) (tmpl_of hc.1).1, hb]
   rfl
 | true =>
  obtain ⟨hn, hk, h9, hR⟩ := polyB_of hb
  have hb' := hb
  unfold polyB at hb'
  simp only [Bool.and_eq_true] at hb'
  obtain ⟨⟨ht, hf⟩, hr⟩ := hb'
  obtain ⟨p1, p2⟩ := powI_ok hn hk
  have hl8 := hR.len
  have e1 := inp_L5 hR ((n.toNat ^ k.toNat : Nat) : Int) rels.length fuel 0 [] (by omega) (by unfold fuel; omega) (by simp)
  rw [Int.toNat_of_nonneg (show 0 ≤ n by omega), Int.toNat_of_nonneg (show 0 ≤ k by omega), List.drop_zero] at e1
  have e1 : impl_NetworkOfPolymorphisms_L5 fuel (n, k, (0, (0, [])), (((n.toNat ^ k.toNat : Nat) : Int), (n, [])), rels, (rels.length : Int), 0) = _ := e1
  have hr' : (decide (1 ≤ k ∧ k ≤ 3) && decide (n.toNat ^ k.toNat ≤ 9)) = true := by simpa using hr
  rw [ht, hf]
  simp only [Bool.and_self, Option.bind_some, Bool.not_true, Bool.false_eq_true, if_false, impl_range_ok (k := k) hn, hr', p1, e1, if_true]
  cases netL n.toNat k.toNat rels [] <;> rfl
end
end T
open Go Go.Va
namespace T
section
variable {n k m : Nat} {r : RelT} {rels : List RelT}
theorem snp_L18 (h : ROk n m r) (hn : 1 ≤ n ∧ n ≤ 4) {t : Nat} (ht : t < rels.length) (er : rels[t] = r) {args : List Nat} (hl : args.length ≤ 3) (ha : ∀ x ∈ args, x < r.2.length) {j : Nat} (hj : j < m) (t6 t8 : Net) (t10 t11 : Int) (t13 : List Int) :
    spec_NetworkOfPolymorphisms_L18 fuel ((n : Int), rels, (args.length : Int), t6, t8, (t : Int), t10, t11, cI args, t13, (j : Int), 0, 0)
      = some ((n : Int), rels, (args.length : Int), t6, t8, (t : Int), t10, t11, cI args, t13, (j : Int), ((atF n r.2 j args : Nat) : Int)) := by
  have := forS args.length (fun f (s : Int) i => spec_NetworkOfPolymorphisms_L18 f ((n : Int), rels, (args.length : Int), t6, t8, (t : Int), t10, t11, cI args, t13, (j : Int), s, i)) (fun z => ((atF n r.2 j (args.take z) : Nat) : Int))
    (r := some ((n : Int), rels, (args.length : Int), t6, t8, (t : Int), t10, t11, cI args, t13, (j : Int), ((atF n r.2 j args : Nat) : Int))) (fun f z hz => ?_) (fun f => ?_) (n := fuel) (by unfold fuel; omega)
  · exact this
  · have hzc : z < (cI args).length := by rw [cI_len]; exact hz
    have hx := ha _ (List.getElem_mem hz)
    have hg : (cI args).getD z 0 = ((args[z] : Nat) : Int) := by rw [getD_of hzc]; simp [cI]
    obtain ⟨v1, v2, v3⟩ := h.vt_lt hx hj
    have hlt := h.at_lt hj (args.take z) fun x hx => ha x (List.mem_of_mem_take hx)
    have hp := pow_le3 (n := n) (k := (args.take z).length) hn.2 (by rw [List.length_take]; omega)
    have hstep := w64_step (n := n) hn.2 (x := atF n r.2 j (args.take z)) (v := vt r.2 args[z] j) (by omega) v1
    have htk : args.take (z + 1) = args.take z ++ [args[z]] := List.take_succ_eq_append_getElem hz
    simp only [spec_NetworkOfPolymorphisms_L18, inb_nat, ht, gd_nat ht, er, hzc, gd_D, hg, hx, v3, v2, hstep, htk, atF_append, w64_succ (show z < 4611686018427387904 by omega), if_true]
    rw [if_pos (by rw [decide_eq_true_eq]; omega)]
  · simp only [spec_NetworkOfPolymorphisms_L18, List.take_length]
    rw [if_neg (by simp)]
theorem snp_L14 (h : ROk n m r) (hn : 1 ≤ n ∧ n ≤ 4) (hk : k ≤ 3) (hb : 0 < r.2.length) {t : Nat} (ht : t < rels.length) (er : rels[t] = r) (i : Nat) (t6 t8 : Net) (t10 t11 : Int) :
    spec_NetworkOfPolymorphisms_L14 fuel ((n : Int), rels, (k : Int), t6, t8, (t : Int), t10, t11, cI (dg r.2.length k i), [], 0)
      = some ((n : Int), rels, (k : Int), t6, t8, (t : Int), t10, t11, cI (PL n k r i)) := by
  have hm := h.hm
  have har := h.ar
  have hpl := h.pl_len (k := k) (i := i)
  have := forS m (fun f (s : List Int) j => spec_NetworkOfPolymorphisms_L14 f ((n : Int), rels, (k : Int), t6, t8, (t : Int), t10, t11, cI (dg r.2.length k i), s, j)) (fun j => cI ((PL n k r i).take j))
    (r := some ((n : Int), rels, (k : Int), t6, t8, (t : Int), t10, t11, cI (PL n k r i))) (fun f j hj => ?_) (fun f => ?_) (n := fuel) (by unfold fuel; omega)
  · exact this
  · have hjl : j < (PL n k r i).length := by omega
    have e1 := snp_L18 h hn ht er (args := dg r.2.length k i) (by rw [dg_len]; omega) (fun x hx => dg_lt hb x hx) hj t6 t8 t10 t11 (cI ((PL n k r i).take j))
    rw [dg_len] at e1
    have e1 : spec_NetworkOfPolymorphisms_L18 fuel ((n : Int), rels, (k : Int), (t6.1, (t6.2.1, t6.2.2)), (t8.1, (t8.2.1, t8.2.2)), (t : Int), t10, t11, cI (dg r.2.length k i), cI ((PL n k r i).take j), (j : Int), 0, 0) = _ := e1
    have e2 : cI ((PL n k r i).take (j + 1)) = cI ((PL n k r i).take j) ++ [((atF n r.2 j (dg r.2.length k i) : Nat) : Int)] := by
      rw [List.take_succ_eq_append_getElem hjl, PL_get hjl]; simp [cI]
    simp only [spec_NetworkOfPolymorphisms_L14, inb_nat, ht, gd_nat ht, er, har, e1, Option.bind_some, e2, w64_succ (show j < 4611686018427387904 by omega), if_true]
    rw [if_pos (by rw [decide_eq_true_eq]; omega), if_pos (by rw [cI_len, List.length_take, List.length_singleton]; unfold lim; omega)]
  · simp only [spec_NetworkOfPolymorphisms_L14, inb_nat, ht, gd_nat ht, er, har, if_true]
    rw [if_neg (by simp), List.take_of_length_le (by omega)]
theorem snp_L24 (h : ROk n m r) {t : Nat} (ht : t < rels.length) (er : rels[t] = r) (t0 t2 V s : Int) (t6 : Net) (t10 t11 : Int) {l : List Con} (hl : l.length ≤ 1000) (hs : ∀ c ∈ l, c.1.length ≤ 1000 ∧ c.2.2.length ≤ 1000 ∧ ∀ u ∈ c.2.2, u.length ≤ 1000) (sc : List Int) :
    spec_NetworkOfPolymorphisms_L24 fuel (t0, rels, t2, t6, (V, (s, l)), (t : Int), t10, t11, sc, false, 0)
      = some (t0, rels, t2, t6, (V, (s, l)), (t : Int), t10, t11, sc, decide ((sc, r) ∈ l)) := by
  have := forS l.length (fun f (b : Bool) i => spec_NetworkOfPolymorphisms_L24 f (t0, rels, t2, t6, (V, (s, l)), (t : Int), t10, t11, sc, b, i)) (fun i => decide ((sc, r) ∈ l.take i))
    (r := some (t0, rels, t2, t6, (V, (s, l)), (t : Int), t10, t11, sc, decide ((sc, r) ∈ l))) (fun f i hi => ?_) (fun f => ?_) (n := fuel) (by unfold fuel; omega)
  · have e0 : decide ((sc, r) ∈ l.take 0) = false := by simp
    rw [e0] at this
    exact this
  · have e2 : decide ((sc, r) ∈ l.take (i + 1)) = (decide ((sc, r) ∈ l.take i) || decide ((sc, r) = l[i])) := by
      rw [List.take_succ_eq_append_getElem hi, Bool.eq_iff_iff]
      simp only [decide_eq_true_eq, Bool.or_eq_true, List.mem_append, List.mem_singleton]
    obtain ⟨h1, h2, h3⟩ := hs _ (List.getElem_mem hi)
    have e3 := spec_l1Same_ok (a := l[i].1) (b := sc) (by omega)
    have e4 := spec_sameRel_ok (r := l[i].2) (s := r) h2 h3
    have e4 : spec_l19SameRel (l[i].2.1, l[i].2.2) r = _ := e4
    rw [e2]
    simp only [spec_NetworkOfPolymorphisms_L24]
    rw [if_pos (by rw [decide_eq_true_eq]; exact_mod_cast hi)]
    cases hb : decide ((sc, r) ∈ l.take i) with
    | true =>
      simp only [if_true, Bool.true_or, w64_succ (show i < 4611686018427387904 by omega)]
    | false =>
      simp only [Bool.false_eq_true, if_false, inb_nat, hi, if_true, gd_nat hi, e3, Option.bind_some, ht, gd_nat ht, er, e4, Bool.false_or, w64_succ (show i < 4611686018427387904 by omega)]
      by_cases e : l[i].1 = sc
      · rw [if_pos (by simpa using e)]
        have : decide (l[i].2 = r) = decide ((sc, r) = l[i]) := by
          rw [decide_eq_decide]
          constructor
          · intro h; rw [← e, ← h]
          · intro h; rw [← h]
        rw [this]
      · rw [if_neg (by simpa using e)]
        have : decide ((sc, r) = l[i]) = false := decide_eq_false fun h => e (by rw [← h])
        rw [this]
  · simp only [spec_NetworkOfPolymorphisms_L24, List.take_length]
    rw [if_neg (by simp)]
def conOkL (n k : Nat) (l : List Con) : Prop := ∀ c ∈ l, ∃ m r i, ROk n m r ∧ c = (cI (PL n k r i), r)
theorem conOkL.small {l : List Con} (h : conOkL n k l) : ∀ c ∈ l, c.1.length ≤ 1000 ∧ c.2.2.length ≤ 1000 ∧ ∀ u ∈ c.2.2, u.length ≤ 1000 := fun c hc => by
 obtain ⟨m, r, i, h1, rfl⟩ := h c hc
 have hpl := h1.pl_len (k := k) (i := i)
 have hm := h1.hm
 have := h1.many
 exact ⟨by show (cI (PL n k r i)).length ≤ 1000; rw [cI_len]; omega, by show r.2.length ≤ 1000; omega, fun u hu => by have := h1.tl u hu; omega⟩
theorem addC_ok (h : ROk n m r) {l l' : List Con} {i : Nat} (ha : addC n k r l i = some l') (hl : conOkL n k l) : conOkL n k l' := by
 unfold addC at ha
 split at ha
 ·injection ha with ha; rw [← ha]; exact hl
 ·split at ha
  ·exact absurd ha (by simp)
  ·injection ha with ha
   rw [← ha]
   intro c hc
   rcases List.mem_append.1 hc with hc | hc
   ·exact hl c hc
   ·rw [List.mem_singleton.1 hc]; exact ⟨m, r, i, h, rfl⟩
theorem addR_ok (h : ROk n m r) : ∀ (t : List Nat) (l l' : List Con), addR n k r t l = some l' → conOkL n k l → conOkL n k l'
 | [], l, l', ha, hl => by injection ha with ha; rw [← ha]; exact hl
 | i :: t, l, l', ha, hl => by
  simp only [addR] at ha
  cases hx : addC n k r l i with
  | none => rw [hx] at ha; simp at ha
  | some l1 =>
   rw [hx] at ha
   exact addR_ok h t l1 l' ha (addC_ok h hx hl)
theorem snp_L9 (h : ROk n m r) (hn : 1 ≤ n ∧ n ≤ 4) (hk : 1 ≤ k ∧ k ≤ 3) {t : Nat} (ht : t < rels.length) (er : rels[t] = r) (V : Int) :
    ∀ (d f i : Nat) (l : List Con), i + d = r.2.length ^ k → d < f → l.length ≤ 40 → conOkL n k l →
    spec_NetworkOfPolymorphisms_L9 f ((n : Int), rels, (k : Int), netZ, (V, ((n : Int), l)), (t : Int), (r.2.length : Int), (i : Int))
      = match addR n k r (List.range' i d) l with
        | some l' => some (.inl ((n : Int), rels, (k : Int), netZ, (V, ((n : Int), l')), (t : Int)))
        | none => some (.inr (netZ, false)) := by
  have hm := h.hm
  have hmany := h.many
  intro d
  induction d with
  | zero =>
    intro f i l hi hf hl hc
    obtain ⟨f, rfl⟩ := Nat.exists_eq_add_of_le' hf
    have e1 := spec_pow64 (b := r.2.length) (k := k) (by omega) hk.2
    simp only [spec_NetworkOfPolymorphisms_L9, e1, Option.bind_some, List.range'_zero, addR]
    rw [if_neg (by rw [decide_eq_true_eq]; omega)]
  | succ d ih =>
    intro f i l hi hf hl hc
    obtain ⟨f, rfl⟩ := Nat.exists_eq_add_of_le' (show 1 ≤ f by omega)
    have hp := pow64 (b := r.2.length) (k := k) (by omega) hk.2
    have hb : 0 < r.2.length := by
      rcases Nat.eq_zero_or_pos r.2.length with e | e
      · rw [e, Nat.zero_pow (by omega)] at hi; omega
      · exact e
    have e1 := spec_pow64 (b := r.2.length) (k := k) (by omega) hk.2
    have e3 := spec_l2Args_ok (b := r.2.length) (k := k) (i := i) hb (by omega) (by omega)
    have e4 := snp_L14 h hn hk.2 hb ht er i netZ (V, ((n : Int), l)) (r.2.length : Int) (i : Int)
    have e4 : spec_NetworkOfPolymorphisms_L14 fuel ((n : Int), rels, (k : Int), (netZ.1, (netZ.2.1, netZ.2.2)), (V, ((n : Int), l)), (t : Int), (r.2.length : Int), (i : Int), cI (dg r.2.length k i), [], 0) = _ := e4
    have e5 := snp_L24 h ht er (n : Int) (k : Int) V (n : Int) netZ (r.2.length : Int) (i : Int) (l := l) (by omega) hc.small (cI (PL n k r i))
    have e5 : spec_NetworkOfPolymorphisms_L24 fuel ((n : Int), rels, (k : Int), (netZ.1, (netZ.2.1, netZ.2.2)), (V, ((n : Int), l)), (t : Int), (r.2.length : Int), (i : Int), cI (PL n k r i), false, 0) = _ := e5
    have hpl := h.pl_len (k := k) (i := i)
    have e6 := spec_l19Copy_ok (l := [(cI (PL n k r i), r)]) (by simp) (fun c hc => by
      rw [List.mem_singleton.1 hc]
      exact ⟨by show (cI (PL n k r i)).length ≤ _; rw [cI_len]; omega, by show r.2.length ≤ _; omega, fun u hu => by have := h.tl u hu; omega⟩)
    rw [List.range'_succ]
    have i0 : inb (0 : Int) [(cI (PL n k r i), r)] := by unfold inb; simp
    have g0 : gd [(cI (PL n k r i), r)] 0 ([], (0, [])) = (cI (PL n k r i), r) := rfl
    simp only [spec_NetworkOfPolymorphisms_L9, e1, e3, e4, e5, Option.bind_some, addR, addC, w64_succ (show i < 4611686018427387904 by omega)]
    rw [if_pos (by rw [decide_eq_true_eq]; omega)]
    by_cases hx : (cI (PL n k r i), r) ∈ l
    · rw [if_pos hx, if_pos (by simpa using hx)]
      exact ih f (i + 1) l (by omega) (by omega) hl hc
    · rw [if_neg hx, if_neg (by simpa using hx)]
      by_cases h40 : l.length = 40
      · rw [if_pos h40, if_pos (by simp; omega)]; rfl
      · rw [if_neg h40, if_neg (by simp; omega)]
        simp only [inb_nat, ht, gd_nat ht, er, e6, Option.bind_some, i0, g0, if_true]
        rw [if_pos (by simp; unfold lim; omega)]
        refine ih f (i + 1) _ (by omega) (by omega) (by simp; omega) ?_
        exact addC_ok (l := l) h (i := i) (by unfold addC; rw [if_neg hx, if_neg h40]) hc
theorem snp_L5 (hR : RelsOk n k rels) (V : Int) :
    ∀ (d f t : Nat) (l : List Con), t + d = rels.length → d < f → l.length ≤ 40 → conOkL n k l →
    spec_NetworkOfPolymorphisms_L5 f ((n : Int), rels, (k : Int), netZ, (V, ((n : Int), l)), (t : Int))
      = match netL n k (rels.drop t) l with
        | some l' => some (.inl (netZ, (V, ((n : Int), l'))))
        | none => some (.inr (netZ, false)) := by
  have hl8 := hR.len
  intro d
  induction d with
  | zero =>
    intro f t l ht hf hl hc
    obtain ⟨f, rfl⟩ := Nat.exists_eq_add_of_le' hf
    rw [List.drop_of_length_le (by omega)]
    simp only [spec_NetworkOfPolymorphisms_L5, netL]
    rw [if_neg (by rw [decide_eq_true_eq]; omega)]
  | succ d ih =>
    intro f t l ht hf hl hc
    obtain ⟨f, rfl⟩ := Nat.exists_eq_add_of_le' (show 1 ≤ f by omega)
    have htl : t < rels.length := by omega
    have hr := hR.ok _ (List.getElem_mem htl)
    have hcn := hR.cnt (List.getElem_mem htl)
    have e1 := snp_L9 hr hR.hn hR.hk htl rfl V (rels[t].2.length ^ k) fuel 0 l (by omega) (by unfold fuel; omega) hl hc
    have e1 : spec_NetworkOfPolymorphisms_L9 fuel ((n : Int), rels, (k : Int), (netZ.1, (netZ.2.1, netZ.2.2)), (V, ((n : Int), l)), (t : Int), (rels[t].2.length : Int), 0) = _ := e1
    rw [List.drop_eq_getElem_cons htl]
    simp only [spec_NetworkOfPolymorphisms_L5, inb_nat, htl, gd_nat htl, if_true, e1, netL, List.range_eq_range', w64_succ (show t < 4611686018427387904 by omega)]
    rw [if_pos (by rw [decide_eq_true_eq]; omega)]
    cases ha : addR n k rels[t] (List.range' 0 (rels[t].2.length ^ k)) l with
    | none => rfl
    | some l1 =>
      simp only [Option.bind_some, w64_succ (show t < 4611686018427387904 by omega)]
      exact ih f (t + 1) l1 (by omega) (by omega) (addR_len _ _ _ ha hl) (addR_ok hr _ _ _ ha hc)
theorem spec_NetworkOfP_ok {n k : Int} (h : relsS rels) : spec_NetworkOfPolymorphisms n rels k = some (netR n rels k) := by
 unfold spec_NetworkOfPolymorphisms netR
 rw [spec_l14Small_ok h]
 cases hb : polyB n rels k with
 | false => rfl
 | true =>
  obtain ⟨hn, hk, h9, hR⟩ := polyB_of hb
  obtain ⟨p1, p2⟩ := powI_ok hn hk
  have hl8 := hR.len
  have e1 := snp_L5 hR ((n.toNat ^ k.toNat : Nat) : Int) rels.length fuel 0 [] (by omega) (by unfold fuel; omega) (by simp) (fun c hc => by simp at hc)
  rw [Int.toNat_of_nonneg (show 0 ≤ n by omega), Int.toNat_of_nonneg (show 0 ≤ k by omega), List.drop_zero] at e1
  have e1 : spec_NetworkOfPolymorphisms_L5 fuel (n, rels, k, (0, (0, [])), (((n.toNat ^ k.toNat : Nat) : Int), (n, [])), 0) = _ := e1
  simp only [Option.bind_some, Bool.not_true, Bool.false_eq_true, if_false, p2, e1, if_true]
  cases netL n.toNat k.toNat rels [] <;> rfl
end
end T
open Go Go.Va
namespace T
section
variable {n k m : Nat} {r : RelT} {rels : List RelT}
theorem addC_mem {l l' : List Con} {i : Nat} (ha : addC n k r l i = some l') (c : Con) : c ∈ l' ↔ c ∈ l ∨ c = (cI (PL n k r i), r) := by
 unfold addC at ha
 split at ha
 ·rename_i h1
  injection ha with ha
  rw [← ha]
  exact ⟨.inl, fun h => h.elim id fun e => e ▸ h1⟩
 ·split at ha
  ·exact absurd ha (by simp)
  ·injection ha with ha
   rw [← ha, List.mem_append, List.mem_singleton]
theorem addR_mem : ∀ (t : List Nat) (l l' : List Con), addR n k r t l = some l' → ∀ c, c ∈ l' ↔ c ∈ l ∨ ∃ i ∈ t, c = (cI (PL n k r i), r)
 | [], l, l', ha, c => by injection ha with ha; rw [← ha]; simp
 | i :: t, l, l', ha, c => by
  simp only [addR] at ha
  cases hx : addC n k r l i with
  | none => rw [hx] at ha; simp at ha
  | some l1 =>
   rw [hx] at ha
   rw [addR_mem t l1 l' ha c, addC_mem hx c]
   constructor
   ·rintro ((h | h) | ⟨j, h1, h2⟩)
    ·exact .inl h
    ·exact .inr ⟨i, List.mem_cons_self .., h⟩
    ·exact .inr ⟨j, List.mem_cons_of_mem _ h1, h2⟩
   ·rintro (h | ⟨j, h1, h2⟩)
    ·exact .inl (.inl h)
    ·rcases List.mem_cons.1 h1 with rfl | h1
     ·exact .inl (.inr h2)
     ·exact .inr ⟨j, h1, h2⟩
theorem netL_mem : ∀ (rels : List RelT) (l l' : List Con), netL n k rels l = some l' → ∀ c, c ∈ l' ↔ c ∈ l ∨ ∃ r ∈ rels, ∃ i, i < r.2.length ^ k ∧ c = (cI (PL n k r i), r)
 | [], l, l', ha, c => by injection ha with ha; rw [← ha]; simp
 | r :: t, l, l', ha, c => by
  simp only [netL] at ha
  cases hx : addR n k r (List.range (r.2.length ^ k)) l with
  | none => rw [hx] at ha; simp at ha
  | some l1 =>
   rw [hx] at ha
   rw [netL_mem t l1 l' ha c, addR_mem _ _ _ hx c]
   constructor
   ·rintro ((h | ⟨j, h1, h2⟩) | ⟨r', h1, h2⟩)
    ·exact .inl h
    ·exact .inr ⟨r, List.mem_cons_self .., j, List.mem_range.1 h1, h2⟩
    ·exact .inr ⟨r', List.mem_cons_of_mem _ h1, h2⟩
   ·rintro (h | ⟨r', h1, j, h2, h3⟩)
    ·exact .inl (.inl h)
    ·rcases List.mem_cons.1 h1 with rfl | h1
     ·exact .inl (.inr ⟨j, List.mem_range.2 h2, h3⟩)
     ·exact .inr ⟨r', h1, j, h2, h3⟩
theorem netL_len : ∀ (rels : List RelT) (l l' : List Con), netL n k rels l = some l' → l.length ≤ 40 → l'.length ≤ 40
 | [], l, l', ha, hl => by injection ha with ha; rw [← ha]; exact hl
 | r :: t, l, l', ha, hl => by
  simp only [netL] at ha
  cases hx : addR n k r (List.range (r.2.length ^ k)) l with
  | none => rw [hx] at ha; simp at ha
  | some l1 =>
   rw [hx] at ha
   exact netL_len t l1 l' ha (addR_len _ _ _ hx hl)
theorem net_ok (hR : RelsOk n k rels) {l : List Con} (h : netL n k rels [] = some l) (pre : List Int) : okN l pre = okB n k rels pre := by
 have hm := netL_mem rels [] l h
 unfold okN okB metB
 rw [Bool.eq_iff_iff]
 simp only [List.all_eq_true, List.mem_range, Bool.or_eq_true, Bool.not_eq_true', decide_eq_false_iff_not, mem_conAt, conH, decide_eq_true_eq]
 have hmost : ∀ r i, mostC (cI (PL n k r i), r) = lastP (PL n k r i) := fun r i => by
  show (cI (PL n k r i)).foldl (fun m v => max m v.toNat) 0 = (PL n k r i).foldl max 0
  unfold cI
  rw [List.foldl_map]; rfl
 constructor
 ·intro hx r hr i hi
  by_cases e : lastP (PL n k r i) = pre.length - 1
  ·exact .inr (hx (cI (PL n k r i), r) ⟨(hm _).2 (.inr ⟨r, hr, i, hi, rfl⟩), by rw [hmost]; exact e⟩)
  ·exact .inl e
 ·rintro hx c ⟨hc, e⟩
  rcases (hm c).1 hc with h' | ⟨r, hr, i, hi, rfl⟩
  ·simp at h'
  ·rw [hmost] at e
   rcases hx r hr i hi with h' | h'
   ·exact absurd e h'
   ·exact h'
theorem ext_congr {V : Nat} {given : List Int} {ok ok' : List Int → Bool} (h : ∀ p, ok p = ok' p) : ∀ (m : Nat) (pre : List Int), extL V given ok m pre = extL V given ok' m pre
 | 0, pre => rfl
 | m + 1, pre => by
  simp only [extL]
  congr 1; funext x
  rw [h, ext_congr h m]
theorem sols_eq (hR : RelsOk n k rels) {l : List Con} (h : netL n k rels [] = some l) (given : List Int) : solsN (n ^ k) n l given = allT n k rels given := by
 unfold solsN allT
 exact ext_congr (net_ok hR h) _ _
theorem net_con (hR : RelsOk n k rels) {l : List Con} (h : netL n k rels [] = some l) : ∀ c ∈ l, ConOk ((n ^ k : Nat) : Int) (n : Int) c := fun c hc => by
 rcases (netL_mem rels [] l h c).1 hc with h' | ⟨r, hr, i, hi, rfl⟩
 ·simp at h'
 ·have ho := hR.ok r hr
  have hm := ho.hm
  have har := ho.ar
  have hpl := ho.pl_len (k := k) (i := i)
  have hb : 0 < r.2.length := by
   have := hR.hk
   rcases Nat.eq_zero_or_pos r.2.length with e | e
   ·rw [e, Nat.zero_pow (by omega)] at hi; omega
   ·exact e
  have hlt := ho.pl_lt (k := k) (i := i) hb
  refine ⟨by show 1 ≤ r.1 ∧ r.1 ≤ 3; omega, by show ((cI (PL n k r i)).length : Int) = r.1; rw [cI_len]; omega, fun j hj => ?_, fun t ht => by show t.length = (cI (PL n k r i)).length; rw [cI_len, hpl]; exact ho.tl t ht, fun t ht j hj => ho.tv t ht _ (List.getElem_mem hj), ho.inc, ho.many⟩
  have hj' : j < (PL n k r i).length := by rw [← cI_len (o := PL n k r i)]; exact hj
  have e : (cI (PL n k r i))[j]'hj = ((PL n k r i)[j] : Nat) := by simp [cI]
  have := hlt _ (List.getElem_mem hj')
  show 0 ≤ (cI (PL n k r i))[j]'hj ∧ (cI (PL n k r i))[j]'hj < _
  rw [e]
  omega
theorem net_srch (hR : RelsOk n k rels) (h9 : n ^ k ≤ 9) {l : List Con} (h : netL n k rels [] = some l) : SrchOk (n ^ k) n l :=
 ⟨h9, hR.hn, netL_len rels [] l h (by simp), net_con hR h⟩
end
end T
open Go Go.Va
namespace T
def ccCb (t : List Int) (s : Int) : Option (Int × Bool) := impl_CountSolutions_c1 t s
theorem eachCS_M (rec) : ∀ f x, impl_netSearch_each_c1_impl_CountSolutions_c1_L10 rec f x = hM f x
 | 0, _ => rfl
 | f + 1, (a, b, c, d, e, g, x, y, z, u, v) => by simp only [impl_netSearch_each_c1_impl_CountSolutions_c1_L10, hM, eachCS_M rec f]
theorem eachCS_L (rec) : ∀ f x, impl_netSearch_each_c1_impl_CountSolutions_c1_L4 rec f x = hL rec f x
 | 0, _ => rfl
 | f + 1, (a, b, c, d, e, g, x) => by simp only [impl_netSearch_each_c1_impl_CountSolutions_c1_L4, hL, eachCS_L rec f, eachCS_M]
theorem eachCS : ∀ d x, impl_netSearch_each_c1_impl_CountSolutions_c1 d x = hF ccCb d x
 | 0, _ => rfl
 | d + 1, (a, t, s, ps, g, u) => by
  have e : impl_netSearch_each_c1_impl_CountSolutions_c1 d = hF ccCb d := funext fun x => eachCS d x
  simp only [impl_netSearch_each_c1_impl_CountSolutions_c1, hF, hBody, impl_netSearch_each_c1_impl_CountSolutions_c1_body, eachCS_L, e]
  split
  ·unfold ccCb; cases impl_CountSolutions_c1 t s <;> rfl
  ·congr 1; funext z; cases z <;> rfl
def cpCb (t : List Int) (s : Int) : Option (Int × Bool) := impl_CountPolymorphisms_c1 t s
theorem eachCP_L (rec) : ∀ f x, impl_polySearch_each_c1_impl_CountPolymorphisms_c1_L4 rec f x = gL rec f x
 | 0, _ => rfl
 | f + 1, (a, b, c, d, e, g, x) => by simp only [impl_polySearch_each_c1_impl_CountPolymorphisms_c1_L4, gL, eachCP_L rec f]
theorem eachCP : ∀ d x, impl_polySearch_each_c1_impl_CountPolymorphisms_c1 d x = gF cpCb d x
 | 0, _ => rfl
 | d + 1, (a, t, s, ps, g, u) => by
  have e : impl_polySearch_each_c1_impl_CountPolymorphisms_c1 d = gF cpCb d := funext fun x => eachCP d x
  simp only [impl_polySearch_each_c1_impl_CountPolymorphisms_c1, gF, gBody, impl_polySearch_each_c1_impl_CountPolymorphisms_c1_body, eachCP_L, e]
  split
  ·unfold cpCb; cases impl_CountPolymorphisms_c1 t s <;> rfl
  ·congr 1; funext z; cases z <;> rfl
theorem fold_count {cb : List Int → Int → Option (Int × Bool)} (hc : ∀ t s, cb t s = some (w64 (s + 1), true)) : ∀ (l : List (List Int)) (s : Int), 0 ≤ s → s + l.length ≤ 4611686018427387904 → foldU cb l s = some (s + l.length, true)
 | [], s, _, _ => by simp [foldU]
 | t :: l, s, h0, hl => by
  simp only [foldU, hc]
  have hl' : s + ((l.length : Int) + 1) ≤ 4611686018427387904 := by simpa using hl
  have ew : w64 (s + 1) = s + 1 := by rw [w64_def]; omega
  rw [ew, fold_count hc l (s + 1) (by omega) (by omega)]
  simp only [List.length_cons]
  congr 2; push_cast; omega
section
variable {V n k : Nat} {cs : List Con} {rels : List RelT}
theorem sols_mem {given : List Int} {t : List Int} (h : t ∈ solsN V n cs given) : t.length = V := by
 have := (ext_mem (n := n) (given := given) (ok := okN cs) V [] t h).1
 simpa using this
theorem net_small (h : SrchOk V n cs) : netS ((V : Int), ((n : Int), cs)) := by
 have hc := h.hc
 refine ⟨by show cs.length ≤ 1048576; omega, fun c hcm => ?_⟩
 have h1 := h.con c hcm
 have h2 := h1.ar
 have h3 := h1.sl
 have h4 := h1.many
 exact ⟨by omega, by omega, fun r hr => by have := h1.tl r hr; omega⟩
theorem net_valid (h : SrchOk V n cs) : netB ((V : Int), ((n : Int), cs)) = true := by
 have hv := h.hv
 have hn := h.hn
 have hc := h.hc
 unfold netB
 simp only [Bool.and_eq_true, decide_eq_true_eq, List.all_eq_true]
 refine ⟨⟨⟨by omega, by omega⟩, hc⟩, fun c hcm => ?_⟩
 have h1 := h.con c hcm
 have h3 := h1.sl
 unfold conB relB belowB
 simp only [Bool.and_eq_true, decide_eq_true_eq, List.all_eq_true]
 refine ⟨⟨⟨⟨h1.ar, fun t ht => ⟨by have := h1.tl t ht; omega, fun x hx => ?_⟩⟩, h1.inc⟩, h3⟩, fun x hx => ?_⟩
 ·obtain ⟨j, hj, rfl⟩ := List.mem_iff_getElem.1 hx
  exact h1.tv t ht j hj
 ·obtain ⟨j, hj, rfl⟩ := List.mem_iff_getElem.1 hx
  exact h1.sv j hj
theorem CountSol_ok (h : SrchOk V n cs) (hz : (solsN V n cs (List.replicate V (-1))).length ≤ 4611686018427387904) : impl_CountSolutions ((V : Int), ((n : Int), cs)) = some (((solsN V n cs (List.replicate V (-1))).length : Int), true) := by
 have hV := h.hv
 have e0 := impl_IsNetwork_ok (net_small h)
 rw [net_valid h] at e0
 have e1 := newNet_ok h
 have hfold := fold_count (cb := ccCb) (fun t s => rfl) (solsN V n cs (List.replicate V (-1))) 0 (by omega) (by omega)
 rw [Int.zero_add] at hfold
 obtain ⟨tab', _, _, _, h4⟩ := hF_ok h (given := List.replicate V (-1)) (by simp) ccCb V fuel 0 (List.replicate V 0) 0 (by omega) (by unfold fuel; omega) (by simp) (fun x hx => by rw [List.eq_of_mem_replicate hx]; omega) _ _ (by simpa [solsN] using hfold)
 have h4 : impl_netSearch_each_c1_impl_CountSolutions_c1 fuel (0, List.replicate V 0, 0, nsOf V n cs, List.replicate V (-1), ()) = _ := (eachCS fuel _).trans h4
 unfold impl_CountSolutions impl_eachSolution_impl_CountSolutions_c1 impl_netSearch_each_impl_CountSolutions_c1
 have hr : List.replicate (Int.toNat ((List.replicate V (-1 : Int)).length : Int)) (0 : Int) = List.replicate V 0 := by simp
 simp only [e0, e1, freeI_ok (show V ≤ 1000 by omega), Option.bind_some, Bool.not_true, Bool.false_eq_true, if_false, hr, h4]
 rw [if_pos (by simp; unfold lim; omega)]; rfl
theorem CountPol_ok (h : RelsOk n k rels) (hz : (allT n k rels (List.replicate (n ^ k) (-1))).length ≤ 4611686018427387904) :
    impl_polySearch_each_impl_CountPolymorphisms_c1 (true, (n : Int), (k : Int), demD n k rels) (List.replicate (n ^ k) (-1)) 0 = some ((allT n k rels (List.replicate (n ^ k) (-1))).length : Int) := by
  have hp := pow_le3 (n := n) (k := k) h.hn.2 h.hk.2
  have hfold := fold_count (cb := cpCb) (fun t s => rfl) (allT n k rels (List.replicate (n ^ k) (-1))) 0 (by omega) (by omega)
  obtain ⟨r, h4, h5⟩ := each_ok h (by simp) cpCb hfold
  unfold impl_polySearch_each_impl_CountPolymorphisms_c1
  rw [if_pos (by rw [List.length_replicate]; unfold lim; omega), eachCP, h4]
  simp only [Option.bind_some, h5, Int.zero_add]
theorem CountPolymorphisms_ok {n k : Int} (h : relsS rels) : impl_CountPolymorphisms n rels k = some (if polyB n rels k then (((allT n.toNat k.toNat rels (List.replicate (n.toNat ^ k.toNat) (-1))).length : Int), true) else (0, false)) := by
 unfold impl_CountPolymorphisms
 rw [impl_canAsk_ok h]
 cases hb : polyB n rels k with
 | false =>
  cases hc : tmplB n rels && fewB k rels with
  | false => simp
  | true =>
   unfold polyB at hb
   rw [hc, Bool.true_and] at hb
   rw [Bool.and_eq_true] at hc
   simp only [Option.bind_some, Bool.not_true, Bool.false_eq_true, if_false, impl_range_ok (k := k) (tmpl_of hc.1).1, hb]
   rfl
 | true =>
  obtain ⟨hn, hk, h9, hR⟩ := polyB_of hb
  have hb' := hb
  unfold polyB at hb'
  simp only [Bool.and_eq_true] at hb'
  obtain ⟨⟨ht, hf⟩, hr⟩ := hb'
  obtain ⟨p1, p2⟩ := powI_ok hn hk
  have hz := small9 hR.hn h9
  have hl := allT_len (n := n.toNat) (k := k.toNat) (rels := rels) (given := List.replicate (n.toNat ^ k.toNat) (-1))
  have e1 := impl_newPolySearch_ok hR
  have e2 := CountPol_ok hR (by omega)
  rw [Int.toNat_of_nonneg (show 0 ≤ n by omega), Int.toNat_of_nonneg (show 0 ≤ k by omega)] at e1 e2
  have hr' : (decide (1 ≤ k ∧ k ≤ 3) && decide (n.toNat ^ k.toNat ≤ 9)) = true := by simpa using hr
  rw [ht, hf]
  simp only [Bool.and_self, Option.bind_some, Bool.not_true, Bool.false_eq_true, if_false, impl_range_ok (k := k) hn, hr', p1, e1, freeI_ok (show n.toNat ^ k.toNat ≤ 1000 by omega), e2, if_true]
end
end T
open Go Go.Va
namespace T
def asCb (t : List Int) (s : List (List Int)) : Option (List (List Int) × Bool) := impl_AllSolutions_c1 t s
theorem eachAS_M (rec) : ∀ f x, impl_netSearch_each_c1_impl_AllSolutions_c1_L10 rec f x = hM f x
 | 0, _ => rfl
 | f + 1, (a, b, c, d, e, g, x, y, z, u, v) => by simp only [impl_netSearch_each_c1_impl_AllSolutions_c1_L10, hM, eachAS_M rec f]
theorem eachAS_L (rec) : ∀ f x, impl_netSearch_each_c1_impl_AllSolutions_c1_L4 rec f x = hL rec f x
 | 0, _ => rfl
 | f + 1, (a, b, c, d, e, g, x) => by simp only [impl_netSearch_each_c1_impl_AllSolutions_c1_L4, hL, eachAS_L rec f, eachAS_M]
theorem eachAS : ∀ d x, impl_netSearch_each_c1_impl_AllSolutions_c1 d x = hF asCb d x
 | 0, _ => rfl
 | d + 1, (a, t, s, ps, g, u) => by
  have e : impl_netSearch_each_c1_impl_AllSolutions_c1 d = hF asCb d := funext fun x => eachAS d x
  simp only [impl_netSearch_each_c1_impl_AllSolutions_c1, hF, hBody, impl_netSearch_each_c1_impl_AllSolutions_c1_body, eachAS_L, e]
  split
  ·unfold asCb; cases impl_AllSolutions_c1 t s <;> rfl
  ·congr 1; funext z; cases z <;> rfl
theorem foldAS : ∀ (l f : List (List Int)), (∀ t ∈ l, t.length ≤ 1000) → f.length ≤ 300 → ∃ s b, foldU asCb l f = some (s, b) ∧ (f.length + l.length ≤ 300 → s = f ++ l) ∧ (300 < f.length + l.length → 300 < s.length)
 | [], f, _, hf => ⟨f, true, rfl, fun _ => by simp, fun h => by simp at h; omega⟩
 | t :: l, f, ht, hf => by
  have hcl : impl_clone t = some t := clone_ok (by have := ht t (by simp); omega)
  have hcb : asCb t f = some (f ++ [t], decide (((f ++ [t]).length : Int) ≤ 300)) := by
   unfold asCb impl_AllSolutions_c1
   simp only [hcl, Option.bind_some]
   rw [if_pos (by rw [List.length_singleton]; unfold lim; omega)]
  simp only [foldU, hcb]
  by_cases hc : f.length + 1 ≤ 300
  ·rw [decide_eq_true (by simp; omega)]
   obtain ⟨s, b, h1, h2, h3⟩ := foldAS l (f ++ [t]) (fun t ht' => ht t (List.mem_cons_of_mem _ ht')) (by simp; omega)
   refine ⟨s, b, h1, fun h => ?_, fun h => h3 (by simp at h ⊢; omega)⟩
   rw [h2 (by simp at h ⊢; omega)]; simp
  ·rw [decide_eq_false (by simp; omega)]
   refine ⟨_, _, rfl, fun h => ?_, fun h => ?_⟩
   ·simp at h; omega
   ·show 300 < (f ++ [t]).length
    simp; omega
section
variable {V n k : Nat} {cs : List Con} {rels : List RelT}
def allR (l : List (List Int)) : List (List Int) × Bool := if l.length ≤ 300 then (l, true) else ([], false)
theorem AllSol_ok (h : SrchOk V n cs) : impl_AllSolutions ((V : Int), ((n : Int), cs)) = some (allR (solsN V n cs (List.replicate V (-1)))) := by
 have hV := h.hv
 have e0 := impl_IsNetwork_ok (net_small h)
 rw [net_valid h] at e0
 have e1 := newNet_ok h
 obtain ⟨s, b, hfold, h2, h3⟩ := foldAS (solsN V n cs (List.replicate V (-1))) [] (fun t ht => by rw [sols_mem ht]; omega) (by simp)
 obtain ⟨tab', _, _, _, h4⟩ := hF_ok h (given := List.replicate V (-1)) (by simp) asCb V fuel 0 (List.replicate V 0) [] (by omega) (by unfold fuel; omega) (by simp) (fun x hx => by rw [List.eq_of_mem_replicate hx]; omega) _ _ (by simpa [solsN] using hfold)
 have h4 : impl_netSearch_each_c1_impl_AllSolutions_c1 fuel (0, List.replicate V 0, [], nsOf V n cs, List.replicate V (-1), ()) = _ := (eachAS fuel _).trans h4
 unfold impl_AllSolutions impl_eachSolution_impl_AllSolutions_c1 impl_netSearch_each_impl_AllSolutions_c1
 have hr : List.replicate (Int.toNat ((List.replicate V (-1 : Int)).length : Int)) (0 : Int) = List.replicate V 0 := by simp
 have hlim : 0 ≤ ((List.replicate V (-1 : Int)).length : Int) ∧ ((List.replicate V (-1 : Int)).length : Int) ≤ ((List.replicate V (-1 : Int)).length : Int) ∧ ((List.replicate V (-1 : Int)).length : Int) ≤ lim := by rw [List.length_replicate]; unfold lim; omega
 simp only [e0, e1, freeI_ok (show V ≤ 1000 by omega), Option.bind_some, Bool.not_true, Bool.false_eq_true, if_false, hr, h4]
 rw [if_pos hlim]
 simp only [Option.bind_some]
 unfold allR
 by_cases hc : (solsN V n cs (List.replicate V (-1))).length ≤ 300
 ·have := h2 (by simpa using hc)
  rw [this, if_pos hc, if_neg (by simp; omega)]; simp
 ·have := h3 (by simp; omega)
  rw [if_pos (by simp; omega), if_neg hc]
theorem PolymorphismsOf_val {n k : Int} (h : relsS rels) (hb : polyB n rels k = true) : impl_PolymorphismsOf n rels k = some (listR k.toNat (allT n.toNat k.toNat rels (List.replicate (n.toNat ^ k.toNat) (-1)))) := by
 unfold impl_PolymorphismsOf
 rw [impl_canAsk_ok h]
 obtain ⟨hn, hk, h9, hR⟩ := polyB_of hb
 have hb' := hb
 unfold polyB at hb'
 simp only [Bool.and_eq_true] at hb'
 obtain ⟨⟨ht, hf⟩, hr⟩ := hb'
 obtain ⟨p1, p2⟩ := powI_ok hn hk
 obtain ⟨q1, q2, q3⟩ := list_same hR (given := List.replicate (n.toNat ^ k.toNat) (-1)) (by simp) h9
 rw [Int.toNat_of_nonneg (by omega), Int.toNat_of_nonneg (by omega)] at q1 q2
 rw [ht, hf]
 simp only [Option.bind_some, Bool.and_self, Bool.not_true, Bool.false_eq_true, if_false, impl_range_ok (k := k) hn, hr.1, hr.2, p1, freeI_ok (show n.toNat ^ k.toNat ≤ 1000 by omega), q1]
theorem rInts_ok {a b : List Int} (h : a.length ≤ 1048576) : laws_rInts a b = some (decide (a = b)) := by
 unfold laws_rInts
 by_cases h2 : a.length = b.length
 ·rw [if_neg (by simp [h2])]
  have := forA a.length (fun n (_ : Unit) i => laws_rInts_L4 n (a, b, i)) (fun _ => ()) (fun k => decide (a.getD k 0 = b.getD k 0)) (r := some (.inr false)) (e := some (.inl ())) (fun f k hk => ?_) (fun f => ?_) (n := fuel) (by unfold fuel; omega)
  ·rw [all_eqD 0 h2] at this
   have this : laws_rInts_L4 fuel (a, b, 0) = _ := this
   rw [this]
   by_cases e : a = b
   ·subst e; simp
   ·simp [e]
  ·simp only [laws_rInts_L4, inb_nat, hk, gd_nat hk, h2 ▸ hk, gd_nat (h2 ▸ hk), if_true, getD_of hk, getD_of (h2 ▸ hk : k < b.length), w64_succ (show k < 4611686018427387904 by omega)]
   rw [if_pos (by simp; omega)]
   by_cases e : a[k] = b[k] <;> simp [e]
  ·simp only [laws_rInts_L4]
   rw [if_neg (by simp)]
 ·rw [if_pos (by simpa using fun h => h2 (by omega))]
  rw [decide_eq_false fun h => h2 (by rw [h])]
theorem rTable_ok {a b : List (List Int)} (h : a.length ≤ 1048576) (ht : ∀ t ∈ a, t.length ≤ 1048576) : laws_rTable a b = some (decide (a = b)) := by
 unfold laws_rTable
 by_cases h2 : a.length = b.length
 ·rw [if_neg (by simp [h2])]
  have := forA a.length (fun n (_ : Unit) i => laws_rTable_L4 n (a, b, i)) (fun _ => ()) (fun k => decide (a.getD k [] = b.getD k [])) (r := some (.inr false)) (e := some (.inl ())) (fun f k hk => ?_) (fun f => ?_) (n := fuel) (by unfold fuel; omega)
  ·rw [all_eqD [] h2] at this
   have this : laws_rTable_L4 fuel (a, b, 0) = _ := this
   rw [this]
   by_cases e : a = b
   ·subst e; simp
   ·simp [e]
  ·have e := rInts_ok (a := a[k]) (b := b[k]) (ht _ (List.getElem_mem hk))
   simp only [laws_rTable_L4, inb_nat, hk, gd_nat hk, h2 ▸ hk, gd_nat (h2 ▸ hk), e, Option.bind_some, if_true, getD_of hk, getD_of (h2 ▸ hk : k < b.length), w64_succ (show k < 4611686018427387904 by omega)]
   rw [if_pos (by simp; omega)]
   by_cases e : a[k] = b[k] <;> simp [e]
  ·simp only [laws_rTable_L4]
   rw [if_neg (by simp)]
 ·rw [if_pos (by simpa using fun h => h2 (by omega))]
  rw [decide_eq_false fun h => h2 (by rw [h])]
theorem pn_L9 {N : Net} (hl : N.2.2.length ≤ 1000) (hs : ∀ c ∈ N.2.2, c.1.length ≤ 1000 ∧ c.2.2.length ≤ 1000 ∧ ∀ u ∈ c.2.2, u.length ≤ 1000) (n k : Int) (b : Bool) :
    laws_FnPolymorphismNetwork_L9 fuel (n, rels, k, N, b, N, 0) = some (.inl (n, rels, k, N, b)) := by
  obtain ⟨V, s, l⟩ := N
  dsimp only at hl hs
  have := forS l.length (fun f (_ : Unit) i => laws_FnPolymorphismNetwork_L9 f (n, rels, k, (V, (s, l)), b, (V, (s, l)), i)) (fun _ => ()) (r := some (.inl (n, rels, k, (V, (s, l)), b))) (fun f i hi => ?_) (fun f => ?_) (n := fuel) (by unfold fuel; omega)
  · exact this
  · obtain ⟨h1, h2, h3⟩ := hs _ (List.getElem_mem hi)
    have e1 := rInts_ok (a := l[i].1) (b := l[i].1) (by omega)
    have e2 := rTable_ok (a := l[i].2.2) (b := l[i].2.2) (by omega) (fun t ht => by have := h3 t ht; omega)
    simp only [laws_FnPolymorphismNetwork_L9, inb_nat, hi, gd_nat hi, if_true, e1, e2, Option.bind_some, decide_true, Bool.not_true, Bool.false_eq_true, if_false, w64_succ (show i < 4611686018427387904 by omega)]
    rw [if_pos (by simp; omega)]
  · simp only [laws_FnPolymorphismNetwork_L9]
    rw [if_neg (by simp)]
theorem pn_L24 {l : List (List Int)} {k : Int} (hl : l.length ≤ 1000) (ht : ∀ t ∈ l, t.length ≤ 1000) : laws_FnPolymorphismNetwork_L24 fuel (l, l.map fun t => (k, t), 0) = some (.inl ()) := by
 have := forS l.length (fun f (_ : Unit) i => laws_FnPolymorphismNetwork_L24 f (l, l.map fun t => (k, t), i)) (fun _ => ()) (r := some (.inl ())) (fun f i hi => ?_) (fun f => ?_) (n := fuel) (by unfold fuel; omega)
 ·exact this
 ·have e1 := rInts_ok (a := l[i]) (b := l[i]) (by have := ht _ (List.getElem_mem hi); omega)
  have hm : i < (l.map fun t => (k, t)).length := by simpa using hi
  have hg : gd (l.map fun t => (k, t)) (i : Int) (0, []) = (k, l[i]) := by rw [gd_nat hm]; simp
  simp only [laws_FnPolymorphismNetwork_L24, inb_nat, hi, gd_nat hi, hm, hg, if_true, e1, Option.bind_some, decide_true, Bool.not_true, Bool.false_eq_true, if_false, w64_succ (show i < 4611686018427387904 by omega)]
  rw [if_pos (by simp; omega)]
 ·simp only [laws_FnPolymorphismNetwork_L24]
  rw [if_neg (by simp)]
theorem netL_ok : ∀ (rels : List RelT) (l l' : List Con), (∀ r ∈ rels, ROk n r.1.toNat r) → netL n k rels l = some l' → conOkL n k l → conOkL n k l'
 | [], l, l', _, ha, hl => by injection ha with ha; rw [← ha]; exact hl
 | r :: t, l, l', h, ha, hl => by
  simp only [netL] at ha
  cases hx : addR n k r (List.range (r.2.length ^ k)) l with
  | none => rw [hx] at ha; simp at ha
  | some l1 =>
   rw [hx] at ha
   exact netL_ok t l1 l' (fun r hr => h r (List.mem_cons_of_mem _ hr)) ha (addR_ok (h r (List.mem_cons_self ..)) _ _ _ hx hl)
theorem relsB_S (h : relsB rels) : relsS rels := ⟨by have := h.1; omega, fun r hr => by
 have := h.2 r hr
 exact ⟨by have := this.1; omega, fun t ht => by have := (this.2 t ht); omega⟩⟩
theorem FnPolymorphismNetwork_law {code : List Int} (h : wfT (.slice (.num .u8)) code) : laws_FnPolymorphismNetwork code = some true := by
 unfold laws_FnPolymorphismNetwork laws_rBig
 simp only [Option.bind_some]
 by_cases hb : (code.length : Int) > 65536
 ·rw [if_pos (decide_eq_true hb)]
 ·rw [if_neg (by simpa using hb)]
  have h1 : code.length ≤ 65536 := by omega
  have h2 : ∀ x ∈ code, 0 ≤ x ∧ x < 256 := fun x hx => by
   have : IntKind.u8.min ≤ x ∧ x ≤ IntKind.u8.max := h.2 x hx
   have e1 : IntKind.u8.min = 0 := by decide
   have e2 : IntKind.u8.max = 255 := by decide
   omega
  obtain ⟨n, rels, k, ed, a1, a2, a3, a4, a5⟩ := DrawPolymorphismsOf_ok h1 h2
  have hs := relsB_S a3
  have ed : spec_DrawNetworkOfPolymorphisms code = some (n, rels, k) := by
   unfold spec_DrawNetworkOfPolymorphisms
   rw [ed]; rfl
  simp only [ed, Option.bind_some, impl_NetworkOfP_ok hs, spec_NetworkOfP_ok hs]
  simp only [bne_self_eq_false, Bool.false_eq_true, if_false]
  cases hp : polyB n rels k with
  | false =>
   have e : netR n rels k = (netZ, false) := by unfold netR; rw [hp]; rfl
   rw [e]
   have e9 := pn_L9 (rels := rels) (N := netZ) (by simp [netZ]) (fun c hc => by simp [netZ] at hc) n k false
   have e9 : laws_FnPolymorphismNetwork_L9 fuel (n, rels, k, (netZ.1, (netZ.2.1, netZ.2.2)), false, (netZ.1, (netZ.2.1, netZ.2.2)), 0) = _ := e9
   simp only [e9, Option.bind_some, Bool.not_false, if_true]
  | true =>
   obtain ⟨hn, hk, h9, hR⟩ := polyB_of hp
   cases hl : netL n.toNat k.toNat rels [] with
   | none =>
    have e : netR n rels k = (netZ, false) := by unfold netR; rw [hp, hl]; rfl
    rw [e]
    have e9 := pn_L9 (rels := rels) (N := netZ) (by simp [netZ]) (fun c hc => by simp [netZ] at hc) n k false
    have e9 : laws_FnPolymorphismNetwork_L9 fuel (n, rels, k, (netZ.1, (netZ.2.1, netZ.2.2)), false, (netZ.1, (netZ.2.1, netZ.2.2)), 0) = _ := e9
    simp only [e9, Option.bind_some, Bool.not_false, if_true]
   | some l =>
    have e : netR n rels k = ((((n.toNat ^ k.toNat : Nat) : Int), (n, l)), true) := by unfold netR; rw [hp, hl]; rfl
    rw [e]
    have hS := net_srch hR h9 hl
    have hsm := (netL_ok rels [] l hR.ok hl (fun c hc => by simp at hc)).small
    have h40 := hS.hc
    have e9 := pn_L9 (rels := rels) (N := ((((n.toNat ^ k.toNat : Nat) : Int), (n, l)))) (by show l.length ≤ 1000; omega) hsm n k true
    have hz := small9 hR.hn h9
    have hal := allT_len (n := n.toNat) (k := k.toNat) (rels := rels) (given := List.replicate (n.toNat ^ k.toNat) (-1))
    have hse := sols_eq hR hl (List.replicate (n.toNat ^ k.toNat) (-1))
    have e1 := CountSol_ok hS (by rw [hse]; omega)
    have e2 := CountPolymorphisms_ok (n := n) (k := k) hs
    rw [hp, if_pos rfl] at e2
    have e3 := AllSol_ok hS
    have e4 := PolymorphismsOf_val hs hp
    rw [hse, Int.toNat_of_nonneg (show 0 ≤ n by omega)] at e1 e3
    have hlen : ∀ t ∈ allT n.toNat k.toNat rels (List.replicate (n.toNat ^ k.toNat) (-1)), t.length ≤ 1000 := fun t ht => by rw [(allT_mem ht).1]; omega
    simp only [e9, e1, e2, e3, e4, Option.bind_some, Bool.not_true, Bool.false_eq_true, if_false, bne_self_eq_false]
    unfold allR listR
    by_cases hc : (allT n.toNat k.toNat rels (List.replicate (n.toNat ^ k.toNat) (-1))).length ≤ 300
    ·have e24 := pn_L24 (l := allT n.toNat k.toNat rels (List.replicate (n.toNat ^ k.toNat) (-1))) (k := ((k.toNat : Nat) : Int)) (by omega) hlen
     rw [if_pos hc, if_pos hc]
     simp only [bne_self_eq_false, Bool.false_eq_true, if_false, List.length_map, e24, Option.bind_some]
    ·have e24 := pn_L24 (l := []) (k := ((k.toNat : Nat) : Int)) (by simp) (fun t ht => by simp at ht)
     have e24 : laws_FnPolymorphismNetwork_L24 fuel ([], [], 0) = _ := e24
     rw [if_neg hc, if_neg hc]
     simp only [bne_self_eq_false, Bool.false_eq_true, if_false, e24, Option.bind_some]
     simp
end
end T
