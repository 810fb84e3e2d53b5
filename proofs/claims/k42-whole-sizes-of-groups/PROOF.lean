import PyProof.Rows.All
import Wide.All
import OpenK.AllK
import Wide.FinOn
import KE.GoesMore
import KE.KDictDisplayH
import HandS.ForMost
import HandS.Sort
import HandS.SortOrd
import HandS.SortInts
import HandS.TupSets
import HandS.Conv
import HandS.Deep
import HandS.Walk
import HandS.Replace
import HandS.Style
import HandS.StrMore
import HandS.Wide
import HandS.EndBits
import PySem.Challenge.RW_leafturner_k42_whole_sizes_of_groups
set_option linter.all false
set_option Elab.async false
/-! The mathematics: rearrangements as lists of numbers, groups of them, orbits, sizes. Core Lean alone. -/
namespace LT

/-! ### lists -/
theorem nodup_map {α β : Type} {f : α → β} {l : List α} (h : l.Nodup) (hf : ∀ a ∈ l, ∀ b ∈ l, f a = f b → a = b) : (l.map f).Nodup := by
  show List.Pairwise _ _
  rw [List.pairwise_map]
  refine List.Pairwise.imp_of_mem ?_ h
  intro a b ha hb hne e
  exact hne (hf a ha b hb e)
theorem nodup_filter {α : Type} {p : α → Bool} {l : List α} (h : l.Nodup) : (l.filter p).Nodup := List.Pairwise.filter p h
theorem surj_of {α β : Type} {L : List α} {f : α → α} (h : L.Nodup) (hm : ∀ a ∈ L, f a ∈ L) (hf : ∀ a ∈ L, ∀ b ∈ L, f a = f b → a = b) : ∀ y ∈ L, ∃ x ∈ L, f x = y := by
  intro y hy
  refine Classical.byContradiction fun hn => ?_
  have h1 : (y :: L.map f).Nodup := by
    rw [List.nodup_cons]
    refine ⟨fun hm' => ?_, nodup_map h hf⟩
    obtain ⟨x, hx, e⟩ := List.mem_map.mp hm'
    exact hn ⟨x, hx, e⟩
  have h2 : (y :: L.map f) ⊆ L := by
    intro z hz
    rcases List.mem_cons.mp hz with rfl | hz
    · exact hy
    · obtain ⟨x, hx, rfl⟩ := List.mem_map.mp hz
      exact hm x hx
  have h3 := List.Nodup.length_le_of_subset h1 h2
  simp at h3
  omega
theorem len_eq_of {α : Type} {l m : List α} (hl : l.Nodup) (hm : m.Nodup) (h : ∀ a, a ∈ l ↔ a ∈ m) : l.length = m.length :=
  ((List.perm_ext_iff_of_nodup hl hm).mpr h).length_eq
/-- all fibres of f over P have c members -/
theorem fibre {α β : Type} [DecidableEq β] (f : α → β) (c : Nat) : ∀ (P : List β) (L : List α), P.Nodup → (∀ a ∈ L, f a ∈ P) → (∀ b ∈ P, L.countP (fun a => decide (f a = b)) = c) → L.length = P.length * c
  | [], L, _, h, _ => by
    cases L with
    | nil => simp
    | cons a r => exact absurd (h a List.mem_cons_self) (by simp)
  | b :: P, L, hP, h, hc => by
    obtain ⟨hb, hP'⟩ := List.nodup_cons.mp hP
    have e := List.length_eq_countP_add_countP (fun a => decide (f a = b)) (l := L)
    rw [hc b List.mem_cons_self] at e
    have ih := fibre f c P (L.filter fun a => decide ¬ decide (f a = b) = true) hP' (fun a ha => by
      obtain ⟨h1, h2⟩ := List.mem_filter.mp ha
      rcases List.mem_cons.mp (h a h1) with e | e
      · simp [e] at h2
      · exact e) (fun b' hb' => by
      have hne : b' ≠ b := fun e => hb (e ▸ hb')
      rw [← hc b' (List.mem_cons_of_mem _ hb'), List.countP_filter]
      refine List.countP_congr fun a _ => ?_
      simp only [Bool.and_eq_true, decide_eq_true_eq]
      constructor
      · exact fun h => h.1
      · exact fun h => ⟨h, fun e => hne (h.symm.trans e)⟩)
    rw [List.countP_eq_length_filter (p := fun a => decide ¬ decide (f a = b) = true), ih] at e
    rw [e, List.length_cons, Nat.add_mul, Nat.one_mul, Nat.add_comm]
/-- classes of c members each -/
theorem classes {α : Type} (r : α → α → Bool) (c : Nat) (hc0 : 0 < c) : ∀ (n : Nat) (L : List α), L.length = n → (∀ a ∈ L, r a a = true) → (∀ a ∈ L, ∀ b ∈ L, r a b = true → r b a = true) →
    (∀ a ∈ L, ∀ b ∈ L, ∀ d ∈ L, r a b = true → r b d = true → r a d = true) → (∀ b ∈ L, L.countP (fun a => r a b) = c) → c ∣ L.length := by
  intro n
  induction n using Nat.strongRecOn with
  | _ n ih =>
    intro L hL hr hs ht hc
    cases L with
    | nil => exact Nat.dvd_zero c
    | cons b R =>
      generalize hLe : (b :: R) = L at *
      have hbL : b ∈ L := by rw [← hLe]; exact List.mem_cons_self
      have e := List.length_eq_countP_add_countP (fun a => r a b) (l := L)
      rw [hc b hbL] at e
      have sub : ∀ a, a ∈ (L.filter fun a => decide ¬ r a b = true) → a ∈ L := fun a ha => (List.mem_filter.mp ha).1
      rw [List.countP_eq_length_filter (p := fun a => decide ¬ r a b = true)] at e
      have hd := ih _ (by omega) (L.filter fun a => decide ¬ r a b = true) rfl (fun a ha => hr a (sub a ha)) (fun a ha d hd => hs a (sub a ha) d (sub d hd))
        (fun a ha d hd f hf => ht a (sub a ha) d (sub d hd) f (sub f hf)) (fun a ha => by
          rw [← hc a (sub a ha), List.countP_filter]
          have hna : ¬ r a b = true := by simpa using (List.mem_filter.mp ha).2
          refine List.countP_congr fun x hx => ?_
          simp only [Bool.and_eq_true, decide_eq_true_eq]
          constructor
          · exact fun h => h.1
          · exact fun h => ⟨h, fun q => hna (ht a (sub a ha) x hx b hbL (hs x hx a (sub a ha) h) q)⟩)
      rw [e]
      exact Nat.dvd_add (Nat.dvd_refl c) hd

/-! ### rearrangements of 0 .. N - 1 as lists -/
abbrev P := List Nat
/-- first p, then s -/
def comp (s p : P) : P := p.map fun i => s.getD i 0
structure IsP (N : Nat) (p : P) : Prop where
  len : p.length = N
  lt : ∀ i, i < N → p.getD i 0 < N
  inj : ∀ i j, i < N → j < N → p.getD i 0 = p.getD j 0 → i = j
theorem getD_eq {p : P} {i : Nat} (h : i < p.length) : p.getD i 0 = p[i] := by
  rw [List.getD_eq_getElem?_getD, List.getElem?_eq_getElem h, Option.getD_some]
theorem ext_getD {p q : P} (h : p.length = q.length) (he : ∀ i, i < p.length → p.getD i 0 = q.getD i 0) : p = q := by
  refine List.ext_getElem h fun i h1 h2 => ?_
  rw [← getD_eq h1, ← getD_eq h2]
  exact he i h1
theorem mem_getD {p : P} {x : Nat} (h : x ∈ p) : ∃ i, i < p.length ∧ p.getD i 0 = x := by
  obtain ⟨i, hi, e⟩ := List.mem_iff_getElem.mp h
  exact ⟨i, hi, by rw [getD_eq hi, e]⟩
theorem getD_mem {p : P} {i : Nat} (h : i < p.length) : p.getD i 0 ∈ p := by
  rw [getD_eq h]
  exact List.getElem_mem h
theorem range_getD {N i : Nat} (h : i < N) : (List.range N).getD i 0 = i := by
  rw [getD_eq (by simpa using h), List.getElem_range]
theorem comp_len (s p : P) : (comp s p).length = p.length := by unfold comp; rw [List.length_map]
theorem comp_get {s p : P} {i : Nat} (h : i < p.length) : (comp s p).getD i 0 = s.getD (p.getD i 0) 0 := by
  rw [getD_eq (by rw [comp_len]; exact h), getD_eq h]
  unfold comp
  rw [List.getElem_map]
theorem isP_range (N : Nat) : IsP N (List.range N) :=
  ⟨List.length_range, fun i h => by rw [range_getD h]; exact h, fun i j hi hj e => by rw [range_getD hi, range_getD hj] at e; exact e⟩
section
variable {N : Nat} {p q s t : P}
theorem IsP.comp (hs : IsP N s) (hp : IsP N p) : IsP N (comp s p) := by
  have g : ∀ i, i < N → (LT.comp s p).getD i 0 = s.getD (p.getD i 0) 0 := fun i h => comp_get (by rw [hp.len]; exact h)
  refine ⟨by rw [comp_len, hp.len], fun i h => ?_, fun i j hi hj e => ?_⟩
  · rw [g i h]
    exact hs.lt _ (hp.lt i h)
  · rw [g i hi, g j hj] at e
    exact hp.inj i j hi hj (hs.inj _ _ (hp.lt i hi) (hp.lt j hj) e)
theorem comp_assoc (hs : IsP N s) (hp : IsP N p) (t : P) : comp t (comp s p) = comp (comp t s) p := by
  refine ext_getD (by rw [comp_len, comp_len, comp_len]) fun i h => ?_
  rw [comp_len, comp_len] at h
  have hi : i < N := by rw [← hp.len]; exact h
  rw [comp_get (by rw [comp_len]; exact h), comp_get h, comp_get h, comp_get (by rw [hs.len]; exact hp.lt i hi)]
theorem comp_range (hs : s.length = N) : comp s (List.range N) = s := by
  refine ext_getD (by rw [comp_len, List.length_range, hs]) fun i h => ?_
  rw [comp_len, List.length_range] at h
  rw [comp_get (by rw [List.length_range]; exact h), range_getD h]
theorem range_comp (hp : IsP N p) : comp (List.range N) p = p := by
  refine ext_getD (comp_len _ _) fun i h => ?_
  rw [comp_len] at h
  have hi : i < N := by rw [← hp.len]; exact h
  rw [comp_get h, range_getD (hp.lt i hi)]
theorem comp_cancel (hs : IsP N s) (hp : IsP N p) (hq : IsP N q) (e : comp s p = comp s q) : p = q := by
  refine ext_getD (by rw [hp.len, hq.len]) fun i h => ?_
  have hi : i < N := by rw [← hp.len]; exact h
  have e1 : (comp s p).getD i 0 = (comp s q).getD i 0 := by rw [e]
  rw [comp_get h, comp_get (by rw [hq.len]; exact hi)] at e1
  exact hs.inj _ _ (hp.lt i hi) (hq.lt i hi) e1

/-! ### the group of some rearrangements -/
inductive Gen (S : List P) (N : Nat) : P → Prop
  | rest : Gen S N (List.range N)
  | step {p s : P} : Gen S N p → s ∈ S → Gen S N (comp s p)
variable {S : List P}
theorem Gen.isP (hS : ∀ s ∈ S, IsP N s) (h : Gen S N p) : IsP N p := by
  induction h with
  | rest => exact isP_range N
  | step _ hs ih => exact (hS _ hs).comp ih
theorem Gen.mul (hS : ∀ s ∈ S, IsP N s) (hp : Gen S N p) (hq : Gen S N q) : Gen S N (comp q p) := by
  induction hq with
  | rest => rw [range_comp (hp.isP hS)]; exact hp
  | step hq hs ih =>
    rw [← comp_assoc (hq.isP hS) (hp.isP hS)]
    exact .step ih hs
theorem Gen.of_mem (hS : ∀ s ∈ S, IsP N s) (h : s ∈ S) : Gen S N s := by
  have e := Gen.step (S := S) (N := N) .rest h
  rw [comp_range (hS s h).len] at e
  exact e
/-- L lists the group -/
structure Lists (S : List P) (N : Nat) (L : List P) : Prop where
  sok : ∀ s ∈ S, IsP N s
  nd : L.Nodup
  mem : ∀ p, p ∈ L ↔ Gen S N p
variable {L : List P}
theorem Lists.isP (h : Lists S N L) (hp : p ∈ L) : IsP N p := ((h.mem p).mp hp).isP h.sok
theorem Lists.mul (h : Lists S N L) (hp : p ∈ L) (hq : q ∈ L) : comp q p ∈ L := (h.mem _).mpr (((h.mem p).mp hp).mul h.sok ((h.mem q).mp hq))
theorem Lists.one (h : Lists S N L) : List.range N ∈ L := (h.mem _).mpr .rest
theorem Lists.pos (h : Lists S N L) : 0 < L.length := List.length_pos_of_mem h.one
theorem Lists.inv (h : Lists S N L) (hs : s ∈ L) : ∃ t ∈ L, comp s t = List.range N ∧ comp t s = List.range N := by
  obtain ⟨t, ht, e⟩ := surj_of (β := Nat) h.nd (f := fun t => comp s t) (fun a ha => h.mul ha hs) (fun a ha b hb e => comp_cancel (h.isP hs) (h.isP ha) (h.isP hb) e) _ h.one
  refine ⟨t, ht, e, ?_⟩
  have is := h.isP hs
  have it := h.isP ht
  refine comp_cancel is (it.comp is) (isP_range N) ?_
  rw [comp_assoc it is, e, range_comp is, comp_range is.len]
/-- the one inverse -/
theorem Lists.inv_mem (h : Lists S N L) (hs : s ∈ L) (ht : IsP N t) (e : comp t s = List.range N) : t ∈ L := by
  obtain ⟨u, hu, e1, e2⟩ := h.inv hs
  have is := h.isP hs
  have iu := h.isP hu
  have : t = u := by
    have e3 : comp (comp t s) u = comp t (comp s u) := (comp_assoc is iu t).symm
    rw [e, e1, range_comp iu, comp_range ht.len] at e3
    exact e3.symm
  rw [this]
  exact hu

/-! ### the three sizes -/
theorem count_le {α : Type} {L : List α} {a b : α → Bool} {g : α → α} (h : L.Nodup) (hg : ∀ x ∈ L, a x = true → g x ∈ L ∧ b (g x) = true) (hi : ∀ x ∈ L, ∀ y ∈ L, g x = g y → x = y) : L.countP a ≤ L.countP b := by
  rw [List.countP_eq_length_filter, List.countP_eq_length_filter, ← List.length_map (f := g) (as := L.filter a)]
  refine List.Nodup.length_le_of_subset (nodup_map (nodup_filter h) fun x hx y hy e => hi x (List.mem_filter.mp hx).1 y (List.mem_filter.mp hy).1 e) ?_
  intro z hz
  obtain ⟨x, hx, rfl⟩ := List.mem_map.mp hz
  obtain ⟨h1, h2⟩ := List.mem_filter.mp hx
  exact List.mem_filter.mpr (hg x h1 h2)
/-- the orbit of x, and its keepers -/
theorem Lists.orbit (h : Lists S N L) {x : Nat} (hx : x < N) {O : List Nat} (hO : O.Nodup) (hm : ∀ y, y ∈ O ↔ ∃ g ∈ L, g.getD x 0 = y) : L.length = O.length * L.countP (fun g => decide (g.getD x 0 = x)) := by
  refine fibre (fun g : P => g.getD x 0) _ O L hO (fun a ha => (hm _).mpr ⟨a, ha, rfl⟩) fun b hb => ?_
  obtain ⟨g, hg, e⟩ := (hm b).mp hb
  obtain ⟨t, ht, e1, e2⟩ := h.inv hg
  have ig := h.isP hg
  have it := h.isP ht
  have tb : t.getD b 0 = x := by
    have e3 : (comp t g).getD x 0 = x := by rw [e2, range_getD hx]
    rw [comp_get (by rw [ig.len]; exact hx), e] at e3
    exact e3
  refine Nat.le_antisymm ?_ ?_
  · refine count_le (g := fun u => comp t u) h.nd (fun u hu eu => ⟨h.mul hu ht, ?_⟩) fun u hu v hv e => comp_cancel it (h.isP hu) (h.isP hv) e
    have eu' : u.getD x 0 = b := of_decide_eq_true eu
    refine decide_eq_true ?_
    rw [comp_get (by rw [(h.isP hu).len]; exact hx), eu', tb]
  · refine count_le (g := fun u => comp g u) h.nd (fun u hu eu => ⟨h.mul hu hg, ?_⟩) fun u hu v hv e => comp_cancel ig (h.isP hu) (h.isP hv) e
    have eu' : u.getD x 0 = x := of_decide_eq_true eu
    refine decide_eq_true ?_
    rw [comp_get (by rw [(h.isP hu).len]; exact hx), eu', e]
/-- a group that is led onto another one -/
theorem Lists.onto {M : Nat} {S' L' : List P} (h : Lists S N L) (h' : Lists S' M L') {f : P → P} (hf : ∀ p ∈ L, f p ∈ L') (hon : ∀ q ∈ L', ∃ p ∈ L, f p = q) (hm : ∀ p ∈ L, ∀ q ∈ L, f (comp q p) = comp (f q) (f p)) : L'.length ∣ L.length := by
  refine ⟨L.countP (fun g => decide (f g = List.range M)), ?_⟩
  refine fibre f _ L' L h'.nd hf fun b hb => ?_
  obtain ⟨g, hg, e⟩ := hon b hb
  obtain ⟨t, ht, e1, e2⟩ := h.inv hg
  have ig := h.isP hg
  have it := h.isP ht
  have one : f (List.range N) = List.range M := by
    have e3 := hm _ h.one _ h.one
    rw [range_comp (isP_range N)] at e3
    have i1 := h'.isP (hf _ h.one)
    refine (comp_cancel i1 (isP_range M) i1 ?_).symm
    rw [← e3, comp_range i1.len]
  have tb : comp (f t) b = List.range M := by rw [← e, ← hm g hg t ht, e2, one]
  refine Nat.le_antisymm ?_ ?_
  · refine count_le (g := fun u => comp t u) h.nd (fun u hu eu => ⟨h.mul hu ht, ?_⟩) fun u hu v hv e => comp_cancel it (h.isP hu) (h.isP hv) e
    have eu' : f u = b := of_decide_eq_true eu
    refine decide_eq_true ?_
    rw [hm u hu t ht, eu', tb]
  · refine count_le (g := fun u => comp g u) h.nd (fun u hu eu => ⟨h.mul hu hg, ?_⟩) fun u hu v hv e => comp_cancel ig (h.isP hu) (h.isP hv) e
    have eu' : f u = List.range M := of_decide_eq_true eu
    refine decide_eq_true ?_
    rw [hm u hu g hg, eu', e, comp_range (by rw [(h'.isP hb).len])]
/-- the group's size divides that of a larger closed list -/
theorem Lists.lagrange (h : Lists S N L) {W : List P} (hW : W.Nodup) (hp : ∀ p ∈ W, IsP N p) (hc : ∀ p ∈ W, ∀ q ∈ L, comp q p ∈ W) : L.length ∣ W.length := by
  let r : P → P → Bool := fun a b => L.any fun g => decide (comp g b = a)
  have rd : ∀ a b, r a b = true ↔ ∃ g ∈ L, comp g b = a := fun a b => by
    show (L.any fun g => decide (comp g b = a)) = true ↔ _
    rw [List.any_eq_true]
    exact ⟨fun ⟨g, h1, h2⟩ => ⟨g, h1, of_decide_eq_true h2⟩, fun ⟨g, h1, h2⟩ => ⟨g, h1, decide_eq_true h2⟩⟩
  refine classes r L.length h.pos _ W rfl (fun a ha => ?_) (fun a ha b hb e => ?_) (fun a ha b hb d hd e1 e2 => ?_) fun b hb => ?_
  · exact (rd a a).mpr ⟨_, h.one, range_comp (hp a ha)⟩
  · obtain ⟨g, hg, e⟩ := (rd a b).mp e
    obtain ⟨t, ht, e1, e2⟩ := h.inv hg
    refine (rd b a).mpr ⟨t, ht, ?_⟩
    rw [← e, comp_assoc (h.isP hg) (hp b hb), e2, range_comp (hp b hb)]
  · obtain ⟨g, hg, e1⟩ := (rd a b).mp e1
    obtain ⟨u, hu, e2⟩ := (rd b d).mp e2
    refine (rd a d).mpr ⟨comp g u, h.mul hu hg, ?_⟩
    rw [← comp_assoc (h.isP hu) (hp d hd), e2, e1]
  · rw [List.countP_eq_length_filter, ← List.length_map (f := fun g => comp g b) (as := L)]
    refine len_eq_of (nodup_filter hW) (nodup_map h.nd fun g hg u hu e => ?_) fun a => ?_
    · -- comp g b = comp u b → g = u : b is onto
      have ib := hp b hb
      have ig := h.isP hg
      have iu := h.isP hu
      refine ext_getD (by rw [ig.len, iu.len]) fun i hi => ?_
      have hi' : i < N := by rw [← ig.len]; exact hi
      obtain ⟨j, hj, ej⟩ := surj_of (β := Nat) (L := List.range N) List.nodup_range (f := fun j => b.getD j 0) (fun a ha => List.mem_range.mpr (ib.lt a (List.mem_range.mp ha)))
        (fun a ha d hd e => ib.inj a d (List.mem_range.mp ha) (List.mem_range.mp hd) e) i (List.mem_range.mpr hi')
      have hj' : j < b.length := by rw [ib.len]; exact List.mem_range.mp hj
      have e1 : (comp g b).getD j 0 = (comp u b).getD j 0 := congrArg (fun l : P => l.getD j 0) e
      rw [comp_get hj', comp_get hj', ej] at e1
      exact e1
    · rw [List.mem_filter, List.mem_map]
      constructor
      · exact fun ⟨_, h2⟩ => (rd a b).mp h2
      · rintro ⟨g, hg, e⟩
        exact ⟨by rw [← e]; exact hc b hb g hg, (rd a b).mpr ⟨g, hg, e⟩⟩
end
end LT
set_option linter.all false
set_option Elab.async false
/-! Machines, words, sections, level permutations: the functions that the program computes. Core Lean alone. -/
namespace LT
structure RowOk (k n : Nat) (row : List (Nat × Nat)) : Prop where
  len : row.length = k
  out : ∀ e ∈ row, e.1 < k
  nxt : ∀ e ∈ row, e.2 < n
  nd : (row.map (·.1)).Nodup
abbrev Rows := List (List (Nat × Nat))
/-- the machines that the law makes -/
structure Mach (k : Nat) (rows : Rows) : Prop where
  k2 : 2 ≤ k
  k3 : k ≤ 3
  r1 : 1 ≤ rows.length
  r4 : rows.length ≤ 4
  row : ∀ row ∈ rows, RowOk k rows.length row
/-- a letter: its state, and whether it is large -/
abbrev Ltr := Nat × Bool
def inv (l : Ltr) : Ltr := (l.1, !l.2)
def WordOk (n : Nat) (w : List Ltr) : Prop := ∀ l ∈ w, l.1 < n
def ent (rows : Rows) (s x : Nat) : Nat × Nat := (rows.getD s []).getD x (0, 0)
def back (rows : Rows) (s x : Nat) : Nat := ((rows.getD s []).map (·.1)).idxOf x
/-- what a letter makes of a digit, and the next letter -/
def stepL (rows : Rows) (l : Ltr) (x : Nat) : Nat × Ltr :=
  if l.2 then (back rows l.1 x, ((ent rows l.1 (back rows l.1 x)).2, true)) else ((ent rows l.1 x).1, ((ent rows l.1 x).2, false))
def stepW (rows : Rows) : List Ltr → Nat → Nat × List Ltr
  | [], x => (x, [])
  | l :: w, x => ((stepW rows w (stepL rows l x).1).1, (stepL rows l x).2 :: (stepW rows w (stepL rows l x).1).2)
def cutF (kept : List Ltr) (l : Ltr) : List Ltr := if kept.getLast? = some (inv l) then kept.dropLast else kept ++ [l]
def cutW (w : List Ltr) : List Ltr := w.foldl cutF []
def undW (w : List Ltr) : List Ltr := w.reverse.map inv
def digs (rows : Rows) (k : Nat) (w : List Ltr) : List Nat := (List.range k).map fun x => (stepW rows w x).1
def secs (rows : Rows) (k : Nat) (w : List Ltr) : List (List Ltr) := (List.range k).map fun x => cutW (stepW rows w x).2
def ext (k : Nat) : List Nat → List (List Nat) → List Nat
  | m :: q, c :: cs => c.map (fun d => k * m + d) ++ ext k q cs
  | _, _ => []
/-- the level permutation, and the cut sections -/
def spr (rows : Rows) (k : Nat) (w : List Ltr) : Nat → List Nat × List (List Ltr)
  | 0 => ([0], [cutW w])
  | n + 1 => (ext k (spr rows k w n).1 ((spr rows k w n).2.map (digs rows k)), (spr rows k w n).2.flatMap (secs rows k))
theorem stepW_append (rows : Rows) : ∀ (u v : List Ltr) (x : Nat), stepW rows (u ++ v) x = ((stepW rows v (stepW rows u x).1).1, (stepW rows u x).2 ++ (stepW rows v (stepW rows u x).1).2)
  | [], v, x => by simp [stepW]
  | l :: u, v, x => by
    have ih := stepW_append rows u v (stepL rows l x).1
    show ((stepW rows (u ++ v) (stepL rows l x).1).1, (stepL rows l x).2 :: (stepW rows (u ++ v) (stepL rows l x).1).2) = _
    rw [ih]
    simp [stepW]
theorem stepW_len (rows : Rows) : ∀ (w : List Ltr) (x : Nat), (stepW rows w x).2.length = w.length
  | [], _ => rfl
  | l :: w, x => by
    show ((stepL rows l x).2 :: (stepW rows w (stepL rows l x).1).2).length = _
    rw [List.length_cons, stepW_len rows w, List.length_cons]
section
variable {k : Nat} {rows : Rows}
theorem Mach.got (h : Mach k rows) {s : Nat} (hs : s < rows.length) : rows[s]? = some (rows.getD s []) ∧ RowOk k rows.length (rows.getD s []) := by
  have e : rows[s]? = some rows[s] := List.getElem?_eq_getElem hs
  have e2 : rows.getD s [] = rows[s] := by rw [List.getD_eq_getElem?_getD, e, Option.getD_some]
  rw [e2]
  exact ⟨e, h.row _ (List.getElem_mem hs)⟩
theorem RowOk.got {n : Nat} {row : List (Nat × Nat)} (h : RowOk k n row) {x : Nat} (hx : x < k) : row[x]? = some (row.getD x (0, 0)) ∧ (row.getD x (0, 0)).1 < k ∧ (row.getD x (0, 0)).2 < n := by
  have hl : x < row.length := by rw [h.len]; exact hx
  have e : row[x]? = some row[x] := List.getElem?_eq_getElem hl
  have e2 : row.getD x (0, 0) = row[x] := by rw [List.getD_eq_getElem?_getD, e, Option.getD_some]
  rw [e2]
  exact ⟨e, h.out _ (List.getElem_mem hl), h.nxt _ (List.getElem_mem hl)⟩
theorem outs_perm {n : Nat} {row : List (Nat × Nat)} (h : RowOk k n row) : (row.map (·.1)).Perm (List.range k) := by
  have hl : (row.map (·.1)).length = k := by rw [List.length_map]; exact h.len
  have hsub : (row.map (·.1)) ⊆ List.range k := fun x hx => by
    obtain ⟨e, he, rfl⟩ := List.mem_map.mp hx
    exact List.mem_range.mpr (h.out e he)
  refine (List.perm_ext_iff_of_nodup h.nd List.nodup_range).mpr fun a => ⟨fun x => hsub x, fun hx => ?_⟩
  refine Classical.byContradiction fun hn => ?_
  have h1 : (a :: row.map (·.1)).Nodup := List.nodup_cons.mpr ⟨hn, h.nd⟩
  have h2 := List.Nodup.length_le_of_subset h1 (l₂ := List.range k) (fun z hz => by
    rcases List.mem_cons.mp hz with rfl | hz
    · exact hx
    · exact hsub hz)
  rw [List.length_cons, hl, List.length_range] at h2
  omega
/-- the place at which a digit is written -/
theorem back_ok (h : Mach k rows) {s x : Nat} (hs : s < rows.length) (hx : x < k) : back rows s x < k ∧ (ent rows s (back rows s x)).1 = x := by
  obtain ⟨e, ok⟩ := h.got hs
  unfold back ent
  generalize rows.getD s [] = row at ok
  have hm : x ∈ row.map (·.1) := (outs_perm ok).mem_iff.mpr (List.mem_range.mpr hx)
  have h1 := List.idxOf_lt_length_of_mem hm
  have h2 := List.getElem_idxOf h1
  rw [List.length_map] at h1
  rw [List.getElem_map] at h2
  refine ⟨by rw [← ok.len]; exact h1, ?_⟩
  rw [List.getD_eq_getElem?_getD, List.getElem?_eq_getElem h1, Option.getD_some]
  exact h2
theorem back_out (h : Mach k rows) {s y : Nat} (hs : s < rows.length) (hy : y < k) : back rows s (ent rows s y).1 = y := by
  obtain ⟨e, ok⟩ := h.got hs
  obtain ⟨b1, b2⟩ := back_ok h hs (x := (ent rows s y).1) (by unfold ent; exact (ok.got hy).2.1)
  generalize back rows s (ent rows s y).1 = z at b1 b2 ⊢
  unfold ent at b2
  generalize rows.getD s [] = row at ok b2
  have h1 : z < (row.map (·.1)).length := by rw [List.length_map, ok.len]; exact b1
  have h2 : y < (row.map (·.1)).length := by rw [List.length_map, ok.len]; exact hy
  refine (List.getElem_inj (h₀ := h1) (h₁ := h2) ok.nd).mp ?_
  rw [List.getElem_map, List.getElem_map]
  have l1 : z < row.length := by rw [ok.len]; exact b1
  have l2 : y < row.length := by rw [ok.len]; exact hy
  rw [List.getD_eq_getElem?_getD, List.getD_eq_getElem?_getD, List.getElem?_eq_getElem l1, List.getElem?_eq_getElem l2, Option.getD_some, Option.getD_some] at b2
  exact b2
theorem stepL_ok (h : Mach k rows) {l : Ltr} {x : Nat} (hl : l.1 < rows.length) (hx : x < k) : (stepL rows l x).1 < k ∧ (stepL rows l x).2.1 < rows.length := by
  obtain ⟨e, ok⟩ := h.got hl
  unfold stepL
  split
  · have b := (back_ok h hl hx).1
    exact ⟨b, (ok.got b).2.2⟩
  · exact ⟨(ok.got hx).2.1, (ok.got hx).2.2⟩
theorem stepW_ok (h : Mach k rows) : ∀ {w : List Ltr} {x : Nat}, WordOk rows.length w → x < k → (stepW rows w x).1 < k ∧ WordOk rows.length (stepW rows w x).2
  | [], x, _, hx => ⟨hx, fun l hl => absurd hl (by simp [stepW])⟩
  | l :: w, x, hw, hx => by
    obtain ⟨a, b⟩ := stepL_ok h (hw l List.mem_cons_self) hx
    obtain ⟨c, d⟩ := stepW_ok h (w := w) (fun m hm => hw m (List.mem_cons_of_mem _ hm)) a
    refine ⟨c, fun m hm => ?_⟩
    have hm : m ∈ (stepL rows l x).2 :: (stepW rows w (stepL rows l x).1).2 := hm
    rcases List.mem_cons.mp hm with rfl | hm
    · exact b
    · exact d m hm
theorem cutF_sub {kept : List Ltr} {l m : Ltr} (h : m ∈ cutF kept l) : m ∈ kept ∨ m = l := by
  unfold cutF at h
  split at h
  · exact .inl (List.dropLast_subset kept h)
  · rcases List.mem_append.mp h with h | h
    · exact .inl h
    · exact .inr (List.mem_singleton.mp h)
theorem foldl_cut_sub : ∀ {w kept : List Ltr} {m : Ltr}, m ∈ w.foldl cutF kept → m ∈ kept ∨ m ∈ w
  | [], kept, m, h => .inl h
  | l :: w, kept, m, h => by
    rcases foldl_cut_sub (w := w) h with h | h
    · rcases cutF_sub h with h | h
      · exact .inl h
      · exact .inr (by rw [h]; exact List.mem_cons_self)
    · exact .inr (List.mem_cons_of_mem _ h)
theorem cutW_ok {n : Nat} {w : List Ltr} (h : WordOk n w) : WordOk n (cutW w) := fun l hl => by
  rcases foldl_cut_sub hl with q | q
  · exact absurd q (by simp)
  · exact h l q
theorem foldl_cut_len : ∀ (w kept : List Ltr), (w.foldl cutF kept).length ≤ kept.length + w.length
  | [], kept => Nat.le_refl _
  | l :: w, kept => by
    have h := foldl_cut_len w (cutF kept l)
    have h2 : (cutF kept l).length ≤ kept.length + 1 := by
      unfold cutF
      split
      · rw [List.length_dropLast]; omega
      · rw [List.length_append]; exact Nat.le_refl _
    show (w.foldl cutF (cutF kept l)).length ≤ kept.length + (w.length + 1)
    omega
theorem cutW_len (w : List Ltr) : (cutW w).length ≤ w.length := by
  have h : (w.foldl cutF []).length ≤ 0 + w.length := foldl_cut_len w []
  rw [Nat.zero_add] at h
  exact h
end
/-! ### the level permutation, turn by turn -/
theorem ext_snoc (k : Nat) : ∀ (q : List Nat) (cs : List (List Nat)) (m : Nat) (c : List Nat), q.length = cs.length → ext k (q ++ [m]) (cs ++ [c]) = ext k q cs ++ c.map fun d => k * m + d
  | [], [], m, c, _ => by simp [ext]
  | [], _ :: _, _, _, h => absurd h (by simp)
  | _ :: _, [], _, _, h => absurd h (by simp)
  | a :: q, b :: cs, m, c, h => by
    have ih := ext_snoc k q cs m c (by simpa using h)
    show b.map (fun d => k * a + d) ++ ext k (q ++ [m]) (cs ++ [c]) = (b.map (fun d => k * a + d) ++ ext k q cs) ++ _
    rw [ih, List.append_assoc]
theorem ext_len (k : Nat) : ∀ (q : List Nat) (cs : List (List Nat)), q.length = cs.length → (∀ c ∈ cs, c.length = k) → (ext k q cs).length = q.length * k
  | [], [], _, _ => by simp [ext]
  | [], _ :: _, h, _ => absurd h (by simp)
  | _ :: _, [], h, _ => absurd h (by simp)
  | a :: q, b :: cs, h, hc => by
    have ih := ext_len k q cs (by simpa using h) fun c hm => hc c (List.mem_cons_of_mem _ hm)
    show (b.map (fun d => k * a + d) ++ ext k q cs).length = _
    rw [List.length_append, List.length_map, ih, hc b List.mem_cons_self, List.length_cons, Nat.add_mul, Nat.one_mul, Nat.add_comm]
theorem ext_lt (k N : Nat) : ∀ (q : List Nat) (cs : List (List Nat)), (∀ m ∈ q, m < N) → (∀ c ∈ cs, ∀ d ∈ c, d < k) → ∀ x ∈ ext k q cs, x < N * k
  | [], cs, _, _, x, hx => by
    cases cs <;> simp [ext] at hx
  | _ :: _, [], _, _, x, hx => by simp [ext] at hx
  | a :: q, b :: cs, hq, hc, x, hx => by
    have hx : x ∈ b.map (fun d => k * a + d) ++ ext k q cs := hx
    rcases List.mem_append.mp hx with hx | hx
    · obtain ⟨d, hd, rfl⟩ := List.mem_map.mp hx
      have h1 := hq a List.mem_cons_self
      have h2 := hc b List.mem_cons_self d hd
      have h3 : (a + 1) * k ≤ N * k := Nat.mul_le_mul_right k h1
      rw [Nat.add_mul, Nat.one_mul, Nat.mul_comm a k] at h3
      omega
    · exact ext_lt k N q cs (fun m hm => hq m (List.mem_cons_of_mem _ hm)) (fun c hm => hc c (List.mem_cons_of_mem _ hm)) x hx
theorem digs_len (rows : Rows) (k : Nat) (w : List Ltr) : (digs rows k w).length = k := by unfold digs; rw [List.length_map, List.length_range]
theorem secs_len (rows : Rows) (k : Nat) (w : List Ltr) : (secs rows k w).length = k := by unfold secs; rw [List.length_map, List.length_range]
theorem digs_lt {k : Nat} {rows : Rows} (h : Mach k rows) {w : List Ltr} (hw : WordOk rows.length w) : ∀ d ∈ digs rows k w, d < k := fun d hd => by
  obtain ⟨x, hx, rfl⟩ := List.mem_map.mp hd
  exact (stepW_ok h hw (List.mem_range.mp hx)).1
theorem flat_len {α β : Type} {f : α → List β} {k : Nat} : ∀ {l : List α}, (∀ a ∈ l, (f a).length = k) → (l.flatMap f).length = l.length * k
  | [], _ => by simp
  | a :: r, h => by
    rw [List.flatMap_cons, List.length_append, h a List.mem_cons_self, flat_len fun b hb => h b (List.mem_cons_of_mem _ hb), List.length_cons, Nat.add_mul, Nat.one_mul, Nat.add_comm]
structure SprOk (rows : Rows) (k : Nat) (u : List Ltr) (n : Nat) (q : List Nat × List (List Ltr)) : Prop where
  l1 : q.1.length = k ^ n
  l2 : q.2.length = k ^ n
  lt : ∀ m ∈ q.1, m < k ^ n
  ws : ∀ s ∈ q.2, WordOk rows.length s ∧ s.length ≤ u.length
theorem spr_ok {k : Nat} {rows : Rows} (h : Mach k rows) {u : List Ltr} (hu : WordOk rows.length u) : ∀ n, SprOk rows k u n (spr rows k u n)
  | 0 => ⟨rfl, rfl, fun m hm => by
      rw [List.mem_singleton.mp hm]
      exact Nat.one_pos, fun s hs => by
      rw [List.mem_singleton.mp hs]
      exact ⟨cutW_ok hu, cutW_len u⟩⟩
  | n + 1 => by
    have ih := spr_ok h hu n
    refine ⟨?_, ?_, ?_, ?_⟩
    · show (ext k _ _).length = _
      rw [ext_len k _ _ (by rw [List.length_map, ih.l1, ih.l2]) (fun c hc => by
        obtain ⟨s, _, rfl⟩ := List.mem_map.mp hc
        exact digs_len rows k s), ih.l1, Nat.pow_succ]
    · show (List.flatMap _ _).length = _
      rw [flat_len (k := k) (fun a _ => secs_len rows k a), ih.l2, Nat.pow_succ]
    · intro m hm
      rw [Nat.pow_succ]
      refine ext_lt k (k ^ n) _ _ ih.lt (fun c hc => ?_) m hm
      obtain ⟨s, hs, rfl⟩ := List.mem_map.mp hc
      exact digs_lt h (ih.ws s hs).1
    · intro s hs
      obtain ⟨r, hr, hs⟩ := List.mem_flatMap.mp hs
      obtain ⟨x, hx, rfl⟩ := List.mem_map.mp hs
      obtain ⟨w1, w2⟩ := ih.ws r hr
      refine ⟨cutW_ok (stepW_ok h w1 (List.mem_range.mp hx)).2, ?_⟩
      have h1 := cutW_len (stepW rows r x).2
      have h2 := stepW_len rows r x
      omega
end LT
set_option linter.all false
set_option Elab.async false
/-! Rearrangements of the tree's levels: all of them as a list, their number, closed under composition; what leads to the level before. -/
namespace LT
theorem divmod {k q j : Nat} (hj : j < k) : (k * q + j) / k = q ∧ (k * q + j) % k = j := by
  have hk : 0 < k := by omega
  constructor
  · rw [Nat.mul_add_div hk, Nat.div_eq_of_lt hj, Nat.add_zero]
  · rw [Nat.mul_add_mod, Nat.mod_eq_of_lt hj]
theorem ext_get {k : Nat} : ∀ {q : List Nat} {cs : List (List Nat)}, q.length = cs.length → (∀ c ∈ cs, c.length = k) → ∀ {i j : Nat}, i < q.length → j < k → (ext k q cs).getD (k * i + j) 0 = k * q.getD i 0 + (cs.getD i []).getD j 0
  | [], _, _, _, i, j, hi, _ => absurd hi (by simp)
  | _ :: _, [], h, _, _, _, _, _ => absurd h (by simp)
  | a :: q, c :: cs, h, hc, i, j, hi, hj => by
    have hcl := hc c List.mem_cons_self
    show (c.map (fun d => k * a + d) ++ ext k q cs).getD (k * i + j) 0 = _
    cases i with
    | zero =>
      have hj2 : j < c.length := by rw [hcl]; exact hj
      rw [Nat.mul_zero, Nat.zero_add, List.getD_eq_getElem?_getD, List.getElem?_append_left (by rw [List.length_map]; exact hj2), List.getElem?_map, List.getElem?_eq_getElem hj2]
      show k * a + c[j] = k * a + c.getD j 0
      rw [getD_eq hj2]
    | succ i =>
      have e : k * (i + 1) + j = c.length + (k * i + j) := by rw [hcl, Nat.mul_add, Nat.mul_one]; omega
      rw [e, List.getD_eq_getElem?_getD, List.getElem?_append_right (by rw [List.length_map]; omega), List.length_map, Nat.add_sub_cancel_left, ← List.getD_eq_getElem?_getD]
      exact ext_get (by simpa using h) (fun c' hm => hc c' (List.mem_cons_of_mem _ hm)) (by simpa using hi) hj
theorem split_lt {N k x : Nat} (hx : x < N * k) : x / k < N ∧ x % k < k ∧ k * (x / k) + x % k = x := by
  have hk : 0 < k := by
    rcases Nat.eq_zero_or_pos k with z | z
    · rw [z, Nat.mul_zero] at hx
      omega
    · exact z
  exact ⟨Nat.div_lt_of_lt_mul (by rw [Nat.mul_comm]; exact hx), Nat.mod_lt _ hk, Nat.div_add_mod x k⟩
structure ExtOk (k N : Nat) (q : P) (cs : List P) : Prop where
  q : IsP N q
  l : cs.length = N
  c : ∀ c ∈ cs, IsP k c
section
variable {k N : Nat} {q q' : P} {cs cs' : List P}
theorem ExtOk.ql (h : ExtOk k N q cs) : q.length = cs.length := by rw [h.q.len, h.l]
theorem ExtOk.cl (h : ExtOk k N q cs) : ∀ c ∈ cs, c.length = k := fun c hc => (h.c c hc).len
theorem ExtOk.cAt (h : ExtOk k N q cs) {i : Nat} (hi : i < N) : IsP k (cs.getD i []) := by
  have hl : i < cs.length := by rw [h.l]; exact hi
  rw [List.getD_eq_getElem?_getD, List.getElem?_eq_getElem hl]
  exact h.c _ (List.getElem_mem hl)
theorem ExtOk.len (h : ExtOk k N q cs) : (ext k q cs).length = N * k := by rw [ext_len k q cs h.ql h.cl, h.q.len]
theorem ExtOk.get (h : ExtOk k N q cs) {i j : Nat} (hi : i < N) (hj : j < k) : (ext k q cs).getD (k * i + j) 0 = k * q.getD i 0 + (cs.getD i []).getD j 0 := ext_get h.ql h.cl (by rw [h.q.len]; exact hi) hj
theorem ExtOk.at_ (h : ExtOk k N q cs) {x : Nat} (hx : x < N * k) : (ext k q cs).getD x 0 = k * q.getD (x / k) 0 + (cs.getD (x / k) []).getD (x % k) 0 := by
  obtain ⟨a, b, c⟩ := split_lt hx
  have e := h.get a b
  rw [c] at e
  exact e
theorem ExtOk.isP (h : ExtOk k N q cs) : IsP (N * k) (ext k q cs) := by
  refine ⟨h.len, fun x hx => ?_, fun x y hx hy e => ?_⟩
  · obtain ⟨a, b, c⟩ := split_lt hx
    rw [h.at_ hx]
    have h1 := h.q.lt _ a
    have h2 := (h.cAt a).lt _ b
    have h3 : (q.getD (x / k) 0 + 1) * k ≤ N * k := Nat.mul_le_mul_right k h1
    rw [Nat.add_mul, Nat.one_mul, Nat.mul_comm _ k] at h3
    omega
  · obtain ⟨a, b, c⟩ := split_lt hx
    obtain ⟨a', b', c'⟩ := split_lt hy
    rw [h.at_ hx, h.at_ hy] at e
    have d1 := divmod (q := q.getD (x / k) 0) ((h.cAt a).lt _ b)
    have d2 := divmod (q := q.getD (y / k) 0) ((h.cAt a').lt _ b')
    rw [e] at d1
    have e1 : q.getD (x / k) 0 = q.getD (y / k) 0 := d1.1.symm.trans d2.1
    have e2 := h.q.inj _ _ a a' e1
    have e3 : (cs.getD (x / k) []).getD (x % k) 0 = (cs.getD (y / k) []).getD (y % k) 0 := d1.2.symm.trans d2.2
    rw [← e2] at e3
    have e4 := (h.cAt a).inj _ _ b b' e3
    rw [← c, ← c', e2, e4]
theorem ExtOk.comp (h : ExtOk k N q cs) (h' : ExtOk k N q' cs') : ∃ cs'', ExtOk k N (LT.comp q' q) cs'' ∧ LT.comp (ext k q' cs') (ext k q cs) = ext k (LT.comp q' q) cs'' := by
  have ok : ExtOk k N (LT.comp q' q) ((List.range N).map fun i => LT.comp (cs'.getD (q.getD i 0) []) (cs.getD i [])) := by
    refine ⟨h'.q.comp h.q, by rw [List.length_map, List.length_range], fun c hc => ?_⟩
    obtain ⟨i, hi, rfl⟩ := List.mem_map.mp hc
    have hi := List.mem_range.mp hi
    exact (h'.cAt (h.q.lt i hi)).comp (h.cAt hi)
  refine ⟨_, ok, ?_⟩
  refine ext_getD (by rw [comp_len, h.len, ok.len]) fun x hx => ?_
  rw [comp_len, h.len] at hx
  obtain ⟨a, b, c⟩ := split_lt hx
  rw [comp_get (by rw [h.len]; exact hx), ok.at_ hx, h.at_ hx]
  have lq := h.q.lt _ a
  have lc := (h.cAt a).lt _ b
  rw [h'.get lq lc, comp_get (by rw [h.q.len]; exact a)]
  have e : ((List.range N).map fun i => LT.comp (cs'.getD (q.getD i 0) []) (cs.getD i [])).getD (x / k) [] = LT.comp (cs'.getD (q.getD (x / k) 0) []) (cs.getD (x / k) []) := by
    rw [List.getD_eq_getElem?_getD, List.getElem?_map, List.getElem?_range a]
    rfl
  rw [e, comp_get (by rw [(h.cAt a).len]; exact b)]
end
/-- what leads to the level before -/
def proj (k : Nat) (p : P) : P := (List.range (p.length / k)).map fun j => p.getD (j * k) 0 / k
theorem proj_ext {k N : Nat} {q : P} {cs : List P} (hk : 0 < k) (h : ExtOk k N q cs) : proj k (ext k q cs) = q := by
  unfold proj
  rw [h.len, Nat.mul_div_cancel _ hk]
  refine ext_getD (by rw [List.length_map, List.length_range, h.q.len]) fun i hi => ?_
  rw [List.length_map, List.length_range] at hi
  have e : ((List.range N).map fun j => (ext k q cs).getD (j * k) 0 / k).getD i 0 = (ext k q cs).getD (i * k) 0 / k := by
    rw [List.getD_eq_getElem?_getD, List.getElem?_map, List.getElem?_range hi]
    rfl
  rw [e]
  have e2 := h.get hi hk
  rw [Nat.add_zero, Nat.mul_comm k i] at e2
  rw [e2]
  exact (divmod ((h.cAt hi).lt 0 hk)).1
theorem ext_inj {k : Nat} (hk : 0 < k) : ∀ {q q' : List Nat} {cs cs' : List (List Nat)}, q.length = cs.length → q'.length = cs'.length → q.length = q'.length → (∀ c ∈ cs, IsP k c) → (∀ c ∈ cs', IsP k c) → ext k q cs = ext k q' cs' → q = q' ∧ cs = cs'
  | [], [], [], [], _, _, _, _, _, _ => ⟨rfl, rfl⟩
  | [], [], _ :: _, _, h, _, _, _, _, _ => absurd h (by simp)
  | [], [], [], _ :: _, _, h, _, _, _, _ => absurd h (by simp)
  | [], _ :: _, _, _, _, _, h, _, _, _ => absurd h (by simp)
  | _ :: _, [], _, _, _, _, h, _, _, _ => absurd h (by simp)
  | _ :: _, _ :: _, [], _, h, _, _, _, _, _ => absurd h (by simp)
  | _ :: _, _ :: _, _ :: _, [], _, h, _, _, _, _ => absurd h (by simp)
  | a :: q, a' :: q', c :: cs, c' :: cs', h1, h2, h3, hc, hc', e => by
    have i1 := hc c List.mem_cons_self
    have i2 := hc' c' List.mem_cons_self
    have e : c.map (fun d => k * a + d) ++ ext k q cs = c'.map (fun d => k * a' + d) ++ ext k q' cs' := e
    obtain ⟨e1, e2⟩ := List.append_inj e (by rw [List.length_map, List.length_map, i1.len, i2.len])
    obtain ⟨e3, e4⟩ := ext_inj hk (by simpa using h1) (by simpa using h2) (by simpa using h3) (fun x hx => hc x (List.mem_cons_of_mem _ hx)) (fun x hx => hc' x (List.mem_cons_of_mem _ hx)) e2
    have g : ∀ j, j < k → k * a + c.getD j 0 = k * a' + c'.getD j 0 := fun j hj => by
      have e5 := congrArg (fun l : List Nat => l.getD j 0) e1
      rw [List.getD_eq_getElem?_getD, List.getD_eq_getElem?_getD, List.getElem?_map, List.getElem?_map, List.getElem?_eq_getElem (by rw [i1.len]; exact hj), List.getElem?_eq_getElem (by rw [i2.len]; exact hj)] at e5
      rw [getD_eq (by rw [i1.len]; exact hj), getD_eq (by rw [i2.len]; exact hj)]
      exact e5
    have g2 : ∀ j, j < k → a = a' ∧ c.getD j 0 = c'.getD j 0 := fun j hj => by
      have d1 := divmod (q := a) (i1.lt j hj)
      have d2 := divmod (q := a') (i2.lt j hj)
      rw [g j hj] at d1
      exact ⟨d1.1.symm.trans d2.1, d1.2.symm.trans d2.2⟩
    have ec : c = c' := ext_getD (by rw [i1.len, i2.len]) fun j hj => (g2 j (by rw [← i1.len]; exact hj)).2
    rw [(g2 0 hk).1, ec, e3, e4]
    exact ⟨rfl, rfl⟩
/-! ### all of them -/
def tuples {α : Type} (D : List α) : Nat → List (List α)
  | 0 => [[]]
  | m + 1 => (tuples D m).flatMap fun t => D.map fun d => d :: t
theorem mem_tuples {α : Type} {D : List α} : ∀ {m : Nat} {t : List α}, t ∈ tuples D m ↔ t.length = m ∧ ∀ x ∈ t, x ∈ D
  | 0, t => by
    constructor
    · intro h
      rw [List.mem_singleton.mp h]
      exact ⟨rfl, by simp⟩
    · rintro ⟨h, _⟩
      rw [List.eq_nil_of_length_eq_zero h]
      exact List.mem_singleton.mpr rfl
  | m + 1, t => by
    show t ∈ (tuples D m).flatMap _ ↔ _
    rw [List.mem_flatMap]
    constructor
    · rintro ⟨u, hu, ht⟩
      obtain ⟨d, hd, rfl⟩ := List.mem_map.mp ht
      obtain ⟨h1, h2⟩ := mem_tuples.mp hu
      refine ⟨by rw [List.length_cons, h1], fun x hx => ?_⟩
      rcases List.mem_cons.mp hx with rfl | hx
      · exact hd
      · exact h2 x hx
    · rintro ⟨h1, h2⟩
      cases t with
      | nil => simp at h1
      | cons d u =>
        exact ⟨u, mem_tuples.mpr ⟨by simpa using h1, fun x hx => h2 x (List.mem_cons_of_mem _ hx)⟩, List.mem_map.mpr ⟨d, h2 d List.mem_cons_self, rfl⟩⟩
theorem len_tuples {α : Type} (D : List α) : ∀ m, (tuples D m).length = D.length ^ m
  | 0 => rfl
  | m + 1 => by
    show ((tuples D m).flatMap _).length = _
    rw [flat_len (k := D.length) (fun a _ => by rw [List.length_map]), len_tuples D m, Nat.pow_succ]
theorem nodup_flat {α β : Type} {f : α → List β} {l : List α} (h : l.Nodup) (h1 : ∀ a ∈ l, (f a).Nodup) (h2 : ∀ a ∈ l, ∀ b ∈ l, ∀ x, x ∈ f a → x ∈ f b → a = b) : (l.flatMap f).Nodup := by
  show List.Pairwise _ _
  rw [List.pairwise_flatMap]
  refine ⟨h1, List.Pairwise.imp_of_mem ?_ h⟩
  intro a b ha hb hne x hx y hy e
  subst e
  exact hne (h2 a ha b hb x hx hy)
theorem nodup_tuples {α : Type} {D : List α} (hD : D.Nodup) : ∀ m, (tuples D m).Nodup
  | 0 => by simp [tuples]
  | m + 1 => by
    refine nodup_flat (nodup_tuples hD m) (fun a _ => nodup_map hD fun x _ y _ e => (List.cons.inj e).1) fun a _ b _ x hx hy => ?_
    obtain ⟨d, _, rfl⟩ := List.mem_map.mp hx
    obtain ⟨d', _, e⟩ := List.mem_map.mp hy
    exact (List.cons.inj e).2.symm
def perms (k : Nat) : List P := (tuples (List.range k) k).filter fun c => decide c.Nodup
theorem isP_iff {k : Nat} {c : P} : IsP k c ↔ c.length = k ∧ (∀ d ∈ c, d < k) ∧ c.Nodup := by
  constructor
  · intro h
    refine ⟨h.len, fun d hd => ?_, ?_⟩
    · obtain ⟨i, hi, rfl⟩ := mem_getD hd
      exact h.lt i (by rw [← h.len]; exact hi)
    · show List.Pairwise _ _
      rw [List.pairwise_iff_getElem]
      intro i j hi hj hij e
      rw [← getD_eq hi, ← getD_eq hj] at e
      have := h.inj i j (by rw [← h.len]; exact hi) (by rw [← h.len]; exact hj) e
      omega
  · rintro ⟨h1, h2, h3⟩
    refine ⟨h1, fun i hi => h2 _ (getD_mem (by rw [h1]; exact hi)), fun i j hi hj e => ?_⟩
    rw [getD_eq (by rw [h1]; exact hi), getD_eq (by rw [h1]; exact hj)] at e
    exact (List.getElem_inj h3).mp e
theorem mem_perms {k : Nat} {c : P} : c ∈ perms k ↔ IsP k c := by
  unfold perms
  rw [List.mem_filter, mem_tuples, isP_iff, decide_eq_true_eq]
  constructor
  · rintro ⟨⟨a, b⟩, c⟩
    exact ⟨a, fun d hd => List.mem_range.mp (b d hd), c⟩
  · rintro ⟨a, b, c⟩
    exact ⟨⟨a, fun d hd => List.mem_range.mpr (b d hd)⟩, c⟩
def Wl (k : Nat) : Nat → List P
  | 0 => [[0]]
  | n + 1 => (Wl k n).flatMap fun q => (tuples (perms k) (k ^ n)).map (ext k q)
theorem isP_zero : IsP 1 [0] := ⟨rfl, fun i hi => by
  have : i = 0 := by omega
  subst this
  exact Nat.one_pos, fun i j hi hj _ => by omega⟩
theorem mem_Wl {k n : Nat} {p : P} : p ∈ Wl k (n + 1) ↔ ∃ q ∈ Wl k n, ∃ cs : List P, cs.length = k ^ n ∧ (∀ c ∈ cs, IsP k c) ∧ ext k q cs = p := by
  show p ∈ (Wl k n).flatMap _ ↔ _
  rw [List.mem_flatMap]
  constructor
  · rintro ⟨q, hq, hp⟩
    obtain ⟨cs, hcs, rfl⟩ := List.mem_map.mp hp
    obtain ⟨h1, h2⟩ := mem_tuples.mp hcs
    exact ⟨q, hq, cs, h1, fun c hc => mem_perms.mp (h2 c hc), rfl⟩
  · rintro ⟨q, hq, cs, h1, h2, rfl⟩
    exact ⟨q, hq, List.mem_map.mpr ⟨cs, mem_tuples.mpr ⟨h1, fun c hc => mem_perms.mpr (h2 c hc)⟩, rfl⟩⟩
theorem Wl_isP {k : Nat} : ∀ {n : Nat} {p : P}, p ∈ Wl k n → IsP (k ^ n) p
  | 0, p, h => by
    rw [List.mem_singleton.mp h]
    exact isP_zero
  | n + 1, p, h => by
    obtain ⟨q, hq, cs, h1, h2, rfl⟩ := mem_Wl.mp h
    rw [Nat.pow_succ]
    exact ExtOk.isP ⟨Wl_isP hq, h1, h2⟩
theorem Wl_comp {k : Nat} : ∀ {n : Nat} {p p' : P}, p ∈ Wl k n → p' ∈ Wl k n → comp p' p ∈ Wl k n
  | 0, p, p', h, h' => by
    rw [List.mem_singleton.mp h, List.mem_singleton.mp h']
    exact List.mem_singleton.mpr rfl
  | n + 1, p, p', h, h' => by
    obtain ⟨q, hq, cs, h1, h2, rfl⟩ := mem_Wl.mp h
    obtain ⟨q', hq', cs', h1', h2', rfl⟩ := mem_Wl.mp h'
    obtain ⟨cs'', ok, e⟩ := ExtOk.comp (k := k) (N := k ^ n) ⟨Wl_isP hq, h1, h2⟩ ⟨Wl_isP hq', h1', h2'⟩
    exact mem_Wl.mpr ⟨_, Wl_comp hq hq', cs'', ok.l, ok.c, e.symm⟩
theorem Wl_nodup {k : Nat} (hk : 0 < k) : ∀ n, (Wl k n).Nodup
  | 0 => by simp [Wl]
  | n + 1 => by
    have hp : (perms k).Nodup := nodup_filter (nodup_tuples List.nodup_range k)
    have cl : ∀ {q cs}, q ∈ Wl k n → cs ∈ tuples (perms k) (k ^ n) → q.length = cs.length ∧ (∀ c ∈ cs, IsP k c) := fun {q cs} hq hc => by
      obtain ⟨h1, h2⟩ := mem_tuples.mp hc
      exact ⟨by rw [(Wl_isP hq).len, h1], fun c hc => mem_perms.mp (h2 c hc)⟩
    refine nodup_flat (Wl_nodup hk n) (fun q hq => nodup_map (nodup_tuples hp _) fun cs hc cs' hc' e => ?_) fun q hq q' hq' x hx hx' => ?_
    · exact (ext_inj hk (cl hq hc).1 (cl hq hc').1 rfl (cl hq hc).2 (cl hq hc').2 e).2
    · obtain ⟨cs, hc, rfl⟩ := List.mem_map.mp hx
      obtain ⟨cs', hc', e⟩ := List.mem_map.mp hx'
      exact (ext_inj hk (cl hq hc).1 (cl hq' hc').1 (by rw [(Wl_isP hq).len, (Wl_isP hq').len]) (cl hq hc).2 (cl hq' hc').2 e.symm).1
theorem Wl_len (k n : Nat) : (Wl k (n + 1)).length = (Wl k n).length * (perms k).length ^ k ^ n := by
  show ((Wl k n).flatMap _).length = _
  rw [flat_len (k := (perms k).length ^ k ^ n) (fun a _ => by rw [List.length_map, len_tuples])]
theorem proj_Wl {k n : Nat} (hk : 0 < k) {p p' : P} (h : p ∈ Wl k (n + 1)) (h' : p' ∈ Wl k (n + 1)) : proj k (comp p' p) = comp (proj k p') (proj k p) := by
  obtain ⟨q, hq, cs, h1, h2, rfl⟩ := mem_Wl.mp h
  obtain ⟨q', hq', cs', h1', h2', rfl⟩ := mem_Wl.mp h'
  have o1 : ExtOk k (k ^ n) q cs := ⟨Wl_isP hq, h1, h2⟩
  have o2 : ExtOk k (k ^ n) q' cs' := ⟨Wl_isP hq', h1', h2'⟩
  obtain ⟨cs'', ok, e⟩ := o1.comp o2
  rw [e, proj_ext hk ok, proj_ext hk o1, proj_ext hk o2]
/-! ### the numbers -/
theorem perms2 : (perms 2).length = 2 := by decide +kernel
theorem perms3 : (perms 3).length = 6 := by decide +kernel
theorem Wl_20 : (Wl 2 0).length = 1 := rfl
theorem Wl_21 : (Wl 2 1).length = 2 := by rw [Wl_len, Wl_20, perms2]
theorem Wl_22 : (Wl 2 2).length = 8 := by rw [Wl_len, Wl_21, perms2]
theorem Wl_23 : (Wl 2 3).length = 128 := by rw [Wl_len, Wl_22, perms2]
theorem Wl_30 : (Wl 3 0).length = 1 := rfl
theorem Wl_31 : (Wl 3 1).length = 6 := by rw [Wl_len, Wl_30, perms3]
theorem Wl_32 : (Wl 3 2).length = 1296 := by rw [Wl_len, Wl_31, perms3]
end LT
set_option linter.all false
set_option Elab.async false
/-! What words do on strings; level permutations of products; the groups of the levels; orbits. -/
namespace LT
section
variable {k : Nat} {rows : Rows}
theorem ent_inj (h : Mach k rows) {s x y : Nat} (hs : s < rows.length) (hx : x < k) (hy : y < k) (e : (ent rows s x).1 = (ent rows s y).1) : x = y := by
  have e1 := back_out h hs hx
  have e2 := back_out h hs hy
  rw [e, e2] at e1
  exact e1.symm
theorem stepL_inj (h : Mach k rows) {l : Ltr} {x y : Nat} (hl : l.1 < rows.length) (hx : x < k) (hy : y < k) (e : (stepL rows l x).1 = (stepL rows l y).1) : x = y := by
  unfold stepL at e
  cases hb : l.2 with
  | true =>
    rw [if_pos hb, if_pos hb] at e
    have e1 := (back_ok h hl hx).2
    have e2 := (back_ok h hl hy).2
    have e : back rows l.1 x = back rows l.1 y := e
    rw [e, e2] at e1
    exact e1.symm
  | false =>
    rw [if_neg (by rw [hb]; exact Bool.false_ne_true), if_neg (by rw [hb]; exact Bool.false_ne_true)] at e
    exact ent_inj h hl hx hy e
theorem stepW_inj (h : Mach k rows) : ∀ {w : List Ltr} {x y : Nat}, WordOk rows.length w → x < k → y < k → (stepW rows w x).1 = (stepW rows w y).1 → x = y
  | [], x, y, _, _, _, e => e
  | l :: w, x, y, hw, hx, hy, e => by
    have hl := hw l List.mem_cons_self
    have e : (stepW rows w (stepL rows l x).1).1 = (stepW rows w (stepL rows l y).1).1 := e
    exact stepL_inj h hl hx hy (stepW_inj h (fun m hm => hw m (List.mem_cons_of_mem _ hm)) (stepL_ok h hl hx).1 (stepL_ok h hl hy).1 e)
theorem digs_get {w : List Ltr} {x : Nat} (hx : x < k) : (digs rows k w).getD x 0 = (stepW rows w x).1 := by
  unfold digs
  rw [List.getD_eq_getElem?_getD, List.getElem?_map, List.getElem?_range hx]
  rfl
theorem digs_isP (h : Mach k rows) {w : List Ltr} (hw : WordOk rows.length w) : IsP k (digs rows k w) := by
  refine ⟨digs_len rows k w, fun x hx => ?_, fun x y hx hy e => ?_⟩
  · rw [digs_get hx]
    exact (stepW_ok h hw hx).1
  · rw [digs_get hx, digs_get hy] at e
    exact stepW_inj h hw hx hy e
theorem spr_ext (h : Mach k rows) {u : List Ltr} (hu : WordOk rows.length u) : ∀ n, (spr rows k u n).1 ∈ Wl k n
  | 0 => List.mem_singleton.mpr rfl
  | n + 1 => mem_Wl.mpr ⟨_, spr_ext h hu n, _, by rw [List.length_map, (spr_ok h hu n).l2], fun c hc => by
      obtain ⟨s, hs, rfl⟩ := List.mem_map.mp hc
      exact digs_isP h ((spr_ok h hu n).ws s hs).1, rfl⟩
theorem spr_isP (h : Mach k rows) {u : List Ltr} (hu : WordOk rows.length u) (n : Nat) : IsP (k ^ n) (spr rows k u n).1 := Wl_isP (spr_ext h hu n)
theorem spr_extOk (h : Mach k rows) {u : List Ltr} (hu : WordOk rows.length u) (n : Nat) : ExtOk k (k ^ n) (spr rows k u n).1 ((spr rows k u n).2.map (digs rows k)) :=
  ⟨spr_isP h hu n, by rw [List.length_map, (spr_ok h hu n).l2], fun c hc => by
    obtain ⟨s, hs, rfl⟩ := List.mem_map.mp hc
    exact digs_isP h ((spr_ok h hu n).ws s hs).1⟩
theorem spr_proj (h : Mach k rows) {u : List Ltr} (hu : WordOk rows.length u) (n : Nat) : proj k (spr rows k u (n + 1)).1 = (spr rows k u n).1 :=
  proj_ext (by have := h.k2; omega) (spr_extOk h hu n)
/-! ### strings -/
def act (rows : Rows) : List Ltr → List Nat → List Nat
  | _, [] => []
  | w, x :: s => (stepW rows w x).1 :: act rows (stepW rows w x).2 s
def StrOk (k : Nat) (s : List Nat) : Prop := ∀ x ∈ s, x < k
theorem act_nil_word : ∀ s, act rows [] s = s
  | [] => rfl
  | x :: s => by
    show x :: act rows [] s = x :: s
    rw [act_nil_word s]
theorem act_ok (h : Mach k rows) : ∀ {s : List Nat} {w : List Ltr}, WordOk rows.length w → StrOk k s → (act rows w s).length = s.length ∧ StrOk k (act rows w s)
  | [], w, _, _ => ⟨rfl, fun x hx => absurd hx (by simp [act])⟩
  | x :: s, w, hw, hs => by
    obtain ⟨a, b⟩ := stepW_ok h hw (hs x List.mem_cons_self)
    obtain ⟨c, d⟩ := act_ok h (s := s) b (fun y hy => hs y (List.mem_cons_of_mem _ hy))
    refine ⟨congrArg (· + 1) c, fun y hy => ?_⟩
    have hy : y ∈ (stepW rows w x).1 :: act rows (stepW rows w x).2 s := hy
    rcases List.mem_cons.mp hy with rfl | hy
    · exact a
    · exact d y hy
theorem act_append : ∀ (s : List Nat) (u v : List Ltr), act rows (u ++ v) s = act rows v (act rows u s)
  | [], u, v => rfl
  | x :: s, u, v => by
    show (stepW rows (u ++ v) x).1 :: act rows (stepW rows (u ++ v) x).2 s = (stepW rows v (stepW rows u x).1).1 :: act rows (stepW rows v (stepW rows u x).1).2 (act rows (stepW rows u x).2 s)
    rw [stepW_append, act_append s]
theorem inv_inv (l : Ltr) : inv (inv l) = l := by
  obtain ⟨a, b⟩ := l
  unfold inv
  simp
theorem step_inv (h : Mach k rows) {l : Ltr} {x : Nat} (hl : l.1 < rows.length) (hx : x < k) : stepL rows (inv l) (stepL rows l x).1 = (x, inv (stepL rows l x).2) := by
  obtain ⟨s, b⟩ := l
  cases b with
  | false =>
    show (back rows s (ent rows s x).1, ((ent rows s (back rows s (ent rows s x).1)).2, true)) = (x, ((ent rows s x).2, true))
    rw [back_out h hl hx]
  | true =>
    show ((ent rows s (back rows s x)).1, ((ent rows s (back rows s x)).2, false)) = (x, ((ent rows s (back rows s x)).2, false))
    rw [(back_ok h hl hx).2]
theorem act_pair (h : Mach k rows) : ∀ {s : List Nat} {l : Ltr}, l.1 < rows.length → StrOk k s → act rows [l, inv l] s = s
  | [], _, _, _ => rfl
  | x :: s, l, hl, hs => by
    have hx := hs x List.mem_cons_self
    have e := step_inv h hl hx
    show (stepL rows (inv l) (stepL rows l x).1).1 :: act rows [(stepL rows l x).2, (stepL rows (inv l) (stepL rows l x).1).2] s = x :: s
    rw [e, act_pair h (stepL_ok h hl hx).2 fun y hy => hs y (List.mem_cons_of_mem _ hy)]
theorem act_fold (h : Mach k rows) {s : List Nat} (hs : StrOk k s) : ∀ (w kept : List Ltr), WordOk rows.length kept → WordOk rows.length w → act rows (w.foldl cutF kept) s = act rows (kept ++ w) s
  | [], kept, _, _ => by rw [List.append_nil]; rfl
  | l :: w, kept, hk, hw => by
    have hl := hw l List.mem_cons_self
    have hw' : WordOk rows.length w := fun m hm => hw m (List.mem_cons_of_mem _ hm)
    have hk' : WordOk rows.length (cutF kept l) := fun m hm => by
      rcases cutF_sub hm with q | q
      · exact hk m q
      · rw [q]; exact hl
    show act rows (w.foldl cutF (cutF kept l)) s = _
    rw [act_fold h hs w _ hk' hw']
    unfold cutF
    split
    · rename_i e
      have hne : kept ≠ [] := by rintro rfl; simp at e
      have e2 : kept.dropLast ++ [inv l] = kept := by
        have := List.dropLast_concat_getLast hne
        rw [List.getLast?_eq_some_getLast hne] at e
        rw [Option.some.inj e] at this
        exact this
      have hd : WordOk rows.length kept.dropLast := fun m hm => hk m (List.dropLast_subset kept hm)
      have e3 : kept ++ l :: w = kept.dropLast ++ ([inv l, inv (inv l)] ++ w) := by
        rw [inv_inv]
        conv => lhs; rw [← e2]
        rw [List.append_assoc]
        rfl
      rw [e3, act_append, act_append, act_append, act_pair h (l := inv l) hl (act_ok h hd hs).2]
    · rw [List.append_assoc]
      rfl
theorem act_cut (h : Mach k rows) {s : List Nat} (hs : StrOk k s) {w : List Ltr} (hw : WordOk rows.length w) : act rows (cutW w) s = act rows w s :=
  act_fold h hs w [] (fun m hm => absurd hm (by simp)) hw
/-! ### numbers of strings -/
def val (k : Nat) (s : List Nat) : Nat := s.foldl (fun a x => k * a + x) 0
theorem val_snoc (k : Nat) (s : List Nat) (x : Nat) : val k (s ++ [x]) = k * val k s + x := by
  unfold val
  rw [List.foldl_append]
  rfl
theorem snoc_of {α : Type} : ∀ {n : Nat} {s : List α}, s.length = n + 1 → ∃ t x, s = t ++ [x] ∧ t.length = n := by
  intro n s h
  have hne : s ≠ [] := by rintro rfl; simp at h
  exact ⟨s.dropLast, s.getLast hne, (List.dropLast_concat_getLast hne).symm, by rw [List.length_dropLast, h]; rfl⟩
theorem val_lt : ∀ {n : Nat} {s : List Nat}, s.length = n → StrOk k s → val k s < k ^ n
  | 0, s, h, _ => by
    rw [List.eq_nil_of_length_eq_zero h]
    exact Nat.one_pos
  | n + 1, s, h, hs => by
    obtain ⟨t, x, rfl, ht⟩ := snoc_of h
    have ih := val_lt ht fun y hy => hs y (List.mem_append_left _ hy)
    have hx := hs x (by simp)
    rw [val_snoc, Nat.pow_succ]
    have h3 : (val k t + 1) * k ≤ k ^ n * k := Nat.mul_le_mul_right k ih
    rw [Nat.add_mul, Nat.one_mul, Nat.mul_comm _ k] at h3
    omega
theorem val_onto (hk : 0 < k) : ∀ (n i : Nat), i < k ^ n → ∃ s : List Nat, s.length = n ∧ StrOk k s ∧ val k s = i
  | 0, i, h => ⟨[], rfl, fun x hx => absurd hx (by simp), by
      have : i = 0 := by simp at h; exact h
      rw [this]
      rfl⟩
  | n + 1, i, h => by
    rw [Nat.pow_succ] at h
    obtain ⟨a, b, c⟩ := split_lt h
    obtain ⟨s, h1, h2, h3⟩ := val_onto hk n (i / k) a
    refine ⟨s ++ [i % k], by rw [List.length_append, h1]; rfl, fun x hx => ?_, by rw [val_snoc, h3, c]⟩
    rcases List.mem_append.mp hx with q | q
    · exact h2 x q
    · rw [List.mem_singleton.mp q]
      exact b
theorem flat_get {α : Type} {f : α → List (List Ltr)} {d : α} : ∀ {l : List α}, (∀ a ∈ l, (f a).length = k) → ∀ {i j : Nat}, i < l.length → j < k → (l.flatMap f).getD (k * i + j) [] = (f (l.getD i d)).getD j []
  | [], _, i, j, hi, _ => absurd hi (by simp)
  | a :: l, h, i, j, hi, hj => by
    have ha := h a List.mem_cons_self
    rw [List.flatMap_cons]
    cases i with
    | zero =>
      rw [Nat.mul_zero, Nat.zero_add, List.getD_eq_getElem?_getD, List.getElem?_append_left (by rw [ha]; exact hj), ← List.getD_eq_getElem?_getD]
      rfl
    | succ i =>
      have e : k * (i + 1) + j = (f a).length + (k * i + j) := by rw [ha, Nat.mul_add, Nat.mul_one]; omega
      rw [e, List.getD_eq_getElem?_getD, List.getElem?_append_right (by omega), Nat.add_sub_cancel_left, ← List.getD_eq_getElem?_getD]
      exact flat_get (fun b hb => h b (List.mem_cons_of_mem _ hb)) (by simpa using hi) hj
theorem spr_act (h : Mach k rows) {u : List Ltr} (hu : WordOk rows.length u) : ∀ {n : Nat} {s : List Nat}, s.length = n → StrOk k s →
    (spr rows k u n).1.getD (val k s) 0 = val k (act rows u s) ∧ ∀ t, StrOk k t → act rows u (s ++ t) = act rows u s ++ act rows ((spr rows k u n).2.getD (val k s) []) t
  | 0, s, hs, _ => by
    rw [List.eq_nil_of_length_eq_zero hs]
    exact ⟨rfl, fun t ht => (act_cut h ht hu).symm⟩
  | n + 1, s, hs, hok => by
    obtain ⟨s0, x, rfl, hs0⟩ := snoc_of hs
    have ok0 : StrOk k s0 := fun y hy => hok y (List.mem_append_left _ hy)
    have hx : x < k := hok x (by simp)
    obtain ⟨ih1, ih2⟩ := spr_act h hu hs0 ok0
    have so := spr_ok h hu n
    have hi := val_lt hs0 ok0
    rw [val_snoc]
    have hsec : (spr rows k u n).2.getD (val k s0) [] ∈ (spr rows k u n).2 := by
      have hl : val k s0 < (spr rows k u n).2.length := by rw [so.l2]; exact hi
      rw [List.getD_eq_getElem?_getD, List.getElem?_eq_getElem hl]
      exact List.getElem_mem hl
    have wsec := (so.ws _ hsec).1
    have e1 : ((spr rows k u n).2.map (digs rows k)).getD (val k s0) [] = digs rows k ((spr rows k u n).2.getD (val k s0) []) := by
      have hl : val k s0 < (spr rows k u n).2.length := by rw [so.l2]; exact hi
      rw [List.getD_eq_getElem?_getD, List.getD_eq_getElem?_getD, List.getElem?_map, List.getElem?_eq_getElem hl]
      rfl
    have hone := ih2 [x] (fun y hy => by rw [List.mem_singleton.mp hy]; exact hx)
    generalize hq : (spr rows k u n).2.getD (val k s0) [] = sec at *
    have e2 : act rows sec [x] = [(stepW rows sec x).1] := rfl
    rw [e2] at hone
    constructor
    · show (ext k _ _).getD _ 0 = _
      rw [(spr_extOk h hu n).get hi hx, ih1, e1, digs_get hx, hone, val_snoc]
    · intro t ht
      have e3 : (spr rows k u (n + 1)).2.getD (k * val k s0 + x) [] = cutW (stepW rows sec x).2 := by
        show (List.flatMap _ _).getD _ [] = _
        rw [flat_get (d := []) (fun a _ => secs_len rows k a) (by rw [so.l2]; exact hi) hx, hq]
        unfold secs
        rw [List.getD_eq_getElem?_getD, List.getElem?_map, List.getElem?_range hx]
        rfl
      rw [e3, act_cut h ht (stepW_ok h wsec hx).2, List.append_assoc, hone, List.append_assoc]
      exact ih2 (x :: t) fun y hy => by
        rcases List.mem_cons.mp hy with rfl | hy
        · exact hx
        · exact ht y hy
theorem word_append {m : Nat} {u v : List Ltr} (hu : WordOk m u) (hv : WordOk m v) : WordOk m (u ++ v) := fun l hl => (List.mem_append.mp hl).elim (hu l) (hv l)
theorem word_und {m : Nat} {u : List Ltr} (hu : WordOk m u) : WordOk m (undW u) := fun l hl => by
  obtain ⟨q, hq, rfl⟩ := List.mem_map.mp hl
  exact hu q (List.mem_reverse.mp hq)
/-- the product of two words -/
theorem spr_mul (h : Mach k rows) {u v : List Ltr} (hu : WordOk rows.length u) (hv : WordOk rows.length v) (n : Nat) : (spr rows k (u ++ v) n).1 = comp (spr rows k v n).1 (spr rows k u n).1 := by
  have hk : 0 < k := by have := h.k2; omega
  have i1 := spr_isP h (word_append hu hv) n
  have i2 := spr_isP h hu n
  refine ext_getD (by rw [comp_len, i1.len, i2.len]) fun i hi => ?_
  rw [i1.len] at hi
  obtain ⟨s, h1, h2, rfl⟩ := val_onto hk n i hi
  obtain ⟨l1, l2⟩ := act_ok h hu h2
  rw [(spr_act h (word_append hu hv) h1 h2).1, comp_get (by rw [i2.len]; exact hi), (spr_act h hu h1 h2).1, (spr_act h hv (l1.trans h1) l2).1, act_append]
theorem spr_nil (h : Mach k rows) (n : Nat) : (spr rows k [] n).1 = List.range (k ^ n) := by
  have hk : 0 < k := by have := h.k2; omega
  have hw : WordOk rows.length [] := fun l hl => absurd hl (by simp)
  have i1 := spr_isP h hw n
  refine ext_getD (by rw [i1.len, List.length_range]) fun i hi => ?_
  rw [i1.len] at hi
  rw [range_getD hi]
  obtain ⟨s, h1, h2, rfl⟩ := val_onto hk n i hi
  rw [(spr_act h hw h1 h2).1, act_nil_word]
theorem act_und (h : Mach k rows) : ∀ {u : List Ltr} {s : List Nat}, WordOk rows.length u → StrOk k s → act rows (u ++ undW u) s = s
  | [], s, _, _ => act_nil_word s
  | l :: u, s, hu, hs => by
    have hl := hu l List.mem_cons_self
    have hu' : WordOk rows.length u := fun m hm => hu m (List.mem_cons_of_mem _ hm)
    have hw : WordOk rows.length [l] := fun m hm => by rw [List.mem_singleton.mp hm]; exact hl
    have e : l :: u ++ undW (l :: u) = [l] ++ ((u ++ undW u) ++ [inv l]) := by
      unfold undW
      rw [List.reverse_cons, List.map_append, List.append_assoc]
      rfl
    rw [e, act_append, act_append, act_und h hu' (act_ok h hw hs).2, ← act_append]
    exact act_pair h hl hs
theorem spr_und (h : Mach k rows) {u : List Ltr} (hu : WordOk rows.length u) (n : Nat) : comp (spr rows k (undW u) n).1 (spr rows k u n).1 = List.range (k ^ n) := by
  have hk : 0 < k := by have := h.k2; omega
  have hw := word_append hu (word_und hu)
  rw [← spr_mul h hu (word_und hu)]
  have i1 := spr_isP h hw n
  refine ext_getD (by rw [i1.len, List.length_range]) fun i hi => ?_
  rw [i1.len] at hi
  rw [range_getD hi]
  obtain ⟨s, h1, h2, rfl⟩ := val_onto hk n i hi
  rw [(spr_act h hw h1 h2).1, act_und h hu h2]
end
/-! ### the groups of the levels -/
def stepsOf (rows : Rows) (k : Nat) (ws : List (List Ltr)) (n : Nat) : List (List Nat) := ws.map fun u => (spr rows k u n).1
def WordsOk (m : Nat) (ws : List (List Ltr)) : Prop := ∀ u ∈ ws, WordOk m u
section
variable {k : Nat} {rows : Rows} {ws : List (List Ltr)} {n : Nat} {L : List P}
theorem steps_isP (h : Mach k rows) (hw : WordsOk rows.length ws) : ∀ s ∈ stepsOf rows k ws n, IsP (k ^ n) s := fun s hs => by
  obtain ⟨u, hu, rfl⟩ := List.mem_map.mp hs
  exact spr_isP h (hw u hu) n
theorem range_Wl (h : Mach k rows) (n : Nat) : List.range (k ^ n) ∈ Wl k n := by
  rw [← spr_nil h n]
  exact spr_ext h (fun l hl => absurd hl (by simp)) n
theorem gen_Wl (h : Mach k rows) (hw : WordsOk rows.length ws) {p : P} (g : Gen (stepsOf rows k ws n) (k ^ n) p) : p ∈ Wl k n := by
  induction g with
  | rest => exact range_Wl h n
  | step _ hs ih =>
    obtain ⟨u, hu, rfl⟩ := List.mem_map.mp hs
    exact Wl_comp ih (spr_ext h (hw u hu) n)
/-- the bound of the loop that makes them all -/
theorem Wl_small (h : Mach k rows) (h3 : n ≤ 3) (h9 : k ^ n ≤ 9) : (Wl k n).length ≤ 1296 := by
  have k2 := h.k2
  have k3 := h.k3
  have hk : k = 2 ∨ k = 3 := by omega
  rcases hk with rfl | rfl
  · have hn : n = 0 ∨ n = 1 ∨ n = 2 ∨ n = 3 := by omega
    rcases hn with rfl | rfl | rfl | rfl
    · rw [Wl_20]; decide
    · rw [Wl_21]; decide
    · rw [Wl_22]; decide
    · rw [Wl_23]; decide
  · have hn : n = 0 ∨ n = 1 ∨ n = 2 ∨ n = 3 := by omega
    rcases hn with rfl | rfl | rfl | rfl
    · rw [Wl_30]; decide
    · rw [Wl_31]; decide
    · rw [Wl_32]; decide
    · exact absurd h9 (by decide)
theorem gens_short (h : Mach k rows) (hw : WordsOk rows.length ws) (h3 : n ≤ 3) (h9 : k ^ n ≤ 9) {M : List P} (hM : M.Nodup) (hg : ∀ p ∈ M, Gen (stepsOf rows k ws n) (k ^ n) p) : M.length ≤ 1296 :=
  Nat.le_trans (List.Nodup.length_le_of_subset hM fun p hp => gen_Wl h hw (hg p hp)) (Wl_small h h3 h9)
/-- LAW: the size divides the number of all rearrangements -/
theorem size_all (h : Mach k rows) (hw : WordsOk rows.length ws) (hL : Lists (stepsOf rows k ws n) (k ^ n) L) : L.length ∣ (Wl k n).length :=
  hL.lagrange (Wl_nodup (by have := h.k2; omega) n) (fun p hp => Wl_isP hp) fun p hp q hq => Wl_comp hp (gen_Wl h hw ((hL.mem q).mp hq))
theorem proj_steps (h : Mach k rows) (hw : WordsOk rows.length ws) : ∀ s ∈ stepsOf rows k ws (n + 1), proj k s ∈ stepsOf rows k ws n := fun s hs => by
  obtain ⟨u, hu, rfl⟩ := List.mem_map.mp hs
  rw [spr_proj h (hw u hu)]
  exact List.mem_map.mpr ⟨u, hu, rfl⟩
theorem proj_range (h : Mach k rows) (n : Nat) : proj k (List.range (k ^ (n + 1))) = List.range (k ^ n) := by
  rw [← spr_nil h (n + 1), spr_proj h (fun l hl => absurd hl (by simp)), spr_nil h n]
theorem proj_gen (h : Mach k rows) (hw : WordsOk rows.length ws) {p : P} (g : Gen (stepsOf rows k ws (n + 1)) (k ^ (n + 1)) p) : Gen (stepsOf rows k ws n) (k ^ n) (proj k p) := by
  induction g with
  | rest => rw [proj_range h]; exact .rest
  | step g hs ih =>
    obtain ⟨u, hu, rfl⟩ := List.mem_map.mp hs
    rw [proj_Wl (by have := h.k2; omega) (gen_Wl h hw g) (spr_ext h (hw u hu) (n + 1))]
    exact .step ih (proj_steps h hw _ hs)
/-- LAW: the size on a level divides that on the next one -/
theorem size_next (h : Mach k rows) (hw : WordsOk rows.length ws) {L' : List P} (hL : Lists (stepsOf rows k ws (n + 1)) (k ^ (n + 1)) L) (hL' : Lists (stepsOf rows k ws n) (k ^ n) L') : L'.length ∣ L.length := by
  have hk : 0 < k := by have := h.k2; omega
  refine hL.onto hL' (f := proj k) (fun p hp => (hL'.mem _).mpr (proj_gen h hw ((hL.mem p).mp hp))) (fun q hq => ?_) fun p hp q hq => proj_Wl hk (gen_Wl h hw ((hL.mem p).mp hp)) (gen_Wl h hw ((hL.mem q).mp hq))
  have g := (hL'.mem q).mp hq
  clear hq
  induction g with
  | rest => exact ⟨_, hL.one, proj_range h n⟩
  | step g hs ih =>
    obtain ⟨p, hp, e⟩ := ih
    obtain ⟨u, hu, rfl⟩ := List.mem_map.mp hs
    have hm : (spr rows k u (n + 1)).1 ∈ L := (hL.mem _).mpr (Gen.of_mem hL.sok (List.mem_map.mpr ⟨u, hu, rfl⟩))
    refine ⟨comp (spr rows k u (n + 1)).1 p, hL.mul hp hm, ?_⟩
    rw [proj_Wl hk (gen_Wl h hw ((hL.mem p).mp hp)) (spr_ext h (hw u hu) (n + 1)), e, spr_proj h (hw u hu)]
/-- products of the words and of the undone words -/
inductive Prod (ws : List (List Ltr)) : List Ltr → Prop
  | nil : Prod ws []
  | pos {p u : List Ltr} : Prod ws p → u ∈ ws → Prod ws (p ++ u)
  | neg {p u : List Ltr} : Prod ws p → u ∈ ws → Prod ws (p ++ undW u)
theorem Prod.ok {m : Nat} (hw : WordsOk m ws) {p : List Ltr} (g : Prod ws p) : WordOk m p := by
  induction g with
  | nil => exact fun l hl => absurd hl (by simp)
  | pos _ hu ih => exact word_append ih (hw _ hu)
  | neg _ hu ih => exact word_append ih (word_und (hw _ hu))
/-- LAW: the level permutation of a product is a member -/
theorem prod_mem (h : Mach k rows) (hw : WordsOk rows.length ws) (hL : Lists (stepsOf rows k ws n) (k ^ n) L) {p : List Ltr} (g : Prod ws p) : (spr rows k p n).1 ∈ L := by
  induction g with
  | nil => rw [spr_nil h]; exact hL.one
  | pos g hu ih =>
    rw [spr_mul h (g.ok hw) (hw _ hu)]
    exact hL.mul ih ((hL.mem _).mpr (Gen.of_mem hL.sok (List.mem_map.mpr ⟨_, hu, rfl⟩)))
  | neg g hu ih =>
    rw [spr_mul h (g.ok hw) (word_und (hw _ hu))]
    refine hL.mul ih (hL.inv_mem (s := (spr rows k _ n).1) ((hL.mem _).mpr (Gen.of_mem hL.sok (List.mem_map.mpr ⟨_, hu, rfl⟩))) (spr_isP h (word_und (hw _ hu)) n) (spr_und h (hw _ hu) n))
end
/-! ### orbits -/
inductive Reach (S : List P) (x : Nat) : Nat → Prop
  | refl : Reach S x x
  | step {y : Nat} {s : P} : Reach S x y → s ∈ S → Reach S x (s.getD y 0)
section
variable {S : List P} {N : Nat} {L : List P}
theorem Reach.lt (hS : ∀ s ∈ S, IsP N s) {x y : Nat} (hx : x < N) (h : Reach S x y) : y < N := by
  induction h with
  | refl => exact hx
  | step _ hs ih => exact (hS _ hs).lt _ ih
theorem Lists.reach (hL : Lists S N L) {x y : Nat} (hx : x < N) : Reach S x y ↔ ∃ g ∈ L, g.getD x 0 = y := by
  constructor
  · intro h
    induction h with
    | refl => exact ⟨_, hL.one, range_getD hx⟩
    | step _ hs ih =>
      obtain ⟨g, hg, e⟩ := ih
      refine ⟨comp _ g, hL.mul hg ((hL.mem _).mpr (Gen.of_mem hL.sok hs)), ?_⟩
      rw [comp_get (by rw [(hL.isP hg).len]; exact hx), e]
  · rintro ⟨g, hg, rfl⟩
    have g' := (hL.mem g).mp hg
    clear hg
    induction g' with
    | rest => rw [range_getD hx]; exact .refl
    | step g hs ih =>
      rw [comp_get (by rw [(g.isP hL.sok).len]; exact hx)]
      exact .step ih hs
theorem Lists.reach_symm (hL : Lists S N L) {x y : Nat} (hx : x < N) (h : Reach S x y) : Reach S y x := by
  have hy := h.lt hL.sok hx
  obtain ⟨g, hg, e⟩ := (hL.reach hx).mp h
  obtain ⟨t, ht, e1, e2⟩ := hL.inv hg
  refine (hL.reach hy).mpr ⟨t, ht, ?_⟩
  have e3 : (comp t g).getD x 0 = x := by rw [e2, range_getD hx]
  rw [comp_get (by rw [(hL.isP hg).len]; exact hx), e] at e3
  exact e3
theorem Reach.trans {x y z : Nat} (a : Reach S x y) (b : Reach S y z) : Reach S x z := by
  induction b with
  | refl => exact a
  | step _ hs ih => exact .step ih hs
/-- LAW: the orbit's size times the keepers' number is the size -/
theorem Lists.orbit_size (hL : Lists S N L) {st x : Nat} (hst : st < N) (hx : Reach S st x) {O : List Nat} (hO : O.Nodup) (hm : ∀ y, y ∈ O ↔ Reach S st y) : L.length = O.length * (L.filter fun g => decide (g.getD x 0 = x)).length := by
  have hxN := hx.lt hL.sok hst
  rw [← List.countP_eq_length_filter]
  refine hL.orbit hxN hO fun y => ?_
  rw [hm, ← hL.reach hxN]
  exact ⟨fun h => (hL.reach_symm hst hx).trans h, fun h => hx.trans h⟩
end
end LT
set_option linter.all false
set_option Elab.async false
set_option maxRecDepth 100000
set_option maxHeartbeats 4000000
/-! Rules of my own over the layer: sorted of tuples of ints of any number, extend by a tuple, enumerate of a tuple, a text backwards, a dict display with a tuple key. -/
namespace LTR
open PySem PySem.Spec PyProof.Rows L2

/-! ### sorted(xs), xs tuples of d ints, any number of them -/
section
variable {prog : Program} {w : World} {A : Around} {s : Shared}
def ltC (h : Heap) (B : Int) (v u : Value) : Bool := decide (TS.code B (TS.intsOf h v) < TS.code B (TS.intsOf h u))
theorem swoC (h : Heap) (B : Int) : SrtO.Swo (ltC h B) := by
  refine ⟨fun x y e => ?_, fun x y z e1 e2 => ?_⟩
  · have a := of_decide_eq_true e
    exact decide_eq_false (by omega)
  · have a := of_decide_eq_false e1
    have b := of_decide_eq_false e2
    exact decide_eq_false (by omega)
/-- tuples of d small ints can be told apart by their codes -/
theorem tups_sortable {at_ : Addr} {d : Nat} {B : Int} {us : List Value} (h0 : Heap) (hd : 1 ≤ d) (two : 2 ≤ us.length) (good : TS.TupsOk h0 d B us) (grown : ∀ b o, h0.get? b = some o → s.heap.get? b = some o)
    (noTup : ∀ o, s.heap.get? at_ = some o → o.cls ≠ .type "tuple") : SrtO.SortableO prog w A s at_ us (ltC h0 B) := fun h' same => by
  have stay : ∀ b o, h0.get? b = some o → o.cls = .type "tuple" → h'.get? b = some o := fun b o e c => by
    have e1 := grown b o e
    by_cases z : b = at_
    · subst z
      exact absurd c (noTup o e1)
    · exact same b o z e1
  have heads := TS.firsts_of hd us (good.keeps stay)
  obtain ⟨fs, kinds, _, whole⟩ := heads
  refine ⟨tuples' true, fun Q E done => PySem.W.kat_kind (T := Value.type "int") kinds (by omega) (fun f hf => ?_) rfl done, fun p q hp hq => ?_⟩
  · obtain ⟨m, tk, e⟩ := whole f hf
    subst e
    exact .of_pure rfl
  · obtain ⟨ns, t1, len1, bd1⟩ := good _ hp
    obtain ⟨ms, t2, len2, bd2⟩ := good _ hq
    have told : ltC h0 B p.1 q.1 = decide (TS.code B ns < TS.code B ms) := by
      unfold ltC
      rw [t1.ints, t2.ints]
    obtain ⟨b1, zs1, eq1, ⟨o1, got1, _, n1, dat1⟩, in1⟩ := t1.keeps stay
    obtain ⟨b2, zs2, eq2, ⟨o2, got2, _, n2, dat2⟩, in2⟩ := t2.keeps stay
    have even : decide (zs1.size < zs2.size) = false := by
      have a1 := in1.length
      have a2 := in2.length
      rw [Array.length_toList] at a1
      rw [Array.length_toList] at a2
      exact decide_eq_false (Nat.not_lt.mpr (by omega))
    show wpAny (model prog w) A (keyLt' (tuples' true) p.1 q.1) (fun r s' => s' = { s with heap := h' } ∧ r = ltC h0 B p.1 q.1) (fun _ _ => False) { s with heap := h' }
    rw [told, eq1, eq2]
    refine PySem.W.kat_lt (s := { s with heap := h' }) got1 dat1 got2 dat2 ?_
    rw [even]
    exact TS.lex_ints 0 in1 in2 (by omega) bd1 bd2 ⟨rfl, rfl⟩
end
def rSortTU (K : PySem.W.Frag) (d : Nat) (B : Int) : List V → Hp → VK → Prop := fun vs H Q => ∃ (a : Addr) (xs : List V), vs = [V.ref a] ∧ SqL K H a xs ∧ (∀ x ∈ xs, ∃ ns, TupI K H x ns ∧ ns.length = d ∧ TS.Bd B ns) ∧
  ∀ (ys : List V) (p : Addr), ys.Perm xs → H p = none → Q (.ref p) (upd H p (.lst ys))
theorem cr_sortTU {X : Cx} {d : Nat} {B : Int} (hd : 1 ≤ d) : CallR X (.builtin "sorted") (rSortTU X.K d B) := fun pins s σ H vs us Q I rel h => by
  obtain ⟨a, xs, evs, at_, each, fin⟩ := h
  subst evs
  rw [Vals.ref1 rel]
  obtain ⟨raws, like, isL, short⟩ := I.list at_
  obtain ⟨back, refs⟩ := bkV_refs like fun x m => (each x m).elim fun ns r => r.1.elim fun t q => ⟨t, q.1⟩
  have good : TS.TupsOk s.heap d B raws := fun u hu => by
    obtain ⟨t, et⟩ := refs u hu
    subst et
    have inXs : V.ref t ∈ xs := back ▸ List.mem_map_of_mem (f := bkV) hu
    obtain ⟨ns, ⟨t2, et2, tup⟩, ln, bd⟩ := each _ inXs
    cases et2
    exact ⟨ns, tupI_raw I tup, ln, bd⟩
  refine SrtO.sorted_ord (swoC s.heap B) isL.isList (by rw [← like.length]; exact short) (fun two h₁ b gb kept => tups_sortable (s := { s with heap := h₁ }) s.heap hd two good (fun c o e => (kept c o e).2) fun o e c => ?_) fun out h1 sorted => ?_
  · have same : some o = some (seqObj "list" raws.toArray 0) := e.symm.trans gb
    cases same
    exact absurd (Value.type.inj c) (by decide +revert)
  · have perm : (out.map bkV).Perm xs := back ▸ sorted.perm.map bkV
    have long : (out.map bkV).length ≤ sizeLine := perm.length_eq ▸ short
    obtain ⟨pe, laid⟩ := PyProof.Rows.sortedAll_at s.heap raws out.toArray
    exact ⟨.ref _, upd H (s.heap.objs.size + 1) (.lst (out.map bkV)), I.laid (t' := s.toks) (fun _ _ => PyProof.Rows.sortedAll_old) (Nat.le_succ _) ⟨long, out, pe, bkV_vals fun u hu => refs u (sorted.perm.mem_iff.mp hu), laid⟩, rfl, fin _ _ perm (I.hok.fresh (Nat.le_succ _))⟩

/-! ### xs.extend(t), t a tuple -/
section
/-- the built-in itself: the list's items and then the tuple's -/
theorem extend_tup (l b : Addr) (xs ys : Array Value) (n n2 : Nat) (dd : Option Addr) (sl : Array (Option Value)) (notLong : ¬(!xs.isEmpty && Builtin.List.listTooLong (xs.size + ys.size)) = true) (few : xs.size ≤ sizeLine) (both : (xs ++ ys).size ≤ sizeLine + 1) :
    Meets (Builtin.«list.extend» ⟨[.ref l, .ref b], []⟩) (fun _ R s => s.heap.get? l = some { cls := .type "list", dict := none, data := .seq xs n, slots := #[] } ∧ s.heap.get? b = some { cls := .type "tuple", dict := dd, data := .seq ys n2, slots := sl } ∧ R (.ok (.ret Value.none)) { s with heap := s.heap.update l (Obj.mapSeq fun x => x ++ ys), toks := s.toks }) := by
  refine .of_wp fun _ _ _ R s h => ?_
  cases s
  obtain ⟨atL, atB, goal⟩ := h
  have notLong := notLong; have f1 := AutoSeq1.idx_int; have f2 := AutoSeq1.sub_tuple_tuple; have f3 := AutoSeq1.sub_list_list; have f4 := AutoSeq1.sub_tuple_list; have f5 := AutoSeq1.sub_list_tuple
  wp_walk using (wpAny_updateSeq atL rfl (hz := few) (_hz' := both)), AutoSeq1.wpAny_loadPart' atL, AutoSeq1.wpAny_loadPart' atB
  exact ⟨_, rfl, goal⟩
end
def rExtT (K : PySem.W.Frag) : V → List V → Hp → VK → Prop := fun x vs H Q => ∃ l b xs zs, x = .ref l ∧ vs = [.ref b] ∧ H l = some (.lst xs) ∧ SqT K H b zs ∧ xs.length + zs.length ≤ sizeLine ∧ Q .non (upd H l (.lst (xs ++ zs)))
theorem mt_extT {X : Cx} : MtM X "list.extend" (rExtT X.K) := fun pins s σ H x vs v us Q I ofX ofVs h => by
  obtain ⟨l, b, xs, zs, ex, evs, atL, atB, room, fin⟩ := h
  subst ex evs
  cases ofX
  obtain ⟨w1, ew, ofB⟩ := ofVs.one
  subst ew
  cases ofB
  obtain ⟨raw2, like2, ⟨⟨cls2, dd2, dat2, sl2⟩, got2, isTup, n2, isSeq⟩, _⟩ := I.tuple atB
  cases (show cls2 = .type "tuple" from isTup)
  cases (show dat2 = .seq raw2.toArray n2 from isSeq)
  obtain ⟨_, raw1, n1, like1, _, got1⟩ := I.lstM atL
  have c1 := like1.length
  have c2 := like2.length
  have s1 : raw1.toArray.size = raw1.length := by simp
  have s2 : raw2.toArray.size = raw2.length := by simp
  have all : raw1.toArray.size + raw2.toArray.size ≤ sizeLine := by omega
  have longNot : ¬ (!raw1.toArray.isEmpty && Builtin.List.listTooLong (raw1.toArray.size + raw2.toArray.size)) = true := fun z => by
    rw [Bool.and_eq_true, notLongL all] at z
    exact Bool.false_ne_true z.2
  have walk := extend_tup l b raw1.toArray raw2.toArray n1 n2 dd2 sl2 longNot (by omega) (by rw [Array.size_append]; omega)
  refine call_meets F.slot_list_extend ⟨_, got1, rfl⟩ F.entry_list_extend (F.args_list_extend_2 (.ref l) (.ref b)) walk ⟨got1, got2, ?_⟩
  exact ⟨.non, _, I.lset (its' := raw1 ++ raw2) (t' := s.toks) atL got1 (by simp) (like1.append like2) (by rw [List.length_append]; exact room), rfl, fin⟩

/-! ### a text backwards -/
def revS (z : Str) : Str := ⟨z.cps.toList.reverse.toArray⟩
theorem sliceBy_rev (z : Str) (u : Tok) : Txt.sliceBy z none none (-1, u) = revS z := by
  have told := step_rev_list z u
  have same : (Txt.sliceBy z none none (-1, u)).cps.toList = z.cps.toList.reverse := by
    rw [told]
    apply List.ext_getElem
    · simp [Str.length]
    intro i h1 h2
    rw [List.length_reverse, Array.length_toList] at h2
    simp only [List.getElem_map, List.getElem_range, List.getElem_reverse, Array.length_toList, Str.length]
    rw [Array.getD_eq_getD_getElem?, Array.getElem?_eq_getElem (by omega)]
    rfl
  unfold revS
  rw [← same]
/-- the slice's last part: -1 -/
theorem po_back {X : Cx} {k : Nat} {p1 p2 : Pos} : PO X (some (.UnaryOp .USub (.Constant (.int 1) k p1) p2)) (tPart (tUn (rU fun n => .int (-n)) (tC (.int 1)))) :=
  po_some (pe_un un_neg pe_int)
theorem pe_revS {X : Cx} {e : Expr} {te : TE} {k : Nat} {p1 p2 p3 pos : Pos} (he : PE X e te) : PE X (.Subscript e (.Slice none none (some (.UnaryOp .USub (.Constant (.int 1) k p1) p2)) p3) pos)
    (fun σ H Q => te σ H fun x H1 => ∃ z, x = .str z ∧ z.length ≤ sizeLine ∧ Q (.str (revS z)) H1) := .mk fun pins s σ H Q I h => by
  refine Subscript_ (thn (he.run pins s σ H _ I h) ?_)
  rintro _ t1 ⟨x, G, J1, isX, z, rfl, few, goal⟩
  obtain ⟨tok, rfl⟩ := isX
  -- no start
  refine wpAny_Slice (thn (po_none.run pins t1 σ G (fun o G2 => G2 = G ∧ o = none) J1 ⟨rfl, rfl⟩) ?_)
  rintro v1 t2 ⟨_, _, J2, r1, rfl, rfl⟩
  -- no end
  refine thn (po_none.run pins t2 σ _ (fun o G3 => G3 = _ ∧ o = none) J2 ⟨rfl, rfl⟩) ?_
  rintro v2 t3 ⟨_, _, J3, r2, rfl, rfl⟩
  -- by -1
  refine thn (po_back.run pins t3 σ _ (fun o G4 => G4 = _ ∧ o = some (-1)) J3 ⟨1, rfl, -1, rfl, rfl, rfl⟩) ?_
  rintro v3 t4 ⟨_, _, J4, r3, rfl, rfl⟩
  have J5 := J4.kept (t' := t4.toks) (h' := t4.heap.push { cls := .type "slice", data := .fields #[v1, v2, v3] }) fun c o g => Heap.get?_push_of_some _ g
  cases r1; cases r2
  cases r3 with
  | int n by_ =>
    have slim : (Txt.sliceBy z none none (-1, by_)).length ≤ z.length := Txt.sliceBy_le z none none (-1, by_) (by decide : (-1 : Int) ≠ 0)
    have said := sliceBy_rev z by_
    refine tail_any (ops := [.ref t4.heap.objs.size, .str z tok]) (typeIs_str _ _ _) F.slot_str_getitem.lookup ?_ (by with_unfolding_all rfl)
    refine wpAny_getItem_str_slice (l := none) (u := none) (st := some (-1, by_)) ⟨_, Heap.get?_push_size _ rfl, rfl, rfl⟩ (by decide : ((-1 : Int) == 0) = false) ?_
    unfold Txt.sliceBy at said slim
    refine post_val_or_str ⟨Nat.le_trans slim few, fun t5 grown => ?_⟩
    rw [said]
    exact ⟨.str (revS z), _, J5.tok grown, ⟨_, rfl⟩, goal⟩

/-! ### enumerate(t), t a tuple -/
/-- the iterator over the tuple, and the enumerate over it -/
abbrev itO (l : Addr) : Obj := { cls := .type "tuple_iterator", data := .fields #[.ref l, .int 0 0] }
abbrev enO (it : Addr) : Obj := { cls := .type "enumerate", data := .fields #[.none, .bool false, .ref it, rawInt 0, .none, .none] }
theorem new_enumT (l : Addr) (xs : Array Value) (n : Nat) (dd : Option Addr) (sl : Array (Option Value)) :
    Meets (Builtin.«enumerate.__new__» ⟨[.type "enumerate", .ref l], []⟩) (fun _ R s => s.heap.get? l = some { cls := .type "tuple", dict := dd, data := .seq xs n, slots := sl } ∧
      R (.ok (.ret (.ref (s.heap.push (itO l)).objs.size))) { s with heap := (s.heap.push (itO l)).push (enO s.heap.objs.size) }) := by
  refine .of_wp fun _ _ _ R s h => ?_
  cases s
  obtain ⟨atL, goal⟩ := h
  have hsub := sub_enumerate
  have tup : Heap.IsTuple _ l xs := ⟨_, atL, rfl, n, rfl⟩
  wp_walk using AutoSeq1.wpAny_loadPart' atL
  refine wpAny_stack_any fun _ => wpAny_pure ?_
  split
  · rename_i c _ _ _ _ _
    cases (c == .type "enumerate") <;> (wp_walk using AutoSeq1.wpAny_loadPart' atL, wpAny_pyIter_tuple tup; exact ⟨_, rfl, goal⟩)
  · wp_walk using AutoSeq1.wpAny_loadPart' atL, wpAny_pyIter_tuple tup
    exact ⟨_, rfl, goal⟩
/-- what the turns keep of the heap: the enumerate e before its i-th number, over the iterator `it` of the tuple at a -/
def EnAt (a e it : Addr) (i : Nat) (h : Heap) : Prop := (∃ old, IsEnum h e it (i : Int) old) ∧ h.IsTupleIter it a i ∧ e ≠ it
theorem call_enumT {prog : Program} {w : World} {A : Around} {E : Value → Shared → Prop} {s : Shared} {l : Addr} {xs : Array Value} {Q : Value → Shared → Prop} (tup : s.heap.IsTuple l xs)
    (fin : ∀ h', EnAt l (s.heap.objs.size + 1) s.heap.objs.size 0 h' → IsEnum h' (s.heap.objs.size + 1) s.heap.objs.size 0 .none → (∀ c o, s.heap.get? c = some o → h'.get? c = some o) → Q (.ref (s.heap.objs.size + 1)) { s with heap := h' }) :
    wpAny (model prog w) A (call (.type "enumerate") [Value.ref l]) Q E s := by
  obtain ⟨⟨cls, dd, dat, sl⟩, got, isTup, n, isSeq⟩ := tup
  cases (show cls = .type "tuple" from isTup)
  cases (show dat = .seq xs n from isSeq)
  have grown : ∀ c o, s.heap.get? c = some o → ((s.heap.push (itO l)).push (enO s.heap.objs.size)).get? c = some o := fun c o g => Heap.get?_push_of_some _ (Heap.get?_push_of_some _ g)
  have one : (s.heap.push (itO l)).objs.size = s.heap.objs.size + 1 := Heap.size_push ..
  have enum : IsEnum ((s.heap.push (itO l)).push (enO s.heap.objs.size)) (s.heap.objs.size + 1) s.heap.objs.size 0 .none := one ▸ Heap.get?_push_size (s.heap.push (itO l)) (o := enO s.heap.objs.size) rfl
  have iter : ((s.heap.push (itO l)).push (enO s.heap.objs.size)).IsTupleIter s.heap.objs.size l 0 := ⟨_, Heap.get?_push_of_some _ (Heap.get?_push_size _ rfl), rfl, rfl⟩
  refine callType_new F.called_enumerate (by decide) (F.typeCall_enumerate_1 (.ref l)) (F.newCall_enumerate_1 (.ref l)) (F.args_object_init_2 · (.ref l)) F.entry_enumerate_new (new_enumT l xs n dd sl) ⟨got, ?_⟩
  show _ ∧ _
  rw [one]
  exact ⟨⟨_, enum, rfl⟩, fin _ ⟨⟨_, enum⟩, iter, Nat.succ_ne_self _⟩ enum grown⟩
/-- a new pair at each turn: the number, the tuple's item -/
def IteT (K : PySem.W.Frag) (a : Addr) : It where
  go i H := ∃ (xs : List V) (x : V), SqT K H a xs ∧ xs[i]? = some x
  yld i H v H' := ∃ T x, v = .ref T ∧ H T = none ∧ H' = upd H T (.tup [.int (i : Nat), x]) ∧ ∀ xs, SqT K H a xs → xs[i]? = some x
  stop i H := ∃ xs : List V, SqT K H a xs ∧ xs.length ≤ i
theorem EnAt.two {a e it : Addr} {i : Nat} {h : Heap} (st : EnAt a e it i h) {b : Addr} (hb : b ∈ [e, it]) : ∃ o, h.get? b = some o ∧ ∀ v, o.data ≠ .cell v := by
  obtain ⟨⟨old, en⟩, ⟨o, got, _, dat⟩, _⟩ := st
  rcases List.mem_cons.mp hb with z | z
  · exact z ▸ ⟨_, en, fun v q => by cases q⟩
  · exact (List.mem_singleton.mp z) ▸ ⟨o, got, fun v q => by cases dat.symm.trans q⟩
theorem EnAt.stays {a e it : Addr} {i : Nat} {h h' : Heap} (st : EnAt a e it i h) (k : ∀ b ∈ [e, it], ∀ o, h.get? b = some o → h'.get? b = some o) : EnAt a e it i h' :=
  ⟨st.1.elim fun old en => ⟨old, k e List.mem_cons_self _ en⟩, st.2.1.at fun o g => k it (List.mem_cons_of_mem _ List.mem_cons_self) o g, st.2.2⟩
/-- the tuple is none of the two -/
theorem EnAt.apart {a e it : Addr} {i : Nat} {h : Heap} {xs : Array Value} (st : EnAt a e it i h) (tup : h.IsTuple a xs) : a ≠ e ∧ a ≠ it := by
  obtain ⟨⟨old, en⟩, ⟨o1, got1, c1, _⟩, _⟩ := st
  obtain ⟨o2, got2, c2, _⟩ := tup
  refine ⟨fun z => ?_, fun z => ?_⟩
  · subst z
    cases Option.some.inj (en.symm.trans got2)
    exact absurd (Value.type.inj c2) (by decide)
  · subst z
    cases Option.some.inj (got1.symm.trans got2)
    exact absurd (Value.type.inj (c1.symm.trans c2)) (by decide)
theorem turn_enumT {P : Program} {w : World} {K : PySem.W.Frag} {elts : List Expr} {kk : Nat} {tpos : Pos} (a e it : Addr) :
    Turn P w K (.Tuple elts kk tpos) (IteT K a) [e, it] e (EnAt a e it) := by
  refine ⟨List.mem_cons_self, fun i h st b hb => st.two hb, fun i h h' st k => st.stays k, ?_, ?_, fun A i s Q E st h => st.1.elim fun old en => wpAny_pyIter_enum en h⟩
  · rintro X rfl rfl rfl calm i pins s σ H E I free st ⟨xs, x, atA, hx⟩
    obtain ⟨raws, like, tup, _⟩ := I.tuple atA
    obtain ⟨u, hu, isX⟩ := like.get hx
    obtain ⟨ae, ai⟩ := st.apart tup
    obtain ⟨⟨old, en⟩, iter, two⟩ := st
    have elt : e < s.heap.objs.size := Heap.lt_size en
    have ilt : it < s.heap.objs.size := iter.elim fun _ g => Heap.lt_size g.1
    have raw : raws.toArray[i]? = some u := by rw [List.getElem?_toArray]; exact hu
    have inside : i < raws.toArray.size := (Array.getElem?_eq_some_iff.mp raw).1
    refine wpAny_pyNext_enum_itemD (Draws.tuple (show X.A.in1.handled = none from I.ok.hd calm) it a ai raws.toArray) en ⟨iter, tup⟩ (i := i) inside two (by simp [two, ae.symm]) fun y h1 tk hy got next pair _ kept => ?_
    cases Option.some.inj (raw.symm.trans hy)
    refine ⟨_, rfl, wpAny_letOwnedTupleGo_enum (s := { s with heap := h1, toks := tk + 1 }) got fun h2 en2 other => ?_⟩
    have pair2 := (other.2 s.heap.objs.size (Nat.ne_of_lt elt).symm).trans pair
    have old2 : ∀ b ob, b ∉ [e, it] → s.heap.get? b = some ob → h2.get? b = some ob := fun b ob nb g => by
      have ne1 : b ≠ e := fun z => nb (z ▸ List.mem_cons_self)
      have ne2 : b ≠ it := fun z => nb (z ▸ List.mem_cons_of_mem _ List.mem_cons_self)
      exact (other.2 b ne1).trans (kept b ob ne1 ne2 g)
    have I2 : Inv X pins σ (upd H s.heap.objs.size (.tup [.int (i : Nat), x])) { s with heap := h2, toks := tk + 1 } :=
      I.turnedNew (ch := [e, it]) old2 free (Nat.le_refl _) ⟨(by decide : 2 ≤ sizeLine), [.int i tk, u], .cons ⟨_, rfl⟩ (.cons isX .nil), ⟨_, pair2, rfl, _, rfl⟩⟩
    have gone : ∀ b ∈ [e, it], upd H s.heap.objs.size (.tup [.int (i : Nat), x]) b = none := fun b hb => by
      have below : b < s.heap.objs.size := (List.mem_cons.mp hb).elim (fun z => z ▸ elt) fun z => List.mem_singleton.mp z ▸ ilt
      rw [upd_ne (Nat.ne_of_lt below), (free b hb).1]
    refine ⟨.ref s.heap.objs.size, _, I2, rfl, ⟨_, x, rfl, I.hok.fresh (Nat.le_refl _), rfl, fun ys hy => I.tuple_inj hy atA ▸ hx⟩, ⟨⟨u, ?_⟩, next.1.at fun o g => (other.2 it two.symm).trans g, two⟩, gone⟩
    rw [Int.natCast_add]
    exact en2
  · rintro X rfl rfl rfl calm i pins s σ H E I free ⟨⟨old, en⟩, iter, two⟩ ⟨xs, atA, past⟩
    obtain ⟨raws, like, tup, _⟩ := I.tuple atA
    have len := like.length
    have isE : s.TypeIs (.ref e) "enumerate" := ⟨_, en, rfl⟩
    unfold pyNext
    refine wpAny_bind (wpAny_attempt (wpAny_callSpecial?_slot (name := "__next__") isE F.slot_enumerate_next (wpAny_call_entry F.slot_enumerate_next isE F.entry_enumerate_next ?_ (F.args_enumerate_next_1 (.ref e)))))
    show wpAny _ X.A.in1 (field (Value.ref e) 2 >>= _) _ _ s
    refine wpAny_bind (wpAny_field en (i := 2) rfl (x := .ref it) rfl (wpAny_bind (PySem.wpAny_nextOf_tuple_end (show X.A.in1.handled = none from I.ok.hd calm) iter tup (by rw [List.getElem?_toArray]; exact List.getElem?_eq_none (by omega)) fun h1 c same isStop => ?_)))
    refine isStop.elim fun o g => wpAny_bind (wpAny_isInstance (T := "StopIteration") (b := true) ⟨o, g.1, g.2⟩ isSubtype_stop (wpAny_pure ⟨rfl, ?_⟩))
    obtain ⟨n0, n1, _, n3, n4, n5⟩ := free it (List.mem_cons_of_mem _ List.mem_cons_self)
    exact I.turned (t' := s.toks) (fun b ob nb g => same b ob nb g) n0 n1 n3 n4 n5
def iEnumT (K : PySem.W.Frag) (ta : TA) : TI := fun σ H R => ta σ H fun vs H1 => ∃ a xs, vs = [.ref a] ∧ SqT K H1 a xs ∧ R (IteT K a) H1
theorem pi_enumT {X : Cx} {e : Expr} {ta : TA} {p pos tpos : Pos} {elts : List Expr} {kk : Nat} (hg : Gl X "enumerate") (hm : X.mg "enumerate" = none) (ha : PA X [e] ta) (hs : starEach [e] X.env = [(false, eval e X.env)] := by rfl) :
    PI X (.Tuple elts kk tpos) (.Call (.Name "enumerate" p) [e] [] pos) (iEnumT X.K ta) := .mk fun pins s σ H R I h => by
  have arg := ha.run pos pins s σ H _ I h
  refine Call_ (ld_blt I hg hm boot_enumerate (PyProof.Rows.callWith_type1 (thn arg ?_) hs rfl))
  rintro us t ⟨vs, G, J, rel, a, xs, rfl, atA, goal⟩
  cases rel with
  | cons isA none_ =>
    cases none_
    cases isA
    obtain ⟨raws, _, tup, _⟩ := J.tuple atA
    refine call_enumT (show t.heap.IsTuple a raws.toArray from tup) fun h1 st en grown => wpAny_pyIter_enum en ?_
    have high : ∀ b ∈ [t.heap.objs.size + 1, t.heap.objs.size], t.heap.objs.size ≤ b := fun b hb => (List.mem_cons.mp hb).elim (fun z => z ▸ Nat.le_succ _) fun z => List.mem_singleton.mp z ▸ Nat.le_refl _
    exact ⟨t.heap.objs.size + 1, [t.heap.objs.size + 1, t.heap.objs.size], _, _, G, rfl, J.kept (t' := t.toks) grown, turn_enumT a (t.heap.objs.size + 1) t.heap.objs.size, st, fun b hb => J.fpOk (high b hb) (J.hok.fresh (high b hb)), goal⟩
/-- over a tuple that the body leaves as it is, by the layer's walks -/
theorem walk_enumT {K : PySem.W.Frag} {a : Addr} {xs : List V} : Walk (IteT K a) xs.length (fun H => SqT K H a xs) (YPair (fun i => some (.int (i : Nat))) fun i => xs[i]?) where
  goes i H hi q := ⟨xs, xs[i], q, List.getElem?_eq_getElem hi⟩
  stops H q := ⟨xs, q, Nat.le_refl _⟩
  yields i H v H' hi q := fun ⟨T, x, e1, e2, e3, e4⟩ => ⟨T, _, x, e1, e2, e3, rfl, e4 xs q⟩

/-! ### {k: v}, k a tuple -/
def tDispT (tk tv : TE) : TE := fun σ H Q => ∀ p, H p = none → tk σ (upd H p (.dT [])) fun x H1 => tv σ H1 fun y H2 => ∃ b k, x = .ref b ∧ H2 p = some (.dT []) ∧ H2 b = some (.tup (k.map kV)) ∧ Q (.ref p) (upd H2 p (.dT (putK [] k y)))
theorem pe_dispT {X : Cx} {pos : Pos} {k v : Expr} {tk tv : TE} (hu : X.A.units + 1 < cLine) (hk : PE X k tk) (hv : PE X v tv) : PE X (.Dict [some k] [v] pos) (tDispT tk tv) := .mk fun pins s σ H Q I goal => by
  have free := I.hok.fresh (Nat.le_refl s.heap.objs.size)
  have start := I.laid (a := s.heap.objs.size) (o := .dT []) (h' := s.heap.push { cls := .type "dict", data := .dict #[] }) (t' := s.toks) (fun _ _ g => Heap.get?_push_of_some _ g) (Nat.le_refl _) (dt_empty s.heap I.big)
  have trees : (evalEachOpt [some k] X.env).zip ((evalEach [v] X.env).map fun t => do let r ← t; standAt pos; pure r) = (pairTrees [some k] [v] X.env pos).map fun b => (some b.1, b.2) := zip_pairTrees [some k] [v] X.env pos rfl rfl
  rw [arm_eval_Dict, trees, dictDisplay_pairs (pairTrees [some k] [v] X.env pos) (by intro z; cases z) (by decide : 1 < 17)]
  refine wpAny_bind (wpAny_standAt (wpAny_bind (wpAny_subDictH (knd := tupleKind (mixKind X.prog X.w)) (Q := fun d s' => wpAny (model X.prog X.w) X.A (pure (Value.ref d)) (EP X pins σ Q) X.xe s') (Nat.lt_of_succ_lt hu) (by decide : 1 ≤ 15) ?_)))
  refine pairTrees_cons_walk (thn (hk.run pins _ σ _ _ start (goal _ free)) ?_)
  rintro u t1 ⟨x, H1, J1, isK, goal1⟩
  refine thn (hv.run pins t1 σ H1 _ J1 goal1) ?_
  rintro w2 t2 ⟨y, H2, J2, isV, b, ks, rfl, atD, atK, goal2⟩
  refine pairTrees_nil_walk ?_
  cases (show u = Value.ref b from isK)
  obtain ⟨_, dHash, _, rel, keyed⟩ := dt_of J2.hok atD
  cases rel
  refine ⟨[(ks, b, w2)], ⟨rfl, rfl, key_of J2.hok atK, trivial⟩, keyed, fun h3 tk3 after same => wpAny_pure ⟨.ref s.heap.objs.size, _, ?_, rfl, goal2⟩⟩
  obtain ⟨oo, es, ep, got, g2, g3, g4, _, g5⟩ := after
  have pairs : KT H2 (putK [] ks y) (storedH [] ks b w2) := .put (H := H2) .nil ks atK isV
  have few : (putK ([] : List (List Key × V)) ks y).length ≤ sizeLine := by
    have := length_putK ([] : List (List Key × V)) ks y
    rw [List.length_nil] at this
    exact Nat.le_trans this (by decide)
  refine d_write (t' := tk3) J2 (by rw [atD]; trivial) same ⟨oo, got⟩ ⟨few, dHash, _, pairs.keeps fun c ys at2 => ?_, oo, es, ep, got, g2, g3, g4, g5⟩
  rw [upd_ne (ne_of at2 atD (by intro z; cases z))]
  exact at2
end LTR
set_option linter.all false
set_option Elab.async false
set_option maxRecDepth 100000
set_option maxHeartbeats 4000000
/-! The program's text by places, and how its data stand in the heap. -/
namespace LT
open PySem PySem.Spec PyProof.Rows L2 LTR
def topS (i : Nat) : Stmt := PySem.Challenge.pw_leafturner_k42_whole_sizes_of_groups.main.body.getD i (.Pass ⟨0, 0, 0, 0⟩)
/-! ### heaps -/
theorem same_upd {H : Hp} {p : Addr} {o : HO} (h : H p = none) : Same H (upd H p o) := fun b x e => by
  rw [upd_ne (ne_of_none e h)]
  exact e
theorem _root_.L2.Same.upd' {H H' : Hp} {p : Addr} {o : HO} (s : Same H H') (h : H' p = none) : Same H (upd H' p o) := s.trans (same_upd h)
/-- a numbers' value -/
def nV (n : Nat) : V := .int (n : Int)
/-- item by item -/
structure AllAt {α : Type} (F : V → α → Prop) (vs : List V) (xs : List α) : Prop where
  len : vs.length = xs.length
  at_ : ∀ (i : Nat) (v : V) (x : α), vs[i]? = some v → xs[i]? = some x → F v x
theorem AllAt.nil {α : Type} {F : V → α → Prop} : AllAt F [] [] := ⟨rfl, fun i v x h => by simp at h⟩
theorem AllAt.snoc {α : Type} {F : V → α → Prop} {vs : List V} {xs : List α} {v : V} {x : α} (h : AllAt F vs xs) (hv : F v x) : AllAt F (vs ++ [v]) (xs ++ [x]) := by
  refine ⟨by rw [List.length_append, List.length_append, h.len]; rfl, fun i u y h1 h2 => ?_⟩
  by_cases hi : i < vs.length
  · rw [List.getElem?_append_left hi] at h1
    rw [List.getElem?_append_left (by rw [← h.len]; exact hi)] at h2
    exact h.at_ i u y h1 h2
  · rw [List.getElem?_append_right (by omega)] at h1
    rw [List.getElem?_append_right (by rw [← h.len]; omega), ← h.len] at h2
    have e : i - vs.length = 0 := by
      have := (List.getElem?_eq_some_iff.mp h1).1
      simp at this
      omega
    rw [e] at h1 h2
    cases h1
    cases h2
    exact hv
theorem AllAt.imp {α : Type} {F G : V → α → Prop} {vs : List V} {xs : List α} (h : AllAt F vs xs) (k : ∀ v x, F v x → G v x) : AllAt G vs xs := ⟨h.len, fun i v x a b => k v x (h.at_ i v x a b)⟩
theorem AllAt.get {α : Type} {F : V → α → Prop} {vs : List V} {xs : List α} (h : AllAt F vs xs) {i : Nat} {v : V} (e : vs[i]? = some v) : ∃ x, xs[i]? = some x ∧ F v x := by
  have hi := (List.getElem?_eq_some_iff.mp e).1
  have hx : xs[i]? = some (xs[i]'(by rw [← h.len]; exact hi)) := List.getElem?_eq_getElem _
  exact ⟨_, hx, h.at_ i v _ e hx⟩
theorem AllAt.got {α : Type} {F : V → α → Prop} {vs : List V} {xs : List α} (h : AllAt F vs xs) {i : Nat} {x : α} (e : xs[i]? = some x) : ∃ v, vs[i]? = some v ∧ F v x := by
  have hi := (List.getElem?_eq_some_iff.mp e).1
  have hx : vs[i]? = some (vs[i]'(by rw [h.len]; exact hi)) := List.getElem?_eq_getElem _
  exact ⟨_, hx, h.at_ i _ x hx e⟩
/-- an entry of a row -/
def EntAt (H : Hp) (v : V) (e : Nat × Nat) : Prop := ∃ a, v = .ref a ∧ H a = some (.tup [nV e.1, nV e.2])
def RowAt (H : Hp) (v : V) (row : List (Nat × Nat)) : Prop := ∃ a vs, v = .ref a ∧ H a = some (.tup vs) ∧ AllAt (EntAt H) vs row
def MachAt (H : Hp) (v : V) (k : Nat) (rows : List (List (Nat × Nat))) : Prop := ∃ a r vs, v = .ref a ∧ H a = some (.tup [nV k, .ref r]) ∧ H r = some (.tup vs) ∧ AllAt (RowAt H) vs rows
def PermAt (H : Hp) (v : V) (p : List Nat) : Prop := ∃ a, v = .ref a ∧ H a = some (.tup (p.map nV))
section
variable {H H' : Hp} {v : V}
theorem EntAt.same {e : Nat × Nat} (s : Same H H') (h : EntAt H v e) : EntAt H' v e := let ⟨a, e1, e2⟩ := h; ⟨a, e1, s _ _ e2⟩
theorem RowAt.same {row : List (Nat × Nat)} (s : Same H H') (h : RowAt H v row) : RowAt H' v row := let ⟨a, vs, e1, e2, e3⟩ := h; ⟨a, vs, e1, s _ _ e2, e3.imp fun _ _ z => z.same s⟩
theorem MachAt.same {k : Nat} {rows : List (List (Nat × Nat))} (s : Same H H') (h : MachAt H v k rows) : MachAt H' v k rows := let ⟨a, r, vs, e1, e2, e3, e4⟩ := h; ⟨a, r, vs, e1, s _ _ e2, s _ _ e3, e4.imp fun _ _ z => z.same s⟩
theorem PermAt.same {p : List Nat} (s : Same H H') (h : PermAt H v p) : PermAt H' v p := let ⟨a, e1, e2⟩ := h; ⟨a, e1, s _ _ e2⟩
end
def code (l : Ltr) : Nat := if l.2 then 65 + l.1 else 97 + l.1
def wS (w : List Ltr) : Str := ⟨(w.map code).toArray⟩
end LT
set_option linter.all false
set_option Elab.async false
set_option maxRecDepth 100000
set_option maxHeartbeats 4000000
/-! The defs by place; what the top has left (printed by mktab.py). -/
namespace LT
open PySem PySem.Spec PyProof.Rows L2 LTR
abbrev sIsRow : Stmt := topS 12
abbrev sIsWide : Stmt := topS 13
abbrev sIsMach : Stmt := topS 14
abbrev sChMach : Stmt := topS 15
abbrev sOther : Stmt := topS 21
abbrev sLettersOf : Stmt := topS 22
abbrev sIsWord : Stmt := topS 23
abbrev sCut : Stmt := topS 24
abbrev sRefWord : Stmt := topS 25
abbrev sChWord : Stmt := topS 26
abbrev sChLevel : Stmt := topS 31
abbrev sPowerOf : Stmt := topS 32
abbrev sSpread : Stmt := topS 33
abbrev sChCall : Stmt := topS 34
abbrev sLevelP : Stmt := topS 35
abbrev sPerms : Stmt := topS 38
abbrev sOrbOf : Stmt := topS 39
abbrev sReached : Stmt := topS 40
abbrev sOrbits : Stmt := topS 41
abbrev sAllProd : Stmt := topS 42
abbrev sMembers : Stmt := topS 43
abbrev sSize : Stmt := topS 44
abbrev sKeepers : Stmt := topS 45
abbrev sNum : Stmt := topS 47
abbrev sDraws : Stmt := topS 48
abbrev sNext : Stmt := topS 49
abbrev sLmach : Stmt := topS 50
abbrev sLword : Stmt := topS 51
abbrev sUndone : Stmt := topS 52
abbrev sStrings : Stmt := topS 56
abbrev sInit : Stmt := inClass (topS 28) 0
abbrev sStep : Stmt := inClass (topS 28) 1
abbrev sRow : Stmt := inClass (topS 28) 3
abbrev sLaw : Stmt := topS 58
/-- a def of the text, by its name in the module -/
structure Df (K : PySem.W.Frag) (mg : Str → Option Value) (x : Str) (st : Stmt) (f : Addr) (fd : FuncData) (ps : List Str) : Prop where
  mg : mg x = some (.ref f)
  fn : Fun K x x st f fd
  bd : Binds K fd ps []
/-- a method of the text -/
structure Mt (K : PySem.W.Frag) (C : Addr) (x q : Str) (st : Stmt) (f : Addr) (fd : FuncData) (ps : List Str) : Prop where
  fn : Fun K x q st f fd
  bd : Binds K fd ps []
structure Tab (K : PySem.W.Frag) (mg : Str → Option Value) where
  fIsRow : Addr
  dIsRow : FuncData
  isRow : Df K mg "_is_row" sIsRow fIsRow dIsRow ["row", "k", "count"]
  fIsWide : Addr
  dIsWide : FuncData
  isWide : Df K mg "is_wide" sIsWide fIsWide dIsWide ["machine"]
  fIsMach : Addr
  dIsMach : FuncData
  isMach : Df K mg "is_machine" sIsMach fIsMach dIsMach ["machine"]
  fChMach : Addr
  dChMach : FuncData
  chMach : Df K mg "check_machine" sChMach fChMach dChMach ["machine"]
  fOther : Addr
  dOther : FuncData
  other : Df K mg "other" sOther fOther dOther ["letter"]
  fLettersOf : Addr
  dLettersOf : FuncData
  lettersOf : Df K mg "letters_of" sLettersOf fLettersOf dLettersOf ["machine"]
  fIsWord : Addr
  dIsWord : FuncData
  isWord : Df K mg "is_word" sIsWord fIsWord dIsWord ["machine", "word"]
  fCut : Addr
  dCut : FuncData
  cut : Df K mg "cut" sCut fCut dCut ["word"]
  fRefWord : Addr
  dRefWord : FuncData
  refWord : Df K mg "refuse_word" sRefWord fRefWord dRefWord ["machine", "word"]
  fChWord : Addr
  dChWord : FuncData
  chWord : Df K mg "check_word" sChWord fChWord dChWord ["machine", "word"]
  fChLevel : Addr
  dChLevel : FuncData
  chLevel : Df K mg "check_level" sChLevel fChLevel dChLevel ["k", "level"]
  fPowerOf : Addr
  dPowerOf : FuncData
  powerOf : Df K mg "power_of" sPowerOf fPowerOf dPowerOf ["k", "level"]
  fSpread : Addr
  dSpread : FuncData
  spread : Df K mg "spread" sSpread fSpread dSpread ["machine", "word", "level"]
  fChCall : Addr
  dChCall : FuncData
  chCall : Df K mg "check_call" sChCall fChCall dChCall ["machine", "words", "level"]
  fLevelP : Addr
  dLevelP : FuncData
  levelP : Df K mg "level_permutation" sLevelP fLevelP dLevelP ["machine", "word", "level"]
  fPerms : Addr
  dPerms : FuncData
  perms : Df K mg "permutations" sPerms fPerms dPerms ["machine", "words", "level"]
  fOrbOf : Addr
  dOrbOf : FuncData
  orbOf : Df K mg "orbits_of" sOrbOf fOrbOf dOrbOf ["size", "steps"]
  fReached : Addr
  dReached : FuncData
  reached : Df K mg "reached" sReached fReached dReached ["start", "steps", "met"]
  fOrbits : Addr
  dOrbits : FuncData
  orbits : Df K mg "orbits" sOrbits fOrbits dOrbits ["machine", "words", "level"]
  fAllProd : Addr
  dAllProd : FuncData
  allProd : Df K mg "all_products" sAllProd fAllProd dAllProd ["rest", "steps"]
  fMembers : Addr
  dMembers : FuncData
  members : Df K mg "members" sMembers fMembers dMembers ["machine", "words", "level"]
  fSize : Addr
  dSize : FuncData
  size : Df K mg "size" sSize fSize dSize ["machine", "words", "level"]
  fKeepers : Addr
  dKeepers : FuncData
  keepers : Df K mg "keepers" sKeepers fKeepers dKeepers ["machine", "words", "level", "number"]
  fNum : Addr
  dNum : FuncData
  num : Df K mg "_law_number" sNum fNum dNum ["_law_cell"]
  fDraws : Addr
  dDraws : FuncData
  draws : Df K mg "_law_draws" sDraws fDraws dDraws ["_law_script"]
  fNext : Addr
  dNext : FuncData
  next : Df K mg "_law_next" sNext fNext dNext ["_law_draws_here"]
  fLmach : Addr
  dLmach : FuncData
  lmach : Df K mg "_law_machine" sLmach fLmach dLmach ["_law_draws_here", "_law_most"]
  fLword : Addr
  dLword : FuncData
  lword : Df K mg "_law_word" sLword fLword dLword ["_law_draws_here", "_law_machine_here", "_law_most"]
  fUndone : Addr
  dUndone : FuncData
  undone : Df K mg "_law_undone" sUndone fUndone dUndone ["_law_word_here"]
  fStrings : Addr
  dStrings : FuncData
  strings : Df K mg "_law_strings" sStrings fStrings dStrings ["_law_k", "_law_level_here"]
  C : Addr
  fInit : Addr
  dInit : FuncData
  init : Mt K C "__init__" "Actor.__init__" sInit fInit dInit ["self", "machine"]
  fStep : Addr
  dStep : FuncData
  step : Mt K C "step" "Actor.step" sStep fStep dStep ["self", "word", "digit"]
  fRow : Addr
  dRow : FuncData
  row : Mt K C "row" "Actor.row" sRow fRow dRow ["self", "word"]
  cl : Cls K C
  nSize : NoAttr K C "size"
  nTable : NoAttr K C "table"
  mgC : mg "Actor" = some (.ref C)
  mkC : Mk K C fInit
  mStep : Meth K C "step" fStep
  mRow : Meth K C "row" fRow
  cLEASTDIGITS : ∃ t, mg "LEAST_DIGITS" = some (.int 2 t)
  cMOSTDIGITS : ∃ t, mg "MOST_DIGITS" = some (.int 4 t)
  cMOSTSTATES : ∃ t, mg "MOST_STATES" = some (.int 8 t)
  cMOSTWIDE : ∃ t, mg "MOST_WIDE" = some (.int 200 t)
  cLONGEST : ∃ t, mg "LONGEST" = some (.int 60 t)
  cMOSTSTRINGS : ∃ t, mg "MOST_STRINGS" = some (.int 4096 t)
  cMOSTMEMBERS : ∃ t, mg "MOST_MEMBERS" = some (.int 5000 t)
  cSMALL : ∃ t, mg "SMALL" = some (.str "abcdefgh" t)
  cLARGE : ∃ t, mg "LARGE" = some (.str "ABCDEFGH" t)
  cORDER : ∃ t, mg "ORDER" = some (.str "aAbBcCdDeEfFgGhH" t)
  bLen : mg "len" = none
  bSorted : mg "sorted" = none
  bList : mg "list" = none
  bRange : mg "range" = none
  bAll : mg "all" = none
  bEnumerate : mg "enumerate" = none
  bTuple : mg "tuple" = none
  bZip : mg "zip" = none
  bInt : mg "int" = none
  bStr : mg "str" = none
end LT
set_option linter.all false
set_option Elab.async false
set_option maxRecDepth 100000
set_option maxHeartbeats 4000000
namespace LT
open PySem PySem.Spec PyProof.Rows L2 LTR
theorem upd_eq {H : Hp} {d : Addr} {o : HO} (h : H d = some o) : upd H d o = H := by
  funext b
  unfold upd
  split
  · rename_i e
    rw [e, h]
  · rfl
theorem nV_mod (x : Int) : nV (x % 1000).toNat = V.int (x % 1000) := by
  unfold nV
  rw [Int.toNat_of_nonneg (by omega)]
theorem yesIf {σ : L2.St} {H : Hp} {A B : Hp → Prop} (h : A H) : tYes σ H (fun b H3 => if b = true then A H3 else B H3) := by
  show if true = true then A H else B H
  rw [if_pos rfl]
  exact h
theorem small {n : Nat} (m : Nat) (h : n ≤ m) (hm : m < sizeLine := by decide) : n < sizeLine := Nat.lt_of_le_of_lt h hm
theorem small' {n : Nat} (m : Nat) (h : n ≤ m) (hm : m ≤ sizeLine := by decide) : n ≤ sizeLine := Nat.le_trans h hm
theorem take_snoc {α : Type} {l : List α} {i : Nat} {x : α} (h : l[i]? = some x) : l.take (i + 1) = l.take i ++ [x] := by
  rw [List.take_add_one, h]
  rfl
theorem _root_.L2.Same.up {H H' : Hp} {p : Addr} {o : HO} (s : Same H H') (h : H p = none) : Same H (upd H' p o) := fun b x e => by
  rw [upd_ne (ne_of_none e h)]
  exact s b x e
/-- an address that was free and holds something else than another one -/
theorem free_of {H H' : Hp} {p : Addr} (s : Same H H') (h : H' p = none) : H p = none := s.free h
/-- all but d is as it was -/
def SameBut (d : Addr) (H H' : Hp) : Prop := ∀ b o, b ≠ d → H b = some o → H' b = some o
theorem SameBut.of {d : Addr} {H H' : Hp} (s : Same H H') : SameBut d H H' := fun b o _ e => s b o e
theorem SameBut.trans {d : Addr} {H H1 H2 : Hp} (a : SameBut d H H1) (b : SameBut d H1 H2) : SameBut d H H2 := fun c o n e => b c o n (a c o n e)
theorem SameBut.up {d p : Addr} {o : HO} {H H' : Hp} (a : SameBut d H H') (h : H' p = none) : SameBut d H (upd H' p o) := fun c u n e => by
  have e1 := a c u n e
  rw [upd_ne (ne_of_none e1 h)]
  exact e1
theorem SameBut.own {d : Addr} {o : HO} {H H' : Hp} (a : SameBut d H H') : SameBut d H (upd H' d o) := fun c u n e => by
  rw [upd_ne n]
  exact a c u n e
theorem SameBut.free {d : Addr} {H H' : Hp} (a : SameBut d H H') {p : Addr} (hp : p ≠ d) (h : H' p = none) : H p = none := by
  cases q : H p with
  | none => rfl
  | some o =>
    rw [a p o hp q] at h
    cases h
theorem SameBut.same {d : Addr} {H H' : Hp} (a : SameBut d H H') (h : H d = none) : Same H H' := fun b o e => a b o (ne_of_none e h) e
/-- tuples stay -/
def TupS (H H' : Hp) : Prop := ∀ b xs, H b = some (.tup xs) → H' b = some (.tup xs)
theorem TupS.of {H H' : Hp} (s : Same H H') : TupS H H' := fun b xs h => s b _ h
theorem TupS.trans {H H1 H2 : Hp} (a : TupS H H1) (b : TupS H1 H2) : TupS H H2 := fun c xs h => b c xs (a c xs h)
theorem TupS.updL {H : Hp} {D : Addr} {l : List V} {o : HO} (h : H D = some (.lst l)) : TupS H (upd H D o) := fun b xs e => by
  rw [upd_ne (ne_of e h (by intro z; cases z))]
  exact e
theorem TupS.updD {H : Hp} {D : Addr} {l : List (Key × V)} {o : HO} (h : H D = some (.dK l)) : TupS H (upd H D o) := fun b xs e => by
  rw [upd_ne (ne_of e h (by intro z; cases z))]
  exact e
theorem TupS.updT {H : Hp} {D : Addr} {l : List (List Key × V)} {o : HO} (h : H D = some (.dT l)) : TupS H (upd H D o) := fun b xs e => by
  rw [upd_ne (ne_of e h (by intro z; cases z))]
  exact e
section
variable {H H' : Hp} {v : V}
theorem EntAt.tups {e : Nat × Nat} (s : TupS H H') (h : EntAt H v e) : EntAt H' v e := let ⟨a, e1, e2⟩ := h; ⟨a, e1, s _ _ e2⟩
theorem RowAt.tups {row : List (Nat × Nat)} (s : TupS H H') (h : RowAt H v row) : RowAt H' v row := let ⟨a, vs, e1, e2, e3⟩ := h; ⟨a, vs, e1, s _ _ e2, e3.imp fun _ _ z => z.tups s⟩
theorem MachAt.tups {k : Nat} {rows : List (List (Nat × Nat))} (s : TupS H H') (h : MachAt H v k rows) : MachAt H' v k rows := let ⟨a, r, vs, e1, e2, e3, e4⟩ := h; ⟨a, r, vs, e1, s _ _ e2, s _ _ e3, e4.imp fun _ _ z => z.tups s⟩
theorem PermAt.tups {p : List Nat} (s : TupS H H') (h : PermAt H v p) : PermAt H' v p := let ⟨a, e1, e2⟩ := h; ⟨a, e1, s _ _ e2⟩
end
theorem rgV_0 (k : Nat) : rgV 0 (k : Int) = (List.range k).map nV := by
  unfold rgV
  rw [show ((k : Int) - 0).toNat = k by omega]
  refine List.map_congr_left fun i _ => ?_
  show V.int (0 + (i : Int)) = V.int (i : Int)
  rw [Int.zero_add]
theorem rgOk {k : Nat} (h : k ≤ 1000) : RgOk 0 (k : Int) := by
  unfold RgOk
  refine ⟨by decide, by decide, ?_, ?_, ?_⟩ <;> omega
/-! ### rules with the written part named (for a comprehension's block) -/
section
variable {X : Cx} {K : PySem.W.Frag}
def rLenK (K : PySem.W.Frag) : List V → Hp → VK → Prop := fun xs H Q => ∃ p ys, xs = [.ref p] ∧ (SqL K H p ys ∨ SqT K H p ys) ∧ Q (.int ys.length) H
theorem kx_len (h : X.K = K) : CallR X (.builtin "len") (rLenK K) := by subst h; exact call_len_seq
theorem kx_ixT (h : X.K = K) : IxR X (rIxT K) := by subst h; exact ix_tup
theorem kx_ixL (h : X.K = K) : IxR X (rIxL K) := by subst h; exact ix_list
theorem kx_in (h : X.K = K) : OpR X (compareOp .In) (rIn K false) := by subst h; exact op_in_seq
theorem kx_bm {e : Expr} {T : String} {r : V → List V → Hp → VK → Prop} {to : TE} {t : TA} (h : X.K = K) (he : PE X e (tBM X.K T r to t)) : PE X e (tBM K T r to t) := by subst h; exact he
theorem pe_gi {x : Str} {i : Int} {t : Tok} {pos : Pos} (hm : X.mg x = some (.int i t)) (hg : Gl X x := by rfl) (hd : (x == ("__debug__" : Str)) = false := by decide) : PE X (.Name x pos) (tC (.int i)) := pe_glob hg hm ⟨_, rfl⟩ hd
theorem pe_gs {x y : Str} {t : Tok} {pos : Pos} (hm : X.mg x = some (.str y t)) (hg : Gl X x := by rfl) (hd : (x == ("__debug__" : Str)) = false := by decide) : PE X (.Name x pos) (tC (.str y)) := pe_glob hg hm ⟨_, rfl⟩ hd
end
/-- x *= y of small numbers -/
theorem ip_mul {X : Cx} : PIp X .Mult (fun x y H Q => ∃ i j : Int, x = .int i ∧ y = .int j ∧ (-(2 ^ 64) < i ∧ i < 2 ^ 64) ∧ Q (.int (i * j)) H) := by
  intro pins s σ H x y v u Q I r1 r2 h
  obtain ⟨i, j, e1, e2, ⟨q1, q2⟩, q⟩ := h
  subst e1; subst e2
  obtain ⟨t, rfl⟩ := r1
  obtain ⟨t', rfl⟩ := r2
  exact imul_int ⟨.int _, H, I.tok _, ⟨_, rfl⟩, q⟩ (.of_left (intBits_le_64 q1 q2))
theorem nV_add (a b : Nat) : V.int ((a : Int) + (b : Int)) = nV (a + b) := by
  unfold nV
  rw [Int.natCast_add]
theorem nV_mul (a b : Nat) : V.int ((a : Int) * (b : Int)) = nV (a * b) := by
  unfold nV
  rw [Int.natCast_mul]
theorem nV_lin (k m d : Nat) : V.int ((k : Int) * (m : Int) + (d : Int)) = nV (k * m + d) := by
  unfold nV
  rw [Int.natCast_add, Int.natCast_mul]
/-! ### data for == and in -/
def natD (n : Nat) : PyData := .int (n : Int)
def tupD (p : List Nat) : PyData := .tuple (p.map natD)
section
variable {K : PySem.W.Frag} {H : Hp}
theorem dpAll_nat (ns : List Nat) : DpAll K H (ns.map nV) (ns.map natD) := by
  induction ns with
  | nil => exact .nil
  | cons n r ih => exact .cons (.int _) ih
theorem dp_lst {p : Addr} {ns : List Nat} (h : H p = some (.lst (ns.map nV))) : Dp K H (.ref p) (.list (ns.map natD)) := .lst (SqL.of h) (dpAll_nat ns)
theorem dp_tup {v : V} {p : List Nat} (h : PermAt H v p) : Dp K H v (tupD p) := by
  obtain ⟨a, rfl, h⟩ := h
  exact .tup (SqT.of h) (dpAll_nat p)
theorem dpAll_tups : ∀ {vs : List V} {ps : List (List Nat)}, AllAt (PermAt H) vs ps → DpAll K H vs (ps.map tupD)
  | [], [], _ => .nil
  | [], _ :: _, h => absurd h.len (by simp)
  | _ :: _, [], h => absurd h.len (by simp)
  | v :: vs, p :: ps, h => .cons (dp_tup (h.at_ 0 v p rfl rfl)) (dpAll_tups ⟨by have := h.len; simp at this; exact this, fun i u q a b => h.at_ (i + 1) u q a b⟩)
theorem dp_tups {l : Addr} {vs : List V} {ps : List (List Nat)} (h : H l = some (.lst vs)) (ha : AllAt (PermAt H) vs ps) : Dp K H (.ref l) (.list (ps.map tupD)) := .lst (SqL.of h) (dpAll_tups ha)
end
theorem nats_lay : ∀ ns : List Nat, PyData.canLayAll0 (ns.map natD) = true
  | [] => by simp [PyData.canLayAll0]
  | n :: r => by simp [PyData.canLayAll0, nats_lay r, natD, PyData.canLay0]
theorem nats_depth : ∀ ns : List Nat, PyData.depthAll (ns.map natD) ≤ 1
  | [] => by simp [PyData.depthAll]
  | n :: r => by
    have h1 := nats_depth r
    simp only [List.map_cons, PyData.depthAll, natD, PyData.depth]
    omega
theorem tups_lay : ∀ ps : List (List Nat), PyData.canLayAll0 (ps.map tupD) = true
  | [] => by simp [PyData.canLayAll0]
  | p :: r => by simp [PyData.canLayAll0, tups_lay r, tupD, PyData.canLay0, nats_lay p]
theorem tups_depth : ∀ ps : List (List Nat), PyData.depthAll (ps.map tupD) ≤ 3
  | [] => by simp [PyData.depthAll]
  | p :: r => by
    have h1 := tups_depth r
    have h2 := nats_depth p
    simp only [List.map_cons, PyData.depthAll, tupD, PyData.depth]
    omega
theorem sh_lst (ns : List Nat) : SeqAt.shaped (.list (ns.map natD)) = true := by
  have h := nats_depth ns
  unfold SeqAt.shaped
  rw [Bool.and_eq_true]
  exact ⟨by simp only [PyData.canLay0]; exact nats_lay ns, decide_eq_true (by simp only [PyData.depth]; omega)⟩
theorem sh_tup (p : List Nat) : SeqAt.shaped (tupD p) = true := by
  have h := nats_depth p
  unfold SeqAt.shaped tupD
  rw [Bool.and_eq_true]
  exact ⟨by simp only [PyData.canLay0]; exact nats_lay p, decide_eq_true (by simp only [PyData.depth]; omega)⟩
theorem sh_tups (ps : List (List Nat)) : SeqAt.shaped (.list (ps.map tupD)) = true := by
  have h := tups_depth ps
  unfold SeqAt.shaped
  rw [Bool.and_eq_true]
  exact ⟨by simp only [PyData.canLay0]; exact tups_lay ps, decide_eq_true (by simp only [PyData.depth]; omega)⟩
theorem nats_eqv : ∀ p q : List Nat, PyData.eqvAll (p.map natD) (q.map natD) = decide (p = q)
  | [], [] => by simp [PyData.eqvAll]
  | [], _ :: _ => by simp [PyData.eqvAll]
  | _ :: _, [] => by simp [PyData.eqvAll]
  | a :: p, b :: q => by
    have e : PyData.eqvAll ((a :: p).map natD) ((b :: q).map natD) = (((a : Int) == (b : Int)) && PyData.eqvAll (p.map natD) (q.map natD)) := by
      simp only [List.map_cons, PyData.eqvAll, natD, PyData.eqv]
    rw [e, nats_eqv p q]
    by_cases h : a = b
    · subst h
      simp
    · have h' : ((a : Int) == (b : Int)) = false := beq_eq_false_iff_ne.mpr (by omega)
      rw [h', Bool.false_and]
      exact (decide_eq_false (by intro z; exact h (List.cons.inj z).1)).symm
theorem tup_eqv (p q : List Nat) : PyData.eqv (tupD p) (tupD q) = decide (p = q) := by
  unfold tupD
  simp only [PyData.eqv]
  exact nats_eqv p q
theorem lst_eqv (p q : List Nat) : PyData.eqv (.list (p.map natD)) (.list (q.map natD)) = decide (p = q) := by
  simp only [PyData.eqv]
  exact nats_eqv p q
theorem tups_in (ps : List (List Nat)) (p : List Nat) : ((ps.map tupD).any fun z => PyData.eqv z (tupD p)) = decide (p ∈ ps) := by
  induction ps with
  | nil => simp
  | cons q r ih =>
    rw [List.map_cons, List.any_cons, ih, tup_eqv]
    by_cases h : p = q
    · subst h
      simp
    · by_cases h2 : p ∈ r
      · simp [h2]
      · simp [h, h2, Ne.symm h]
end LT
set_option linter.all false
set_option Elab.async false
set_option maxRecDepth 100000
set_option maxHeartbeats 4000000
namespace LT
open PySem PySem.Spec PyProof.Rows L2 LTR
section
variable {P : Program} {w : World} {K : PySem.W.Frag} {mg : Str → Option Value} {base : Heap}
/-! _law_number -/
theorem scNum : FnScope ["_law_cell"] ["_law_cell"] (defScope sNum) := ⟨rfl, rfl, rfl, by decide +kernel, rfl, by decide +kernel, by decide +kernel⟩
def spNum : Sp := fun vs H Q _ => ∃ n : Int, vs = [.int n] ∧ Q (nV n.natAbs) H
theorem ok_num (T : Tab K mg) : FnOk P w K mg base CX0 1 T.fNum T.dNum ["_law_cell"] spNum := by
  refine T.num.fn.ok scNum (fun vs H Q E h => ?_) (fun cdv A outer s H vs Q E hr h => ?_)
  · obtain ⟨n, rfl, _⟩ := h
    rfl
  · obtain ⟨n, rfl, k⟩ := h
    refine ⟨_, pss_cons (ps_if (pt_cmpR op_lt (pv 0) pe_int (nomark _)) (pss_one (ps_ret (pe_op op_sub pe_int (pv 0)))) pss_nil) (pss_one (ps_ret (pv 0))), ?_⟩
    refine ⟨_, rfl, _, _, rfl, rfl, _, rfl, ?_⟩
    refine ite2 (fun c => ?_) (fun c => ?_)
    · have c' := of_decide_eq_true c
      refine ⟨_, rfl, _, _, rfl, rfl, ?_⟩
      have e : (0 : Int) - n = (n.natAbs : Int) := by omega
      show Q (.int (0 - n)) H
      rw [e]
      exact k
    · refine ⟨_, rfl, ?_⟩
      have e : n = (n.natAbs : Int) := by simp at c; omega
      show Q (.int n) H
      rw [e]
      exact k
/-! _law_next -/
theorem scNext : FnScope ["_law_draws_here"] ["_law_draws_here"] (defScope sNext) := ⟨rfl, rfl, rfl, by decide +kernel, rfl, by decide +kernel, by decide +kernel⟩
/-- the draws that are left: a list of numbers below 1000 -/
def DrawsAt (H : Hp) (d : Addr) : Prop := ∃ ns : List Nat, H d = some (.lst (ns.map nV)) ∧ ∀ n ∈ ns, n < 1000
def spNext : Sp := fun vs H Q _ => ∃ d, vs = [.ref d] ∧ DrawsAt H d ∧ ∀ n H', n < 1000 → DrawsAt H' d → SameBut d H H' → Q (nV n) H'
theorem ok_next (T : Tab K mg) : FnOk P w K mg base CX0 1 T.fNext T.dNext ["_law_draws_here"] spNext := by
  refine T.next.fn.ok scNext (fun vs H Q E h => ?_) (fun cdv A outer s H vs Q E hr h => ?_)
  · obtain ⟨n, rfl, _⟩ := h
    rfl
  · obtain ⟨d, rfl, ⟨ns, hd, hn⟩, k⟩ := h
    refine ⟨_, pss_cons (ps_if (pt_truth (pv 0) (by intro _; rfl)) (pss_one (ps_ret (pe_bm0 PySem.F.plainAttrs_list PySem.F.slot_list_pop PySem.F.type_list_pop mt_pop (pv 0)))) pss_nil) (pss_one (ps_ret pe_int)), ?_⟩
    refine ⟨_, rfl, _, .inl ⟨_, SqL.of hd, rfl⟩, ?_⟩
    cases hl : ns.getLast? with
    | none =>
      have e : ns = [] := by simpa using hl
      subst e
      refine iteF ?_
      exact k 0 H (by decide) ⟨[], hd, by simp⟩ (fun b o _ e => e)
    | some z =>
      have hne : ns ≠ [] := by rintro rfl; simp at hl
      have ht : (!(ns.map nV).isEmpty) = true := by cases ns with
        | nil => exact absurd rfl hne
        | cons a r => rfl
      rw [ht]
      refine iteT ?_
      have hz : ns[ns.length - 1]? = some z := by rw [← List.getLast?_eq_getElem?]; exact hl
      refine ⟨_, rfl, .inl ⟨rfl, _, SqL.of hd⟩, d, _, nV z, rfl, rfl, hd, ?_, ?_⟩
      · rw [List.length_map, List.getElem?_map, hz]; rfl
      · refine k z _ (hn z (List.mem_of_getElem? hz)) ⟨ns.dropLast, ?_, fun n hm => hn n (List.dropLast_subset ns hm)⟩ (fun b o hb e => by rw [upd_ne hb]; exact e)
        rw [upd_same, List.map_dropLast]
/-! _law_draws -/
abbrev nmDraws : List Str := ["_law_script", "_law_draws_here", "_law_cell", "_law_rest", "_law_k", "_law_once", "_law_twice"]
theorem scDraws : FnScope nmDraws ["_law_script"] (defScope sDraws) := ⟨rfl, rfl, rfl, by decide +kernel, rfl, by decide +kernel, by decide +kernel⟩
def spDraws (K : PySem.W.Frag) : Sp := fun vs H Q _ => ∃ (a : Addr) (ns : List Int), vs = [.ref a] ∧ SqL K H a (ns.map V.int) ∧ ns.length ≤ 63 ∧ ∀ d H', Same H H' → H d = none → DrawsAt H' d → Q (.ref d) H'
theorem ok_draws (T : Tab K mg) : FnOk P w K mg base CX0 2 T.fDraws T.dDraws ["_law_script"] (spDraws K) := by
  have G : FnOk P w K mg base CX0 1 T.fNum T.dNum ["_law_cell"] spNum := ok_num T
  refine T.draws.fn.ok scDraws (fun vs H Q E h => ?_) (fun cdv A outer s H vs Q E hr h => ?_)
  · obtain ⟨a, ns, rfl, _⟩ := h
    rfl
  · obtain ⟨a, ns, rfl, hS, hlen, k⟩ := h
    have nd := scDraws.nd
    refine ⟨_, pss_cons (ps_set (i := 1) nd rfl (Or.inl rfl) (pe_lst pa_nil))
      (pss_cons (ps_for PassesOwn.never rfl (pi_list (pv 0)) (pg_name (i := 2) nd rfl (Or.inl rfl))
        (pss_cons (ps_set (i := 3) nd rfl (Or.inl rfl) (pe_call G hr rfl T.num.mg T.num.fn.kp T.num.bd .nil pass0 (pa_cons (pv 2) pa_nil)))
        (pss_one (ps_if (pt_cmpR op_ge (pv 3) pe_int (nomark _))
          (pss_one (ps_for PassesOwn.never rfl (pi_range1 rfl T.bRange (pa_cons pe_int pa_nil)) (pg_name (i := 4) nd rfl (Or.inl rfl))
            (pss_cons (ps_if (pt_cmpR op_eq (pv 3) pe_int (nomark _)) (pss_one ps_break) pss_nil)
            (pss_cons (ps_expr (pe_bm PySem.F.plainAttrs_list PySem.F.slot_list_append PySem.F.type_list_append mt_append (pv 1)
              (pa_cons (pe_op op_mod (pe_callTy call_int1 (by rfl) T.bInt (by decide +kernel) (pa_cons (pv 3) pa_nil)) pe_int) pa_nil)))
            (pss_one (ps_set (i := 3) nd rfl (Or.inl rfl) (pe_op op_fdiv (pv 3) pe_int)))))))
          (pss_cons (ps_set (i := 5) nd rfl (Or.inl rfl) (pe_op op_mod (pe_callTy call_int1 (by rfl) T.bInt (by decide +kernel) (pa_cons (pe_op op_add (pe_op op_mul (pv 3) pe_int) pe_int) pa_nil)) pe_int))
          (pss_cons (ps_set (i := 6) nd rfl (Or.inl rfl) (pe_op op_mod (pe_callTy call_int1 (by rfl) T.bInt (by decide +kernel) (pa_cons (pe_op op_add (pe_op op_mul (pv 5) pe_int) (pv 3)) pa_nil)) pe_int))
          (pss_one (ps_expr (pe_bm PySem.F.plainAttrs_list PySem.F.slot_list_extend PySem.F.type_list_extend mt_extend (pv 1)
            (pa_cons (pe_lst (pa_cons (pe_op op_mod (pe_callTy call_int1 (by rfl) T.bInt (by decide +kernel) (pa_cons (pv 3) pa_nil)) pe_int)
              (pa_cons (pe_op op_mod (pe_callTy call_int1 (by rfl) T.bInt (by decide +kernel) (pa_cons (pv 5) pa_nil)) pe_int)
              (pa_cons (pe_op op_mod (pe_callTy call_int1 (by rfl) T.bInt (by decide +kernel) (pa_cons (pv 6) pa_nil)) pe_int) pa_nil)))) pa_nil)))))))))
      )
      (pss_one (ps_ret (pv 1)))), ?_⟩
    refine ⟨by decide, fun d hd => ?_⟩
    refine ⟨_, rfl, a, rfl, ⟨_, (same_upd hd).seq hS⟩, for_list (K := K) (a := a) (xs := ns.map V.int) (fun i σ H2 => ∃ (ms : List Nat) (v2 v3 v4 v5 v6 : Option V), σ = [some (.ref a), some (.ref d), v2, v3, v4, v5, v6] ∧ Same H H2 ∧ H2 d = some (.lst (ms.map nV)) ∧ (∀ m ∈ ms, m < 1000) ∧ ms.length ≤ 60 * i)
      ⟨[], none, none, none, none, none, rfl, same_upd hd, upd_same, by simp, by simp⟩ (fun i σ H2 _ ⟨_, _, _, _, _, _, _, s2, _⟩ => s2.seq hS) ?_ ?_⟩
    · rintro i y σ H2 hi ⟨ms, v2, v3, v4, v5, v6, rfl, s2, h2, hm, hl⟩
      have hil : i < (ns.map V.int).length := (List.getElem?_eq_some_iff.mp hi).1
      rw [List.length_map] at hil
      obtain ⟨z, hz, rfl⟩ : ∃ z, ns[i]? = some z ∧ V.int z = y := by
        rw [List.getElem?_map] at hi
        exact Option.map_eq_some_iff.mp hi
      refine ⟨_, rfl, z, rfl, ?_⟩
      generalize z.natAbs = c
      refine ⟨_, rfl, _, _, rfl, rfl, _, rfl, ?_⟩
      refine ite2 (fun _ => ?_) (fun hc => ?_)
      · -- the long road
        refine ⟨60, rfl, by decide, by decide, for_range (n := 60) (fun j σ H3 => ∃ (ms : List Nat) (c : Nat) (v4 : Option V), σ = [some (.ref a), some (.ref d), some (.int z), some (nV c), v4, v5, v6] ∧ Same H H3 ∧ H3 d = some (.lst (ms.map nV)) ∧ (∀ m ∈ ms, m < 1000) ∧ ms.length ≤ 60 * i + j)
          ⟨ms, c, v4, rfl, s2, h2, hm, by omega⟩ ?_ ?_⟩
        · rintro j σ H3 hj ⟨ms, c, v4, rfl, s3, h3, hm, hl⟩
          refine ⟨_, rfl, rfl, _, rfl, ?_⟩
          refine ite2 (fun _ => ?_) (fun _ => ?_)
          · show ∃ ms : List Nat, _
            exact ⟨ms, _, _, _, _, _, rfl, s3, h3, hm, by omega⟩
          · refine ⟨_, rfl, .inl ⟨rfl, _, SqL.of h3⟩, _, rfl, .inl ⟨_, rfl, _, _, rfl, rfl, (by show (0 : Int) < 1000; decide), d, _, _, rfl, rfl, h3, ?_, ?_⟩⟩
            · rw [List.length_map]
              exact Nat.lt_of_lt_of_le (show ms.length < 4000 by omega) (by decide)
            · refine ⟨_, rfl, _, _, rfl, rfl, ⟨by decide, by decide⟩, ?_⟩
              refine ⟨ms ++ [c % 1000], c / 1000, _, rfl, fun b o e => ?_, ?_, ?_, ?_⟩
              · rw [upd_ne (ne_of_none e hd)]
                exact s3 b o e
              · rw [upd_same, List.map_append]
                rfl
              · intro m hm'
                rcases List.mem_append.mp hm' with e | e
                · exact hm m e
                · rw [List.mem_singleton.mp e]
                  exact Nat.mod_lt _ (by decide)
              · rw [List.length_append]
                show ms.length + 1 ≤ _
                omega
        · rintro σ H3 ⟨ms, c, v4, rfl, s3, h3, hm, hl⟩
          exact ⟨ms, _, _, _, _, _, rfl, s3, h3, hm, by omega⟩
      · have hc' : c < 1000000000000000000 := by
          simp only [decide_eq_true_eq] at hc
          omega
        refine ⟨_, rfl, _, _, rfl, rfl, .inr ⟨by decide, by decide⟩, _, _, rfl, rfl, .inl ⟨_, rfl, _, _, rfl, rfl, (by show (0 : Int) < 2147483647; decide), ?_⟩⟩
        refine ⟨_, rfl, _, _, rfl, rfl, .inr ⟨by decide, by decide⟩, _, rfl, _, _, rfl, rfl, .inl ⟨_, rfl, _, _, rfl, rfl, (by show (0 : Int) < 2147483629; decide), ?_⟩⟩
        refine ⟨_, rfl, .inl ⟨rfl, _, SqL.of h2⟩, _, rfl, .inl ⟨_, rfl, _, _, rfl, rfl, (by show (0 : Int) < 1000; decide), _, rfl, .inl ⟨_, rfl, _, _, rfl, rfl, (by show (0 : Int) < 1000; decide), _, rfl, .inl ⟨_, rfl, _, _, rfl, rfl, (by show (0 : Int) < 1000; decide), (by show 3 ≤ sizeLine; decide), fun l hl2 => ?_⟩⟩⟩⟩
        have ndl : d ≠ l := ne_of_none h2 hl2
        refine ⟨d, l, _, _, rfl, rfl, (by rw [upd_ne ndl]; exact h2), upd_same, ?_, ?_⟩
        · rw [List.length_map]
          exact Nat.le_trans (show ms.length + 3 ≤ 4000 by omega) (by decide)
        · refine ⟨ms ++ [((c : Int) % 1000).toNat, ((((c : Int) * 48271 + 11) % 2147483647) % 1000).toNat, (((((c : Int) * 48271 + 11) % 2147483647 * 69621 + (c : Int)) % 2147483629) % 1000).toNat], _, _, _, _, _, rfl, fun b o e => ?_, ?_, ?_, ?_⟩
          · rw [upd_ne (ne_of_none e hd), upd_ne (ne_of_none (s2 b o e) hl2)]
            exact s2 b o e
          · rw [upd_same, List.map_append]
            show some (HO.lst (ms.map nV ++ [V.int _, V.int _, V.int _])) = some (HO.lst (ms.map nV ++ [nV _, nV _, nV _]))
            rw [nV_mod, nV_mod, nV_mod]
          · intro m hm'
            rcases List.mem_append.mp hm' with e | e
            · exact hm m e
            · simp only [List.mem_cons, List.not_mem_nil, or_false] at e
              rcases e with e | e | e <;> (rw [e]; omega)
          · rw [List.length_append]
            show ms.length + 3 ≤ _
            omega
    · rintro σ H2 ⟨ms, v2, v3, v4, v5, v6, rfl, s2, h2, hm, hl⟩
      exact ⟨_, rfl, k d H2 s2 hd ⟨ms, h2, hm⟩⟩
end
end LT
set_option linter.all false
set_option Elab.async false
set_option maxRecDepth 100000
set_option maxHeartbeats 4000000
namespace LT
open PySem PySem.Spec PyProof.Rows L2 LTR
section
variable {P : Program} {w : World} {K : PySem.W.Frag} {mg : Str → Option Value} {base : Heap}
/-! _is_row -/
abbrev nmIsRow : List Str := ["row", "k", "count", "out", "_", "following"]
theorem scIsRow : FnScope nmIsRow ["row", "k", "count"] (defScope sIsRow) := ⟨rfl, rfl, rfl, by decide +kernel, rfl, by decide +kernel, by decide +kernel⟩
def spIsRow : Sp := fun vs H Q _ => ∃ v row k n, vs = [v, nV k, nV n] ∧ RowAt H v row ∧ RowOk k n row ∧ k ≤ 4 ∧ ∀ H', Same H H' → Q (.bl true) H'
theorem sorted_outs {k n : Nat} {row : List (Nat × Nat)} (h : RowOk k n row) {ns : List Int} (hp : ns.Perm (row.map fun e => (e.1 : Int))) (hs : ns.Pairwise (· ≤ ·)) : ns = (List.range k).map fun i : Nat => (i : Int) := by
  refine PySem.W.ksm_same ?_ hs ?_
  · refine hp.trans ?_
    have := (outs_perm h).map fun i : Nat => (i : Int)
    rw [List.map_map] at this
    exact this
  · rw [List.pairwise_map]
    refine List.Pairwise.imp (fun {a b} h => ?_) (List.pairwise_lt_range (n := k))
    show (a : Int) ≤ (b : Int)
    omega
theorem ok_isRow (T : Tab K mg) : FnOk P w K mg base CX0 1 T.fIsRow T.dIsRow ["row", "k", "count"] spIsRow := by
  refine T.isRow.fn.ok scIsRow (fun vs H Q E h => ?_) (fun cdv A outer s H vs Q E hr h => ?_)
  · obtain ⟨v, row, k, n, rfl, _⟩ := h
    rfl
  · obtain ⟨v, row, kk, n, rfl, ⟨a, vs, rfl, ha, hes⟩, ok, hk4, k⟩ := h
    have nd := scIsRow.nd
    refine ⟨_, pss_cons (ps_if (PW.pt (pw_or (pt_cmpR op_ne (pe_callB call_len_seq (by rfl) T.bLen PySem.boot_len (pa_cons (pv 0) pa_nil)) (pv 1) (nomark _))
        (pw_or1 (pt_cmpR (op_neD hr.units) (pe_callB cr_sorted (by rfl) T.bSorted (by decide +kernel) (pa_cons
          (pe_lc (own := [("out", 3), ("_", 4)]) (g := gTup K 2 (gCons (gName 3) (gCons (gName 4) gNil))) (tt := tYes) rfl nd (pi_tup (pv 0)) (blkOk_by (N := nmIsRow) (sc := defScope sIsRow) (by decide +kernel))
            (fun _ _ _ _ _ => pg_tup rfl (pgs_cons (pg_name (i := 3) nd rfl (Or.inl rfl)) (pgs_cons (pg_name (i := 4) nd rfl (Or.inl rfl)) pgs_nil))) (fun _ _ _ _ _ => pts_nil) (fun _ _ _ _ _ => pv 3)) pa_nil))
          (pe_listRg rfl (by rfl) T.bList (prg_1 (by rfl) T.bRange (pv 1))) (nomark _))))) (pss_one (ps_ret pe_bl)) pss_nil)
      (pss_one (ps_ret (pe_callB (cr_all rfl) (by rfl) T.bAll (by decide +kernel) (pa_cons
          (pe_lc (own := [("_", 4), ("following", 5)]) (g := gTup K 2 (gCons (gName 4) (gCons (gName 5) gNil))) (tt := tYes) rfl nd (pi_tup (pv 0)) (blkOk_by (N := nmIsRow) (sc := defScope sIsRow) (by decide +kernel))
            (fun _ _ _ _ _ => pg_tup rfl (pgs_cons (pg_name (i := 4) nd rfl (Or.inl rfl)) (pgs_cons (pg_name (i := 5) nd rfl (Or.inl rfl)) pgs_nil))) (fun _ _ _ _ _ => pts_nil) (fun _ _ _ _ _ => pe_chain op_le op_lt pe_int (pv 5) (pv 2))) pa_nil)))), ?_⟩
    have hlen : vs.length = kk := by rw [hes.len]; exact ok.len
    refine ⟨_, rfl, a, _, rfl, .inr (SqT.of ha), _, rfl, rfl, _, rfl, ?_⟩
    refine iteNS (by rw [hlen]; rfl) ?_
    refine ⟨_, rfl, a, rfl, ⟨_, SqT.of ha⟩, fun D hD => lc_tup (K := K) (a := a) (xs := vs) (fun i H2 => Same H H2 ∧ H2 D = some (.lst (((row.take i).map fun e => (e.1 : Int)).map V.int)))
      ⟨same_upd hD, upd_same⟩ (fun i H2 _ ⟨s2, _⟩ => SqT.of (s2 _ _ ha)) ?_ ?_⟩
    · rintro i x H2 hi ⟨s2, h2⟩
      obtain ⟨e, he, ⟨b, rfl, hb⟩⟩ := hes.get hi
      refine ⟨b, _, rfl, SqT.of (s2 _ _ hb), rfl, _, _, rfl, _, _, rfl, rfl, rfl, ?_⟩
      have hir : i < row.length := (List.getElem?_eq_some_iff.mp he).1
      refine yesIf ⟨_, rfl, _, h2, small 100 ?_, s2.up hD, ?_⟩
      · rw [List.length_map, List.length_map, List.length_take]
        have := ok.len
        omega
      · rw [upd_same, take_snoc he]
        simp only [List.map_append, List.map_cons, List.map_nil]
        rfl
    · rintro H2 ⟨s2, h2⟩
      rw [List.take_of_length_le (by rw [hes.len]; exact Nat.le_refl _)] at h2
      refine ⟨D, _, rfl, SqL.of h2, ?_, fun ns' p hp hs np => ?_⟩
      · rw [List.length_map, ok.len]
        omega
      have e1 : ns' = (List.range kk).map fun i : Nat => (i : Int) := sorted_outs ok hp hs
      have e2 : ns'.map V.int = (List.range kk).map nV := by rw [e1, List.map_map]; rfl
      rw [e2]
      have s3 : Same H (upd H2 p (.lst ((List.range kk).map nV))) := s2.up (s2.free np)
      refine ⟨_, rfl, _, rfl, rgOk (by omega), fun q nq => ?_⟩
      rw [rgV_0]
      have npq : p ≠ q := by
        rintro rfl
        rw [upd_same] at nq
        cases nq
      refine ⟨_, _, dp_lst (by rw [upd_ne npq, upd_same]), dp_lst upd_same, sh_lst _, sh_lst _, _, rfl, ?_⟩
      rw [lst_eqv]
      refine iteNS rfl ?_
      have s4 := s3.up (o := .lst ((List.range kk).map nV)) (s3.free nq)
      generalize upd (upd H2 p (.lst ((List.range kk).map nV))) q (.lst ((List.range kk).map nV)) = H3 at s4
      -- all(..)
      refine ⟨_, rfl, a, rfl, ⟨_, SqT.of (s4 _ _ ha)⟩, fun D hD => lc_tup (K := K) (a := a) (xs := vs) (fun i H2 => Same H3 H2 ∧ H2 D = some (.lst ((List.replicate i true).map V.bl)))
        ⟨same_upd hD, upd_same⟩ (fun i H2 _ ⟨s2, _⟩ => SqT.of (s2 _ _ (s4 _ _ ha))) ?_ ?_⟩
      · rintro i x H2 hi ⟨s2, h2⟩
        obtain ⟨e, he, ⟨b, rfl, hb⟩⟩ := hes.get hi
        have hb2 := s2 _ _ (s4 _ _ hb)
        refine ⟨b, _, rfl, SqT.of hb2, rfl, _, _, rfl, _, _, rfl, rfl, rfl, ?_⟩
        have hir : i < row.length := (List.getElem?_eq_some_iff.mp he).1
        have hn := ok.nxt e (List.mem_of_getElem? he)
        refine yesIf ⟨_, rfl, _, _, rfl, rfl, _, rfl, ?_⟩
        refine ite2 (fun _ => ?_) (fun c => absurd (decide_eq_true (show (0 : Int) ≤ (e.2 : Int) by omega)) c)
        refine ⟨_, rfl, _, _, rfl, rfl, ?_⟩
        refine ⟨_, h2, small 100 ?_, s2.up hD, ?_⟩
        · rw [List.length_map, List.length_replicate]
          have := ok.len
          omega
        · have ed : decide ((e.2 : Int) < (n : Int)) = true := decide_eq_true (by omega)
          show upd H2 D (.lst (((List.replicate i true).map V.bl) ++ [V.bl (decide ((e.2 : Int) < (n : Int)))])) D = _
          rw [upd_same, ed, List.replicate_succ', List.map_append]
          rfl
      · rintro H2 ⟨s2, h2⟩
        refine ⟨D, _, rfl, SqL.of h2, ?_⟩
        have e : (List.replicate vs.length true).all id = true := by simp
        rw [e]
        exact k _ (s4.trans s2)
/-! is_wide -/
abbrev nmIsWide : List Str := ["machine", "k", "rows", "row"]
theorem scIsWide : FnScope nmIsWide ["machine"] (defScope sIsWide) := ⟨rfl, rfl, rfl, by decide +kernel, rfl, by decide +kernel, by decide +kernel⟩
def spMachTrue : Sp := fun vs H Q _ => ∃ v k rows, vs = [v] ∧ MachAt H v k rows ∧ Mach k rows ∧ ∀ H', Same H H' → Q (.bl true) H'
theorem ok_isWide (T : Tab K mg) : FnOk P w K mg base CX0 2 T.fIsWide T.dIsWide ["machine"] spMachTrue := by
  have G : FnOk P w K mg base CX0 1 T.fIsRow T.dIsRow ["row", "k", "count"] spIsRow := ok_isRow T
  refine T.isWide.fn.ok scIsWide (fun vs H Q E h => ?_) (fun cdv A outer s H vs Q E hr h => ?_)
  · obtain ⟨v, kk, rows, rfl, _⟩ := h
    rfl
  · obtain ⟨v, kk, rows, rfl, ⟨a, r, vs, rfl, ha, hb, hrows⟩, ok, k⟩ := h
    have nd := scIsWide.nd
    obtain ⟨t1, c1⟩ := T.cLEASTDIGITS
    obtain ⟨t2, c2⟩ := T.cMOSTDIGITS
    obtain ⟨t3, c3⟩ := T.cMOSTWIDE
    refine ⟨_, pss_cons (ps_asg (pv 0) (pg_tup rfl (pgs_cons (pg_name (i := 1) nd rfl (Or.inr rfl)) (pgs_cons (pg_name (i := 2) nd rfl (Or.inr rfl)) pgs_nil))))
      (pss_cons (ps_if (PW.pt (pw_or (pt_not (pt_chain op_le op_le (pe_gi c1) (pv 1) (pe_gi c2)))
        (pw_or1 (pt_not (pt_chain op_le op_le pe_int (pe_callB call_len_seq (by rfl) T.bLen PySem.boot_len (pa_cons (pv 2) pa_nil)) (pe_gi c3)))))) (pss_one (ps_ret pe_bl)) pss_nil)
      (pss_one (ps_ret (pe_callB (cr_all rfl) (by rfl) T.bAll (by decide +kernel) (pa_cons
          (pe_lc (own := [("row", 3)]) (g := gName 3) (tt := tYes) rfl nd (pi_tup (pv 2)) (blkOk_by (N := nmIsWide) (sc := defScope sIsWide) (by decide +kernel))
            (fun _ _ _ _ _ => pg_name (i := 3) nd rfl (Or.inl rfl)) (fun _ _ _ _ _ => pts_nil)
            (fun _ _ _ _ _ => pe_call G hr rfl T.isRow.mg T.isRow.fn.kp T.isRow.bd .nil pass0 (pa_cons (pv 3) (pa_cons (pv 1) (pa_cons (pe_callB (kx_len (K := K) rfl) (by rfl) T.bLen PySem.boot_len (pa_cons (pv 2) pa_nil)) pa_nil))))) pa_nil))))), ?_⟩
    refine ⟨_, rfl, a, _, rfl, SqT.of ha, rfl, _, _, rfl, _, _, rfl, rfl, ?_⟩
    refine ⟨_, rfl, _, _, rfl, rfl, _, rfl, ?_⟩
    have hk2 := ok.k2
    have hk3 := ok.k3
    refine ite2 (fun _ => ?_) (fun c => absurd (decide_eq_true (show (2 : Int) ≤ (kk : Int) by omega)) c)
    refine ⟨_, _, rfl, rfl, _, rfl, ?_⟩
    refine iteNS (show (kk : Int) ≤ 4 by omega) ?_
    refine ⟨_, rfl, r, _, rfl, .inr (SqT.of hb), _, _, rfl, rfl, _, rfl, ?_⟩
    have hr1 := ok.r1
    have hr4 := ok.r4
    have hl := hrows.len
    refine ite2 (fun _ => ?_) (fun c => absurd (decide_eq_true (show (1 : Int) ≤ (vs.length : Int) by omega)) c)
    refine ⟨_, _, rfl, rfl, _, rfl, ?_⟩
    refine iteNS (show (vs.length : Int) ≤ 200 by omega) ?_
    refine ⟨_, rfl, r, rfl, ⟨_, SqT.of hb⟩, fun D hD => lc_tup (K := K) (a := r) (xs := vs) (fun i H2 => Same H H2 ∧ H2 D = some (.lst ((List.replicate i true).map V.bl)))
        ⟨same_upd hD, upd_same⟩ (fun i H2 _ ⟨s2, _⟩ => SqT.of (s2 _ _ hb)) ?_ ?_⟩
    · rintro i x H2 hi ⟨s2, h2⟩
      obtain ⟨row, he, hrow⟩ := hrows.get hi
      refine ⟨rfl, yesIf ⟨_, rfl, _, rfl, _, rfl, r, _, rfl, .inr (SqT.of (s2 _ _ hb)), ?_⟩⟩
      refine ⟨x, row, kk, rows.length, ?_, hrow.same s2, ok.row row (List.mem_of_getElem? he), by omega, fun H3 s3 => ?_⟩
      · rw [hl]
        rfl
      · refine ⟨_, s3 _ _ h2, small 100 ?_, (s2.trans s3).up hD, ?_⟩
        · rw [List.length_map, List.length_replicate]
          have := (List.getElem?_eq_some_iff.mp he).1
          omega
        · rw [upd_same, List.replicate_succ', List.map_append]
          rfl
    · rintro H2 ⟨s2, h2⟩
      refine ⟨D, _, rfl, SqL.of h2, ?_⟩
      have e : (List.replicate vs.length true).all id = true := by simp
      rw [e]
      exact k _ s2
/-! is_machine, check_machine -/
theorem scIsMach : FnScope ["machine"] ["machine"] (defScope sIsMach) := ⟨rfl, rfl, rfl, by decide +kernel, rfl, by decide +kernel, by decide +kernel⟩
theorem at0 {x : V} {xs : List V} : atI (x :: xs) 0 = some x := atI_nat (j := 0) rfl
theorem at1 {x y : V} {xs : List V} : atI (x :: y :: xs) 1 = some y := atI_nat (j := 1) rfl
theorem ok_isMach (T : Tab K mg) : FnOk P w K mg base CX0 3 T.fIsMach T.dIsMach ["machine"] spMachTrue := by
  have G : FnOk P w K mg base CX0 2 T.fIsWide T.dIsWide ["machine"] spMachTrue := ok_isWide T
  refine T.isMach.fn.ok scIsMach (fun vs H Q E h => ?_) (fun cdv A outer s H vs Q E hr h => ?_)
  · obtain ⟨v, kk, rows, rfl, _⟩ := h
    rfl
  · obtain ⟨v, kk, rows, rfl, ⟨a, r, vs, rfl, ha, hb, hrows⟩, ok, k⟩ := h
    obtain ⟨t1, c1⟩ := T.cMOSTSTATES
    refine ⟨_, pss_one (ps_ret (pe_and (pe_cmpR op_le (pe_callB call_len_seq (by rfl) T.bLen PySem.boot_len (pa_cons (pe_ix ix_tup (pv 0) pe_int (fun _ _ => rfl)) pa_nil)) (pe_gi c1) (nomark _))
      (pe_one (pe_call G hr rfl T.isWide.mg T.isWide.fn.kp T.isWide.bd .nil pass0 (pa_cons (pv 0) pa_nil))))), ?_⟩
    refine ⟨_, rfl, a, _, _, _, rfl, rfl, SqT.of ha, at1, r, _, rfl, .inr (SqT.of hb), _, _, rfl, rfl, _, rfl, ?_⟩
    have hr4 := ok.r4
    have hl := hrows.len
    refine ite2 (fun _ => ?_) (fun c => absurd (decide_eq_true (show (vs.length : Int) ≤ 8 by omega)) c)
    exact ⟨_, rfl, _, kk, rows, rfl, ⟨a, r, vs, rfl, ha, hb, hrows⟩, ok, k⟩
theorem scChMach : FnScope ["machine"] ["machine"] (defScope sChMach) := ⟨rfl, rfl, rfl, by decide +kernel, rfl, by decide +kernel, by decide +kernel⟩
def spChMach : Sp := fun vs H Q _ => ∃ v k rows, vs = [v] ∧ MachAt H v k rows ∧ Mach k rows ∧ ∀ H', Same H H' → Q .non H'
theorem ok_chMach (T : Tab K mg) : FnOk P w K mg base CX0 4 T.fChMach T.dChMach ["machine"] spChMach := by
  have G : FnOk P w K mg base CX0 3 T.fIsMach T.dIsMach ["machine"] spMachTrue := ok_isMach T
  refine T.chMach.fn.ok scChMach (fun vs H Q E h => ?_) (fun cdv A outer s H vs Q E hr h => ?_)
  · obtain ⟨v, kk, rows, rfl, _⟩ := h
    rfl
  · obtain ⟨v, kk, rows, rfl, hm, ok, k⟩ := h
    refine ⟨_, pss_one (ps_if (pt_not (pt_val (pe_call G hr rfl T.isMach.mg T.isMach.fn.kp T.isMach.bd .nil pass0 (pa_cons (pv 0) pa_nil)))) (pss_one ps_never) pss_nil), ?_⟩
    refine ⟨_, rfl, _, kk, rows, rfl, hm, ok, fun H' s' => ⟨_, rfl, ?_⟩⟩
    exact iteF (k H' s')
end
end LT
set_option linter.all false
set_option Elab.async false
set_option maxRecDepth 100000
set_option maxHeartbeats 4000000
/-! Words as texts. -/
namespace LT
open PySem PySem.Spec PyProof.Rows L2 LTR
theorem wS_one (l : Ltr) : wS [l] = ⟨#[code l]⟩ := rfl
theorem wS_get (w : List Ltr) (i : Nat) : (wS w).cps[i]? = (w[i]?).map code := by
  unfold wS
  rw [List.getElem?_toArray, List.getElem?_map]
theorem wS_size (w : List Ltr) : (wS w).cps.size = w.length := by
  unfold wS
  rw [List.size_toArray, List.length_map]
theorem wS_len (w : List Ltr) : (wS w).length = w.length := wS_size w
theorem wS_list (w : List Ltr) : (wS w).cps.toList = w.map code := by
  unfold wS
  rw [List.toList_toArray]
theorem str_ext {a b : Str} (h : a.cps.toList = b.cps.toList) : a = b := by
  obtain ⟨⟨a⟩⟩ := a
  obtain ⟨⟨b⟩⟩ := b
  have h' : a = b := h
  rw [h']
theorem walk_word (w : List Ltr) : Walk (Its (wS w)) w.length (fun _ => True) (fun i H v H' => H' = H ∧ ∃ l, w[i]? = some l ∧ v = .str (wS [l])) := by
  refine ⟨fun i H hi _ => ?_, fun H _ => ?_, fun i H x H' hi _ y => ?_⟩
  · show i < (wS w).cps.size
    rw [wS_size]
    exact hi
  · show (wS w).cps.size ≤ w.length
    rw [wS_size]
    exact Nat.le_refl _
  · obtain ⟨e, c, hc, hv⟩ := y
    rw [wS_get] at hc
    obtain ⟨l, hl, e2⟩ := Option.map_eq_some_iff.mp hc
    exact ⟨e, l, hl, by rw [hv, wS_one, e2]⟩
theorem code_inj {l m : Ltr} (hl : l.1 < 8) (hm : m.1 < 8) (h : code l = code m) : l = m := by
  obtain ⟨a, p⟩ := l
  obtain ⟨b, q⟩ := m
  simp only [code] at h
  cases p <;> cases q <;> simp at h hl hm ⊢ <;> omega
theorem eq_one {l m : Ltr} (hl : l.1 < 8) (hm : m.1 < 8) : (V.str (wS [l]) = V.str (wS [m])) ↔ l = m := by
  constructor
  · intro h
    have h1 : wS [l] = wS [m] := V.str.inj h
    have h2 := congrArg (fun z : Str => z.cps.toList) h1
    simp only [wS_list] at h2
    have h3 : [code l] = [code m] := h2
    exact code_inj hl hm (List.cons.inj h3).1
  · intro h
    rw [h]
theorem wS_append (u v : List Ltr) : wS u ++ wS v = wS (u ++ v) := by
  refine str_ext ?_
  rw [wS_list, List.map_append, ← wS_list, ← wS_list]
  exact TL.tl_append _ _
theorem wS_nil : wS [] = ("" : Str) := by decide +kernel
theorem joinL_nil : ∀ l : List (List Nat), TL.joinL [] l = l.flatten
  | [] => rfl
  | [p] => by simp [TL.joinL]
  | p :: q :: r => by
    show p ++ ([] ++ TL.joinL [] (q :: r)) = _
    rw [List.nil_append, joinL_nil (q :: r)]
    simp
theorem wS_join (w : List Ltr) : Txt.join ("" : Str) (w.map fun l => wS [l]) = wS w := by
  refine str_ext ?_
  rw [TL.join_eq]
  show TL.tl _ = _
  rw [TL.tl_join, show TL.tl ("" : Str) = [] by decide +kernel, joinL_nil, wS_list, List.map_map]
  induction w with
  | nil => rfl
  | cons l r ih =>
    rw [List.map_cons, List.flatten_cons, ih]
    rfl
theorem join_ok (w : List Ltr) (h : w.length ≤ 1000) : ((w.map fun l => wS [l]).map (·.length)).sum + (w.map fun l => wS [l]).length * ("" : Str).length ≤ 16777216 := by
  have e : ∀ w : List Ltr, ((w.map fun l => wS [l]).map (·.length)).sum = w.length := by
    intro w
    induction w with
    | nil => rfl
    | cons l r ih =>
      rw [List.map_cons, List.map_cons, List.sum_cons, ih, wS_len, List.length_cons]
      show 1 + r.length = r.length + 1
      omega
  rw [e, show ("" : Str).length = 0 by decide +kernel]
  omega
/-! the letters of the text tables -/
abbrev smallS : Str := "abcdefgh"
abbrev largeS : Str := "ABCDEFGH"
abbrev orderS : Str := "aAbBcCdDeEfFgGhH"
theorem lt4 {p : Nat → Prop} (h0 : p 0) (h1 : p 1) (h2 : p 2) (h3 : p 3) : ∀ s, s < 4 → p s := fun s hs => by
  match s, hs with
  | 0, _ => exact h0
  | 1, _ => exact h1
  | 2, _ => exact h2
  | 3, _ => exact h3
theorem occ_small : ∀ s, s < 4 → Builtin.Str.occurrences smallS (wS [(s, false)]) 0 smallS.length 1 = [s] := lt4 (by decide +kernel) (by decide +kernel) (by decide +kernel) (by decide +kernel)
theorem occ_large : ∀ s, s < 4 → Builtin.Str.occurrences largeS (wS [(s, true)]) 0 largeS.length 1 = [s] := lt4 (by decide +kernel) (by decide +kernel) (by decide +kernel) (by decide +kernel)
theorem in_small : ∀ s, s < 4 → ∀ b, decide (code (s, b) ∈ smallS.cps.toList) = !b := lt4 (by decide +kernel) (by decide +kernel) (by decide +kernel) (by decide +kernel)
theorem at_small : ∀ s, s < 4 → smallS.cps[s]? = some (code (s, false)) := lt4 (by decide +kernel) (by decide +kernel) (by decide +kernel) (by decide +kernel)
theorem at_large : ∀ s, s < 4 → largeS.cps[s]? = some (code (s, true)) := lt4 (by decide +kernel) (by decide +kernel) (by decide +kernel) (by decide +kernel)
theorem small_len : smallS.length = 8 := by decide +kernel
theorem large_len : largeS.length = 8 := by decide +kernel
end LT
set_option linter.all false
set_option Elab.async false
set_option maxRecDepth 100000
set_option maxHeartbeats 4000000
namespace LT
open PySem PySem.Spec PyProof.Rows L2 LTR
section
variable {P : Program} {w : World} {K : PySem.W.Frag} {mg : Str → Option Value} {base : Heap}
/-! other -/
theorem scOther : FnScope ["letter"] ["letter"] (defScope sOther) := ⟨rfl, rfl, rfl, by decide +kernel, rfl, by decide +kernel, by decide +kernel⟩
def spOther : Sp := fun vs H Q _ => ∃ l : Ltr, vs = [.str (wS [l])] ∧ l.1 < 4 ∧ Q (.str (wS [inv l])) H
theorem ok_other (T : Tab K mg) : FnOk P w K mg base CX0 1 T.fOther T.dOther ["letter"] spOther := by
  refine T.other.fn.ok scOther (fun vs H Q E h => ?_) (fun cdv A outer s H vs Q E hr h => ?_)
  · obtain ⟨l, rfl, _⟩ := h
    rfl
  · obtain ⟨⟨st, b⟩, rfl, hl, k⟩ := h
    obtain ⟨t1, c1⟩ := T.cSMALL
    obtain ⟨t2, c2⟩ := T.cLARGE
    refine ⟨_, pss_cons (ps_if (pt_cmpR op_in_sign (pv 0) (pe_gs c1) rfl) (pss_one (ps_ret (pe_item_str (pe_gs c2) (pe_bm PySem.F.plainAttrs_str PySem.F.slot_str_index PySem.F.type_str_index mt_sindex (pe_gs c1) (pa_cons (pv 0) pa_nil)) (fun _ _ => rfl)))) pss_nil)
      (pss_one (ps_ret (pe_item_str (pe_gs c1) (pe_bm PySem.F.plainAttrs_str PySem.F.slot_str_index PySem.F.type_str_index mt_sindex (pe_gs c2) (pa_cons (pv 0) pa_nil)) (fun _ _ => rfl)))), ?_⟩
    have hl : st < 4 := hl
    refine ⟨_, rfl, code (st, b), smallS, rfl, rfl, _, rfl, ?_⟩
    rw [in_small st hl b]
    cases b with
    | false =>
      refine iteT ?_
      refine ⟨rfl, _, rfl, _, _, st, [], rfl, rfl, occ_small st hl, largeS, (st : Int), code (st, true), rfl, rfl, by omega, by omega, ?_, ?_, k⟩
      · rw [large_len]; omega
      · rw [Int.toNat_natCast]; exact at_large st hl
    | true =>
      refine iteF ?_
      refine ⟨rfl, _, rfl, _, _, st, [], rfl, rfl, occ_large st hl, smallS, (st : Int), code (st, false), rfl, rfl, by omega, by omega, ?_, ?_, k⟩
      · rw [small_len]; omega
      · rw [Int.toNat_natCast]; exact at_small st hl
/-! cut -/
abbrev nmCut : List Str := ["word", "kept", "letter"]
theorem scCut : FnScope nmCut ["word"] (defScope sCut) := ⟨rfl, rfl, rfl, by decide +kernel, rfl, by decide +kernel, by decide +kernel⟩
def spCut : Sp := fun vs H Q _ => ∃ w : List Ltr, vs = [.str (wS w)] ∧ WordOk 4 w ∧ w.length ≤ 100 ∧ ∀ H', Same H H' → Q (.str (wS (cutW w))) H'
theorem ok_cut (T : Tab K mg) : FnOk P w K mg base CX0 2 T.fCut T.dCut ["word"] spCut := by
  have G : FnOk P w K mg base CX0 1 T.fOther T.dOther ["letter"] spOther := ok_other T
  refine T.cut.fn.ok scCut (fun vs H Q E h => ?_) (fun cdv A outer s H vs Q E hr h => ?_)
  · obtain ⟨l, rfl, _⟩ := h
    rfl
  · obtain ⟨u, rfl, hu, hlen, k⟩ := h
    have nd := scCut.nd
    refine ⟨_, pss_cons (ps_set (i := 1) nd rfl (Or.inl rfl) (pe_lst pa_nil))
      (pss_cons (ps_for PassesOwn.never rfl (pi_str (pv 0)) (pg_name (i := 2) nd rfl (Or.inl rfl))
        (pss_one (ps_if (PW.pt (pw_and (pt_truth (pv 1) (by intro _; rfl)) (pw_and1 (pt_cmpR op_eq (pe_ix ix_list (pv 1) (pe_un un_neg pe_int) (fun _ _ => rfl))
            (pe_call G hr rfl T.other.mg T.other.fn.kp T.other.bd .nil pass0 (pa_cons (pv 2) pa_nil)) (nomark _)))))
          (pss_one (ps_expr (pe_bm0 PySem.F.plainAttrs_list PySem.F.slot_list_pop PySem.F.type_list_pop mt_pop (pv 1))))
          (pss_one (ps_expr (pe_bm PySem.F.plainAttrs_list PySem.F.slot_list_append PySem.F.type_list_append mt_append (pv 1) (pa_cons (pv 2) pa_nil)))))))
      (pss_one (ps_ret (pe_join pe_str (pv 1))))), ?_⟩
    refine ⟨by decide, fun d hd => ?_⟩
    refine ⟨_, rfl, wS u, rfl, for_it (walk_word u) (fun i σ H2 => ∃ v2 : Option V, σ = [some (.str (wS u)), some (.ref d), v2] ∧ Same H H2 ∧ H2 d = some (.lst (((u.take i).foldl cutF []).map fun l => V.str (wS [l]))))
      ⟨none, rfl, same_upd hd, upd_same⟩ (fun _ _ _ _ _ => trivial) ?_ ?_⟩
    · rintro i x σ H2 H3 hi ⟨v2, rfl, s2, h2⟩ ⟨rfl, l, hl, rfl⟩
      have hlm : l ∈ u := List.mem_of_getElem? hl
      have hl4 := hu l hlm
      have hk : WordOk 4 ((u.take i).foldl cutF []) := fun m hm => by
        rcases foldl_cut_sub hm with q | q
        · exact absurd q (by simp)
        · exact hu m (List.mem_of_mem_take q)
      have hkl := foldl_cut_len (u.take i) []
      have e1 : (u.take (i + 1)).foldl cutF [] = cutF ((u.take i).foldl cutF []) l := by
        rw [take_snoc hl, List.foldl_append]
        rfl
      rw [e1]
      generalize (u.take i).foldl cutF [] = kept at *
      refine ⟨_, rfl, _, .inl ⟨_, SqL.of h2, rfl⟩, ?_⟩
      have hcc : kept = [] ∨ ∃ ks m, kept = ks ++ [m] := by
        rcases List.eq_nil_or_concat kept with e | ⟨ks, m, e⟩
        · exact .inl e
        · exact .inr ⟨ks, m, by rw [e, List.concat_eq_append]⟩
      rcases hcc with rfl | ⟨ks, m, rfl⟩
      · refine iteF ?_
        refine iteF ?_
        refine ⟨_, rfl, .inl ⟨rfl, _, SqL.of h2⟩, _, rfl, d, _, _, rfl, rfl, h2, ?_, ?_⟩
        · decide
        · refine ⟨_, rfl, s2.up hd, ?_⟩
          rw [upd_same]
          rfl
      · have he : (!((ks ++ [m]).map fun l => V.str (wS [l])).isEmpty) = true := by simp
        rw [he]
        refine iteT ?_
        have hm4 := hk m (by simp)
        refine ⟨_, rfl, 1, rfl, d, _, _, V.str (wS [m]), rfl, rfl, SqL.of h2, ?_, _, rfl, l, rfl, hl4, rfl, _, rfl, ?_⟩
        · rw [List.map_append]
          exact atI_last _ _
        have hd1 : decide (V.str (wS [m]) = V.str (wS [inv l])) = decide (m = inv l) := by
          have q := eq_one (l := m) (m := inv l) (by omega) (by show l.1 < 8; omega)
          by_cases z : m = inv l
          · rw [decide_eq_true z, decide_eq_true (q.mpr z)]
          · rw [decide_eq_false z, decide_eq_false (fun y => z (q.mp y))]
        rw [hd1]
        have ec : cutF (ks ++ [m]) l = if m = inv l then ks else ks ++ [m] ++ [l] := by
          unfold cutF
          rw [List.getLast?_append, List.getLast?_singleton, Option.some_or, List.dropLast_concat]
          by_cases z : m = inv l
          · rw [if_pos z, if_pos (by rw [z])]
          · rw [if_neg z, if_neg (fun y => z (Option.some.inj y))]
        rw [ec]
        refine ite2 (fun z => ?_) (fun z => ?_)
        · rw [if_pos (of_decide_eq_true z)]
          refine ⟨_, rfl, .inl ⟨rfl, _, SqL.of h2⟩, d, _, V.str (wS [m]), rfl, rfl, h2, ?_, ?_⟩
          · simp
          · refine ⟨_, rfl, s2.up hd, ?_⟩
            rw [upd_same, List.map_append, List.map_cons, List.map_nil, List.dropLast_concat]
        · rw [if_neg (fun y => z (decide_eq_true y))]
          refine ⟨_, rfl, .inl ⟨rfl, _, SqL.of h2⟩, _, rfl, d, _, _, rfl, rfl, h2, ?_, ?_⟩
          · rw [List.length_map]
            refine small 1000 ?_
            have : (u.take i).length ≤ u.length := by rw [List.length_take]; omega
            simp only [List.length_nil] at hkl
            omega
          · refine ⟨_, rfl, s2.up hd, ?_⟩
            rw [upd_same, List.map_append (l₂ := [l])]
            rfl
    · rintro σ H2 ⟨v2, rfl, s2, h2⟩
      rw [List.take_of_length_le (Nat.le_refl _)] at h2
      refine ⟨⟨_, rfl⟩, _, rfl, _, d, _, rfl, rfl, .inl (SqL.of (xs := ((cutW u).map fun l => wS [l]).map V.str) ?_), join_ok _ ?_, ?_⟩
      · rw [List.map_map]
        exact h2
      · have := cutW_len u
        omega
      · rw [wS_join]
        exact k H2 s2
/-! letters_of -/
theorem scLettersOf : FnScope ["machine"] ["machine"] (defScope sLettersOf) := ⟨rfl, rfl, rfl, by decide +kernel, rfl, by decide +kernel, by decide +kernel⟩
def ordS (n : Nat) : Str := cutS orderS none (some (2 * (n : Int)))
def spLettersOf : Sp := fun vs H Q _ => ∃ v k rows, vs = [v] ∧ MachAt H v k rows ∧ Mach k rows ∧ Q (.str (ordS rows.length)) H
theorem order_len : orderS.length ≤ sizeLine := by decide +kernel
theorem ok_lettersOf (T : Tab K mg) : FnOk P w K mg base CX0 1 T.fLettersOf T.dLettersOf ["machine"] spLettersOf := by
  refine T.lettersOf.fn.ok scLettersOf (fun vs H Q E h => ?_) (fun cdv A outer s H vs Q E hr h => ?_)
  · obtain ⟨v, kk, rows, rfl, _⟩ := h
    rfl
  · obtain ⟨v, kk, rows, rfl, ⟨a, r, vs, rfl, ha, hb, hrows⟩, ok, k⟩ := h
    obtain ⟨t1, c1⟩ := T.cORDER
    refine ⟨_, pss_one (ps_ret (pe_slice sl_str (pe_gs c1) po_none (po_some (pe_op op_mul pe_int (pe_callB call_len_seq (by rfl) T.bLen PySem.boot_len (pa_cons (pe_ix ix_tup (pv 0) pe_int (fun _ _ => rfl)) pa_nil)))))), ?_⟩
    refine ⟨_, rfl, a, _, _, _, rfl, rfl, SqT.of ha, at1, r, _, rfl, .inr (SqT.of hb), _, _, rfl, rfl, .inl ⟨by decide, by decide⟩, _, rfl, _, rfl, order_len, ?_⟩
    rw [hrows.len]
    exact k
/-! is_word -/
abbrev nmIsWord : List Str := ["machine", "word", "allowed", "letter"]
theorem scIsWord : FnScope nmIsWord ["machine", "word"] (defScope sIsWord) := ⟨rfl, rfl, rfl, by decide +kernel, rfl, by decide +kernel, by decide +kernel⟩
def spWordTrue : Sp := fun vs H Q _ => ∃ v k rows w, vs = [v, .str (wS w)] ∧ MachAt H v k rows ∧ Mach k rows ∧ WordOk rows.length w ∧ w.length ≤ 60 ∧ ∀ H', Same H H' → Q (.bl true) H'
theorem ord_mem : ∀ n, n ≤ 4 → ∀ s, s < n → ∀ b, decide (code (s, b) ∈ (ordS n).cps.toList) = true := by
  intro n hn
  match n, hn with
  | 0, _ => exact fun s hs => absurd hs (by omega)
  | 1, _ => exact by decide +kernel
  | 2, _ => exact by decide +kernel
  | 3, _ => exact by decide +kernel
  | 4, _ => exact by decide +kernel
theorem ok_isWord (T : Tab K mg) : FnOk P w K mg base CX0 2 T.fIsWord T.dIsWord ["machine", "word"] spWordTrue := by
  have G : FnOk P w K mg base CX0 1 T.fLettersOf T.dLettersOf ["machine"] spLettersOf := ok_lettersOf T
  refine T.isWord.fn.ok scIsWord (fun vs H Q E h => ?_) (fun cdv A outer s H vs Q E hr h => ?_)
  · obtain ⟨v, kk, rows, u, rfl, _⟩ := h
    rfl
  · obtain ⟨v, kk, rows, u, rfl, hm, ok, hw, hl, k⟩ := h
    have nd := scIsWord.nd
    refine ⟨_, pss_cons (ps_set (i := 2) nd rfl (Or.inr rfl) (pe_call G hr rfl T.lettersOf.mg T.lettersOf.fn.kp T.lettersOf.bd .nil pass0 (pa_cons (pv 0) pa_nil)))
      (pss_one (ps_ret (pe_callB (cr_all rfl) (by rfl) T.bAll (by decide +kernel) (pa_cons
          (pe_lc (own := [("letter", 3)]) (g := gName 3) (tt := tYes) rfl nd (pi_str (pv 1)) (blkOk_by (N := nmIsWord) (sc := defScope sIsWord) (by decide +kernel))
            (fun _ _ _ _ _ => pg_name (i := 3) nd rfl (Or.inl rfl)) (fun _ _ _ _ _ => pts_nil)
            (fun _ _ _ _ _ => pe_cmpR op_in_sign (pv 3) (pv 2) rfl)) pa_nil)))), ?_⟩
    refine ⟨_, rfl, v, kk, rows, rfl, hm, ok, ?_⟩
    refine ⟨_, rfl, wS u, rfl, fun D hD => lc_it (walk_word u) (fun i H2 => Same H H2 ∧ H2 D = some (.lst ((List.replicate i true).map V.bl)))
        ⟨same_upd hD, upd_same⟩ (fun _ _ _ _ => trivial) ?_ ?_⟩
    · rintro i x H2 H3 hi ⟨s2, h2⟩ ⟨rfl, l, hl2, rfl⟩
      refine ⟨rfl, yesIf ⟨_, rfl, _, rfl, code l, _, rfl, rfl, ?_⟩⟩
      have e := ord_mem rows.length ok.r4 l.1 (hw l (List.mem_of_getElem? hl2)) l.2
      refine ⟨_, h2, small 100 ?_, s2.up hD, ?_⟩
      · rw [List.length_map, List.length_replicate]
        omega
      · rw [upd_same, List.replicate_succ', List.map_append, e]
        rfl
    · rintro H2 ⟨s2, h2⟩
      refine ⟨D, _, rfl, SqL.of h2, ?_⟩
      have e : (List.replicate u.length true).all id = true := by simp
      rw [e]
      exact k _ s2
/-! refuse_word, check_word -/
theorem scRefWord : FnScope ["machine", "word"] ["machine", "word"] (defScope sRefWord) := ⟨rfl, rfl, rfl, by decide +kernel, rfl, by decide +kernel, by decide +kernel⟩
def spWordNone : Sp := fun vs H Q _ => ∃ v k rows w, vs = [v, .str (wS w)] ∧ MachAt H v k rows ∧ Mach k rows ∧ WordOk rows.length w ∧ w.length ≤ 60 ∧ ∀ H', Same H H' → Q .non H'
theorem ok_refWord (T : Tab K mg) : FnOk P w K mg base CX0 3 T.fRefWord T.dRefWord ["machine", "word"] spWordNone := by
  have G : FnOk P w K mg base CX0 2 T.fIsWord T.dIsWord ["machine", "word"] spWordTrue := ok_isWord T
  refine T.refWord.fn.ok scRefWord (fun vs H Q E h => ?_) (fun cdv A outer s H vs Q E hr h => ?_)
  · obtain ⟨v, kk, rows, u, rfl, _⟩ := h
    rfl
  · obtain ⟨v, kk, rows, u, rfl, hm, ok, hw, hl, k⟩ := h
    obtain ⟨t1, c1⟩ := T.cLONGEST
    refine ⟨_, pss_one (ps_if (PW.pt (pw_or (pt_cmpR op_gt (pe_callB call_len_str (by rfl) T.bLen PySem.boot_len (pa_cons (pv 1) pa_nil)) (pe_gi c1) (nomark _))
      (pw_or1 (pt_not (pt_val (pe_call G hr rfl T.isWord.mg T.isWord.fn.kp T.isWord.bd .nil pass0 (pa_cons (pv 0) (pa_cons (pv 1) pa_nil)))))))) (pss_one ps_never) pss_nil), ?_⟩
    have hlw := wS_len u
    refine ⟨_, rfl, _, rfl, small' 1000 (by omega), _, _, rfl, rfl, _, rfl, ?_⟩
    refine ite2 (fun c => absurd (of_decide_eq_true c) (by rw [hlw]; omega)) (fun _ => ?_)
    refine ⟨_, rfl, _, rfl, v, kk, rows, u, rfl, hm, ok, hw, hl, fun H' s' => ⟨_, rfl, ?_⟩⟩
    exact iteF (k H' s')
theorem scChWord : FnScope ["machine", "word"] ["machine", "word"] (defScope sChWord) := ⟨rfl, rfl, rfl, by decide +kernel, rfl, by decide +kernel, by decide +kernel⟩
theorem ok_chWord (T : Tab K mg) : FnOk P w K mg base CX0 5 T.fChWord T.dChWord ["machine", "word"] spWordNone := by
  have G1 : FnOk P w K mg base CX0 4 T.fChMach T.dChMach ["machine"] spChMach := ok_chMach T
  have G2 : FnOk P w K mg base CX0 3 T.fRefWord T.dRefWord ["machine", "word"] spWordNone := ok_refWord T
  refine T.chWord.fn.ok scChWord (fun vs H Q E h => ?_) (fun cdv A outer s H vs Q E hr h => ?_)
  · obtain ⟨v, kk, rows, u, rfl, _⟩ := h
    rfl
  · obtain ⟨v, kk, rows, u, rfl, hm, ok, hw, hl, k⟩ := h
    refine ⟨_, pss_cons (ps_expr (pe_call G1 hr rfl T.chMach.mg T.chMach.fn.kp T.chMach.bd .nil pass0 (pa_cons (pv 0) pa_nil)))
      (pss_one (ps_expr (pe_call G2 (hr.mono (by decide)) rfl T.refWord.mg T.refWord.fn.kp T.refWord.bd .nil pass0 (pa_cons (pv 0) (pa_cons (pv 1) pa_nil))))), ?_⟩
    refine ⟨_, rfl, v, kk, rows, rfl, hm, ok, fun H' s' => ?_⟩
    exact ⟨_, rfl, _, rfl, v, kk, rows, u, rfl, hm.same s', ok, hw, hl, fun H2 s2 => k H2 (s'.trans s2)⟩
end
end LT
set_option linter.all false
set_option Elab.async false
set_option maxRecDepth 100000
set_option maxHeartbeats 4000000
namespace LT
open PySem PySem.Spec PyProof.Rows L2 LTR
/-! ### an actor -/
def flds (k : Nat) (d : Addr) : List (Str × V) := putF "table" (.ref d) (putF "size" (nV k) [])
theorem kts : ¬ (("size" : Str) = "table") := by decide +kernel
theorem flds_size (k : Nat) (d : Addr) : (flds k d).lookup ("size" : Str) = some (nV k) := by
  unfold flds
  rw [lookup_putF, if_neg kts, lookup_putF, if_pos rfl]
theorem flds_table (k : Nat) (d : Addr) : (flds k d).lookup ("table" : Str) = some (.ref d) := by
  unfold flds
  rw [lookup_putF, if_pos rfl]
theorem flds_no (k : Nat) (d : Addr) {m : Str} (h1 : ¬ m = "size") (h2 : ¬ m = "table") : (flds k d).lookup m = none := by
  unfold flds
  rw [lookup_putF, if_neg h2, lookup_putF, if_neg h1]
  rfl
def PairAt (H : Hp) (v : V) (p : Nat × Ltr) : Prop := ∃ a, v = .ref a ∧ H a = some (.tup [nV p.1, .str (wS [p.2])])
/-- the table's list of a letter -/
def LetAt (H : Hp) (kvs : List (Key × V)) (k : Nat) (rows : Rows) (l : Ltr) : Prop := ∃ a vs, valV kvs (Sum.inr (wS [l]) : Key) = some (.ref a) ∧ H a = some (.lst vs) ∧ AllAt (PairAt H) vs ((List.range k).map (stepL rows l))
structure ActorAt (C : Addr) (H : Hp) (x : Addr) (k : Nat) (rows : Rows) : Prop where
  ex : ∃ dx d kvs, H x = some (.ins C dx (flds k d)) ∧ H d = some (.dK kvs) ∧ ∀ l : Ltr, l.1 < rows.length → LetAt H kvs k rows l
theorem PairAt.same {H H' : Hp} {v : V} {p : Nat × Ltr} (s : Same H H') (h : PairAt H v p) : PairAt H' v p := let ⟨a, e1, e2⟩ := h; ⟨a, e1, s _ _ e2⟩
theorem PairAt.tups {H H' : Hp} {v : V} {p : Nat × Ltr} (s : TupS H H') (h : PairAt H v p) : PairAt H' v p := let ⟨a, e1, e2⟩ := h; ⟨a, e1, s _ _ e2⟩
theorem LetAt.same {H H' : Hp} {kvs : List (Key × V)} {k : Nat} {rows : Rows} {l : Ltr} (s : Same H H') (h : LetAt H kvs k rows l) : LetAt H' kvs k rows l := let ⟨a, vs, e1, e2, e3⟩ := h; ⟨a, vs, e1, s _ _ e2, e3.imp fun _ _ z => z.same s⟩
theorem ActorAt.same {C : Addr} {H H' : Hp} {x : Addr} {k : Nat} {rows : Rows} (s : Same H H') (h : ActorAt C H x k rows) : ActorAt C H' x k rows := let ⟨⟨dx, d, kvs, e1, e2, e3⟩⟩ := h; ⟨⟨dx, d, kvs, s _ _ e1, s _ _ e2, fun l hl => (e3 l hl).same s⟩⟩
section
variable {P : Program} {w : World} {K : PySem.W.Frag} {mg : Str → Option Value} {base : Heap}
/-! step -/
abbrev nmStep : List Str := ["self", "word", "digit", "letters", "letter", "following"]
theorem scStep : FnScope nmStep ["self", "word", "digit"] (defScope sStep) := ⟨rfl, rfl, rfl, by decide +kernel, rfl, by decide +kernel, by decide +kernel⟩
def spStep (C : Addr) : Sp := fun vs H Q _ => ∃ x k rows u dg, vs = [.ref x, .str (wS u), nV dg] ∧ ActorAt C H x k rows ∧ Mach k rows ∧ WordOk rows.length u ∧ u.length ≤ 100 ∧ dg < k ∧
  ∀ H' t, Same H H' → H t = none → H' t = some (.tup [nV (stepW rows u dg).1, .str (wS (stepW rows u dg).2)]) → Q (.ref t) H'
theorem ok_step (T : Tab K mg) : FnOk P w K mg base CX0 1 T.fStep T.dStep ["self", "word", "digit"] (spStep T.C) := by
  refine T.step.fn.ok scStep (fun vs H Q E h => ?_) (fun cdv A outer s H vs Q E hr h => ?_)
  · obtain ⟨x, k, rows, u, dg, rfl, _⟩ := h
    rfl
  · obtain ⟨x, kk, rows, u, dg, rfl, ⟨⟨dx, d, kvs, hx, hd, hlet⟩⟩, ok, hu, hlen, hdg, k⟩ := h
    have nd := scStep.nd
    have hu1 := hu_of hr
    refine ⟨_, pss_cons (ps_set (i := 3) nd rfl (Or.inl rfl) (pe_lst pa_nil))
      (pss_cons (ps_for PassesOwn.never rfl (pi_str (pv 1)) (pg_name (i := 4) nd rfl (Or.inl rfl))
        (pss_cons (ps_asg (pe_ix ix_list (pe_dget hu1 (pe_fld (pv 0) rfl) (pv 4) (fun _ _ => rfl)) (pv 2) (fun _ _ => rfl))
            (pg_tup rfl (pgs_cons (pg_name (i := 2) nd rfl (Or.inl rfl)) (pgs_cons (pg_name (i := 5) nd rfl (Or.inl rfl)) pgs_nil))))
        (pss_one (ps_expr (pe_bm PySem.F.plainAttrs_list PySem.F.slot_list_append PySem.F.type_list_append mt_append (pv 3) (pa_cons (pv 5) pa_nil))))))
      (pss_one (ps_ret (pe_tup (pa_cons (pv 2) (pa_cons (pe_join pe_str (pv 3)) pa_nil)))))), ?_⟩
    refine ⟨by decide, fun p hp => ?_⟩
    refine ⟨_, rfl, wS u, rfl, for_it (walk_word u) (fun i σ H2 => ∃ v4 v5 : Option V, σ = [some (.ref x), some (.str (wS u)), some (nV (stepW rows (u.take i) dg).1), some (.ref p), v4, v5] ∧ Same H H2 ∧
        H2 p = some (.lst ((stepW rows (u.take i) dg).2.map fun l => V.str (wS [l]))))
      ⟨none, none, rfl, same_upd hp, upd_same⟩ (fun _ _ _ _ _ => trivial) ?_ ?_⟩
    · rintro i y σ H2 H3 hi ⟨v4, v5, rfl, s2, h2⟩ ⟨rfl, l, hl, rfl⟩
      have hlm : l ∈ u := List.mem_of_getElem? hl
      have hsw := stepW_ok ok (w := u.take i) (x := dg) (fun m hm => hu m (List.mem_of_mem_take hm)) hdg
      have hsl := stepW_len rows (u.take i) dg
      obtain ⟨a, vs, e1, e2, e3⟩ := hlet l (hu l hlm)
      have e4 : stepW rows (u.take (i + 1)) dg = ((stepL rows l (stepW rows (u.take i) dg).1).1, (stepW rows (u.take i) dg).2 ++ [(stepL rows l (stepW rows (u.take i) dg).1).2]) := by
        rw [take_snoc hl, stepW_append]
        rfl
      rw [e4]
      generalize stepW rows (u.take i) dg = q at *
      obtain ⟨z, sec⟩ := q
      have hz : z < kk := hsw.1
      have e5 : ((List.range kk).map (stepL rows l))[z]? = some (stepL rows l z) := by
        rw [List.getElem?_map, List.getElem?_range hz]
        rfl
      obtain ⟨v, hv, ⟨b, rfl, hb⟩⟩ := e3.got e5
      refine ⟨_, rfl, x, T.C, dx, _, _, rfl, s2 _ _ hx, T.cl, T.nTable, flds_table _ _, _, rfl, d, .ref a, rfl, ?_, _, rfl, a, vs, _, _, rfl, rfl, SqL.of (s2 _ _ e2), atI_nat hv, ?_⟩
      · rw [← e1]
        exact DGet.k (k := Sum.inr (wS [l])) (s2 _ _ hd)
      · refine ⟨b, _, rfl, SqT.of (s2 _ _ hb), rfl, _, _, rfl, _, _, rfl, rfl, ?_⟩
        refine ⟨_, rfl, .inl ⟨rfl, _, SqL.of h2⟩, _, rfl, p, _, _, rfl, rfl, h2, ?_, ?_⟩
        · rw [List.length_map]
          refine small 1000 ?_
          have : (u.take i).length ≤ u.length := by rw [List.length_take]; omega
          show sec.length ≤ 1000
          have hsl : sec.length = _ := hsl
          omega
        · refine ⟨_, _, rfl, s2.up hp, ?_⟩
          rw [upd_same]
          simp only [List.map_append, List.map_cons, List.map_nil]
    · rintro σ H2 ⟨v4, v5, rfl, s2, h2⟩
      rw [List.take_of_length_le (Nat.le_refl _)] at h2 ⊢
      refine ⟨_, rfl, ⟨_, rfl⟩, _, rfl, _, p, _, rfl, rfl, .inl (SqL.of (xs := ((stepW rows u dg).2.map fun l => wS [l]).map V.str) ?_), join_ok _ ?_, ?_⟩
      · rw [List.map_map]
        exact h2
      · rw [stepW_len]
        omega
      · rw [wS_join]
        exact ⟨(by show 2 ≤ sizeLine; decide), fun t ht => k _ t (s2.up (s2.free ht)) (s2.free ht) upd_same⟩
/-! row -/
abbrev nmRow : List Str := ["self", "word", "steps", "digit", "_", "section"]
theorem scRow : FnScope nmRow ["self", "word"] (defScope sRow) := ⟨rfl, rfl, rfl, by decide +kernel, rfl, by decide +kernel, by decide +kernel⟩
def StepAt (H : Hp) (v : V) (p : Nat × List Ltr) : Prop := ∃ a, v = .ref a ∧ H a = some (.tup [nV p.1, .str (wS p.2)])
theorem StepAt.same {H H' : Hp} {v : V} {p : Nat × List Ltr} (s : Same H H') (h : StepAt H v p) : StepAt H' v p := let ⟨a, e1, e2⟩ := h; ⟨a, e1, s _ _ e2⟩
theorem StepAt.tups {H H' : Hp} {v : V} {p : Nat × List Ltr} (s : TupS H H') (h : StepAt H v p) : StepAt H' v p := let ⟨a, e1, e2⟩ := h; ⟨a, e1, s _ _ e2⟩
def secV (ws : List (List Ltr)) : List V := ws.map fun u => V.str (wS u)
def spRow (C : Addr) : Sp := fun vs H Q _ => ∃ x k rows u, vs = [.ref x, .str (wS u)] ∧ ActorAt C H x k rows ∧ Mach k rows ∧ WordOk rows.length u ∧ u.length ≤ 100 ∧
  ∀ H' t a b, Same H H' → H' t = some (.tup [.ref a, .ref b]) → H' a = some (.tup ((digs rows k u).map nV)) → H' b = some (.tup (secV (secs rows k u))) → Q (.ref t) H'
theorem ok_row (T : Tab K mg) : FnOk P w K mg base CX0 3 T.fRow T.dRow ["self", "word"] (spRow T.C) := by
  have G1 : FnOk P w K mg base CX0 1 T.fStep T.dStep ["self", "word", "digit"] (spStep T.C) := ok_step T
  have G2 : FnOk P w K mg base CX0 2 T.fCut T.dCut ["word"] spCut := ok_cut T
  refine T.row.fn.ok scRow (fun vs H Q E h => ?_) (fun cdv A outer s H vs Q E hr h => ?_)
  · obtain ⟨x, k, rows, u, rfl, _⟩ := h
    rfl
  · obtain ⟨x, kk, rows, u, rfl, hA, ok, hu, hlen, k⟩ := h
    have nd := scRow.nd
    obtain ⟨⟨dx, d, kvs, hx, hd, hlet⟩⟩ := id hA
    have hr1 : Room 1 _ := hr.mono (by decide)
    have hk3 := ok.k3
    refine ⟨_, pss_cons (ps_setLc (i := 2) (own := [("digit", 3)]) (g := gName 3) (tt := tYes) rfl nd rfl rfl (sw_true rfl rfl rfl (by decide +kernel)) (pi_range1 rfl T.bRange (pa_cons (pe_fld (pv 0) rfl) pa_nil)) (blkOk_by (N := nmRow) (sc := defScope sRow) (by decide +kernel))
          (fun _ _ _ _ _ => pg_name (i := 3) nd rfl (Or.inl rfl)) (fun _ _ _ _ _ => pts_nil)
          (fun _ _ _ _ _ => pe_meth (pv 0) T.cl T.mStep G1 hr1 T.step.bd .nil pass0 (pa_cons (pv 1) (pa_cons (pv 3) pa_nil))))
      (pss_one (ps_ret (pe_tup
        (pa_cons (pe_callTy call_tuple_of (by rfl) T.bTuple (by decide +kernel) (pa_cons
          (pe_lc (own := [("digit", 3), ("_", 4)]) (g := gTup K 2 (gCons (gName 3) (gCons (gName 4) gNil))) (tt := tYes) rfl nd (pi_list (pv 2)) (blkOk_by (N := nmRow) (sc := defScope sRow) (by decide +kernel))
            (fun _ _ _ _ _ => pg_tup rfl (pgs_cons (pg_name (i := 3) nd rfl (Or.inl rfl)) (pgs_cons (pg_name (i := 4) nd rfl (Or.inl rfl)) pgs_nil))) (fun _ _ _ _ _ => pts_nil) (fun _ _ _ _ _ => pv 3)) pa_nil))
        (pa_cons (pe_callTy call_tuple_of (by rfl) T.bTuple (by decide +kernel) (pa_cons
          (pe_lc (own := [("_", 4), ("section", 5)]) (g := gTup K 2 (gCons (gName 4) (gCons (gName 5) gNil))) (tt := tYes) rfl nd (pi_list (pv 2)) (blkOk_by (N := nmRow) (sc := defScope sRow) (by decide +kernel))
            (fun _ _ _ _ _ => pg_tup rfl (pgs_cons (pg_name (i := 4) nd rfl (Or.inl rfl)) (pgs_cons (pg_name (i := 5) nd rfl (Or.inl rfl)) pgs_nil))) (fun _ _ _ _ _ => pts_nil)
            (fun _ _ _ _ _ => pe_call G2 (hr.mono (by decide)) rfl T.cut.mg T.cut.fn.kp T.cut.bd .nil pass0 (pa_cons (pv 5) pa_nil))) pa_nil)) pa_nil))))), ?_⟩
    -- steps
    refine ⟨_, rfl, x, T.C, dx, _, _, rfl, hx, T.cl, T.nSize, flds_size _ _, _, rfl, by omega, by omega, fun D hD => lc_range (lo := 0) (n := (kk : Int).toNat) (fun i H2 => Same H H2 ∧ ∃ vs, H2 D = some (.lst vs) ∧ AllAt (StepAt H2) vs ((List.range i).map (stepW rows u)))
      ⟨same_upd hD, [], upd_same, .nil⟩ ?_ ?_⟩
    · rintro i H2 hi ⟨s2, vs, h2, hall⟩
      rw [Int.toNat_natCast] at hi
      refine ⟨rfl, yesIf ⟨_, rfl, x, dx, _, rfl, s2 _ _ hx, flds_no _ _ (by decide +kernel) (by decide +kernel), _, rfl, _, rfl, x, kk, rows, u, i, ?_, hA.same s2, ok, hu, hlen, hi, fun H3 t s3 nt ht => ?_⟩⟩
      · show [V.ref x, V.str (wS u), V.int (0 + (i : Int))] = _
        rw [Int.zero_add]
        rfl
      · have s4 : TupS H3 (upd H3 D (.lst (vs ++ [.ref t]))) := .updL (s3 _ _ h2)
        refine ⟨vs, s3 _ _ h2, small 100 ?_, (s2.trans s3).up hD, _, upd_same, ?_⟩
        · have := hall.len
          rw [this, List.length_map, List.length_range]
          omega
        · rw [List.range_succ, List.map_append]
          exact (hall.imp fun _ _ z => (z.same s3).tups s4).snoc ⟨t, rfl, s4 _ _ ht⟩
    · rintro H2 ⟨s2, vs, h2, hall⟩
      rw [Int.toNat_natCast] at hall
      have hvl : vs.length = kk := by rw [hall.len, List.length_map, List.length_range]
      -- the digits
      refine ⟨_, rfl, D, rfl, ⟨_, SqL.of h2⟩, fun D1 hD1 => lc_it (walk_list (xs := vs)) (fun i H3 => Same H2 H3 ∧ H3 D1 = some (.lst (((List.range i).map fun x => (stepW rows u x).1).map nV)))
        ⟨same_upd hD1, upd_same⟩ (fun i H3 _ ⟨s3, _⟩ => SqL.of (s3 _ _ h2)) ?_ ?_⟩
      · rintro i y H3 H4 hi ⟨s3, h3⟩ ⟨rfl, hy⟩
        obtain ⟨q, hq, ⟨a, rfl, ha⟩⟩ := hall.get hy
        rw [List.getElem?_map, List.getElem?_range (by omega)] at hq
        obtain rfl := Option.some.inj hq
        refine ⟨a, _, rfl, SqT.of (s3 _ _ ha), rfl, _, _, rfl, _, _, rfl, rfl, rfl, yesIf ⟨_, rfl, _, h3, small 100 ?_, s3.up hD1, ?_⟩⟩
        · rw [List.length_map, List.length_map, List.length_range]
          omega
        · rw [upd_same, List.range_succ, List.map_append, List.map_append]
          rfl
      · rintro H3 ⟨s3, h3⟩
        rw [hvl] at h3
        refine ⟨D1, _, rfl, .inl ⟨SqL.of h3, fun a ha => ?_⟩⟩
        have s4 : Same H3 (upd H3 a (.tup ((digs rows kk u).map nV))) := same_upd ha
        have h4 : upd H3 a (.tup ((digs rows kk u).map nV)) a = some (.tup ((digs rows kk u).map nV)) := upd_same
        show tCons _ _ _ (upd H3 a (.tup ((digs rows kk u).map nV))) _
        generalize upd H3 a (.tup ((digs rows kk u).map nV)) = H4 at s4 h4
        have s24 : Same H2 H4 := s3.trans s4
        -- the sections
        refine ⟨_, rfl, D, rfl, ⟨_, SqL.of (s24 _ _ h2)⟩, fun D2 hD2 => lc_it (walk_list (xs := vs)) (fun i H5 => Same H4 H5 ∧ H5 D2 = some (.lst (secV ((List.range i).map fun x => cutW (stepW rows u x).2))))
          ⟨same_upd hD2, upd_same⟩ (fun i H5 _ ⟨s5, _⟩ => SqL.of (s5 _ _ (s24 _ _ h2))) ?_ ?_⟩
        · rintro i y H5 H6 hi ⟨s5, h5⟩ ⟨rfl, hy⟩
          obtain ⟨q, hq, ⟨b, rfl, hb⟩⟩ := hall.get hy
          rw [List.getElem?_map, List.getElem?_range (by omega)] at hq
          obtain rfl := Option.some.inj hq
          have hik : i < kk := by omega
          have hw := (stepW_ok ok (w := u) (x := i) hu hik).2
          refine ⟨b, _, rfl, SqT.of (s5 _ _ (s24 _ _ hb)), rfl, _, _, rfl, _, _, rfl, rfl, rfl, yesIf ⟨_, rfl, _, rfl, fun l hl => Nat.lt_of_lt_of_le (hw l hl) ok.r4, ?_, fun H7 s7 => ⟨_, s7 _ _ h5, small 100 ?_, (s5.trans s7).up hD2, ?_⟩⟩⟩
          · rw [stepW_len]; exact hlen
          · unfold secV
            rw [List.length_map, List.length_map, List.length_range]
            omega
          · unfold secV
            rw [upd_same, List.range_succ, List.map_append, List.map_append]
            rfl
        · rintro H5 ⟨s5, h5⟩
          rw [hvl] at h5
          refine ⟨D2, _, rfl, .inl ⟨SqL.of h5, fun b hb => ?_⟩⟩
          have s6 : Same H5 (upd H5 b (.tup (secV (secs rows kk u)))) := same_upd hb
          refine ⟨(by show 2 ≤ sizeLine; decide), fun t ht => ?_⟩
          have s7 := s6.up (o := .tup [.ref a, .ref b]) (s6.free ht)
          refine k _ t a b ((s2.trans s24).trans (s5.trans s7)) upd_same (s7 _ _ (s5 _ _ h4)) ?_
          rw [upd_ne (fun z => by rw [← z, upd_same] at ht; cases ht)]
          exact upd_same
end
end LT
set_option linter.all false
set_option Elab.async false
set_option maxRecDepth 100000
set_option maxHeartbeats 4000000
namespace LT
open PySem PySem.Spec PyProof.Rows L2 LTR
section
variable {P : Program} {w : World} {K : PySem.W.Frag} {mg : Str → Option Value} {base : Heap}
/-! Actor.__init__ -/
abbrev nmInit : List Str := ["self", "machine", "state", "row", "back", "digit", "out", "following"]
theorem scInit : FnScope nmInit ["self", "machine"] (defScope sInit) := ⟨rfl, rfl, rfl, by decide +kernel, rfl, by decide +kernel, by decide +kernel⟩
def spInit (C : Addr) : Sp := fun vs H Q _ => ∃ x dx v k rows, vs = [.ref x, v] ∧ H x = some (.ins C dx []) ∧ MachAt H v k rows ∧ Mach k rows ∧ ∀ H', SameBut x H H' → ActorAt C H' x k rows → Q .non H'
theorem flat_rep (k : Nat) (v : V) : (List.replicate k [v]).flatten = List.replicate k v := by
  induction k with
  | zero => rfl
  | succ n ih => rw [List.replicate_succ, List.flatten_cons, ih]; rfl
theorem ixN_nat {n j : Nat} (h : j < n) : ixN n (j : Int) = some j := by
  unfold ixN
  rw [if_pos (by omega), if_pos (by omega), Int.toNat_natCast]
theorem ok_init (T : Tab K mg) : FnOk P w K mg base CX0 1 T.fInit T.dInit ["self", "machine"] (spInit T.C) := by
  refine T.init.fn.ok scInit (fun vs H Q E h => ?_) (fun cdv A outer s H vs Q E hr h => ?_)
  · obtain ⟨x, dx, v, k, rows, rfl, _⟩ := h
    rfl
  · obtain ⟨x, dx, v, kk, rows, rfl, hx, ⟨m, r, rs, rfl, hm, hrr, hrows⟩, ok, k⟩ := h
    have nd := scInit.nd
    have hu := hu_of hr
    obtain ⟨t1, c1⟩ := T.cSMALL
    obtain ⟨t2, c2⟩ := T.cLARGE
    refine ⟨_, pss_cons (ps_fld (pv 0) (pe_ix ix_tup (pv 1) pe_int (fun _ _ => rfl)) rfl)
      (pss_cons (ps_fld (pv 0) pe_dnewK rfl)
      (pss_one (ps_for PassesOwn.never rfl (pi_enumT (by rfl) T.bEnumerate (pa_cons (pe_ix ix_tup (pv 1) pe_int (fun _ _ => rfl)) pa_nil))
          (pg_tup rfl (pgs_cons (pg_name (i := 2) nd rfl (Or.inl rfl)) (pgs_cons (pg_name (i := 3) nd rfl (Or.inl rfl)) pgs_nil)))
        (pss_cons (ps_set (i := 4) nd rfl (Or.inl rfl) (pe_op op_rep (pe_lst (pa_cons (pe_tup (pa_cons pe_int (pa_cons pe_str pa_nil))) pa_nil)) (pe_fld (pv 0) rfl)))
        (pss_cons (ps_for PassesOwn.never rfl (pi_enumT (by rfl) T.bEnumerate (pa_cons (pv 3) pa_nil))
            (pg_tup rfl (pgs_cons (pg_name (i := 5) nd rfl (Or.inl rfl)) (pgs_cons (pg_tup rfl (pgs_cons (pg_name (i := 6) nd rfl (Or.inl rfl)) (pgs_cons (pg_name (i := 7) nd rfl (Or.inl rfl)) pgs_nil))) pgs_nil)))
          (pss_one (ps_asg (pe_tup (pa_cons (pv 5) (pa_cons (pe_item_str (pe_gs c2) (pv 7) (fun _ _ => rfl)) pa_nil))) (pg_sub (pv 4) (pv 6) set_list))))
        (pss_cons (ps_dput hu (pe_fld (pv 0) rfl) (pe_item_str (pe_gs c1) (pv 2) (fun _ _ => rfl))
          (pe_lc (own := [("out", 6), ("following", 7)]) (g := gTup K 2 (gCons (gName 6) (gCons (gName 7) gNil))) (tt := tYes) rfl nd (pi_tup (pv 3)) (blkOk_by (N := nmInit) (sc := defScope sInit) (by decide +kernel))
            (fun _ _ _ _ _ => pg_tup rfl (pgs_cons (pg_name (i := 6) nd rfl (Or.inl rfl)) (pgs_cons (pg_name (i := 7) nd rfl (Or.inl rfl)) pgs_nil))) (fun _ _ _ _ _ => pts_nil)
            (fun _ _ _ _ _ => pe_tup (pa_cons (pv 6) (pa_cons (pe_item_str (pe_gs c1) (pv 7) (fun _ _ => rfl)) pa_nil)))) rfl)
        (pss_one (ps_dput hu (pe_fld (pv 0) rfl) (pe_item_str (pe_gs c2) (pv 2) (fun _ _ => rfl)) (pv 4) rfl)))))))), ?_⟩
    have hk2 := ok.k2
    have hk3 := ok.k3
    have hr4 := ok.r4
    refine ⟨_, rfl, m, _, _, _, rfl, rfl, SqT.of hm, at0, _, rfl, x, T.C, dx, _, rfl, hx, T.cl, T.nSize, (by decide), ?_⟩
    intro d hd
    have nxd : x ≠ d := by
      rintro rfl
      rw [upd_same] at hd
      cases hd
    refine ⟨_, rfl, x, T.C, dx, _, rfl, (by rw [upd_ne nxd]; exact upd_same), T.cl, T.nTable, (by show 1 < 1000; decide), ?_⟩
    have hd0 : H d = none := by
      rw [upd_ne nxd.symm] at hd
      exact hd
    have nmx : m ≠ x := ne_of hm hx (by intro z; cases z)
    have sB : SameBut x H (upd (upd (upd H x (.ins T.C dx (putF "size" (nV kk) []))) d (.dK [])) x (.ins T.C dx (flds kk d))) := fun b o n e => by
      rw [upd_ne n, upd_ne (ne_of_none e hd0), upd_ne n]
      exact e
    have tX : ∀ {H2 : Hp}, SameBut x H H2 → TupS H H2 := fun s b xs e => s b _ (ne_of e hx (by intro z; cases z)) e
    refine ⟨_, rfl, m, _, _, _, rfl, rfl, SqT.of (sB _ _ nmx hm), at1, r, _, rfl, SqT.of (tX sB _ _ hrr), for_it (walk_enumT (K := K) (a := r) (xs := rs))
      (fun i σ H2 => ∃ (v2 v3 v4 v5 v6 v7 : Option V) (kvs : List (Key × V)), σ = [some (.ref x), some (.ref m), v2, v3, v4, v5, v6, v7] ∧ SameBut x H H2 ∧ H2 x = some (.ins T.C dx (flds kk d)) ∧ H2 d = some (.dK kvs) ∧
        kvs.length ≤ 2 * i ∧ ∀ l : Ltr, l.1 < i → LetAt H2 kvs kk rows l)
      ⟨none, none, none, none, none, none, [], rfl, sB, upd_same, by rw [upd_ne nxd.symm, upd_same], by simp, fun l hl => absurd hl (by omega)⟩ (fun i σ H2 _ ⟨_, _, _, _, _, _, _, _, s2, _⟩ => SqT.of (tX s2 _ _ hrr)) ?_ ?_⟩
    · rintro i _ σ H2 _ _ ⟨v2, v3, v4, v5, v6, v7, kvs, rfl, s2, hx2, hd2, hkl, hlet⟩ ⟨T0, _, y, rfl, hT0, rfl, e0, hy⟩
      cases e0
      obtain ⟨row, hrow, ⟨a, es, rfl, ha, hes⟩⟩ := hrows.get hy
      have hir : i < rows.length := (List.getElem?_eq_some_iff.mp hrow).1
      have hi4 : i < 4 := by omega
      have hgetD : rows.getD i [] = row := by rw [List.getD_eq_getElem?_getD, hrow, Option.getD_some]
      have rok := ok.row row (List.mem_of_getElem? hrow)
      have hel : es.length = kk := by rw [hes.len]; exact rok.len
      refine ⟨T0, _, rfl, SqT.of upd_same, rfl, _, _, rfl, _, _, rfl, rfl, ?_⟩
      -- back
      refine ⟨(by show 2 ≤ sizeLine; decide), fun e he => ⟨(by show 1 ≤ sizeLine; decide), fun p0 hp0 => ?_⟩⟩
      have sA : Same H2 (upd H2 T0 (.tup [.int (i : Nat), .ref a])) := same_upd hT0
      have sA1 := sA.trans (same_upd (o := .tup [.int 0, .str ""]) he)
      have sA2 := sA1.trans (same_upd (o := .lst [.ref e]) hp0)
      refine ⟨_, rfl, x, T.C, dx, _, _, rfl, sA2 _ _ hx2, T.cl, T.nSize, flds_size _ _, p0, (kk : Int), _, rfl, rfl, upd_same, by omega, by omega, ?_, fun p hp => ?_⟩
      · show 1 * (kk : Int).toNat ≤ sizeLine
        rw [Int.toNat_natCast]
        exact small' 1000 (by omega)
      rw [flat_rep, Int.toNat_natCast]
      have s3 := sA2.trans (same_upd (o := .lst (List.replicate kk (V.ref e))) hp)
      have hp2 : H2 p = none := sA2.free hp
      have h3p : upd (upd (upd (upd H2 T0 (.tup [.int (i : Nat), .ref a])) e (.tup [.int 0, .str ""])) p0 (.lst [.ref e])) p (.lst (List.replicate kk (V.ref e))) p = some (.lst (List.replicate kk (V.ref e))) := upd_same
      generalize upd (upd (upd (upd H2 T0 (.tup [.int (i : Nat), .ref a])) e (.tup [.int 0, .str ""])) p0 (.lst [.ref e])) p (.lst (List.replicate kk (V.ref e))) = H3 at s3 h3p
      have ha2 : H2 a = some (.tup es) := tX s2 _ _ ha
      have t23 : TupS H2 H3 := .of s3
      have nap : a ≠ p := ne_of_none ha2 hp2
      -- the inner loop
      refine ⟨_, rfl, a, _, rfl, SqT.of (s3 _ _ ha2), for_it (walk_enumT (K := K) (a := a) (xs := es))
        (fun j σ H5 => ∃ (v5 v6 v7 : Option V) (bs : List V), σ = [some (.ref x), some (.ref m), some (.int (i : Nat)), some (.ref a), some (.ref p), v5, v6, v7] ∧ SameBut p H3 H5 ∧ H5 p = some (.lst bs) ∧ bs.length = kk ∧
          ∀ z, z < j → ∃ v, bs[(ent rows i z).1]? = some v ∧ PairAt H5 v (z, ((ent rows i z).2, true)))
        ⟨v5, v6, v7, _, rfl, fun b o _ e => e, h3p, List.length_replicate, fun z hz => absurd hz (by omega)⟩
        (fun j σ H5 _ ⟨_, _, _, _, _, s5, _⟩ => SqT.of (s5 _ _ nap (s3 _ _ ha2))) ?_ ?_⟩
      · rintro j _ σ H5 _ _ ⟨v5, v6, v7, bs, rfl, s5, h5, hbl, hbs⟩ ⟨T1, _, y, rfl, hT1, rfl, e1, hy⟩
        cases e1
        obtain ⟨en, hen, ⟨b, rfl, hb⟩⟩ := hes.get hy
        have hjk : j < kk := by rw [← hel]; exact (List.getElem?_eq_some_iff.mp hy).1
        have hent : ent rows i j = en := by
          unfold ent
          rw [hgetD, List.getD_eq_getElem?_getD, hen, Option.getD_some]
        have hbr : H2 b = some (.tup [nV en.1, nV en.2]) := tX s2 _ _ hb
        have nbp : b ≠ p := ne_of_none hbr hp2
        have hb5 : H5 b = some (.tup [nV en.1, nV en.2]) := s5 _ _ nbp (s3 _ _ hbr)
        have ho := rok.out en (List.mem_of_getElem? hen)
        have hn := rok.nxt en (List.mem_of_getElem? hen)
        have npT : p ≠ T1 := ne_of_none h5 hT1
        refine ⟨T1, _, rfl, SqT.of upd_same, rfl, _, _, rfl, _, _, rfl, ⟨b, _, rfl, SqT.of (same_upd hT1 _ _ hb5), rfl, _, _, rfl, _, _, rfl, rfl, rfl, ?_⟩⟩
        refine ⟨_, rfl, _, rfl, largeS, (en.2 : Int), code (en.2, true), rfl, rfl, by omega, by omega, by rw [large_len]; omega, ?_, (by show 2 ≤ sizeLine; decide), fun t ht => ?_⟩
        · rw [Int.toNat_natCast]
          exact at_large _ (by omega)
        have npt : p ≠ t := ne_of_none (by rw [upd_ne npT]; exact h5) ht
        refine ⟨_, rfl, _, rfl, p, bs, _, en.1, rfl, rfl, (by rw [upd_ne npt, upd_ne npT]; exact h5), (by rw [hbl]; exact ixN_nat ho), ?_⟩
        have ht5 : H5 t = none := (same_upd hT1).free ht
        refine ⟨_, _, _, bs.set en.1 (.ref t), rfl, ((s5.up hT1).up ht).own, upd_same, by rw [List.length_set, hbl], fun z hz => ?_⟩
        have tl : TupS H5 (upd (upd (upd H5 T1 (.tup [.int (j : Nat), .ref b])) t (.tup [nV j, .str ⟨#[code (en.2, true)]⟩])) p (.lst (bs.set en.1 (.ref t)))) :=
          ((TupS.of (same_upd hT1)).trans (.of (same_upd ht))).trans (.updL (l := bs) (by rw [upd_ne npt, upd_ne npT]; exact h5))
        by_cases hzj : z = j
        · subst hzj
          rw [hent]
          refine ⟨.ref t, ?_, t, rfl, ?_⟩
          · rw [List.getElem?_set_self (by rw [hbl]; exact ho)]
          · rw [upd_ne npt.symm, upd_same]
            rfl
        · obtain ⟨v, h1, h2⟩ := hbs z (by omega)
          refine ⟨v, ?_, h2.tups tl⟩
          have hne : en.1 ≠ (ent rows i z).1 := by
            rw [← hent]
            intro q
            have q1 := back_out ok hir hjk
            have q2 := back_out ok hir (show z < kk by omega)
            rw [q, q2] at q1
            exact hzj q1
          rw [List.getElem?_set_ne hne]
          exact h1
      · rintro σ H5 ⟨v5, v6, v7, bs, rfl, s5, h5, hbl, hbs⟩
        rw [hel] at hbs
        have s25 : Same H2 H5 := fun b o e => s5 b o (ne_of_none e hp2) (s3 b o e)
        have allT : AllAt (PairAt H5) bs ((List.range kk).map (stepL rows (i, true))) := by
          refine ⟨by rw [hbl, List.length_map, List.length_range], fun z v q hv hq => ?_⟩
          have hz : z < kk := by rw [← hbl]; exact (List.getElem?_eq_some_iff.mp hv).1
          rw [List.getElem?_map, List.getElem?_range hz] at hq
          obtain rfl := Option.some.inj hq
          obtain ⟨b1, b2⟩ := back_ok ok hir hz
          obtain ⟨v', h1, h2⟩ := hbs _ b1
          rw [b2, hv] at h1
          obtain rfl := Option.some.inj h1
          exact h2
        -- the list of the small letter
        refine ⟨_, rfl, a, rfl, ⟨_, SqT.of (s25 _ _ ha2)⟩, fun D hD => lc_tup (K := K) (a := a) (xs := es) (fun j H6 => Same H5 H6 ∧ ∃ ps, H6 D = some (.lst ps) ∧ AllAt (PairAt H6) ps ((List.range j).map (stepL rows (i, false))))
          ⟨same_upd hD, [], upd_same, .nil⟩ (fun j H6 _ ⟨s6, _⟩ => SqT.of (s6 _ _ (s25 _ _ ha2))) ?_ ?_⟩
        · rintro j y H6 hy ⟨s6, ps, h6, hps⟩
          obtain ⟨en, hen, ⟨b, rfl, hb⟩⟩ := hes.get hy
          have hjk : j < kk := by rw [← hel]; exact (List.getElem?_eq_some_iff.mp hy).1
          have hent : ent rows i j = en := by
            unfold ent
            rw [hgetD, List.getD_eq_getElem?_getD, hen, Option.getD_some]
          have hbr : H2 b = some (.tup [nV en.1, nV en.2]) := tX s2 _ _ hb
          have hn := rok.nxt en (List.mem_of_getElem? hen)
          refine ⟨b, _, rfl, SqT.of (s6 _ _ (s25 _ _ hbr)), rfl, _, _, rfl, _, _, rfl, rfl, rfl, yesIf ⟨_, rfl, _, rfl, smallS, (en.2 : Int), code (en.2, false), rfl, rfl, by omega, by omega, by rw [small_len]; omega, ?_, (by show 2 ≤ sizeLine; decide), fun t ht => ?_⟩⟩
          · rw [Int.toNat_natCast]
            exact at_small _ (by omega)
          · have st := same_upd (o := .tup [nV en.1, .str ⟨#[code (en.2, false)]⟩]) ht
            refine ⟨ps, st _ _ h6, small 100 ?_, (s6.trans st).up hD, _, upd_same, ?_⟩
            · rw [hps.len, List.length_map, List.length_range]
              omega
            · have tl := TupS.trans (.of st) (TupS.updL (o := .lst (ps ++ [.ref t])) (st _ _ h6))
              rw [List.range_succ, List.map_append]
              refine (hps.imp fun _ _ z => z.tups tl).snoc ⟨t, rfl, ?_⟩
              rw [upd_ne (ne_of_none h6 ht).symm, upd_same]
              show some (HO.tup [nV en.1, .str (wS [(en.2, false)])]) = some (HO.tup [nV (ent rows i j).1, .str (wS [((ent rows i j).2, false)])])
              rw [hent]
        · rintro H6 ⟨s6, ps, h6, hps⟩
          rw [hel] at hps
          have s26 : Same H2 H6 := s25.trans s6
          have hx6 := s26 _ _ hx2
          have hd6 := s26 _ _ hd2
          refine ⟨_, rfl, x, T.C, dx, _, _, rfl, hx6, T.cl, T.nTable, flds_table _ _, _, rfl, smallS, (i : Int), code (i, false), rfl, rfl, by omega, by omega, by rw [small_len]; omega, by rw [Int.toNat_natCast]; exact at_small _ hi4, d, _, rfl,
            DPut.k (k := Sum.inr (wS [(i, false)])) hd6 (small 100 (by omega)), ?_⟩
          refine ⟨_, rfl, _, rfl, x, T.C, dx, _, _, rfl, (by rw [upd_ne nxd]; exact hx6), T.cl, T.nTable, flds_table _ _, _, rfl, largeS, (i : Int), code (i, true), rfl, rfl, by omega, by omega, by rw [large_len]; omega, by rw [Int.toNat_natCast]; exact at_large _ hi4, d, _, rfl,
            DPut.k (k := Sum.inr (wS [(i, true)])) upd_same (small 100 (Nat.le_trans (length_putK _ _ _) (by omega))), ?_⟩
          rw [upd_upd]
          have nk : ∀ {l m : Ltr}, l.1 < 4 → m.1 < 4 → l ≠ m → ¬ (Sum.inr (wS [l]) : Key) = Sum.inr (wS [m]) := fun {l m} h1 h2 n e => by
            have e1 := congrArg (fun z : Str => z.cps.toList) (Sum.inr.inj e)
            simp only [wS_list] at e1
            exact n (code_inj (by omega) (by omega) (List.cons.inj (show [code l] = [code m] from e1)).1)
          have tl : TupS H6 (upd H6 d (.dK (putK (putK kvs (Sum.inr (wS [(i, false)])) (.ref D)) (Sum.inr (wS [(i, true)])) (.ref p)))) := .updD hd6
          have lst : ∀ {b vs}, H6 b = some (.lst vs) → upd H6 d (.dK (putK (putK kvs (Sum.inr (wS [(i, false)])) (.ref D)) (Sum.inr (wS [(i, true)])) (.ref p))) b = some (.lst vs) := fun {b vs} e => by
            rw [upd_ne (ne_of e hd6 (by intro z; cases z))]
            exact e
          refine ⟨_, _, _, _, _, _, _, rfl, fun b o n e => ?_, ?_, upd_same, ?_, fun l hl => ?_⟩
          · rw [upd_ne (ne_of_none e hd0)]
            exact s26 _ _ (s2 b o n e)
          · rw [upd_ne nxd]
            exact hx6
          · have h1 := length_putK kvs (Sum.inr (wS [(i, false)]) : Key) (.ref D)
            have h2 := length_putK (putK kvs (Sum.inr (wS [(i, false)])) (.ref D)) (Sum.inr (wS [(i, true)]) : Key) (.ref p)
            omega
          · by_cases hli : l.1 < i
            · obtain ⟨a', vs', e1, e2, e3⟩ := (hlet l hli).same s26
              refine ⟨a', vs', ?_, lst e2, e3.imp fun _ _ z => z.tups tl⟩
              rw [valV_put, if_neg (nk (by omega) hi4 (fun z => by rw [z] at hli; exact absurd hli (Nat.lt_irrefl _))), valV_put, if_neg (nk (by omega) hi4 (fun z => by rw [z] at hli; exact absurd hli (Nat.lt_irrefl _)))]
              exact e1
            · obtain ⟨l1, lb⟩ := l
              have hl1 : l1 = i := by
                have hl : l1 < i + 1 := hl
                have hli : ¬ l1 < i := hli
                omega
              subst hl1
              cases lb with
              | false =>
                refine ⟨D, ps, ?_, lst h6, hps.imp fun _ _ z => z.tups tl⟩
                rw [valV_put, if_neg (nk hi4 hi4 (fun z => by cases z)), valV_put, if_pos rfl]
              | true =>
                refine ⟨p, bs, ?_, lst (s6 _ _ h5), allT.imp fun _ _ z => (z.same s6).tups tl⟩
                rw [valV_put, if_pos rfl]
    · rintro σ H2 ⟨v2, v3, v4, v5, v6, v7, kvs, rfl, s2, hx2, hd2, hkl, hlet⟩
      rw [hrows.len] at hlet
      exact k H2 s2 ⟨⟨dx, d, kvs, hx2, hd2, hlet⟩⟩
end
end LT
set_option linter.all false
set_option Elab.async false
set_option maxRecDepth 100000
set_option maxHeartbeats 4000000
namespace LT
open PySem PySem.Spec PyProof.Rows L2 LTR
section
variable {P : Program} {w : World} {K : PySem.W.Frag} {mg : Str → Option Value} {base : Heap}
/-! power_of -/
abbrev nmPow : List Str := ["k", "level", "total", "_"]
theorem scPowerOf : FnScope nmPow ["k", "level"] (defScope sPowerOf) := ⟨rfl, rfl, rfl, by decide +kernel, rfl, by decide +kernel, by decide +kernel⟩
def spPow : Sp := fun vs H Q _ => ∃ k n, vs = [nV k, nV n] ∧ 2 ≤ k ∧ n ≤ 12 ∧ k ^ n ≤ 4096 ∧ Q (nV (k ^ n)) H
theorem ok_powerOf (T : Tab K mg) : FnOk P w K mg base CX0 1 T.fPowerOf T.dPowerOf ["k", "level"] spPow := by
  refine T.powerOf.fn.ok scPowerOf (fun vs H Q E h => ?_) (fun cdv A outer s H vs Q E hr h => ?_)
  · obtain ⟨k, n, rfl, _⟩ := h
    rfl
  · obtain ⟨kk, n, rfl, h2, hn, hp, k⟩ := h
    have nd := scPowerOf.nd
    obtain ⟨t1, c1⟩ := T.cMOSTSTRINGS
    refine ⟨_, pss_cons (ps_set (i := 2) nd rfl (Or.inl rfl) pe_int)
      (pss_cons (ps_for PassesOwn.never rfl (pi_range1 rfl T.bRange (pa_cons (pv 1) pa_nil)) (pg_name (i := 3) nd rfl (Or.inl rfl))
        (pss_cons (ps_aug (i := 2) nd rfl (Or.inl rfl) (pv 0) ip_mul)
        (pss_one (ps_if (pt_cmpR op_gt (pv 2) (pe_gi c1) (nomark _)) (pss_one ps_break) pss_nil))))
      (pss_one (ps_ret (pv 2)))), ?_⟩
    refine ⟨_, rfl, _, rfl, by omega, by omega, for_range (lo := 0) (n := (n : Int).toNat) (fun i σ H2 => H2 = H ∧ ∃ v : Option V, σ = [some (nV kk), some (nV n), some (nV (kk ^ i)), v])
      ⟨rfl, none, rfl⟩ ?_ ?_⟩
    · rintro i σ H2 hi ⟨rfl, v, rfl⟩
      rw [Int.toNat_natCast] at hi
      have hb : kk ^ i ≤ kk ^ n := Nat.pow_le_pow_right (by omega) (by omega)
      have hb2 : kk ^ (i + 1) ≤ kk ^ n := Nat.pow_le_pow_right (by omega) (by omega)
      refine ⟨_, rfl, _, rfl, ((kk ^ i : Nat) : Int), (kk : Int), rfl, rfl, ⟨by omega, by omega⟩, ?_⟩
      have e : V.int (((kk ^ i : Nat) : Int) * (kk : Int)) = nV (kk ^ (i + 1)) := by rw [nV_mul, Nat.pow_succ]
      rw [e]
      refine ⟨_, rfl, _, _, rfl, rfl, _, rfl, ?_⟩
      refine ite2 (fun c => absurd (of_decide_eq_true c) (by omega)) (fun _ => ?_)
      exact ⟨rfl, _, rfl⟩
    · rintro σ H2 ⟨rfl, v, rfl⟩
      rw [Int.toNat_natCast]
      exact ⟨_, rfl, k⟩
/-! check_level -/
theorem scChLevel : FnScope ["k", "level"] ["k", "level"] (defScope sChLevel) := ⟨rfl, rfl, rfl, by decide +kernel, rfl, by decide +kernel, by decide +kernel⟩
def spChLevel : Sp := fun vs H Q _ => ∃ k n, vs = [nV k, nV n] ∧ 2 ≤ k ∧ n ≤ 12 ∧ k ^ n ≤ 4096 ∧ Q .non H
theorem ok_chLevel (T : Tab K mg) : FnOk P w K mg base CX0 2 T.fChLevel T.dChLevel ["k", "level"] spChLevel := by
  have G : FnOk P w K mg base CX0 1 T.fPowerOf T.dPowerOf ["k", "level"] spPow := ok_powerOf T
  refine T.chLevel.fn.ok scChLevel (fun vs H Q E h => ?_) (fun cdv A outer s H vs Q E hr h => ?_)
  · obtain ⟨k, n, rfl, _⟩ := h
    rfl
  · obtain ⟨kk, n, rfl, h2, hn, hp, k⟩ := h
    obtain ⟨t1, c1⟩ := T.cMOSTSTRINGS
    refine ⟨_, pss_one (ps_if (PW.pt (pw_or (pt_cmpR op_lt (pv 1) pe_int (nomark _)) (pw_or (pt_cmpR op_gt (pv 1) (pe_gi c1) (nomark _))
      (pw_or1 (pt_cmpR op_gt (pe_call G hr rfl T.powerOf.mg T.powerOf.fn.kp T.powerOf.bd .nil pass0 (pa_cons (pv 0) (pa_cons (pv 1) pa_nil))) (pe_gi c1) (nomark _)))))) (pss_one ps_never) pss_nil), ?_⟩
    refine ⟨_, rfl, _, _, rfl, rfl, _, rfl, ?_⟩
    refine ite2 (fun c => absurd (of_decide_eq_true c) (by omega)) (fun _ => ?_)
    refine ⟨_, rfl, _, _, rfl, rfl, _, rfl, ?_⟩
    refine ite2 (fun c => absurd (of_decide_eq_true c) (by omega)) (fun _ => ?_)
    refine ⟨_, rfl, _, rfl, kk, n, rfl, h2, hn, hp, _, _, rfl, rfl, _, rfl, ?_⟩
    refine ite2 (fun c => absurd (of_decide_eq_true c) (by omega)) (fun _ => k)
/-! spread -/
abbrev nmSpread : List Str := ["machine", "word", "level", "k", "actor", "numbers", "sections", "_", "more", "later", "number", "section", "digits", "following", "digit"]
theorem scSpread : FnScope nmSpread ["machine", "word", "level"] (defScope sSpread) := ⟨rfl, rfl, rfl, by decide +kernel, rfl, by decide +kernel, by decide +kernel⟩
/-- what a level may be -/
structure Lev (k n : Nat) : Prop where
  n3 : n ≤ 3
  p9 : k ^ n ≤ 9
def spSpread : Sp := fun vs H Q _ => ∃ v k rows u n, vs = [v, .str (wS u), nV n] ∧ MachAt H v k rows ∧ Mach k rows ∧ WordOk rows.length u ∧ u.length ≤ 60 ∧ Lev k n ∧
  ∀ H' t a sec, Same H H' → H' t = some (.tup [.ref a, sec]) → H' a = some (.tup ((spr rows k u n).1.map nV)) → Q (.ref t) H'
theorem ok_spread (T : Tab K mg) : FnOk P w K mg base CX0 4 T.fSpread T.dSpread ["machine", "word", "level"] spSpread := by
  have G1 : FnOk P w K mg base CX0 1 T.fInit T.dInit ["self", "machine"] (spInit T.C) := ok_init T
  have G2 : FnOk P w K mg base CX0 2 T.fCut T.dCut ["word"] spCut := ok_cut T
  have G3 : FnOk P w K mg base CX0 3 T.fRow T.dRow ["self", "word"] (spRow T.C) := ok_row T
  refine T.spread.fn.ok scSpread (fun vs H Q E h => ?_) (fun cdv A outer s H vs Q E hr h => ?_)
  · obtain ⟨v, kk, rows, u, n, rfl, _⟩ := h
    rfl
  · obtain ⟨v, kk, rows, u, n, rfl, hm, ok, hu, hlen, lev, k⟩ := h
    have nd := scSpread.nd
    refine ⟨_, pss_cons (ps_set (i := 3) nd rfl (Or.inr rfl) (pe_ix ix_tup (pv 0) pe_int (fun _ _ => rfl)))
      (pss_cons (ps_set (i := 4) nd rfl (Or.inl rfl) (pe_make T.mkC G1 (hr.mono (by decide)) rfl T.mgC T.init.bd .nil pass0 (pa_cons (pv 0) pa_nil)))
      (pss_cons (ps_set (i := 5) nd rfl (Or.inl rfl) (pe_lst (pa_cons pe_int pa_nil)))
      (pss_cons (ps_set (i := 6) nd rfl (Or.inl rfl) (pe_lst (pa_cons (pe_call G2 (hr.mono (by decide)) rfl T.cut.mg T.cut.fn.kp T.cut.bd .nil pass0 (pa_cons (pv 1) pa_nil)) pa_nil)))
      (pss_cons (ps_for PassesOwn.never rfl (pi_range1 rfl T.bRange (pa_cons (pv 2) pa_nil)) (pg_name (i := 7) nd rfl (Or.inl rfl))
        (pss_cons (ps_set (i := 8) nd rfl (Or.inl rfl) (pe_lst pa_nil))
        (pss_cons (ps_set (i := 9) nd rfl (Or.inl rfl) (pe_lst pa_nil))
        (pss_cons (ps_for PassesOwn.never rfl (pi_zip (by rfl) T.bZip (pa_cons (pv 5) (pa_cons (pv 6) pa_nil)))
            (pg_tup rfl (pgs_cons (pg_name (i := 10) nd rfl (Or.inr rfl)) (pgs_cons (pg_name (i := 11) nd rfl (Or.inl rfl)) pgs_nil)))
          (pss_cons (ps_asg (pe_meth (pv 4) T.cl T.mRow G3 hr T.row.bd .nil pass0 (pa_cons (pv 11) pa_nil))
            (pg_tup rfl (pgs_cons (pg_name (i := 12) nd rfl (Or.inl rfl)) (pgs_cons (pg_name (i := 13) nd rfl (Or.inl rfl)) pgs_nil))))
          (pss_cons (ps_expr (pe_bm PySem.F.plainAttrs_list PySem.F.slot_list_extend PySem.F.type_list_extend mt_extend (pv 8) (pa_cons
            (pe_lc (own := [("digit", 14)]) (g := gName 14) (tt := tYes) rfl nd (pi_tup (pv 12)) (blkOk_by (N := nmSpread) (sc := defScope sSpread) (by decide +kernel))
              (fun _ _ _ _ _ => pg_name (i := 14) nd rfl (Or.inl rfl)) (fun _ _ _ _ _ => pts_nil)
              (fun _ _ _ _ _ => pe_op op_add (pe_op op_mul (pv 3) (pv 10)) (pv 14))) pa_nil)))
          (pss_one (ps_expr (pe_bm PySem.F.plainAttrs_list PySem.F.slot_list_extend PySem.F.type_list_extend mt_extT (pv 9) (pa_cons (pv 13) pa_nil)))))))
        (pss_cons (ps_set (i := 5) nd rfl (Or.inl rfl) (pv 8))
        (pss_one (ps_set (i := 6) nd rfl (Or.inl rfl) (pv 9)))))))
      )
      (pss_one (ps_ret (pe_tup (pa_cons (pe_callTy call_tuple_of (by rfl) T.bTuple (by decide +kernel) (pa_cons (pv 5) pa_nil)) (pa_cons (pv 6) pa_nil))))))))), ?_⟩
    have hk2 := ok.k2
    have hk3 := ok.k3
    have hn3 := lev.n3
    obtain ⟨m, r, rs, rfl, hmm, hrr, hrows⟩ := id hm
    refine ⟨_, rfl, m, _, _, _, rfl, rfl, SqT.of hmm, at0, ?_⟩
    refine ⟨_, rfl, fun x dx nx ndx nex => ?_⟩
    have sm0 : Same H (upd (upd H dx (.own x)) x (.ins T.C dx [])) := (same_upd ndx).up nx
    refine ⟨x, dx, _, kk, rows, rfl, upd_same, hm.same sm0, ok, fun H1 s1 hA => ⟨rfl, ?_⟩⟩
    have sH1 : Same H H1 := Same.made nx ndx (fun b o e n => s1 b o n e)
    obtain ⟨⟨dx1, d1, kvs1, hx1, hd1, hlet1⟩⟩ := id hA
    refine ⟨(by show 1 ≤ sizeLine; decide), fun p0 hp0 => ?_⟩
    refine ⟨_, rfl, u, rfl, fun l hl => Nat.lt_of_lt_of_le (hu l hl) ok.r4, by omega, fun H3 s3 => ⟨(by show 1 ≤ sizeLine; decide), fun q0 hq0 => ?_⟩⟩
    have sB : Same H1 (upd H3 q0 (.lst [.str (wS (cutW u))])) := ((same_upd hp0).trans s3).trans (same_upd hq0)
    refine ⟨_, rfl, _, rfl, by omega, by omega, for_range (lo := 0) (n := (n : Int).toNat)
      (fun i σ H2 => ∃ (v7 v8 v9 v10 v11 v12 v13 v14 : Option V) (p q : Addr), σ = [some (.ref m), some (.str (wS u)), some (nV n), some (nV kk), some (.ref x), some (.ref p), some (.ref q), v7, v8, v9, v10, v11, v12, v13, v14] ∧ Same H1 H2 ∧
        H2 p = some (.lst ((spr rows kk u i).1.map nV)) ∧ H2 q = some (.lst (secV (spr rows kk u i).2)))
      ⟨none, none, none, none, none, none, none, none, p0, q0, rfl, sB, same_upd hq0 _ _ (s3 _ _ upd_same), upd_same⟩ ?_ ?_⟩
    · rintro i σ H2 hi ⟨v7, v8, v9, v10, v11, v12, v13, v14, p, q, rfl, s2, hp, hq⟩
      rw [Int.toNat_natCast] at hi
      have so := spr_ok ok hu i
      have h9 : kk ^ i ≤ 9 := Nat.le_trans (Nat.pow_le_pow_right (by omega) (by omega)) lev.p9
      have e1 : (spr rows kk u (i + 1)).1 = ext kk (spr rows kk u i).1 ((spr rows kk u i).2.map (digs rows kk)) := rfl
      have e2 : (spr rows kk u (i + 1)).2 = (spr rows kk u i).2.flatMap (secs rows kk) := rfl
      rw [e1, e2]
      generalize spr rows kk u i = sp at *
      obtain ⟨ns, ss⟩ := sp
      have l1 : ns.length = kk ^ i := so.l1
      have l2 : ss.length = kk ^ i := so.l2
      refine ⟨(by decide), fun mo hmo => ⟨(by decide), fun la hla => ?_⟩⟩
      have s3' : Same H2 (upd (upd H2 mo (.lst [])) la (.lst [])) := (same_upd hmo).trans (same_upd hla)
      have nml : mo ≠ la := by
        rintro rfl
        rw [upd_same] at hla
        cases hla
      have hla2 : H2 la = none := (same_upd hmo).free hla
      have h3mo : upd (upd H2 mo (.lst [])) la (.lst []) mo = some (.lst []) := by rw [upd_ne nml, upd_same]
      have h3la : upd (upd H2 mo (.lst [])) la (.lst []) la = some (.lst []) := upd_same
      refine ⟨_, rfl, _, rfl, p, q, _, _, rfl, SqL.of (s3' _ _ hp), SqL.of (s3' _ _ hq), for_it (walk_zip (n := kk ^ i) (by unfold secV; rw [List.length_map, List.length_map, l1, l2, Nat.min_self]))
        (fun j σ H4 => ∃ v10 v11 v12 v13 : Option V, σ = [some (.ref m), some (.str (wS u)), some (nV n), some (nV kk), some (.ref x), some (.ref p), some (.ref q), some (.int (0 + (i : Nat))), some (.ref mo), some (.ref la), v10, v11, v12, v13, v14] ∧ Same H2 H4 ∧
          H4 mo = some (.lst ((ext kk (ns.take j) ((ss.map (digs rows kk)).take j)).map nV)) ∧ H4 la = some (.lst (secV ((ss.take j).flatMap (secs rows kk)))))
        ⟨v10, v11, v12, v13, rfl, s3', h3mo, h3la⟩ (fun j σ H4 _ ⟨_, _, _, _, _, s4, _⟩ => ⟨SqL.of (s4 _ _ hp), SqL.of (s4 _ _ hq)⟩) ?_ ?_⟩
      · rintro j y σ H4 H5 hj ⟨w10, w11, w12, w13, rfl, s4, h4mo, h4la⟩ ⟨T0, y1, y2, rfl, hT0, rfl, hy1, hy2⟩
        replace hy1 : (ns.map nV)[j]? = some y1 := hy1
        replace hy2 : (ss.map fun u => V.str (wS u))[j]? = some y2 := hy2
        rw [List.getElem?_map] at hy1 hy2
        obtain ⟨num, hnum, rfl⟩ := Option.map_eq_some_iff.mp hy1
        obtain ⟨sec, hsec, rfl⟩ := Option.map_eq_some_iff.mp hy2
        obtain ⟨w1, w2⟩ := so.ws sec (List.mem_of_getElem? hsec)
        have hnl : num < kk ^ i := so.lt num (List.mem_of_getElem? hnum)
        have s5 : Same H4 (upd H4 T0 (.tup [nV num, .str (wS sec)])) := same_upd hT0
        refine ⟨T0, _, rfl, SqT.of upd_same, rfl, _, _, rfl, _, _, rfl, rfl, ?_⟩
        have s15 := s2.trans (s4.trans s5)
        refine ⟨_, rfl, x, dx1, _, rfl, s15 _ _ hx1, flds_no _ _ (by decide +kernel) (by decide +kernel), _, rfl, x, kk, rows, sec, rfl, hA.same s15, ok, w1, by omega, fun H6 t a b s6 ht ha hb => ?_⟩
        refine ⟨t, _, rfl, SqT.of ht, rfl, _, _, rfl, _, _, rfl, rfl, ?_⟩
        have h6mo := s6 _ _ (s5 _ _ h4mo)
        have h6la := s6 _ _ (s5 _ _ h4la)
        have s46 := s5.trans s6
        refine ⟨_, rfl, .inl ⟨rfl, _, SqL.of h6mo⟩, _, rfl, a, rfl, ⟨_, SqT.of ha⟩, fun D hD => lc_it (walk_tup (xs := (digs rows kk sec).map nV)) (fun z H7 => Same H6 H7 ∧ H7 D = some (.lst (((digs rows kk sec).take z).map fun d => nV (kk * num + d))))
          ⟨same_upd hD, upd_same⟩ (fun z H7 _ ⟨s7, _⟩ => SqT.of (s7 _ _ ha)) ?_ ?_⟩
        · rintro z y H7 H8 hz ⟨s7, h7⟩ ⟨rfl, hy⟩
          rw [List.getElem?_map] at hy
          obtain ⟨dg, hdg, rfl⟩ := Option.map_eq_some_iff.mp hy
          refine ⟨rfl, yesIf ⟨_, rfl, _, rfl, _, _, rfl, rfl, .inl ⟨by omega, by omega⟩, _, rfl, _, _, rfl, rfl, _, h7, small 100 ?_, s7.up hD, ?_⟩⟩
          · rw [List.length_map, List.length_take, digs_len]
            omega
          · show upd H8 D (.lst (_ ++ [V.int ((kk : Int) * (num : Int) + (dg : Int))])) D = _
            rw [upd_same, nV_lin, take_snoc hdg, List.map_append]
            rfl
        · rintro H7 ⟨s7, h7⟩
          rw [List.take_of_length_le (by rw [List.length_map]; exact Nat.le_refl _)] at h7
          have h7mo := s7 _ _ h6mo
          have lt1 : (ns.take j).length = ((ss.map (digs rows kk)).take j).length := by
            rw [List.length_take, List.length_take, List.length_map, l1, l2]
          have lx : (ext kk (ns.take j) ((ss.map (digs rows kk)).take j)).length ≤ 27 := by
            rw [ext_len kk _ _ lt1 (fun c hc => by
              obtain ⟨s', _, rfl⟩ := List.mem_map.mp (List.mem_of_mem_take hc)
              exact digs_len rows kk s'), List.length_take]
            have : min j ns.length ≤ 9 := by omega
            exact Nat.le_trans (Nat.mul_le_mul this hk3) (by decide)
          refine ⟨mo, D, _, _, rfl, rfl, h7mo, h7, ?_, ?_⟩
          · rw [List.length_map, List.length_map, digs_len]
            exact small' 1000 (by omega)
          have s8 : Same H2 (upd H7 mo (.lst ((ext kk (ns.take j) ((ss.map (digs rows kk)).take j)).map nV ++ (digs rows kk sec).map fun d => nV (kk * num + d)))) := (s4.trans (s46.trans s7)).up hmo
          have h8la : upd H7 mo (.lst ((ext kk (ns.take j) ((ss.map (digs rows kk)).take j)).map nV ++ (digs rows kk sec).map fun d => nV (kk * num + d))) la = some (.lst (secV ((ss.take j).flatMap (secs rows kk)))) := by
            rw [upd_ne nml.symm]
            exact s7 _ _ h6la
          have h8b : upd H7 mo (.lst ((ext kk (ns.take j) ((ss.map (digs rows kk)).take j)).map nV ++ (digs rows kk sec).map fun d => nV (kk * num + d))) b = some (.tup (secV (secs rows kk sec))) := by
            rw [upd_ne (ne_of (s7 _ _ hb) h7mo (by intro z; cases z))]
            exact s7 _ _ hb
          have ly : (secV ((ss.take j).flatMap (secs rows kk))).length ≤ 27 := by
            unfold secV
            rw [List.length_map, flat_len (k := kk) (fun a _ => secs_len rows kk a), List.length_take]
            have : min j ss.length ≤ 9 := by omega
            exact Nat.le_trans (Nat.mul_le_mul this hk3) (by decide)
          refine ⟨_, rfl, .inl ⟨rfl, _, SqL.of h8la⟩, _, rfl, la, b, _, _, rfl, rfl, h8la, SqT.of h8b, ?_, ?_⟩
          · have e : (secV (secs rows kk sec)).length = kk := by unfold secV; rw [List.length_map, secs_len]
            exact small' 1000 (by omega)
          · refine ⟨_, _, _, _, rfl, s8.up hla2, ?_, ?_⟩
            · rw [upd_ne nml, upd_same, take_snoc hnum]
              have ed : (ss.map (digs rows kk))[j]? = some (digs rows kk sec) := by rw [List.getElem?_map, hsec]; rfl
              rw [take_snoc ed, ext_snoc kk _ _ _ _ lt1, List.map_append, List.map_map]
              rfl
            · rw [upd_same, take_snoc hsec, List.flatMap_append]
              unfold secV
              rw [List.map_append]
              simp
      · rintro σ H4 ⟨w10, w11, w12, w13, rfl, s4, h4mo, h4la⟩
        rw [List.take_of_length_le (by rw [l1]; exact Nat.le_refl _), List.take_of_length_le (by rw [List.length_map, l2]; exact Nat.le_refl _)] at h4mo
        rw [List.take_of_length_le (by rw [l2]; exact Nat.le_refl _)] at h4la
        refine ⟨_, rfl, _, rfl, _, _, _, _, _, _, _, _, mo, la, rfl, s2.trans s4, h4mo, h4la⟩
    · rintro σ H2 ⟨v7, v8, v9, v10, v11, v12, v13, v14, p, q, rfl, s2, hp, hq⟩
      rw [Int.toNat_natCast] at hp hq
      refine ⟨_, rfl, p, _, rfl, .inl ⟨SqL.of hp, fun a ha => ?_⟩⟩
      refine ⟨_, rfl, (by show 2 ≤ sizeLine; decide), fun t ht => ?_⟩
      have sf : Same H1 (upd (upd H2 a (.tup ((spr rows kk u n).1.map nV))) t (.tup [.ref a, .ref q])) := (s2.trans (same_upd ha)).trans (same_upd ht)
      exact k _ t a (.ref q) (sH1.trans sf) upd_same (same_upd ht _ _ upd_same)
end
end LT
set_option linter.all false
set_option Elab.async false
set_option maxRecDepth 100000
set_option maxHeartbeats 4000000
namespace LT
open PySem PySem.Spec PyProof.Rows L2 LTR
section
variable {P : Program} {w : World} {K : PySem.W.Frag} {mg : Str → Option Value} {base : Heap}
/-! check_call -/
abbrev nmChCall : List Str := ["machine", "words", "level", "word"]
theorem scChCall : FnScope nmChCall ["machine", "words", "level"] (defScope sChCall) := ⟨rfl, rfl, rfl, by decide +kernel, rfl, by decide +kernel, by decide +kernel⟩
/-- words of the machine -/
def WsOk (rows : Rows) (ws : List (List Ltr)) : Prop := ∀ u ∈ ws, WordOk rows.length u ∧ u.length ≤ 60
/-- what the functions of a level are asked with -/
structure CallAt (H : Hp) (vs : List V) (k : Nat) (rows : Rows) (ws : List (List Ltr)) (n : Nat) : Prop where
  vs_ : ∃ v l, vs = [v, .ref l, nV n] ∧ MachAt H v k rows ∧ H l = some (.lst (secV ws))
  ok : Mach k rows
  ws : WsOk rows ws
  lev : Lev k n
theorem CallAt.same {H H' : Hp} {vs : List V} {k : Nat} {rows : Rows} {ws : List (List Ltr)} {n : Nat} (s : Same H H') (h : CallAt H vs k rows ws n) : CallAt H' vs k rows ws n :=
  ⟨let ⟨v, l, e, m, q⟩ := h.vs_; ⟨v, l, e, m.same s, s _ _ q⟩, h.ok, h.ws, h.lev⟩
def spChCall : Sp := fun vs H Q _ => ∃ k rows ws n, CallAt H vs k rows ws n ∧ ∀ H', Same H H' → Q .non H'
theorem ok_chCall (T : Tab K mg) : FnOk P w K mg base CX0 6 T.fChCall T.dChCall ["machine", "words", "level"] spChCall := by
  have G1 : FnOk P w K mg base CX0 4 T.fChMach T.dChMach ["machine"] spChMach := ok_chMach T
  have G2 : FnOk P w K mg base CX0 5 T.fChWord T.dChWord ["machine", "word"] spWordNone := ok_chWord T
  have G3 : FnOk P w K mg base CX0 2 T.fChLevel T.dChLevel ["k", "level"] spChLevel := ok_chLevel T
  refine T.chCall.fn.ok scChCall (fun vs H Q E h => ?_) (fun cdv A outer s H vs Q E hr h => ?_)
  · obtain ⟨k, rows, ws, n, ⟨⟨v, l, rfl, _⟩, _, _, _⟩, _⟩ := h
    rfl
  · obtain ⟨kk, rows, ws, n, ⟨⟨v, l, rfl, hm, hl⟩, ok, hws, lev⟩, k⟩ := h
    have nd := scChCall.nd
    refine ⟨_, pss_cons (ps_expr (pe_call G1 (hr.mono (by decide)) rfl T.chMach.mg T.chMach.fn.kp T.chMach.bd .nil pass0 (pa_cons (pv 0) pa_nil)))
      (pss_cons (ps_for PassesOwn.never rfl (pi_list (pv 1)) (pg_name (i := 3) nd rfl (Or.inl rfl))
        (pss_one (ps_expr (pe_call G2 hr rfl T.chWord.mg T.chWord.fn.kp T.chWord.bd .nil pass0 (pa_cons (pv 0) (pa_cons (pv 3) pa_nil))))))
      (pss_one (ps_expr (pe_call G3 (hr.mono (by decide)) rfl T.chLevel.mg T.chLevel.fn.kp T.chLevel.bd .nil pass0 (pa_cons (pe_ix ix_tup (pv 0) pe_int (fun _ _ => rfl)) (pa_cons (pv 2) pa_nil)))))), ?_⟩
    refine ⟨_, rfl, v, kk, rows, rfl, hm, ok, fun H1 s1 => ?_⟩
    refine ⟨_, rfl, l, rfl, ⟨_, SqL.of (s1 _ _ hl)⟩, for_list (K := K) (a := l) (xs := secV ws) (fun i σ H2 => ∃ v3 : Option V, σ = [some v, some (.ref l), some (nV n), v3] ∧ Same H H2)
      ⟨none, rfl, s1⟩ (fun i σ H2 _ ⟨_, _, s2⟩ => SqL.of (s2 _ _ hl)) ?_ ?_⟩
    · rintro i y σ H2 hy ⟨v3, rfl, s2⟩
      unfold secV at hy
      rw [List.getElem?_map] at hy
      obtain ⟨u, hu, rfl⟩ := Option.map_eq_some_iff.mp hy
      obtain ⟨w1, w2⟩ := hws u (List.mem_of_getElem? hu)
      exact ⟨_, rfl, _, rfl, v, kk, rows, u, rfl, hm.same s2, ok, w1, w2, fun H3 s3 => ⟨_, rfl, s2.trans s3⟩⟩
    · rintro σ H2 ⟨v3, rfl, s2⟩
      obtain ⟨m, r, rs, rfl, hmm, _, _⟩ := hm
      have h2 := ok.k2
      have h3 := lev.n3
      have h9 := lev.p9
      exact ⟨_, rfl, m, _, _, _, rfl, rfl, SqT.of (s2 _ _ hmm), at0, _, rfl, kk, n, rfl, h2, by omega, by omega, k H2 s2⟩
/-! level_permutation -/
theorem scLevelP : FnScope ["machine", "word", "level"] ["machine", "word", "level"] (defScope sLevelP) := ⟨rfl, rfl, rfl, by decide +kernel, rfl, by decide +kernel, by decide +kernel⟩
def spLevelP : Sp := fun vs H Q _ => ∃ v k rows u n, vs = [v, .str (wS u), nV n] ∧ MachAt H v k rows ∧ Mach k rows ∧ WordOk rows.length u ∧ u.length ≤ 60 ∧ Lev k n ∧
  ∀ H' v', Same H H' → PermAt H' v' (spr rows k u n).1 → Q v' H'
theorem ok_levelP (T : Tab K mg) : FnOk P w K mg base CX0 7 T.fLevelP T.dLevelP ["machine", "word", "level"] spLevelP := by
  have G1 : FnOk P w K mg base CX0 6 T.fChCall T.dChCall ["machine", "words", "level"] spChCall := ok_chCall T
  have G2 : FnOk P w K mg base CX0 4 T.fSpread T.dSpread ["machine", "word", "level"] spSpread := ok_spread T
  refine T.levelP.fn.ok scLevelP (fun vs H Q E h => ?_) (fun cdv A outer s H vs Q E hr h => ?_)
  · obtain ⟨v, k, rows, u, n, rfl, _⟩ := h
    rfl
  · obtain ⟨v, kk, rows, u, n, rfl, hm, ok, hu, hl, lev, k⟩ := h
    refine ⟨_, pss_cons (ps_expr (pe_call G1 hr rfl T.chCall.mg T.chCall.fn.kp T.chCall.bd .nil pass0 (pa_cons (pv 0) (pa_cons (pe_lst (pa_cons (pv 1) pa_nil)) (pa_cons (pv 2) pa_nil)))))
      (pss_one (ps_ret (pe_ix ix_tup (pe_call G2 (hr.mono (by decide)) rfl T.spread.mg T.spread.fn.kp T.spread.bd .nil pass0 (pa_cons (pv 0) (pa_cons (pv 1) (pa_cons (pv 2) pa_nil)))) pe_int (fun _ _ => rfl)))), ?_⟩
    refine ⟨_, rfl, _, rfl, (by show 1 ≤ sizeLine; decide), fun l hl2 => ⟨_, rfl, kk, rows, [u], n, ⟨⟨v, l, rfl, hm.same (same_upd hl2), upd_same⟩, ok, fun u' hu' => ?_, lev⟩, fun H1 s1 => ?_⟩⟩
    · rw [List.mem_singleton.mp hu']
      exact ⟨hu, hl⟩
    · have s2 := (same_upd (o := .lst [.str (wS u)]) hl2).trans s1
      exact ⟨_, rfl, _, rfl, _, rfl, v, kk, rows, u, n, rfl, hm.same s2, ok, hu, hl, lev, fun H3 t a sec s3 ht ha => ⟨t, _, _, _, rfl, rfl, SqT.of ht, at0, k H3 _ (s2.trans s3) ⟨a, rfl, ha⟩⟩⟩
/-! permutations -/
abbrev nmPerms : List Str := ["machine", "words", "level", "word"]
theorem scPerms : FnScope nmPerms ["machine", "words", "level"] (defScope sPerms) := ⟨rfl, rfl, rfl, by decide +kernel, rfl, by decide +kernel, by decide +kernel⟩
/-- a list of rearrangements -/
def PermsAt (H : Hp) (v : V) (ps : List (List Nat)) : Prop := ∃ l vs, v = .ref l ∧ H l = some (.lst vs) ∧ AllAt (PermAt H) vs ps
theorem PermsAt.same {H H' : Hp} {v : V} {ps : List (List Nat)} (s : Same H H') (h : PermsAt H v ps) : PermsAt H' v ps := let ⟨l, vs, e1, e2, e3⟩ := h; ⟨l, vs, e1, s _ _ e2, e3.imp fun _ _ z => z.same s⟩
def spPerms : Sp := fun vs H Q _ => ∃ k rows ws n, CallAt H vs k rows ws n ∧ ws.length ≤ 100 ∧ ∀ H' v', Same H H' → PermsAt H' v' (stepsOf rows k ws n) → Q v' H'
theorem ok_perms (T : Tab K mg) : FnOk P w K mg base CX0 5 T.fPerms T.dPerms ["machine", "words", "level"] spPerms := by
  have G2 : FnOk P w K mg base CX0 4 T.fSpread T.dSpread ["machine", "word", "level"] spSpread := ok_spread T
  refine T.perms.fn.ok scPerms (fun vs H Q E h => ?_) (fun cdv A outer s H vs Q E hr h => ?_)
  · obtain ⟨k, rows, ws, n, ⟨⟨v, l, rfl, _⟩, _, _, _⟩, _⟩ := h
    rfl
  · obtain ⟨kk, rows, ws, n, ⟨⟨v, l, rfl, hm, hl⟩, ok, hws, lev⟩, hwl, k⟩ := h
    have nd := scPerms.nd
    refine ⟨_, pss_one (ps_ret (pe_lc (own := [("word", 3)]) (g := gName 3) (tt := tYes) rfl nd (pi_list (pv 1)) (blkOk_by (N := nmPerms) (sc := defScope sPerms) (by decide +kernel))
            (fun _ _ _ _ _ => pg_name (i := 3) nd rfl (Or.inl rfl)) (fun _ _ _ _ _ => pts_nil)
            (fun _ _ _ _ _ => pe_ix (kx_ixT (K := K) rfl) (pe_call G2 hr rfl T.spread.mg T.spread.fn.kp T.spread.bd .nil pass0 (pa_cons (pv 0) (pa_cons (pv 3) (pa_cons (pv 2) pa_nil)))) pe_int (fun _ _ => rfl)))), ?_⟩
    refine ⟨_, rfl, l, rfl, ⟨_, SqL.of hl⟩, fun D hD => lc_it (walk_list (xs := secV ws)) (fun i H2 => Same H H2 ∧ ∃ vs, H2 D = some (.lst vs) ∧ AllAt (PermAt H2) vs (stepsOf rows kk (ws.take i) n))
      ⟨same_upd hD, [], upd_same, .nil⟩ (fun i H2 _ ⟨s2, _⟩ => SqL.of (s2 _ _ hl)) ?_ ?_⟩
    · rintro i y H2 H3 hi ⟨s2, vs, h2, hall⟩ ⟨rfl, hy⟩
      unfold secV at hy
      rw [List.getElem?_map] at hy
      obtain ⟨u, hu, rfl⟩ := Option.map_eq_some_iff.mp hy
      obtain ⟨w1, w2⟩ := hws u (List.mem_of_getElem? hu)
      refine ⟨rfl, yesIf ⟨_, rfl, _, rfl, _, rfl, v, kk, rows, u, n, rfl, hm.same s2, ok, w1, w2, lev, fun H4 t a sec s4 ht ha => ⟨t, _, _, _, rfl, rfl, SqT.of ht, at0, vs, s4 _ _ h2, small 1000 ?_, (s2.trans s4).up hD, _, upd_same, ?_⟩⟩⟩
      · rw [hall.len]
        unfold stepsOf
        rw [List.length_map, List.length_take]
        omega
      · have tl : TupS H4 (upd H4 D (.lst (vs ++ [.ref a]))) := .updL (s4 _ _ h2)
        rw [take_snoc hu]
        unfold stepsOf at hall ⊢
        rw [List.map_append]
        exact (hall.imp fun _ _ z => (z.same s4).tups tl).snoc ⟨a, rfl, tl _ _ ha⟩
    · rintro H2 ⟨s2, vs, h2, hall⟩
      rw [List.take_of_length_le (by unfold secV; rw [List.length_map]; exact Nat.le_refl _)] at hall
      exact k H2 _ s2 ⟨D, vs, rfl, h2, hall⟩
end
end LT
set_option linter.all false
set_option Elab.async false
set_option maxRecDepth 100000
set_option maxHeartbeats 4000000
namespace LT
open PySem PySem.Spec PyProof.Rows L2 LTR
/-! ### keys -/
def keyP (p : List Nat) : List Key := p.map fun n : Nat => (Sum.inl (n : Int) : Key)
theorem keyP_map (p : List Nat) : (keyP p).map kV = p.map nV := by
  unfold keyP
  rw [List.map_map]
  rfl
theorem keyP_inj : ∀ {p q : List Nat}, keyP p = keyP q → p = q
  | [], [], _ => rfl
  | [], _ :: _, h => by simp [keyP] at h
  | _ :: _, [], h => by simp [keyP] at h
  | a :: p, b :: q, h => by
    have h : (Sum.inl (a : Int) : Key) :: keyP p = Sum.inl (b : Int) :: keyP q := h
    have e1 : (a : Int) = (b : Int) := Sum.inl.inj (List.cons.inj h).1
    have e2 := keyP_inj (List.cons.inj h).2
    rw [e2, show a = b by omega]
/-- the dict holds the keys of M -/
structure MetP (kvs : List (List Key × V)) (M : List (List Nat)) : Prop where
  len : kvs.length = M.length
  mem : ∀ p, (valV kvs (keyP p)).isSome = true ↔ p ∈ M
theorem MetP.put {kvs : List (List Key × V)} {M : List (List Nat)} (h : MetP kvs M) {p : List Nat} (hp : p ∉ M) (v : V) : MetP (putK kvs (keyP p) v) (M ++ [p]) := by
  have hn : valV kvs (keyP p) = none := by
    cases e : valV kvs (keyP p) with
    | none => rfl
    | some z => exact absurd ((h.mem p).mp (by rw [e]; rfl)) hp
  refine ⟨?_, fun q => ?_⟩
  · rw [putK_new v hn, List.length_append, List.length_append, h.len]
    rfl
  · rw [valV_put]
    by_cases e : keyP q = keyP p
    · rw [if_pos e, keyP_inj e]
      simp
    · rw [if_neg e, h.mem q]
      have hne : q ≠ p := fun z => e (by rw [z])
      simp [hne]
theorem MetP.one (p : List Nat) (v : V) : MetP (putK [] (keyP p) v) [p] := MetP.put (M := []) ⟨rfl, fun q => by simp [valV_nil]⟩ (by simp) v
section
variable {P : Program} {w : World} {K : PySem.W.Frag} {mg : Str → Option Value} {base : Heap}
/-! all_products -/
abbrev nmAll : List Str := ["rest", "steps", "found", "met", "at", "step", "product", "number"]
theorem scAllProd : FnScope nmAll ["rest", "steps"] (defScope sAllProd) := ⟨rfl, rfl, rfl, by decide +kernel, rfl, by decide +kernel, by decide +kernel⟩
def spAllProd : Sp := fun vs H Q _ => ∃ (v1 v2 : V) (N : Nat) (S : List (List Nat)), vs = [v1, v2] ∧ PermAt H v1 (List.range N) ∧ N ≤ 100 ∧ PermsAt H v2 S ∧ (∀ s ∈ S, IsP N s) ∧
  (∀ M : List (List Nat), M.Nodup → (∀ p ∈ M, Gen S N p) → M.length ≤ 1296) ∧ ∀ H' v' L, Same H H' → PermsAt H' v' L → Lists S N L → Q v' H'
/-- what stands at a turn of the outer loop -/
structure Found (S : List (List Nat)) (N : Nat) (L : List (List Nat)) (at_ : Nat) : Prop where
  nd : L.Nodup
  gen : ∀ p ∈ L, Gen S N p
  one : List.range N ∈ L
  le : at_ ≤ L.length
  cl : ∀ i p, i < at_ → L[i]? = some p → ∀ s ∈ S, comp s p ∈ L
theorem Found.lists {S : List (List Nat)} {N : Nat} {L : List (List Nat)} {n : Nat} (h : Found S N L n) (hS : ∀ s ∈ S, IsP N s) (hn : L.length ≤ n) : Lists S N L := by
  refine ⟨hS, h.nd, fun p => ⟨h.gen p, fun g => ?_⟩⟩
  induction g with
  | rest => exact h.one
  | step _ hs ih =>
    obtain ⟨i, hi, e⟩ := List.mem_iff_getElem.mp ih
    exact h.cl i _ (by omega) (by rw [List.getElem?_eq_getElem hi, e]) _ hs
theorem ok_allProd (T : Tab K mg) : FnOk P w K mg base CX0 1 T.fAllProd T.dAllProd ["rest", "steps"] spAllProd := by
  refine T.allProd.fn.ok scAllProd (fun vs H Q E h => ?_) (fun cdv A outer s H vs Q E hr h => ?_)
  · obtain ⟨v1, v2, N, S, rfl, _⟩ := h
    rfl
  · obtain ⟨v1, v2, N, S, rfl, ⟨r, rfl, hrest⟩, hN, ⟨sl, svs, rfl, hsl, hsteps⟩, hS, hshort, k⟩ := h
    have nd := scAllProd.nd
    have hu := hu_of hr
    obtain ⟨t1, c1⟩ := T.cMOSTMEMBERS
    refine ⟨_, pss_cons (ps_set (i := 2) nd rfl (Or.inl rfl) (pe_lst (pa_cons (pv 0) pa_nil)))
      (pss_cons (ps_set (i := 3) nd rfl (Or.inl rfl) (pe_dispT hu (pv 0) pe_bl))
      (pss_cons (ps_set (i := 4) nd rfl (Or.inl rfl) pe_int)
      (pss_cons (ps_while PassesOwn.never (pt_cmpR op_lt (pv 4) (pe_callB call_len_seq (by rfl) T.bLen PySem.boot_len (pa_cons (pv 2) pa_nil)) (nomark _))
        (pss_cons (ps_for PassesOwn.never rfl (pi_list (pv 1)) (pg_name (i := 5) nd rfl (Or.inr rfl))
          (pss_cons (ps_set (i := 6) nd rfl (Or.inl rfl) (pe_callTy call_tuple_of (by rfl) T.bTuple (by decide +kernel) (pa_cons
              (pe_lc (own := [("number", 7)]) (g := gName 7) (tt := tYes) rfl nd (pi_tup (pe_ix ix_list (pv 2) (pv 4) (fun _ _ => rfl))) (blkOk_by (N := nmAll) (sc := defScope sAllProd) (by decide +kernel))
                (fun _ _ _ _ _ => pg_name (i := 7) nd rfl (Or.inl rfl)) (fun _ _ _ _ _ => pts_nil)
                (fun _ _ _ _ _ => pe_ix (kx_ixT (K := K) rfl) (pv 5) (pv 7) (fun _ _ => rfl))) pa_nil)))
          (pss_one (ps_if (pt_cmp (pc_dnotin hu (pv 6) (pv 3)))
            (pss_cons (ps_dput hu (pv 3) (pv 6) pe_bl rfl)
            (pss_one (ps_expr (pe_bm PySem.F.plainAttrs_list PySem.F.slot_list_append PySem.F.type_list_append mt_append (pv 2) (pa_cons (pv 6) pa_nil)))))
            pss_nil))))
        (pss_cons (ps_if (pt_cmpR op_gt (pe_callB call_len_seq (by rfl) T.bLen PySem.boot_len (pa_cons (pv 2) pa_nil)) (pe_gi c1) (nomark _)) (pss_one ps_never) pss_nil)
        (pss_one (ps_aug (i := 4) nd rfl (Or.inl rfl) pe_int ip_add)))))
      (pss_one (ps_ret (pv 2)))))), ?_⟩
    refine ⟨_, rfl, (by show 1 ≤ sizeLine; decide), fun fd hfd => ?_⟩
    intro md hmd
    have nfm : fd ≠ md := by
      rintro rfl
      rw [upd_same] at hmd
      cases hmd
    have hmdH : H md = none := (same_upd hfd).free hmd
    refine ⟨_, rfl, r, keyP (List.range N), rfl, upd_same, (by rw [keyP_map]; exact same_upd hmd _ _ (same_upd hfd _ _ hrest)), ?_⟩
    have s1 : Same H (upd (upd (upd H fd (.lst [.ref r])) md (.dT [])) md (.dT (putK [] (keyP (List.range N)) (.bl true)))) := ((same_upd hfd).trans (same_upd hmd)).up hmdH
    have h1fd : upd (upd (upd H fd (.lst [.ref r])) md (.dT [])) md (.dT (putK [] (keyP (List.range N)) (.bl true))) fd = some (.lst [.ref r]) := by
      rw [upd_ne nfm, upd_ne nfm, upd_same]
    have h1md : upd (upd (upd H fd (.lst [.ref r])) md (.dT [])) md (.dT (putK [] (keyP (List.range N)) (.bl true))) md = some (.dT (putK [] (keyP (List.range N)) (.bl true))) := upd_same
    generalize upd (upd (upd H fd (.lst [.ref r])) md (.dT [])) md (.dT (putK [] (keyP (List.range N)) (.bl true))) = H1 at s1 h1fd h1md
    refine ⟨fun m σ H2 => ∃ (at_ : Nat) (v5 v6 v7 : Option V) (L : List (List Nat)) (vs : List V) (kvs : List (List Key × V)), σ = [some (.ref r), some (.ref sl), some (.ref fd), some (.ref md), some (nV at_), v5, v6, v7] ∧ m + at_ = 1297 ∧ Same H H2 ∧
        H2 fd = some (.lst vs) ∧ AllAt (PermAt H2) vs L ∧ H2 md = some (.dT kvs) ∧ MetP kvs L ∧ Found S N L at_, ⟨1297, 0, none, none, none, [List.range N], [.ref r], _, rfl, rfl, s1, h1fd, AllAt.snoc .nil ⟨r, rfl, s1 _ _ hrest⟩, h1md, MetP.one _ _,
        ⟨by simp, fun p hp => by rw [List.mem_singleton.mp hp]; exact .rest, by simp, Nat.zero_le _, fun i p hi => absurd hi (by omega)⟩⟩, ?_⟩
    rintro m σ H2 ⟨at_, v5, v6, v7, L, vs, kvs, rfl, hmat, s2, h2fd, hall, h2md, hmet, fnd⟩
    have hLs := hshort L fnd.nd fnd.gen
    refine ⟨_, rfl, _, rfl, fd, _, rfl, .inl (SqL.of h2fd), _, _, rfl, rfl, _, rfl, ?_⟩
    rw [hall.len]
    refine ite2 (fun c => ?_) (fun c => ?_)
    · -- a turn
      have hat : at_ < L.length := by
        have := of_decide_eq_true c
        omega
      obtain ⟨p, hp⟩ : ∃ p, L[at_]? = some p := ⟨_, List.getElem?_eq_getElem hat⟩
      have ip : IsP N p := (fnd.gen p (List.mem_of_getElem? hp)).isP hS
      refine ⟨fun σ' H' => ∃ m', m' < m ∧ _, fun _ _ h => h, ?_⟩
      refine ⟨_, rfl, sl, rfl, ⟨_, SqL.of (s2 _ _ hsl)⟩, for_list (K := K) (a := sl) (xs := svs)
        (fun j σ H3 => ∃ (v5 v6 : Option V) (L' : List (List Nat)) (vs : List V) (kvs : List (List Key × V)), σ = [some (.ref r), some (.ref sl), some (.ref fd), some (.ref md), some (nV at_), v5, v6, v7] ∧ Same H H3 ∧
          H3 fd = some (.lst vs) ∧ AllAt (PermAt H3) vs L' ∧ H3 md = some (.dT kvs) ∧ MetP kvs L' ∧ L'.Nodup ∧ (∀ q ∈ L', Gen S N q) ∧ (∃ more, L' = L ++ more) ∧ ∀ s ∈ S.take j, comp s p ∈ L')
        ⟨v5, v6, L, vs, kvs, rfl, s2, h2fd, hall, h2md, hmet, fnd.nd, fnd.gen, ⟨[], by simp⟩, by simp⟩ (fun j σ H3 _ ⟨_, _, _, _, _, _, s3, _⟩ => SqL.of (s3 _ _ hsl)) ?_ ?_⟩
      · rintro j y σ H3 hy ⟨v5, v6, L', vs, kvs, rfl, s3, h3fd, hall, h3md, hmet, lnd, lgen, ⟨more, rfl⟩, hcl⟩
        obtain ⟨s', hs', ⟨b, rfl, hb⟩⟩ := hsteps.get hy
        have hsS := List.mem_of_getElem? hs'
        have iS := hS s' hsS
        have hp' : (L ++ more)[at_]? = some p := by rw [List.getElem?_append_left hat]; exact hp
        obtain ⟨v, hv, ⟨a, rfl, ha⟩⟩ := hall.got hp'
        refine ⟨_, rfl, _, rfl, fd, _, _, _, rfl, rfl, SqL.of h3fd, atI_nat hv, a, rfl, ⟨_, SqT.of ha⟩, fun D hD => lc_it (walk_tup (xs := p.map nV)) (fun z H4 => Same H3 H4 ∧ H4 D = some (.lst ((p.take z).map fun i => nV (s'.getD i 0))))
          ⟨same_upd hD, upd_same⟩ (fun z H4 _ ⟨s4, _⟩ => SqT.of (s4 _ _ ha)) ?_ ?_⟩
        · rintro z y H4 H5 hz ⟨s4, h4⟩ ⟨rfl, hy⟩
          rw [List.getElem?_map] at hy
          obtain ⟨num, hnum, rfl⟩ := Option.map_eq_some_iff.mp hy
          have hzl : z < p.length := (List.getElem?_eq_some_iff.mp hnum).1
          have hnN : num < N := by
            have e : p.getD z 0 = num := by rw [List.getD_eq_getElem?_getD, hnum, Option.getD_some]
            rw [← e]
            exact ip.lt z (by rw [← ip.len]; exact hzl)
          have hget : (s'.map nV)[num]? = some (nV (s'.getD num 0)) := by
            rw [List.getElem?_map, List.getD_eq_getElem?_getD, List.getElem?_eq_getElem (by rw [iS.len]; exact hnN)]
            rfl
          refine ⟨rfl, yesIf ⟨_, rfl, _, rfl, b, _, _, _, rfl, rfl, SqT.of (s4 _ _ (s3 _ _ hb)), atI_nat hget, _, h4, small 1000 ?_, s4.up hD, ?_⟩⟩
          · rw [List.length_map, List.length_take]
            have := ip.len
            omega
          · rw [upd_same, take_snoc hnum, List.map_append]
            rfl
        · rintro H4 ⟨s4, h4⟩
          rw [List.take_of_length_le (by rw [List.length_map]; exact Nat.le_refl _)] at h4
          refine ⟨D, _, rfl, .inl ⟨SqL.of h4, fun t ht => ?_⟩⟩
          have ht5 : upd H4 t (.tup (p.map fun i => nV (s'.getD i 0))) t = some (.tup ((comp s' p).map nV)) := by
            rw [upd_same]
            unfold comp
            rw [List.map_map]
            rfl
          have s5 : Same H3 (upd H4 t (.tup (p.map fun i => nV (s'.getD i 0)))) := s4.trans (same_upd ht)
          generalize upd H4 t (.tup (p.map fun i => nV (s'.getD i 0))) = H5 at s5 ht5
          have h5md := s5 _ _ h3md
          have h5fd := s5 _ _ h3fd
          have hk5 : H5 t = some (.tup ((keyP (comp s' p)).map kV)) := by rw [keyP_map]; exact ht5
          have hgn : Gen S N (comp s' p) := .step (lgen p (List.mem_append_left _ (List.mem_of_getElem? hp))) hsS
          refine ⟨_, rfl, _, rfl, md, _, rfl, DGet.t h5md hk5, _, rfl, ?_⟩
          by_cases hm : comp s' p ∈ L ++ more
          · rw [(hmet.mem _).mpr hm]
            refine iteF ?_
            refine ⟨_, _, L ++ more, vs, kvs, rfl, s3.trans s5, h5fd, hall.imp fun _ _ z => z.same s5, h5md, hmet, lnd, lgen, ⟨more, rfl⟩, fun q hq => ?_⟩
            rw [take_snoc hs'] at hq
            rcases List.mem_append.mp hq with hq | hq
            · exact hcl q hq
            · rw [List.mem_singleton.mp hq]
              exact hm
          · have hnone : (valV kvs (keyP (comp s' p))).isSome = false := by
              cases e : (valV kvs (keyP (comp s' p))).isSome with
              | false => rfl
              | true => exact absurd ((hmet.mem _).mp e) hm
            rw [hnone]
            refine iteT ?_
            have lnd' : (L ++ more ++ [comp s' p]).Nodup := by
              rw [List.nodup_append]
              exact ⟨lnd, by simp, fun x hx y hy e => hm (by rw [List.mem_singleton.mp hy] at e; rw [← e]; exact hx)⟩
            have lgen' : ∀ q ∈ L ++ more ++ [comp s' p], Gen S N q := fun q hq => by
              rcases List.mem_append.mp hq with hq | hq
              · exact lgen q hq
              · rw [List.mem_singleton.mp hq]
                exact hgn
            have hsz := hshort _ lnd' lgen'
            rw [List.length_append, List.length_singleton] at hsz
            have hkl := hmet.len
            have hvl := hall.len
            refine ⟨_, rfl, _, rfl, md, _, rfl, DPut.t h5md hk5 (small 2000 (by omega)), ?_⟩
            have nfm5 : fd ≠ md := nfm
            have h6fd : upd H5 md (.dT (putK kvs (keyP (comp s' p)) (.bl true))) fd = some (.lst vs) := by
              rw [upd_ne nfm]
              exact h5fd
            refine ⟨_, rfl, .inl ⟨rfl, _, SqL.of h6fd⟩, _, rfl, fd, _, _, rfl, rfl, h6fd, small 2000 (by omega), ?_⟩
            have tl : TupS H5 (upd (upd H5 md (.dT (putK kvs (keyP (comp s' p)) (.bl true)))) fd (.lst (vs ++ [.ref t]))) := TupS.trans (.updT h5md) (.updL h6fd)
            refine ⟨_, _, L ++ more ++ [comp s' p], vs ++ [.ref t], _, rfl, ((s3.trans s5).up hmdH).up hfd, upd_same, ?_, (by rw [upd_ne nfm.symm, upd_same]), hmet.put hm _, lnd', lgen', ⟨more ++ [comp s' p], by rw [List.append_assoc]⟩, fun q hq => ?_⟩
            · exact (hall.imp fun _ _ z => (z.same s5).tups tl).snoc ⟨t, rfl, tl _ _ ht5⟩
            · rw [take_snoc hs'] at hq
              rcases List.mem_append.mp hq with hq | hq
              · exact List.mem_append_left _ (hcl q hq)
              · rw [List.mem_singleton.mp hq]
                exact List.mem_append_right _ (by simp)
      · rintro σ H3 ⟨v5, v6, L', vs, kvs, rfl, s3, h3fd, hall, h3md, hmet, lnd, lgen, ⟨more, rfl⟩, hcl⟩
        rw [hsteps.len, List.take_of_length_le (Nat.le_refl _)] at hcl
        have hsz := hshort _ lnd lgen
        refine ⟨_, rfl, fd, _, rfl, .inl (SqL.of h3fd), _, _, rfl, rfl, _, rfl, ?_⟩
        rw [hall.len]
        refine ite2 (fun c => absurd (of_decide_eq_true c) (by omega)) (fun _ => ?_)
        refine ⟨_, rfl, (at_ : Int), 1, rfl, rfl, m - 1, by omega, at_ + 1, v5, v6, v7, L ++ more, vs, kvs, ?_, by omega, s3, h3fd, hall, h3md, hmet, lnd, lgen, List.mem_append_left _ fnd.one, ?_, ?_⟩
        · rw [show V.int ((at_ : Int) + 1) = nV (at_ + 1) from nV_add at_ 1]
          rfl
        · rw [List.length_append]
          omega
        · intro i q hi hq s' hs'
          by_cases hia : i < at_
          · rw [List.getElem?_append_left (by omega)] at hq
            exact List.mem_append_left _ (fnd.cl i q hia hq s' hs')
          · have e : i = at_ := by omega
            subst e
            rw [List.getElem?_append_left hat, hp] at hq
            rw [← Option.some.inj hq]
            exact hcl s' hs'
    · have hge : L.length ≤ at_ := Nat.le_of_not_lt fun h => c (decide_eq_true (show (at_ : Int) < (L.length : Int) by omega))
      exact ⟨_, rfl, k H2 _ L s2 ⟨fd, vs, rfl, h2fd, hall⟩ (fnd.lists hS hge)⟩
end
end LT
set_option linter.all false
set_option Elab.async false
set_option maxRecDepth 100000
set_option maxHeartbeats 4000000
namespace LT
open PySem PySem.Spec PyProof.Rows L2 LTR
theorem AllAt.cons {α : Type} {F : V → α → Prop} {v : V} {vs : List V} {x : α} {xs : List α} (hv : F v x) (h : AllAt F vs xs) : AllAt F (v :: vs) (x :: xs) := by
  refine ⟨by rw [List.length_cons, List.length_cons, h.len], fun i u y h1 h2 => ?_⟩
  cases i with
  | zero =>
    cases h1
    cases h2
    exact hv
  | succ i => exact h.at_ i u y h1 h2
theorem AllAt.uncons {α : Type} {F : V → α → Prop} {v : V} {vs : List V} {xs : List α} (h : AllAt F (v :: vs) xs) : ∃ x r, xs = x :: r ∧ F v x ∧ AllAt F vs r := by
  cases xs with
  | nil => exact absurd h.len (by simp)
  | cons x r => exact ⟨x, r, rfl, h.at_ 0 v x rfl rfl, by have := h.len; simpa using this, fun i u y a b => h.at_ (i + 1) u y a b⟩
theorem AllAt.perm {α : Type} {F : V → α → Prop} {ys vs : List V} (p : ys.Perm vs) : ∀ {xs : List α}, AllAt F vs xs → ∃ zs, zs.Perm xs ∧ AllAt F ys zs := by
  induction p with
  | nil => exact fun {xs} h => ⟨xs, .refl _, h⟩
  | cons v _ ih =>
    intro xs h
    obtain ⟨x, r, rfl, h1, h2⟩ := h.uncons
    obtain ⟨zs, p1, p2⟩ := ih h2
    exact ⟨x :: zs, p1.cons x, .cons h1 p2⟩
  | swap a b l =>
    intro xs h
    obtain ⟨x, r, rfl, h1, h2⟩ := h.uncons
    obtain ⟨y, r, rfl, h3, h4⟩ := h2.uncons
    exact ⟨y :: x :: r, List.Perm.swap x y r, .cons h3 (.cons h1 h4)⟩
  | trans _ _ ih1 ih2 =>
    intro xs h
    obtain ⟨z1, p1, a1⟩ := ih2 h
    obtain ⟨z2, p2, a2⟩ := ih1 a1
    exact ⟨z2, p2.trans p1, a2⟩
theorem Lists.perm {S : List (List Nat)} {N : Nat} {L L' : List (List Nat)} (h : Lists S N L) (p : L'.Perm L) : Lists S N L' := ⟨h.sok, p.nodup_iff.mpr h.nd, fun q => (p.mem_iff).trans (h.mem q)⟩
section
variable {P : Program} {w : World} {K : PySem.W.Frag} {mg : Str → Option Value} {base : Heap}
/-! members -/
abbrev nmMembers : List Str := ["machine", "words", "level", "rest"]
theorem scMembers : FnScope nmMembers ["machine", "words", "level"] (defScope sMembers) := ⟨rfl, rfl, rfl, by decide +kernel, rfl, by decide +kernel, by decide +kernel⟩
def spMembers : Sp := fun vs H Q _ => ∃ k rows ws n, CallAt H vs k rows ws n ∧ ws.length ≤ 100 ∧ ∀ H' v' L, Same H H' → PermsAt H' v' L → Lists (stepsOf rows k ws n) (k ^ n) L → Q v' H'
theorem WsOk.words {rows : Rows} {ws : List (List Ltr)} (h : WsOk rows ws) : WordsOk rows.length ws := fun u hu => (h u hu).1
theorem ok_members (T : Tab K mg) : FnOk P w K mg base CX0 7 T.fMembers T.dMembers ["machine", "words", "level"] spMembers := by
  have G1 : FnOk P w K mg base CX0 6 T.fChCall T.dChCall ["machine", "words", "level"] spChCall := ok_chCall T
  have G2 : FnOk P w K mg base CX0 4 T.fSpread T.dSpread ["machine", "word", "level"] spSpread := ok_spread T
  have G3 : FnOk P w K mg base CX0 1 T.fAllProd T.dAllProd ["rest", "steps"] spAllProd := ok_allProd T
  have G4 : FnOk P w K mg base CX0 5 T.fPerms T.dPerms ["machine", "words", "level"] spPerms := ok_perms T
  refine T.members.fn.ok scMembers (fun vs H Q E h => ?_) (fun cdv A outer s H vs Q E hr h => ?_)
  · obtain ⟨k, rows, ws, n, ⟨⟨v, l, rfl, _⟩, _, _, _⟩, _⟩ := h
    rfl
  · obtain ⟨kk, rows, ws, n, hcall, hwl, k⟩ := h
    obtain ⟨⟨v, l, rfl, hm, hl⟩, ok, hws, lev⟩ := id hcall
    have nd := scMembers.nd
    have hpos : 1 ≤ kk ^ n := Nat.one_le_pow _ _ (by have := ok.k2; omega)
    refine ⟨_, pss_cons (ps_expr (pe_call G1 hr rfl T.chCall.mg T.chCall.fn.kp T.chCall.bd .nil pass0 (pa_cons (pv 0) (pa_cons (pv 1) (pa_cons (pv 2) pa_nil)))))
      (pss_cons (ps_set (i := 3) nd rfl (Or.inl rfl) (pe_ix ix_tup (pe_call G2 (hr.mono (by decide)) rfl T.spread.mg T.spread.fn.kp T.spread.bd .nil pass0 (pa_cons (pv 0) (pa_cons pe_str (pa_cons (pv 2) pa_nil)))) pe_int (fun _ _ => rfl)))
      (pss_one (ps_ret (pe_callB (cr_sortTU (d := kk ^ n) (B := 10) hpos) (by rfl) T.bSorted (by decide +kernel) (pa_cons
        (pe_call G3 (hr.mono (by decide)) rfl T.allProd.mg T.allProd.fn.kp T.allProd.bd .nil pass0 (pa_cons (pv 3) (pa_cons
          (pe_call G4 (hr.mono (by decide)) rfl T.perms.mg T.perms.fn.kp T.perms.bd .nil pass0 (pa_cons (pv 0) (pa_cons (pv 1) (pa_cons (pv 2) pa_nil)))) pa_nil))) pa_nil))))), ?_⟩
    refine ⟨_, rfl, _, rfl, _, rfl, kk, rows, ws, n, hcall, fun H1 s1 => ?_⟩
    refine ⟨_, rfl, _, rfl, v, kk, rows, [], n, by rw [wS_nil]; rfl, hm.same s1, ok, fun l hl => absurd hl (by simp), by decide, lev, fun H2 t a sec s2 ht ha => ⟨t, _, _, _, rfl, rfl, SqT.of ht, at0, ?_⟩⟩
    rw [spr_nil ok] at ha
    have s12 := s1.trans s2
    refine ⟨_, rfl, _, rfl, _, rfl, _, rfl, kk, rows, ws, n, hcall.same s12, hwl, fun H3 v3 s3 hp3 => ?_⟩
    have hN9 := lev.p9
    refine ⟨_, v3, kk ^ n, _, rfl, ⟨a, rfl, s3 _ _ ha⟩, by omega, hp3, steps_isP ok hws.words, fun M hM hg => gens_short ok hws.words lev.n3 lev.p9 hM hg, fun H4 v4 L s4 hp4 hL => ?_⟩
    obtain ⟨l4, vs4, rfl, hl4, hall⟩ := hp4
    refine ⟨l4, vs4, rfl, SqL.of hl4, fun x hx => ?_, fun ys p hys np => ?_⟩
    · obtain ⟨i, hi, e⟩ := List.mem_iff_getElem.mp hx
      obtain ⟨q, hq, ⟨b, rfl, hb⟩⟩ := hall.get (i := i) (v := x) (by rw [List.getElem?_eq_getElem hi, e])
      have iq := hL.isP (List.mem_of_getElem? hq)
      refine ⟨q.map fun z : Nat => (z : Int), ⟨b, rfl, SqT.of (by rw [List.map_map]; exact hb)⟩, by rw [List.length_map, iq.len], fun z hz => ?_⟩
      obtain ⟨y, hy, rfl⟩ := List.mem_map.mp hz
      have := (isP_iff.mp iq).2.1 y hy
      omega
    · obtain ⟨L', pL, hall'⟩ := hall.perm hys
      have s5 := same_upd (o := .lst ys) np
      exact k _ _ L' (((s12.trans s3).trans s4).trans s5) ⟨p, ys, rfl, upd_same, hall'.imp fun _ _ z => z.same s5⟩ (hL.perm pL)
/-! size -/
theorem scSize : FnScope ["machine", "words", "level"] ["machine", "words", "level"] (defScope sSize) := ⟨rfl, rfl, rfl, by decide +kernel, rfl, by decide +kernel, by decide +kernel⟩
def spSize : Sp := fun vs H Q _ => ∃ k rows ws n, CallAt H vs k rows ws n ∧ ws.length ≤ 100 ∧ ∀ H' L, Same H H' → Lists (stepsOf rows k ws n) (k ^ n) L → Q (nV L.length) H'
theorem ok_size (T : Tab K mg) : FnOk P w K mg base CX0 8 T.fSize T.dSize ["machine", "words", "level"] spSize := by
  have G : FnOk P w K mg base CX0 7 T.fMembers T.dMembers ["machine", "words", "level"] spMembers := ok_members T
  refine T.size.fn.ok scSize (fun vs H Q E h => ?_) (fun cdv A outer s H vs Q E hr h => ?_)
  · obtain ⟨k, rows, ws, n, ⟨⟨v, l, rfl, _⟩, _, _, _⟩, _⟩ := h
    rfl
  · obtain ⟨kk, rows, ws, n, hcall, hwl, k⟩ := h
    obtain ⟨⟨v, l, rfl, hm, hl⟩, ok, hws, lev⟩ := id hcall
    refine ⟨_, pss_one (ps_ret (pe_callB call_len_seq (by rfl) T.bLen PySem.boot_len (pa_cons (pe_call G hr rfl T.members.mg T.members.fn.kp T.members.bd .nil pass0 (pa_cons (pv 0) (pa_cons (pv 1) (pa_cons (pv 2) pa_nil)))) pa_nil))), ?_⟩
    refine ⟨_, rfl, _, rfl, _, rfl, kk, rows, ws, n, hcall, hwl, fun H1 v1 L s1 hp hL => ?_⟩
    obtain ⟨l1, vs1, rfl, hl1, hall⟩ := hp
    refine ⟨l1, _, rfl, .inl (SqL.of hl1), ?_⟩
    rw [hall.len]
    exact k H1 L s1 hL
/-! keepers -/
abbrev nmKeep : List Str := ["machine", "words", "level", "number", "member"]
theorem scKeepers : FnScope nmKeep ["machine", "words", "level", "number"] (defScope sKeepers) := ⟨rfl, rfl, rfl, by decide +kernel, rfl, by decide +kernel, by decide +kernel⟩
def spKeepers : Sp := fun vs H Q _ => ∃ k rows ws n x v l, vs = [v, l, nV n, nV x] ∧ CallAt H [v, l, nV n] k rows ws n ∧ ws.length ≤ 100 ∧ x < k ^ n ∧ ∀ H' v' L, Same H H' → Lists (stepsOf rows k ws n) (k ^ n) L →
  PermsAt H' v' (L.filter fun p => decide (p.getD x 0 = x)) → Q v' H'
theorem ok_keepers (T : Tab K mg) : FnOk P w K mg base CX0 8 T.fKeepers T.dKeepers ["machine", "words", "level", "number"] spKeepers := by
  have G1 : FnOk P w K mg base CX0 6 T.fChCall T.dChCall ["machine", "words", "level"] spChCall := ok_chCall T
  have G2 : FnOk P w K mg base CX0 4 T.fSpread T.dSpread ["machine", "word", "level"] spSpread := ok_spread T
  have G3 : FnOk P w K mg base CX0 7 T.fMembers T.dMembers ["machine", "words", "level"] spMembers := ok_members T
  refine T.keepers.fn.ok scKeepers (fun vs H Q E h => ?_) (fun cdv A outer s H vs Q E hr h => ?_)
  · obtain ⟨k, rows, ws, n, x, v, l, rfl, _⟩ := h
    rfl
  · obtain ⟨kk, rows, ws, n, x, v, l', rfl, hcall, hwl, hx, k⟩ := h
    obtain ⟨⟨v2, l, e, hm, hl⟩, ok, hws, lev⟩ := id hcall
    obtain ⟨rfl, rfl⟩ : v = v2 ∧ l' = .ref l := by
      injection e with e1 e2
      injection e2 with e2 _
      exact ⟨e1, e2⟩
    have nd := scKeepers.nd
    refine ⟨_, pss_cons (ps_expr (pe_call G1 (hr.mono (by decide)) rfl T.chCall.mg T.chCall.fn.kp T.chCall.bd .nil pass0 (pa_cons (pv 0) (pa_cons (pv 1) (pa_cons (pv 2) pa_nil)))))
      (pss_cons (ps_if (pt_not (pt_chain op_le op_lt pe_int (pv 3) (pe_callB call_len_seq (by rfl) T.bLen PySem.boot_len (pa_cons
          (pe_ix ix_tup (pe_call G2 (hr.mono (by decide)) rfl T.spread.mg T.spread.fn.kp T.spread.bd .nil pass0 (pa_cons (pv 0) (pa_cons pe_str (pa_cons (pv 2) pa_nil)))) pe_int (fun _ _ => rfl)) pa_nil)))) (pss_one ps_never) pss_nil)
      (pss_one (ps_ret (pe_lc (own := [("member", 4)]) (g := gName 4) rfl nd (pi_list (pe_call G3 hr rfl T.members.mg T.members.fn.kp T.members.bd .nil pass0 (pa_cons (pv 0) (pa_cons (pv 1) (pa_cons (pv 2) pa_nil))))) (blkOk_by (N := nmKeep) (sc := defScope sKeepers) (by decide +kernel))
        (fun _ _ _ _ _ => pg_name (i := 4) nd rfl (Or.inl rfl))
        (fun _ _ _ _ _ => pts_one (pt_cmpR op_eq (pe_ix (kx_ixT (K := K) rfl) (pv 4) (pv 3) (fun _ _ => rfl)) (pv 3) (nomark _))) (fun _ _ _ _ _ => pv 4))))), ?_⟩
    refine ⟨_, rfl, _, rfl, _, rfl, kk, rows, ws, n, hcall, fun H1 s1 => ?_⟩
    refine ⟨_, rfl, _, _, rfl, rfl, _, rfl, ?_⟩
    refine ite2 (fun _ => ?_) (fun c => absurd (decide_eq_true (show (0 : Int) ≤ (x : Int) by omega)) c)
    refine ⟨_, rfl, _, rfl, v, kk, rows, [], n, by rw [wS_nil]; rfl, hm.same s1, ok, fun l hl => absurd hl (by simp), by decide, lev, fun H2 t a sec s2 ht ha => ⟨t, _, _, _, rfl, rfl, SqT.of ht, at0, a, _, rfl, .inr (SqT.of ha), _, _, rfl, rfl, _, rfl, ?_⟩⟩
    have hlen : ((spr rows kk [] n).1.map nV).length = kk ^ n := by rw [List.length_map, spr_nil ok, List.length_range]
    refine iteNS (by rw [hlen]; omega) ?_
    have s12 := s1.trans s2
    refine ⟨_, rfl, _, rfl, _, rfl, kk, rows, ws, n, hcall.same s12, hwl, fun H3 v3 L s3 hp hL => ?_⟩
    obtain ⟨l3, vs3, rfl, hl3, hall⟩ := hp
    have hLs : L.length ≤ 1296 := gens_short ok hws.words lev.n3 lev.p9 hL.nd fun p hp => (hL.mem p).mp hp
    refine ⟨l3, rfl, ⟨_, SqL.of hl3⟩, fun D hD => lc_it (walk_list (xs := vs3)) (fun i H4 => Same H3 H4 ∧ ∃ us, H4 D = some (.lst us) ∧ AllAt (PermAt H4) us ((L.take i).filter fun p => decide (p.getD x 0 = x)))
      ⟨same_upd hD, [], upd_same, .nil⟩ (fun i H4 _ ⟨s4, _⟩ => SqL.of (s4 _ _ hl3)) ?_ ?_⟩
    · rintro i y H4 H5 hi ⟨s4, us, h4, hus⟩ ⟨rfl, hy⟩
      obtain ⟨p, hp, ⟨b, rfl, hb⟩⟩ := hall.get hy
      have ip := hL.isP (List.mem_of_getElem? hp)
      have hget : (p.map nV)[x]? = some (nV (p.getD x 0)) := by
        rw [List.getElem?_map, List.getD_eq_getElem?_getD, List.getElem?_eq_getElem (by rw [ip.len]; exact hx)]
        rfl
      refine ⟨rfl, ?_⟩
      refine ⟨_, rfl, _, rfl, b, _, _, _, rfl, rfl, SqT.of (s4 _ _ hb), atI_nat hget, _, rfl, rfl, _, rfl, ?_⟩
      have hde : decide (nV (p.getD x 0) = nV x) = decide (p.getD x 0 = x) := by
        by_cases z : p.getD x 0 = x
        · rw [decide_eq_true z, decide_eq_true (by rw [z])]
        · rw [decide_eq_false z, decide_eq_false (fun q => z (by have := V.int.inj q; omega))]
      rw [hde, take_snoc hp, List.filter_append]
      by_cases z : p.getD x 0 = x
      · rw [decide_eq_true z]
        have e1 : ([p].filter fun p => decide (p.getD x 0 = x)) = [p] := by
          rw [List.filter_cons, if_pos (decide_eq_true z)]
          rfl
        rw [e1]
        refine iteT ?_
        refine ⟨_, rfl, us, h4, small 2000 ?_, s4.up hD, _, upd_same, ?_⟩
        · rw [hus.len]
          have h1 := List.length_filter_le (fun p : List Nat => decide (p.getD x 0 = x)) (L.take i)
          rw [List.length_take] at h1
          omega
        · have tl : TupS H5 (upd H5 D (.lst (us ++ [.ref b]))) := .updL h4
          exact (hus.imp fun _ _ z => z.tups tl).snoc ⟨b, rfl, tl _ _ (s4 _ _ hb)⟩
      · rw [decide_eq_false z]
        have e1 : ([p].filter fun p => decide (p.getD x 0 = x)) = [] := by
          rw [List.filter_cons, if_neg (by rw [decide_eq_false z]; exact Bool.false_ne_true)]
          rfl
        rw [e1, List.append_nil]
        exact iteF ⟨s4, us, h4, hus⟩
    · rintro H4 ⟨s4, us, h4, hus⟩
      rw [hall.len, List.take_of_length_le (Nat.le_refl _)] at hus
      exact k H4 _ L ((s12.trans s3).trans s4) hL ⟨D, us, rfl, h4, hus⟩
end
end LT
set_option linter.all false
set_option Elab.async false
set_option maxRecDepth 100000
set_option maxHeartbeats 4000000
namespace LT
open PySem PySem.Spec PyProof.Rows L2 LTR
/-- the dict holds the numbers of M -/
structure MetN (kvs : List (Key × V)) (M : List Nat) : Prop where
  len : kvs.length = M.length
  mem : ∀ y : Nat, (valV kvs (Sum.inl (y : Int) : Key)).isSome = true ↔ y ∈ M
theorem MetN.put {kvs : List (Key × V)} {M : List Nat} (h : MetN kvs M) {y : Nat} (hy : y ∉ M) (v : V) : MetN (putK kvs (Sum.inl (y : Int)) v) (M ++ [y]) := by
  have hn : valV kvs (Sum.inl (y : Int) : Key) = none := by
    cases e : valV kvs (Sum.inl (y : Int) : Key) with
    | none => rfl
    | some z => exact absurd ((h.mem y).mp (by rw [e]; rfl)) hy
  refine ⟨?_, fun q => ?_⟩
  · rw [putK_new v hn, List.length_append, List.length_append, h.len]
    rfl
  · rw [valV_put]
    by_cases e : q = y
    · subst e
      rw [if_pos rfl]
      simp
    · rw [if_neg (fun z => e (by have := Sum.inl.inj z; omega)), h.mem q]
      simp [e]
section
variable {P : Program} {w : World} {K : PySem.W.Frag} {mg : Str → Option Value} {base : Heap}
/-! reached -/
abbrev nmReach : List Str := ["start", "steps", "met", "found", "at", "step", "number"]
theorem scReached : FnScope nmReach ["start", "steps", "met"] (defScope sReached) := ⟨rfl, rfl, rfl, by decide +kernel, rfl, by decide +kernel, by decide +kernel⟩
def spReached : Sp := fun vs H Q _ => ∃ (x : Nat) (v2 : V) (md : Addr) (kvs : List (Key × V)) (S : List (List Nat)) (N : Nat) (M : List Nat), vs = [nV x, v2, .ref md] ∧ PermsAt H v2 S ∧ (∀ s ∈ S, IsP N s) ∧ N ≤ 100 ∧ H md = some (.dK kvs) ∧ MetN kvs M ∧
  M.Nodup ∧ (∀ y ∈ M, y < N) ∧ x ∈ M ∧
  ∀ (H' : Hp) (r : Addr) (R : List Nat) (kvs' : List (Key × V)), SameBut md H H' → H r = none → H' r = some (.lst ((x :: R).map nV)) → H' md = some (.dK kvs') → MetN kvs' (M ++ R) → (M ++ R).Nodup → (∀ y ∈ M ++ R, y < N) →
    (∀ y ∈ R, Reach S x y) → (∀ y ∈ x :: R, ∀ s ∈ S, s.getD y 0 ∈ M ++ R) → Q (.ref r) H'
theorem short_of {M : List Nat} {N : Nat} (h : M.Nodup) (hl : ∀ y ∈ M, y < N) : M.length ≤ N := by
  have := List.Nodup.length_le_of_subset h (l₂ := List.range N) fun y hy => List.mem_range.mpr (hl y hy)
  rw [List.length_range] at this
  exact this
theorem ok_reached (T : Tab K mg) : FnOk P w K mg base CX0 1 T.fReached T.dReached ["start", "steps", "met"] spReached := by
  refine T.reached.fn.ok scReached (fun vs H Q E h => ?_) (fun cdv A outer s H vs Q E hr h => ?_)
  · obtain ⟨x, v2, md, kvs, S, N, M, rfl, _⟩ := h
    rfl
  · obtain ⟨x, v2, md, kvs, S, N, M, rfl, ⟨sl, svs, rfl, hsl, hsteps⟩, hS, hN, hmd, hmet, mnd, mlt, hxM, k⟩ := h
    have nd := scReached.nd
    have hu := hu_of hr
    refine ⟨_, pss_cons (ps_set (i := 3) nd rfl (Or.inl rfl) (pe_lst (pa_cons (pv 0) pa_nil)))
      (pss_cons (ps_set (i := 4) nd rfl (Or.inl rfl) pe_int)
      (pss_cons (ps_while PassesOwn.never (pt_cmpR op_lt (pv 4) (pe_callB call_len_seq (by rfl) T.bLen PySem.boot_len (pa_cons (pv 3) pa_nil)) (nomark _))
        (pss_cons (ps_for PassesOwn.never rfl (pi_list (pv 1)) (pg_name (i := 5) nd rfl (Or.inl rfl))
          (pss_cons (ps_set (i := 6) nd rfl (Or.inl rfl) (pe_ix ix_tup (pv 5) (pe_ix ix_list (pv 3) (pv 4) (fun _ _ => rfl)) (fun _ _ => rfl)))
          (pss_one (ps_if (pt_cmp (pc_dnotin hu (pv 6) (pv 2)))
            (pss_cons (ps_dput hu (pv 2) (pv 6) pe_bl rfl)
            (pss_one (ps_expr (pe_bm PySem.F.plainAttrs_list PySem.F.slot_list_append PySem.F.type_list_append mt_append (pv 3) (pa_cons (pv 6) pa_nil)))))
            pss_nil))))
        (pss_one (ps_aug (i := 4) nd rfl (Or.inl rfl) pe_int ip_add))))
      (pss_one (ps_ret (pv 3))))), ?_⟩
    refine ⟨_, rfl, (by show 1 ≤ sizeLine; decide), fun fd hfd => ?_⟩
    have nmf : md ≠ fd := ne_of_none hmd hfd
    have nsm : sl ≠ md := ne_of hsl hmd (by intro z; cases z)
    have hM1 : 1 ≤ M.length := List.length_pos_of_mem hxM
    have tM : ∀ {H2 : Hp}, SameBut md H H2 → TupS H H2 := fun s b xs e => s b _ (ne_of e hmd (by intro z; cases z)) e
    refine ⟨fun m σ H2 => ∃ (at_ : Nat) (v5 v6 : Option V) (R : List Nat) (kvs : List (Key × V)), σ = [some (nV x), some (.ref sl), some (.ref md), some (.ref fd), some (nV at_), v5, v6] ∧ m + at_ = N + 1 ∧ SameBut md H H2 ∧
        H2 fd = some (.lst ((x :: R).map nV)) ∧ H2 md = some (.dK kvs) ∧ MetN kvs (M ++ R) ∧ (M ++ R).Nodup ∧ (∀ y ∈ M ++ R, y < N) ∧ (∀ y ∈ R, Reach S x y) ∧ at_ ≤ (x :: R).length ∧
        ∀ i y, i < at_ → (x :: R)[i]? = some y → ∀ s ∈ S, s.getD y 0 ∈ M ++ R,
      ⟨N + 1, 0, none, none, [], kvs, rfl, rfl, .of (same_upd hfd), upd_same, same_upd hfd _ _ hmd, by rw [List.append_nil]; exact hmet, by rw [List.append_nil]; exact mnd, by rw [List.append_nil]; exact mlt, by simp, Nat.zero_le _, fun i y hi => absurd hi (by omega)⟩, ?_⟩
    rintro m σ H2 ⟨at_, v5, v6, R, kvs, rfl, hmat, s2, h2fd, h2md, hmet, mnd, mlt, hre, hle, hcl⟩
    have hMR := short_of mnd mlt
    rw [List.length_append] at hMR
    refine ⟨_, rfl, _, rfl, fd, _, rfl, .inl (SqL.of h2fd), _, _, rfl, rfl, _, rfl, ?_⟩
    rw [List.length_map]
    refine ite2 (fun c => ?_) (fun c => ?_)
    · have hat : at_ < (x :: R).length := by
        have := of_decide_eq_true c
        omega
      obtain ⟨z, hz⟩ : ∃ z, (x :: R)[at_]? = some z := ⟨_, List.getElem?_eq_getElem hat⟩
      have hzM : z ∈ M ++ R := by
        rcases List.mem_cons.mp (List.mem_of_getElem? hz) with rfl | q
        · exact List.mem_append_left _ hxM
        · exact List.mem_append_right _ q
      have hzN := mlt z hzM
      have hzr : Reach S x z := by
        rcases List.mem_cons.mp (List.mem_of_getElem? hz) with rfl | q
        · exact .refl
        · exact hre z q
      refine ⟨fun σ' H' => ∃ m', m' < m ∧ _, fun _ _ h => h, ?_⟩
      refine ⟨_, rfl, sl, rfl, ⟨_, SqL.of (s2 _ _ nsm hsl)⟩, for_list (K := K) (a := sl) (xs := svs)
        (fun j σ H3 => ∃ (v5 v6 : Option V) (R' : List Nat) (kvs : List (Key × V)), σ = [some (nV x), some (.ref sl), some (.ref md), some (.ref fd), some (nV at_), v5, v6] ∧ SameBut md H H3 ∧
          H3 fd = some (.lst ((x :: R').map nV)) ∧ H3 md = some (.dK kvs) ∧ MetN kvs (M ++ R') ∧ (M ++ R').Nodup ∧ (∀ y ∈ M ++ R', y < N) ∧ (∀ y ∈ R', Reach S x y) ∧ (∃ more, R' = R ++ more) ∧ ∀ s ∈ S.take j, s.getD z 0 ∈ M ++ R')
        ⟨v5, v6, R, kvs, rfl, s2, h2fd, h2md, hmet, mnd, mlt, hre, ⟨[], by simp⟩, by simp⟩ (fun j σ H3 _ ⟨_, _, _, _, _, s3, _⟩ => SqL.of (s3 _ _ nsm hsl)) ?_ ?_⟩
      · rintro j y σ H3 hy ⟨v5, v6, R', kvs, rfl, s3, h3fd, h3md, hmet, mnd, mlt, hre, ⟨more, rfl⟩, hcl2⟩
        obtain ⟨s', hs', ⟨b, rfl, hb⟩⟩ := hsteps.get hy
        have hsS := List.mem_of_getElem? hs'
        have iS := hS s' hsS
        have hz' : ((x :: (R ++ more)).map nV)[at_]? = some (nV z) := by
          rw [List.getElem?_map, show x :: (R ++ more) = (x :: R) ++ more from rfl, List.getElem?_append_left hat, hz]
          rfl
        have hget : (s'.map nV)[z]? = some (nV (s'.getD z 0)) := by
          rw [List.getElem?_map, List.getD_eq_getElem?_getD, List.getElem?_eq_getElem (by rw [iS.len]; exact hzN)]
          rfl
        refine ⟨_, rfl, _, rfl, _, rfl, fd, _, _, _, rfl, rfl, SqL.of h3fd, atI_nat hz', b, _, _, _, rfl, rfl, SqT.of (tM s3 _ _ hb), atI_nat hget, ?_⟩
        refine ⟨_, rfl, _, rfl, md, _, rfl, DGet.k (k := Sum.inl ((s'.getD z 0 : Nat) : Int)) h3md, _, rfl, ?_⟩
        by_cases hm : s'.getD z 0 ∈ M ++ (R ++ more)
        · rw [(hmet.mem _).mpr hm]
          refine iteF ?_
          refine ⟨_, _, R ++ more, kvs, rfl, s3, h3fd, h3md, hmet, mnd, mlt, hre, ⟨more, rfl⟩, fun q hq => ?_⟩
          rw [take_snoc hs'] at hq
          rcases List.mem_append.mp hq with hq | hq
          · exact hcl2 q hq
          · rw [List.mem_singleton.mp hq]
            exact hm
        · have hnone : (valV kvs (Sum.inl ((s'.getD z 0 : Nat) : Int) : Key)).isSome = false := by
            cases e : (valV kvs (Sum.inl ((s'.getD z 0 : Nat) : Int) : Key)).isSome with
            | false => rfl
            | true => exact absurd ((hmet.mem _).mp e) hm
          rw [hnone]
          refine iteT ?_
          have hlt : s'.getD z 0 < N := iS.lt z hzN
          have e1 : M ++ (R ++ (more ++ [s'.getD z 0])) = M ++ (R ++ more) ++ [s'.getD z 0] := by simp
          have mnd' : (M ++ (R ++ (more ++ [s'.getD z 0]))).Nodup := by
            rw [e1, List.nodup_append]
            exact ⟨mnd, by simp, fun a ha c hc e => hm (by rw [List.mem_singleton.mp hc] at e; rw [← e]; exact ha)⟩
          have mlt' : ∀ y ∈ M ++ (R ++ (more ++ [s'.getD z 0])), y < N := fun y hy => by
            rw [e1] at hy
            rcases List.mem_append.mp hy with hy | hy
            · exact mlt y hy
            · rw [List.mem_singleton.mp hy]
              exact hlt
          have hsz := short_of mnd' mlt'
          simp only [List.length_append, List.length_singleton] at hsz
          have hkl := hmet.len
          simp only [List.length_append] at hkl
          refine ⟨_, rfl, _, rfl, md, _, rfl, DPut.k (k := Sum.inl ((s'.getD z 0 : Nat) : Int)) h3md (small 1000 (by omega)), ?_⟩
          have h4fd : upd H3 md (.dK (putK kvs (Sum.inl ((s'.getD z 0 : Nat) : Int)) (.bl true))) fd = some (.lst ((x :: (R ++ more)).map nV)) := by
            rw [upd_ne nmf.symm]
            exact h3fd
          refine ⟨_, rfl, .inl ⟨rfl, _, SqL.of h4fd⟩, _, rfl, fd, _, _, rfl, rfl, h4fd, small 1000 (by simp only [List.length_map, List.length_cons, List.length_append]; omega), ?_⟩
          refine ⟨_, _, R ++ (more ++ [s'.getD z 0]), _, rfl, fun b o n e => ?_, ?_, (by rw [upd_ne nmf, upd_same]), (by rw [e1]; exact hmet.put hm _), mnd', mlt', fun y hy => ?_, ⟨_, rfl⟩, fun q hq => ?_⟩
          · rw [upd_ne (ne_of_none e hfd), upd_ne n]
            exact s3 b o n e
          · rw [upd_same, show x :: (R ++ (more ++ [s'.getD z 0])) = (x :: (R ++ more)) ++ [s'.getD z 0] by simp, List.map_append]
            rfl
          · rw [← List.append_assoc] at hy
            rcases List.mem_append.mp hy with hy | hy
            · exact hre y hy
            · rw [List.mem_singleton.mp hy]
              exact .step hzr hsS
          · rw [e1]
            rw [take_snoc hs'] at hq
            rcases List.mem_append.mp hq with hq | hq
            · exact List.mem_append_left _ (hcl2 q hq)
            · rw [List.mem_singleton.mp hq]
              exact List.mem_append_right _ (by simp)
      · rintro σ H3 ⟨v5, v6, R', kvs, rfl, s3, h3fd, h3md, hmet, mnd, mlt, hre, ⟨more, rfl⟩, hcl2⟩
        rw [hsteps.len, List.take_of_length_le (Nat.le_refl _)] at hcl2
        have hm1 : 1 ≤ m := by
          rw [List.length_cons] at hat
          omega
        refine ⟨_, rfl, (at_ : Int), 1, rfl, rfl, m - 1, by omega, at_ + 1, v5, v6, R ++ more, kvs, ?_, ?_, s3, h3fd, h3md, hmet, mnd, mlt, hre, ?_, ?_⟩
        · rw [show V.int ((at_ : Int) + 1) = nV (at_ + 1) from nV_add at_ 1]
          rfl
        · rw [List.length_cons] at hat
          omega
        · rw [List.length_cons] at hat
          rw [List.length_cons, List.length_append]
          omega
        · intro i y hi hq s' hs'
          have e1 : x :: (R ++ more) = (x :: R) ++ more := rfl
          rw [e1] at hq
          by_cases hia : i < at_
          · rw [List.getElem?_append_left (by omega)] at hq
            rw [← List.append_assoc]
            exact List.mem_append_left _ (hcl i y hia hq s' hs')
          · have e : i = at_ := by omega
            subst e
            rw [List.getElem?_append_left hat, hz] at hq
            rw [← Option.some.inj hq]
            exact hcl2 s' hs'
    · have hge : (x :: R).length ≤ at_ := Nat.le_of_not_lt fun h => c (decide_eq_true (show (at_ : Int) < ((x :: R).length : Int) by omega))
      refine ⟨_, rfl, k H2 fd R kvs s2 hfd h2fd h2md hmet mnd mlt hre fun y hy s' hs' => ?_⟩
      obtain ⟨i, hi, e⟩ := List.mem_iff_getElem.mp hy
      exact hcl i y (by omega) (by rw [List.getElem?_eq_getElem hi, e]) s' hs'
/-! orbits_of -/
abbrev nmOrbOf : List Str := ["size", "steps", "found", "met", "start"]
theorem scOrbOf : FnScope nmOrbOf ["size", "steps"] (defScope sOrbOf) := ⟨rfl, rfl, rfl, by decide +kernel, rfl, by decide +kernel, by decide +kernel⟩
def PartAt (H : Hp) (v : V) (O : List Nat) : Prop := ∃ a, v = .ref a ∧ H a = some (.lst (O.map nV))
def PartsAt (H : Hp) (v : V) (Os : List (List Nat)) : Prop := ∃ l vs, v = .ref l ∧ H l = some (.lst vs) ∧ AllAt (PartAt H) vs Os
/-- the parts are the orbits -/
structure Parts (S : List (List Nat)) (N : Nat) (Os : List (List Nat)) : Prop where
  orb : ∀ O ∈ Os, ∃ st, st < N ∧ O.Nodup ∧ ∀ y, y ∈ O ↔ Reach S st y
  all : ∀ y, y < N → ∃ O ∈ Os, y ∈ O
  len : Os.length ≤ N
def spOrbOf : Sp := fun vs H Q _ => ∃ (N : Nat) (v2 : V) (S : List (List Nat)), vs = [nV N, v2] ∧ PermsAt H v2 S ∧ (∀ s ∈ S, IsP N s) ∧ N ≤ 60 ∧ (∀ x y, x < N → Reach S x y → Reach S y x) ∧
  ∀ H' v' Os, Same H H' → PartsAt H' v' Os → Parts S N Os → Q v' H'
theorem ok_orbOf (T : Tab K mg) : FnOk P w K mg base CX0 2 T.fOrbOf T.dOrbOf ["size", "steps"] spOrbOf := by
  have G : FnOk P w K mg base CX0 1 T.fReached T.dReached ["start", "steps", "met"] spReached := ok_reached T
  refine T.orbOf.fn.ok scOrbOf (fun vs H Q E h => ?_) (fun cdv A outer s H vs Q E hr h => ?_)
  · obtain ⟨N, v2, S, rfl, _⟩ := h
    rfl
  · obtain ⟨N, v2, S, rfl, hst, hS, hN, hsym, k⟩ := h
    have nd := scOrbOf.nd
    have hu := hu_of hr
    refine ⟨_, pss_cons (ps_set (i := 2) nd rfl (Or.inl rfl) (pe_lst pa_nil))
      (pss_cons (ps_set (i := 3) nd rfl (Or.inl rfl) pe_dnewK)
      (pss_cons (ps_for PassesOwn.never rfl (pi_range1 rfl T.bRange (pa_cons (pv 0) pa_nil)) (pg_name (i := 4) nd rfl (Or.inl rfl))
        (pss_one (ps_if (pt_cmp (pc_dnotin hu (pv 4) (pv 3)))
          (pss_cons (ps_dput hu (pv 3) (pv 4) pe_bl rfl)
          (pss_one (ps_expr (pe_bm PySem.F.plainAttrs_list PySem.F.slot_list_append PySem.F.type_list_append mt_append (pv 2) (pa_cons
            (pe_callB cr_sorted (by rfl) T.bSorted (by decide +kernel) (pa_cons (pe_call G hr rfl T.reached.mg T.reached.fn.kp T.reached.bd .nil pass0 (pa_cons (pv 4) (pa_cons (pv 1) (pa_cons (pv 3) pa_nil)))) pa_nil)) pa_nil)))))
          pss_nil)))
      (pss_one (ps_ret (pv 2))))), ?_⟩
    refine ⟨by decide, fun fd hfd => ?_⟩
    intro md hmd
    have nfm : fd ≠ md := by
      rintro rfl
      rw [upd_same] at hmd
      cases hmd
    have hmdH : H md = none := (same_upd hfd).free hmd
    have s1 : Same H (upd (upd H fd (.lst [])) md (.dK [])) := (same_upd hfd).trans (same_upd hmd)
    have h1fd : upd (upd H fd (.lst [])) md (.dK []) fd = some (.lst []) := by rw [upd_ne nfm, upd_same]
    have h1md : upd (upd H fd (.lst [])) md (.dK []) md = some (.dK []) := upd_same
    generalize upd (upd H fd (.lst [])) md (.dK []) = H1 at s1 h1fd h1md
    refine ⟨_, rfl, _, rfl, by omega, by omega, for_range (lo := 0) (n := (N : Int).toNat)
      (fun i σ H2 => ∃ (v4 : Option V) (Os : List (List Nat)) (M : List Nat) (vs : List V) (kvs : List (Key × V)), σ = [some (nV N), some v2, some (.ref fd), some (.ref md), v4] ∧ Same H H2 ∧ H2 fd = some (.lst vs) ∧
        AllAt (fun v O => ∃ a, v = V.ref a ∧ a ≠ fd ∧ H2 a = some (.lst (O.map nV))) vs Os ∧ H2 md = some (.dK kvs) ∧ MetN kvs M ∧ M.Nodup ∧ (∀ y ∈ M, y < N) ∧ (∀ y ∈ M, ∀ s ∈ S, s.getD y 0 ∈ M) ∧ (∀ j, j < i → j ∈ M) ∧
        (∀ y ∈ M, ∃ O ∈ Os, y ∈ O) ∧ (∀ O ∈ Os, ∃ st, st < N ∧ O.Nodup ∧ ∀ y, y ∈ O ↔ Reach S st y) ∧ Os.length ≤ i)
      ⟨none, [], [], [], [], rfl, s1, h1fd, .nil, h1md, ⟨rfl, fun y => by simp [valV_nil]⟩, List.nodup_nil, by simp, by simp, fun j hj => absurd hj (by omega), by simp, by simp, Nat.zero_le _⟩ ?_ ?_⟩
    · rintro i σ H2 hi ⟨v4, Os, M, vs, kvs, rfl, s2, h2fd, hall, h2md, hmet, mnd, mlt, hcl, hbelow, hin, horb, hOl⟩
      rw [Int.toNat_natCast] at hi
      have e0 : V.int (0 + (i : Int)) = nV i := by rw [Int.zero_add]; rfl
      rw [e0]
      refine ⟨_, rfl, _, rfl, md, _, rfl, DGet.k (k := Sum.inl (i : Int)) h2md, _, rfl, ?_⟩
      by_cases hm : i ∈ M
      · rw [(hmet.mem i).mpr hm]
        refine iteF ?_
        refine ⟨_, Os, M, vs, kvs, rfl, s2, h2fd, hall, h2md, hmet, mnd, mlt, hcl, fun j hj => ?_, hin, horb, by omega⟩
        by_cases z : j = i
        · rw [z]; exact hm
        · exact hbelow j (by omega)
      · have hnone : (valV kvs (Sum.inl (i : Int) : Key)).isSome = false := by
          cases e : (valV kvs (Sum.inl (i : Int) : Key)).isSome with
          | false => rfl
          | true => exact absurd ((hmet.mem _).mp e) hm
        rw [hnone]
        refine iteT ?_
        have hkl := hmet.len
        have hMl := short_of mnd mlt
        refine ⟨_, rfl, _, rfl, md, _, rfl, DPut.k (k := Sum.inl (i : Int)) h2md (small 1000 (by omega)), ?_⟩
        have sM : Same H (upd H2 md (.dK (putK kvs (Sum.inl (i : Int)) (.bl true)))) := s2.up hmdH
        have sb3 : SameBut md H2 (upd H2 md (.dK (putK kvs (Sum.inl (i : Int)) (.bl true)))) := SameBut.own (.of (.refl _))
        have h3md : upd H2 md (.dK (putK kvs (Sum.inl (i : Int)) (.bl true))) md = some (.dK (putK kvs (Sum.inl (i : Int)) (.bl true))) := upd_same
        generalize upd H2 md (.dK (putK kvs (Sum.inl (i : Int)) (.bl true))) = H3 at sM sb3 h3md
        have h3fd := sb3 _ _ nfm h2fd
        have mnd1 : (M ++ [i]).Nodup := by
          rw [List.nodup_append]
          exact ⟨mnd, by simp, fun a ha c hc e => hm (by rw [List.mem_singleton.mp hc] at e; rw [← e]; exact ha)⟩
        have mlt1 : ∀ y ∈ M ++ [i], y < N := fun y hy => by
          rcases List.mem_append.mp hy with hy | hy
          · exact mlt y hy
          · rw [List.mem_singleton.mp hy]; exact hi
        refine ⟨_, rfl, .inl ⟨rfl, _, SqL.of h3fd⟩, _, rfl, _, rfl, _, rfl, i, v2, md, _, S, N, M ++ [i], rfl, hst.same sM, hS, by omega, h3md, hmet.put hm _, mnd1, mlt1, by simp, fun H4 r R kvs' s4 nr hr4 h4md hmet4 mnd4 mlt4 hreach hclos => ?_⟩
        have hRl := short_of mnd4 mlt4
        simp only [List.length_append, List.length_singleton] at hRl
        refine ⟨r, (i :: R).map fun z : Nat => (z : Int), rfl, SqL.of (by rw [List.map_map]; exact hr4), by rw [List.length_map, List.length_cons]; omega, fun ns p hperm hsort np => ?_⟩
        -- the part
        have hback : ∀ l : List Nat, (l.map fun z : Nat => (z : Int)).map Int.toNat = l := fun l => by
          rw [List.map_map]
          conv => rhs; rw [← List.map_id l]
          rfl
        have pO : (ns.map Int.toNat).Perm (i :: R) := by
          have := hperm.map Int.toNat
          rw [hback] at this
          exact this
        have eO : (ns.map Int.toNat).map nV = ns.map V.int := by
          rw [List.map_map]
          refine List.map_congr_left fun z hz => ?_
          obtain ⟨y, _, e⟩ := List.mem_map.mp (hperm.mem_iff.mp hz)
          show nV z.toNat = V.int z
          rw [← e]
          rfl
        rw [← eO]
        generalize ns.map Int.toNat = O at pO
        have h4fd := s4 _ _ nfm h3fd
        have npf : fd ≠ p := ne_of_none h4fd np
        have nrf : r ≠ fd := fun z => by
          rw [z] at nr
          rw [h3fd] at nr
          cases nr
        have h5fd : upd H4 p (.lst (O.map nV)) fd = some (.lst vs) := by
          rw [upd_ne npf]
          exact h4fd
        have hvl := hall.len
        refine ⟨fd, _, _, rfl, rfl, h5fd, small 1000 (by omega), ?_⟩
        have npmd : md ≠ p := ne_of_none h4md np
        have s24 : ∀ b o, b ≠ md → H2 b = some o → H4 b = some o := fun b o n e => s4 b o n (sb3 b o n e)
        have iR : (i :: R).Nodup := by
          have h1 : (M ++ [i] ++ R) = M ++ (i :: R) := by simp
          rw [h1] at mnd4
          exact (List.nodup_append.mp mnd4).2.1
        have memIR : ∀ y, y ∈ i :: R ↔ Reach S i y := by
          intro y
          constructor
          · intro hy
            rcases List.mem_cons.mp hy with rfl | hy
            · exact .refl
            · exact hreach y hy
          · intro hy
            have hM' : y ∈ M ++ [i] ++ R := by
              clear hback
              induction hy with
              | refl => simp
              | @step z s' hz hs' ih =>
                have ih : z ∈ M ++ (i :: R) := by simpa using ih
                rcases List.mem_append.mp ih with q | q
                · exact List.mem_append_left _ (List.mem_append_left _ (hcl z q s' hs'))
                · exact hclos z q s' hs'
            have hM' : y ∈ M ++ (i :: R) := by simpa using hM'
            rcases List.mem_append.mp hM' with q | q
            · -- back to i, within M
              have hb := hsym i y hi hy
              have : ∀ z, Reach S y z → z ∈ M := fun z hz => by
                induction hz with
                | refl => exact q
                | step _ hs' ih => exact hcl _ ih _ hs'
              exact absurd (this i hb) hm
            · exact q
        have memO : ∀ y, y ∈ O ↔ Reach S i y := fun y => (pO.mem_iff).trans (memIR y)
        refine ⟨_, Os ++ [O], M ++ [i] ++ R, vs ++ [.ref p], kvs', rfl, fun b o e => ?_, upd_same, ?_, ?_, hmet4, mnd4, mlt4, ?_, ?_, ?_, ?_, ?_⟩
        · have hb : H3 b = some o := sM b o e
          have nbm : b ≠ md := ne_of_none e hmdH
          rw [upd_ne (ne_of_none e hfd), upd_ne (ne_of_none (s4 b o nbm hb) np)]
          exact s4 b o nbm hb
        · refine AllAt.snoc (hall.imp fun v O' ⟨a, e1, e2, e3⟩ => ⟨a, e1, e2, ?_⟩) ⟨p, rfl, npf.symm, ?_⟩
          · have nam : a ≠ md := ne_of e3 h2md (by intro z; cases z)
            have e4 := s24 a _ nam e3
            rw [upd_ne e2, upd_ne (ne_of_none e4 np)]
            exact e4
          · rw [upd_ne npf.symm, upd_same]
        · rw [upd_ne nfm.symm, upd_ne npmd]
          exact h4md
        · intro y hy s' hs'
          have hy : y ∈ M ++ (i :: R) := by simpa using hy
          rcases List.mem_append.mp hy with q | q
          · exact List.mem_append_left _ (List.mem_append_left _ (hcl y q s' hs'))
          · exact hclos y q s' hs'
        · intro j hj
          by_cases z : j = i
          · rw [z]; simp
          · exact List.mem_append_left _ (List.mem_append_left _ (hbelow j (by omega)))
        · intro y hy
          have hy : y ∈ M ++ (i :: R) := by simpa using hy
          rcases List.mem_append.mp hy with q | q
          · obtain ⟨O', h1, h2⟩ := hin y q
            exact ⟨O', List.mem_append_left _ h1, h2⟩
          · exact ⟨O, by simp, pO.mem_iff.mpr q⟩
        · intro O' hO'
          rcases List.mem_append.mp hO' with q | q
          · exact horb O' q
          · rw [List.mem_singleton.mp q]
            exact ⟨i, hi, pO.nodup_iff.mpr iR, memO⟩
        · rw [List.length_append, List.length_singleton]
          omega
    · rintro σ H2 ⟨v4, Os, M, vs, kvs, rfl, s2, h2fd, hall, h2md, hmet, mnd, mlt, hcl, hbelow, hin, horb, hOl⟩
      rw [Int.toNat_natCast] at hbelow hOl
      exact ⟨_, rfl, k H2 _ Os s2 ⟨fd, vs, rfl, h2fd, hall.imp fun v O ⟨a, e1, _, e3⟩ => ⟨a, e1, e3⟩⟩ ⟨horb, fun y hy => hin y (hbelow y hy), hOl⟩⟩
/-! orbits -/
abbrev nmOrbits : List Str := ["machine", "words", "level", "strings"]
theorem scOrbits : FnScope nmOrbits ["machine", "words", "level"] (defScope sOrbits) := ⟨rfl, rfl, rfl, by decide +kernel, rfl, by decide +kernel, by decide +kernel⟩
def spOrbits : Sp := fun vs H Q _ => ∃ k rows ws n, CallAt H vs k rows ws n ∧ ws.length ≤ 100 ∧ (∃ L, Lists (stepsOf rows k ws n) (k ^ n) L) ∧ ∀ H' v' Os, Same H H' → PartsAt H' v' Os → Parts (stepsOf rows k ws n) (k ^ n) Os → Q v' H'
theorem ok_orbits (T : Tab K mg) : FnOk P w K mg base CX0 7 T.fOrbits T.dOrbits ["machine", "words", "level"] spOrbits := by
  have G1 : FnOk P w K mg base CX0 6 T.fChCall T.dChCall ["machine", "words", "level"] spChCall := ok_chCall T
  have G2 : FnOk P w K mg base CX0 4 T.fSpread T.dSpread ["machine", "word", "level"] spSpread := ok_spread T
  have G3 : FnOk P w K mg base CX0 2 T.fOrbOf T.dOrbOf ["size", "steps"] spOrbOf := ok_orbOf T
  have G4 : FnOk P w K mg base CX0 5 T.fPerms T.dPerms ["machine", "words", "level"] spPerms := ok_perms T
  refine T.orbits.fn.ok scOrbits (fun vs H Q E h => ?_) (fun cdv A outer s H vs Q E hr h => ?_)
  · obtain ⟨k, rows, ws, n, ⟨⟨v, l, rfl, _⟩, _, _, _⟩, _⟩ := h
    rfl
  · obtain ⟨kk, rows, ws, n, hcall, hwl, ⟨L, hL⟩, k⟩ := h
    obtain ⟨⟨v, l, rfl, hm, hl⟩, ok, hws, lev⟩ := id hcall
    have nd := scOrbits.nd
    refine ⟨_, pss_cons (ps_expr (pe_call G1 hr rfl T.chCall.mg T.chCall.fn.kp T.chCall.bd .nil pass0 (pa_cons (pv 0) (pa_cons (pv 1) (pa_cons (pv 2) pa_nil)))))
      (pss_cons (ps_set (i := 3) nd rfl (Or.inl rfl) (pe_callB call_len_seq (by rfl) T.bLen PySem.boot_len (pa_cons
          (pe_ix ix_tup (pe_call G2 (hr.mono (by decide)) rfl T.spread.mg T.spread.fn.kp T.spread.bd .nil pass0 (pa_cons (pv 0) (pa_cons pe_str (pa_cons (pv 2) pa_nil)))) pe_int (fun _ _ => rfl)) pa_nil)))
      (pss_one (ps_ret (pe_call G3 (hr.mono (by decide)) rfl T.orbOf.mg T.orbOf.fn.kp T.orbOf.bd .nil pass0 (pa_cons (pv 3) (pa_cons
          (pe_call G4 (hr.mono (by decide)) rfl T.perms.mg T.perms.fn.kp T.perms.bd .nil pass0 (pa_cons (pv 0) (pa_cons (pv 1) (pa_cons (pv 2) pa_nil)))) pa_nil)))))), ?_⟩
    refine ⟨_, rfl, _, rfl, _, rfl, kk, rows, ws, n, hcall, fun H1 s1 => ?_⟩
    refine ⟨_, rfl, _, rfl, v, kk, rows, [], n, by rw [wS_nil]; rfl, hm.same s1, ok, fun l hl => absurd hl (by simp), by decide, lev, fun H2 t a sec s2 ht ha => ⟨t, _, _, _, rfl, rfl, SqT.of ht, at0, a, _, rfl, .inr (SqT.of ha), ?_⟩⟩
    have hlen : ((spr rows kk [] n).1.map nV).length = kk ^ n := by rw [List.length_map, spr_nil ok, List.length_range]
    rw [hlen]
    have s12 := s1.trans s2
    have h9 := lev.p9
    refine ⟨_, rfl, _, rfl, _, rfl, _, rfl, kk, rows, ws, n, hcall.same s12, hwl, fun H3 v3 s3 hp3 => ?_⟩
    exact ⟨kk ^ n, v3, _, rfl, hp3, steps_isP ok hws.words, by omega, fun x y hx h => hL.reach_symm hx h, fun H4 v4 Os s4 hp hpt => k H4 v4 Os ((s12.trans s3).trans s4) hp hpt⟩
end
end LT
set_option linter.all false
set_option Elab.async false
set_option maxRecDepth 100000
set_option maxHeartbeats 4000000
namespace LT
open PySem PySem.Spec PyProof.Rows L2 LTR
theorem SameBut.tups {d : Addr} {H H' : Hp} {l : List V} (s : SameBut d H H') (h : H d = some (.lst l)) : TupS H H' := fun b xs e => s b _ (ne_of e h (by intro z; cases z)) e
section
variable {P : Program} {w : World} {K : PySem.W.Frag} {mg : Str → Option Value} {base : Heap}
/-! _law_undone -/
abbrev nmUnd : List Str := ["_law_word_here", "_law_letter"]
theorem scUndone : FnScope nmUnd ["_law_word_here"] (defScope sUndone) := ⟨rfl, rfl, rfl, by decide +kernel, rfl, by decide +kernel, by decide +kernel⟩
def spUnd : Sp := fun vs H Q _ => ∃ w : List Ltr, vs = [.str (wS w)] ∧ WordOk 4 w ∧ w.length ≤ 100 ∧ ∀ H', Same H H' → Q (.str (wS (undW w))) H'
abbrev lawS : Str := "aAbBcCdD"
abbrev lawU : Str := "AaBbCcDd"
def place (l : Ltr) : Nat := 2 * l.1 + (if l.2 then 1 else 0)
theorem occ_law : ∀ s, s < 4 → ∀ b, Builtin.Str.occurrences lawS (wS [(s, b)]) 0 lawS.length 1 = [place (s, b)] := lt4 (by decide +kernel) (by decide +kernel) (by decide +kernel) (by decide +kernel)
theorem at_lawU : ∀ s, s < 4 → ∀ b, lawU.cps[place (s, b)]? = some (code (s, !b)) ∧ place (s, b) < 8 := lt4 (by decide +kernel) (by decide +kernel) (by decide +kernel) (by decide +kernel)
theorem lawU_len : lawU.length = 8 := by decide +kernel
theorem revS_w (w : List Ltr) : revS (wS w) = wS w.reverse := by
  refine str_ext ?_
  unfold revS
  rw [wS_list, List.toList_toArray, wS_list, List.map_reverse]
theorem ok_undone (T : Tab K mg) : FnOk P w K mg base CX0 1 T.fUndone T.dUndone ["_law_word_here"] spUnd := by
  refine T.undone.fn.ok scUndone (fun vs H Q E h => ?_) (fun cdv A outer s H vs Q E hr h => ?_)
  · obtain ⟨w, rfl, _⟩ := h
    rfl
  · obtain ⟨u, rfl, hu, hlen, k⟩ := h
    have nd := scUndone.nd
    refine ⟨_, pss_one (ps_ret (pe_join pe_str (pe_lc (own := [("_law_letter", 1)]) (g := gName 1) (tt := tYes) rfl nd (pi_str (pe_revS (pv 0))) (blkOk_by (N := nmUnd) (sc := defScope sUndone) (by decide +kernel))
            (fun _ _ _ _ _ => pg_name (i := 1) nd rfl (Or.inl rfl)) (fun _ _ _ _ _ => pts_nil)
            (fun _ _ _ _ _ => pe_item_str pe_str (kx_bm (K := K) rfl (pe_bm PySem.F.plainAttrs_str PySem.F.slot_str_index PySem.F.type_str_index mt_sindex pe_str (pa_cons (pv 1) pa_nil))) (fun _ _ => rfl))))), ?_⟩
    refine ⟨⟨_, rfl⟩, _, rfl, _, rfl, small' 1000 (by rw [wS_len]; omega), _, rfl, ?_⟩
    rw [revS_w]
    refine fun D hD => lc_it (walk_word u.reverse) (fun i H2 => Same H H2 ∧ H2 D = some (.lst (((u.reverse.take i).map inv).map fun l => V.str (wS [l]))))
      ⟨same_upd hD, upd_same⟩ (fun _ _ _ _ => trivial) ?_ ?_
    · rintro i y H2 H3 hi ⟨s2, h2⟩ ⟨rfl, l, hl, rfl⟩
      have hl4 := hu l (List.mem_reverse.mp (List.mem_of_getElem? hl))
      obtain ⟨a1, a2⟩ := at_lawU l.1 hl4 l.2
      refine ⟨rfl, yesIf ⟨rfl, _, rfl, _, _, place l, [], rfl, rfl, occ_law l.1 hl4 l.2, lawU, (place l : Int), code (inv l), rfl, rfl, by omega, ?_, ?_, ?_, _, h2, small 1000 ?_, s2.up hD, ?_⟩⟩
      · have : place l < 8 := a2
        omega
      · rw [lawU_len]
        have : place l < 8 := a2
        omega
      · rw [Int.toNat_natCast]
        exact a1
      · rw [List.length_map, List.length_map, List.length_take, List.length_reverse]
        omega
      · rw [upd_same, take_snoc hl, List.map_append, List.map_append]
        rfl
    · rintro H2 ⟨s2, h2⟩
      rw [List.take_of_length_le (Nat.le_refl _)] at h2
      refine ⟨_, D, _, rfl, rfl, .inl (SqL.of (xs := ((undW u).map fun l => wS [l]).map V.str) ?_), join_ok _ ?_, ?_⟩
      · rw [List.map_map]
        exact h2
      · unfold undW
        rw [List.length_map, List.length_reverse]
        omega
      · rw [wS_join]
        exact k H2 s2
/-! _law_strings -/
abbrev nmStr : List Str := ["_law_k", "_law_level_here", "_law_strings_here", "_law_j", "_law_longer", "_law_string", "_law_x"]
theorem scStrings : FnScope nmStr ["_law_k", "_law_level_here"] (defScope sStrings) := ⟨rfl, rfl, rfl, by decide +kernel, rfl, by decide +kernel, by decide +kernel⟩
def spStr : Sp := fun vs H Q _ => ∃ k n, vs = [nV k, nV n] ∧ k ≤ 3 ∧ 2 ≤ k ∧ Lev k n ∧ ∀ H' l vs', Same H H' → H' l = some (.lst vs') → vs'.length = k ^ n → Q (.ref l) H'
theorem str_small : ∀ x : Nat, x < 4 → (toString (x : Int) : Str).length ≤ 1 := lt4 (by decide +kernel) (by decide +kernel) (by decide +kernel) (by decide +kernel)
theorem log_small : ∀ x : Nat, x < 4 → (x : Int).natAbs.log2 < 1920 := lt4 (by decide +kernel) (by decide +kernel) (by decide +kernel) (by decide +kernel)
theorem add_len (x y : Str) : (x ++ y).length = x.length + y.length := by
  have h := congrArg List.length (TL.tl_append x y)
  rw [List.length_append] at h
  simpa [Str.length, TL.tl] using h
theorem ok_strings (T : Tab K mg) : FnOk P w K mg base CX0 1 T.fStrings T.dStrings ["_law_k", "_law_level_here"] spStr := by
  refine T.strings.fn.ok scStrings (fun vs H Q E h => ?_) (fun cdv A outer s H vs Q E hr h => ?_)
  · obtain ⟨k, n, rfl, _⟩ := h
    rfl
  · obtain ⟨kk, n, rfl, hk3, hk2, lev, k⟩ := h
    have nd := scStrings.nd
    have hn3 := lev.n3
    refine ⟨_, pss_cons (ps_set (i := 2) nd rfl (Or.inl rfl) (pe_lst (pa_cons pe_str pa_nil)))
      (pss_cons (ps_for PassesOwn.never rfl (pi_range1 rfl T.bRange (pa_cons (pv 1) pa_nil)) (pg_name (i := 3) nd rfl (Or.inl rfl))
        (pss_cons (ps_set (i := 4) nd rfl (Or.inl rfl) (pe_lst pa_nil))
        (pss_cons (ps_for PassesOwn.never rfl (pi_list (pv 2)) (pg_name (i := 5) nd rfl (Or.inl rfl))
          (pss_one (ps_for PassesOwn.never rfl (pi_range1 rfl T.bRange (pa_cons (pv 0) pa_nil)) (pg_name (i := 6) nd rfl (Or.inl rfl))
            (pss_one (ps_expr (pe_bm PySem.F.plainAttrs_list PySem.F.slot_list_append PySem.F.type_list_append mt_append (pv 4) (pa_cons
              (pe_op op_add_str (pv 5) (pe_callTy call_str_int (by rfl) T.bStr (by decide +kernel) (pa_cons (pv 6) pa_nil))) pa_nil)))))))
        (pss_one (ps_set (i := 2) nd rfl (Or.inl rfl) (pv 4))))))
      (pss_one (ps_ret (pv 2)))), ?_⟩
    refine ⟨(by show 1 ≤ sizeLine; decide), fun p0 hp0 => ?_⟩
    refine ⟨_, rfl, _, rfl, by omega, by omega, for_range (lo := 0) (n := (n : Int).toNat)
      (fun i σ H2 => ∃ (v3 v4 v5 v6 : Option V) (p : Addr) (ss : List Str), σ = [some (nV kk), some (nV n), some (.ref p), v3, v4, v5, v6] ∧ Same H H2 ∧ H2 p = some (.lst (ss.map V.str)) ∧ ss.length = kk ^ i ∧ ∀ s ∈ ss, s.length ≤ i)
      ⟨none, none, none, none, p0, [""], rfl, same_upd hp0, upd_same, rfl, fun s hs => by rw [List.mem_singleton.mp hs]; decide⟩ ?_ ?_⟩
    · rintro i σ H2 hi ⟨v3, v4, v5, v6, p, ss, rfl, s2, h2, hl, hs⟩
      rw [Int.toNat_natCast] at hi
      have h9 : kk ^ i ≤ 9 := Nat.le_trans (Nat.pow_le_pow_right (by omega) (by omega)) lev.p9
      refine ⟨by decide, fun q hq => ?_⟩
      have npq : p ≠ q := ne_of_none h2 hq
      refine ⟨_, rfl, p, rfl, ⟨_, SqL.of (same_upd hq _ _ h2)⟩, for_list (K := K) (a := p) (xs := ss.map V.str)
        (fun j σ H3 => ∃ (v5 v6 : Option V) (ts : List Str), σ = [some (nV kk), some (nV n), some (.ref p), some (.int (0 + (i : Nat))), some (.ref q), v5, v6] ∧ Same H2 H3 ∧ H3 q = some (.lst (ts.map V.str)) ∧ ts.length = j * kk ∧ ∀ s ∈ ts, s.length ≤ i + 1)
        ⟨v5, v6, [], rfl, same_upd hq, upd_same, by simp, by simp⟩ (fun j σ H3 _ ⟨_, _, _, _, s3, _⟩ => SqL.of (s3 _ _ h2)) ?_ ?_⟩
      · rintro j y σ H3 hy ⟨v5, v6, ts, rfl, s3, h3, htl, hts⟩
        have hjl : j < ss.length := by
          have := (List.getElem?_eq_some_iff.mp hy).1
          rw [List.length_map] at this
          exact this
        rw [List.getElem?_map] at hy
        obtain ⟨z, hz, rfl⟩ := Option.map_eq_some_iff.mp hy
        have hzl := hs z (List.mem_of_getElem? hz)
        refine ⟨_, rfl, _, rfl, by omega, by omega, for_range (lo := 0) (n := (kk : Int).toNat)
          (fun x σ H4 => ∃ (v6 : Option V) (ts : List Str), σ = [some (nV kk), some (nV n), some (.ref p), some (.int (0 + (i : Nat))), some (.ref q), some (.str z), v6] ∧ Same H2 H4 ∧ H4 q = some (.lst (ts.map V.str)) ∧ ts.length = j * kk + x ∧ ∀ s ∈ ts, s.length ≤ i + 1)
          ⟨v6, ts, rfl, s3, h3, htl, hts⟩ ?_ ?_⟩
        · rintro x σ H4 hx ⟨v6, ts, rfl, s4, h4, htl, hts⟩
          rw [Int.toNat_natCast] at hx
          have e0 : V.int (0 + (x : Int)) = nV x := by rw [Int.zero_add]; rfl
          rw [e0]
          have hx4 : x < 4 := by omega
          have hsm := str_small x hx4
          have hjk : j * kk ≤ 27 := Nat.le_trans (Nat.mul_le_mul (show j ≤ 9 by omega) hk3) (by decide)
          refine ⟨_, rfl, .inl ⟨rfl, _, SqL.of h4⟩, _, rfl, _, rfl, _, rfl, log_small x hx4, _, _, rfl, rfl, small' 1000 (by omega), q, _, _, rfl, rfl, h4, small 1000 (by rw [List.length_map]; omega), ?_⟩
          refine ⟨_, ts ++ [z ++ (toString (x : Int) : Str)], rfl, s4.up hq, ?_, ?_, fun s hs' => ?_⟩
          · rw [upd_same, List.map_append]
            rfl
          · rw [List.length_append, htl]
            rfl
          · rcases List.mem_append.mp hs' with e | e
            · exact hts s e
            · rw [List.mem_singleton.mp e, add_len]
              omega
        · rintro σ H4 ⟨v6, ts, rfl, s4, h4, htl, hts⟩
          rw [Int.toNat_natCast] at htl
          exact ⟨_, _, ts, rfl, s4, h4, by rw [htl, Nat.add_mul, Nat.one_mul], hts⟩
      · rintro σ H3 ⟨v5, v6, ts, rfl, s3, h3, htl, hts⟩
        refine ⟨_, rfl, _, _, _, _, q, ts, rfl, s2.trans s3, h3, ?_, hts⟩
        rw [htl, List.length_map, hl, Nat.pow_succ]
    · rintro σ H2 ⟨v3, v4, v5, v6, p, ss, rfl, s2, h2, hl, hs⟩
      rw [Int.toNat_natCast] at hl
      exact ⟨_, rfl, k H2 p _ s2 h2 (by rw [List.length_map, hl])⟩
/-! _law_word -/
abbrev nmLw : List Str := ["_law_draws_here", "_law_machine_here", "_law_most", "_law_word_here", "_law_letters", "_law_j"]
theorem scLword : FnScope nmLw ["_law_draws_here", "_law_machine_here", "_law_most"] (defScope sLword) := ⟨rfl, rfl, rfl, by decide +kernel, rfl, by decide +kernel, by decide +kernel⟩
def spLword : Sp := fun vs H Q _ => ∃ d v k rows, vs = [.ref d, v, nV 4] ∧ DrawsAt H d ∧ MachAt H v k rows ∧ Mach k rows ∧ ∀ H' u, SameBut d H H' → DrawsAt H' d → WordOk rows.length u → u.length ≤ 4 → Q (.str (wS u)) H'
def lawL (n : Nat) : Str := cutS lawS none (some (2 * (n : Int)))
theorem law_len : lawS.length ≤ sizeLine := by decide +kernel
theorem lawL_ok : ∀ n, n ≤ 4 → (lawL n).length = 2 * n ∧ ∀ i, i < 2 * n → (lawL n).cps[i]? = some (code (i / 2, decide (i % 2 = 1))) := by
  intro n hn
  match n, hn with
  | 0, _ => exact ⟨by decide +kernel, fun i hi => absurd hi (by omega)⟩
  | 1, _ => exact ⟨by decide +kernel, by decide +kernel⟩
  | 2, _ => exact ⟨by decide +kernel, by decide +kernel⟩
  | 3, _ => exact ⟨by decide +kernel, by decide +kernel⟩
  | 4, _ => exact ⟨by decide +kernel, by decide +kernel⟩
theorem DrawsAt.lst {H : Hp} {d : Addr} (h : DrawsAt H d) : ∃ l, H d = some (.lst l) := let ⟨ns, e, _⟩ := h; ⟨_, e⟩
theorem ok_lword (T : Tab K mg) : FnOk P w K mg base CX0 2 T.fLword T.dLword ["_law_draws_here", "_law_machine_here", "_law_most"] spLword := by
  have G : FnOk P w K mg base CX0 1 T.fNext T.dNext ["_law_draws_here"] spNext := ok_next T
  refine T.lword.fn.ok scLword (fun vs H Q E h => ?_) (fun cdv A outer s H vs Q E hr h => ?_)
  · obtain ⟨d, v, k, rows, rfl, _⟩ := h
    rfl
  · obtain ⟨d, v, kk, rows, rfl, hd, hm, ok, k⟩ := h
    have nd := scLword.nd
    obtain ⟨m, r, rs, rfl, hmm, hrr, hrows⟩ := id hm
    have hr4 := ok.r4
    have hr1 := ok.r1
    obtain ⟨ll, lk⟩ := lawL_ok rows.length hr4
    refine ⟨_, pss_cons (ps_set (i := 3) nd rfl (Or.inl rfl) pe_str)
      (pss_cons (ps_set (i := 4) nd rfl (Or.inl rfl) (pe_slice sl_str pe_str po_none (po_some (pe_op op_mul pe_int (pe_callB call_len_seq (by rfl) T.bLen PySem.boot_len (pa_cons (pe_ix ix_tup (pv 1) pe_int (fun _ _ => rfl)) pa_nil))))))
      (pss_cons (ps_for PassesOwn.never rfl (pi_range1 rfl T.bRange (pa_cons (pe_op op_mod (pe_callTy call_int1 (by rfl) T.bInt (by decide +kernel) (pa_cons (pe_call G hr rfl T.next.mg T.next.fn.kp T.next.bd .nil pass0 (pa_cons (pv 0) pa_nil)) pa_nil)) (pe_op op_add (pv 2) pe_int)) pa_nil)) (pg_name (i := 5) nd rfl (Or.inl rfl))
        (pss_one (ps_set (i := 3) nd rfl (Or.inl rfl) (pe_op op_add_str (pv 3) (pe_item_str (pv 4) (pe_op op_mod
          (pe_callTy call_int1 (by rfl) T.bInt (by decide +kernel) (pa_cons (pe_call G hr rfl T.next.mg T.next.fn.kp T.next.bd .nil pass0 (pa_cons (pv 0) pa_nil)) pa_nil))
          (pe_callB call_len_str (by rfl) T.bLen PySem.boot_len (pa_cons (pv 4) pa_nil))) (fun _ _ => rfl))))))
      (pss_one (ps_ret (pv 3))))), ?_⟩
    refine ⟨_, rfl, m, _, _, _, rfl, rfl, SqT.of hmm, at1, r, _, rfl, .inr (SqT.of hrr), _, _, rfl, rfl, .inl ⟨by decide, by decide⟩, _, rfl, _, rfl, law_len, ?_⟩
    rw [hrows.len]
    refine ⟨_, rfl, d, rfl, hd, fun n1 H1 hn1 hd1 s1 => .inl ⟨_, rfl, _, rfl, _, _, rfl, rfl, _, _, rfl, rfl, (by show (0 : Int) < 4 + 1; decide), ?_⟩⟩
    have hlo : (0 : Int) ≤ (n1 : Int) % (4 + 1) := by omega
    have hhi : (n1 : Int) % (4 + 1) < 5 := by omega
    refine ⟨_, rfl, by omega, by omega, for_range (lo := 0) (n := ((n1 : Int) % (4 + 1)).toNat)
      (fun i σ H2 => ∃ (v5 : Option V) (u : List Ltr), σ = [some (.ref d), some (.ref m), some (nV 4), some (.str (wS u)), some (.str (lawL rows.length)), v5] ∧ SameBut d H H2 ∧ DrawsAt H2 d ∧ WordOk rows.length u ∧ u.length = i)
      ⟨none, [], by rw [wS_nil]; rfl, s1, hd1, fun l hl => absurd hl (by simp), rfl⟩ ?_ ?_⟩
    · rintro i σ H2 hi ⟨v5, u, rfl, s2, hd2, hu, hul⟩
      have hi5 : i < 5 := by omega
      refine ⟨_, rfl, _, rfl, _, rfl, d, rfl, hd2, fun n2 H3 hn2 hd3 s3 => .inl ⟨_, rfl, _, rfl, _, rfl, small' 1000 (by rw [ll]; omega), _, _, rfl, rfl, ?_, ?_⟩⟩
      · show (0 : Int) < (((lawL rows.length).length : Nat) : Int)
        rw [ll]
        omega
      · have e1 : ((n2 : Int) % (((lawL rows.length).length : Nat) : Int)) = ((n2 % (2 * rows.length) : Nat) : Int) := by rw [ll]; omega
        have hlt : n2 % (2 * rows.length) < 2 * rows.length := Nat.mod_lt _ (by omega)
        refine ⟨lawL rows.length, ((n2 % (2 * rows.length) : Nat) : Int), code ((n2 % (2 * rows.length)) / 2, decide ((n2 % (2 * rows.length)) % 2 = 1)), rfl, by rw [← e1], by omega, by omega, by rw [ll]; omega, ?_, _, _, rfl, rfl, ?_, ?_⟩
        · rw [Int.toNat_natCast]
          exact lk _ hlt
        · rw [wS_len]
          exact small' 1000 (by show u.length + 1 ≤ 1000; omega)
        · refine ⟨some (V.int (0 + (i : Int))), u ++ [((n2 % (2 * rows.length)) / 2, decide ((n2 % (2 * rows.length)) % 2 = 1))], ?_, s2.trans s3, hd3, ?_, ?_⟩
          · rw [← wS_append]
            rfl
          · intro l hl
            rcases List.mem_append.mp hl with e | e
            · exact hu l e
            · rw [List.mem_singleton.mp e]
              show (n2 % (2 * rows.length)) / 2 < rows.length
              omega
          · rw [List.length_append, hul]
            rfl
    · rintro σ H2 ⟨v5, u, rfl, s2, hd2, hu, hul⟩
      exact ⟨_, rfl, k H2 u s2 hd2 hu (by omega)⟩
end
end LT
set_option linter.all false
set_option Elab.async false
set_option maxRecDepth 100000
set_option maxHeartbeats 4000000
/-! _law_machine (printed by mkw12.py) -/
namespace LT
open PySem PySem.Spec PyProof.Rows L2 LTR
theorem map_erase {α β : Type} (f : α → β) (l : List α) (z : Nat) : (l.map f).eraseIdx z = (l.eraseIdx z).map f := by
  rw [List.eraseIdx_eq_take_drop_succ, List.eraseIdx_eq_take_drop_succ, List.map_append, List.map_take, List.map_drop]
theorem perm_erase {α : Type} {os l : List α} {z : Nat} {y : α} (h : l[z]? = some y) : ((os ++ [y]) ++ l.eraseIdx z).Perm (os ++ l) := by
  obtain ⟨hz, e⟩ := List.getElem?_eq_some_iff.mp h
  have e2 : l = l.take z ++ y :: l.drop (z + 1) := by
    conv => lhs; rw [← List.take_append_drop z l, List.drop_eq_getElem_cons hz, e]
  rw [List.eraseIdx_eq_take_drop_succ, List.append_assoc]
  conv => rhs; rw [e2]
  exact List.Perm.append_left os (List.perm_middle (l₁ := l.take z) (l₂ := l.drop (z + 1)) (a := y)).symm
theorem seqIx {n z : Nat} (h : z < n) : seqIndex? (z : Int) n = some z := (ixN_seq (ixN_nat h)).1
section
variable {P : Program} {w : World} {K : PySem.W.Frag} {mg : Str → Option Value} {base : Heap}
abbrev nmLm : List Str := ["_law_draws_here", "_law_most", "_law_k", "_law_count", "_law_kind", "_law_rows", "_law_s", "_law_left", "_law_outs", "_law_x", "_law_own", "_law_row", "_law_following"]
theorem scLmach : FnScope nmLm ["_law_draws_here", "_law_most"] (defScope sLmach) := ⟨rfl, rfl, rfl, by decide +kernel, rfl, by decide +kernel, by decide +kernel⟩
def spLmach : Sp := fun vs H Q _ => ∃ d, vs = [.ref d, nV 3] ∧ DrawsAt H d ∧ ∀ H' v k rows, SameBut d H H' → DrawsAt H' d → MachAt H' v k rows → Mach k rows → Q v H'
theorem ok_lmach (T : Tab K mg) : FnOk P w K mg base CX0 2 T.fLmach T.dLmach ["_law_draws_here", "_law_most"] spLmach := by
  have G : FnOk P w K mg base CX0 1 T.fNext T.dNext ["_law_draws_here"] spNext := ok_next T
  refine T.lmach.fn.ok scLmach (fun vs H Q E h => ?_) (fun cdv A outer s H vs Q E hr h => ?_)
  · obtain ⟨d, rfl, _⟩ := h
    rfl
  · obtain ⟨d, rfl, hd, k⟩ := h
    have nd := scLmach.nd
    refine ⟨_, (pss_cons (ps_set (i := 2) nd rfl (Or.inl rfl) (pe_op op_add pe_int (pe_op op_fdiv (pe_op op_mod (pe_callTy call_int1 (by rfl) T.bInt (by decide +kernel) (pa_cons (pe_call G hr rfl T.next.mg T.next.fn.kp T.next.bd .nil pass0 (pa_cons (pv 0) pa_nil)) pa_nil)) pe_int) pe_int)))
      (pss_cons (ps_set (i := 3) nd rfl (Or.inr rfl) (pe_op op_add pe_int (pe_op op_mod (pe_callTy call_int1 (by rfl) T.bInt (by decide +kernel) (pa_cons (pe_call G hr rfl T.next.mg T.next.fn.kp T.next.bd .nil pass0 (pa_cons (pv 0) pa_nil)) pa_nil)) (pv 1))))
      (pss_cons (ps_set (i := 4) nd rfl (Or.inl rfl) (pe_op op_mod (pe_callTy call_int1 (by rfl) T.bInt (by decide +kernel) (pa_cons (pe_call G hr rfl T.next.mg T.next.fn.kp T.next.bd .nil pass0 (pa_cons (pv 0) pa_nil)) pa_nil)) pe_int))
      (pss_cons (ps_set (i := 5) nd rfl (Or.inl rfl) (pe_lst pa_nil))
      (pss_cons (ps_for PassesOwn.never rfl (pi_range1 rfl T.bRange (pa_cons (pv 3) pa_nil)) (pg_name (i := 6) nd rfl (Or.inl rfl)) (pss_cons (ps_set (i := 7) nd rfl (Or.inl rfl) (pe_listRg rfl (by rfl) T.bList (prg_1 (by rfl) T.bRange (pv 2))))
      (pss_cons (ps_set (i := 8) nd rfl (Or.inl rfl) (pe_lst pa_nil))
      (pss_cons (ps_for PassesOwn.never rfl (pi_range1 rfl T.bRange (pa_cons (pv 2) pa_nil)) (pg_name (i := 9) nd rfl (Or.inl rfl)) (pss_one (ps_expr (pe_bm PySem.F.plainAttrs_list PySem.F.slot_list_append PySem.F.type_list_append mt_append (pv 8) (pa_cons (pe_bm PySem.F.plainAttrs_list PySem.F.slot_list_pop PySem.F.type_list_pop mt_popAt (pv 7) (pa_cons (pe_op op_mod (pe_callTy call_int1 (by rfl) T.bInt (by decide +kernel) (pa_cons (pe_call G hr rfl T.next.mg T.next.fn.kp T.next.bd .nil pass0 (pa_cons (pv 0) pa_nil)) pa_nil)) (pe_callB call_len_seq (by rfl) T.bLen PySem.boot_len (pa_cons (pv 7) pa_nil))) pa_nil)) pa_nil)))))
      (pss_cons (ps_set (i := 10) nd rfl (Or.inl rfl) (pe_op op_mod (pe_callTy call_int1 (by rfl) T.bInt (by decide +kernel) (pa_cons (pe_call G hr rfl T.next.mg T.next.fn.kp T.next.bd .nil pass0 (pa_cons (pv 0) pa_nil)) pa_nil)) (pv 2)))
      (pss_cons (ps_set (i := 11) nd rfl (Or.inl rfl) (pe_lst pa_nil))
      (pss_cons (ps_for PassesOwn.never rfl (pi_range1 rfl T.bRange (pa_cons (pv 2) pa_nil)) (pg_name (i := 9) nd rfl (Or.inl rfl)) (pss_cons (ps_set (i := 12) nd rfl (Or.inl rfl) (pe_op op_mod (pe_callTy call_int1 (by rfl) T.bInt (by decide +kernel) (pa_cons (pe_call G hr rfl T.next.mg T.next.fn.kp T.next.bd .nil pass0 (pa_cons (pv 0) pa_nil)) pa_nil)) (pv 3)))
      (pss_cons (ps_if (pt_cmpR op_gt (pv 4) pe_int (nomark _)) (pss_cons (ps_set (i := 12) nd rfl (Or.inl rfl) (pv 3))
      (pss_one (ps_if (pt_cmpR op_eq (pv 9) (pv 10) (nomark _)) (pss_one (ps_set (i := 12) nd rfl (Or.inl rfl) (pe_op op_mod (pe_callTy call_int1 (by rfl) T.bInt (by decide +kernel) (pa_cons (pe_op op_sub (pe_op op_add (pv 6) (pv 4)) pe_int) pa_nil)) (pv 3)))) pss_nil))) pss_nil)
      (pss_one (ps_expr (pe_bm PySem.F.plainAttrs_list PySem.F.slot_list_append PySem.F.type_list_append mt_append (pv 11) (pa_cons (pe_tup (pa_cons (pe_ix ix_list (pv 8) (pv 9) (fun _ _ => rfl)) (pa_cons (pv 12) pa_nil))) pa_nil)))))))
      (pss_one (ps_expr (pe_bm PySem.F.plainAttrs_list PySem.F.slot_list_append PySem.F.type_list_append mt_append (pv 5) (pa_cons (pe_callTy call_tuple_of (by rfl) T.bTuple (by decide +kernel) (pa_cons (pv 11) pa_nil)) pa_nil)))))))))))
      (pss_cons (ps_if (pt_cmpR op_gt (pv 4) pe_int (nomark _)) (pss_one (ps_expr (pe_bm PySem.F.plainAttrs_list PySem.F.slot_list_append PySem.F.type_list_append mt_append (pv 5) (pa_cons (pe_callTy call_tuple_of (by rfl) T.bTuple (by decide +kernel) (pa_cons (pe_lc (own := [("_law_x", 9)]) (g := gName 9) (tt := tYes) rfl nd (pi_range1 rfl T.bRange (pa_cons (pv 2) pa_nil)) (blkOk_by (N := nmLm) (sc := defScope sLmach) (by decide +kernel))
            (fun _ _ _ _ _ => pg_name (i := 9) nd rfl (Or.inl rfl)) (fun _ _ _ _ _ => pts_nil)
            (fun _ _ _ _ _ => pe_tup (pa_cons (pv 9) (pa_cons (pv 3) pa_nil)))) pa_nil)) pa_nil)))) pss_nil)
      (pss_one (ps_ret (pe_tup (pa_cons (pv 2) (pa_cons (pe_callTy call_tuple_of (by rfl) T.bTuple (by decide +kernel) (pa_cons (pv 5) pa_nil)) pa_nil))))))))))), ?_⟩
    refine ⟨_, rfl, d, rfl, hd, fun n1 H1 hn1 hd1 s1 => .inl ⟨_, rfl, _, _, rfl, rfl, (by show (0 : Int) < 3; decide), _, _, rfl, rfl, ⟨by decide, by decide⟩, _, _, rfl, rfl, ?_⟩⟩
    refine ⟨_, rfl, d, rfl, hd1, fun n2 H2 hn2 hd2 s2 => .inl ⟨_, rfl, _, rfl, _, _, rfl, rfl, (by show (0 : Int) < ((3 : Nat) : Int); decide), _, _, rfl, rfl, ?_⟩⟩
    refine ⟨_, rfl, d, rfl, hd2, fun n3 H3 hn3 hd3 s3 => .inl ⟨_, rfl, _, _, rfl, rfl, (by show (0 : Int) < 3; decide), ?_⟩⟩
    refine ⟨by decide, fun rl hrl => ?_⟩
    obtain ⟨kk, hkk⟩ : ∃ kk : Nat, kk = 2 + n1 % 3 / 2 := ⟨_, rfl⟩
    obtain ⟨cc, hcc⟩ : ∃ cc : Nat, cc = 1 + n2 % 3 := ⟨_, rfl⟩
    obtain ⟨kd, hkd⟩ : ∃ kd : Nat, kd = n3 % 3 := ⟨_, rfl⟩
    obtain ⟨tot, htot⟩ : ∃ tot : Nat, tot = cc + (if 0 < kd then 1 else 0) := ⟨_, rfl⟩
    have htc : cc ≤ tot ∧ (0 < kd → cc < tot) := by
      by_cases z : 0 < kd
      · rw [if_pos z] at htot; omega
      · rw [if_neg z] at htot; omega
    have s03 := (s1.trans s2).trans s3
    obtain ⟨dl, hdl⟩ := hd.lst
    have nrd : rl ≠ d := by
      obtain ⟨l3, h3⟩ := hd3.lst
      exact (ne_of_none h3 hrl).symm
    have hrlH : H rl = none := s03.free nrd hrl
    have nlst : ∀ {H' : Hp} {a : Addr}, DrawsAt H' d → H' a = none → a ≠ d := fun h1 h2 => by
      obtain ⟨l3, h3⟩ := h1.lst
      exact (ne_of_none h3 h2).symm
    have sB : SameBut d H (upd H3 rl (.lst [])) := s03.up hrl
    have dB : ∀ {H' : Hp} {a : Addr} {o : HO}, DrawsAt H' d → a ≠ d → DrawsAt (upd H' a o) d := fun ⟨ns, e1, e2⟩ n => ⟨ns, by rw [upd_ne n.symm]; exact e1, e2⟩
    refine ⟨_, rfl, _, rfl, by omega, by omega, for_range (lo := 0)
      (fun i σ H4 => ∃ (v6 v7 v8 v9 v10 v11 v12 : Option V) (vs : List V) (rows : Rows), σ = [some (.ref d), some (nV 3), some (nV kk), some (nV cc), some (nV kd), some (.ref rl), v6, v7, v8, v9, v10, v11, v12] ∧ SameBut d H H4 ∧ DrawsAt H4 d ∧
        H4 rl = some (.lst vs) ∧ AllAt (RowAt H4) vs rows ∧ rows.length = i ∧ ∀ row ∈ rows, RowOk kk tot row)
      ⟨none, none, none, none, none, none, none, [], [], by subst hkk hcc hkd; rfl, sB, dB hd3 nrd, upd_same, .nil, rfl, by simp⟩ ?_ ?_⟩
    · rintro i σ H4 hi ⟨v6, v7, v8, v9, v10, v11, v12, vs, rows, rfl, s4, hd4, h4rl, hall, hrl2, hrows⟩
      have hic : i < cc := by omega
      -- left, outs
      refine ⟨_, rfl, _, rfl, rgOk (k := kk) (by omega), fun lf hlf => ?_⟩
      rw [rgV_0]
      refine ⟨by decide, fun ou hou => ?_⟩
      have nlf : lf ≠ d := nlst hd4 hlf
      have hou4 : H4 ou = none := (same_upd hlf).free hou
      have nou : ou ≠ d := nlst hd4 hou4
      have nlo : lf ≠ ou := by
        rintro rfl
        rw [upd_same] at hou
        cases hou
      have s5 : Same H4 (upd (upd H4 lf (.lst ((List.range kk).map nV))) ou (.lst [])) := (same_upd hlf).trans (same_upd hou)
      have h5lf : upd (upd H4 lf (.lst ((List.range kk).map nV))) ou (.lst []) lf = some (.lst ((List.range kk).map nV)) := by rw [upd_ne nlo, upd_same]
      have h5ou : upd (upd H4 lf (.lst ((List.range kk).map nV))) ou (.lst []) ou = some (.lst []) := upd_same
      have hd5 : DrawsAt (upd (upd H4 lf (.lst ((List.range kk).map nV))) ou (.lst [])) d := dB (dB hd4 nlf) nou
      generalize upd (upd H4 lf (.lst ((List.range kk).map nV))) ou (.lst []) = H5 at s5 h5lf h5ou hd5
      refine ⟨_, rfl, _, rfl, by omega, by omega, for_range (lo := 0) (n := (kk : Int).toNat)
        (fun x σ H6 => ∃ (v9 : Option V) (os ls : List Nat), σ = [some (.ref d), some (nV 3), some (nV kk), some (nV cc), some (nV kd), some (.ref rl), some (.int (0 + (i : Nat))), some (.ref lf), some (.ref ou), v9, v10, v11, v12] ∧ SameBut d H4 H6 ∧ DrawsAt H6 d ∧
          H6 lf = some (.lst (ls.map nV)) ∧ H6 ou = some (.lst (os.map nV)) ∧ (os ++ ls).Perm (List.range kk) ∧ os.length = x)
        ⟨v9, [], List.range kk, rfl, .of s5, hd5, h5lf, h5ou, List.Perm.refl _, rfl⟩ ?_ ?_⟩
      · rintro x σ H6 hx ⟨v9, os, ls, rfl, s6, hd6, h6lf, h6ou, hperm, hol⟩
        rw [Int.toNat_natCast] at hx
        have hll : os.length + ls.length = kk := by
          have := hperm.length_eq
          rw [List.length_append, List.length_range] at this
          exact this
        refine ⟨_, rfl, .inl ⟨rfl, _, SqL.of h6ou⟩, _, rfl, .inl ⟨rfl, _, SqL.of h6lf⟩, _, rfl, d, rfl, hd6, fun n4 H7 hn4 hd7 s7 => .inl ⟨_, rfl, ?_⟩⟩
        have h7lf := s7 _ _ nlf h6lf
        have h7ou := s7 _ _ nou h6ou
        have hlp : 0 < ls.length := by omega
        have hz : n4 % ls.length < ls.length := Nat.mod_lt _ hlp
        obtain ⟨y, hy⟩ : ∃ y, ls[n4 % ls.length]? = some y := ⟨_, List.getElem?_eq_getElem hz⟩
        refine ⟨_, rfl, lf, _, rfl, .inl (SqL.of h7lf), _, _, rfl, rfl, (by show (0 : Int) < ((ls.map nV).length : Int); rw [List.length_map]; omega), lf, ls.map nV, ((n4 % ls.length : Nat) : Int), n4 % ls.length, nV y, rfl, ?_, h7lf, by omega, ?_, ?_, ?_, ?_⟩
        · show [V.int ((n4 : Int) % ((ls.map nV).length : Int))] = _
          rw [List.length_map]
          rfl
        · have : n4 % ls.length ≤ n4 := Nat.mod_le _ _
          omega
        · rw [List.length_map]
          exact seqIx hz
        · rw [List.getElem?_map, hy]
          rfl
        · have h8ou : upd H7 lf (.lst ((ls.map nV).eraseIdx (n4 % ls.length))) ou = some (.lst (os.map nV)) := by
            rw [upd_ne nlo.symm]
            exact h7ou
          refine ⟨ou, _, _, rfl, rfl, h8ou, small 100 (by rw [List.length_map]; omega), ?_⟩
          refine ⟨_, os ++ [y], ls.eraseIdx (n4 % ls.length), rfl, ?_, ?_, ?_, ?_, ?_, ?_⟩
          · intro b o n e
            have e6 := (s6.trans s7) b o n e
            rw [upd_ne (ne_of_none e hou4), upd_ne (ne_of_none e hlf)]
            exact e6
          · exact dB (dB hd7 nlf) nou
          · rw [upd_ne nlo, upd_same, map_erase]
          · rw [upd_same, List.map_append]
            rfl
          · exact (perm_erase hy).trans hperm
          · rw [List.length_append, hol]
            rfl
      · rintro σ H6 ⟨v9, os, ls, rfl, s6, hd6, h6lf, h6ou, hperm, hol⟩
        rw [Int.toNat_natCast] at hol
        have hos : os.Perm (List.range kk) := by
          have h1 := hperm.length_eq
          rw [List.length_append, List.length_range, hol] at h1
          have h2 : ls = [] := List.eq_nil_of_length_eq_zero (by omega)
          rw [h2, List.append_nil] at hperm
          exact hperm
        -- own, row
        refine ⟨_, rfl, d, rfl, hd6, fun n5 H7 hn5 hd7 s7 => .inl ⟨_, rfl, _, rfl, _, _, rfl, rfl, (by show (0 : Int) < (kk : Int); omega), ?_⟩⟩
        refine ⟨by decide, fun ro hro => ?_⟩
        have nro : ro ≠ d := nlst hd7 hro
        have s47 : SameBut d H4 H7 := s6.trans s7
        have hro4 : H4 ro = none := s47.free nro hro
        have h7ou := s7 _ _ nou h6ou
        have nor : ou ≠ ro := ne_of_none h7ou hro
        have s8 : SameBut d H4 (upd H7 ro (.lst [])) := s47.up hro
        refine ⟨_, rfl, _, rfl, by omega, by omega, for_range (lo := 0) (n := (kk : Int).toNat)
          (fun x σ H9 => ∃ (v9 v12 : Option V) (es : List (Nat × Nat)) (us : List V), σ = [some (.ref d), some (nV 3), some (nV kk), some (nV cc), some (nV kd), some (.ref rl), some (.int (0 + (i : Nat))), some (.ref lf), some (.ref ou), v9, some (.int ((n5 : Int) % (kk : Int))), some (.ref ro), v12] ∧
            SameBut d H4 H9 ∧ DrawsAt H9 d ∧ H9 ou = some (.lst (os.map nV)) ∧ H9 ro = some (.lst us) ∧ AllAt (EntAt H9) us es ∧ es.map (·.1) = os.take x ∧ ∀ e ∈ es, e.2 < tot)
          ⟨v9, v12, [], [], rfl, s8, dB hd7 nro, by rw [upd_ne nor]; exact h7ou, upd_same, .nil, rfl, by simp⟩ ?_ ?_⟩
        · rintro x σ H9 hx ⟨v9, v12, es, us, rfl, s9, hd9, h9ou, h9ro, hes, hef, hen⟩
          rw [Int.toNat_natCast] at hx
          have hxo : x < os.length := by omega
          obtain ⟨ox, hox0⟩ : ∃ ox, os[x]? = some ox := ⟨_, List.getElem?_eq_getElem hxo⟩
          have e0 : V.int (0 + (x : Int)) = nV x := by rw [Int.zero_add]; rfl
          rw [e0]
          have hox : (os.map nV)[x]? = some (nV ox) := by
            rw [List.getElem?_map, hox0]
            rfl
          refine ⟨_, rfl, d, rfl, hd9, fun n6 H10 hn6 hd10 s10 => .inl ⟨_, rfl, _, rfl, _, _, rfl, rfl, (by show (0 : Int) < (cc : Int); omega), ?_⟩⟩
          have h10ou := s10 _ _ nou h9ou
          have h10ro := s10 _ _ nro h9ro
          obtain ⟨dl9, hdl9⟩ := hd9.lst
          have hes10 : AllAt (EntAt H10) us es := hes.imp fun _ _ z => z.tups (s10.tups hdl9)
          have turn : ∀ (F : Int) (t : Addr) (v9 v12 : Option V), H10 t = none → 0 ≤ F → F < (tot : Int) → ∃ (v9' v12' : Option V) (es : List (Nat × Nat)) (us' : List V),
              [some (V.ref d), some (nV 3), some (nV kk), some (nV cc), some (nV kd), some (.ref rl), some (.int (0 + (i : Nat))), some (.ref lf), some (.ref ou), v9, some (.int ((n5 : Int) % (kk : Int))), some (.ref ro), v12] =
                [some (V.ref d), some (nV 3), some (nV kk), some (nV cc), some (nV kd), some (.ref rl), some (.int (0 + (i : Nat))), some (.ref lf), some (.ref ou), v9', some (.int ((n5 : Int) % (kk : Int))), some (.ref ro), v12'] ∧
              SameBut d H4 (upd (upd H10 t (.tup [nV ox, V.int F])) ro (.lst (us ++ [.ref t]))) ∧ DrawsAt (upd (upd H10 t (.tup [nV ox, V.int F])) ro (.lst (us ++ [.ref t]))) d ∧
              upd (upd H10 t (.tup [nV ox, V.int F])) ro (.lst (us ++ [.ref t])) ou = some (.lst (os.map nV)) ∧ upd (upd H10 t (.tup [nV ox, V.int F])) ro (.lst (us ++ [.ref t])) ro = some (.lst us') ∧
              AllAt (EntAt (upd (upd H10 t (.tup [nV ox, V.int F])) ro (.lst (us ++ [.ref t])))) us' es ∧ es.map (·.1) = os.take (x + 1) ∧ ∀ e ∈ es, e.2 < tot := by
            intro F t v9 v12 ht h0 h1
            have nrt : ro ≠ t := ne_of_none h10ro ht
            have ntd : t ≠ d := nlst hd10 ht
            have st := same_upd (o := .tup [nV ox, V.int F]) ht
            have tl : TupS H10 (upd (upd H10 t (.tup [nV ox, V.int F])) ro (.lst (us ++ [.ref t]))) := TupS.trans (.of st) (.updL (st _ _ h10ro))
            refine ⟨v9, v12, es ++ [(ox, F.toNat)], us ++ [.ref t], rfl, ?_, dB (dB hd10 ntd) nro, ?_, upd_same, ?_, ?_, ?_⟩
            · intro b o n e
              rw [upd_ne (ne_of_none e hro4), upd_ne (ne_of_none ((s9.trans s10) b o n e) ht)]
              exact (s9.trans s10) b o n e
            · rw [upd_ne nor]
              exact st _ _ h10ou
            · refine (hes10.imp fun _ _ z => z.tups tl).snoc ⟨t, rfl, ?_⟩
              rw [upd_ne nrt.symm, upd_same]
              show some (HO.tup [nV ox, V.int F]) = some (HO.tup [nV ox, nV F.toNat])
              unfold nV
              rw [Int.toNat_of_nonneg h0]
            · rw [List.map_append, hef, take_snoc hox0]
              rfl
            · intro e he
              rcases List.mem_append.mp he with q | q
              · exact hen e q
              · rw [List.mem_singleton.mp q]
                show F.toNat < tot
                omega
          refine ⟨_, rfl, _, _, rfl, rfl, _, rfl, ?_⟩
          refine ite2 (fun hkp => ?_) (fun hkp => ?_)
          · have hkp : 0 < kd := by
              have := of_decide_eq_true hkp
              omega
            refine ⟨_, rfl, _, rfl, _, rfl, rfl, _, rfl, ?_⟩
            refine ite2 (fun _ => ?_) (fun _ => ?_)
            · refine ⟨_, rfl, _, rfl, _, _, rfl, rfl, _, _, rfl, rfl, .inl ⟨_, rfl, _, rfl, _, _, rfl, rfl, (by show (0 : Int) < (cc : Int); omega), ?_⟩⟩
              have hF : (0 : Int) ≤ ((0 + (i : Int) + (kd : Int) - 1) % (cc : Int)) ∧ ((0 + (i : Int) + (kd : Int) - 1) % (cc : Int)) < (tot : Int) := ⟨Int.emod_nonneg _ (by omega), by have := Int.emod_lt_of_pos (0 + (i : Int) + (kd : Int) - 1) (show (0 : Int) < (cc : Int) by omega); omega⟩
              refine ⟨_, rfl, .inl ⟨rfl, _, SqL.of h10ro⟩, _, rfl, _, rfl, ou, _, _, _, rfl, rfl, SqL.of h10ou, atI_nat hox, _, rfl, (by show 2 ≤ sizeLine; decide), fun t ht => ?_⟩
              have st := same_upd (o := .tup [nV ox, V.int ((0 + (i : Int) + (kd : Int) - 1) % (cc : Int))]) ht
              refine ⟨ro, _, _, rfl, rfl, st _ _ h10ro, small 100 (by have h1 := hes.len; have e := congrArg List.length hef; rw [List.length_map, List.length_take] at e; omega), ?_⟩
              exact turn ((0 + (i : Int) + (kd : Int) - 1) % (cc : Int)) t _ _ ht hF.1 hF.2
            · have hF : (0 : Int) ≤ (cc : Int) ∧ (cc : Int) < (tot : Int) := ⟨by omega, by have := htc.2 hkp; omega⟩
              refine ⟨_, rfl, .inl ⟨rfl, _, SqL.of h10ro⟩, _, rfl, _, rfl, ou, _, _, _, rfl, rfl, SqL.of h10ou, atI_nat hox, _, rfl, (by show 2 ≤ sizeLine; decide), fun t ht => ?_⟩
              have st := same_upd (o := .tup [nV ox, V.int (cc : Int)]) ht
              refine ⟨ro, _, _, rfl, rfl, st _ _ h10ro, small 100 (by have h1 := hes.len; have e := congrArg List.length hef; rw [List.length_map, List.length_take] at e; omega), ?_⟩
              exact turn (cc : Int) t _ _ ht hF.1 hF.2
          · have hF : (0 : Int) ≤ ((n6 : Int) % (cc : Int)) ∧ ((n6 : Int) % (cc : Int)) < (tot : Int) := ⟨Int.emod_nonneg _ (by omega), by have := Int.emod_lt_of_pos (n6 : Int) (show (0 : Int) < (cc : Int) by omega); omega⟩
            refine ⟨_, rfl, .inl ⟨rfl, _, SqL.of h10ro⟩, _, rfl, _, rfl, ou, _, _, _, rfl, rfl, SqL.of h10ou, atI_nat hox, _, rfl, (by show 2 ≤ sizeLine; decide), fun t ht => ?_⟩
            have st := same_upd (o := .tup [nV ox, V.int ((n6 : Int) % (cc : Int))]) ht
            refine ⟨ro, _, _, rfl, rfl, st _ _ h10ro, small 100 (by have h1 := hes.len; have e := congrArg List.length hef; rw [List.length_map, List.length_take] at e; omega), ?_⟩
            exact turn ((n6 : Int) % (cc : Int)) t _ _ ht hF.1 hF.2
        · rintro σ H9 ⟨v9, v12, es, us, rfl, s9, hd9, h9ou, h9ro, hes, hef, hen⟩
          rw [Int.toNat_natCast, List.take_of_length_le (by omega)] at hef
          have hel : es.length = kk := by
            have e := congrArg List.length hef
            rw [List.length_map] at e
            omega
          have h9rl : H9 rl = some (.lst vs) := s9 _ _ nrd h4rl
          refine ⟨_, rfl, .inl ⟨rfl, _, SqL.of h9rl⟩, _, rfl, ro, _, rfl, .inl ⟨SqL.of h9ro, fun t ht => ?_⟩⟩
          have st := same_upd (o := .tup us) ht
          have h10rl := st _ _ h9rl
          refine ⟨rl, _, _, rfl, rfl, h10rl, small 100 (by have := hall.len; omega), ?_⟩
          have ntd : t ≠ d := nlst hd9 ht
          have tl : TupS H9 (upd (upd H9 t (.tup us)) rl (.lst (vs ++ [.ref t]))) := TupS.trans (.of st) (.updL h10rl)
          obtain ⟨dl4, hdl4⟩ := hd4.lst
          have t49 : TupS H4 H9 := s9.tups hdl4
          refine ⟨_, _, _, _, _, _, _, vs ++ [.ref t], rows ++ [es], rfl, ?_, dB (dB hd9 ntd) nrd, upd_same, ?_, ?_, ?_⟩
          · intro b o n e
            have e4 := s9 b o n (s4 b o n e)
            rw [upd_ne (ne_of_none e hrlH), upd_ne (ne_of_none e4 ht)]
            exact e4
          · refine (hall.imp fun _ _ z => z.tups (t49.trans tl)).snoc ⟨t, us, rfl, ?_, hes.imp fun _ _ z => z.tups tl⟩
            rw [upd_ne (ne_of_none h9rl ht).symm, upd_same]
          · rw [List.length_append, hrl2]
            rfl
          · intro row hrow
            rcases List.mem_append.mp hrow with q | q
            · exact hrows row q
            · rw [List.mem_singleton.mp q]
              refine ⟨hel, fun e he => ?_, hen, by rw [hef]; exact hos.nodup_iff.mpr List.nodup_range⟩
              have : e.1 ∈ os := by rw [← hef]; exact List.mem_map.mpr ⟨e, he, rfl⟩
              exact List.mem_range.mp (hos.mem_iff.mp this)
    · rintro σ H4 ⟨v6, v7, v8, v9, v10, v11, v12, vs, rows, rfl, s4, hd4, h4rl, hall, hrl2, hrows⟩
      have hrc : rows.length = cc := by omega
      obtain ⟨dl4, hdl4⟩ := hd4.lst
      have ret : ∀ (H5 : Hp) (vs : List V) (rows : Rows) (r m : Addr), SameBut d H H5 → DrawsAt H5 d → AllAt (RowAt H5) vs rows → rows.length = tot → (∀ row ∈ rows, RowOk kk tot row) → H5 r = none → upd H5 r (.tup vs) m = none →
          Q (.ref m) (upd (upd H5 r (.tup vs)) m (.tup [nV kk, .ref r])) := by
        intro H5 vs rows r m s5 hd5 hall hl hrows hr hm
        have sr := same_upd (o := .tup vs) hr
        have sm := same_upd (o := .tup [nV kk, .ref r]) hm
        have hd6 : DrawsAt (upd H5 r (.tup vs)) d := dB hd5 (nlst hd5 hr)
        refine k _ _ kk rows ((s5.up hr).up hm) (dB hd6 (nlst hd6 hm)) ⟨m, r, vs, rfl, upd_same, sm _ _ upd_same, hall.imp fun _ _ z => (z.same sr).same sm⟩ ⟨by omega, by omega, by omega, ?_, fun row hrow => by rw [hl]; exact hrows row hrow⟩
        by_cases z : 0 < kd
        · rw [if_pos z] at htot; omega
        · rw [if_neg z] at htot; omega
      refine ⟨_, rfl, _, _, rfl, rfl, _, rfl, ?_⟩
      refine ite2 (fun hkp => ?_) (fun hkp => ?_)
      · have hkp : 0 < kd := by
          have := of_decide_eq_true hkp
          omega
        refine ⟨_, rfl, .inl ⟨rfl, _, SqL.of h4rl⟩, _, rfl, _, rfl, by omega, by omega, fun D hD => lc_range (lo := 0) (n := (kk : Int).toNat) (fun x H5 => Same H4 H5 ∧ ∃ us, H5 D = some (.lst us) ∧ AllAt (EntAt H5) us ((List.range x).map fun z => (z, cc)))
          ⟨same_upd hD, [], upd_same, .nil⟩ ?_ ?_⟩
        · rintro x H5 hx ⟨s5, us, h5, hus⟩
          rw [Int.toNat_natCast] at hx
          have e0 : V.int (0 + (x : Int)) = nV x := by rw [Int.zero_add]; rfl
          rw [e0]
          refine ⟨rfl, yesIf ⟨_, rfl, _, rfl, (by show 2 ≤ sizeLine; decide), fun t ht => ?_⟩⟩
          have st := same_upd (o := .tup [nV x, nV cc]) ht
          have tl : TupS H5 (upd (upd H5 t (.tup [nV x, nV cc])) D (.lst (us ++ [.ref t]))) := TupS.trans (.of st) (.updL (st _ _ h5))
          refine ⟨us, st _ _ h5, small 100 ?_, (s5.trans st).up hD, _, upd_same, ?_⟩
          · rw [hus.len, List.length_map, List.length_range]
            omega
          · rw [List.range_succ, List.map_append]
            refine (hus.imp fun _ _ z => z.tups tl).snoc ⟨t, rfl, ?_⟩
            rw [upd_ne (ne_of_none h5 ht).symm, upd_same]
        · rintro H5 ⟨s5, us, h5, hus⟩
          rw [Int.toNat_natCast] at hus
          refine ⟨D, _, rfl, .inl ⟨SqL.of h5, fun t ht => ?_⟩⟩
          have st := same_upd (o := .tup us) ht
          have s6 := s5.trans st
          have h6rl := s6 _ _ h4rl
          refine ⟨rl, _, _, rfl, rfl, h6rl, small 100 (by have := hall.len; omega), ?_⟩
          have hd6 : DrawsAt (upd H5 t (.tup us)) d := by
            obtain ⟨ns, e1, e2⟩ := hd4
            exact ⟨ns, s6 _ _ e1, e2⟩
          have tl : TupS H5 (upd (upd H5 t (.tup us)) rl (.lst (vs ++ [.ref t]))) := TupS.trans (.of st) (.updL h6rl)
          refine ⟨_, rfl, _, rfl, rl, _, rfl, .inl ⟨SqL.of upd_same, fun r hr5 => ⟨(by show 2 ≤ sizeLine; decide), fun m hm => ?_⟩⟩⟩
          refine ret _ (vs ++ [.ref t]) (rows ++ [(List.range kk).map fun z => (z, cc)]) r m ?_ (dB hd6 nrd) ?_ ?_ ?_ hr5 hm
          · intro b o n e
            rw [upd_ne (ne_of_none e hrlH)]
            exact s6 b o (s4 b o n e)
          · refine (hall.imp fun _ _ z => (z.same s5).tups tl).snoc ⟨t, us, rfl, ?_, hus.imp fun _ _ z => z.tups tl⟩
            rw [upd_ne (ne_of_none (s5 _ _ h4rl) ht).symm, upd_same]
          · rw [if_pos hkp] at htot
            rw [List.length_append, hrc, htot]
            rfl
          · intro row hrow
            rcases List.mem_append.mp hrow with q | q
            · exact hrows row q
            · rw [List.mem_singleton.mp q]
              refine ⟨by rw [List.length_map, List.length_range], fun e he => ?_, fun e he => ?_, ?_⟩
              · obtain ⟨z, hz, rfl⟩ := List.mem_map.mp he
                exact List.mem_range.mp hz
              · obtain ⟨z, hz, rfl⟩ := List.mem_map.mp he
                exact htc.2 hkp
              · rw [List.map_map]
                show ((List.range kk).map fun z => z).Nodup
                rw [List.map_id']
                exact List.nodup_range
      · have hkp : ¬ 0 < kd := fun z => hkp (decide_eq_true (by omega))
        refine ⟨_, rfl, _, rfl, rl, _, rfl, .inl ⟨SqL.of h4rl, fun r hr5 => ⟨(by show 2 ≤ sizeLine; decide), fun m hm => ?_⟩⟩⟩
        rw [if_neg hkp] at htot
        exact ret H4 vs rows r m s4 hd4 hall (by rw [hrc, htot]; rfl) hrows hr5 hm
end
end LT
set_option linter.all false
set_option Elab.async false
set_option maxRecDepth 100000
set_option maxHeartbeats 16000000
/-! law (printed by mkw13.py) -/
namespace LT
open PySem PySem.Spec PyProof.Rows L2 LTR
theorem units65 {k : Nat} {A : Around} (r : Room k A) : A.units + 65 < cLine := by have := r.un; omega
theorem DrawsAt.up {H : Hp} {d a : Addr} {o : HO} (h : DrawsAt H d) (n : a ≠ d) : DrawsAt (upd H a o) d := by
  obtain ⟨ns, e1, e2⟩ := h
  exact ⟨ns, by rw [upd_ne n.symm]; exact e1, e2⟩
theorem DrawsAt.same {H H' : Hp} {d : Addr} (h : DrawsAt H d) (s : Same H H') : DrawsAt H' d := by
  obtain ⟨ns, e1, e2⟩ := h
  exact ⟨ns, s _ _ e1, e2⟩
theorem DrawsAt.ne {H : Hp} {d a : Addr} (h : DrawsAt H d) (f : H a = none) : a ≠ d := by
  obtain ⟨l, e⟩ := h.lst
  exact (ne_of_none e f).symm
theorem level_of (n : Nat) {k : Nat} (h2 : 2 ≤ k) (h3 : k ≤ 3) : ∃ q : Nat, V.int (1 + (n : Int) % (4 - (k : Int) + 1)) = nV (q + 1) ∧ Lev k (q + 1) ∧ Lev k q ∧ (k = 2 ∧ q ≤ 2 ∨ k = 3 ∧ q ≤ 1) := by
  rcases (show k = 2 ∨ k = 3 by omega) with e | e
  · subst e
    obtain ⟨q, hq, e⟩ : ∃ q : Nat, q ≤ 2 ∧ n % 3 = q := ⟨n % 3, by omega, rfl⟩
    refine ⟨q, ?_, ?_, ?_, .inl ⟨rfl, hq⟩⟩
    · show V.int _ = V.int _
      rw [show 1 + (n : Int) % (4 - ((2 : Nat) : Int) + 1) = ((q + 1 : Nat) : Int) by omega]
    · exact ⟨by omega, Nat.le_trans (Nat.pow_le_pow_right (by decide) (show q + 1 ≤ 3 by omega)) (by decide)⟩
    · exact ⟨by omega, Nat.le_trans (Nat.pow_le_pow_right (by decide) (show q ≤ 3 by omega)) (by decide)⟩
  · subst e
    obtain ⟨q, hq, e⟩ : ∃ q : Nat, q ≤ 1 ∧ n % 2 = q := ⟨n % 2, by omega, rfl⟩
    refine ⟨q, ?_, ?_, ?_, .inr ⟨rfl, hq⟩⟩
    · show V.int _ = V.int _
      rw [show 1 + (n : Int) % (4 - ((3 : Nat) : Int) + 1) = ((q + 1 : Nat) : Int) by omega]
    · exact ⟨by omega, Nat.le_trans (Nat.pow_le_pow_right (by decide) (show q + 1 ≤ 2 by omega)) (by decide)⟩
    · exact ⟨by omega, Nat.le_trans (Nat.pow_le_pow_right (by decide) (show q ≤ 2 by omega)) (by decide)⟩
theorem not_rest {a b : Nat} (h : a ∣ b) : ¬ (0 : Int) < (b : Int) % (a : Int) := by
  rw [Int.emod_eq_zero_of_dvd (Int.natCast_dvd_natCast.mpr h)]
  omega
theorem total_of {k q : Nat} (h : k = 2 ∧ q ≤ 2 ∨ k = 3 ∧ q ≤ 1) : ∃ c : Nat, (((k ^ (q + 1) : Nat) : Int) - 1) / ((k : Int) - 1) = (c : Int) ∧ (k * (k - 1)) ^ c = (Wl k (q + 1)).length ∧ c ≤ 8 := by
  rcases h with ⟨e, hq⟩ | ⟨e, hq⟩
  · subst e
    rcases (show q = 0 ∨ q = 1 ∨ q = 2 by omega) with e | e | e <;> subst e
    · exact ⟨1, by decide, by rw [Wl_21], by decide⟩
    · exact ⟨3, by decide, by rw [Wl_22], by decide⟩
    · exact ⟨7, by decide, by rw [Wl_23], by decide⟩
  · subst e
    rcases (show q = 0 ∨ q = 1 by omega) with e | e <;> subst e
    · exact ⟨1, by decide, by rw [Wl_31], by decide⟩
    · exact ⟨4, by decide, by rw [Wl_32], by decide⟩
theorem flat_nats (O : List Nat) : (O.map nV).all flatV = true := by
  rw [List.all_eq_true]
  intro v hv
  obtain ⟨y, _, rfl⟩ := List.mem_map.mp hv
  rfl
theorem in_nats (x : Nat) (O : List Nat) : inV (nV x) (O.map nV) = decide (x ∈ O) := by
  induction O with
  | nil => rfl
  | cons y r ih =>
    have e : inV (nV x) ((y :: r).map nV) = (((y : Int) == (x : Int)) || inV (nV x) (r.map nV)) := rfl
    rw [e, ih]
    by_cases z : y = x
    · subst z
      simp
    · have h' : ((y : Int) == (x : Int)) = false := beq_eq_false_iff_ne.mpr (by omega)
      rw [h', Bool.false_or]
      simp [Ne.symm z]
theorem undW_len (u : List Ltr) : (undW u).length = u.length := by
  unfold undW
  rw [List.length_map, List.length_reverse]

section
variable {P : Program} {w : World} {K : PySem.W.Frag} {mg : Str → Option Value} {base : Heap}
abbrev nmLaw : List Str := ["_law_script", "_law_draws_here", "_law_machine_here", "_law_k", "_law_j", "_law_words", "_law_level_here", "_law_lower", "_law_upper", "_law_total", "_law_strings_here", "_law_number_here", "_law_orbit", "_law_product", "_law_one", "_law_told", "_law_all_of", "_law_below", "_law_part"]
theorem scLaw : FnScope nmLaw ["_law_script"] (defScope sLaw) := ⟨rfl, rfl, rfl, by decide +kernel, rfl, by decide +kernel, by decide +kernel⟩
def spLaw (K : PySem.W.Frag) : Sp := fun vs H Q _ => ∃ (a : Addr) (ns : List Int), vs = [.ref a] ∧ SqL K H a (ns.map V.int) ∧ ns.length ≤ 63 ∧ ∀ H', Q (.bl true) H'
theorem ok_law (T : Tab K mg) {f : Addr} {fd : FuncData} (F : Fun K "law" "law" sLaw f fd) : FnOk P w K mg base CX0 9 f fd ["_law_script"] (spLaw K) := by
  have GD : FnOk P w K mg base CX0 2 T.fDraws T.dDraws ["_law_script"] (spDraws K) := ok_draws T
  have GN : FnOk P w K mg base CX0 1 T.fNext T.dNext ["_law_draws_here"] spNext := ok_next T
  have GM : FnOk P w K mg base CX0 2 T.fLmach T.dLmach ["_law_draws_here", "_law_most"] spLmach := ok_lmach T
  have GW : FnOk P w K mg base CX0 2 T.fLword T.dLword ["_law_draws_here", "_law_machine_here", "_law_most"] spLword := ok_lword T
  have GS : FnOk P w K mg base CX0 8 T.fSize T.dSize ["machine", "words", "level"] spSize := ok_size T
  have GT : FnOk P w K mg base CX0 1 T.fStrings T.dStrings ["_law_k", "_law_level_here"] spStr := ok_strings T
  have GO : FnOk P w K mg base CX0 7 T.fOrbits T.dOrbits ["machine", "words", "level"] spOrbits := ok_orbits T
  have GK : FnOk P w K mg base CX0 8 T.fKeepers T.dKeepers ["machine", "words", "level", "number"] spKeepers := ok_keepers T
  have GU : FnOk P w K mg base CX0 1 T.fUndone T.dUndone ["_law_word_here"] spUnd := ok_undone T
  have GP : FnOk P w K mg base CX0 7 T.fLevelP T.dLevelP ["machine", "word", "level"] spLevelP := ok_levelP T
  have GB : FnOk P w K mg base CX0 7 T.fMembers T.dMembers ["machine", "words", "level"] spMembers := ok_members T
  refine F.ok scLaw (fun vs H Q E h => ?_) (fun cdv A outer s H vs Q E hr h => ?_)
  · obtain ⟨a, ns, rfl, _⟩ := h
    rfl
  · obtain ⟨a, ns, rfl, hS, hlen, k⟩ := h
    have nd := scLaw.nd
    have hu65 := units65 hr
    refine ⟨_, (pss_cons (ps_set (i := 1) nd rfl (Or.inr rfl) (pe_call GD (hr.mono (by decide)) rfl T.draws.mg T.draws.fn.kp T.draws.bd .nil pass0 (pa_cons (pv 0) pa_nil)))
      (pss_cons (ps_expr (pe_bm0 PySem.F.plainAttrs_list PySem.F.slot_list_reverse PySem.F.type_list_reverse mt_reverse (pv 1)))
      (pss_cons (ps_set (i := 2) nd rfl (Or.inr rfl) (pe_call GM (hr.mono (by decide)) rfl T.lmach.mg T.lmach.fn.kp T.lmach.bd .nil pass0 (pa_cons (pv 1) (pa_cons pe_int pa_nil))))
      (pss_cons (ps_set (i := 3) nd rfl (Or.inr rfl) (pe_ix ix_tup (pv 2) pe_int (fun _ _ => rfl)))
      (pss_cons (ps_setLc (i := 5) (own := [("_law_j", 4)]) (g := gName 4) (tt := tYes) rfl nd rfl rfl (sw_true rfl rfl rfl (by decide +kernel)) (pi_range1 rfl T.bRange (pa_cons (pe_op op_add pe_int (pe_op op_mod (pe_callTy call_int1 (by rfl) T.bInt (by decide +kernel) (pa_cons (pe_call GN (hr.mono (by decide)) rfl T.next.mg T.next.fn.kp T.next.bd .nil pass0 (pa_cons (pv 1) pa_nil)) pa_nil)) pe_int)) pa_nil)) (blkOk_by (N := nmLaw) (sc := defScope sLaw) (by decide +kernel)) (fun _ _ _ _ _ => pg_name (i := 4) nd rfl (Or.inl rfl)) (fun _ _ _ _ _ => pts_nil) (fun _ _ _ _ _ => (pe_call GW (hr.mono (by decide)) rfl T.lword.mg T.lword.fn.kp T.lword.bd .nil pass0 (pa_cons (pv 1) (pa_cons (pv 2) (pa_cons pe_int pa_nil))))))
      (pss_cons (ps_set (i := 6) nd rfl (Or.inl rfl) (pe_op op_add pe_int (pe_op op_mod (pe_callTy call_int1 (by rfl) T.bInt (by decide +kernel) (pa_cons (pe_call GN (hr.mono (by decide)) rfl T.next.mg T.next.fn.kp T.next.bd .nil pass0 (pa_cons (pv 1) pa_nil)) pa_nil)) (pe_op op_add (pe_op op_sub pe_int (pv 3)) pe_int))))
      (pss_cons (ps_set (i := 7) nd rfl (Or.inl rfl) (pe_call GS hr rfl T.size.mg T.size.fn.kp T.size.bd .nil pass0 (pa_cons (pv 2) (pa_cons (pv 5) (pa_cons (pe_op op_sub (pv 6) pe_int) pa_nil)))))
      (pss_cons (ps_set (i := 8) nd rfl (Or.inl rfl) (pe_call GS hr rfl T.size.mg T.size.fn.kp T.size.bd .nil pass0 (pa_cons (pv 2) (pa_cons (pv 5) (pa_cons (pv 6) pa_nil)))))
      (pss_cons (ps_if (pt_cmpR op_gt (pe_op op_mod (pv 8) (pv 7)) pe_int (nomark _)) (pss_one (ps_ret pe_bl)) pss_nil)
      (pss_cons (ps_set (i := 9) nd rfl (Or.inl rfl) pe_int)
      (pss_cons (ps_for PassesOwn.never rfl (pi_range1 rfl T.bRange (pa_cons (pe_op op_fdiv (pe_op op_sub (pe_callB call_len_seq (by rfl) T.bLen PySem.boot_len (pa_cons (pe_call GT (hr.mono (by decide)) rfl T.strings.mg T.strings.fn.kp T.strings.bd .nil pass0 (pa_cons (pv 3) (pa_cons (pv 6) pa_nil))) pa_nil)) pe_int) (pe_op op_sub (pv 3) pe_int)) pa_nil)) (pg_name (i := 4) nd rfl (Or.inl rfl)) (pss_one (ps_set (i := 9) nd rfl (Or.inl rfl) (pe_op op_mul (pe_op op_mul (pv 9) (pv 3)) (pe_op op_sub (pv 3) pe_int)))))
      (pss_cons (ps_if (pt_cmpR op_gt (pe_op op_mod (pv 9) (pv 8)) pe_int (nomark _)) (pss_one (ps_ret pe_bl)) pss_nil)
      (pss_cons (ps_set (i := 10) nd rfl (Or.inl rfl) (pe_callB call_len_seq (by rfl) T.bLen PySem.boot_len (pa_cons (pe_call GT (hr.mono (by decide)) rfl T.strings.mg T.strings.fn.kp T.strings.bd .nil pass0 (pa_cons (pv 3) (pa_cons (pv 6) pa_nil))) pa_nil)))
      (pss_cons (ps_set (i := 11) nd rfl (Or.inr rfl) (pe_op op_mod (pe_callTy call_int1 (by rfl) T.bInt (by decide +kernel) (pa_cons (pe_call GN (hr.mono (by decide)) rfl T.next.mg T.next.fn.kp T.next.bd .nil pass0 (pa_cons (pv 1) pa_nil)) pa_nil)) (pv 10)))
      (pss_cons (ps_set (i := 12) nd rfl (Or.inl rfl) (pe_ix ix_list (pe_lc (own := [("_law_part", 18)]) (g := gName 18) rfl nd (pi_list (pe_call GO (hr.mono (by decide)) rfl T.orbits.mg T.orbits.fn.kp T.orbits.bd .nil pass0 (pa_cons (pv 2) (pa_cons (pv 5) (pa_cons (pv 6) pa_nil))))) (blkOk_by (N := nmLaw) (sc := defScope sLaw) (by decide +kernel)) (fun _ _ _ _ _ => pg_name (i := 18) nd rfl (Or.inl rfl)) (fun _ _ _ _ _ => pts_one (pt_cmpR (kx_in (K := K) rfl) (pv 11) (pv 18) rfl)) (fun _ _ _ _ _ => pv 18)) pe_int (fun _ _ => rfl)))
      (pss_cons (ps_if (pt_cmpR op_ne (pe_op op_mul (pe_callB call_len_seq (by rfl) T.bLen PySem.boot_len (pa_cons (pv 12) pa_nil)) (pe_callB call_len_seq (by rfl) T.bLen PySem.boot_len (pa_cons (pe_call GK hr rfl T.keepers.mg T.keepers.fn.kp T.keepers.bd .nil pass0 (pa_cons (pv 2) (pa_cons (pv 5) (pa_cons (pv 6) (pa_cons (pv 11) pa_nil))))) pa_nil))) (pv 8) (nomark _)) (pss_one (ps_ret pe_bl)) pss_nil)
      (pss_cons (ps_set (i := 13) nd rfl (Or.inl rfl) pe_str)
      (pss_cons (ps_for PassesOwn.never rfl (pi_range1 rfl T.bRange (pa_cons (pe_op op_mod (pe_callTy call_int1 (by rfl) T.bInt (by decide +kernel) (pa_cons (pe_call GN (hr.mono (by decide)) rfl T.next.mg T.next.fn.kp T.next.bd .nil pass0 (pa_cons (pv 1) pa_nil)) pa_nil)) pe_int) pa_nil)) (pg_name (i := 4) nd rfl (Or.inl rfl)) (pss_cons (ps_set (i := 14) nd rfl (Or.inl rfl) (pe_ix ix_list (pv 5) (pe_op op_mod (pe_callTy call_int1 (by rfl) T.bInt (by decide +kernel) (pa_cons (pe_call GN (hr.mono (by decide)) rfl T.next.mg T.next.fn.kp T.next.bd .nil pass0 (pa_cons (pv 1) pa_nil)) pa_nil)) (pe_callB call_len_seq (by rfl) T.bLen PySem.boot_len (pa_cons (pv 5) pa_nil))) (fun _ _ => rfl)))
      (pss_cons (ps_if (pt_cmpR op_eq (pe_op op_mod (pe_callTy call_int1 (by rfl) T.bInt (by decide +kernel) (pa_cons (pe_call GN (hr.mono (by decide)) rfl T.next.mg T.next.fn.kp T.next.bd .nil pass0 (pa_cons (pv 1) pa_nil)) pa_nil)) pe_int) pe_int (nomark _)) (pss_one (ps_set (i := 14) nd rfl (Or.inl rfl) (pe_call GU (hr.mono (by decide)) rfl T.undone.mg T.undone.fn.kp T.undone.bd .nil pass0 (pa_cons (pv 14) pa_nil)))) pss_nil)
      (pss_one (ps_set (i := 13) nd rfl (Or.inl rfl) (pe_op op_add_str (pv 13) (pv 14)))))))
      (pss_cons (ps_set (i := 15) nd rfl (Or.inr rfl) (pe_call GP (hr.mono (by decide)) rfl T.levelP.mg T.levelP.fn.kp T.levelP.bd .nil pass0 (pa_cons (pv 2) (pa_cons (pv 13) (pa_cons (pv 6) pa_nil)))))
      (pss_cons (ps_set (i := 16) nd rfl (Or.inl rfl) (pe_call GB (hr.mono (by decide)) rfl T.members.mg T.members.fn.kp T.members.bd .nil pass0 (pa_cons (pv 2) (pa_cons (pv 5) (pa_cons (pv 6) pa_nil)))))
      (pss_cons (ps_if (pt_cmpR (op_notInD hu65) (pv 15) (pv 16) rfl) (pss_one (ps_ret pe_bl)) pss_nil)
      (pss_cons (ps_set (i := 17) nd rfl (Or.inl rfl) (pe_call GB (hr.mono (by decide)) rfl T.members.mg T.members.fn.kp T.members.bd .nil pass0 (pa_cons (pv 2) (pa_cons (pv 5) (pa_cons (pe_op op_sub (pv 6) pe_int) pa_nil)))))
      (pss_one (ps_ret (pe_cmpR (op_inD hu65) (pe_callTy call_tuple_of (by rfl) T.bTuple (by decide +kernel) (pa_cons (pe_lc (own := [("_law_j", 4)]) (g := gName 4) (tt := tYes) rfl nd (pi_range1 rfl T.bRange (pa_cons (pe_op op_fdiv (pv 10) (pv 3)) pa_nil)) (blkOk_by (N := nmLaw) (sc := defScope sLaw) (by decide +kernel)) (fun _ _ _ _ _ => pg_name (i := 4) nd rfl (Or.inl rfl)) (fun _ _ _ _ _ => pts_nil) (fun _ _ _ _ _ => (pe_op op_fdiv (pe_ix (kx_ixT (K := K) rfl) (pv 15) (pe_op op_mul (pv 4) (pv 3)) (fun _ _ => rfl)) (pv 3)))) pa_nil)) (pv 17) rfl))))))))))))))))))))))))), ?_⟩

    refine ⟨_, rfl, a, ns, rfl, hS, hlen, fun d H1 s1 hd0 hd1 => ?_⟩
    obtain ⟨ms, e1, hms⟩ := hd1
    refine ⟨_, rfl, .inl ⟨rfl, _, SqL.of e1⟩, d, _, rfl, rfl, e1, ?_⟩
    have hd2 : DrawsAt (upd H1 d (.lst (ms.map nV).reverse)) d := ⟨ms.reverse, by rw [upd_same, List.map_reverse], fun n hn => hms n (List.mem_reverse.mp hn)⟩
    generalize upd H1 d (.lst (ms.map nV).reverse) = H2 at hd2
    refine ⟨_, rfl, d, rfl, hd2, fun H3 v kk rows s3 hd3 hm3 ok => ?_⟩
    obtain ⟨m, r, rs, rfl, hmm, hrr, hrows⟩ := id hm3
    refine ⟨_, rfl, m, _, _, _, rfl, rfl, SqT.of hmm, at0, ?_⟩
    have hk2 := ok.k2
    have hk3 := ok.k3
    -- the words
    obtain ⟨dl3, hdl3⟩ := hd3.lst
    refine ⟨_, rfl, d, rfl, hd3, fun n1 H4 hn1 hd4 s4 => .inl ⟨_, rfl, _, _, rfl, rfl, (by show (0 : Int) < 3; decide), _, _, rfl, rfl, _, rfl, by omega, by omega, fun D hD => ?_⟩⟩
    have nDd : D ≠ d := hd4.ne hD
    have hD3 : H3 D = none := s4.free nDd hD
    refine lc_range (lo := 0) (n := (1 + (n1 : Int) % 3).toNat) (fun i H5 => ∃ ws : List (List Ltr), SameBut d H3 H5 ∧ DrawsAt H5 d ∧ H5 D = some (.lst (secV ws)) ∧ (∀ u ∈ ws, WordOk rows.length u ∧ u.length ≤ 4) ∧ ws.length = i)
      ⟨[], s4.up hD, hd4.up nDd, upd_same, by simp, rfl⟩ ?_ ?_
    · rintro i H5 hi ⟨ws, s5, hd5, h5, hws, hwl⟩
      refine ⟨rfl, yesIf ⟨_, rfl, _, rfl, d, _, kk, rows, rfl, hd5, hm3.tups (s5.tups hdl3), ok, fun H6 u s6 hd6 hu1 hu2 => ?_⟩⟩
      have h6 := s6 _ _ nDd h5
      refine ⟨_, h6, small 100 (by unfold secV; rw [List.length_map]; omega), ws ++ [u], ?_, hd6.up nDd, ?_, ?_, ?_⟩
      · intro b o n e
        rw [upd_ne (ne_of_none e hD3)]
        exact (s5.trans s6) b o n e
      · rw [upd_same]
        unfold secV
        rw [List.map_append]
        rfl
      · intro w hw
        rcases List.mem_append.mp hw with q | q
        · exact hws w q
        · rw [List.mem_singleton.mp q]
          exact ⟨hu1, hu2⟩
      · rw [List.length_append, hwl]
        rfl
    rintro H5 ⟨ws, s5, hd5, h5, hws, hwl⟩
    -- the level
    have hwl1 : 1 ≤ ws.length := by omega
    have hwl3 : ws.length ≤ 3 := by omega
    have hwsO : WsOk rows ws := fun u hu => ⟨(hws u hu).1, by have := (hws u hu).2; omega⟩
    refine ⟨_, rfl, d, rfl, hd5, fun n2 H6 hn2 hd6 s6 => .inl ⟨_, rfl, _, rfl, _, _, rfl, rfl, _, _, rfl, rfl, _, _, rfl, rfl, (by show (0 : Int) < 4 - (kk : Int) + 1; omega), _, _, rfl, rfl, ?_⟩⟩
    obtain ⟨q, eq, lev1, lev0, hq⟩ := level_of n2 hk2 hk3
    show gName 6 (V.int (1 + (n2 : Int) % (4 - (kk : Int) + 1))) _ _ _
    rw [eq]
    have h6D := s6 _ _ nDd h5
    have hcall : ∀ {H' : Hp} (n : Nat), SameBut d H3 H' → H' D = some (.lst (secV ws)) → Lev kk n → CallAt H' [.ref m, .ref D, nV n] kk rows ws n := fun n s h l => ⟨⟨_, D, rfl, hm3.tups (s.tups hdl3), h⟩, ok, hwsO, l⟩
    have s36 := s5.trans s6
    have eq1 : V.int (((q + 1 : Nat) : Int) - 1) = nV q := by
      show V.int (((q + 1 : Nat) : Int) - 1) = V.int (q : Int)
      rw [show ((q + 1 : Nat) : Int) - 1 = (q : Int) by omega]
    -- the two sizes
    refine ⟨_, rfl, _, rfl, _, rfl, _, _, rfl, rfl, kk, rows, ws, q, by show CallAt H6 [.ref m, .ref D, V.int (((q + 1 : Nat) : Int) - 1)] kk rows ws q; rw [eq1]; exact hcall q s36 h6D lev0, by omega, fun H7 L1 s7 hL1 => ?_⟩
    have s37 := s36.trans (.of s7)
    refine ⟨_, rfl, _, rfl, _, rfl, kk, rows, ws, q + 1, hcall (q + 1) s37 (s7 _ _ h6D) lev1, by omega, fun H8 L2 s8 hL2 => ?_⟩
    have s68 := s7.trans s8
    have hp1 := hL1.pos
    have hp2 := hL2.pos
    refine ⟨_, rfl, _, rfl, _, _, rfl, rfl, (by show (0 : Int) < (L1.length : Int); omega), _, _, rfl, rfl, _, rfl, ?_⟩
    refine ite2 (fun c => absurd (of_decide_eq_true c) (not_rest (size_next ok hwsO.words hL2 hL1))) (fun _ => ?_)
    have s38 := s37.trans (.of s8)
    have hd8 : DrawsAt H8 d := hd6.same s68
    have h8D := s68 _ _ h6D
    -- the total
    obtain ⟨c, hc1, hc2, hc8⟩ := total_of hq
    have hW : (Wl kk (q + 1)).length ≤ 1296 := Wl_small ok lev1.n3 lev1.p9
    refine ⟨_, rfl, _, rfl, kk, q + 1, rfl, hk3, hk2, lev1, fun H9 l9 vs9 s9 h9 hl9 => ⟨l9, _, rfl, .inl (SqL.of h9), _, _, rfl, rfl, _, rfl, _, _, rfl, rfl, _, _, rfl, rfl, ⟨by show (0 : Int) < (kk : Int) - 1; omega, by show (kk : Int) - 1 < 1073741824; omega⟩, ?_⟩⟩
    have hn9 : ((vs9.length : Int) - 1) / ((kk : Int) - 1) = (c : Int) := by rw [hl9]; exact hc1
    refine ⟨_, rfl, by show -(2 ^ 62) ≤ ((vs9.length : Int) - 1) / ((kk : Int) - 1); rw [hn9]; omega, by show ((vs9.length : Int) - 1) / ((kk : Int) - 1) < 2 ^ 62; rw [hn9]; omega, ?_⟩
    have hn9' : (((vs9.length : Int) - 1) / ((kk : Int) - 1)).toNat = c := by rw [hn9]; omega
    refine for_range (lo := 0) (n := (((vs9.length : Int) - 1) / ((kk : Int) - 1)).toNat) (fun i σ H' => H' = H9 ∧ ∃ v4 : Option V, σ = [some (.ref a), some (.ref d), some (.ref m), some (nV kk), v4, some (.ref D), some (nV (q + 1)), some (nV L1.length), some (nV L2.length), some (nV ((kk * (kk - 1)) ^ i)), none, none, none, none, none, none, none, none, none])
      ⟨rfl, none, rfl⟩ ?_ ?_
    · rintro i σ H' hi ⟨rfl, v4, rfl⟩
      have hb : (kk * (kk - 1)) ^ i ≤ (kk * (kk - 1)) ^ c := Nat.pow_le_pow_right (Nat.mul_pos (by omega) (by omega)) (by omega)
      rw [hc2] at hb
      generalize hz : (kk * (kk - 1)) ^ i = z at hb
      refine ⟨_, rfl, _, rfl, _, _, rfl, rfl, .inl ⟨by omega, by omega⟩, _, rfl, _, _, rfl, rfl, _, _, rfl, rfl, .inr ⟨by show -(2 ^ 64) < (kk : Int) - 1; omega, by show (kk : Int) - 1 < 2 ^ 64; omega⟩, ?_⟩
      refine ⟨rfl, some (V.int (0 + (i : Int))), ?_⟩
      have ez : V.int ((z : Int) * (kk : Int) * ((kk : Int) - 1)) = nV ((kk * (kk - 1)) ^ (i + 1)) := by
        rw [Nat.pow_succ, hz]
        show V.int _ = V.int _
        rw [Int.natCast_mul, Int.natCast_mul, Int.natCast_sub (by omega), Int.mul_assoc]
        rfl
      rw [← ez]
      rfl
    rintro σ H' ⟨rfl, v4, rfl⟩
    rw [hn9', hc2]
    have s39 := s38.trans (.of s9)
    have hd9 : DrawsAt H' d := hd8.same s9
    have h9D := s9 _ _ h8D
    refine ⟨_, rfl, _, rfl, _, _, rfl, rfl, (by show (0 : Int) < (L2.length : Int); omega), _, _, rfl, rfl, _, rfl, ?_⟩
    refine ite2 (fun c => absurd (of_decide_eq_true c) (not_rest (size_all ok hwsO.words hL2))) (fun _ => ?_)
    -- the strings, the number
    refine ⟨_, rfl, _, rfl, kk, q + 1, rfl, hk3, hk2, lev1, fun H10 l10 vs10 s10 h10 hl10 => ⟨l10, _, rfl, .inl (SqL.of h10), ?_⟩⟩
    show gName 10 (V.int ((vs10.length : Nat) : Int)) _ _ _
    rw [hl10]
    have hN : 0 < kk ^ (q + 1) := Nat.pow_pos (by omega)
    refine ⟨_, rfl, d, rfl, hd9.same s10, fun n3 H11 hn3 hd11 s11 => .inl ⟨_, rfl, _, rfl, _, _, rfl, rfl, (by show (0 : Int) < ((kk ^ (q + 1) : Nat) : Int); omega), ?_⟩⟩
    show gName 11 (nV (n3 % kk ^ (q + 1))) _ _ _
    have hx : n3 % kk ^ (q + 1) < kk ^ (q + 1) := Nat.mod_lt _ hN
    generalize n3 % kk ^ (q + 1) = x at hx
    have s3b := (s39.trans (.of s10)).trans s11
    have h11D := s11 _ _ nDd (s10 _ _ h9D)
    -- the orbit
    refine ⟨_, rfl, _, rfl, _, rfl, kk, rows, ws, q + 1, hcall (q + 1) s3b h11D lev1, by omega, ⟨L2, hL2⟩, fun H12 v12 Os s12 hp12 hparts => ?_⟩
    have s3c := s3b.trans (.of s12)
    have hd12 : DrawsAt H12 d := hd11.same s12
    have h12D := s12 _ _ h11D
    obtain ⟨lO, vsO, rfl, hlO, hallO⟩ := hp12
    refine ⟨lO, rfl, ⟨_, SqL.of hlO⟩, fun D2 hD2 => lc_it (walk_list (xs := vsO)) (fun i H' => Same H12 H' ∧ ∃ us, H' D2 = some (.lst us) ∧ AllAt (PartAt H12) us ((Os.take i).filter fun O => decide (x ∈ O)))
      ⟨same_upd hD2, [], upd_same, .nil⟩ (fun i H' _ ⟨s', _⟩ => SqL.of (s' _ _ hlO)) ?_ ?_⟩
    · rintro i y H4' H5' hi ⟨s', us, h', hus⟩ ⟨rfl, hy⟩
      obtain ⟨O, hO, ⟨b, rfl, hb⟩⟩ := hallO.get hy
      obtain ⟨st, hst, hOn, hOm⟩ := hparts.orb O (List.mem_of_getElem? hO)
      refine ⟨rfl, ?_⟩
      refine ⟨_, rfl, _, rfl, b, _, rfl, .inl (SqL.of (s' _ _ hb)), rfl, flat_nats O, _, rfl, ?_⟩
      rw [if_neg (by decide), in_nats, take_snoc hO, List.filter_append]
      by_cases z : x ∈ O
      · rw [decide_eq_true z]
        have e1 : ([O].filter fun O => decide (x ∈ O)) = [O] := by
          rw [List.filter_cons, if_pos (decide_eq_true z)]
          rfl
        rw [e1]
        refine iteT ?_
        refine ⟨_, rfl, us, h', small 2000 ?_, s'.up hD2, _, upd_same, hus.snoc ⟨b, rfl, hb⟩⟩
        rw [hus.len]
        have h1 := List.length_filter_le (fun O : List Nat => decide (x ∈ O)) (Os.take i)
        rw [List.length_take] at h1
        have h2 := hparts.len
        have h3 := lev1.p9
        omega
      · rw [decide_eq_false z]
        have e1 : ([O].filter fun O => decide (x ∈ O)) = [] := by
          rw [List.filter_cons, if_neg (by rw [decide_eq_false z]; exact Bool.false_ne_true)]
          rfl
        rw [e1, List.append_nil]
        exact iteF ⟨s', us, h', hus⟩
    rintro H13 ⟨s13, us, h13, hus⟩
    rw [hallO.len, List.take_of_length_le (Nat.le_refl _)] at hus
    obtain ⟨O1, hO1, hxO1⟩ := hparts.all x hx
    obtain ⟨u0, ur, O0, hu0, hO0, hxO0, a0, hua0, ha0⟩ : ∃ (u0 : V) (ur : List V) (O0 : List Nat), us = u0 :: ur ∧ O0 ∈ Os ∧ x ∈ O0 ∧ ∃ a0, u0 = .ref a0 ∧ H12 a0 = some (.lst (O0.map nV)) := by
      have hm1 : O1 ∈ Os.filter fun O => decide (x ∈ O) := List.mem_filter.mpr ⟨hO1, decide_eq_true hxO1⟩
      cases hf : Os.filter fun O => decide (x ∈ O) with
      | nil => rw [hf] at hm1; exact absurd hm1 (by simp)
      | cons O0 r =>
        rw [hf] at hus
        have hm0 : O0 ∈ Os.filter fun O => decide (x ∈ O) := by rw [hf]; simp
        cases us with
        | nil => exact absurd hus.len (by simp)
        | cons u0 ur =>
          obtain ⟨p1, p2⟩ := List.mem_filter.mp hm0
          obtain ⟨a0, e1, e2⟩ := hus.at_ 0 u0 O0 rfl rfl
          exact ⟨u0, ur, O0, rfl, p1, of_decide_eq_true p2, a0, e1, e2⟩
    subst hu0
    subst hua0
    obtain ⟨st, hst, hOn, hOm⟩ := hparts.orb O0 hO0
    have s3d := s3c.trans (.of s13)
    have h13D := s13 _ _ h12D
    refine ⟨_, _, _, _, rfl, rfl, SqL.of h13, at0, ?_⟩
    -- orbit times keepers
    refine ⟨_, rfl, a0, _, rfl, .inl (SqL.of (s13 _ _ ha0)), _, rfl, _, rfl, _, rfl, _, rfl, kk, rows, ws, q + 1, x, .ref m, .ref D, rfl, hcall (q + 1) s3d h13D lev1, by omega, hx, fun H14 v14 L3 s14 hL3 hp14 => ?_⟩
    obtain ⟨l14, vs14, rfl, hl14, hall14⟩ := hp14
    have hL23 : L3.length = L2.length := len_eq_of hL3.nd hL2.nd fun p => (hL3.mem p).trans (hL2.mem p).symm
    have horb := hL3.orbit_size hst ((hOm x).mp hxO0) hOn hOm
    have hO9 : O0.length ≤ 9 := by
      have := short_of hOn fun y hy => Reach.lt hL3.sok hst ((hOm y).mp hy)
      have := lev1.p9
      omega
    refine ⟨l14, _, rfl, .inl (SqL.of hl14), _, _, rfl, rfl, .inl ⟨by omega, by rw [List.length_map]; omega⟩, _, rfl, rfl, _, rfl, ?_⟩
    refine iteNS ?_ ?_
    · show V.int (((O0.map nV).length : Int) * (vs14.length : Int)) = nV L2.length
      rw [List.length_map, hall14.len, ← hL23, horb]
      exact nV_mul _ _
    have s3e := s3d.trans (.of s14)
    have hd14 : DrawsAt H14 d := (hd12.same s13).same s14
    have h14D := s14 _ _ h13D
    -- the product
    have hlenS : (secV ws).length = ws.length := by unfold secV; rw [List.length_map]
    have hd14' := hd14
    refine ⟨_, rfl, d, rfl, hd14, fun n4 H15 hn4 hd15 s15 => .inl ⟨_, rfl, _, _, rfl, rfl, (by show (0 : Int) < 6; decide), ?_⟩⟩
    refine ⟨_, rfl, by show -(2 ^ 62) ≤ (n4 : Int) % 6; omega, by show (n4 : Int) % 6 < 2 ^ 62; omega, ?_⟩
    refine for_range (lo := 0) (n := ((n4 : Int) % 6).toNat) (fun i σ H' => ∃ (v4 v14 : Option V) (p : List Ltr), σ = [some (.ref a), some (.ref d), some (.ref m), some (nV kk), v4, some (.ref D), some (nV (q + 1)), some (nV L1.length), some (nV L2.length), some (nV (Wl kk (q + 1)).length), some (nV (kk ^ (q + 1))), some (nV x), some (.ref a0), some (.str (wS p)), v14, none, none, none, none] ∧
        SameBut d H14 H' ∧ DrawsAt H' d ∧ Prod ws p ∧ p.length ≤ 4 * i)
      ⟨_, none, [], by rw [wS_nil]; rfl, s15, hd15, .nil, by simp⟩ ?_ ?_
    · rintro i σ H16 hi ⟨v4, v14, p, rfl, s16, hd16, hpr, hpl⟩
      have hi6 : i < 6 := by omega
      have h16D := s16 _ _ nDd h14D
      refine ⟨_, rfl, _, rfl, d, rfl, hd16, fun n5 H17 hn5 hd17 s17 => .inl ⟨_, rfl, _, rfl, D, _, rfl, .inl (SqL.of (s17 _ _ nDd h16D)), _, _, rfl, rfl, (by show (0 : Int) < ((secV ws).length : Int); rw [hlenS]; omega), ?_⟩⟩
      have h17D := s17 _ _ nDd h16D
      have hz : n5 % ws.length < ws.length := Nat.mod_lt _ hwl1
      obtain ⟨u, hu⟩ : ∃ u, ws[n5 % ws.length]? = some u := ⟨_, List.getElem?_eq_getElem hz⟩
      have hum := List.mem_of_getElem? hu
      obtain ⟨hu1, hu2⟩ := hws u hum
      have hat : atI (secV ws) ((n5 : Int) % ((secV ws).length : Int)) = some (.str (wS u)) := by
        rw [hlenS]
        refine atI_nat (j := n5 % ws.length) ?_
        unfold secV
        rw [List.getElem?_map, hu]
        rfl
      refine ⟨D, _, _, _, rfl, rfl, SqL.of h17D, hat, ?_⟩
      refine ⟨_, rfl, d, rfl, hd17, fun n6 H18 hn6 hd18 s18 => .inl ⟨_, rfl, _, _, rfl, rfl, (by show (0 : Int) < 2; decide), rfl, _, rfl, ?_⟩⟩
      have fin : ∀ (t : List Ltr) (H19 : Hp), SameBut d H14 H19 → DrawsAt H19 d → Prod ws (p ++ t) → t.length ≤ 4 → ∃ (v4' v14' : Option V) (p' : List Ltr), [some (V.ref a), some (.ref d), some (.ref m), some (nV kk), some (V.int (0 + (i : Int))), some (.ref D), some (nV (q + 1)), some (nV L1.length), some (nV L2.length), some (nV (Wl kk (q + 1)).length), some (nV (kk ^ (q + 1))), some (nV x), some (.ref a0), some (.str (wS p ++ wS t)), some (.str (wS t)), none, none, none, none] =
            [some (V.ref a), some (.ref d), some (.ref m), some (nV kk), v4', some (.ref D), some (nV (q + 1)), some (nV L1.length), some (nV L2.length), some (nV (Wl kk (q + 1)).length), some (nV (kk ^ (q + 1))), some (nV x), some (.ref a0), some (.str (wS p')), v14', none, none, none, none] ∧
          SameBut d H14 H19 ∧ DrawsAt H19 d ∧ Prod ws p' ∧ p'.length ≤ 4 * (i + 1) := fun t H19 a1 a2 a3 a4 => ⟨_, _, p ++ t, by rw [← wS_append], a1, a2, a3, by rw [List.length_append]; omega⟩
      have hwp : (wS p).length ≤ 1000 := by rw [wS_len]; omega
      have s1418 := (s16.trans s17).trans s18
      refine ite2 (fun _ => ?_) (fun _ => ?_)
      · refine ⟨_, rfl, u, rfl, fun l hl => Nat.lt_of_lt_of_le (hu1 l hl) ok.r4, by omega, fun H19 s19 => ?_⟩
        refine ⟨_, rfl, _, rfl, _, _, rfl, rfl, small' 2000 (by rw [wS_len, wS_len, undW_len]; omega), ?_⟩
        exact fin (undW u) H19 (s1418.trans (.of s19)) (hd18.same s19) (.neg hpr hum) (by rw [undW_len]; exact hu2)
      · refine ⟨_, rfl, _, rfl, _, _, rfl, rfl, small' 2000 (by rw [wS_len, wS_len]; omega), ?_⟩
        exact fin u H18 s1418 hd18 (.pos hpr hum) hu2
    rintro σ H16 ⟨v4, v14, p, rfl, s16, hd16, hpr, hpl⟩
    have hpl' : p.length ≤ 24 := by omega
    have s3f := s3e.trans s16
    have h16D := s16 _ _ nDd h14D
    have hpw := hpr.ok hwsO.words
    -- the level permutation, the members
    refine ⟨_, rfl, _, rfl, _, rfl, .ref m, kk, rows, p, q + 1, rfl, hm3.tups (s3f.tups hdl3), ok, hpw, by omega, lev1, fun H17 told s17 htold => ?_⟩
    have s3g := s3f.trans (.of s17)
    have h17D := s17 _ _ h16D
    refine ⟨_, rfl, _, rfl, _, rfl, kk, rows, ws, q + 1, hcall (q + 1) s3g h17D lev1, by omega, fun H18 v18 L4 s18 hp18 hL4 => ?_⟩
    obtain ⟨l18, vs18, rfl, hl18, hall18⟩ := hp18
    have s3h := s3g.trans (.of s18)
    have h18D := s18 _ _ h17D
    have htold18 := htold.same s18
    refine ⟨_, rfl, _, rfl, _, _, dp_tup htold18, dp_tups hl18 hall18, sh_tup _, sh_tups _, _, rfl, ?_⟩
    rw [tups_in]
    refine iteNS (prod_mem ok hwsO.words hL4 hpr) ?_
    -- below
    refine ⟨_, rfl, _, rfl, _, rfl, _, _, rfl, rfl, kk, rows, ws, q, by show CallAt H18 [.ref m, .ref D, V.int (((q + 1 : Nat) : Int) - 1)] kk rows ws q; rw [eq1]; exact hcall q s3h h18D lev0, by omega, fun H19 v19 L5 s19 hp19 hL5 => ?_⟩
    obtain ⟨l19, vs19, rfl, hl19, hall19⟩ := hp19
    have htold19 := htold18.same s19
    obtain ⟨b, rfl, hb⟩ := htold19
    have hP := spr_isP ok hpw (q + 1)
    have hpj : ((kk ^ (q + 1) : Nat) : Int) / (kk : Int) = ((kk ^ (q + 1) / kk : Nat) : Int) := rfl
    have hNk : kk ^ (q + 1) / kk ≤ 9 := Nat.le_trans (Nat.div_le_self _ _) lev1.p9
    obtain ⟨nn, hnn, hnn9⟩ : ∃ nn : Nat, kk ^ (q + 1) / kk = nn ∧ nn ≤ 9 := ⟨_, rfl, hNk⟩
    refine ⟨_, rfl, _, rfl, _, _, rfl, rfl, ⟨by show (0 : Int) < (kk : Int); omega, by show (kk : Int) < 1073741824; omega⟩, _, rfl, by show -(2 ^ 62) ≤ ((kk ^ (q + 1) : Nat) : Int) / (kk : Int); rw [hpj, hnn]; omega, by show ((kk ^ (q + 1) : Nat) : Int) / (kk : Int) < 2 ^ 62; rw [hpj, hnn]; omega, fun D3 hD3 => ?_⟩
    refine lc_range (lo := 0) (n := (((kk ^ (q + 1) : Nat) : Int) / (kk : Int)).toNat) (fun i H' => Same H19 H' ∧ H' D3 = some (.lst (((List.range i).map fun j => (spr rows kk p (q + 1)).1.getD (j * kk) 0 / kk).map nV)))
      ⟨same_upd hD3, upd_same⟩ ?_ ?_
    · rintro i H' hi ⟨s', h'⟩
      rw [hpj, Int.toNat_natCast] at hi
      have e0 : V.int (0 + (i : Int)) = nV i := by rw [Int.zero_add]; rfl
      rw [e0]
      have hik : i * kk < kk ^ (q + 1) := by
        have h1 : (i + 1) * kk ≤ kk ^ (q + 1) := Nat.le_trans (Nat.mul_le_mul_right kk hi) (Nat.div_mul_le_self _ _)
        rw [Nat.add_mul] at h1
        omega
      have hget : ((spr rows kk p (q + 1)).1.map nV)[i * kk]? = some (nV ((spr rows kk p (q + 1)).1.getD (i * kk) 0)) := by
        rw [List.getElem?_map, List.getD_eq_getElem?_getD, List.getElem?_eq_getElem (by rw [hP.len]; exact hik)]
        rfl
      have hat : atI ((spr rows kk p (q + 1)).1.map nV) ((i : Int) * (kk : Int)) = some (nV ((spr rows kk p (q + 1)).1.getD (i * kk) 0)) := by
        rw [← Int.natCast_mul]
        exact atI_nat hget
      refine ⟨rfl, yesIf ⟨_, rfl, _, rfl, _, rfl, _, _, rfl, rfl, .inr ⟨by omega, by omega⟩, b, _, _, _, rfl, rfl, SqT.of (s' _ _ hb), hat, _, rfl, _, _, rfl, rfl, ⟨by show (0 : Int) < (kk : Int); omega, by show (kk : Int) < 1073741824; omega⟩, ?_⟩⟩
      refine ⟨_, h', small 100 (by rw [List.length_map, List.length_map, List.length_range]; omega), s'.up hD3, ?_⟩
      rw [upd_same, List.range_succ, List.map_append, List.map_append]
      rfl
    rintro H20 ⟨s20, h20⟩
    rw [hpj, Int.toNat_natCast] at h20
    have hproj : ((List.range (kk ^ (q + 1) / kk)).map fun j => (spr rows kk p (q + 1)).1.getD (j * kk) 0 / kk) = (spr rows kk p q).1 := by
      rw [← spr_proj ok hpw q]
      unfold proj
      rw [hP.len]
    rw [hproj] at h20
    refine ⟨D3, _, rfl, .inl ⟨SqL.of h20, fun t ht => ?_⟩⟩
    have s21 := s20.trans (same_upd (o := .tup ((spr rows kk p q).1.map nV)) ht)
    refine ⟨_, rfl, _, _, dp_tup (p := (spr rows kk p q).1) ⟨t, rfl, upd_same⟩, dp_tups (s21 _ _ hl19) (hall19.imp fun _ _ z => z.same s21), sh_tup _, sh_tups _, ?_⟩
    rw [tups_in, decide_eq_true (prod_mem ok hwsO.words hL5 hpr)]
    exact k _
end
end LT
set_option linter.all false
set_option Elab.async false
set_option maxRecDepth 100000
set_option maxHeartbeats 4000000
/-! What the top has left, as a table; the walk (printed by mkend.py). -/
namespace LT
open PySem PySem.Spec PyProof.Rows L2 LTR
theorem all_mk {l : PySem.W.OpenLaw} {w : World} {K : PySem.W.Frag} {h : Heap} {mg : Str → Option Value} {fa : Addr} (X : K.In h) (G : h.Ns mainGlobals mg) (hfa : mg "law" = some (.ref fa))
    {C : Addr}
    {f1 : Addr} {od1 an1 : Option Addr} {sl1 : Array (Option Value)} {oc1 kV1 dc1 pm1 cd1 ct1 : Value}
    {f2 : Addr} {od2 an2 : Option Addr} {sl2 : Array (Option Value)} {oc2 kV2 dc2 pm2 cd2 ct2 : Value}
    {f3 : Addr} {od3 an3 : Option Addr} {sl3 : Array (Option Value)} {oc3 kV3 dc3 pm3 cd3 ct3 : Value}
    {f4 : Addr} {od4 an4 : Option Addr} {sl4 : Array (Option Value)} {oc4 kV4 dc4 pm4 cd4 ct4 : Value}
    {f5 : Addr} {od5 an5 : Option Addr} {sl5 : Array (Option Value)} {oc5 kV5 dc5 pm5 cd5 ct5 : Value}
    {f6 : Addr} {od6 an6 : Option Addr} {sl6 : Array (Option Value)} {oc6 kV6 dc6 pm6 cd6 ct6 : Value}
    {f7 : Addr} {od7 an7 : Option Addr} {sl7 : Array (Option Value)} {oc7 kV7 dc7 pm7 cd7 ct7 : Value}
    {f8 : Addr} {od8 an8 : Option Addr} {sl8 : Array (Option Value)} {oc8 kV8 dc8 pm8 cd8 ct8 : Value}
    {f9 : Addr} {od9 an9 : Option Addr} {sl9 : Array (Option Value)} {oc9 kV9 dc9 pm9 cd9 ct9 : Value}
    {f10 : Addr} {od10 an10 : Option Addr} {sl10 : Array (Option Value)} {oc10 kV10 dc10 pm10 cd10 ct10 : Value}
    {f11 : Addr} {od11 an11 : Option Addr} {sl11 : Array (Option Value)} {oc11 kV11 dc11 pm11 cd11 ct11 : Value}
    {f12 : Addr} {od12 an12 : Option Addr} {sl12 : Array (Option Value)} {oc12 kV12 dc12 pm12 cd12 ct12 : Value}
    {f13 : Addr} {od13 an13 : Option Addr} {sl13 : Array (Option Value)} {oc13 kV13 dc13 pm13 cd13 ct13 : Value}
    {f14 : Addr} {od14 an14 : Option Addr} {sl14 : Array (Option Value)} {oc14 kV14 dc14 pm14 cd14 ct14 : Value}
    {f15 : Addr} {od15 an15 : Option Addr} {sl15 : Array (Option Value)} {oc15 kV15 dc15 pm15 cd15 ct15 : Value}
    {f16 : Addr} {od16 an16 : Option Addr} {sl16 : Array (Option Value)} {oc16 kV16 dc16 pm16 cd16 ct16 : Value}
    {f17 : Addr} {od17 an17 : Option Addr} {sl17 : Array (Option Value)} {oc17 kV17 dc17 pm17 cd17 ct17 : Value}
    {f18 : Addr} {od18 an18 : Option Addr} {sl18 : Array (Option Value)} {oc18 kV18 dc18 pm18 cd18 ct18 : Value}
    {f19 : Addr} {od19 an19 : Option Addr} {sl19 : Array (Option Value)} {oc19 kV19 dc19 pm19 cd19 ct19 : Value}
    {f20 : Addr} {od20 an20 : Option Addr} {sl20 : Array (Option Value)} {oc20 kV20 dc20 pm20 cd20 ct20 : Value}
    {f21 : Addr} {od21 an21 : Option Addr} {sl21 : Array (Option Value)} {oc21 kV21 dc21 pm21 cd21 ct21 : Value}
    {f22 : Addr} {od22 an22 : Option Addr} {sl22 : Array (Option Value)} {oc22 kV22 dc22 pm22 cd22 ct22 : Value}
    {f23 : Addr} {od23 an23 : Option Addr} {sl23 : Array (Option Value)} {oc23 kV23 dc23 pm23 cd23 ct23 : Value}
    {f24 : Addr} {od24 an24 : Option Addr} {sl24 : Array (Option Value)} {oc24 kV24 dc24 pm24 cd24 ct24 : Value}
    {f25 : Addr} {od25 an25 : Option Addr} {sl25 : Array (Option Value)} {oc25 kV25 dc25 pm25 cd25 ct25 : Value}
    {f26 : Addr} {od26 an26 : Option Addr} {sl26 : Array (Option Value)} {oc26 kV26 dc26 pm26 cd26 ct26 : Value}
    {f27 : Addr} {od27 an27 : Option Addr} {sl27 : Array (Option Value)} {oc27 kV27 dc27 pm27 cd27 ct27 : Value}
    {f28 : Addr} {od28 an28 : Option Addr} {sl28 : Array (Option Value)} {oc28 kV28 dc28 pm28 cd28 ct28 : Value}
    {f29 : Addr} {od29 an29 : Option Addr} {sl29 : Array (Option Value)} {oc29 kV29 dc29 pm29 cd29 ct29 : Value}
    {f30 : Addr} {od30 an30 : Option Addr} {sl30 : Array (Option Value)} {oc30 kV30 dc30 pm30 cd30 ct30 : Value}
    {f31 : Addr} {od31 an31 : Option Addr} {sl31 : Array (Option Value)} {oc31 kV31 dc31 pm31 cd31 ct31 : Value}
    {f32 : Addr} {od32 an32 : Option Addr} {sl32 : Array (Option Value)} {oc32 kV32 dc32 pm32 cd32 ct32 : Value}
    {f33 : Addr} {od33 an33 : Option Addr} {sl33 : Array (Option Value)} {oc33 kV33 dc33 pm33 cd33 ct33 : Value}
    {tLEASTDIGITS : Tok}
    {tMOSTDIGITS : Tok}
    {tMOSTSTATES : Tok}
    {tMOSTWIDE : Tok}
    {tLONGEST : Tok}
    {tMOSTSTRINGS : Tok}
    {tMOSTMEMBERS : Tok}
    {tSMALL : Tok}
    {tLARGE : Tok}
    {tORDER : Tok}
    {f34 : Addr} {od34 an34 : Option Addr} {sl34 : Array (Option Value)} {oc34 kV34 dc34 pm34 cd34 ct34 : Value}
    (a1 : PySem.W.nsIn K mainGlobals "_is_row" = some (some (.ref f1)))
    (l1 : K.lookup f1 = some ⟨oc1, od1, .func (PySem.W.fnOf "_is_row" "_is_row" (defArgs sIsRow) (defBody sIsRow) (defScope sIsRow) .none kV1 dc1 pm1 an1 cd1 ct1), sl1⟩)
    (c1 : PySem.W.codeIn K cd1 "_is_row" = true)
    (k1 : PySem.W.keepIn K (.ref f1) = true)
    (a2 : PySem.W.nsIn K mainGlobals "is_wide" = some (some (.ref f2)))
    (l2 : K.lookup f2 = some ⟨oc2, od2, .func (PySem.W.fnOf "is_wide" "is_wide" (defArgs sIsWide) (defBody sIsWide) (defScope sIsWide) .none kV2 dc2 pm2 an2 cd2 ct2), sl2⟩)
    (c2 : PySem.W.codeIn K cd2 "is_wide" = true)
    (k2 : PySem.W.keepIn K (.ref f2) = true)
    (a3 : PySem.W.nsIn K mainGlobals "is_machine" = some (some (.ref f3)))
    (l3 : K.lookup f3 = some ⟨oc3, od3, .func (PySem.W.fnOf "is_machine" "is_machine" (defArgs sIsMach) (defBody sIsMach) (defScope sIsMach) .none kV3 dc3 pm3 an3 cd3 ct3), sl3⟩)
    (c3 : PySem.W.codeIn K cd3 "is_machine" = true)
    (k3 : PySem.W.keepIn K (.ref f3) = true)
    (a4 : PySem.W.nsIn K mainGlobals "check_machine" = some (some (.ref f4)))
    (l4 : K.lookup f4 = some ⟨oc4, od4, .func (PySem.W.fnOf "check_machine" "check_machine" (defArgs sChMach) (defBody sChMach) (defScope sChMach) .none kV4 dc4 pm4 an4 cd4 ct4), sl4⟩)
    (c4 : PySem.W.codeIn K cd4 "check_machine" = true)
    (k4 : PySem.W.keepIn K (.ref f4) = true)
    (a5 : PySem.W.nsIn K mainGlobals "other" = some (some (.ref f5)))
    (l5 : K.lookup f5 = some ⟨oc5, od5, .func (PySem.W.fnOf "other" "other" (defArgs sOther) (defBody sOther) (defScope sOther) .none kV5 dc5 pm5 an5 cd5 ct5), sl5⟩)
    (c5 : PySem.W.codeIn K cd5 "other" = true)
    (k5 : PySem.W.keepIn K (.ref f5) = true)
    (a6 : PySem.W.nsIn K mainGlobals "letters_of" = some (some (.ref f6)))
    (l6 : K.lookup f6 = some ⟨oc6, od6, .func (PySem.W.fnOf "letters_of" "letters_of" (defArgs sLettersOf) (defBody sLettersOf) (defScope sLettersOf) .none kV6 dc6 pm6 an6 cd6 ct6), sl6⟩)
    (c6 : PySem.W.codeIn K cd6 "letters_of" = true)
    (k6 : PySem.W.keepIn K (.ref f6) = true)
    (a7 : PySem.W.nsIn K mainGlobals "is_word" = some (some (.ref f7)))
    (l7 : K.lookup f7 = some ⟨oc7, od7, .func (PySem.W.fnOf "is_word" "is_word" (defArgs sIsWord) (defBody sIsWord) (defScope sIsWord) .none kV7 dc7 pm7 an7 cd7 ct7), sl7⟩)
    (c7 : PySem.W.codeIn K cd7 "is_word" = true)
    (k7 : PySem.W.keepIn K (.ref f7) = true)
    (a8 : PySem.W.nsIn K mainGlobals "cut" = some (some (.ref f8)))
    (l8 : K.lookup f8 = some ⟨oc8, od8, .func (PySem.W.fnOf "cut" "cut" (defArgs sCut) (defBody sCut) (defScope sCut) .none kV8 dc8 pm8 an8 cd8 ct8), sl8⟩)
    (c8 : PySem.W.codeIn K cd8 "cut" = true)
    (k8 : PySem.W.keepIn K (.ref f8) = true)
    (a9 : PySem.W.nsIn K mainGlobals "refuse_word" = some (some (.ref f9)))
    (l9 : K.lookup f9 = some ⟨oc9, od9, .func (PySem.W.fnOf "refuse_word" "refuse_word" (defArgs sRefWord) (defBody sRefWord) (defScope sRefWord) .none kV9 dc9 pm9 an9 cd9 ct9), sl9⟩)
    (c9 : PySem.W.codeIn K cd9 "refuse_word" = true)
    (k9 : PySem.W.keepIn K (.ref f9) = true)
    (a10 : PySem.W.nsIn K mainGlobals "check_word" = some (some (.ref f10)))
    (l10 : K.lookup f10 = some ⟨oc10, od10, .func (PySem.W.fnOf "check_word" "check_word" (defArgs sChWord) (defBody sChWord) (defScope sChWord) .none kV10 dc10 pm10 an10 cd10 ct10), sl10⟩)
    (c10 : PySem.W.codeIn K cd10 "check_word" = true)
    (k10 : PySem.W.keepIn K (.ref f10) = true)
    (a11 : PySem.W.nsIn K mainGlobals "check_level" = some (some (.ref f11)))
    (l11 : K.lookup f11 = some ⟨oc11, od11, .func (PySem.W.fnOf "check_level" "check_level" (defArgs sChLevel) (defBody sChLevel) (defScope sChLevel) .none kV11 dc11 pm11 an11 cd11 ct11), sl11⟩)
    (c11 : PySem.W.codeIn K cd11 "check_level" = true)
    (k11 : PySem.W.keepIn K (.ref f11) = true)
    (a12 : PySem.W.nsIn K mainGlobals "power_of" = some (some (.ref f12)))
    (l12 : K.lookup f12 = some ⟨oc12, od12, .func (PySem.W.fnOf "power_of" "power_of" (defArgs sPowerOf) (defBody sPowerOf) (defScope sPowerOf) .none kV12 dc12 pm12 an12 cd12 ct12), sl12⟩)
    (c12 : PySem.W.codeIn K cd12 "power_of" = true)
    (k12 : PySem.W.keepIn K (.ref f12) = true)
    (a13 : PySem.W.nsIn K mainGlobals "spread" = some (some (.ref f13)))
    (l13 : K.lookup f13 = some ⟨oc13, od13, .func (PySem.W.fnOf "spread" "spread" (defArgs sSpread) (defBody sSpread) (defScope sSpread) .none kV13 dc13 pm13 an13 cd13 ct13), sl13⟩)
    (c13 : PySem.W.codeIn K cd13 "spread" = true)
    (k13 : PySem.W.keepIn K (.ref f13) = true)
    (a14 : PySem.W.nsIn K mainGlobals "check_call" = some (some (.ref f14)))
    (l14 : K.lookup f14 = some ⟨oc14, od14, .func (PySem.W.fnOf "check_call" "check_call" (defArgs sChCall) (defBody sChCall) (defScope sChCall) .none kV14 dc14 pm14 an14 cd14 ct14), sl14⟩)
    (c14 : PySem.W.codeIn K cd14 "check_call" = true)
    (k14 : PySem.W.keepIn K (.ref f14) = true)
    (a15 : PySem.W.nsIn K mainGlobals "level_permutation" = some (some (.ref f15)))
    (l15 : K.lookup f15 = some ⟨oc15, od15, .func (PySem.W.fnOf "level_permutation" "level_permutation" (defArgs sLevelP) (defBody sLevelP) (defScope sLevelP) .none kV15 dc15 pm15 an15 cd15 ct15), sl15⟩)
    (c15 : PySem.W.codeIn K cd15 "level_permutation" = true)
    (k15 : PySem.W.keepIn K (.ref f15) = true)
    (a16 : PySem.W.nsIn K mainGlobals "permutations" = some (some (.ref f16)))
    (l16 : K.lookup f16 = some ⟨oc16, od16, .func (PySem.W.fnOf "permutations" "permutations" (defArgs sPerms) (defBody sPerms) (defScope sPerms) .none kV16 dc16 pm16 an16 cd16 ct16), sl16⟩)
    (c16 : PySem.W.codeIn K cd16 "permutations" = true)
    (k16 : PySem.W.keepIn K (.ref f16) = true)
    (a17 : PySem.W.nsIn K mainGlobals "orbits_of" = some (some (.ref f17)))
    (l17 : K.lookup f17 = some ⟨oc17, od17, .func (PySem.W.fnOf "orbits_of" "orbits_of" (defArgs sOrbOf) (defBody sOrbOf) (defScope sOrbOf) .none kV17 dc17 pm17 an17 cd17 ct17), sl17⟩)
    (c17 : PySem.W.codeIn K cd17 "orbits_of" = true)
    (k17 : PySem.W.keepIn K (.ref f17) = true)
    (a18 : PySem.W.nsIn K mainGlobals "reached" = some (some (.ref f18)))
    (l18 : K.lookup f18 = some ⟨oc18, od18, .func (PySem.W.fnOf "reached" "reached" (defArgs sReached) (defBody sReached) (defScope sReached) .none kV18 dc18 pm18 an18 cd18 ct18), sl18⟩)
    (c18 : PySem.W.codeIn K cd18 "reached" = true)
    (k18 : PySem.W.keepIn K (.ref f18) = true)
    (a19 : PySem.W.nsIn K mainGlobals "orbits" = some (some (.ref f19)))
    (l19 : K.lookup f19 = some ⟨oc19, od19, .func (PySem.W.fnOf "orbits" "orbits" (defArgs sOrbits) (defBody sOrbits) (defScope sOrbits) .none kV19 dc19 pm19 an19 cd19 ct19), sl19⟩)
    (c19 : PySem.W.codeIn K cd19 "orbits" = true)
    (k19 : PySem.W.keepIn K (.ref f19) = true)
    (a20 : PySem.W.nsIn K mainGlobals "all_products" = some (some (.ref f20)))
    (l20 : K.lookup f20 = some ⟨oc20, od20, .func (PySem.W.fnOf "all_products" "all_products" (defArgs sAllProd) (defBody sAllProd) (defScope sAllProd) .none kV20 dc20 pm20 an20 cd20 ct20), sl20⟩)
    (c20 : PySem.W.codeIn K cd20 "all_products" = true)
    (k20 : PySem.W.keepIn K (.ref f20) = true)
    (a21 : PySem.W.nsIn K mainGlobals "members" = some (some (.ref f21)))
    (l21 : K.lookup f21 = some ⟨oc21, od21, .func (PySem.W.fnOf "members" "members" (defArgs sMembers) (defBody sMembers) (defScope sMembers) .none kV21 dc21 pm21 an21 cd21 ct21), sl21⟩)
    (c21 : PySem.W.codeIn K cd21 "members" = true)
    (k21 : PySem.W.keepIn K (.ref f21) = true)
    (a22 : PySem.W.nsIn K mainGlobals "size" = some (some (.ref f22)))
    (l22 : K.lookup f22 = some ⟨oc22, od22, .func (PySem.W.fnOf "size" "size" (defArgs sSize) (defBody sSize) (defScope sSize) .none kV22 dc22 pm22 an22 cd22 ct22), sl22⟩)
    (c22 : PySem.W.codeIn K cd22 "size" = true)
    (k22 : PySem.W.keepIn K (.ref f22) = true)
    (a23 : PySem.W.nsIn K mainGlobals "keepers" = some (some (.ref f23)))
    (l23 : K.lookup f23 = some ⟨oc23, od23, .func (PySem.W.fnOf "keepers" "keepers" (defArgs sKeepers) (defBody sKeepers) (defScope sKeepers) .none kV23 dc23 pm23 an23 cd23 ct23), sl23⟩)
    (c23 : PySem.W.codeIn K cd23 "keepers" = true)
    (k23 : PySem.W.keepIn K (.ref f23) = true)
    (a24 : PySem.W.nsIn K mainGlobals "_law_number" = some (some (.ref f24)))
    (l24 : K.lookup f24 = some ⟨oc24, od24, .func (PySem.W.fnOf "_law_number" "_law_number" (defArgs sNum) (defBody sNum) (defScope sNum) .none kV24 dc24 pm24 an24 cd24 ct24), sl24⟩)
    (c24 : PySem.W.codeIn K cd24 "_law_number" = true)
    (k24 : PySem.W.keepIn K (.ref f24) = true)
    (a25 : PySem.W.nsIn K mainGlobals "_law_draws" = some (some (.ref f25)))
    (l25 : K.lookup f25 = some ⟨oc25, od25, .func (PySem.W.fnOf "_law_draws" "_law_draws" (defArgs sDraws) (defBody sDraws) (defScope sDraws) .none kV25 dc25 pm25 an25 cd25 ct25), sl25⟩)
    (c25 : PySem.W.codeIn K cd25 "_law_draws" = true)
    (k25 : PySem.W.keepIn K (.ref f25) = true)
    (a26 : PySem.W.nsIn K mainGlobals "_law_next" = some (some (.ref f26)))
    (l26 : K.lookup f26 = some ⟨oc26, od26, .func (PySem.W.fnOf "_law_next" "_law_next" (defArgs sNext) (defBody sNext) (defScope sNext) .none kV26 dc26 pm26 an26 cd26 ct26), sl26⟩)
    (c26 : PySem.W.codeIn K cd26 "_law_next" = true)
    (k26 : PySem.W.keepIn K (.ref f26) = true)
    (a27 : PySem.W.nsIn K mainGlobals "_law_machine" = some (some (.ref f27)))
    (l27 : K.lookup f27 = some ⟨oc27, od27, .func (PySem.W.fnOf "_law_machine" "_law_machine" (defArgs sLmach) (defBody sLmach) (defScope sLmach) .none kV27 dc27 pm27 an27 cd27 ct27), sl27⟩)
    (c27 : PySem.W.codeIn K cd27 "_law_machine" = true)
    (k27 : PySem.W.keepIn K (.ref f27) = true)
    (a28 : PySem.W.nsIn K mainGlobals "_law_word" = some (some (.ref f28)))
    (l28 : K.lookup f28 = some ⟨oc28, od28, .func (PySem.W.fnOf "_law_word" "_law_word" (defArgs sLword) (defBody sLword) (defScope sLword) .none kV28 dc28 pm28 an28 cd28 ct28), sl28⟩)
    (c28 : PySem.W.codeIn K cd28 "_law_word" = true)
    (k28 : PySem.W.keepIn K (.ref f28) = true)
    (a29 : PySem.W.nsIn K mainGlobals "_law_undone" = some (some (.ref f29)))
    (l29 : K.lookup f29 = some ⟨oc29, od29, .func (PySem.W.fnOf "_law_undone" "_law_undone" (defArgs sUndone) (defBody sUndone) (defScope sUndone) .none kV29 dc29 pm29 an29 cd29 ct29), sl29⟩)
    (c29 : PySem.W.codeIn K cd29 "_law_undone" = true)
    (k29 : PySem.W.keepIn K (.ref f29) = true)
    (a30 : PySem.W.nsIn K mainGlobals "_law_strings" = some (some (.ref f30)))
    (l30 : K.lookup f30 = some ⟨oc30, od30, .func (PySem.W.fnOf "_law_strings" "_law_strings" (defArgs sStrings) (defBody sStrings) (defScope sStrings) .none kV30 dc30 pm30 an30 cd30 ct30), sl30⟩)
    (c30 : PySem.W.codeIn K cd30 "_law_strings" = true)
    (k30 : PySem.W.keepIn K (.ref f30) = true)
    (aC : PySem.W.nsIn K mainGlobals "Actor" = some (some (.ref C)))
    (a31 : PySem.W.findIn K (.ref C) "__init__" = some (some (.ref f31)))
    (i31 : PySem.W.isFn K (.ref f31) = true)
    (l31 : K.lookup f31 = some ⟨oc31, od31, .func (PySem.W.fnOf "__init__" "Actor.__init__" (defArgs sInit) (defBody sInit) (defScope sInit) .none kV31 dc31 pm31 an31 cd31 ct31), sl31⟩)
    (c31 : PySem.W.codeIn K cd31 "Actor.__init__" = true)
    (k31 : PySem.W.keepIn K (.ref f31) = true)
    (a32 : PySem.W.findIn K (.ref C) "step" = some (some (.ref f32)))
    (i32 : PySem.W.isFn K (.ref f32) = true)
    (l32 : K.lookup f32 = some ⟨oc32, od32, .func (PySem.W.fnOf "step" "Actor.step" (defArgs sStep) (defBody sStep) (defScope sStep) .none kV32 dc32 pm32 an32 cd32 ct32), sl32⟩)
    (c32 : PySem.W.codeIn K cd32 "Actor.step" = true)
    (k32 : PySem.W.keepIn K (.ref f32) = true)
    (a33 : PySem.W.findIn K (.ref C) "row" = some (some (.ref f33)))
    (i33 : PySem.W.isFn K (.ref f33) = true)
    (l33 : K.lookup f33 = some ⟨oc33, od33, .func (PySem.W.fnOf "row" "Actor.row" (defArgs sRow) (defBody sRow) (defScope sRow) .none kV33 dc33 pm33 an33 cd33 ct33), sl33⟩)
    (c33 : PySem.W.codeIn K cd33 "Actor.row" = true)
    (k33 : PySem.W.keepIn K (.ref f33) = true)
    (pg : PySem.W.plainGet K C Str.empty = true)
    (hd : PySem.W.hasDictIn K C = true)
    (po : PySem.W.plainOver K C = true)
    (sa : PySem.W.findIn K (.ref C) "__setattr__" = some (some (.builtin "object.__setattr__")))
    (nS : PySem.W.findIn K (.ref C) "size" = some none)
    (nT : PySem.W.findIn K (.ref C) "table" = some none)
    (mk : PySem.W.makesIn K C = true)
    (kc : PySem.W.keepIn K (.ref C) = true)
    (vLEASTDIGITS : PySem.W.nsIn K mainGlobals "LEAST_DIGITS" = some (some (.int 2 tLEASTDIGITS)))
    (vMOSTDIGITS : PySem.W.nsIn K mainGlobals "MOST_DIGITS" = some (some (.int 4 tMOSTDIGITS)))
    (vMOSTSTATES : PySem.W.nsIn K mainGlobals "MOST_STATES" = some (some (.int 8 tMOSTSTATES)))
    (vMOSTWIDE : PySem.W.nsIn K mainGlobals "MOST_WIDE" = some (some (.int 200 tMOSTWIDE)))
    (vLONGEST : PySem.W.nsIn K mainGlobals "LONGEST" = some (some (.int 60 tLONGEST)))
    (vMOSTSTRINGS : PySem.W.nsIn K mainGlobals "MOST_STRINGS" = some (some (.int 4096 tMOSTSTRINGS)))
    (vMOSTMEMBERS : PySem.W.nsIn K mainGlobals "MOST_MEMBERS" = some (some (.int 5000 tMOSTMEMBERS)))
    (vSMALL : PySem.W.nsIn K mainGlobals "SMALL" = some (some (.str "abcdefgh" tSMALL)))
    (vLARGE : PySem.W.nsIn K mainGlobals "LARGE" = some (some (.str "ABCDEFGH" tLARGE)))
    (vORDER : PySem.W.nsIn K mainGlobals "ORDER" = some (some (.str "aAbBcCdDeEfFgGhH" tORDER)))
    (bLen : PySem.W.nsIn K mainGlobals "len" = some none)
    (bSorted : PySem.W.nsIn K mainGlobals "sorted" = some none)
    (bList : PySem.W.nsIn K mainGlobals "list" = some none)
    (bRange : PySem.W.nsIn K mainGlobals "range" = some none)
    (bAll : PySem.W.nsIn K mainGlobals "all" = some none)
    (bEnumerate : PySem.W.nsIn K mainGlobals "enumerate" = some none)
    (bTuple : PySem.W.nsIn K mainGlobals "tuple" = some none)
    (bZip : PySem.W.nsIn K mainGlobals "zip" = some none)
    (bInt : PySem.W.nsIn K mainGlobals "int" = some none)
    (bStr : PySem.W.nsIn K mainGlobals "str" = some none)
    (a34 : PySem.W.nsIn K mainGlobals "law" = some (some (.ref f34)))
    (l34 : K.lookup f34 = some ⟨oc34, od34, .func (PySem.W.fnOf "law" "law" (defArgs sLaw) (defBody sLaw) (defScope sLaw) .none kV34 dc34 pm34 an34 cd34 ct34), sl34⟩)
    (c34 : PySem.W.codeIn K cd34 "law" = true)
    (k34 : PySem.W.keepIn K (.ref f34) = true)
    : ∃ fd : FuncData, (∀ (s : Shared) (v : Value), BindsTo s fd ⟨[v], []⟩ [("_law_script", v)]) ∧ ∀ base : Heap, K.In base → base.Ns mainGlobals mg → FnOk l.prog w K mg base CX0 9 fa fd ["_law_script"] (spLaw K) := by
  have e := hfa.symm.trans (PySem.W.mg_of X G a34)
  cases e
  let T : Tab K mg := {
    fIsRow := f1
    dIsRow := _
    isRow := ⟨PySem.W.mg_of X G a1, fun_mk (st := sIsRow) l1 c1 k1, (fun_mk (st := sIsRow) l1 c1 k1).binds (ps := ["row", "k", "count"]) (fun _ _ _ _ _ _ us hl => match us, hl with | [_, _, _], _ => rfl)⟩
    fIsWide := f2
    dIsWide := _
    isWide := ⟨PySem.W.mg_of X G a2, fun_mk (st := sIsWide) l2 c2 k2, (fun_mk (st := sIsWide) l2 c2 k2).binds (ps := ["machine"]) (fun _ _ _ _ _ _ us hl => match us, hl with | [_], _ => rfl)⟩
    fIsMach := f3
    dIsMach := _
    isMach := ⟨PySem.W.mg_of X G a3, fun_mk (st := sIsMach) l3 c3 k3, (fun_mk (st := sIsMach) l3 c3 k3).binds (ps := ["machine"]) (fun _ _ _ _ _ _ us hl => match us, hl with | [_], _ => rfl)⟩
    fChMach := f4
    dChMach := _
    chMach := ⟨PySem.W.mg_of X G a4, fun_mk (st := sChMach) l4 c4 k4, (fun_mk (st := sChMach) l4 c4 k4).binds (ps := ["machine"]) (fun _ _ _ _ _ _ us hl => match us, hl with | [_], _ => rfl)⟩
    fOther := f5
    dOther := _
    other := ⟨PySem.W.mg_of X G a5, fun_mk (st := sOther) l5 c5 k5, (fun_mk (st := sOther) l5 c5 k5).binds (ps := ["letter"]) (fun _ _ _ _ _ _ us hl => match us, hl with | [_], _ => rfl)⟩
    fLettersOf := f6
    dLettersOf := _
    lettersOf := ⟨PySem.W.mg_of X G a6, fun_mk (st := sLettersOf) l6 c6 k6, (fun_mk (st := sLettersOf) l6 c6 k6).binds (ps := ["machine"]) (fun _ _ _ _ _ _ us hl => match us, hl with | [_], _ => rfl)⟩
    fIsWord := f7
    dIsWord := _
    isWord := ⟨PySem.W.mg_of X G a7, fun_mk (st := sIsWord) l7 c7 k7, (fun_mk (st := sIsWord) l7 c7 k7).binds (ps := ["machine", "word"]) (fun _ _ _ _ _ _ us hl => match us, hl with | [_, _], _ => rfl)⟩
    fCut := f8
    dCut := _
    cut := ⟨PySem.W.mg_of X G a8, fun_mk (st := sCut) l8 c8 k8, (fun_mk (st := sCut) l8 c8 k8).binds (ps := ["word"]) (fun _ _ _ _ _ _ us hl => match us, hl with | [_], _ => rfl)⟩
    fRefWord := f9
    dRefWord := _
    refWord := ⟨PySem.W.mg_of X G a9, fun_mk (st := sRefWord) l9 c9 k9, (fun_mk (st := sRefWord) l9 c9 k9).binds (ps := ["machine", "word"]) (fun _ _ _ _ _ _ us hl => match us, hl with | [_, _], _ => rfl)⟩
    fChWord := f10
    dChWord := _
    chWord := ⟨PySem.W.mg_of X G a10, fun_mk (st := sChWord) l10 c10 k10, (fun_mk (st := sChWord) l10 c10 k10).binds (ps := ["machine", "word"]) (fun _ _ _ _ _ _ us hl => match us, hl with | [_, _], _ => rfl)⟩
    fChLevel := f11
    dChLevel := _
    chLevel := ⟨PySem.W.mg_of X G a11, fun_mk (st := sChLevel) l11 c11 k11, (fun_mk (st := sChLevel) l11 c11 k11).binds (ps := ["k", "level"]) (fun _ _ _ _ _ _ us hl => match us, hl with | [_, _], _ => rfl)⟩
    fPowerOf := f12
    dPowerOf := _
    powerOf := ⟨PySem.W.mg_of X G a12, fun_mk (st := sPowerOf) l12 c12 k12, (fun_mk (st := sPowerOf) l12 c12 k12).binds (ps := ["k", "level"]) (fun _ _ _ _ _ _ us hl => match us, hl with | [_, _], _ => rfl)⟩
    fSpread := f13
    dSpread := _
    spread := ⟨PySem.W.mg_of X G a13, fun_mk (st := sSpread) l13 c13 k13, (fun_mk (st := sSpread) l13 c13 k13).binds (ps := ["machine", "word", "level"]) (fun _ _ _ _ _ _ us hl => match us, hl with | [_, _, _], _ => rfl)⟩
    fChCall := f14
    dChCall := _
    chCall := ⟨PySem.W.mg_of X G a14, fun_mk (st := sChCall) l14 c14 k14, (fun_mk (st := sChCall) l14 c14 k14).binds (ps := ["machine", "words", "level"]) (fun _ _ _ _ _ _ us hl => match us, hl with | [_, _, _], _ => rfl)⟩
    fLevelP := f15
    dLevelP := _
    levelP := ⟨PySem.W.mg_of X G a15, fun_mk (st := sLevelP) l15 c15 k15, (fun_mk (st := sLevelP) l15 c15 k15).binds (ps := ["machine", "word", "level"]) (fun _ _ _ _ _ _ us hl => match us, hl with | [_, _, _], _ => rfl)⟩
    fPerms := f16
    dPerms := _
    perms := ⟨PySem.W.mg_of X G a16, fun_mk (st := sPerms) l16 c16 k16, (fun_mk (st := sPerms) l16 c16 k16).binds (ps := ["machine", "words", "level"]) (fun _ _ _ _ _ _ us hl => match us, hl with | [_, _, _], _ => rfl)⟩
    fOrbOf := f17
    dOrbOf := _
    orbOf := ⟨PySem.W.mg_of X G a17, fun_mk (st := sOrbOf) l17 c17 k17, (fun_mk (st := sOrbOf) l17 c17 k17).binds (ps := ["size", "steps"]) (fun _ _ _ _ _ _ us hl => match us, hl with | [_, _], _ => rfl)⟩
    fReached := f18
    dReached := _
    reached := ⟨PySem.W.mg_of X G a18, fun_mk (st := sReached) l18 c18 k18, (fun_mk (st := sReached) l18 c18 k18).binds (ps := ["start", "steps", "met"]) (fun _ _ _ _ _ _ us hl => match us, hl with | [_, _, _], _ => rfl)⟩
    fOrbits := f19
    dOrbits := _
    orbits := ⟨PySem.W.mg_of X G a19, fun_mk (st := sOrbits) l19 c19 k19, (fun_mk (st := sOrbits) l19 c19 k19).binds (ps := ["machine", "words", "level"]) (fun _ _ _ _ _ _ us hl => match us, hl with | [_, _, _], _ => rfl)⟩
    fAllProd := f20
    dAllProd := _
    allProd := ⟨PySem.W.mg_of X G a20, fun_mk (st := sAllProd) l20 c20 k20, (fun_mk (st := sAllProd) l20 c20 k20).binds (ps := ["rest", "steps"]) (fun _ _ _ _ _ _ us hl => match us, hl with | [_, _], _ => rfl)⟩
    fMembers := f21
    dMembers := _
    members := ⟨PySem.W.mg_of X G a21, fun_mk (st := sMembers) l21 c21 k21, (fun_mk (st := sMembers) l21 c21 k21).binds (ps := ["machine", "words", "level"]) (fun _ _ _ _ _ _ us hl => match us, hl with | [_, _, _], _ => rfl)⟩
    fSize := f22
    dSize := _
    size := ⟨PySem.W.mg_of X G a22, fun_mk (st := sSize) l22 c22 k22, (fun_mk (st := sSize) l22 c22 k22).binds (ps := ["machine", "words", "level"]) (fun _ _ _ _ _ _ us hl => match us, hl with | [_, _, _], _ => rfl)⟩
    fKeepers := f23
    dKeepers := _
    keepers := ⟨PySem.W.mg_of X G a23, fun_mk (st := sKeepers) l23 c23 k23, (fun_mk (st := sKeepers) l23 c23 k23).binds (ps := ["machine", "words", "level", "number"]) (fun _ _ _ _ _ _ us hl => match us, hl with | [_, _, _, _], _ => rfl)⟩
    fNum := f24
    dNum := _
    num := ⟨PySem.W.mg_of X G a24, fun_mk (st := sNum) l24 c24 k24, (fun_mk (st := sNum) l24 c24 k24).binds (ps := ["_law_cell"]) (fun _ _ _ _ _ _ us hl => match us, hl with | [_], _ => rfl)⟩
    fDraws := f25
    dDraws := _
    draws := ⟨PySem.W.mg_of X G a25, fun_mk (st := sDraws) l25 c25 k25, (fun_mk (st := sDraws) l25 c25 k25).binds (ps := ["_law_script"]) (fun _ _ _ _ _ _ us hl => match us, hl with | [_], _ => rfl)⟩
    fNext := f26
    dNext := _
    next := ⟨PySem.W.mg_of X G a26, fun_mk (st := sNext) l26 c26 k26, (fun_mk (st := sNext) l26 c26 k26).binds (ps := ["_law_draws_here"]) (fun _ _ _ _ _ _ us hl => match us, hl with | [_], _ => rfl)⟩
    fLmach := f27
    dLmach := _
    lmach := ⟨PySem.W.mg_of X G a27, fun_mk (st := sLmach) l27 c27 k27, (fun_mk (st := sLmach) l27 c27 k27).binds (ps := ["_law_draws_here", "_law_most"]) (fun _ _ _ _ _ _ us hl => match us, hl with | [_, _], _ => rfl)⟩
    fLword := f28
    dLword := _
    lword := ⟨PySem.W.mg_of X G a28, fun_mk (st := sLword) l28 c28 k28, (fun_mk (st := sLword) l28 c28 k28).binds (ps := ["_law_draws_here", "_law_machine_here", "_law_most"]) (fun _ _ _ _ _ _ us hl => match us, hl with | [_, _, _], _ => rfl)⟩
    fUndone := f29
    dUndone := _
    undone := ⟨PySem.W.mg_of X G a29, fun_mk (st := sUndone) l29 c29 k29, (fun_mk (st := sUndone) l29 c29 k29).binds (ps := ["_law_word_here"]) (fun _ _ _ _ _ _ us hl => match us, hl with | [_], _ => rfl)⟩
    fStrings := f30
    dStrings := _
    strings := ⟨PySem.W.mg_of X G a30, fun_mk (st := sStrings) l30 c30 k30, (fun_mk (st := sStrings) l30 c30 k30).binds (ps := ["_law_k", "_law_level_here"]) (fun _ _ _ _ _ _ us hl => match us, hl with | [_, _], _ => rfl)⟩
    C := C
    fInit := f31
    dInit := _
    init := ⟨fun_mk (st := sInit) l31 c31 k31, (fun_mk (st := sInit) l31 c31 k31).binds (ps := ["self", "machine"]) (fun _ _ _ _ _ _ us hl => match us, hl with | [_, _], _ => rfl)⟩
    fStep := f32
    dStep := _
    step := ⟨fun_mk (st := sStep) l32 c32 k32, (fun_mk (st := sStep) l32 c32 k32).binds (ps := ["self", "word", "digit"]) (fun _ _ _ _ _ _ us hl => match us, hl with | [_, _, _], _ => rfl)⟩
    fRow := f33
    dRow := _
    row := ⟨fun_mk (st := sRow) l33 c33 k33, (fun_mk (st := sRow) l33 c33 k33).binds (ps := ["self", "word"]) (fun _ _ _ _ _ _ us hl => match us, hl with | [_, _], _ => rfl)⟩
    cl := ⟨pg, hd, po, sa⟩
    nSize := nS
    nTable := nT
    mgC := PySem.W.mg_of X G aC
    mkC := ⟨mk, a31, i31, kc⟩
    mStep := ⟨a32, i32, k32⟩
    mRow := ⟨a33, i33, k33⟩
    cLEASTDIGITS := ⟨_, PySem.W.mg_of X G vLEASTDIGITS⟩
    cMOSTDIGITS := ⟨_, PySem.W.mg_of X G vMOSTDIGITS⟩
    cMOSTSTATES := ⟨_, PySem.W.mg_of X G vMOSTSTATES⟩
    cMOSTWIDE := ⟨_, PySem.W.mg_of X G vMOSTWIDE⟩
    cLONGEST := ⟨_, PySem.W.mg_of X G vLONGEST⟩
    cMOSTSTRINGS := ⟨_, PySem.W.mg_of X G vMOSTSTRINGS⟩
    cMOSTMEMBERS := ⟨_, PySem.W.mg_of X G vMOSTMEMBERS⟩
    cSMALL := ⟨_, PySem.W.mg_of X G vSMALL⟩
    cLARGE := ⟨_, PySem.W.mg_of X G vLARGE⟩
    cORDER := ⟨_, PySem.W.mg_of X G vORDER⟩
    bLen := PySem.W.mg_none_of X G bLen
    bSorted := PySem.W.mg_none_of X G bSorted
    bList := PySem.W.mg_none_of X G bList
    bRange := PySem.W.mg_none_of X G bRange
    bAll := PySem.W.mg_none_of X G bAll
    bEnumerate := PySem.W.mg_none_of X G bEnumerate
    bTuple := PySem.W.mg_none_of X G bTuple
    bZip := PySem.W.mg_none_of X G bZip
    bInt := PySem.W.mg_none_of X G bInt
    bStr := PySem.W.mg_none_of X G bStr }
  exact ⟨_, fun s v => .of_eq rfl, fun base _ _ => ok_law T (fun_mk (st := sLaw) l34 c34 k34)⟩
theorem walk {l : PySem.W.OpenLaw} {q : Program} {loose : List Str} {XP : (Str → Option Value) → Heap → Prop} {YP : World → Heap → Prop} {d : DefRec} {K : Params → PySem.W.Frag} (hn : l.most = some 63) (hdf : d.params.defaults = [])
    (hY : ∀ (w : World) (h : Heap), YP w h → (K w.params).In h)
    (F : ∀ (w : World) (mg : Str → Option Value) (fa : Addr) (h : Heap), (K w.params).In h → h.Ns mainGlobals mg → mg d.name = some (.ref fa) →
      ∃ fd : FuncData, (∀ (s : Shared) (u : Value), BindsTo s fd ⟨[u], []⟩ [("_law_script", u)]) ∧ ∀ base : Heap, (K w.params).In base → base.Ns mainGlobals mg → FnOk l.prog w (K w.params) mg base CX0 9 fa fd ["_law_script"] (spLaw (K w.params))) :
    PySem.W.WalkO q loose XP YP l.row.toRowW d [] (fun f vs => PySem.call f vs) :=
  L2.walk_of (n := 63) (k := 9) (x := "_law_script") (CX := fun _ => CX0) (sp := fun w => spLaw (K w.params)) hn (by decide) hdf ⟨rfl, by decide, by decide⟩ hY F (fun _ _ a ns hl _ hS => ⟨a, ns, rfl, hS, hl, fun _ => rfl⟩) fun _ _ _ _ _ z => z
end LT
open PySem PySem.W PyProof.Rows
set_option maxRecDepth 100000 in
set_option maxHeartbeats 0 in
theorem PySem.Challenge.cw_leafturner_k42_whole_sizes_of_groups_holds : PySem.Challenge.rw_leafturner_k42_whole_sizes_of_groups.Holds := by
  w_on; o_law; k_head; (case hw => w_witness2)
  k_fill
  refine LT.walk (l := PySem.Challenge.rw_leafturner_k42_whole_sizes_of_groups) rfl rfl (fun w h Y => PySem.W.kIn_of Y) ?F
  case F =>
    intro w mg fa h KX G hmg
    refine' LT.all_mk KX G hmg ?a1 ?l1 ?c1 ?k1 ?a2 ?l2 ?c2 ?k2 ?a3 ?l3 ?c3 ?k3 ?a4 ?l4 ?c4 ?k4 ?a5 ?l5 ?c5 ?k5 ?a6 ?l6 ?c6 ?k6 ?a7 ?l7 ?c7 ?k7 ?a8 ?l8 ?c8 ?k8 ?a9 ?l9 ?c9 ?k9 ?a10 ?l10 ?c10 ?k10 ?a11 ?l11 ?c11 ?k11 ?a12 ?l12 ?c12 ?k12 ?a13 ?l13 ?c13 ?k13 ?a14 ?l14 ?c14 ?k14 ?a15 ?l15 ?c15 ?k15 ?a16 ?l16 ?c16 ?k16 ?a17 ?l17 ?c17 ?k17 ?a18 ?l18 ?c18 ?k18 ?a19 ?l19 ?c19 ?k19 ?a20 ?l20 ?c20 ?k20 ?a21 ?l21 ?c21 ?k21 ?a22 ?l22 ?c22 ?k22 ?a23 ?l23 ?c23 ?k23 ?a24 ?l24 ?c24 ?k24 ?a25 ?l25 ?c25 ?k25 ?a26 ?l26 ?c26 ?k26 ?a27 ?l27 ?c27 ?k27 ?a28 ?l28 ?c28 ?k28 ?a29 ?l29 ?c29 ?k29 ?a30 ?l30 ?c30 ?k30 ?aC ?a31 ?i31 ?l31 ?c31 ?k31 ?a32 ?i32 ?l32 ?c32 ?k32 ?a33 ?i33 ?l33 ?c33 ?k33 ?pg ?hd ?po ?sa ?nS ?nT ?mk ?kc ?vLEASTDIGITS ?vMOSTDIGITS ?vMOSTSTATES ?vMOSTWIDE ?vLONGEST ?vMOSTSTRINGS ?vMOSTMEMBERS ?vSMALL ?vLARGE ?vORDER ?bLen ?bSorted ?bList ?bRange ?bAll ?bEnumerate ?bTuple ?bZip ?bInt ?bStr ?a34 ?l34 ?c34 ?k34
    (case a1 => k_is)
    (case l1 => k_is)
    (case c1 => k_is)
    (case k1 => k_is)
    (case a2 => k_is)
    (case l2 => k_is)
    (case c2 => k_is)
    (case k2 => k_is)
    (case a3 => k_is)
    (case l3 => k_is)
    (case c3 => k_is)
    (case k3 => k_is)
    (case a4 => k_is)
    (case l4 => k_is)
    (case c4 => k_is)
    (case k4 => k_is)
    (case a5 => k_is)
    (case l5 => k_is)
    (case c5 => k_is)
    (case k5 => k_is)
    (case a6 => k_is)
    (case l6 => k_is)
    (case c6 => k_is)
    (case k6 => k_is)
    (case a7 => k_is)
    (case l7 => k_is)
    (case c7 => k_is)
    (case k7 => k_is)
    (case a8 => k_is)
    (case l8 => k_is)
    (case c8 => k_is)
    (case k8 => k_is)
    (case a9 => k_is)
    (case l9 => k_is)
    (case c9 => k_is)
    (case k9 => k_is)
    (case a10 => k_is)
    (case l10 => k_is)
    (case c10 => k_is)
    (case k10 => k_is)
    (case a11 => k_is)
    (case l11 => k_is)
    (case c11 => k_is)
    (case k11 => k_is)
    (case a12 => k_is)
    (case l12 => k_is)
    (case c12 => k_is)
    (case k12 => k_is)
    (case a13 => k_is)
    (case l13 => k_is)
    (case c13 => k_is)
    (case k13 => k_is)
    (case a14 => k_is)
    (case l14 => k_is)
    (case c14 => k_is)
    (case k14 => k_is)
    (case a15 => k_is)
    (case l15 => k_is)
    (case c15 => k_is)
    (case k15 => k_is)
    (case a16 => k_is)
    (case l16 => k_is)
    (case c16 => k_is)
    (case k16 => k_is)
    (case a17 => k_is)
    (case l17 => k_is)
    (case c17 => k_is)
    (case k17 => k_is)
    (case a18 => k_is)
    (case l18 => k_is)
    (case c18 => k_is)
    (case k18 => k_is)
    (case a19 => k_is)
    (case l19 => k_is)
    (case c19 => k_is)
    (case k19 => k_is)
    (case a20 => k_is)
    (case l20 => k_is)
    (case c20 => k_is)
    (case k20 => k_is)
    (case a21 => k_is)
    (case l21 => k_is)
    (case c21 => k_is)
    (case k21 => k_is)
    (case a22 => k_is)
    (case l22 => k_is)
    (case c22 => k_is)
    (case k22 => k_is)
    (case a23 => k_is)
    (case l23 => k_is)
    (case c23 => k_is)
    (case k23 => k_is)
    (case a24 => k_is)
    (case l24 => k_is)
    (case c24 => k_is)
    (case k24 => k_is)
    (case a25 => k_is)
    (case l25 => k_is)
    (case c25 => k_is)
    (case k25 => k_is)
    (case a26 => k_is)
    (case l26 => k_is)
    (case c26 => k_is)
    (case k26 => k_is)
    (case a27 => k_is)
    (case l27 => k_is)
    (case c27 => k_is)
    (case k27 => k_is)
    (case a28 => k_is)
    (case l28 => k_is)
    (case c28 => k_is)
    (case k28 => k_is)
    (case a29 => k_is)
    (case l29 => k_is)
    (case c29 => k_is)
    (case k29 => k_is)
    (case a30 => k_is)
    (case l30 => k_is)
    (case c30 => k_is)
    (case k30 => k_is)
    (case aC => k_is)
    (case a31 => k_is)
    (case i31 => k_is)
    (case l31 => k_is)
    (case c31 => k_is)
    (case k31 => k_is)
    (case a32 => k_is)
    (case i32 => k_is)
    (case l32 => k_is)
    (case c32 => k_is)
    (case k32 => k_is)
    (case a33 => k_is)
    (case i33 => k_is)
    (case l33 => k_is)
    (case c33 => k_is)
    (case k33 => k_is)
    (case pg => k_is)
    (case hd => k_is)
    (case po => k_is)
    (case sa => k_is)
    (case nS => k_is)
    (case nT => k_is)
    (case mk => k_is)
    (case kc => k_is)
    (case vLEASTDIGITS => k_is)
    (case vMOSTDIGITS => k_is)
    (case vMOSTSTATES => k_is)
    (case vMOSTWIDE => k_is)
    (case vLONGEST => k_is)
    (case vMOSTSTRINGS => k_is)
    (case vMOSTMEMBERS => k_is)
    (case vSMALL => k_is)
    (case vLARGE => k_is)
    (case vORDER => k_is)
    (case bLen => k_is)
    (case bSorted => k_is)
    (case bList => k_is)
    (case bRange => k_is)
    (case bAll => k_is)
    (case bEnumerate => k_is)
    (case bTuple => k_is)
    (case bZip => k_is)
    (case bInt => k_is)
    (case bStr => k_is)
    (case a34 => k_is)
    (case l34 => k_is)
    (case c34 => k_is)
    (case k34 => k_is)
