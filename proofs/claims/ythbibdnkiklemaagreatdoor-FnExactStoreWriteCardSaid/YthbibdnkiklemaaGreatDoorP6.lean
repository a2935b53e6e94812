/-
  The abstract layer, the walks and the plain laws that the claim leans on, part 6 of 7 (working texts S24 to S46). It proves lemmas alone; no condition of its own.
-/
import Derived.Test.YthbibdnkiklemaaGreatDoorP5
import Derived.Shelf.Strconv.Itoa3
import Derived.Shelf.Strconv.AtoiAll
import Derived.Shelf.Small.Strs
import Derived.Test.YthbibdnkiklemaaGreatDoorProg
set_option linter.all false
set_option maxRecDepth 20000
section
open Go Go.Abs Go.Proofs
namespace Go.Proofs.S
section
variable {e : Entry} {r all l : List Entry} {n f m k : Nat}
theorem w_swap (g : Nat → List Entry × Nat) (N : Nat) (hN : N ≤ 1048576) (i j : Nat) (hi : i < N) (hj : j < N) : aD P 276 [.ref 1, .raw (.int .i64 (i : Int)), .raw (.int .i64 (j : Int))] [(0, hcE), (1, aE g N)] 2 (.tup []) [(0, hcE), (1, aE (Plain.swpA g i j) N)] 2 := by
  by_cases h : i = j
  · subst h; rw [swpA_eq]; exact w_swap_eq g N hN i hi
  exact w_impl_heads_Swap g N hN i j hi hj h
open Go.Plain (mergeGo mergeAll headsOf bX cM hless)
def hsTo (lists : List (List Entry)) (k : Nat) : List (List Entry × Nat) := (headsOf (lists.take k)).map fun p => (bY p.1, p.2)
theorem hsTo_step {lists : List (List Entry)} (h : lists[k]? = some l) : hsTo lists (k + 1) = hsTo lists k ++ (if l = [] then [] else [(bY l, k)]) := by
  have hk := (List.getElem?_eq_some_iff.1 h).1
  unfold hsTo headsOf; rw [List.take_add_one, h, Option.toList_some, List.zipIdx_append, List.filter_append, List.map_append]
  congr 1
  rw [List.length_take, Nat.min_eq_left (by omega)]
  cases l <;> simp
theorem hsTo_len {lists : List (List Entry)} : ∀ k, (hsTo lists k).length ≤ k := fun k => by
  unfold hsTo headsOf; rw [List.length_map]
  refine Nat.le_trans (List.length_filter_le _ _) ?_
  rw [List.length_zipIdx, List.length_take]; omega
def gOf (hs : List (List Entry × Nat)) : Nat → List Entry × Nat := fun k => hs.getD k ([], 0)
theorem row_gOf (hs : List (List Entry × Nat)) : hs.map hdA = (List.range hs.length).map fun k => hdA (gOf hs k) := by
  refine List.ext_getElem? fun i => ?_
  rw [List.getElem?_map, List.getElem?_map]
  by_cases h : i < hs.length
  · rw [List.getElem?_range h, List.getElem?_eq_getElem h]
    simp [gOf, List.getD_eq_getElem?_getD, List.getElem?_eq_getElem h]
  rw [List.getElem?_eq_none (by omega), List.getElem?_eq_none (by simp; omega)]; rfl
theorem heads_bel (U : Nat → Prop) (ls : List (List Entry × Nat)) : aC U (ls.map hdA) := map_bel (f := hdA) (fun _ _ => headAV_b _ _) U ls
theorem heads_ren (σ : Nat → Nat) (ls : List (List Entry × Nat)) : aA σ (ls.map hdA) = ls.map hdA := cX σ (heads_bel _ ls)
attribute [go_sem] heads_bel heads_ren
theorem sortE_nil : bY l = [] ↔ l = [] := by
  rw [← List.length_eq_zero_iff, sortE_len, List.length_eq_zero_iff]
theorem hsTo_NE (lists : List (List Entry)) (k : Nat) : NE (gOf (hsTo lists k)) (hsTo lists k).length := fun i hi => by
  unfold gOf; rw [List.getD_eq_getElem?_getD, List.getElem?_eq_getElem hi, Option.getD_some]
  have hm := List.getElem_mem hi
  generalize (hsTo lists k)[i] = p at hm
  unfold hsTo headsOf at hm
  obtain ⟨q, hq, rfl⟩ := List.mem_map.1 hm
  have := (List.mem_filter.1 hq).2
  simp only [ne_eq, sortE_nil]
  simpa using this
theorem flatH_gOf (hs : List (List Entry × Nat)) : bX hs.length (gOf hs) = hs.flatMap (·.1) := by
  unfold bX
  congr 1
  refine List.ext_getElem? fun i => ?_
  rw [List.getElem?_map]
  by_cases h : i < hs.length
  · rw [List.getElem?_range h, List.getElem?_eq_getElem h]
    simp [gOf, List.getD_eq_getElem?_getD, List.getElem?_eq_getElem h]
  rw [List.getElem?_eq_none (by simp; omega), List.getElem?_eq_none (by omega)]; rfl
theorem mergeAll_go (lists : List (List Entry)) : mergeAll entLt lists = mergeGo entLt (bX (hsTo lists lists.length).length (gOf (hsTo lists lists.length))).length (Plain.initGo (hless entLt) (hsTo lists lists.length).length ((hsTo lists lists.length).length / 2) (gOf (hsTo lists lists.length))) (hsTo lists lists.length).length [] := by
  rw [flatH_gOf]; unfold mergeAll
  have : (headsOf lists).map (fun p => (p.1.foldl (Plain.put entLt) [], p.2)) = hsTo lists lists.length := by
    unfold hsTo; rw [List.take_length]
    congr 1
    funext p
    rw [sortE_put]
  simp only [this]; rfl
theorem flatH_total (lists : List (List Entry)) : ∀ k, ((hsTo lists k).flatMap (·.1)).length ≤ ((lists.take k).flatMap id).length
  | 0 => by simp [hsTo, headsOf]
  | k + 1 => by
    have ih := flatH_total lists k
    by_cases h : k < lists.length
    · have hl := List.getElem?_eq_getElem h
      rw [hsTo_step hl, List.take_add_one, hl, List.flatMap_append, List.flatMap_append]; split
      · simp at ih ⊢; omega
      simp [sortE_len] at ih ⊢; omega
    have e1 : lists.take (k + 1) = lists.take k := by rw [List.take_of_length_le (by omega), List.take_of_length_le (by omega)]
    have e2 : hsTo lists (k + 1) = hsTo lists k := by unfold hsTo; rw [e1]
    rw [e1, e2]; exact ih
theorem merge_pop {g : Nat → List Entry × Nat} (h : (g 0).1 = [e]) : mergeGo entLt (f + 1) g (m + 1) all = mergeGo entLt f (Plain.downGo (hless entLt) m m (Plain.swpA (cM g) 0 m) 0).1 m (all ++ [e]) := by
  exact (@Go.Plain.mergeGo.eq_2 _ entLt g all f m e [] h).trans (if_pos rfl)
theorem merge_fix {g : Nat → List Entry × Nat} (h : (g 0).1 = e :: r) (hr : r ≠ []) : mergeGo entLt (f + 1) g (m + 1) all = mergeGo entLt f (Plain.downGo (hless entLt) (m + 1) (m + 1) (cM g) 0).1 (m + 1) (all ++ [e]) := by
  exact (@Go.Plain.mergeGo.eq_2 _ entLt g all f m e r h).trans (if_neg fun h2 => hr (List.length_eq_zero_iff.1 h2))
theorem merge_end {g : Nat → List Entry × Nat} : mergeGo entLt f g 0 all = all := by
  cases f <;> simp [mergeGo]
theorem shed_at {g : Nat → List Entry × Nat} (h : (g 0).1 = e :: r) : cM g 0 = (r, (g 0).2) := by unfold cM Plain.updA; rw [if_pos rfl, h]; rfl
theorem shed_off {g : Nat → List Entry × Nat} (h : k ≠ 0) : cM g k = g k := by unfold cM Plain.updA; rw [if_neg h]
theorem row_shed {g : Nat → List Entry × Nat} (h : (g 0).1 = e :: r) : ((List.range n).map fun k => hdA (g k)).set 0 (.agg [.sl 5 (r.map enA), .raw (.int .i64 (((g 0).2 : Nat) : Int))]) = (List.range n).map fun k => hdA (cM g k) := by
  refine List.ext_getElem? fun i => ?_
  rw [List.getElem?_set, List.getElem?_map, List.getElem?_map]; simp only [List.length_map, List.length_range]
  by_cases h0 : i = 0
  · subst h0
    by_cases hn : 0 < n
    · rw [if_pos rfl, if_pos hn, List.getElem?_range hn, Option.map_some, shed_at h]; rfl
    rw [if_pos rfl, if_neg hn, List.getElem?_eq_none (by simp; omega)]; rfl
  rw [if_neg (fun e => h0 e.symm)]
  by_cases hn : i < n
  · rw [List.getElem?_range hn, Option.map_some, Option.map_some, shed_off h0]
  rw [List.getElem?_eq_none (by simp; omega)]; rfl
theorem shed_NE {g : Nat → List Entry × Nat} (h : (g 0).1 = e :: r) (hr : r ≠ []) (hne : NE g m) : NE (cM g) m := fun k hk => by
  by_cases h0 : k = 0
  · subst h0; rw [shed_at h]; exact hr
  rw [shed_off h0]; exact hne k hk
theorem shed_pop_NE {g : Nat → List Entry × Nat} (hne : NE g (m + 1)) : NE (Plain.swpA (cM g) 0 m) m := fun k hk => by
  unfold Plain.swpA; split
  · rw [shed_off (by omega)]; exact hne m (by omega)
  rename_i h
  rw [if_neg (by omega), shed_off h]; exact hne k (by omega)
theorem flat_pop {g : Nat → List Entry × Nat} (h : (g 0).1 = [e]) : (bX m (Plain.downGo (hless entLt) m m (Plain.swpA (cM g) 0 m) 0).1).length + 1 = (bX (m + 1) g).length := by
  have h1 := (Plain.flatH_same (down_same (n := m) m (Plain.swpA (cM g) 0 m) 0)).length_eq
  have h2 := (Plain.flatH_same (Plain.SameA.swp (n := m + 1) (cM g) (i := 0) (j := m) (by omega) (by omega))).length_eq
  rw [Plain.flatH_succ, List.length_append] at h2
  have h3 : (Plain.swpA (cM g) 0 m m).1 = [] := by
    unfold Plain.swpA; split
    · rename_i h0; rw [h0, shed_at h]
    rw [if_pos rfl, shed_at h]
  rw [h3] at h2
  have h4 := congrArg List.length (Plain.flatH_top (m := m) h)
  rw [List.length_cons] at h4; simp at h2; omega
theorem flat_fix {g : Nat → List Entry × Nat} (h : (g 0).1 = e :: r) : (bX (m + 1) (Plain.downGo (hless entLt) (m + 1) (m + 1) (cM g) 0).1).length + 1 = (bX (m + 1) g).length := by
  have h1 := (Plain.flatH_same (down_same (n := m + 1) (m + 1) (cM g) 0)).length_eq
  have h4 := congrArg List.length (Plain.flatH_top (m := m) h)
  rw [List.length_cons] at h4; omega
theorem flat_pos {g : Nat → List Entry × Nat} (hne : NE g n) (hn : 0 < n) (hf : (bX n g).length ≤ f) : 0 < f := by
  obtain ⟨m, rfl⟩ : ∃ m, n = m + 1 := ⟨n - 1, by omega⟩
  obtain ⟨e, r, h⟩ := List.exists_cons_of_ne_nil (hne 0 hn)
  have h4 := congrArg List.length (Plain.flatH_top (m := m) h)
  rw [List.length_cons] at h4; omega
theorem merge_popN {g : Nat → List Entry × Nat} (hn : 0 < n) (h : (g 0).1 = [e]) : mergeGo entLt (f + 1) g n all = mergeGo entLt f (Plain.downGo (hless entLt) (n - 1) (n - 1) (Plain.swpA (cM g) 0 (n - 1)) 0).1 (n - 1) (all ++ [e]) := by
  obtain ⟨m, rfl⟩ : ∃ m, n = m + 1 := ⟨n - 1, by omega⟩
  exact merge_pop h
theorem merge_fixN {g : Nat → List Entry × Nat} (hn : 0 < n) (h : (g 0).1 = e :: r) (hr : r ≠ []) : mergeGo entLt (f + 1) g n all = mergeGo entLt f (Plain.downGo (hless entLt) n n (cM g) 0).1 n (all ++ [e]) := by
  obtain ⟨m, rfl⟩ : ∃ m, n = m + 1 := ⟨n - 1, by omega⟩
  exact merge_fix h hr
theorem shed_pop_NEN {g : Nat → List Entry × Nat} (hn : 0 < n) (hne : NE g n) : NE (Plain.swpA (cM g) 0 (n - 1)) (n - 1) := by
  obtain ⟨m, rfl⟩ : ∃ m, n = m + 1 := ⟨n - 1, by omega⟩
  exact shed_pop_NE hne
theorem flat_popN {g : Nat → List Entry × Nat} (hn : 0 < n) (h : (g 0).1 = [e]) : (bX (n - 1) (Plain.downGo (hless entLt) (n - 1) (n - 1) (Plain.swpA (cM g) 0 (n - 1)) 0).1).length + 1 = (bX n g).length := by
  obtain ⟨m, rfl⟩ : ∃ m, n = m + 1 := ⟨n - 1, by omega⟩
  exact flat_pop h
theorem flat_fixN {g : Nat → List Entry × Nat} (hn : 0 < n) (h : (g 0).1 = e :: r) : (bX n (Plain.downGo (hless entLt) n n (cM g) 0).1).length + 1 = (bX n g).length := by
  obtain ⟨m, rfl⟩ : ∃ m, n = m + 1 := ⟨n - 1, by omega⟩
  exact flat_fix h
def sMrg (lists : List (List Entry)) : Prop := lists.length ≤ 1048576 ∧ (∀ l ∈ lists, l.length ≤ 1048576) ∧ (lists.flatMap id).length ≤ 1000000000
theorem w_container_heap_Fix (g : Nat → List Entry × Nat) (N : Nat) (hN : N ≤ 1048576) (hne : NE g N) : aD P 144 [.iface 167 (.ptr 0 0), .raw (.int .i64 (0 : Int))] [(0, hcE), (1, aE g N)] 2 (.tup []) [(0, hcE), (1, aE ((Plain.downGo (Plain.hless entLt) N N g 0).1) N)] 2 := by
 refine gw (N := 13) (vs := []) ⟨Tryz.func144, rfl, rfl⟩ rfl rfl (by simp) ?_
 simp only [eE, aE, hcE]; refine sr rfl fun _ k1 => ?_; simp only [go_sem]
 refine vi [] 0 (xs := []) rfl rfl rfl rfl mH_Len pH vH ⟨Tryz.func274, rfl, rfl⟩ (w_impl_heads_Len g N hN) rfl (by simp [sg, Abs.get]) rfl rfl rfl rfl (by simp only [go_sem]) (fit2 (.inl rfl) (by simp only [go_sem, aE, hcE]) (by simp only [go_sem, aE, hcE]) (by simp only [go_sem, AObj.bel, aE, hcE]) (by simp only [go_sem, AObj.bel, aE, hcE]) (by simp) ⟨rfl, rfl⟩ (by decide)) (.inl rfl) ?_
 simp only [go_sem, AV.ren, AObj.ren, aA, shift, sg, Nat.le_refl, Nat.add_zero, Nat.sub_self, aE, hcE]
 refine vg [] 0 rfl rfl rfl ⟨Tryz.func191, rfl, rfl⟩ (w_container_heap_down g N hN 0 N hne (by omega) (Nat.le_refl _)) rfl (by simp only [go_sem, Int.natCast_zero]) (by simp only [go_sem]) (fit2 (.inl rfl) (by simp only [go_sem, aE, hcE]) (by simp only [go_sem, aE, hcE]) (by simp only [go_sem, AObj.bel, aE, hcE]) (by simp only [go_sem, AObj.bel, aE, hcE]) (by simp) ⟨rfl, rfl⟩ (by decide)) (.inl rfl) ?_
 simp only [go_sem, AV.ren, AObj.ren, aA, shift, sg, Nat.le_refl, Nat.add_zero, Nat.sub_self, aE, hcE]; apply k1
 refine cd rfl (fun hc1 => ?_) fun hc1 => ?_
 · refine wg rfl ?_; simp only [go_sem]
   refine vg [] 0 rfl rfl rfl ⟨Tryz.func192, rfl, rfl⟩ (w_container_heap_up (Plain.downGo (Plain.hless entLt) N N g 0).1 N hN) rfl (by simp only [go_sem, Int.natCast_zero]) (by simp only [go_sem]) (fit2 (.inl rfl) (by simp only [go_sem, aE, hcE]) (by simp only [go_sem, aE, hcE]) (by simp only [go_sem, AObj.bel, aE, hcE]) (by simp only [go_sem, AObj.bel, aE, hcE]) (by simp) ⟨rfl, rfl⟩ (by decide)) (.inl rfl) ?_
   simp only [go_sem, AV.ren, AObj.ren, aA, shift, sg, Nat.le_refl, Nat.add_zero, Nat.sub_self, aE, hcE]; refine ⟨[], ?_⟩
   simp only [go_sem, AObj.bel, AObj.ren, AV.ren, aA, sg, aE, hcE] <;> first | (simp; done) | (simp [hdA]; done)
 refine wk ?_; refine ⟨[], ?_⟩
 simp only [go_sem, AObj.bel, AObj.ren, AV.ren, aA, sg, aE, hcE] <;> first | (simp; done) | (simp [hdA]; done)
theorem w_container_heap_Pop (g : Nat → List Entry × Nat) (N : Nat) (hN : N ≤ 1048576) (hp : 0 < N) (hne : NE (Plain.swpA g 0 (N - 1)) (N - 1)) : aD P 143 [.iface 167 (.ptr 0 0)] [(0, hcE), (1, aE g N)] 2 (.iface 165 (hdA ((Plain.downGo (Plain.hless entLt) (N - 1) (N - 1) (Plain.swpA g 0 (N - 1)) 0).1 (N - 1)))) [(0, .cells 161 [.ref 2]), (1, .dead), (2, aE (Plain.downGo (Plain.hless entLt) (N - 1) (N - 1) (Plain.swpA g 0 (N - 1)) 0).1 (N - 1))] 3 := by
 refine gw (N := 15) (vs := [.tmp 2]) ⟨Tryz.func143, rfl, rfl⟩ rfl rfl (by simp) ?_
 simp only [eE, aE, hcE]
 have hw : IntKind.i64.wrap ((N : Int) - 1) = ((N - 1 : Nat) : Int) := by rw [IntKind.wrap_i64]; omega
 refine sr rfl fun _ J => ?_; simp only [go_sem]; apply J; refine sr rfl fun _ k2 => ?_; simp only [go_sem, hw]
 refine vi [] 0 (xs := []) rfl rfl rfl rfl mH_Len pH vH ⟨Tryz.func274, rfl, rfl⟩ (w_impl_heads_Len g N hN) rfl (by simp [sg, Abs.get]) rfl rfl rfl rfl (by simp only [go_sem]) (fit2 (.inl rfl) (by simp only [go_sem, aE, hcE]) (by simp only [go_sem, aE, hcE]) (by simp only [go_sem, AObj.bel, aE, hcE]) (by simp only [go_sem, AObj.bel, aE, hcE]) (by simp) ⟨rfl, rfl⟩ (by decide)) (.inl rfl) ?_
 simp only [go_sem, AV.ren, AObj.ren, aA, shift, sg, Nat.le_refl, Nat.add_zero, Nat.sub_self, aE, hcE, hw]; apply k2; refine sr rfl fun _ k3 => ?_; simp only [go_sem]
 refine vi [] 0 (xs := [.raw (.int .i64 (0 : Int)), .raw (.int .i64 ((N - 1 : Nat) : Int))]) rfl rfl rfl rfl mH_Swap pH vH ⟨Tryz.func276, rfl, rfl⟩ (w_swap g N hN 0 (N - 1) hp (by omega)) rfl (by simp [sg, Abs.get]) rfl rfl rfl rfl (by simp only [go_sem]) (fit2 (.inl rfl) (by simp only [go_sem, aE, hcE]) (by simp only [go_sem, aE, hcE]) (by simp only [go_sem, AObj.bel, aE, hcE]) (by simp only [go_sem, AObj.bel, aE, hcE]) (by simp) ⟨rfl, rfl⟩ (by decide)) (.inl rfl) ?_
 simp only [go_sem, AV.ren, AObj.ren, aA, shift, sg, Nat.le_refl, Nat.add_zero, Nat.sub_self, aE, hcE]; apply k3; refine sr rfl fun _ k4 => ?_; simp only [go_sem]
 refine vg [] 0 rfl rfl rfl ⟨Tryz.func191, rfl, rfl⟩ (w_container_heap_down (Plain.swpA g 0 (N - 1)) N hN 0 (N - 1) hne (by omega) (by omega)) rfl (by simp only [go_sem, Int.natCast_zero]) (by simp only [go_sem]) (fit2 (.inl rfl) (by simp only [go_sem, aE, hcE]) (by simp only [go_sem, aE, hcE]) (by simp only [go_sem, AObj.bel, aE, hcE]) (by simp only [go_sem, AObj.bel, aE, hcE]) (by simp) ⟨rfl, rfl⟩ (by decide)) (.inl rfl) ?_
 simp only [go_sem, AV.ren, AObj.ren, aA, shift, sg, Nat.le_refl, Nat.add_zero, Nat.sub_self, aE, hcE]; apply k4; refine sr rfl fun _ k5 => ?_; simp only [go_sem]
 refine vj [] 1 (xs := []) rfl rfl rfl rfl mH_Pop pH' uH ⟨Tryz.func277, rfl, rfl⟩ (w_impl_heads_Pop (Plain.downGo (Plain.hless entLt) (N - 1) (N - 1) (Plain.swpA g 0 (N - 1)) 0).1 N hN hp) rfl rfl rfl (by simp only [go_sem]) (fit2 (.inl rfl) (by simp only [go_sem, aE, hcE]) (by simp only [go_sem, aE, hcE]) (by simp only [go_sem, AObj.bel, aE, hcE]) (by simp only [go_sem, AObj.bel, aE, hcE]) (by simp) ⟨rfl, rfl⟩ (by decide)) (.inr (by decide)) ?_
 simp only [go_sem, AV.ren, AObj.ren, aA, shift, sg, Nat.le_refl, Nat.add_zero, Nat.sub_self, aE, hcE]; apply k5; refine wR ?_; refine ⟨[], ?_⟩
 simp only [go_sem, AObj.bel, AObj.ren, AV.ren, aA, sg, aE, hcE] <;> first | (simp; done) | (simp [hdA]; done)
theorem w_impl_MergeAll (lists : List (List Entry)) (hz : sMrg lists) : aD P 89 [.sl 1 (lists.map esA)] [] 0 (.ref 0) [(0, .row 65 5 ((mergeAll entLt lists).map enA))] 1 := by
 refine gw (N := 62) (vs := [.tmp 2]) ⟨Tryz.func89, rfl, rfl⟩ rfl rfl (by simp) ?_
 simp only [eE]
 have hmx : maxLen = 9223372036854775807 := rfl
 obtain ⟨hz1, hz2, hz3⟩ := hz
 have hhl := hsTo_len (lists := lists) lists.length
 refine sr rfl fun _ J => ?_; simp only [go_sem]; apply J; refine sr rfl fun _ k2 => ?_; simp only [go_sem]; apply k2; refine sq fun _ k3 => ?_; refine sr rfl fun _ J => ?_; simp only [go_sem]; apply J; refine wb ?_
 refine awp_nilC (i := 0) (j := 0) 165 2 rfl rfl (by decide) ?_
 simp only [go_sem]
 refine wl (α := Nat) (fun x => x ≤ lists.length) (fun x => lists.length - x) (fun x => ([(3, .ptr 0 0), (8, .sl 1 (lists.map esA)), (9, .raw (.int .i64 (lists.length : Int))), (10, .raw (.int .i64 (x : Int)))], [(0, .cells 161 [.ref 1]), (1, .row 165 2 ((hsTo lists x).map hdA))])) 2 0 (Nat.zero_le _) [] ?_ ?_
 · simp only [go_sem, AObj.bel, hsTo, headsOf, List.take_zero, List.zipIdx_nil, List.filter_nil, List.map_nil, Int.natCast_zero] <;> simp
 rintro i hi
 refine sr rfl fun _ J => ?_; simp only [go_sem, List.length_take, List.length_append, List.nil_append, List.length_map, List.length_drop]; apply J; refine sq fun _ k6 => ?_
 refine cd rfl (fun hc1 => ?_) fun hc1 => ?_
 · have hlt : i < lists.length := (by simpa using hc1); obtain ⟨l, hl, _, hml⟩ := ix hlt
   have hll := hz2 l hml
   have hhi := hsTo_len (lists := lists) i
   have hsl := sortE_len l
   refine wk ?_; apply k6; refine sq fun _ k7 => ?_; refine wb ?_; refine sr rfl fun _ k8 => ?_; simp only [go_sem, hl, esA]
   repeat (first | refine ⟨by first | omega | (intro hg; simp at hg; omega), ?_⟩ | fail)
   apply k8; refine sr rfl fun _ J => ?_; simp only [go_sem, esA, List.length_take, List.length_append, List.nil_append, List.length_map, List.length_drop]; apply J
   refine cd rfl (fun hc2 => ?_) fun hc2 => ?_
   · have hlz : l ≠ [] := by intro h; rw [h] at hc2; simp at hc2
     have hstep : (hsTo lists i).map hdA ++ [AV.agg [.sl 5 ((bY l).map enA), .raw (.int .i64 (i : Int))]] = (hsTo lists (i + 1)).map hdA := by rw [hsTo_step hl, if_neg hlz, List.map_append]; rfl
     refine sr rfl fun _ k10 => ?_; simp only [go_sem, esA, List.length_take, List.length_append, List.nil_append, List.length_map, List.length_drop]
     repeat (first | refine ⟨by first | omega | (intro hg; simp at hg; omega), ?_⟩ | fail)
     apply k10; refine sr rfl fun _ k11 => ?_; simp only [go_sem]
     refine vg [(0, 2)] 0 rfl rfl rfl ⟨Tryz.func140, rfl, rfl⟩ (w_sort l hll) rfl (by simp only [go_sem, cmpE, aA, AV.ren, sg]) (by simp only [go_sem, cmpE]) (fit1 (H1 := []) (.inr ⟨2, rfl⟩) (by simp only [go_sem, sg, AObj.ren]) (by simp only [go_sem, AObj.bel])) (.inl rfl) ?_
     simp only [go_sem, AV.ren, AObj.ren, aA, shift, sg, Nat.le_refl, Nat.add_zero, Nat.sub_self]; apply k11
     refine aFz 2 rfl ?_
     simp only [go_sem, fzL, AV.fz]; refine wg rfl ?_; simp only [go_sem, List.length_take, List.length_append, List.nil_append, List.length_map, List.length_drop]
     repeat (first | refine ⟨by first | omega | (intro hg; simp at hg; omega), ?_⟩ | fail)
     try simp only [go_sem, lQ]
     apply k7
     have hw9 : IntKind.i64.wrap ((i : Int) + 1) = ((i + 1 : Nat) : Int) := by rw [IntKind.wrap_i64]; omega
     refine wg rfl ?_; simp only [go_sem, hw9]; try simp only [go_sem, lQ]
     refine ⟨i + 1, by omega, by omega, [(1, 4)], ?_⟩
     simp only [go_sem, AObj.bel, AObj.ren, AV.ren, aA, sg, Int.natCast_zero, aE, hcE]
     first | exact hstep | (simp; exact hstep) | exact ⟨hstep, trivial⟩
   have hlz : l = [] := by cases l with
     | nil => rfl
     | cons a b => simp at hc2 <;> omega
   have hstep : (hsTo lists i).map hdA = (hsTo lists (i + 1)).map hdA := by rw [hsTo_step hl, if_pos hlz, List.append_nil]
   refine wk ?_; try simp only [go_sem, lQ]
   apply k7
   have hw9 : IntKind.i64.wrap ((i : Int) + 1) = ((i + 1 : Nat) : Int) := by rw [IntKind.wrap_i64]; omega
   refine wg rfl ?_; simp only [go_sem, hw9]; try simp only [go_sem, lQ]
   refine ⟨i + 1, by omega, by omega, [], ?_⟩
   simp only [go_sem, AObj.bel, AObj.ren, AV.ren, aA, sg, Int.natCast_zero, aE, hcE]
   first | exact hstep | (simp; exact hstep) | exact ⟨hstep, trivial⟩
 have hge : i = lists.length := by have h9 : ¬ i < lists.length := (by simpa using hc1); omega
 subst hge; rw [row_gOf]
 have hfl0 := Nat.le_refl (bX (hsTo lists lists.length).length (gOf (hsTo lists lists.length))).length
 have hft := flatH_total lists lists.length
 rw [List.take_length, ← flatH_gOf] at hft; refine we ?_; try simp only [go_sem, lQ]
 apply k3; refine sr rfl fun _ k12 => ?_; simp only [go_sem]
 refine vg [] 0 rfl rfl rfl ⟨Tryz.func142, rfl, rfl⟩ (w_container_heap_Init (gOf (hsTo lists lists.length)) (hsTo lists lists.length).length (by omega) (hsTo_NE _ _)) rfl (by simp only [go_sem, Int.natCast_zero]) (by simp only [go_sem]) (fit2 (.inl rfl) (by simp only [go_sem, aE, hcE]) (by simp only [go_sem, aE, hcE]) (by simp only [go_sem, AObj.bel, aE, hcE]) (by simp only [go_sem, AObj.bel, aE, hcE]) (by simp) ⟨rfl, rfl⟩ (by decide)) (.inl rfl) ?_
 simp only [go_sem, AV.ren, AObj.ren, aA, shift, sg, Nat.le_refl, Nat.add_zero, Nat.sub_self, aE, hcE]; apply k12; refine sr rfl fun _ J => ?_; simp only [go_sem]; apply J; refine sq fun _ k14 => ?_; refine wb ?_
 refine awp_nil (t := 7) 65 5 rfl (by decide) ?_
 simp only [go_sem]
 refine wl (α := Nat × (Nat → List Entry × Nat) × Nat × List Entry) (fun x => (bX x.2.2.1 x.2.1).length ≤ x.1 ∧ NE x.2.1 x.2.2.1 ∧ x.2.2.1 ≤ 1048576 ∧ x.2.2.2.length + x.1 ≤ 1000000000 ∧ mergeGo entLt x.1 x.2.1 x.2.2.1 x.2.2.2 = mergeAll entLt lists) (fun x => x.1) (fun x => ([(3, .ptr 0 0), (7, .ref 2)], [(0, .cells 161 [.ref 1]), (1, aE x.2.1 x.2.2.1), (2, .row 65 5 (x.2.2.2.map enA))])) 3 ((bX (hsTo lists lists.length).length (gOf (hsTo lists lists.length))).length, Plain.initGo (Plain.hless entLt) (hsTo lists lists.length).length ((hsTo lists lists.length).length / 2) (gOf (hsTo lists lists.length)), (hsTo lists lists.length).length, []) ⟨by simp only; exact Nat.le_of_eq (Plain.flatH_same (init_same _ _)).length_eq, init_NE _ _ (hsTo_NE _ _), by simp only; omega, by simp only [List.length_nil]; omega, (mergeAll_go lists).symm⟩ [] ?_ ?_
 · simp only [go_sem, AObj.bel, AObj.ren, AV.ren, aA, sg, Int.natCast_zero, aE, hcE] <;> first | (simp; done) | (simp [enA]; done)
 rintro ⟨f, g, n, all⟩ ⟨hfl, hne, hn, hlen, hgo⟩
 simp only at hfl hne hn hlen hgo ⊢
 refine sq fun _ k15 => ?_; refine sr rfl fun _ J => ?_; simp only [go_sem, List.length_map, List.length_range]; apply J
 refine cd rfl (fun hc3 => ?_) fun hc3 => ?_
 · have hn0 : 0 < n := by simp at hc3; omega
   obtain ⟨f', rfl⟩ : ∃ f', f = f' + 1 := ⟨f - 1, by have := flat_pos hne hn0 hfl; omega⟩
   obtain ⟨e, r, hx⟩ := List.exists_cons_of_ne_nil (hne 0 hn0)
   have hr0 : (List.range n)[0]? = some 0 := List.getElem?_range (by omega)
   have hA0 : hdA (g 0) = .agg [.sl 5 (enA e :: r.map enA), .raw (.int .i64 (((g 0).2 : Nat) : Int))] := by unfold hdA; rw [hx]; rfl
   have htk : (r.map enA).take r.length = r.map enA := List.take_of_length_le (by simp)
   have hA1 : hdA (cM g 0) = .agg [.sl 5 (r.map enA), .raw (.int .i64 (((g 0).2 : Nat) : Int))] := by rw [shed_at hx]; rfl
   refine wk ?_; apply k15; refine wb ?_; refine sr rfl fun _ k17 => ?_; simp only [go_sem, hr0, hA0, enA, Int.toNat_zero, List.getElem?_cons_zero, List.map_cons, List.length_cons, List.length_take, List.length_append, List.nil_append, List.length_map, List.length_drop, List.length_range]
   repeat (first | refine ⟨by first | omega | (intro hg; simp at hg; omega), ?_⟩ | fail)
   apply k17
   have hrow := row_shed (n := n) hx
   refine sd mixed rfl fun _ k18 => ?_; simp only [go_sem, htk, hr0, hA0, Int.toNat_zero, List.length_map, List.length_range, List.length_cons, List.drop_succ_cons, List.drop_zero, Int.toNat_one]
   repeat (first | refine ⟨by first | omega | (intro hg; simp at hg; omega), ?_⟩ | fail)
   rw [hrow]; refine ⟨by rfl, ?_⟩; apply k18; refine sr rfl fun _ k19 => ?_; simp only [go_sem, hr0, hA1, Int.toNat_zero, List.length_map, List.length_range]
   repeat (first | refine ⟨by first | omega | (intro hg; simp at hg; omega), ?_⟩ | fail)
   apply k19
   refine cd rfl (fun hc4 => ?_) fun hc4 => ?_
   · have hr : r = [] := by cases r with
       | nil => rfl
       | cons a b => simp at hc4 <;> omega
     subst hr; refine wg rfl ?_; simp only [go_sem]
     refine vg [] 1 rfl rfl rfl ⟨Tryz.func143, rfl, rfl⟩ (w_container_heap_Pop (cM g) n (by omega) hn0 (shed_pop_NEN hn0 hne)) rfl (by simp only [go_sem]) (by simp only [go_sem]) (fit2 (.inl rfl) (by simp only [go_sem, aE, hcE]) (by simp only [go_sem, aE, hcE]) (by simp only [go_sem, AObj.bel, aE, hcE]) (by simp only [go_sem, AObj.bel, aE, hcE]) (by simp) ⟨rfl, rfl⟩ (by decide)) (.inr (by decide)) ?_
     simp only [go_sem, AV.ren, AObj.ren, aA, shift, sg, Nat.le_refl, Nat.add_zero, Nat.sub_self, aE, hcE]; try simp only [go_sem, lQ]
     try simp only [go_sem, lQ]
     refine ⟨(f', (Plain.downGo (hless entLt) (n - 1) (n - 1) (Plain.swpA (cM g) 0 (n - 1)) 0).1, n - 1, all ++ [e]), ⟨by have := flat_popN hn0 hx; simp only; omega, down_NE _ _ _ (shed_pop_NEN hn0 hne), by simp only; omega, by simp only [List.length_append, List.length_singleton]; omega, by simp only; rw [merge_popN hn0 hx] at hgo; exact hgo⟩, by simp only; omega, [(1, 5), (2, 4)], ?_⟩
     simp only [go_sem, AObj.bel, AObj.ren, AV.ren, aA, sg, Int.natCast_zero, aE, hcE] <;> first | (simp; done) | (simp [enA]; done)
   have hr : r ≠ [] := by intro h; rw [h] at hc4; simp at hc4
   refine wg rfl ?_; simp only [go_sem]
   refine vg [] 0 rfl rfl rfl ⟨Tryz.func144, rfl, rfl⟩ (w_container_heap_Fix (cM g) n (by omega) (shed_NE hx hr hne)) rfl (by simp only [go_sem, Int.natCast_zero]) (by simp only [go_sem]) (fit2 (.inl rfl) (by simp only [go_sem, aE, hcE]) (by simp only [go_sem, aE, hcE]) (by simp only [go_sem, AObj.bel, aE, hcE]) (by simp only [go_sem, AObj.bel, aE, hcE]) (by simp) ⟨rfl, rfl⟩ (by decide)) (.inl rfl) ?_
   simp only [go_sem, AV.ren, AObj.ren, aA, shift, sg, Nat.le_refl, Nat.add_zero, Nat.sub_self, aE, hcE]; try simp only [go_sem, lQ]
   try simp only [go_sem, lQ]
   refine ⟨(f', (Plain.downGo (hless entLt) n n (cM g) 0).1, n, all ++ [e]), ⟨by have := flat_fixN hn0 hx; simp only; omega, down_NE _ _ _ (shed_NE hx hr hne), by simp only; omega, by simp only [List.length_append, List.length_singleton]; omega, by simp only; rw [merge_fixN hn0 hx hr] at hgo; exact hgo⟩, by simp only; omega, [(2, 4)], ?_⟩
   simp only [go_sem, AObj.bel, AObj.ren, AV.ren, aA, sg, Int.natCast_zero, aE, hcE] <;> first | (simp; done) | (simp [enA]; done)
 have hn0 : n = 0 := by simp at hc3; omega
 subst hn0; rw [merge_end] at hgo; refine we ?_; try simp only [go_sem, lQ]
 apply k14; refine sr rfl fun _ J => ?_; simp only [go_sem]; apply J; refine wR ?_
 refine ⟨[(0, 2)], ?_⟩
 rw [hgo]
 simp only [go_sem, AObj.bel, AObj.ren, AV.ren, aA, sg] <;> simp
end
theorem stmpI_small {b : List Entry} {seq : Int} (hb : b.length ≤ 1048576) : sEnts (bK seq b).1 := by
  have h1 := stampS_small (seq := seq) hb
  unfold bK; unfold aI at h1; split
  · exact ⟨by simp, by simp⟩
  split
  · exact h1
  exact ⟨by simp, by simp⟩
def tWBad (t : Tree) (b : List Entry) : Bool := !(bK t.seq b).2 || decide (60 < (t.mem.length : Int) + ((bK t.seq b).1.length : Int))
def treeWI (t : Tree) (b : List Entry) : Tree × Bool := if tWBad t b = true then (t, false) else ({ t with mem := Plain.mergeAll entLt [t.mem, (bK t.seq b).1], seq := t.seq + ((bK t.seq b).1.length : Int) }, true)
theorem entRow_nf (ls : List Entry) : (AObj.row 65 5 (ls.map enA)).noFz = true := by
  show noFzL (ls.map enA) = true
  induction ls with
  | nil => rfl
  | cons a r ih => rw [List.map_cons, noFzL, ih]; rfl
theorem w_impl_batchOk (ls : List Entry) (hz : bT ls) : aB P 123 [.sl 5 (ls.map enA)] [] 0 (.raw (.bool (isB ls))) := by
 refine pw (N := 40) (vs := [.tmp 2]) ⟨Tryz.func123, rfl, rfl⟩ rfl rfl (by simp) ?_
 simp only [eE]
 have hlen := hz.1
 refine sr rfl fun _ J => ?_; simp only [go_sem]; apply J; refine sq fun _ k2 => ?_; refine sr rfl fun _ J => ?_; simp only [go_sem]; apply J
 refine cd rfl (fun hc1 => ?_) fun hc1 => ?_
 · have hlb : (decide (1 ≤ (ls.length : Int)) && decide ((ls.length : Int) ≤ 12)) = false := by simp at hc1 ⊢; omega
   have h9 : isB ls = false := by unfold isB; rw [hlb, Bool.and_false]
   refine sr rfl fun _ J => ?_; simp only [go_sem]; apply J; refine wR ?_; refine fO ?_ trivial; simp only [go_sem, h9]
 have hlb : (decide (1 ≤ (ls.length : Int)) && decide ((ls.length : Int) ≤ 12)) = true := by simp at hc1 ⊢; omega
 refine wk ?_; apply k2; refine sq fun _ k5 => ?_; refine sr rfl fun _ J => ?_; simp only [go_sem]; apply J; refine wb ?_
 refine wl (α := Nat) (fun x => x ≤ ls.length ∧ ∀ j, j < x → batchAt ls j = true) (fun x => ls.length - x) (fun x => ([(0, .sl 5 (ls.map enA)), (13, .sl 5 (ls.map enA)), (14, .raw (.int .i64 (ls.length : Int))), (15, .raw (.int .i64 (x : Int)))], [])) 0 0 ⟨Nat.zero_le _, fun j hj => absurd hj (Nat.not_lt_zero _)⟩ [] ?_ ?_
 · simp only [go_sem, Int.natCast_zero] <;> simp
 rintro i ⟨hi, hall⟩
 refine sr rfl fun _ J => ?_; simp only [go_sem]; apply J; refine sq fun _ k8 => ?_
 refine cd rfl (fun hc2 => ?_) fun hc2 => ?_
 · have hlt : i < ls.length := (by simpa using hc2); obtain ⟨l, hl, hdrop, hml⟩ := ix hlt
   have hw1 : IntKind.i64.wrap ((i : Int) - 1) = (i : Int) - 1 := by rw [IntKind.wrap_i64]; omega
   have hpn : ((i : Int) - 1).toNat = i - 1 := by omega
   have hpv : ls[i - 1]? = some (prevAt ls i) := by unfold prevAt; rw [List.getElem?_eq_getElem (by omega)]; rfl
   refine wk ?_; apply k8; refine sq fun _ k9 => ?_; refine wb ?_; refine sr rfl fun _ k10 => ?_; simp only [go_sem, hl, enA]
   repeat (first | refine ⟨by first | omega | (intro hg; simp at hg; omega), ?_⟩ | fail)
   apply k10; refine sd mixed rfl fun _ k11 => ?_; simp only [go_sem, hl, hw1, hpn, hpv, enA]
   repeat (first | refine ⟨by first | omega | (intro hg; simp at hg; omega), ?_⟩ | fail)
   refine tp rfl rfl rfl ⟨Tryz.func122, rfl, rfl⟩ (w_impl_EntryOk l (hz.2 l hml)) (by simp only [go_sem, enA]) (by simp only [go_sem, enA]) ?_
   simp only [go_sem, hl, hw1, hpn, hpv, enA]
   repeat (first | refine ⟨by first | omega | (intro hg; simp at hg; omega), ?_⟩ | fail)
   refine ⟨by rfl, ?_⟩; apply k11
   refine cd rfl (fun hc3 => ?_) fun hc3 => ?_
   · have hp : batchAt ls i = false := by unfold batchAt; rw [hl]; simp only [hc3]; rfl
     refine sr rfl fun _ J => ?_; simp only [go_sem]; apply J; refine wR ?_; simp only [go_sem, lQ]
     have h9 : isB ls = false := by unfold isB; rw [all_no hlt hp]; rfl
     refine fO ?_ trivial; simp only [go_sem, h9]
   have hp : batchAt ls i = true := by unfold batchAt; rw [hl]; simp only [hc3]; rfl
   refine wk ?_; try simp only [go_sem, lQ]
   apply k9
   have hw : IntKind.i64.wrap ((i : Int) + 1) = ((i + 1 : Nat) : Int) := by rw [IntKind.wrap_i64]; omega
   refine wg rfl ?_; simp only [go_sem, hw]; try simp only [go_sem, lQ]
   refine ⟨i + 1, ⟨by omega, bN hall hp⟩, by omega, [], ?_⟩
   simp only [go_sem] <;> simp
 have hge : ls.length ≤ i := Nat.not_lt.1 (by simpa using hc2)
 refine we ?_; try simp only [go_sem, lQ]
 apply k5; refine sr rfl fun _ J => ?_; simp only [go_sem]; apply J; refine wR ?_
 have h9 : isB ls = true := by unfold isB; rw [all_yes hge hall, hlb]; rfl
 refine fO ?_ trivial; simp only [go_sem, h9]
theorem w_impl_stamped (seq : Int) (b : List Entry) (hb : bT b) (hl : b.length ≤ 1048576) (h0 : 0 ≤ seq) (h1 : seq ≤ 100000) : aB P 71 [.raw (.int .i64 seq), .sl 5 (b.map enA)] [] 0 (.tup [.sl 5 ((bK seq b).1.map enA), .raw (.bool (bK seq b).2)]) := by
 refine pw (N := 41) (vs := [.tmp 4, .tmp 5]) ⟨Tryz.func71, rfl, rfl⟩ rfl rfl (by simp) ?_
 simp only [eE]
 have hmx : maxLen = 9223372036854775807 := rfl
 refine sr rfl fun _ J => ?_; simp only [go_sem]; apply J; refine sq fun _ k2 => ?_; refine sr rfl fun _ J => ?_; simp only [go_sem]; apply J
 refine cd rfl (fun hc1 => ?_) fun hc1 => ?_
 · have h9 : bK seq b = ([], false) := by unfold bK; rw [if_pos hc1]
   refine sr rfl fun _ J => ?_; simp only [go_sem]; apply J
   refine awp_nil (t := 4) 65 5 rfl (by decide) ?_
   simp only [go_sem]
   refine aFz 0 rfl ?_
   simp only [go_sem, fzL, AV.fz]; refine wR ?_
   refine fO ?_ ⟨enB _ _, trivial, trivial⟩
   simp only [go_sem, h9, List.map_nil]
 have hlb := hc1
 refine wk ?_; apply k2; refine sr rfl fun _ J => ?_; simp only [go_sem]; apply J; refine sq fun _ k6 => ?_; refine sr rfl fun _ J => ?_; simp only [go_sem]; apply J; refine wb ?_
 refine awp_nil (t := 6) 65 5 rfl (by decide) ?_
 simp only [go_sem]
 refine wl (α := Nat × List Entry) (fun x => x.1 ≤ b.length ∧ x.2.length = x.1 ∧ stGo seq (b.drop x.1) x.1 x.2 = stGo seq b 0 []) (fun x => b.length - x.1) (fun x => ([(0, .raw (.int .i64 seq)), (6, .ref 0), (17, .sl 5 (b.map enA)), (18, .raw (.int .i64 (b.length : Int))), (19, .raw (.int .i64 (x.1 : Int)))], [(0, .row 65 5 (x.2.map enA))])) 1 (0, []) ⟨Nat.zero_le _, rfl, rfl⟩ [] ?_ ?_
 · simp only [go_sem, AObj.bel, List.map_nil, Int.natCast_zero] <;> simp
 rintro ⟨i, out⟩ ⟨hi, hol, hgo⟩
 simp only at hi hol hgo ⊢
 refine sr rfl fun _ J => ?_; simp only [go_sem]; apply J; refine sq fun _ k9 => ?_
 refine cd rfl (fun hc2 => ?_) fun hc2 => ?_
 · have hlt : i < b.length := (by simpa using hc2); obtain ⟨l, hlx, hdrop, hml⟩ := ix hlt
   have hw1 : IntKind.i64.wrap (seq + 1) = seq + 1 := by rw [IntKind.wrap_i64]; omega
   have hw2 : IntKind.i64.wrap (seq + 1 + (i : Int)) = seq + 1 + i := by rw [IntKind.wrap_i64]; omega
   rw [hdrop, stGo] at hgo; refine wk ?_; apply k9; refine sq fun _ k10 => ?_; refine wb ?_; refine sr rfl fun _ k11 => ?_; simp only [go_sem, hlx, enA]
   repeat (first | refine ⟨by first | omega | (intro hg; simp at hg; omega), ?_⟩ | fail)
   apply k11; refine sq fun _ k12 => ?_; refine sr rfl fun _ J => ?_; simp only [go_sem, enA]; apply J
   refine cd rfl (fun hc3 => ?_) fun hc3 => ?_
   · have hne : ¬ l.seq = 0 := by simpa using hc3
     rw [if_neg hne] at hgo; refine sr rfl fun _ J => ?_; simp only [go_sem]; apply J
     have h9 : bK seq b = ([], false) := by unfold bK; rw [if_neg (by rw [hlb]; simp), ← hgo]; simp
     refine awp_nil (t := 4) 65 5 rfl (by decide) ?_
     simp only [go_sem]
     refine aFz 2 rfl ?_
     simp only [go_sem, fzL, AV.fz]; refine wR ?_; simp only [go_sem, lQ]
     refine fO ?_ ⟨enB _ _, trivial, trivial⟩
     simp only [go_sem, h9, List.map_nil]
   have hne : l.seq = 0 := by simpa using hc3
   rw [if_pos hne] at hgo; refine wk ?_; apply k12; refine sr rfl fun _ J => ?_; simp only [go_sem, hw1, hw2]; apply J; refine sq fun _ k16 => ?_; refine sr rfl fun _ k17 => ?_; simp only [go_sem, enA, cH]
   refine vp rfl rfl rfl ⟨Tryz.func122, rfl, rfl⟩ (w_impl_EntryOk (cH seq i l) (hb.2 l hml)) (by simp only [go_sem, enA, cH]) (by simp only [go_sem, enA, cH]) ?_
   simp only [go_sem]; apply k17
   refine cd rfl (fun hc4 => ?_) fun hc4 => ?_
   · have hok : ¬ cY (cH seq i l) = true := by simpa using hc4
     rw [if_neg hok] at hgo; refine sr rfl fun _ J => ?_; simp only [go_sem]; apply J
     have h9 : bK seq b = ([], false) := by unfold bK; rw [if_neg (by rw [hlb]; simp), ← hgo]; simp
     refine awp_nil (t := 4) 65 5 rfl (by decide) ?_
     simp only [go_sem]
     refine aFz 2 rfl ?_
     simp only [go_sem, fzL, AV.fz]; refine wR ?_; simp only [go_sem, lQ]
     refine fO ?_ ⟨enB _ _, trivial, trivial⟩
     simp only [go_sem, h9, List.map_nil]
   have hok : cY (cH seq i l) = true := by simpa using hc4
   have hst2 := (if_pos hok : (if cY (cH seq i l) = true then stGo seq (b.drop (i + 1)) (i + 1) (out ++ [cH seq i l]) else (out, false)) = _)
   refine wk ?_; apply k16; refine wg rfl ?_; simp only [go_sem, List.length_take, List.length_append, List.nil_append, List.length_map, List.length_reverse, List.length_drop, enA]
   repeat (first | refine ⟨by first | omega | (intro hg; simp at hg; omega), ?_⟩ | fail)
   try simp only [go_sem, lQ]
   apply k10
   have hw : IntKind.i64.wrap ((i : Int) + 1) = ((i + 1 : Nat) : Int) := by rw [IntKind.wrap_i64]; omega
   refine wg rfl ?_; simp only [go_sem, hw]; try simp only [go_sem, lQ]
   refine ⟨(i + 1, out ++ [cH seq i l]), ⟨by omega, by simp [hol], by rw [hst2] at hgo; exact hgo⟩, by omega, [(0, 3)], ?_⟩
   simp only [go_sem, AObj.bel, AObj.ren, AV.ren, aA, sg] <;> simp [enA, cH]
 have hge : b.length ≤ i := Nat.not_lt.1 (by simpa using hc2)
 have hie : i = b.length := by omega
 rw [List.drop_eq_nil_of_le hge, stGo] at hgo; refine we ?_; try simp only [go_sem, lQ]
 apply k6; refine sr rfl fun _ J => ?_; simp only [go_sem]; apply J
 have h9 : bK seq b = (out, true) := by unfold bK; rw [if_neg (by rw [hlb]; simp), ← hgo]; simp
 refine aFz 0 rfl ?_
 simp only [go_sem, fzL, AV.fz]; refine wR ?_
 refine fO ?_ ⟨enB _ _, trivial, trivial⟩
 simp only [go_sem, h9]
theorem w_impl_runCopy (r : Run) (hs : r.ents.length ≤ 1048576) : aD P 170 [rA r] [] 0 (.agg [.ref 0, .raw (.int .i64 r.mask)]) [(0, .row 65 5 (r.ents.map enA))] 1 := by
 refine gw (N := 9) (vs := [.cell 2 109]) ⟨Tryz.func170, rfl, rfl⟩ rfl rfl (by simp) ?_
 simp only [eE, rA]
 have hmx : maxLen = 9223372036854775807 := rfl
 refine sr rfl fun _ J => ?_; simp only [go_sem]; apply J; refine sd mixed rfl fun _ k2 => ?_; simp only [go_sem, List.length_take, List.length_append, List.nil_append, List.length_map, List.length_reverse, List.length_drop]
 repeat (first | refine ⟨by first | omega | (intro hg; simp at hg; omega), ?_⟩ | fail)
 refine ⟨by rfl, ?_⟩; apply k2; refine wR ?_
 refine ⟨[(0, 2)], ?_⟩
 simp only [go_sem, AObj.bel, AObj.ren, AV.ren, aA, sg] <;> simp
theorem w_impl_levelsCopy_o (ls : List (List Run)) (hs : sLvs ls) : aD P 121 [.sl 1 (ls.map rsA)] [] 0 (.ref 0) [(0, .row 107 1 (ls.map rsO))] 1 := by
 refine gw (N := 33) (vs := [.tmp 2]) ⟨Tryz.func121, rfl, rfl⟩ rfl rfl (by simp) ?_
 simp only [eE]
 have hmx : maxLen = 9223372036854775807 := rfl
 have hlen := hs.1
 refine sr rfl fun _ J => ?_; simp only [go_sem]; apply J; refine sr rfl fun _ k2 => ?_; simp only [go_sem]; apply k2; refine sq fun _ k3 => ?_; refine sr rfl fun _ J => ?_; simp only [go_sem]; apply J; refine wb ?_
 refine awp_nil (t := 3) 107 1 rfl (by decide) ?_
 simp only [go_sem]
 refine wl (α := Nat) (fun x => x ≤ ls.length) (fun x => ls.length - x) (fun x => ([(3, .ref 0), (9, .sl 1 (ls.map rsA)), (10, .raw (.int .i64 (ls.length : Int))), (11, .raw (.int .i64 (x : Int)))], [(0, .row 107 1 ((ls.take x).map rsO))])) 1 0 (Nat.zero_le _) [] ?_ ?_
 · simp only [go_sem, AObj.bel, List.take_zero, List.map_nil, Int.natCast_zero] <;> simp
 rintro i hi
 refine sr rfl fun _ J => ?_; simp only [go_sem]; apply J; refine sq fun _ k6 => ?_
 refine cd rfl (fun hc1 => ?_) fun hc1 => ?_
 · have hlt : i < ls.length := (by simpa using hc1); obtain ⟨l, hl, hdrop, hml⟩ := ix hlt
   have hsl := hs.2 l hml
   have hll := hsl.1
   refine wk ?_; apply k6; refine sq fun _ k7 => ?_; refine wb ?_; refine sr rfl fun _ k8 => ?_; simp only [go_sem, hl, rsA]
   repeat (first | refine ⟨by first | omega | (intro hg; simp at hg; omega), ?_⟩ | fail)
   apply k8; refine sr rfl fun _ J => ?_; simp only [go_sem]; apply J; refine sq fun _ k10 => ?_; refine sr rfl fun _ J => ?_; simp only [go_sem, rsA]; apply J; refine wb ?_
   refine awp_nil (t := 6) 109 2 rfl (by decide) ?_
   simp only [go_sem]
   refine wl (α := Nat) (fun x => x ≤ l.length) (fun x => l.length - x) (fun x => ([(3, .ref 0), (6, .ref 1), (9, .sl 1 (ls.map rsA)), (10, .raw (.int .i64 (ls.length : Int))), (11, .raw (.int .i64 (i : Int))), (15, .sl 2 (l.map rA)), (16, .raw (.int .i64 (l.length : Int))), (17, .raw (.int .i64 (x : Int)))], [(0, .row 107 1 ((ls.take i).map rsO)), (1, .row 109 2 ((l.take x).map runOwn))])) 2 0 (Nat.zero_le _) [] ?_ ?_
   · simp only [go_sem, AObj.bel, List.take_zero, List.map_nil, Int.natCast_zero] <;> simp
   rintro k hk
   refine sr rfl fun _ J => ?_; simp only [go_sem]; apply J; refine sq fun _ k13 => ?_
   refine cd rfl (fun hc2 => ?_) fun hc2 => ?_
   · have hltk : k < l.length := by simpa using hc2
     obtain ⟨r, hr, _, hmr⟩ := ix hltk
     have hrl := (hsl.2 r hmr).1
     refine wk ?_; apply k13; refine sq fun _ k14 => ?_; refine wb ?_; refine sr rfl fun _ k15 => ?_; simp only [go_sem, hr, rA]
     repeat (first | refine ⟨by first | omega | (intro hg; simp at hg; omega), ?_⟩ | fail)
     apply k15; refine wg rfl ?_; simp only [go_sem, List.length_take, List.length_append, List.nil_append, List.length_map, List.length_reverse, List.length_drop]
     repeat (first | refine ⟨by first | omega | (intro hg; simp at hg; omega), ?_⟩ | fail)
     refine vn 1 rfl rfl rfl ⟨Tryz.func170, rfl, rfl⟩ (w_impl_runCopy r hrl) (by simp only [go_sem, rA]) (by simp only [go_sem, rA]) (by simp) (by decide) ?_
     simp only [go_sem, AV.ren, AObj.ren, aA, shift, sg, Nat.le_refl, Nat.add_zero, Nat.sub_self, List.length_take, List.length_append, List.nil_append, List.length_map, List.length_reverse, List.length_drop]
     repeat (first | refine ⟨by first | omega | (intro hg; simp at hg; omega), ?_⟩ | fail)
     try simp only [go_sem, lQ]
     apply k14
     have hwk : IntKind.i64.wrap ((k : Int) + 1) = ((k + 1 : Nat) : Int) := by rw [IntKind.wrap_i64]; omega
     have htk : List.take k (List.map runOwn l) ++ [AV.agg [AV.own 65 5 (List.map enA r.ents), AV.raw (Value.int IntKind.i64 r.mask)]] = List.take (k + 1) (List.map runOwn l) := by rw [← List.map_take, ← List.map_take]; exact runOwn_take hr
     refine wg rfl ?_; simp only [go_sem, hwk]; try simp only [go_sem, lQ]
     refine ⟨k + 1, by omega, by omega, [(1, 5)], ?_⟩
     simp only [go_sem, AObj.bel, AObj.ren, AV.ren, aA, sg, Int.natCast_zero] <;> simp
     exact htk
   have hgek : l.length ≤ k := by have h9 : ¬ k < l.length := (by simpa using hc2); omega
   refine we ?_; try simp only [go_sem, lQ]
   apply k10
   have hfull : l.take k = l := List.take_of_length_le (by omega)
   refine wg rfl ?_; simp only [go_sem, hfull, List.length_take, List.length_append, List.nil_append, List.length_map, List.length_reverse, List.length_drop]
   repeat (first | refine ⟨by first | omega | (intro hg; simp at hg; omega), ?_⟩ | fail)
   try simp only [go_sem, lQ]
   apply k7
   have hw : IntKind.i64.wrap ((i : Int) + 1) = ((i + 1 : Nat) : Int) := by rw [IntKind.wrap_i64]; omega
   have htl : List.take i (List.map rsO ls) ++ [AV.own 109 2 (List.map runOwn l)] = List.take (i + 1) (List.map rsO ls) := by rw [← List.map_take, ← List.map_take]; exact runsOwn_take hl
   refine wg rfl ?_; simp only [go_sem, hw]; try simp only [go_sem, lQ]
   refine ⟨i + 1, by omega, by omega, [(0, 3)], ?_⟩
   simp only [go_sem, AObj.bel, AObj.ren, AV.ren, aA, sg, Int.natCast_zero] <;> simp
   exact htl
 have hge : ls.length ≤ i := Nat.not_lt.1 (by simpa using hc1)
 refine we ?_; try simp only [go_sem, lQ]
 apply k3; refine sr rfl fun _ J => ?_; simp only [go_sem]; apply J; refine wR ?_
 have hie : i = ls.length := by omega
 subst hie; rw [List.take_length]; refine ⟨[], ?_⟩
 simp only [go_sem, AObj.bel] <;> simp
theorem w_impl_treeCopy_o (t : Tree) (hs : sTree t) : aD P 120 [trA t] [] 0 (.agg [.raw (.int .i64 t.seq), .ref 0, .ref 1, .ref 2]) [(0, .row 65 5 (t.mem.map enA)), (1, .row 107 1 (t.levels.map rsO)), (2, .row 3 1 (t.snaps.map inA))] 3 := by
 refine gw (N := 15) (vs := [.cell 2 36]) ⟨Tryz.func120, rfl, rfl⟩ rfl rfl (by simp) ?_
 simp only [eE, trA]
 have hmx : maxLen = 9223372036854775807 := rfl
 obtain ⟨⟨hs1, _⟩, hs2, hs3⟩ := hs
 refine sr rfl fun _ J => ?_; simp only [go_sem]; apply J; refine sd mixed rfl fun _ k2 => ?_; simp only [go_sem, List.length_take, List.length_append, List.nil_append, List.length_map, List.length_reverse, List.length_drop]
 repeat (first | refine ⟨by first | omega | (intro hg; simp at hg; omega), ?_⟩ | fail)
 refine tn 1 rfl rfl rfl ⟨Tryz.func121, rfl, rfl⟩ (w_impl_levelsCopy_o t.levels hs2) (by simp only [go_sem]) (by simp only [go_sem]) (by simp) (by decide) ?_
 simp only [go_sem, AV.ren, AObj.ren, aA, shift, sg, Nat.le_refl, Nat.add_zero, Nat.sub_self]
 repeat (first | refine ⟨by first | omega | (intro hg; simp at hg; omega), ?_⟩ | fail)
 refine ⟨by rfl, ?_⟩; apply k2; refine wR ?_
 refine ⟨[(0, 2), (1, 3), (2, 4)], ?_⟩
 simp only [go_sem, AObj.bel, AObj.ren, AV.ren, aA, sg] <;> simp
theorem w_impl_treeWrite (t : Tree) (b : List Entry) (hb : bT b) (hl : b.length ≤ 1048576) (hm : t.mem.length ≤ 1048576) (h0 : 0 ≤ t.seq) (h1 : t.seq ≤ 100000) : aB P 70 [trA t, .sl 5 (b.map enA)] [] 0 (.tup [trA (treeWI t b).1, .raw (.bool (treeWI t b).2)]) := by
 refine pw (N := 42) (vs := [.cell 4 36, .tmp 5]) ⟨Tryz.func70, rfl, rfl⟩ rfl rfl (by simp) ?_
 simp only [eE, trA]
 have hmx : maxLen = 9223372036854775807 := rfl
 refine sr rfl fun _ J => ?_; simp only [go_sem]; apply J; refine sr rfl fun _ k2 => ?_; simp only [go_sem]
 refine vp rfl rfl rfl ⟨Tryz.func71, rfl, rfl⟩ (w_impl_stamped t.seq b hb hl h0 h1) (by simp only [go_sem]) (by simp only [go_sem]) ?_
 simp only [go_sem]
 have hsm := stmpI_small (seq := t.seq) hl
 obtain ⟨hs1, hs2⟩ := hsm
 apply k2; refine sq fun _ k3 => ?_
 have hw1 : IntKind.i64.wrap ((t.mem.length : Int) + ((bK t.seq b).1.length : Int)) = (t.mem.length : Int) + ((bK t.seq b).1.length : Int) := by rw [IntKind.wrap_i64]; omega
 refine sr rfl fun _ J => ?_; simp only [go_sem, hw1]; apply J
 refine cd rfl (fun hc1 => ?_) fun hc1 => ?_
 · have hbd : tWBad t b = true := hc1
   refine sr rfl fun _ J => ?_; simp only [go_sem]; apply J; refine wR ?_
   refine fO ?_ ⟨⟨trivial, enB _ _, dD _ _, intAV_bel _ _, trivial⟩, trivial, trivial⟩
   simp only [go_sem, treeWI, hbd, if_true, trA]
 have hbd : tWBad t b = false := hc1
 have hmrg : sMrg [t.mem, (bK t.seq b).1] := ⟨by simp, fun l hl => by
   simp only [List.mem_cons, List.not_mem_nil, or_false] at hl
   rcases hl with rfl | rfl
   · exact hm
   exact hs1, by simp; omega⟩
 refine wk ?_; apply k3; refine sr rfl fun _ J => ?_; simp only [go_sem]; apply J; refine sr rfl fun _ k7 => ?_; simp only [go_sem]
 repeat (first | refine ⟨by first | omega | (intro hg; simp at hg; omega), ?_⟩ | fail)
 refine vC (fun hN => lend_new [3] (xs := [.ref 3]) rfl rfl rfl ⟨Tryz.func89, rfl, rfl⟩ hN (w_impl_MergeAll [t.mem, (bK t.seq b).1] hmrg) (by simp) (by decide) (by rfl) (by simp [lend, lend1, Abs.get, fzL, AV.fz, esA, cA]) (by simp only [go_sem]) rfl (fun p hp => by rw [List.mem_singleton.1 hp]; exact entRow_nf _)) (.inr (by decide)) ?_
 simp only [go_sem, AV.ren, AObj.ren, aA, shift, sg, Nat.le_refl, Nat.add_zero, Nat.sub_self]
 repeat (first | refine ⟨by first | omega | (intro hg; simp at hg; omega), ?_⟩ | fail)
 apply k7
 have hw2 : IntKind.i64.wrap (t.seq + ((bK t.seq b).1.length : Int)) = t.seq + ((bK t.seq b).1.length : Int) := by rw [IntKind.wrap_i64]; omega
 refine sr rfl fun _ J => ?_; simp only [go_sem, hw2]; apply J; refine sr rfl fun _ k9 => ?_; simp only [go_sem]; apply k9
 refine aFz 4 rfl ?_
 simp only [go_sem, fzL, AV.fz]; refine wR ?_
 refine fO ?_ ⟨⟨trivial, enB _ _, dD _ _, intAV_bel _ _, trivial⟩, trivial, trivial⟩
 simp only [go_sem, treeWI, hbd, Bool.false_eq_true, if_false, trA]
theorem entLt_eq {x y : Entry} (h1 : entLt x y = false) (h2 : entLt y x = false) : x.seq = y.seq := by
  rw [← entCmp_lt] at h1 h2
  rw [entCmp_flip x y] at h2
  simp at h1 h2
  have h0 : entCmp x y = 0 := by omega
  unfold entCmp at h0; split at h0
  · rename_i h; exact absurd h0 h
  unfold cmpI at h0; split at h0
  · omega
  split at h0
  · omega
  omega
theorem stGo_seq (seq : Int) : ∀ (r : List Entry) (i : Nat) (out : List Entry), out.length = i → (∀ (k : Nat) (d : Entry), out[k]? = some d → d.seq = seq + 1 + k) → ∀ (k : Nat) (d : Entry), (stGo seq r i out).1[k]? = some d → d.seq = seq + 1 + k
  | [], i, out, _, h => h
  | e :: r, i, out, hi, h => by
    unfold stGo; split
    · split
      · refine stGo_seq seq r (i + 1) _ (by simp [hi]) fun k d hk => ?_
        by_cases hlt : k < out.length
        · rw [List.getElem?_append_left hlt] at hk; exact h k d hk
        rw [List.getElem?_append_right (by omega)] at hk
        have h0 : k - out.length = 0 := by
          have := (List.getElem?_eq_some_iff.1 hk).1
          simp at this; omega
        rw [h0] at hk; cases hk
        have : k = i := by omega
        subst this; rfl
      exact h
    exact h
theorem stmpI_eq (seq : Int) (b : List Entry) : (bK seq b).2 = (aI b seq).2 ∧ ((aI b seq).2 = true → (bK seq b).1 = (aI b seq).1) := by
  unfold bK aI; split
  · rename_i h
    have h9 : (decide (1 ≤ (b.length : Int)) && decide ((b.length : Int) ≤ 12)) = false := by simp at h ⊢; omega
    simp only [h9, Bool.and_false]
    exact ⟨by simp, fun h => by simp at h⟩
  rename_i h
  have h9 : (decide (1 ≤ (b.length : Int)) && decide ((b.length : Int) ≤ 12)) = true := by simp at h ⊢; omega
  simp only [h9, Bool.and_true]; split
  · rename_i h2; exact ⟨h2.symm, fun _ => rfl⟩
  rename_i h2; exact ⟨by simpa using h2, fun h3 => absurd h3 h2⟩
theorem merge_write {m d : List Entry} {seq : Int} (hm : inOrd m = true) (hw : within m seq = true) (hd : ∀ (k : Nat) (e : Entry), d[k]? = some e → e.seq = seq + 1 + k) : Plain.mergeAll entLt [m, d] = d.foldl dH m := by
  have hle : ∀ e ∈ m, e.seq ≤ seq := (within_iff m seq).1 hw
  have hgt : ∀ e ∈ d, seq < e.seq := fun e he => by
    obtain ⟨k, hk⟩ := List.getElem?_of_mem he
    have := hd k e hk; omega
  rw [Plain.mergeAll_put entLt_wo [m, d] (fun x hx y hy h1 h2 => ?_) (m ++ d) (by simp)]
  · rw [List.foldl_append]
    have e1 : m.foldl (Plain.put entLt) [] = m := by rw [← sortE_put]; exact sortE_ord hm
    rw [e1]
    congr 1
    funext a b
    exact put_eq a b
  have hs := entLt_eq h1 h2
  simp only [List.flatMap_cons, id, List.flatMap_nil, List.append_nil, List.mem_append] at hx hy
  rcases hx with hx | hx <;> rcases hy with hy | hy
  · exact pw_distinct (inOrd_pw hm) x hx y hy h1 h2
  · have := hle x hx; have := hgt y hy; omega
  · have := hgt x hx; have := hle y hy; omega
  obtain ⟨i, hi⟩ := List.getElem?_of_mem hx
  obtain ⟨j, hj⟩ := List.getElem?_of_mem hy
  have hi2 := hd i x hi
  have hj2 := hd j y hj
  have : i = j := by omega
  subst this
  rw [hi] at hj; cases hj; rfl
theorem treeWI_eq {t : Tree} (b : List Entry) (h : bU t = true) : treeWI t b = writeS t b := by
  have hb : treeBadS t = false := by
    cases hx : treeBadS t with
    | false => rfl
    | true => unfold bU at h; rw [hx] at h; simp at h
  have hio : inOrd t.mem = true := by unfold treeBadS at hb; simp only [Bool.or_eq_false_iff, Bool.not_eq_false'] at hb; exact hb.1.1.1.2
  have hwi : within t.mem t.seq = true := by unfold treeBadS at hb; simp only [Bool.or_eq_false_iff, Bool.not_eq_false'] at hb; exact hb.1.1.2
  obtain ⟨e1, e2⟩ := stmpI_eq t.seq b
  unfold treeWI writeS tWBad writeBad; rw [e1]
  by_cases hs : (aI b t.seq).2 = true
  · rw [e2 hs]; split
    · rfl
    rw [merge_write hio hwi (by
      have := stGo_seq t.seq b 0 [] rfl (fun k d hk => by cases hk)
      unfold aI
      exact this)]
  have : (aI b t.seq).2 = false := by simpa using hs
  rw [this]; rfl
end Go.Proofs.S
end
section
open Go.Shelf
namespace Go.Proofs
def Tryz.lays137_ren : Go.Shelf.Ren := ⟨fun | 137 => 231 | 217 => 240 | 266 => 248 | n => n, fun | 9 => 9 | 5 => 5 | 3 => 3 | n => n, fun | n => n⟩
theorem Tryz.lays137 : Go.Proofs.Lays.n137 Tryz.prog Tryz.lays137_ren := {
  mixed := by kernel_rfl
  f137 := Tryz.func231.trans (congrArg some (by kernel_rfl))
  f217 := Tryz.func240.trans (congrArg some (by kernel_rfl))
  f266 := Tryz.func248.trans (congrArg some (by kernel_rfl))
  t3 := Tryz.underlying3
  a3 := Tryz.isAgg3
  z3 := Tryz.sizeOf3
  v3 := Tryz.zeroValue3
  t5 := Tryz.underlying5
  a5 := Tryz.isAgg5
  z5 := Tryz.sizeOf5
  v5 := Tryz.zeroValue5
  t9 := Tryz.underlying9
  a9 := Tryz.isAgg9
  z9 := Tryz.sizeOf9
  v9 := Tryz.zeroValue9 }
def Tryz.laysM171_ren : Go.Shelf.Ren := ⟨fun | 171 => 125 | 243 => 173 | 246 => 205 | 283 => 224 | 284 => 225 | 285 => 226 | 286 => 227 | 129 => 235 | 317 => 234 | 318 => 236 | 319 => 237 | 320 => 238 | 337 => 246 | 338 => 247 | n => n, fun | 3 => 3 | 9 => 9 | 2 => 2 | 4 => 4 | 171 => 244 | 0 => 0 | 53 => 245 | 37 => 100 | 5 => 5 | 173 => 248 | 212 => 254 | 51 => 255 | 20 => 20 | 213 => 256 | 46 => 201 | 232 => 271 | 233 => 272 | n => n, fun | 17 => 0 | 18 => 3 | 19 => 4 | n => n⟩
theorem Tryz.laysM171 : Go.Proofs.LaysM.n171 Tryz.prog Tryz.laysM171_ren := {
  mixed := by kernel_rfl
  f129 := Tryz.func235.trans (congrArg some (by kernel_rfl))
  f171 := Tryz.func125.trans (congrArg some (by kernel_rfl))
  f243 := Tryz.func173.trans (congrArg some (by kernel_rfl))
  f246 := Tryz.func205.trans (congrArg some (by kernel_rfl))
  f283 := Tryz.func224.trans (congrArg some (by kernel_rfl))
  f284 := Tryz.func225.trans (congrArg some (by kernel_rfl))
  f285 := Tryz.func226.trans (congrArg some (by kernel_rfl))
  f286 := Tryz.func227.trans (congrArg some (by kernel_rfl))
  f317 := Tryz.func234.trans (congrArg some (by kernel_rfl))
  f318 := Tryz.func236.trans (congrArg some (by kernel_rfl))
  f319 := Tryz.func237.trans (congrArg some (by kernel_rfl))
  f320 := Tryz.func238.trans (congrArg some (by kernel_rfl))
  f337 := Tryz.func246.trans (congrArg some (by kernel_rfl))
  f338 := Tryz.func247.trans (congrArg some (by kernel_rfl))
  t0 := Tryz.underlying0
  a0 := Tryz.isAgg0
  z0 := Tryz.sizeOf0
  v0 := Tryz.zeroValue0
  t2 := Tryz.underlying2
  a2 := Tryz.isAgg2
  z2 := Tryz.sizeOf2
  v2 := Tryz.zeroValue2
  t3 := Tryz.underlying3
  a3 := Tryz.isAgg3
  z3 := Tryz.sizeOf3
  v3 := Tryz.zeroValue3
  t4 := Tryz.underlying4
  a4 := Tryz.isAgg4
  z4 := Tryz.sizeOf4
  v4 := Tryz.zeroValue4
  t5 := Tryz.underlying5
  a5 := Tryz.isAgg5
  z5 := Tryz.sizeOf5
  v5 := Tryz.zeroValue5
  t9 := Tryz.underlying9
  a9 := Tryz.isAgg9
  z9 := Tryz.sizeOf9
  v9 := Tryz.zeroValue9
  t20 := Tryz.underlying20
  a20 := Tryz.isAgg20
  z20 := Tryz.sizeOf20
  v20 := Tryz.zeroValue20
  t37 := Tryz.underlying100
  a37 := Tryz.isAgg100
  z37 := Tryz.sizeOf100
  v37 := Tryz.zeroValue100
  t46 := Tryz.underlying201
  a46 := Tryz.isAgg201
  z46 := Tryz.sizeOf201
  v46 := Tryz.zeroValue201
  t51 := Tryz.underlying255
  a51 := Tryz.isAgg255
  z51 := Tryz.sizeOf255
  v51 := Tryz.zeroValue255
  t53 := Tryz.underlying245
  a53 := Tryz.isAgg245
  z53 := Tryz.sizeOf245
  v53 := Tryz.zeroValue245
  t171 := Tryz.underlying244
  a171 := Tryz.isAgg244
  z171 := Tryz.sizeOf244
  v171 := Tryz.zeroValue244
  t173 := Tryz.underlying248
  a173 := Tryz.isAgg248
  z173 := Tryz.sizeOf248
  v173 := Tryz.zeroValue248
  t212 := Tryz.underlying254
  a212 := Tryz.isAgg254
  z212 := Tryz.sizeOf254
  v212 := Tryz.zeroValue254
  t213 := Tryz.underlying256
  a213 := Tryz.isAgg256
  z213 := Tryz.sizeOf256
  t232 := Tryz.underlying271
  a232 := Tryz.isAgg271
  z232 := Tryz.sizeOf271
  v232 := Tryz.zeroValue271
  t233 := Tryz.underlying272
  a233 := Tryz.isAgg272
  z233 := Tryz.sizeOf272
  v233 := Tryz.zeroValue272
  g17 := by kernel_rfl
  g18 := by kernel_rfl
  g19 := by kernel_rfl
  i0 := by kernel_rfl
  i2 := by kernel_rfl
  i3 := by kernel_rfl
  i4 := by kernel_rfl
  i5 := by kernel_rfl
  i9 := by kernel_rfl
  i20 := by kernel_rfl
  i37 := by kernel_rfl
  i46 := by kernel_rfl
  i51 := by kernel_rfl
  i53 := by kernel_rfl
  i171 := by kernel_rfl
  i173 := by kernel_rfl
  i212 := by kernel_rfl
  i232 := by kernel_rfl
  i233 := by kernel_rfl
  m17 := by kernel_rfl
  m18 := by kernel_rfl
  m19 := by kernel_rfl }
def Tryz.laysC172_ren : Go.Shelf.Ren := ⟨fun | 172 => 223 | 244 => 232 | 245 => 233 | 247 => 241 | 279 => 242 | 280 => 243 | 281 => 244 | 282 => 245 | 287 => 249 | 316 => 250 | 171 => 125 | 205 => 251 | 321 => 252 | 322 => 253 | 243 => 173 | 246 => 205 | 283 => 224 | 284 => 225 | 285 => 226 | 286 => 227 | 129 => 235 | 317 => 234 | 318 => 236 | 319 => 237 | 320 => 238 | 337 => 246 | 338 => 247 | n => n, fun | 9 => 9 | 3 => 3 | 75 => 146 | 76 => 147 | 4 => 4 | 5 => 5 | 167 => 258 | 37 => 100 | 0 => 0 | 85 => 259 | 2 => 2 | 168 => 261 | 53 => 245 | 175 => 265 | 46 => 201 | 210 => 269 | 127 => 190 | 145 => 276 | 143 => 274 | 21 => 21 | 171 => 244 | 173 => 248 | 212 => 254 | 51 => 255 | 20 => 20 | 213 => 256 | 232 => 271 | 233 => 272 | 80 => 150 | n => n, fun | 15 => 1 | 16 => 2 | 17 => 0 | 18 => 3 | 19 => 4 | n => n⟩
theorem Tryz.laysC172 : Go.Proofs.LaysC.n172 Tryz.prog Tryz.laysC172_ren := {
  mixed := by kernel_rfl
  f129 := Tryz.func235.trans (congrArg some (by kernel_rfl))
  f171 := Tryz.func125.trans (congrArg some (by kernel_rfl))
  f172 := Tryz.func223.trans (congrArg some (by kernel_rfl))
  f205 := Tryz.func251.trans (congrArg some (by kernel_rfl))
  f243 := Tryz.func173.trans (congrArg some (by kernel_rfl))
  f244 := Tryz.func232.trans (congrArg some (by kernel_rfl))
  f245 := Tryz.func233.trans (congrArg some (by kernel_rfl))
  f246 := Tryz.func205.trans (congrArg some (by kernel_rfl))
  f247 := Tryz.func241.trans (congrArg some (by kernel_rfl))
  f279 := Tryz.func242.trans (congrArg some (by kernel_rfl))
  f280 := Tryz.func243.trans (congrArg some (by kernel_rfl))
  f281 := Tryz.func244.trans (congrArg some (by kernel_rfl))
  f282 := Tryz.func245.trans (congrArg some (by kernel_rfl))
  f283 := Tryz.func224.trans (congrArg some (by kernel_rfl))
  f284 := Tryz.func225.trans (congrArg some (by kernel_rfl))
  f285 := Tryz.func226.trans (congrArg some (by kernel_rfl))
  f286 := Tryz.func227.trans (congrArg some (by kernel_rfl))
  f287 := Tryz.func249.trans (congrArg some (by kernel_rfl))
  f316 := Tryz.func250.trans (congrArg some (by kernel_rfl))
  f317 := Tryz.func234.trans (congrArg some (by kernel_rfl))
  f318 := Tryz.func236.trans (congrArg some (by kernel_rfl))
  f319 := Tryz.func237.trans (congrArg some (by kernel_rfl))
  f320 := Tryz.func238.trans (congrArg some (by kernel_rfl))
  f321 := Tryz.func252.trans (congrArg some (by kernel_rfl))
  f322 := Tryz.func253.trans (congrArg some (by kernel_rfl))
  f337 := Tryz.func246.trans (congrArg some (by kernel_rfl))
  f338 := Tryz.func247.trans (congrArg some (by kernel_rfl))
  t0 := Tryz.underlying0
  a0 := Tryz.isAgg0
  z0 := Tryz.sizeOf0
  v0 := Tryz.zeroValue0
  t2 := Tryz.underlying2
  a2 := Tryz.isAgg2
  z2 := Tryz.sizeOf2
  v2 := Tryz.zeroValue2
  t3 := Tryz.underlying3
  a3 := Tryz.isAgg3
  z3 := Tryz.sizeOf3
  v3 := Tryz.zeroValue3
  t4 := Tryz.underlying4
  a4 := Tryz.isAgg4
  z4 := Tryz.sizeOf4
  v4 := Tryz.zeroValue4
  t5 := Tryz.underlying5
  a5 := Tryz.isAgg5
  z5 := Tryz.sizeOf5
  v5 := Tryz.zeroValue5
  t9 := Tryz.underlying9
  a9 := Tryz.isAgg9
  z9 := Tryz.sizeOf9
  v9 := Tryz.zeroValue9
  t20 := Tryz.underlying20
  a20 := Tryz.isAgg20
  z20 := Tryz.sizeOf20
  v20 := Tryz.zeroValue20
  t21 := Tryz.underlying21
  a21 := Tryz.isAgg21
  z21 := Tryz.sizeOf21
  v21 := Tryz.zeroValue21
  t37 := Tryz.underlying100
  a37 := Tryz.isAgg100
  z37 := Tryz.sizeOf100
  v37 := Tryz.zeroValue100
  t46 := Tryz.underlying201
  a46 := Tryz.isAgg201
  z46 := Tryz.sizeOf201
  v46 := Tryz.zeroValue201
  t51 := Tryz.underlying255
  a51 := Tryz.isAgg255
  z51 := Tryz.sizeOf255
  v51 := Tryz.zeroValue255
  t53 := Tryz.underlying245
  a53 := Tryz.isAgg245
  z53 := Tryz.sizeOf245
  v53 := Tryz.zeroValue245
  t75 := Tryz.underlying146
  a75 := Tryz.isAgg146
  z75 := Tryz.sizeOf146
  v75 := Tryz.zeroValue146
  t76 := Tryz.underlying147
  a76 := Tryz.isAgg147
  z76 := Tryz.sizeOf147
  v76 := Tryz.zeroValue147
  t85 := Tryz.underlying259
  a85 := Tryz.isAgg259
  z85 := Tryz.sizeOf259
  v85 := Tryz.zeroValue259
  t127 := Tryz.underlying190
  a127 := Tryz.isAgg190
  z127 := Tryz.sizeOf190
  v127 := Tryz.zeroValue190
  t143 := Tryz.underlying274
  a143 := Tryz.isAgg274
  z143 := Tryz.sizeOf274
  v143 := Tryz.zeroValue274
  t145 := Tryz.underlying276
  a145 := Tryz.isAgg276
  z145 := Tryz.sizeOf276
  v145 := Tryz.zeroValue276
  t167 := Tryz.underlying258
  a167 := Tryz.isAgg258
  z167 := Tryz.sizeOf258
  v167 := Tryz.zeroValue258
  t168 := Tryz.underlying261
  a168 := Tryz.isAgg261
  z168 := Tryz.sizeOf261
  v168 := Tryz.zeroValue261
  t171 := Tryz.underlying244
  a171 := Tryz.isAgg244
  z171 := Tryz.sizeOf244
  v171 := Tryz.zeroValue244
  t173 := Tryz.underlying248
  a173 := Tryz.isAgg248
  z173 := Tryz.sizeOf248
  v173 := Tryz.zeroValue248
  t175 := Tryz.underlying265
  a175 := Tryz.isAgg265
  z175 := Tryz.sizeOf265
  v175 := Tryz.zeroValue265
  t210 := Tryz.underlying269
  a210 := Tryz.isAgg269
  z210 := Tryz.sizeOf269
  v210 := Tryz.zeroValue269
  t212 := Tryz.underlying254
  a212 := Tryz.isAgg254
  z212 := Tryz.sizeOf254
  v212 := Tryz.zeroValue254
  t213 := Tryz.underlying256
  a213 := Tryz.isAgg256
  z213 := Tryz.sizeOf256
  t232 := Tryz.underlying271
  a232 := Tryz.isAgg271
  z232 := Tryz.sizeOf271
  v232 := Tryz.zeroValue271
  t233 := Tryz.underlying272
  a233 := Tryz.isAgg272
  z233 := Tryz.sizeOf272
  v233 := Tryz.zeroValue272
  g15 := by kernel_rfl
  g16 := by kernel_rfl
  g17 := by kernel_rfl
  g18 := by kernel_rfl
  g19 := by kernel_rfl
  t80 := Tryz.underlying150
  a80 := Tryz.isAgg150
  z80 := Tryz.sizeOf150
  v80 := Tryz.zeroValue150
  i0 := by kernel_rfl
  i2 := by kernel_rfl
  i3 := by kernel_rfl
  i4 := by kernel_rfl
  i5 := by kernel_rfl
  i9 := by kernel_rfl
  i20 := by kernel_rfl
  i21 := by kernel_rfl
  i37 := by kernel_rfl
  i46 := by kernel_rfl
  i51 := by kernel_rfl
  i53 := by kernel_rfl
  i75 := by kernel_rfl
  i76 := by kernel_rfl
  i80 := by kernel_rfl
  i85 := by kernel_rfl
  i127 := by kernel_rfl
  i143 := by kernel_rfl
  i145 := by kernel_rfl
  i167 := by kernel_rfl
  i168 := by kernel_rfl
  i171 := by kernel_rfl
  i173 := by kernel_rfl
  i175 := by kernel_rfl
  i210 := by kernel_rfl
  i212 := by kernel_rfl
  i232 := by kernel_rfl
  i233 := by kernel_rfl
  m15 := by kernel_rfl
  m16 := by kernel_rfl
  m17 := by kernel_rfl
  m18 := by kernel_rfl
  m19 := by kernel_rfl
  c0 := by kernel_rfl
  c2 := by kernel_rfl
  c3 := by kernel_rfl
  c4 := by kernel_rfl
  c5 := by kernel_rfl
  c9 := by kernel_rfl
  c20 := by kernel_rfl
  c21 := by kernel_rfl
  c37 := by kernel_rfl
  c46 := by kernel_rfl
  c51 := by kernel_rfl
  c53 := by kernel_rfl
  c75 := by kernel_rfl
  c76 := by kernel_rfl
  c80 := by kernel_rfl
  c85 := by kernel_rfl
  c127 := by kernel_rfl
  c143 := by kernel_rfl
  c145 := by kernel_rfl
  c167 := by kernel_rfl
  c168 := by kernel_rfl
  c171 := by kernel_rfl
  c173 := by kernel_rfl
  c175 := by kernel_rfl
  c210 := by kernel_rfl
  c212 := by kernel_rfl
  c213 := by kernel_rfl
  c232 := by kernel_rfl
  c233 := by kernel_rfl }
end Go.Proofs
end
section
open Go Go.Abs Go.Proofs
namespace Go.Proofs.S
section
variable {ρ : Nat → Value} {av : Nat → Prop} {hp : Array Obj} {v : Value} {vals : Array Value}
theorem vals1 (h : dB ρ av hp [.raw v] vals) : vals = #[v] := by
  obtain ⟨h1, h2⟩ := h
  have h3 := h2 0 _ rfl
  apply Array.ext
  · exact h1
  intro i h4 h5
  have hi : i = 0 := by simp at h5; omega
  subst hi; rw [Array.getD_eq_getD_getElem?, Array.getElem?_eq_getElem h4, Option.getD_some] at h3
  generalize vals[0] = u at h3
  cases h3; rfl
theorem vals2 {v u : Value} (h : dB ρ av hp [.raw v, .raw u] vals) : vals = #[v, u] := by
  obtain ⟨h1, h2⟩ := h
  have h3 := h2 0 _ rfl
  have h4 := h2 1 _ rfl
  apply Array.ext
  · exact h1
  intro i h5 h6
  have hs : vals.size = 2 := h1
  have hi : i = 0 ∨ i = 1 := by simp at h6; omega
  rcases hi with rfl | rfl
  · rw [Array.getD_eq_getD_getElem?, Array.getElem?_eq_getElem h5, Option.getD_some] at h3
    generalize vals[0] = z at h3
    cases h3; rfl
  rw [Array.getD_eq_getD_getElem?, Array.getElem?_eq_getElem h5, Option.getD_some] at h4
  generalize vals[1] = z at h4
  cases h4; rfl
def itoaS (n : Int) : ByteArray := ⟨(Lib.itoa n).toArray⟩
theorem gn0 : P.globalNamed "internal/strconv.uint64pow10" = some 0 := by kernel_rfl
theorem w_strconv_Itoa (n : Int) (h0 : -9223372036854775808 ≤ n) (h1 : n ≤ 9223372036854775807) : aB P 125 [.raw (.int .i64 n)] [] 0 (.raw (.string (itoaS n))) := by
  refine pure_of_below trivial fun C w vals hR hv => ?_
  rw [vals1 hv]
  obtain ⟨o, ho1, ho2, _⟩ := hR.gl 0 (.inl rfl)
  obtain ⟨t, fr, rfl⟩ := ho2.1 rfl
  have htab : Lib.TabIs Tryz.prog w "internal/strconv.uint64pow10" .u64 Lib.pow10Tab := by
    unfold Lib.TabIs World.var?
    rw [show Tryz.prog.globalNamed "internal/strconv.uint64pow10" = _ from gn0]; simp only [Option.bind_some, ho1]
  refine (Any.strconv_Itoa Tryz.laysM171 n h0 h1 w htab).mono fun e w' ⟨he, k, os, hw⟩ => ⟨_, he, .raw _, ?_⟩
  rw [hw]; exact below_grow w k os
def atoiV (s : ByteArray) : Int × Bool := match Lib.atoiAll s.data.toList with
  | .ok v => (v, true)
  | .range => (Lib.atoiSat s.data.toList, false)
  | _ => (0, false)
theorem gErr {C : Conc} {w : World} (hR : RelH C [] (UU 0) w) {g : Nat} (hg : g = 1 ∨ g = 2) : ∃ te pe, w.cell? ⟨g, 0, none⟩ = some (.iface te pe) := by
  obtain ⟨o, ho1, ho2, _⟩ := hR.gl g (.inr hg)
  obtain ⟨te, pe, t, fr, rfl⟩ := ho2.2.1 hg
  exact ⟨te, pe, by rw [Lib.cell_of_heap ho1]; rfl⟩
theorem w_Atoi_ok (s : ByteArray) (hs : s.size ≤ 1048576) (h : (atoiV s).2 = true) : aB P 223 [.raw (.string s)] [] 0 (.tup [.raw (.int .i64 (atoiV s).1), .raw .nilIface]) := by
  refine pure_of_below ⟨trivial, trivial, trivial⟩ fun C w vals hR hv => ?_
  rw [vals1 hv]
  have hat : Lib.atoiAll s.data.toList = .ok (atoiV s).1 := by
    unfold atoiV at h ⊢
    split at h
    · rename_i v hq; simp only [hq]
    · cases h
    cases h
  refine (Any.strconv_Atoi_ok Tryz.laysC172 s (by omega) _ hat w).mono fun e w' ⟨he, hw⟩ => ⟨_, he, ?_, ?_⟩
  · exact .tup _ _ rfl fun j x hj => by
      match j, hj with
      | 0, hj => cases hj; exact .raw _
      | 1, hj => cases hj; exact .raw _
  · rcases hw with rfl | ⟨t, rfl⟩
    · exact RowKit.Below.refl _ _
    exact Lib.bytesWorld_below w _ t
theorem w_Atoi_no (s : ByteArray) (hs : s.size ≤ 1048576) (h : (atoiV s).2 = false) : aB P 223 [.raw (.string s)] [] 0 (.tup [.raw (.int .i64 (atoiV s).1), .iface 261 .any]) := by
  refine pure_of_below ⟨trivial, trivial, trivial⟩ fun C w vals hR hv => ?_
  rw [vals1 hv]
  have hrep : ∀ (hp : Array Obj) (N : Nat) (n : Int), Rep C.ρ (C.avoid []) hp (.tup [.raw (.int .i64 n), .iface 261 .any]) (.tuple #[.int .i64 n, .iface 261 (.pointer (some ⟨N, 0, none⟩))]) := fun hp N n => .tup _ _ rfl fun j x hj => by
    match j, hj with
    | 0, hj => cases hj; exact .raw _
    | 1, hj => cases hj; exact .iface _ _ _ (.any _)
  cases hat : Lib.atoiAll s.data.toList with
  | ok v => unfold atoiV at h; rw [hat] at h; cases h
  | range =>
    have hv0 : (atoiV s).1 = Lib.atoiSat s.data.toList := by unfold atoiV; rw [hat]
    obtain ⟨te, pe, hc⟩ := gErr hR (.inr rfl)
    refine (Any.strconv_Atoi_range Tryz.laysC172 s (by omega) hat _ w hc (.inr ⟨te, pe, rfl⟩)).mono fun e w' ⟨N, he, _, _, hB⟩ => ⟨_, he, ?_, hB⟩
    rw [hv0]; exact hrep _ N _
  | _ =>
    have hv0 : (atoiV s).1 = 0 := by unfold atoiV; rw [hat]
    obtain ⟨te, pe, hc⟩ := gErr hR (.inl rfl)
    refine (Any.strconv_Atoi_syntax Tryz.laysC172 s (by omega) hat _ w hc (.inr ⟨te, pe, rfl⟩)).mono fun e w' ⟨N, he, _, _, hB⟩ => ⟨_, he, ?_, hB⟩
    rw [hv0]; exact hrep _ N 0
theorem w_strings_IndexByte (s : ByteArray) (c : Int) : aB P 231 [.raw (.string s), .raw (.int .u8 c)] [] 0 (.raw (.int .i64 (Lib.indexByte s.data.toList c.toNat.toUInt8))) := by
  refine pure_of_below trivial fun C w vals hR hv => ?_
  rw [vals2 hv]
  refine (Any.strings_IndexByte Tryz.lays137 s c w).mono fun e w' ⟨he, hw⟩ => ⟨_, he, .raw _, ?_⟩
  rw [hw]; exact RowKit.Below.refl _ _
abbrev bld0 : AObj := .cells 144 [.raw (.pointer none), .raw (.slice none 0 0)]
abbrev bld1 (k : Nat) : AObj := .cells 144 [.ptr 0 0, .ref k]
abbrev aQ (l : List UInt8) : AObj := .row 5 1 (l.map byteAV)
attribute [go_sem] bytes_bel bytes_ren
theorem uPB : P.underlying 142 = some (.pointer 144) := by kernel_rfl
theorem uUP : P.underlying 226 = some .unsafePointer := by kernel_rfl
theorem uBS : P.underlying 100 = some (.slice 5) := by kernel_rfl
theorem uST : P.underlying 9 = some .string := by kernel_rfl
theorem uPU : P.underlying 190 = some (.pointer 5) := by kernel_rfl
theorem ceU : P.cellsOf 5 = 1 := by kernel_rfl
theorem infoB : ∃ j, P.info? 144 = some j ∧ j.size ≠ 0 := by
  have h : (P.info? 144).map (·.size) = some 2 := by kernel_rfl
  obtain ⟨j, hj, hs⟩ := Option.map_eq_some_iff.1 h
  exact ⟨j, hj, by rw [hs]; decide⟩
theorem infoU : ∃ i, P.info? 5 = some i ∧ i.zero = some (.int .u8 0) ∧ i.size = 1 ∧ i.bytes = 1 := by
  have h : (P.info? 5).map (fun i => (i.zero, i.size, i.bytes)) = some (some (.int .u8 0), 1, 1) := by kernel_rfl
  obtain ⟨j, hj, hs⟩ := Option.map_eq_some_iff.1 h
  simp only [Prod.mk.injEq] at hs
  exact ⟨j, hj, hs.1, hs.2.1, hs.2.2⟩
theorem liesB : liesAt P P.depth 144 (2 / P.cellsOf 144) 0 144 1 = true := by kernel_rfl
theorem noEsc : P.funcs[(204 : Nat)]? = some Tryz.f204 ∧ (Tryz.f204.name == "runtime.NumGoroutine") = false ∧ Tryz.f204.body.isNone = true ∧ Extern.findNext Tryz.f204 = none ∧ Extern.find Tryz.f204 = some Extern.AbiNoEscape.same := by
  refine ⟨?_, ?_, ?_, ?_, ?_⟩ <;> kernel_rfl
theorem w_copyCheck0  : aD P 172 [.ptr 0 0] [(0, bld0)] 1 (.tup []) [(0, .cells 144 [.ptr 0 0, .raw (.slice none 0 0)])] 1 := by
 refine gw (N := 20) (vs := []) ⟨Tryz.func172, rfl, rfl⟩ rfl rfl (by simp) ?_
 simp only [eE, bld0]
 obtain ⟨j, hj, hjs⟩ := infoB
 refine sr rfl fun _ k1 => ?_; simp only [go_sem]
 refine vC (fun hN => lstep_nilEq rfl rfl hN uPB rfl) (.inl rfl) ?_
 simp only [go_sem]; apply k1
 refine cd rfl (fun hc1 => ?_) (fun hc => by simp at hc)
 refine wg rfl ?_; simp only [go_sem]
 refine vC (fun hN => lstep_toUnsafe rfl rfl hN uPB uUP hj hjs rfl rfl (by decide)) (.inl rfl) ?_
 simp only [go_sem]
 refine vC (fun hN => lstep_noEscape rfl rfl rfl rfl hN noEsc.1 noEsc.2.1 noEsc.2.2.1 noEsc.2.2.2.1 noEsc.2.2.2.2 rfl) (.inl rfl) ?_
 simp only [go_sem]
 refine vC (fun hN => lstep_fromUnsafe rfl rfl hN uUP uPB hj rfl rfl liesB) (.inl rfl) ?_
 simp only [go_sem]; refine ⟨[], ?_⟩
 simp only [go_sem, AObj.bel, AObj.ren, AV.ren, aA, sg] <;> simp
theorem w_copyCheck1 (l : List UInt8) : aD P 172 [.ptr 0 0] [(0, bld1 1), (1, aQ l)] 2 (.tup []) [(0, bld1 1), (1, aQ l)] 2 := by
 refine gw (N := 20) (vs := []) ⟨Tryz.func172, rfl, rfl⟩ rfl rfl (by simp) ?_
 simp only [eE, bld1, aQ]
 obtain ⟨j, hj, hjs⟩ := infoB
 refine sr rfl fun _ k1 => ?_; simp only [go_sem]
 refine vC (fun hN => lstep_nilEqP rfl rfl hN uPB rfl) (.inl rfl) ?_
 simp only [go_sem]; apply k1
 refine cd rfl (fun hc => by simp at hc) fun hc1 => ?_
 refine sr rfl fun _ k2 => ?_; simp only [go_sem]
 refine vC (fun hN => lstep_selfNe rfl rfl hN uPB hj rfl rfl) (.inl rfl) ?_
 simp only [go_sem]; apply k2
 refine cd rfl (fun hc => by simp at hc) fun hc2 => ?_
 refine wk ?_; refine ⟨[], ?_⟩
 simp only [go_sem, AObj.bel, AObj.ren, AV.ren, aA, sg] <;> simp
theorem w_WriteString0 (s : ByteArray) (hs : s.size ≤ 140737488355328) : aD P 124 [.ptr 0 0, .raw (.string s)] [(0, bld0)] 1 (.tup [.raw (.int .i64 (s.size : Int)), .raw .nilIface]) [(0, bld1 1), (1, aQ s.data.toList)] 2 := by
 refine gw (N := 19) (vs := [.tmp 4, .tmp 5]) ⟨Tryz.func124, rfl, rfl⟩ rfl rfl (by simp) ?_
 simp only [eE, bld0, bld1, aQ]
 have hmx : maxLen = 9223372036854775807 := rfl
 refine sr rfl fun _ J => ?_; simp only [go_sem]; apply J; refine sr rfl fun _ k2 => ?_; simp only [go_sem]
 refine vg [] 0 rfl rfl rfl ⟨Tryz.func172, rfl, rfl⟩ w_copyCheck0 rfl (by simp only [go_sem]) (by simp only [go_sem]) (fit1 (H1 := []) (.inl rfl) (by simp only [go_sem, bld0]) (by simp only [go_sem, AObj.bel, bld0])) (.inl rfl) ?_
 simp only [go_sem, AV.ren, AObj.ren, aA, shift, sg, Nat.le_refl, Nat.add_zero, Nat.sub_self]; apply k2; refine sr rfl fun _ k3 => ?_; simp only [go_sem]
 refine vC (fun hN => lstep_appStr0 rfl rfl rfl rfl rfl hN uBS uST infoU rfl rfl hs) (.inr (by decide)) ?_
 simp only [go_sem]
 repeat (first | refine ⟨by first | omega | (intro hg; simp at hg; omega), ?_⟩ | fail)
 apply k3; refine sr rfl fun _ J => ?_; simp only [go_sem]; apply J; refine wR ?_; refine ⟨[], ?_⟩
 simp only [go_sem, AObj.bel, AObj.ren, AV.ren, aA, sg] <;> simp
theorem w_WriteString1 (l : List UInt8) (s : ByteArray) (hs : l.length + s.size ≤ 140737488355328) : aD P 124 [.ptr 0 0, .raw (.string s)] [(0, bld1 1), (1, aQ l)] 2 (.tup [.raw (.int .i64 (s.size : Int)), .raw .nilIface]) [(0, bld1 2), (1, .dead), (2, aQ (l ++ s.data.toList))] 3 := by
 refine gw (N := 19) (vs := [.tmp 4, .tmp 5]) ⟨Tryz.func124, rfl, rfl⟩ rfl rfl (by simp) ?_
 simp only [eE, bld1, aQ]
 have hmx : maxLen = 9223372036854775807 := rfl
 refine sr rfl fun _ J => ?_; simp only [go_sem]; apply J; refine sr rfl fun _ k2 => ?_; simp only [go_sem]
 refine vg [] 0 rfl rfl rfl ⟨Tryz.func172, rfl, rfl⟩ (w_copyCheck1 l) rfl (by simp only [go_sem]) (by simp only [go_sem]) (fit2 (.inl rfl) (by simp only [go_sem, bld1, aQ]) (by simp only [go_sem, bld1, aQ]) (by simp only [go_sem, AObj.bel, bld1, aQ] <;> simp) (by simp only [go_sem, AObj.bel, bld1, aQ]) (by simp) ⟨rfl, rfl⟩ (by decide)) (.inl rfl) ?_
 simp only [go_sem, AV.ren, AObj.ren, aA, shift, sg, Nat.le_refl, Nat.add_zero, Nat.sub_self]; apply k2; refine sr rfl fun _ k3 => ?_; simp only [go_sem]
 refine vC (fun hN => lstep_appStr rfl rfl rfl rfl rfl hN uBS uST infoU rfl rfl rfl hs) (.inr (by decide)) ?_
 simp only [go_sem]
 repeat (first | refine ⟨by first | omega | (intro hg; simp at hg; omega), ?_⟩ | fail)
 apply k3; refine sr rfl fun _ J => ?_; simp only [go_sem]; apply J; refine wR ?_; refine ⟨[], ?_⟩
 simp only [go_sem, AObj.bel, AObj.ren, AV.ren, aA, sg] <;> simp
theorem w_BLen1 (l : List UInt8) : aD P 126 [.ptr 0 0] [(0, bld1 1), (1, aQ l)] 2 (.raw (.int .i64 (l.length : Int))) [(0, bld1 1), (1, aQ l)] 2 := by
 refine gw (N := 8) (vs := [.tmp 2]) ⟨Tryz.func126, rfl, rfl⟩ rfl rfl (by simp) ?_
 simp only [eE, bld1, aQ]; refine sr rfl fun _ J => ?_; simp only [go_sem]; apply J; refine sr rfl fun _ k2 => ?_; simp only [go_sem, List.length_map]; apply k2; refine wR ?_; refine ⟨[], ?_⟩
 simp only [go_sem, AObj.bel, AObj.ren, AV.ren, aA, sg] <;> simp
theorem w_BLen0  : aD P 126 [.ptr 0 0] [(0, bld0)] 1 (.raw (.int .i64 0)) [(0, bld0)] 1 := by
 refine gw (N := 8) (vs := [.tmp 2]) ⟨Tryz.func126, rfl, rfl⟩ rfl rfl (by simp) ?_
 simp only [eE, bld0]; refine sr rfl fun _ J => ?_; simp only [go_sem]; apply J; refine sr rfl fun _ k2 => ?_; simp only [go_sem]; apply k2; refine wR ?_; refine ⟨[], ?_⟩
 simp only [go_sem, AObj.bel, AObj.ren, AV.ren, aA, sg] <;> simp
theorem w_BString1 (l : List UInt8) (h0 : l ≠ []) : aD P 127 [.ptr 0 0] [(0, bld1 1), (1, aQ l)] 2 (.raw (.string ⟨l.toArray⟩)) [(0, bld1 1), (1, .dead)] 2 := by
 refine gw (N := 14) (vs := [.tmp 2]) ⟨Tryz.func127, rfl, rfl⟩ rfl rfl (by simp) ?_
 simp only [eE, bld1, aQ]; refine sr rfl fun _ J => ?_; simp only [go_sem]; apply J; refine sd mixed rfl fun _ k2 => ?_; simp only [go_sem, List.length_map]
 refine dE (fun hN => lstep_sliceData (l := l) rfl rfl rfl rfl hN rfl rfl h0 (.inl (by decide))) (.inl rfl) ?_
 simp only [go_sem, List.length_map]
 refine dE (fun hN => lstep_unsafeStr (l := l) rfl rfl rfl rfl rfl hN uPU ceU rfl rfl rfl h0) (.inr (by decide)) ?_
 simp only [go_sem, List.length_map]; refine ⟨by rfl, ?_⟩; apply k2; refine wR ?_; refine ⟨[], ?_⟩
 simp only [go_sem, AObj.bel, AObj.ren, AV.ren, aA, sg] <;> simp
end
def adr (b : Bool) : AV := if b then .ptr 0 0 else .raw (.pointer none)
theorem aH : adr true = .ptr 0 0 := rfl
theorem adr_false : adr false = .raw (.pointer none) := rfl
theorem adr_bel (b : Bool) : (adr b).bel (UU 2) := by
  cases b
  · trivial
  exact .inl (by decide)
theorem adr_ren (b : Bool) : (adr b).ren (sg []) = adr b := AV.ren_nil _
attribute [go_sem] adr_bel adr_ren
abbrev bldC (b : Bool) (k : Nat) : AObj := .cells 144 [adr b, .ref k]
theorem dchr_eq {m : Int} (h0 : 0 ≤ m) (h1 : m ≤ 9) : dchr m = ⟨#[UInt8.ofNat (48 + m.toNat)]⟩ := by
  unfold dchr
  have e1 : IntKind.i64.wrap (48 + m) = 48 + m := by rw [IntKind.wrap_i64]; omega
  have e2 : IntKind.u8.wrap (48 + m) = 48 + m := by rw [IntKind.wrap_u8]; omega
  rw [e1, e2, show (48 + m).toNat = 48 + m.toNat by omega]; rfl
theorem ba_app (a b : List UInt8) : (⟨a.toArray⟩ : ByteArray) ++ ⟨b.toArray⟩ = ⟨(a ++ b).toArray⟩ := by
  apply ByteArray.ext
  simp
theorem decGo_eq : ∀ (f : Nat) (u : Nat) (out : ByteArray), u < 10 ^ (f + 1) → decGo f (u : Int) out = ⟨(Lib.decDigits u).toArray⟩ ++ out
  | 0, u, out, h => by
    unfold decGo; rw [Lib.decDigits, dif_pos (by simpa using h), dchr_eq (by omega) (by simp at h; omega)]; rfl
  | f + 1, u, out, h => by
    unfold decGo; split
    · rename_i h9
      have hu : 10 ≤ u := by omega
      rw [Lib.decDigits, dif_neg (by omega), Int.tdiv_eq_ediv_of_nonneg (by omega), Int.tmod_eq_emod_of_nonneg (by omega)]
      have e1 : (u : Int) / 10 = ((u / 10 : Nat) : Int) := by omega
      have e2 : (u : Int) % 10 = ((u % 10 : Nat) : Int) := by omega
      rw [e1, e2, decGo_eq f (u / 10) _ (by rw [Nat.pow_succ] at h; omega), dchr_eq (by omega) (by omega), ← ba_app, ByteArray.append_assoc]
      rfl
    rename_i h9
    have hu : u < 10 := by omega
    rw [Lib.decDigits, dif_pos hu, dchr_eq (by omega) (by omega)]; rfl
theorem itoaS_dec {n : Int} (h0 : -1000000000000000000 ≤ n) (h1 : n ≤ 1000000000000000000) : itoaS n = dec n := by
  unfold itoaS Lib.itoa dec decP; split
  · rename_i h
    have e : -n = ((n.natAbs : Nat) : Int) := by omega
    rw [e, decGo_eq 19 n.natAbs _ (by omega)]; apply ByteArray.ext
    simp
  rename_i h
  obtain ⟨u, rfl⟩ := Int.eq_ofNat_of_zero_le (by omega : 0 ≤ n)
  rw [decGo_eq 19 u _ (by omega)]; apply ByteArray.ext
  simp
def bL (s : ByteArray) : List UInt8 := s.data.toList
theorem bL_app (a b : ByteArray) : bL (a ++ b) = bL a ++ bL b := by unfold bL; simp [ByteArray.data_append]
theorem bL_mk (s : ByteArray) : (⟨(bL s).toArray⟩ : ByteArray) = s := by apply ByteArray.ext; simp [bL]
theorem aL (s : ByteArray) : (bL s).length = s.size := by unfold bL; rw [Array.length_toList]; rfl
def nsOf (e : Entry) : List Int := [e.seq, e.kind, e.n, (e.text.size : Int)]
def numL (ns : List Int) : List UInt8 := ns.flatMap fun n => bL (dec n ++ spB)
theorem numL_step {ns : List Int} {k : Nat} {n : Int} (h : ns[k]? = some n) : numL (ns.take (k + 1)) = numL (ns.take k) ++ bL (dec n ++ spB) := by
  unfold numL; rw [List.take_add_one, h, List.flatMap_append]
  simp
theorem numL_len (ns : List Int) : (numL ns).length ≤ 22 * ns.length := by
  induction ns with
  | nil => simp [numL]
  | cons a r ih =>
    have h1 := dec_size a
    have h2 : (bL (dec a ++ spB)).length = (dec a).size + 1 := by rw [aL, ByteArray.size_append, aU]
    simp only [numL, List.flatMap_cons, List.length_append, List.length_cons] at ih ⊢
    omega
def bodyL (ls : List Entry) : List UInt8 := bL (bTx ls)
theorem bodyL_step {ls : List Entry} {i : Nat} {e : Entry} (h : ls[i]? = some e) : bodyL (ls.take (i + 1)) = bodyL (ls.take i) ++ bL (e.key ++ spB) ++ numL (nsOf e) ++ bL e.text := by
  unfold bodyL bTx; rw [List.take_add_one, h, List.foldl_append]; simp only [Option.toList_some, List.foldl_cons, List.foldl_nil, frStep, numL, nsOf, List.flatMap_cons, List.flatMap_nil, bL_app, List.append_assoc, List.append_nil]
theorem w_copyCheckN (l : List UInt8) : aD P 172 [.ptr 0 0] [(0, bldC false 1), (1, aQ l)] 2 (.tup []) [(0, bldC true 1), (1, aQ l)] 2 := by
 refine gw (N := 20) (vs := []) ⟨Tryz.func172, rfl, rfl⟩ rfl rfl (by simp) ?_
 simp only [eE, bldC, aQ, aH, adr_false]
 obtain ⟨j, hj, hjs⟩ := infoB
 refine sr rfl fun _ k1 => ?_; simp only [go_sem]
 refine vC (fun hN => lstep_nilEq rfl rfl hN uPB rfl) (.inl rfl) ?_
 simp only [go_sem]; apply k1
 refine cd rfl (fun hc1 => ?_) (fun hc => by simp at hc)
 refine wg rfl ?_; simp only [go_sem]
 refine vC (fun hN => lstep_toUnsafe rfl rfl hN uPB uUP hj hjs rfl rfl (by decide)) (.inl rfl) ?_
 simp only [go_sem]
 refine vC (fun hN => lstep_noEscape rfl rfl rfl rfl hN noEsc.1 noEsc.2.1 noEsc.2.2.1 noEsc.2.2.2.1 noEsc.2.2.2.2 rfl) (.inl rfl) ?_
 simp only [go_sem]
 refine vC (fun hN => lstep_fromUnsafe rfl rfl hN uUP uPB hj rfl rfl liesB) (.inl rfl) ?_
 simp only [go_sem]; refine ⟨[], ?_⟩
 simp only [go_sem, AObj.bel, AObj.ren, AV.ren, aA, sg] <;> simp
theorem w_WriteStringN (l : List UInt8) (s : ByteArray) (hs : l.length + s.size ≤ 140737488355328) : aD P 124 [.ptr 0 0, .raw (.string s)] [(0, bldC false 1), (1, aQ l)] 2 (.tup [.raw (.int .i64 (s.size : Int)), .raw .nilIface]) [(0, bldC true 2), (1, .dead), (2, aQ (l ++ s.data.toList))] 3 := by
 refine gw (N := 19) (vs := [.tmp 4, .tmp 5]) ⟨Tryz.func124, rfl, rfl⟩ rfl rfl (by simp) ?_
 simp only [eE, bldC, aQ, aH, adr_false]
 have hmx : maxLen = 9223372036854775807 := rfl
 refine sr rfl fun _ J => ?_; simp only [go_sem]; apply J; refine sr rfl fun _ k2 => ?_; simp only [go_sem]
 refine vg [] 0 rfl rfl rfl ⟨Tryz.func172, rfl, rfl⟩ (w_copyCheckN l) rfl (by simp only [go_sem]) (by simp only [go_sem]) (fit2 (.inl rfl) (by simp only [go_sem, bldC, aQ, aH, adr_false]) (by simp only [go_sem, bldC, aQ, aH, adr_false]) (by simp only [go_sem, AObj.bel, bldC, aQ, aH, adr_false] <;> simp) (by simp only [go_sem, AObj.bel, bldC, aQ, aH, adr_false]) (by simp) ⟨rfl, rfl⟩ (by decide)) (.inl rfl) ?_
 simp only [go_sem, AV.ren, AObj.ren, aA, shift, sg, Nat.le_refl, Nat.add_zero, Nat.sub_self, bldC, aQ, aH, adr_false]; apply k2; refine sr rfl fun _ k3 => ?_; simp only [go_sem]
 refine vC (fun hN => lstep_appStr rfl rfl rfl rfl rfl hN uBS uST infoU rfl rfl rfl hs) (.inr (by decide)) ?_
 simp only [go_sem]
 repeat (first | refine ⟨by first | omega | (intro hg; simp at hg; omega), ?_⟩ | fail)
 apply k3; refine sr rfl fun _ J => ?_; simp only [go_sem]; apply J; refine wR ?_; refine ⟨[], ?_⟩
 simp only [go_sem, AObj.bel, AObj.ren, AV.ren, aA, sg] <;> simp
theorem w_WriteString (b : Bool) (l : List UInt8) (s : ByteArray) (hs : l.length + s.size ≤ 140737488355328) : aD P 124 [.ptr 0 0, .raw (.string s)] [(0, bldC b 1), (1, aQ l)] 2 (.tup [.raw (.int .i64 (s.size : Int)), .raw .nilIface]) [(0, bldC true 2), (1, .dead), (2, aQ (l ++ bL s))] 3 := by
  cases b
  · exact w_WriteStringN l s hs
  exact w_WriteString1 l s hs
theorem w_BLen (l : List UInt8) : aD P 126 [.ptr 0 0] [(0, bldC true 1), (1, aQ l)] 2 (.raw (.int .i64 (l.length : Int))) [(0, bldC true 1), (1, aQ l)] 2 := w_BLen1 l
theorem w_BString (l : List UInt8) (h0 : l ≠ []) : aD P 127 [.ptr 0 0] [(0, bldC true 1), (1, aQ l)] 2 (.raw (.string ⟨l.toArray⟩)) [(0, bldC true 1), (1, .dead)] 2 := w_BString1 l h0
theorem bodyL_le {ls : List Entry} (h : ∀ e ∈ ls, e.key.size ≤ 1048576 ∧ e.text.size ≤ 1048576) : ∀ i, (bodyL (ls.take i)).length ≤ 3000000 * i
  | 0 => by simp [bodyL, bTx, bL]
  | i + 1 => by
    have ih := bodyL_le h i
    by_cases hi : i < ls.length
    · have he := List.getElem?_eq_getElem hi
      obtain ⟨h1, h2⟩ := h _ (List.getElem_mem hi)
      have h3 := numL_len (nsOf ls[i])
      have h4 : (nsOf ls[i]).length = 4 := rfl
      rw [bodyL_step he]; simp only [List.length_append, aL, ByteArray.size_append, aU]; omega
    rw [List.take_of_length_le (by omega)]; rw [List.take_of_length_le (by omega)] at ih; omega
theorem nsOf_at {e : Entry} {k : Nat} (h : k < 4) : ∃ n, (nsOf e)[k]? = some n ∧ (n = e.seq ∨ n = e.kind ∨ n = e.n ∨ n = (e.text.size : Int)) := by
  have : k = 0 ∨ k = 1 ∨ k = 2 ∨ k = 3 := by omega
  rcases this with rfl | rfl | rfl | rfl
  · exact ⟨_, rfl, .inl rfl⟩
  · exact ⟨_, rfl, .inr (.inl rfl)⟩
  · exact ⟨_, rfl, .inr (.inr (.inl rfl))⟩
  exact ⟨_, rfl, .inr (.inr (.inr rfl))⟩
theorem bodyL_ne {ls : List Entry} (h : 1 ≤ ls.length) : bodyL ls ≠ [] := by
  intro h0
  obtain ⟨i, hi⟩ : ∃ i, ls.length = i + 1 := ⟨ls.length - 1, by omega⟩
  have he := List.getElem?_eq_getElem (l := ls) (i := i) (by omega)
  have h1 := bodyL_step he
  rw [← hi, List.take_length, h0] at h1
  have h2 := congrArg List.length h1
  simp only [List.length_nil, List.length_append, aL, ByteArray.size_append, aU] at h2
  omega
theorem w_impl_FrameText (ls : List Entry) (hz : bT ls) : aB P 72 [.sl 5 (ls.map enA)] [] 0 (.raw (.string (fTx ls))) := by
 refine pw (N := 51) (vs := [.tmp 2]) ⟨Tryz.func72, rfl, rfl⟩ rfl rfl (by simp) ?_
 simp only [eE]
 have hmx : maxLen = 9223372036854775807 := rfl
 have hsp : (#[32] : Array UInt8).size = 1 := rfl
 have hsn : (#[10] : Array UInt8).size = 1 := rfl
 refine sr rfl fun _ J => ?_; simp only [go_sem]; apply J; refine sq fun _ k2 => ?_; refine sr rfl fun _ k3 => ?_; simp only [go_sem]
 refine vp rfl rfl rfl ⟨Tryz.func123, rfl, rfl⟩ (w_impl_batchOk ls hz) (by simp only [go_sem]) (by simp only [go_sem]) ?_
 simp only [go_sem]; apply k3
 refine cd rfl (fun hc1 => ?_) fun hc1 => ?_
 · have hb : isB ls = false := by simpa using hc1
   refine sr rfl fun _ J => ?_; simp only [go_sem]; apply J; refine wR ?_; refine fO ?_ trivial; simp only [go_sem, fTx, hb, Bool.false_eq_true, if_false]
 have hb : isB ls = true := by simpa using hc1
 obtain ⟨hok, hb1, hb2⟩ := cC hb
 have hbl := bodyL_le (ls := ls) fun e he => entOk_small (hok e he)
 refine wk ?_; apply k2; refine sr rfl fun _ J => ?_; simp only [go_sem]; apply J; refine sq fun _ k6 => ?_; refine sr rfl fun _ J => ?_; simp only [go_sem]; apply J; refine wb ?_
 refine awp_nilC (i := 0) (j := 1) 5 1 rfl rfl (by decide) ?_
 simp only [go_sem]
 refine wl (α := Nat) (fun x => x ≤ ls.length) (fun x => ls.length - x) (fun x => ([(3, .ptr 0 0), (11, .sl 5 (ls.map enA)), (12, .raw (.int .i64 (ls.length : Int))), (13, .raw (.int .i64 (x : Int)))], [(0, bldC (decide (0 < x)) 1), (1, aQ (bodyL (ls.take x)))])) 2 0 (Nat.zero_le _) [] ?_ ?_
 · simp only [go_sem, AObj.bel, bldC, aQ, List.take_zero, Int.natCast_zero] <;> simp [adr, bodyL, bTx, bL]
 rintro i hi
 refine sr rfl fun _ J => ?_; simp only [go_sem]; apply J; refine sq fun _ k9 => ?_
 refine cd rfl (fun hc2 => ?_) fun hc2 => ?_
 · have hlt : i < ls.length := (by simpa using hc2); obtain ⟨l, hl, hdrop, hml⟩ := ix hlt
   obtain ⟨r1, r2, r3, r4, r5, r6, r7, r8⟩ := entOk_range (hok l hml)
   obtain ⟨z1, z2⟩ := entOk_small (hok l hml)
   have hbi := hbl i
   refine wk ?_; apply k9; refine sq fun _ k10 => ?_; refine wb ?_; refine sr rfl fun _ k11 => ?_; simp only [go_sem, hl, enA]
   repeat (first | refine ⟨by first | omega | (intro hg; simp at hg; omega), ?_⟩ | fail)
   apply k11; refine sr rfl fun _ k12 => ?_; simp only [go_sem]
   refine ⟨by omega, ?_⟩
   refine vg [] 1 rfl rfl rfl ⟨Tryz.func124, rfl, rfl⟩ (w_WriteString (decide (0 < i)) (bodyL (ls.take i)) (l.key ++ spB) (by rw [ByteArray.size_append, aU]; omega)) rfl (by simp only [go_sem]) (by simp only [go_sem]) (fit2 (.inl rfl) (by simp only [go_sem, bldC, aQ]) (by simp only [go_sem, bldC, aQ]) (by simp only [go_sem, AObj.bel, bldC, aQ] <;> simp) (by simp only [go_sem, AObj.bel, bldC, aQ]) (by simp) ⟨rfl, rfl⟩ (by decide)) (.inr (by decide)) ?_
   simp only [go_sem, AV.ren, AObj.ren, aA, shift, sg, Nat.le_refl, Nat.add_zero, Nat.sub_self, bldC, aQ, aH]; apply k12; refine sq fun _ k13 => ?_; refine sr rfl fun _ k14 => ?_; simp only [go_sem]
   repeat (first | refine ⟨by first | omega | (intro hg; simp at hg; omega), ?_⟩ | fail)
   apply k14; refine wb ?_
   refine wl (α := Nat) (fun x => x ≤ 4) (fun x => 4 - x) (fun x => ([(3, .ptr 0 0), (5, .ptr 3 0), (11, .sl 5 (ls.map enA)), (12, .raw (.int .i64 (ls.length : Int))), (13, .raw (.int .i64 (i : Int))), (30, .ref 2), (31, .raw (.int .i64 (4 : Int))), (32, .raw (.int .i64 (x : Int)))], [(0, bldC true 1), (1, aQ ((bodyL (ls.take i) ++ bL (l.key ++ spB)) ++ numL ((nsOf l).take x))), (2, .row 3 1 ((nsOf l).map inA)), (3, .cells 65 [.raw (.string l.key), .raw (.int .i64 l.seq), .raw (.int .i64 l.kind), .raw (.string l.text), .raw (.int .i64 l.n)])])) 4 0 (Nat.zero_le _) [(1, 3), (2, 4), (3, 2)] ?_ ?_
   · simp only [go_sem, AObj.bel, AObj.ren, AV.ren, aA, sg, bldC, aQ, aH, Int.natCast_zero] <;> simp [numL, aH]
     rfl
   rintro k hk
   refine sr rfl fun _ J => ?_; simp only [go_sem]; apply J; refine sq fun _ k16 => ?_
   refine cd rfl (fun hc3 => ?_) fun hc3 => ?_
   · have hlt4 : k < 4 := by simp at hc3; omega
     obtain ⟨n, hn, hnc⟩ := nsOf_at (e := l) hlt4
     have h44 : (nsOf l).length = 4 := rfl
     have hnum : (numL ((nsOf l).take (k + 1))).map byteAV = (numL ((nsOf l).take k)).map byteAV ++ (bL (dec n ++ spB)).map byteAV := by rw [numL_step hn, List.map_append]
     have hit := itoaS_dec (n := n) (by omega) (by omega)
     have hds := dec_size n
     have hnl := numL_len ((nsOf l).take k)
     rw [List.length_take] at hnl; refine wk ?_; apply k16; refine sq fun _ k17 => ?_; refine wb ?_; refine sr rfl fun _ k18 => ?_; simp only [go_sem, hn, inA, List.length_map, List.getElem?_map]
     repeat (first | refine ⟨by first | omega | (intro hg; simp at hg; omega), ?_⟩ | fail)
     apply k18; refine wg rfl ?_; simp only [go_sem]; skip
     refine vp rfl rfl rfl ⟨Tryz.func125, rfl, rfl⟩ (w_strconv_Itoa n (by omega) (by omega)) (by simp only [go_sem]) (by simp only [go_sem]) ?_
     simp only [go_sem, hit]
     refine ⟨by omega, ?_⟩
     refine vg [] 1 rfl rfl rfl ⟨Tryz.func124, rfl, rfl⟩ (w_WriteString (true) ((bodyL (ls.take i) ++ bL (l.key ++ spB)) ++ numL ((nsOf l).take k)) (dec n ++ spB) (by simp only [List.length_append, aL, ByteArray.size_append, aU]; omega)) rfl (by simp only [go_sem]) (by simp only [go_sem]) (fit2 (.inl rfl) (by simp only [go_sem, bldC, aQ, aH]) (by simp only [go_sem, bldC, aQ, aH]) (by simp only [go_sem, AObj.bel, bldC, aQ, aH] <;> simp) (by simp only [go_sem, AObj.bel, bldC, aQ, aH]) (by simp) ⟨rfl, rfl⟩ (by decide)) (.inr (by decide)) ?_
     simp only [go_sem, AV.ren, AObj.ren, aA, shift, sg, Nat.le_refl, Nat.add_zero, Nat.sub_self, bldC, aQ, aH]; try simp only [go_sem, lQ]
     apply k17
     have hwk : IntKind.i64.wrap ((k : Int) + 1) = ((k + 1 : Nat) : Int) := by rw [IntKind.wrap_i64]; omega
     refine wg rfl ?_; simp only [go_sem, hwk]; try simp only [go_sem, lQ]
     refine ⟨k + 1, by omega, by omega, [(1, 4)], ?_⟩
     simp only [go_sem, AObj.bel, AObj.ren, AV.ren, aA, sg, bldC, aQ, aH, Int.natCast_zero] <;> simp [hnum]
   have hk4 : k = 4 := by simp at hc3; omega
   subst hk4
   have hft : (nsOf l).take 4 = nsOf l := rfl
   rw [hft]
   have hnl := numL_len (nsOf l)
   have h44 : (nsOf l).length = 4 := rfl
   refine we ?_; try simp only [go_sem, lQ]
   apply k13; refine wg rfl ?_; simp only [go_sem]
   refine vg [] 1 rfl rfl rfl ⟨Tryz.func124, rfl, rfl⟩ (w_WriteString (true) ((bodyL (ls.take i) ++ bL (l.key ++ spB)) ++ numL (nsOf l)) (l.text) (by simp only [List.length_append, aL, ByteArray.size_append, aU]; omega)) rfl (by simp only [go_sem]) (by simp only [go_sem]) (fit2 (.inl rfl) (by simp only [go_sem, bldC, aQ, aH]) (by simp only [go_sem, bldC, aQ, aH]) (by simp only [go_sem, AObj.bel, bldC, aQ, aH] <;> simp) (by simp only [go_sem, AObj.bel, bldC, aQ, aH]) (by simp) ⟨rfl, rfl⟩ (by decide)) (.inr (by decide)) ?_
   simp only [go_sem, AV.ren, AObj.ren, aA, shift, sg, Nat.le_refl, Nat.add_zero, Nat.sub_self, bldC, aQ, aH]; try simp only [go_sem, lQ]
   apply k10
   have hw : IntKind.i64.wrap ((i : Int) + 1) = ((i + 1 : Nat) : Int) := by rw [IntKind.wrap_i64]; omega
   have hfin : (bodyL (ls.take i)).map byteAV ++ ((bL (l.key ++ spB)).map byteAV ++ ((numL (nsOf l)).map byteAV ++ (bL l.text).map byteAV)) = (bodyL (ls.take (i + 1))).map byteAV := by rw [bodyL_step hl]; simp only [List.map_append, List.append_assoc]
   refine wg rfl ?_; simp only [go_sem, hw]; try simp only [go_sem, lQ]
   refine ⟨i + 1, by omega, by omega, [(1, 4)], ?_⟩
   simp only [go_sem, AObj.bel, AObj.ren, AV.ren, aA, sg, bldC, aQ, aH, Int.natCast_zero] <;> simp [hfin, aH, AV.ren, sg, Abs.get]
 have hge : ls.length ≤ i := Nat.not_lt.1 (by simpa using hc2)
 have hie : i = ls.length := by omega
 subst hie
 have hpos : decide (0 < ls.length) = true := by simp; omega
 have hbi := hbl ls.length
 rw [List.take_length] at hbi; rw [List.take_length, hpos]
 have hds := dec_size ((bTx ls).size : Int)
 have hit : itoaS ((bodyL ls).length : Int) = dec ((bTx ls).size : Int) := by rw [itoaS_dec (by omega) (by omega)]; unfold bodyL; rw [aL]
 refine we ?_; try simp only [go_sem, lQ]
 apply k6; refine sr rfl fun _ k19 => ?_; simp only [go_sem]
 refine vg [] 0 rfl rfl rfl ⟨Tryz.func126, rfl, rfl⟩ (w_BLen (bodyL ls)) rfl (by simp only [go_sem]) (by simp only [go_sem]) (fit2 (.inl rfl) (by simp only [go_sem, bldC, aQ, aH]) (by simp only [go_sem, bldC, aQ, aH]) (by simp only [go_sem, AObj.bel, bldC, aQ, aH] <;> simp) (by simp only [go_sem, AObj.bel, bldC, aQ, aH]) (by simp) ⟨rfl, rfl⟩ (by decide)) (.inl rfl) ?_
 simp only [go_sem, AV.ren, AObj.ren, aA, shift, sg, Nat.le_refl, Nat.add_zero, Nat.sub_self, bldC, aQ, aH]
 refine vp rfl rfl rfl ⟨Tryz.func125, rfl, rfl⟩ (w_strconv_Itoa ((bodyL ls).length : Int) (by omega) (by omega)) (by simp only [go_sem]) (by simp only [go_sem]) ?_
 simp only [go_sem, hit]
 refine ⟨by omega, ?_⟩
 refine vg [] 0 rfl rfl rfl ⟨Tryz.func127, rfl, rfl⟩ (w_BString (bodyL ls) (bodyL_ne hb1)) rfl (by simp only [go_sem]) (by simp only [go_sem]) (fit2 (.inl rfl) (by simp only [go_sem, bldC, aQ, aH]) (by simp only [go_sem, bldC, aQ, aH]) (by simp only [go_sem, AObj.bel, bldC, aQ, aH] <;> simp) (by simp only [go_sem, AObj.bel, bldC, aQ, aH]) (by simp) ⟨rfl, rfl⟩ (by decide)) (.inl rfl) ?_
 simp only [go_sem, AV.ren, AObj.ren, aA, shift, sg, Nat.le_refl, Nat.add_zero, Nat.sub_self, bldC, aQ, aH, List.size_toArray]
 refine ⟨by omega, by omega, ?_⟩
 apply k19; refine wR ?_
 have hm : (⟨(bodyL ls).toArray⟩ : ByteArray) = bTx ls := bL_mk _
 refine fO ?_ trivial; simp only [go_sem, fTx, hb, if_true, hm]
abbrev rdr (s : ByteArray) (a : Nat) : AObj := .cells 187 [.raw (.string s), .raw (.int .i64 (a : Int))]
def aheadI (s : ByteArray) (a : Nat) : ByteArray := s.extract a (min s.size (a + 9))
def spAt (s : ByteArray) (a : Nat) : Int := Lib.indexByte (aheadI s a).data.toList 32
def wI (s : ByteArray) (a : Nat) : ByteArray × Bool × Nat := if spAt s a < 0 then (⟨#[]⟩, false, a) else ((aheadI s a).extract 0 (spAt s a).toNat, true, a + ((spAt s a).toNat + 1))
def nI (s : ByteArray) (a : Nat) : Int × Bool × Nat := if (wI s a).2.1 = true then ((atoiV (wI s a).1).1, (atoiV (wI s a).1).2, (wI s a).2.2) else (0, false, (wI s a).2.2)
def tI (s : ByteArray) (a : Nat) (n : Int) : ByteArray × Bool × Nat := if n < 0 ∨ (s.size : Int) - a < n then (⟨#[]⟩, false, a) else (s.extract a (a + n.toNat), true, a + n.toNat)
theorem indexByte_lt : ∀ (l : List UInt8) (c : UInt8), Lib.indexByte l c < l.length ∧ -1 ≤ Lib.indexByte l c
  | [], c => by simp [Lib.indexByte]
  | b :: l, c => by
    have ih := indexByte_lt l c
    unfold Lib.indexByte; simp only [List.length_cons]; split
    · omega
    split <;> omega
theorem spAt_lt {s : ByteArray} {a : Nat} (ha : a ≤ s.size) : spAt s a < (min s.size (a + 9) - a : Nat) ∧ -1 ≤ spAt s a := by
  have h := indexByte_lt (aheadI s a).data.toList 32
  have h2 : (aheadI s a).data.toList.length = min s.size (a + 9) - a := by
    rw [Array.length_toList]
    exact extract_size s a _ (by omega)
  rw [h2] at h; exact h
theorem wI_le {s : ByteArray} {a : Nat} (ha : a ≤ s.size) : a ≤ (wI s a).2.2 ∧ (wI s a).2.2 ≤ s.size ∧ (wI s a).1.size ≤ 8 ∧ ((wI s a).2.1 = true → a < (wI s a).2.2) := by
  have h := spAt_lt ha
  unfold wI; split
  · exact ⟨Nat.le_refl _, ha, Nat.zero_le _, fun h => by cases h⟩
  simp only
  refine ⟨by omega, by omega, ?_, fun _ => by omega⟩
  rw [ByteArray.size_extract]; omega
theorem nI_le {s : ByteArray} {a : Nat} (ha : a ≤ s.size) : a ≤ (nI s a).2.2 ∧ (nI s a).2.2 ≤ s.size ∧ ((nI s a).2.1 = true → a < (nI s a).2.2) := by
  have h := wI_le ha
  unfold nI; split
  · rename_i hw; exact ⟨h.1, h.2.1, fun _ => h.2.2.2 hw⟩
  exact ⟨h.1, h.2.1, fun h => by cases h⟩
theorem tI_le {s : ByteArray} {a : Nat} {n : Int} (ha : a ≤ s.size) : a ≤ (tI s a n).2.2 ∧ (tI s a n).2.2 ≤ s.size := by
  unfold tI; split
  · exact ⟨Nat.le_refl _, ha⟩
  simp only; omega
theorem w_impl_logReader_word (s : ByteArray) (a : Nat) (ha : a ≤ s.size) (hs : s.size ≤ 1048576) : aD P 222 [.ptr 0 0] [(0, rdr s a)] 1 (.tup [.raw (.string (wI s a).1), .raw (.bool (wI s a).2.1)]) [(0, rdr s (wI s a).2.2)] 1 := by
 refine gw (N := 43) (vs := [.tmp 2, .tmp 3]) ⟨Tryz.func222, rfl, rfl⟩ rfl rfl (by simp) ?_
 simp only [eE, rdr]; refine sr rfl fun _ J => ?_; simp only [go_sem]; apply J
 have hw1 : IntKind.i64.wrap ((a : Int) + 8) = (a : Int) + 8 := by rw [IntKind.wrap_i64]; omega
 have hw2 : IntKind.i64.wrap ((a : Int) + 8 + 1) = (a : Int) + 8 + 1 := by rw [IntKind.wrap_i64]; omega
 have hmn : (min (s.size : Int) ((a : Int) + 8 + 1)).toNat = min s.size (a + 9) := by omega
 have hah : s.extract a (min s.size (a + 9)) = aheadI s a := rfl
 refine sd mixed rfl fun _ k2 => ?_; simp only [go_sem, hw1, hw2, hmn, hah]
 repeat (first | refine ⟨by first | omega | (intro hg; simp at hg; omega), ?_⟩ | fail)
 refine ⟨by rfl, ?_⟩; apply k2
 have hix : Lib.indexByte (aheadI s a).data.toList (Int.toNat 32).toUInt8 = spAt s a := rfl
 have hsz := spAt_lt ha
 have hes : (aheadI s a).size = min s.size (a + 9) - a := extract_size s a _ (by omega)
 refine sr rfl fun _ k3 => ?_; simp only [go_sem]
 refine vp rfl rfl rfl ⟨Tryz.func231, rfl, rfl⟩ (w_strings_IndexByte (aheadI s a) 32) (by simp only [go_sem]) (by simp only [go_sem]) ?_
 simp only [go_sem, hix]; apply k3; refine sq fun _ k4 => ?_; refine sr rfl fun _ J => ?_; simp only [go_sem]; apply J
 refine cd rfl (fun hc1 => ?_) fun hc1 => ?_
 · have h9 : wI s a = (⟨#[]⟩, false, a) := by unfold wI; rw [if_pos (by simpa using hc1)]
   refine sr rfl fun _ J => ?_; simp only [go_sem]; apply J; refine wR ?_; refine ⟨[], ?_⟩
   simp only [go_sem, AObj.bel, AObj.ren, AV.ren, aA, sg, rdr, h9] <;> simp
 have hc9 : ¬ spAt s a < 0 := by simpa using hc1
 have h9 : wI s a = ((aheadI s a).extract 0 (spAt s a).toNat, true, a + ((spAt s a).toNat + 1)) := by unfold wI; rw [if_neg hc9]
 refine wk ?_; apply k4
 have hw5 : IntKind.i64.wrap (spAt s a + 1) = spAt s a + 1 := by rw [IntKind.wrap_i64]; omega
 have hw6 : IntKind.i64.wrap ((a : Int) + (spAt s a + 1)) = ((a + ((spAt s a).toNat + 1) : Nat) : Int) := by rw [IntKind.wrap_i64]; omega
 refine sr rfl fun _ J => ?_; simp only [go_sem, hw5, hw6]; apply J; refine sr rfl fun _ k8 => ?_; simp only [go_sem]
 repeat (first | refine ⟨by first | omega | (intro hg; simp at hg; omega), ?_⟩ | fail)
 apply k8; refine wR ?_; refine ⟨[], ?_⟩
 simp only [go_sem, AObj.bel, AObj.ren, AV.ren, aA, sg, rdr, h9] <;> simp
theorem w_number_ok (s : ByteArray) (a : Nat) (ha : a ≤ s.size) (hs : s.size ≤ 1048576) (hat : (atoiV (wI s a).1).2 = true) : aD P 201 [.ptr 0 0] [(0, rdr s a)] 1 (.tup [.raw (.int .i64 (nI s a).1), .raw (.bool (nI s a).2.1)]) [(0, rdr s (nI s a).2.2)] 1 := by
 refine gw (N := 23) (vs := [.tmp 2, .tmp 3]) ⟨Tryz.func201, rfl, rfl⟩ rfl rfl (by simp) ?_
 simp only [eE, rdr]
 have hl := wI_le ha
 refine sr rfl fun _ J => ?_; simp only [go_sem]; apply J; refine sr rfl fun _ k2 => ?_; simp only [go_sem]
 refine vg [] 0 rfl rfl rfl ⟨Tryz.func222, rfl, rfl⟩ (w_impl_logReader_word s a ha hs) rfl (by simp only [go_sem]) (by simp only [go_sem]) (fit1 (H1 := []) (.inl rfl) (by simp only [go_sem, rdr]) (by simp only [go_sem, AObj.bel, rdr] <;> simp)) (.inl rfl) ?_
 simp only [go_sem, AV.ren, AObj.ren, aA, shift, sg, Nat.le_refl, Nat.add_zero, Nat.sub_self, rdr]; apply k2; refine sq fun _ k3 => ?_; refine sr rfl fun _ J => ?_; simp only [go_sem]; apply J
 refine cd rfl (fun hc1 => ?_) fun hc1 => ?_
 · have hw : (wI s a).2.1 = false := by simpa using hc1
   have h9 : nI s a = (0, false, (wI s a).2.2) := by unfold nI; rw [if_neg (by rw [hw]; simp)]
   refine sr rfl fun _ J => ?_; simp only [go_sem]; apply J; refine wR ?_; refine ⟨[], ?_⟩
   simp only [go_sem, AObj.bel, AObj.ren, AV.ren, aA, sg, rdr, h9] <;> simp
 have hw : (wI s a).2.1 = true := by simpa using hc1
 have h9 : nI s a = ((atoiV (wI s a).1).1, (atoiV (wI s a).1).2, (wI s a).2.2) := by unfold nI; rw [if_pos hw]
 refine wk ?_; apply k3; refine sr rfl fun _ k6 => ?_; simp only [go_sem]
 refine vp rfl rfl rfl ⟨Tryz.func223, rfl, rfl⟩ (w_Atoi_ok (wI s a).1 (by omega) hat) (by simp only [go_sem]) (by simp only [go_sem]) ?_
 simp only [go_sem]; apply k6; refine sd mixed rfl fun _ k7 => ?_; simp only [go_sem]; refine ⟨by rfl, ?_⟩; apply k7; refine wR ?_; refine ⟨[], ?_⟩
 simp only [go_sem, AObj.bel, AObj.ren, AV.ren, aA, sg, rdr, h9, hat] <;> simp
theorem w_number_no (s : ByteArray) (a : Nat) (ha : a ≤ s.size) (hs : s.size ≤ 1048576) (hat : (atoiV (wI s a).1).2 = false) : aD P 201 [.ptr 0 0] [(0, rdr s a)] 1 (.tup [.raw (.int .i64 (nI s a).1), .raw (.bool (nI s a).2.1)]) [(0, rdr s (nI s a).2.2)] 1 := by
 refine gw (N := 23) (vs := [.tmp 2, .tmp 3]) ⟨Tryz.func201, rfl, rfl⟩ rfl rfl (by simp) ?_
 simp only [eE, rdr]
 have hl := wI_le ha
 refine sr rfl fun _ J => ?_; simp only [go_sem]; apply J; refine sr rfl fun _ k2 => ?_; simp only [go_sem]
 refine vg [] 0 rfl rfl rfl ⟨Tryz.func222, rfl, rfl⟩ (w_impl_logReader_word s a ha hs) rfl (by simp only [go_sem]) (by simp only [go_sem]) (fit1 (H1 := []) (.inl rfl) (by simp only [go_sem, rdr]) (by simp only [go_sem, AObj.bel, rdr] <;> simp)) (.inl rfl) ?_
 simp only [go_sem, AV.ren, AObj.ren, aA, shift, sg, Nat.le_refl, Nat.add_zero, Nat.sub_self, rdr]; apply k2; refine sq fun _ k3 => ?_; refine sr rfl fun _ J => ?_; simp only [go_sem]; apply J
 refine cd rfl (fun hc1 => ?_) fun hc1 => ?_
 · have hw : (wI s a).2.1 = false := by simpa using hc1
   have h9 : nI s a = (0, false, (wI s a).2.2) := by unfold nI; rw [if_neg (by rw [hw]; simp)]
   refine sr rfl fun _ J => ?_; simp only [go_sem]; apply J; refine wR ?_; refine ⟨[], ?_⟩
   simp only [go_sem, AObj.bel, AObj.ren, AV.ren, aA, sg, rdr, h9] <;> simp
 have hw : (wI s a).2.1 = true := by simpa using hc1
 have h9 : nI s a = ((atoiV (wI s a).1).1, (atoiV (wI s a).1).2, (wI s a).2.2) := by unfold nI; rw [if_pos hw]
 refine wk ?_; apply k3; refine sr rfl fun _ k6 => ?_; simp only [go_sem]
 refine vp rfl rfl rfl ⟨Tryz.func223, rfl, rfl⟩ (w_Atoi_no (wI s a).1 (by omega) hat) (by simp only [go_sem]) (by simp only [go_sem]) ?_
 simp only [go_sem]; apply k6; refine sd mixed rfl fun _ k7 => ?_; simp only [go_sem]; refine ⟨by rfl, ?_⟩; apply k7; refine wR ?_; refine ⟨[], ?_⟩
 simp only [go_sem, AObj.bel, AObj.ren, AV.ren, aA, sg, rdr, h9, hat] <;> simp
theorem w_impl_logReader_take (s : ByteArray) (a : Nat) (ha : a ≤ s.size) (hs : s.size ≤ 1048576) (n : Int) (h0 : -9223372036854775808 ≤ n) (h1 : n ≤ 9223372036854775807) : aD P 202 [.ptr 0 0, .raw (.int .i64 n)] [(0, rdr s a)] 1 (.tup [.raw (.string (tI s a n).1), .raw (.bool (tI s a n).2.1)]) [(0, rdr s (tI s a n).2.2)] 1 := by
 refine gw (N := 45) (vs := [.tmp 4, .tmp 5]) ⟨Tryz.func202, rfl, rfl⟩ rfl rfl (by simp) ?_
 simp only [eE, rdr]; refine sr rfl fun _ J => ?_; simp only [go_sem]; apply J; refine sq fun _ k2 => ?_
 have hw1 : IntKind.i64.wrap ((s.size : Int) - (a : Int)) = (s.size : Int) - (a : Int) := by rw [IntKind.wrap_i64]; omega
 refine sd mixed rfl fun _ k3 => ?_; simp only [go_sem, hw1]; refine ⟨by rfl, ?_⟩; apply k3
 refine cd rfl (fun hc1 => ?_) fun hc1 => ?_
 · have h9 : tI s a n = (⟨#[]⟩, false, a) := by unfold tI; rw [if_pos]; simp at hc1; omega
   refine sr rfl fun _ J => ?_; simp only [go_sem]; apply J; refine wR ?_; refine ⟨[], ?_⟩
   simp only [go_sem, AObj.bel, AObj.ren, AV.ren, aA, sg, rdr, h9] <;> simp
 have hc9 : 0 ≤ n ∧ n ≤ (s.size : Int) - a := by simp at hc1; omega
 have h9 : tI s a n = (s.extract a (a + n.toNat), true, a + n.toNat) := by unfold tI; rw [if_neg (by omega)]
 have hw3 : IntKind.i64.wrap ((a : Int) + n) = ((a + n.toNat : Nat) : Int) := by rw [IntKind.wrap_i64]; omega
 have hw4 : IntKind.i64.wrap (((a + n.toNat : Nat) : Int) - n) = (a : Int) := by rw [IntKind.wrap_i64]; omega
 have hto : ((a + n.toNat : Nat) : Int).toNat = a + n.toNat := by omega
 refine wk ?_; apply k2; refine sr rfl fun _ J => ?_; simp only [go_sem, hw3]; apply J; refine sd mixed rfl fun _ k6 => ?_; simp only [go_sem, hw4, hto]
 repeat (first | refine ⟨by first | omega | (intro hg; simp at hg; omega), ?_⟩ | fail)
 refine ⟨by rfl, ?_⟩; apply k6; refine wR ?_; refine ⟨[], ?_⟩
 simp only [go_sem, AObj.bel, AObj.ren, AV.ren, aA, sg, rdr, h9] <;> simp
theorem w_number (s : ByteArray) (a : Nat) (ha : a ≤ s.size) (hs : s.size ≤ 1048576) : aD P 201 [.ptr 0 0] [(0, rdr s a)] 1 (.tup [.raw (.int .i64 (nI s a).1), .raw (.bool (nI s a).2.1)]) [(0, rdr s (nI s a).2.2)] 1 := by
  cases h : (atoiV (wI s a).1).2
  · exact w_number_no s a ha hs h
  exact w_number_ok s a ha hs h
def padN (L : List Int) : List Int := L ++ List.replicate (4 - L.length) 0
theorem padN_len {L : List Int} (h : L.length ≤ 4) : (padN L).length = 4 := by
  unfold padN; rw [List.length_append, List.length_replicate]; omega
theorem splice_pad {L : List Int} (h : L.length < 4) (v : Int) : aZ ((padN L).map inA) L.length [.raw (.int .i64 v)] = (padN (L ++ [v])).map inA := by
  unfold aZ padN
  obtain ⟨k, hk⟩ : ∃ k, 4 - L.length = k + 1 := ⟨3 - L.length, by omega⟩
  rw [hk, show 4 - (L ++ [v]).length = k by rw [List.length_append, List.length_singleton]; omega, List.replicate_succ, List.map_append, List.map_cons]
  have e1 : (L.map inA ++ inA 0 :: (List.replicate k 0).map inA).take L.length = L.map inA := by
    rw [List.take_left' (by simp)]
  have e2 : (L.map inA ++ inA 0 :: (List.replicate k 0).map inA).drop (L.length + [AV.raw (Value.int IntKind.i64 v)].length) = (List.replicate k 0).map inA := by
    rw [List.length_singleton, ← List.drop_drop, List.drop_left' (by simp)]; rfl
  rw [e1, e2]
  simp [inA]
def dF (s : ByteArray) : Nat → Nat → List Int × Bool × Nat
  | 0, a => ([], true, a)
  | k + 1, a => if (nI s a).2.1 = true then ((nI s a).1 :: (dF s k (nI s a).2.2).1, (dF s k (nI s a).2.2).2) else ([], false, (nI s a).2.2)
def addR (L : List Int) (r : List Int × Bool × Nat) : List Int × Bool × Nat := (L ++ r.1, r.2)
theorem addR_step {s : ByteArray} {k a : Nat} {L : List Int} (h : (nI s a).2.1 = true) : addR L (dF s (k + 1) a) = addR (L ++ [(nI s a).1]) (dF s k (nI s a).2.2) := by
  unfold addR; rw [dF, if_pos h]
  simp
theorem addR_no {s : ByteArray} {k a : Nat} {L : List Int} (h : (nI s a).2.1 = false) : addR L (dF s (k + 1) a) = (L, false, (nI s a).2.2) := by
  unfold addR
  rw [dF, if_neg (by rw [h]; simp)]
  simp
theorem addR_end {s : ByteArray} {a : Nat} {L : List Int} : addR L (dF s 0 a) = (L, true, a) := by
  unfold addR dF; simp
def eI (s : ByteArray) (a : Nat) : Entry × Bool × Nat :=
  if (wI s a).2.1 = true then
    (if (dF s 4 (wI s a).2.2).2.1 = true then
      (if (tI s (dF s 4 (wI s a).2.2).2.2 ((dF s 4 (wI s a).2.2).1.getD 3 0)).2.1 = true then
        (⟨(wI s a).1, (dF s 4 (wI s a).2.2).1.getD 0 0, (dF s 4 (wI s a).2.2).1.getD 1 0, (tI s (dF s 4 (wI s a).2.2).2.2 ((dF s 4 (wI s a).2.2).1.getD 3 0)).1, (dF s 4 (wI s a).2.2).1.getD 2 0⟩, true, (tI s (dF s 4 (wI s a).2.2).2.2 ((dF s 4 (wI s a).2.2).1.getD 3 0)).2.2)
      else (zEntry, false, (tI s (dF s 4 (wI s a).2.2).2.2 ((dF s 4 (wI s a).2.2).1.getD 3 0)).2.2))
    else (zEntry, false, (dF s 4 (wI s a).2.2).2.2))
  else (zEntry, false, (wI s a).2.2)
theorem arr4 : P.underlying 243 = some (.array 4 3) := by kernel_rfl
theorem int1 : (P.info? 3).map (·.size) = some 1 := by kernel_rfl
theorem atoiV_range (s : ByteArray) : -9223372036854775808 ≤ (atoiV s).1 ∧ (atoiV s).1 ≤ 9223372036854775807 := by
  unfold atoiV; split
  · rename_i v h
    simp only
    unfold Lib.atoiAll at h; split at h
    · cases h
    simp only at h
    split at h
    · cases h
    · cases h
    rename_i u _
    split at h
    · cases h
    split at h
    · cases h
    rename_i h1 h2
    cases h; split
    · rename_i hn
      have : ¬ 9223372036854775808 < u := fun h => h2 ⟨hn, h⟩
      omega
    rename_i hn
    have : ¬ 9223372036854775808 ≤ u := fun h => h1 ⟨hn, h⟩
    omega
  · simp only [Lib.atoiSat]; split <;> omega
  simp only; omega
theorem nI_range (s : ByteArray) (a : Nat) : -9223372036854775808 ≤ (nI s a).1 ∧ (nI s a).1 ≤ 9223372036854775807 := by
  unfold nI; split
  · exact atoiV_range _
  simp only; omega
theorem numsI_le {s : ByteArray} : ∀ (k a : Nat), a ≤ s.size → a ≤ (dF s k a).2.2 ∧ (dF s k a).2.2 ≤ s.size
  | 0, a, h => ⟨Nat.le_refl _, h⟩
  | k + 1, a, h => by
    have h1 := nI_le h
    unfold dF; split
    · have := numsI_le k _ h1.2.1
      simp only; omega
    simp only; omega
theorem eI_le {s : ByteArray} {a : Nat} (ha : a ≤ s.size) : a ≤ (eI s a).2.2 ∧ (eI s a).2.2 ≤ s.size ∧ ((eI s a).2.1 = true → a < (eI s a).2.2) := by
  have h1 := wI_le ha
  have h2 := numsI_le 4 _ h1.2.1
  have h3 := tI_le (n := (dF s 4 (wI s a).2.2).1.getD 3 0) h2.2
  unfold eI; split
  · rename_i hw
    have := h1.2.2.2 hw
    split
    · split
      · simp only; exact ⟨by omega, h3.2, fun _ => by omega⟩
      simp only; exact ⟨by omega, h3.2, fun h => by cases h⟩
    simp only; exact ⟨by omega, h2.2, fun h => by cases h⟩
  exact ⟨h1.1, h1.2.1, fun h => by cases h⟩
theorem w_impl_logReader_entry (s : ByteArray) (a : Nat) (ha : a ≤ s.size) (hs : s.size ≤ 1048576) : aD P 203 [.ptr 0 0] [(0, rdr s a)] 1 (.tup [enA (eI s a).1, .raw (.bool (eI s a).2.1)]) [(0, rdr s (eI s a).2.2)] 1 := by
 refine gw (N := 50) (vs := [.cell 2 65, .tmp 3]) ⟨Tryz.func203, rfl, rfl⟩ rfl rfl (by simp) ?_
 simp only [eE, rdr]
 have hl := wI_le ha
 have tn3 : (3 : Int).toNat = 3 := rfl
 refine sr rfl fun _ J => ?_; simp only [go_sem]; apply J; refine sr rfl fun _ k2 => ?_; simp only [go_sem]
 refine vg [] 0 rfl rfl rfl ⟨Tryz.func222, rfl, rfl⟩ (w_impl_logReader_word s a ha hs) rfl (by simp only [go_sem]) (by simp only [go_sem]) (fit1 (H1 := []) (.inl rfl) (by simp only [go_sem, rdr]) (by simp only [go_sem, AObj.bel, rdr] <;> simp)) (.inl rfl) ?_
 simp only [go_sem, AV.ren, AObj.ren, aA, shift, sg, Nat.le_refl, Nat.add_zero, Nat.sub_self, rdr]; apply k2; refine sq fun _ k3 => ?_; refine sr rfl fun _ J => ?_; simp only [go_sem]; apply J
 refine cd rfl (fun hc1 => ?_) fun hc1 => ?_
 · have hw0 : (wI s a).2.1 = false := by simpa using hc1
   have h9 : eI s a = (zEntry, false, (wI s a).2.2) := by unfold eI; rw [if_neg (by rw [hw0]; simp)]
   refine sr rfl fun _ J => ?_; simp only [go_sem]; apply J; refine wR ?_; refine ⟨[], ?_⟩
   simp only [go_sem, AObj.bel, AObj.ren, AV.ren, aA, sg, rdr, h9, enA, zEntry] <;> simp
 have hw0 : (wI s a).2.1 = true := by simpa using hc1
 refine wk ?_; apply k3; refine sr rfl fun _ J => ?_; simp only [go_sem]; apply J; refine sq fun _ k7 => ?_; refine sr rfl fun _ J => ?_; simp only [go_sem]; apply J; refine wb ?_
 refine wl (α := List Int × Nat) (fun x => x.1.length ≤ 4 ∧ x.2 ≤ s.size ∧ (∀ v ∈ x.1, -9223372036854775808 ≤ v ∧ v ≤ 9223372036854775807) ∧ addR x.1 (dF s (4 - x.1.length) x.2) = dF s 4 (wI s a).2.2) (fun x => 4 - x.1.length) (fun x => ([(0, .ptr 0 0), (2, .ptr 1 0), (4, .raw (.string (wI s a).1)), (6, .ptr 2 0), (17, .raw (.int .i64 (x.1.length : Int)))], [(0, rdr s x.2), (1, .cells 65 [.raw (.string ⟨#[]⟩), .raw (.int .i64 0), .raw (.int .i64 0), .raw (.string ⟨#[]⟩), .raw (.int .i64 0)]), (2, .cells 243 ((padN x.1).map inA))])) 3 ([], (wI s a).2.2) ⟨by simp, hl.2.1, by simp, by unfold addR; simp⟩ [] ?_ ?_
 · simp only [go_sem, AObj.bel, AObj.ren, AV.ren, aA, sg, rdr, Int.natCast_zero] <;> simp [padN, inA]
 rintro ⟨L, b⟩ ⟨hL, hb, hr, hgo⟩
 simp only at hL hb hr hgo ⊢
 refine sr rfl fun _ J => ?_; simp only [go_sem]; apply J; refine sq fun _ k10 => ?_
 refine cd rfl (fun hc2 => ?_) fun hc2 => ?_
 · have hlt : L.length < 4 := by simp at hc2; omega
   obtain ⟨k, hk⟩ : ∃ k, 4 - L.length = k + 1 := ⟨3 - L.length, by omega⟩
   have hsp := splice_pad hlt (nI s b).1
   have hsp2 : ((padN L).map inA).take L.length ++ AV.raw (.int .i64 (nI s b).1) :: ((padN L).map inA).drop (L.length + 1) = (padN (L ++ [(nI s b).1])).map inA := by simpa [aZ] using hsp
   have hpl := padN_len hL
   have hle4 : (L.length + 1 ≤ 4) = True := by simp; omega
   have hn := nI_le hb
   refine wk ?_; apply k10; refine sq fun _ k11 => ?_; refine wb ?_; refine sr rfl fun _ J => ?_; simp only [go_sem]; apply J; refine sr rfl fun _ k13 => ?_; simp only [go_sem, hsp, hpl, hle4]
   repeat (first | refine ⟨by first | omega | (intro hg; simp at hg; omega), ?_⟩ | fail)
   refine vg [] 0 rfl rfl rfl ⟨Tryz.func201, rfl, rfl⟩ (w_number s b hb hs) rfl (by simp only [go_sem]) (by simp only [go_sem]) (fit1 (H1 := []) (.inl rfl) (by simp only [go_sem, rdr]) (by simp only [go_sem, AObj.bel, rdr] <;> simp)) (.inl rfl) ?_
   simp only [go_sem, AV.ren, AObj.ren, aA, shift, sg, Nat.le_refl, Nat.add_zero, Nat.sub_self, rdr]
   repeat (first | refine ⟨by first | omega | (intro hg; simp at hg; omega), ?_⟩ | fail)
   refine vC (fun hN => lstep_indexArr (n := (L.length : Int)) rfl rfl hN arr4 int1 rfl rfl (by omega) (by omega)) (.inl rfl) ?_
   simp only [go_sem, Int.toNat_natCast, Nat.mul_one, Nat.zero_add, hsp, hpl, hle4, List.length_map, hsp, hpl, hle4]
   repeat (first | refine ⟨by first | omega | (intro hg; simp at hg; omega), ?_⟩ | fail)
   apply k13; refine sr rfl fun _ J => ?_; simp only [go_sem]; apply J
   refine cd rfl (fun hc3 => ?_) fun hc3 => ?_
   · have hok : (nI s b).2.1 = false := by simpa using hc3
     rw [hk, addR_no hok] at hgo
     have h9 : eI s a = (zEntry, false, (nI s b).2.2) := by unfold eI; rw [if_pos hw0, ← hgo, if_neg (by simp)]
     refine sr rfl fun _ J => ?_; simp only [go_sem]; apply J; refine wR ?_; simp only [go_sem, lQ]; refine ⟨[], ?_⟩
     simp only [go_sem, AObj.bel, AObj.ren, AV.ren, aA, sg, rdr, h9, enA, zEntry] <;> simp
   have hok : (nI s b).2.1 = true := by simpa using hc3
   refine wk ?_; try simp only [go_sem, lQ]
   apply k11
   have hw : IntKind.i64.wrap ((L.length : Int) + 1) = ((L.length + 1 : Nat) : Int) := by rw [IntKind.wrap_i64]; omega
   refine wg rfl ?_; simp only [go_sem, hw]; try simp only [go_sem, lQ]
   refine ⟨(L ++ [(nI s b).1], (nI s b).2.2), ⟨by simp; omega, hn.2.1, fun v hv => (by rcases List.mem_append.1 hv with h | h; exact hr v h; rw [List.mem_singleton.1 h]; exact nI_range s b), by rw [List.length_append, List.length_singleton, show 4 - (L.length + 1) = k from by omega]; rw [hk, addR_step hok] at hgo; exact hgo⟩, by simp only [List.length_append, List.length_singleton]; omega, [], ?_⟩
   simp only [go_sem, AObj.bel, AObj.ren, AV.ren, aA, sg, rdr] <;> simp
   exact hsp2
 have hl4 : L.length = 4 := by simp at hc2; omega
 rw [hl4, Nat.sub_self, addR_end] at hgo
 obtain ⟨p, q, r, t, rfl⟩ : ∃ p q r t, L = [p, q, r, t] := by
   match L, hl4 with
   | [p, q, r, t], _ => exact ⟨p, q, r, t, rfl⟩
 have padL : padN [p, q, r, t] = [p, q, r, t] := rfl
 obtain ⟨hr1, hr2⟩ := hr t (by simp)
 have hns : (dF s 4 (wI s a).2.2).2.1 = true := by rw [← hgo]
 refine we ?_; try simp only [go_sem, lQ]
 apply k7; refine sr rfl fun _ k16 => ?_; simp only [go_sem]
 repeat (first | refine ⟨by first | omega | (intro hg; simp at hg; omega), ?_⟩ | fail)
 refine vC (fun hN => lstep_indexArr (n := 3) rfl rfl hN arr4 int1 rfl rfl (by decide) (by decide)) (.inl rfl) ?_
 simp only [go_sem, tn0, tn1, tn2, tn3, Nat.mul_one, Nat.zero_add, padL, inA, List.map_cons, List.map_nil]
 repeat (first | refine ⟨by first | omega | (intro hg; simp at hg; omega), ?_⟩ | fail)
 refine vg [] 0 rfl rfl rfl ⟨Tryz.func202, rfl, rfl⟩ (w_impl_logReader_take s b hb hs t (by omega) (by omega)) rfl (by simp only [go_sem]) (by simp only [go_sem]) (fit1 (H1 := []) (.inl rfl) (by simp only [go_sem, rdr]) (by simp only [go_sem, AObj.bel, rdr] <;> simp)) (.inl rfl) ?_
 simp only [go_sem, AV.ren, AObj.ren, aA, shift, sg, Nat.le_refl, Nat.add_zero, Nat.sub_self, rdr]
 repeat (first | refine ⟨by first | omega | (intro hg; simp at hg; omega), ?_⟩ | fail)
 apply k16; refine sq fun _ k17 => ?_; refine sr rfl fun _ J => ?_; simp only [go_sem]; apply J
 refine cd rfl (fun hc4 => ?_) fun hc4 => ?_
 · have ht0 : (tI s b t).2.1 = false := by simpa using hc4
   have h9 : eI s a = (zEntry, false, (tI s b t).2.2) := by unfold eI; rw [if_pos hw0, if_pos hns, ← hgo]; exact if_neg (by show ¬ (tI s b t).2.1 = true; rw [ht0]; simp)
   refine sr rfl fun _ J => ?_; simp only [go_sem]; apply J; refine wR ?_; refine ⟨[], ?_⟩
   simp only [go_sem, AObj.bel, AObj.ren, AV.ren, aA, sg, rdr, h9, enA, zEntry] <;> simp
 have ht0 : (tI s b t).2.1 = true := by simpa using hc4
 have h9 : eI s a = (⟨(wI s a).1, p, q, (tI s b t).1, r⟩, true, (tI s b t).2.2) := by unfold eI; rw [if_pos hw0, if_pos hns, ← hgo]; exact if_pos ht0
 refine wk ?_; apply k17; refine sr rfl fun _ k20 => ?_; simp only [go_sem]
 repeat (first | refine ⟨by first | omega | (intro hg; simp at hg; omega), ?_⟩ | fail)
 refine vC (fun hN => lstep_indexArr (n := 0) rfl rfl hN arr4 int1 rfl rfl (by decide) (by decide)) (.inl rfl) ?_
 simp only [go_sem, tn0, tn1, tn2, tn3, Nat.mul_one, Nat.zero_add, padL, inA, List.map_cons, List.map_nil]
 repeat (first | refine ⟨by first | omega | (intro hg; simp at hg; omega), ?_⟩ | fail)
 refine vC (fun hN => lstep_indexArr (n := 1) rfl rfl hN arr4 int1 rfl rfl (by decide) (by decide)) (.inl rfl) ?_
 simp only [go_sem, tn0, tn1, tn2, tn3, Nat.mul_one, Nat.zero_add, padL, inA, List.map_cons, List.map_nil]
 repeat (first | refine ⟨by first | omega | (intro hg; simp at hg; omega), ?_⟩ | fail)
 refine vC (fun hN => lstep_indexArr (n := 2) rfl rfl hN arr4 int1 rfl rfl (by decide) (by decide)) (.inl rfl) ?_
 simp only [go_sem, tn0, tn1, tn2, tn3, Nat.mul_one, Nat.zero_add, padL, inA, List.map_cons, List.map_nil]
 repeat (first | refine ⟨by first | omega | (intro hg; simp at hg; omega), ?_⟩ | fail)
 apply k20; refine wR ?_; refine ⟨[], ?_⟩
 simp only [go_sem, AObj.bel, AObj.ren, AV.ren, aA, sg, rdr, h9, enA, zEntry] <;> simp
theorem tI_small (s : ByteArray) (a : Nat) (n : Int) : (tI s a n).1.size ≤ s.size := by
  unfold tI; split
  · exact Nat.zero_le _
  show (s.extract a (a + n.toNat)).size ≤ s.size
  rw [ByteArray.size_extract]; omega
theorem eI_small {s : ByteArray} {a : Nat} (ha : a ≤ s.size) : (eI s a).1.key.size ≤ 8 ∧ (eI s a).1.text.size ≤ s.size := by
  have h1 := (wI_le ha).2.2.1
  have hz : zEntry.key.size ≤ 8 ∧ zEntry.text.size ≤ s.size := ⟨by decide, Nat.zero_le _⟩
  unfold eI
  generalize wI s a = w at h1 ⊢
  generalize dF s 4 w.2.2 = r
  have h2 := tI_small s r.2.2 (r.1.getD 3 0)
  generalize tI s r.2.2 (r.1.getD 3 0) = t at h2 ⊢
  split
  · split
    · split
      · exact ⟨h1, h2⟩
      exact hz
    exact hz
  exact hz
def innerI (s : ByteArray) : Nat → Nat → List Entry → List Entry × Bool
  | 0, _, out => (out, true)
  | f + 1, a, out => if a < s.size then (if (!(eI s a).2.1 || decide (12 ≤ (out.length : Int))) = true then (out, false) else innerI s f (eI s a).2.2 (out ++ [(eI s a).1])) else (out, true)
theorem innerI_end {s : ByteArray} {f a : Nat} {out : List Entry} (h : ¬ a < s.size) : innerI s f a out = (out, true) := by
  cases f with
  | zero => rfl
  | succ f => rw [innerI, if_neg h]
def bBad (s : ByteArray) (a b : Nat) (r : List Entry) : Bool := !isB r || !((fTx r).toList == (s.extract a b).toList)
def bI (s : ByteArray) (a : Nat) : List Entry × Bool × Nat :=
  if (nI s a).2.1 = true then
    (if (tI s (nI s a).2.2 (nI s a).1).2.1 = true then
      (if (tI s (tI s (nI s a).2.2 (nI s a).1).2.2 1).2.1 = true then
        (if (innerI (tI s (nI s a).2.2 (nI s a).1).1 (tI s (nI s a).2.2 (nI s a).1).1.size 0 []).2 = true then
          (if bBad s a (tI s (tI s (nI s a).2.2 (nI s a).1).2.2 1).2.2 (innerI (tI s (nI s a).2.2 (nI s a).1).1 (tI s (nI s a).2.2 (nI s a).1).1.size 0 []).1 = true then ([], false, (tI s (tI s (nI s a).2.2 (nI s a).1).2.2 1).2.2)
          else ((innerI (tI s (nI s a).2.2 (nI s a).1).1 (tI s (nI s a).2.2 (nI s a).1).1.size 0 []).1, true, (tI s (tI s (nI s a).2.2 (nI s a).1).2.2 1).2.2))
        else ([], false, (tI s (tI s (nI s a).2.2 (nI s a).1).2.2 1).2.2))
      else ([], false, (tI s (tI s (nI s a).2.2 (nI s a).1).2.2 1).2.2))
    else ([], false, (tI s (nI s a).2.2 (nI s a).1).2.2))
  else ([], false, (nI s a).2.2)
theorem bI_le {s : ByteArray} {a : Nat} (ha : a ≤ s.size) : a ≤ (bI s a).2.2 ∧ (bI s a).2.2 ≤ s.size ∧ ((bI s a).2.1 = true → a < (bI s a).2.2) := by
  have h1 := nI_le ha
  have h2 := tI_le (n := (nI s a).1) h1.2.1
  have h3 := tI_le (n := 1) h2.2
  unfold bI; split
  · rename_i hn
    have := h1.2.2 hn
    split
    · split
      · split
        · split
          · simp only; exact ⟨by omega, h3.2, fun h => by cases h⟩
          simp only; exact ⟨by omega, h3.2, fun _ => by omega⟩
        simp only; exact ⟨by omega, h3.2, fun h => by cases h⟩
      simp only; exact ⟨by omega, h3.2, fun h => by cases h⟩
    simp only; exact ⟨by omega, h2.2, fun h => by cases h⟩
  exact ⟨h1.1, h1.2.1, fun h => by cases h⟩
def readI (s : ByteArray) : Nat → Nat → List (List Entry) → List (List Entry) × Nat
  | 0, a, out => (out, a)
  | f + 1, a, out => if (bI s a).2.1 = true then readI s f (bI s a).2.2 (out ++ [(bI s a).1]) else (out, a)
def raI (s : ByteArray) : List (List Entry) × Nat := readI s (s.size + 1) 0 []
theorem w_impl_logReader_batch (s : ByteArray) (a : Nat) (ha : a ≤ s.size) (hs : s.size ≤ 1048576) : aD P 169 [.ptr 0 0] [(0, rdr s a)] 1 (.tup [.sl 5 ((bI s a).1.map enA), .raw (.bool (bI s a).2.1)]) [(0, rdr s (bI s a).2.2)] 1 := by
 refine gw (N := 79) (vs := [.tmp 2, .tmp 3]) ⟨Tryz.func169, rfl, rfl⟩ rfl rfl (by simp) ?_
 simp only [eE, rdr]
 have hmx : maxLen = 9223372036854775807 := rfl
 have hn := nI_le ha
 have hnr := nI_range s a
 have ht := tI_le (n := (nI s a).1) hn.2.1
 have hu := tI_le (n := 1) ht.2
 obtain ⟨n1, hn1⟩ : ∃ z, z = (nI s a).1 := ⟨_, rfl⟩
 obtain ⟨n2, hn2⟩ : ∃ z, z = (nI s a).2.2 := ⟨_, rfl⟩
 obtain ⟨b0, hb0⟩ : ∃ z, z = (tI s n2 n1).1 := ⟨_, rfl⟩
 obtain ⟨t2, ht2⟩ : ∃ z, z = (tI s n2 n1).2.2 := ⟨_, rfl⟩
 obtain ⟨u2, hu2⟩ : ∃ z, z = (tI s t2 1).2.2 := ⟨_, rfl⟩
 rw [← hn1, ← hn2] at ht hu
 rw [← ht2] at ht hu
 rw [← hu2] at hu; rw [← hn2] at hn; rw [← hn1] at hnr
 have hbs : b0.size ≤ s.size := by rw [hb0]; exact tI_small _ _ _
 refine sr rfl fun _ J => ?_; simp only [go_sem]; apply J; refine sr rfl fun _ k2 => ?_; simp only [go_sem]; apply k2; refine sr rfl fun _ k3 => ?_; simp only [go_sem]
 refine vg [] 0 rfl rfl rfl ⟨Tryz.func201, rfl, rfl⟩ (w_number s a ha hs) rfl (by simp only [go_sem]) (by simp only [go_sem]) (fit1 (H1 := []) (.inl rfl) (by simp only [go_sem, rdr]) (by simp only [go_sem, AObj.bel, rdr] <;> simp)) (.inl rfl) ?_
 simp only [go_sem, AV.ren, AObj.ren, aA, shift, sg, Nat.le_refl, Nat.add_zero, Nat.sub_self, rdr, ← hn1, ← hn2]; apply k3; refine sq fun _ k4 => ?_; refine sr rfl fun _ J => ?_; simp only [go_sem]; apply J
 refine cd rfl (fun hc1 => ?_) fun hc1 => ?_
 · have hk : (nI s a).2.1 = false := by simpa using hc1
   have h9 : bI s a = ([], false, n2) := by unfold bI; rw [if_neg (by rw [hk]; simp), hn2]
   refine sr rfl fun _ J => ?_; simp only [go_sem]; apply J
   refine awp_nil (t := 2) 65 5 rfl (by decide) ?_
   simp only [go_sem]
   refine aFz 1 rfl ?_
   simp only [go_sem, fzL, AV.fz]; refine wR ?_; refine ⟨[], ?_⟩
   simp only [go_sem, AObj.bel, AObj.ren, AV.ren, aA, sg, rdr, h9, List.map_nil] <;> simp
 have hk1 : (nI s a).2.1 = true := by simpa using hc1
 refine wk ?_; apply k4; refine sr rfl fun _ k7 => ?_; simp only [go_sem]
 refine vg [] 0 rfl rfl rfl ⟨Tryz.func202, rfl, rfl⟩ (w_impl_logReader_take s n2 hn.2.1 hs n1 hnr.1 hnr.2) rfl (by simp only [go_sem]) (by simp only [go_sem]) (fit1 (H1 := []) (.inl rfl) (by simp only [go_sem, rdr]) (by simp only [go_sem, AObj.bel, rdr] <;> simp)) (.inl rfl) ?_
 simp only [go_sem, AV.ren, AObj.ren, aA, shift, sg, Nat.le_refl, Nat.add_zero, Nat.sub_self, rdr, ← hb0, ← ht2]; apply k7; refine sq fun _ k8 => ?_; refine sr rfl fun _ J => ?_; simp only [go_sem]; apply J
 refine cd rfl (fun hc2 => ?_) fun hc2 => ?_
 · have hk : (tI s n2 n1).2.1 = false := by simpa using hc2
   have h9 : bI s a = ([], false, t2) := by unfold bI; rw [if_pos hk1, ← hn1, ← hn2, if_neg (by rw [hk]; simp), ht2]
   refine sr rfl fun _ J => ?_; simp only [go_sem]; apply J
   refine awp_nil (t := 2) 65 5 rfl (by decide) ?_
   simp only [go_sem]
   refine aFz 1 rfl ?_
   simp only [go_sem, fzL, AV.fz]; refine wR ?_; refine ⟨[], ?_⟩
   simp only [go_sem, AObj.bel, AObj.ren, AV.ren, aA, sg, rdr, h9, List.map_nil] <;> simp
 have hk2 : (tI s n2 n1).2.1 = true := by simpa using hc2
 refine wk ?_; apply k8; refine sq fun _ k11 => ?_; refine sr rfl fun _ k12 => ?_; simp only [go_sem]
 refine vg [] 0 rfl rfl rfl ⟨Tryz.func202, rfl, rfl⟩ (w_impl_logReader_take s t2 ht.2 hs 1 (by omega) (by omega)) rfl (by simp only [go_sem]) (by simp only [go_sem]) (fit1 (H1 := []) (.inl rfl) (by simp only [go_sem, rdr]) (by simp only [go_sem, AObj.bel, rdr] <;> simp)) (.inl rfl) ?_
 simp only [go_sem, AV.ren, AObj.ren, aA, shift, sg, Nat.le_refl, Nat.add_zero, Nat.sub_self, rdr, ← hu2]; apply k12; refine sr rfl fun _ J => ?_; simp only [go_sem]; apply J
 refine cd rfl (fun hc3 => ?_) fun hc3 => ?_
 · have hk : (tI s t2 1).2.1 = false := by simpa using hc3
   have h9 : bI s a = ([], false, u2) := by unfold bI; rw [if_pos hk1, ← hn1, ← hn2, if_pos hk2, ← ht2, if_neg (by rw [hk]; simp), hu2]
   refine sr rfl fun _ J => ?_; simp only [go_sem]; apply J
   refine awp_nil (t := 2) 65 5 rfl (by decide) ?_
   simp only [go_sem]
   refine aFz 1 rfl ?_
   simp only [go_sem, fzL, AV.fz]; refine wR ?_; refine ⟨[], ?_⟩
   simp only [go_sem, AObj.bel, AObj.ren, AV.ren, aA, sg, rdr, h9, List.map_nil] <;> simp
 have hk3 : (tI s t2 1).2.1 = true := by simpa using hc3
 have hbI : bI s a = if (innerI b0 b0.size 0 []).2 = true then (if bBad s a u2 (innerI b0 b0.size 0 []).1 = true then ([], false, u2) else ((innerI b0 b0.size 0 []).1, true, u2)) else ([], false, u2) := by
   unfold bI; rw [if_pos hk1, ← hn1, ← hn2, if_pos hk2, ← ht2, ← hb0, if_pos hk3, ← hu2]
 refine wk ?_; apply k11; refine sr rfl fun _ J => ?_; simp only [go_sem]; apply J; refine sr rfl fun _ k16 => ?_; simp only [go_sem]; apply k16; refine sq fun _ k17 => ?_; refine wb ?_
 refine awp_nil (t := 9) 65 5 rfl (by decide) ?_
 simp only [go_sem]
 refine wl (α := Nat × Nat × List Entry) (fun x => b0.size ≤ x.1 + x.2.1 ∧ x.2.1 ≤ b0.size ∧ x.2.2.length ≤ 12 ∧ (∀ e ∈ x.2.2, e.key.size ≤ 1048576 ∧ e.text.size ≤ 1048576) ∧ innerI b0 x.1 x.2.1 x.2.2 = innerI b0 b0.size 0 []) (fun x => x.1) (fun x => ([(0, .ptr 0 0), (4, .raw (.int .i64 (a : Int))), (7, .raw (.string b0)), (8, .ptr 1 0), (9, .ref 2)], [(0, rdr s u2), (1, rdr b0 x.2.1), (2, .row 65 5 (x.2.2.map enA))])) 3 (b0.size, 0, []) ⟨by simp, Nat.zero_le _, by simp, by simp, rfl⟩ [] ?_ ?_
 · simp only [go_sem, AObj.bel, AObj.ren, AV.ren, aA, sg, rdr, Int.natCast_zero, List.map_nil] <;> simp
 rintro ⟨f, at0, out⟩ ⟨hf, hat, hol, hoz, hgo⟩
 simp only at hf hat hol hoz hgo ⊢
 refine sq fun _ k18 => ?_; refine sr rfl fun _ J => ?_; simp only [go_sem]; apply J
 refine cd rfl (fun hc4 => ?_) fun hc4 => ?_
 · have hlt : at0 < b0.size := by simpa using hc4
   obtain ⟨g, rfl⟩ : ∃ g, f = g + 1 := ⟨f - 1, by omega⟩
   have he := eI_le hat
   have hes := eI_small hat
   refine wk ?_; apply k18; refine wb ?_; refine sr rfl fun _ k20 => ?_; simp only [go_sem, enA]
   refine vg [(0, 1)] 0 rfl rfl rfl ⟨Tryz.func203, rfl, rfl⟩ (w_impl_logReader_entry b0 at0 hat (by omega)) rfl (by simp only [go_sem, AV.ren, aA, sg]) (by simp only [go_sem]) (fit1 (H1 := []) (.inr ⟨1, rfl⟩) (by simp only [go_sem, rdr, sg, AObj.ren] <;> simp [AV.ren, aA, sg, Abs.get]) (by simp only [go_sem, AObj.bel, rdr] <;> simp)) (.inl rfl) ?_
   simp only [go_sem, AV.ren, AObj.ren, aA, shift, sg, Nat.le_refl, Nat.add_zero, Nat.sub_self, rdr, enA]; apply k20; refine sq fun _ k21 => ?_; refine sr rfl fun _ J => ?_; simp only [go_sem]; apply J
   refine cd rfl (fun hc5 => ?_) fun hc5 => ?_
   · rw [innerI, if_pos hlt, if_pos hc5] at hgo
     have h9 : bI s a = ([], false, u2) := by rw [hbI, ← hgo]; exact if_neg (by simp)
     refine sr rfl fun _ J => ?_; simp only [go_sem]; apply J
     refine awp_nil (t := 2) 65 5 rfl (by decide) ?_
     simp only [go_sem]
     refine aFz 4 rfl ?_
     simp only [go_sem, fzL, AV.fz]; refine wR ?_; simp only [go_sem, lQ]; refine ⟨[], ?_⟩
     simp only [go_sem, AObj.bel, AObj.ren, AV.ren, aA, sg, rdr, h9, List.map_nil] <;> simp
   have hok : (eI b0 at0).2.1 = true ∧ out.length < 12 := by simp at hc5; exact ⟨hc5.1, by omega⟩
   have hlt2 := he.2.2 hok.1
   refine wk ?_; apply k21; refine wg rfl ?_; simp only [go_sem, List.length_take, List.length_append, List.nil_append, List.length_map, List.length_drop, enA]
   repeat (first | refine ⟨by first | omega | (intro hg; simp at hg; omega), ?_⟩ | fail)
   try simp only [go_sem, lQ]
   try simp only [go_sem, lQ]
   refine ⟨(g, (eI b0 at0).2.2, out ++ [(eI b0 at0).1]), ⟨by simp only; omega, he.2.1, by simp; omega, fun e h => (by rcases List.mem_append.1 h with h | h; exact hoz e h; rw [List.mem_singleton.1 h]; omega), by simp only; rw [innerI, if_pos hlt, if_neg (by rw [hc5]; simp)] at hgo; exact hgo⟩, by simp only; omega, [(2, 5)], ?_⟩
   simp only [go_sem, AObj.bel, AObj.ren, AV.ren, aA, sg, rdr] <;> simp [enA]
 have hge : ¬ at0 < b0.size := by simpa using hc4
 rw [innerI_end hge] at hgo; rw [← hgo] at hbI
 simp only [if_true] at hbI
 have hto : ((u2 : Nat) : Int).toNat = u2 := Int.toNat_natCast _
 refine we ?_; try simp only [go_sem, lQ]
 apply k17; refine sq fun _ k24 => ?_
 have hmx : bT out := ⟨by omega, fun e he => ⟨by have := hoz e he; omega, by have := hoz e he; omega⟩⟩
 refine aFz 2 rfl ?_
 simp only [go_sem, fzL, AV.fz]; refine sd mixed rfl fun _ k25 => ?_; simp only [go_sem, hto]
 repeat (first | refine ⟨by first | omega | (intro hg; simp at hg; omega), ?_⟩ | fail)
 refine tp rfl rfl rfl ⟨Tryz.func123, rfl, rfl⟩ (w_impl_batchOk out hmx) (by simp only [go_sem]) (by simp only [go_sem]) ?_
 simp only [go_sem]
 repeat (first | refine ⟨by first | omega | (intro hg; simp at hg; omega), ?_⟩ | fail)
 refine tpg rfl rfl rfl rfl rfl rfl ⟨Tryz.func72, rfl, rfl⟩ (fun hg => w_impl_FrameText out hmx) (by simp only [go_sem]) (fun hg => (by simp only [go_sem])) (by simp only [go_sem]) trivial ?_
 simp only [go_sem]
 repeat (first | refine ⟨by first | omega | (intro hg; simp at hg; omega), ?_⟩ | fail)
 refine ⟨by rfl, ?_⟩; apply k25
 refine cd rfl (fun hc6 => ?_) fun hc6 => ?_
 · have h9 : bI s a = ([], false, u2) := by rw [hbI]; exact if_pos hc6
   refine sr rfl fun _ J => ?_; simp only [go_sem]; apply J
   refine awp_nil (t := 2) 65 5 rfl (by decide) ?_
   simp only [go_sem]
   refine aFz 3 rfl ?_
   simp only [go_sem, fzL, AV.fz]; refine wR ?_; refine ⟨[], ?_⟩
   simp only [go_sem, AObj.bel, AObj.ren, AV.ren, aA, sg, rdr, h9, List.map_nil] <;> simp
 have h9 : bI s a = (out, true, u2) := by rw [hbI]; exact if_neg (by unfold bBad; rw [hc6]; simp)
 refine wk ?_; apply k24; refine sr rfl fun _ J => ?_; simp only [go_sem]; apply J; refine wR ?_; refine ⟨[], ?_⟩
 simp only [go_sem, AObj.bel, AObj.ren, AV.ren, aA, sg, rdr, h9, List.map_nil] <;> simp
theorem w_impl_FrameRead (s : ByteArray) (hs : s.size ≤ 1048576) : aB P 117 [.raw (.string s)] [] 0 (.tup [.sl 1 ((raI s).1.map esA), .raw (.int .i64 ((raI s).2 : Int))]) := by
 refine pw (N := 25) (vs := [.tmp 2, .tmp 3]) ⟨Tryz.func117, rfl, rfl⟩ rfl rfl (by simp) ?_
 simp only [eE]
 have hmx : maxLen = 9223372036854775807 := rfl
 refine sr rfl fun _ J => ?_; simp only [go_sem]; apply J; refine sr rfl fun _ k2 => ?_; simp only [go_sem]; apply k2; refine sr rfl fun _ J => ?_; simp only [go_sem]; apply J; refine wb ?_
 refine awp_nil (t := 5) 33 1 rfl (by decide) ?_
 simp only [go_sem]
 refine wl (α := Nat × Nat × List (List Entry)) (fun x => x.2.1 ≤ s.size ∧ s.size < x.1 + x.2.1 ∧ x.2.2.length ≤ x.2.1 ∧ readI s x.1 x.2.1 x.2.2 = raI s) (fun x => x.1) (fun x => ([(4, .ptr 0 0), (5, .ref 1)], [(0, rdr s x.2.1), (1, .row 33 1 (x.2.2.map esA))])) 2 (s.size + 1, 0, []) ⟨Nat.zero_le _, by simp, by simp, rfl⟩ [] ?_ ?_
 · simp only [go_sem, AObj.bel, AObj.ren, AV.ren, aA, sg, rdr, Int.natCast_zero, List.map_nil] <;> simp
 rintro ⟨f, a, out⟩ ⟨ha, hf, hol, hgo⟩
 simp only at ha hf hol hgo ⊢
 obtain ⟨g, rfl⟩ : ∃ g, f = g + 1 := ⟨f - 1, by omega⟩
 have hb := bI_le ha
 refine wb ?_; refine sr rfl fun _ J => ?_; simp only [go_sem]; apply J; refine sr rfl fun _ k5 => ?_; simp only [go_sem]
 refine vg [] 0 rfl rfl rfl ⟨Tryz.func169, rfl, rfl⟩ (w_impl_logReader_batch s a ha hs) rfl (by simp only [go_sem]) (by simp only [go_sem]) (fit1 (H1 := []) (.inl rfl) (by simp only [go_sem, rdr]) (by simp only [go_sem, AObj.bel, rdr] <;> simp)) (.inl rfl) ?_
 simp only [go_sem, AV.ren, AObj.ren, aA, shift, sg, Nat.le_refl, Nat.add_zero, Nat.sub_self, rdr]; apply k5; refine sq fun _ k6 => ?_; refine sr rfl fun _ J => ?_; simp only [go_sem]; apply J
 refine cd rfl (fun hc1 => ?_) fun hc1 => ?_
 · have hok : (bI s a).2.1 = false := by simpa using hc1
   rw [readI, if_neg (by rw [hok]; simp)] at hgo
   refine sr rfl fun _ J => ?_; simp only [go_sem]; apply J
   refine aFz 1 rfl ?_
   simp only [go_sem, fzL, AV.fz]; refine wR ?_; simp only [go_sem, lQ]
   refine fO ?_ ⟨by simp only [go_sem], trivial, trivial⟩
   simp only [go_sem, ← hgo]
 have hok : (bI s a).2.1 = true := by simpa using hc1
 have hlt := hb.2.2 hok
 refine wk ?_; apply k6; refine wg rfl ?_; simp only [go_sem, List.length_take, List.length_append, List.nil_append, List.length_map, List.length_drop]
 repeat (first | refine ⟨by first | omega | (intro hg; simp at hg; omega), ?_⟩ | fail)
 try simp only [go_sem, lQ]
 try simp only [go_sem, lQ]
 refine ⟨(g, (bI s a).2.2, out ++ [(bI s a).1]), ⟨hb.2.1, by simp only; omega, by simp; omega, by simp only; rw [readI, if_pos hok] at hgo; exact hgo⟩, by simp only; omega, [(1, 3)], ?_⟩
 simp only [go_sem, AObj.bel, AObj.ren, AV.ren, aA, sg, rdr] <;> simp [esA]
def fgStep (seq : Int) (st : List Entry × Int) (e : Entry) : List Entry × Int := if seq < e.seq then (st.1 ++ [e], max st.2 e.seq) else st
def fgRow (seq : Int) (st : List Entry × Int) (b : List Entry) : List Entry × Int := b.foldl (fgStep seq) st
def freshI (bs : List (List Entry)) (seq : Int) : List Entry × Int := (bY (bs.foldl (fgRow seq) ([], seq)).1, (bs.foldl (fgRow seq) ([], seq)).2)
theorem fgStep_len (seq : Int) (st : List Entry × Int) (e : Entry) : (fgStep seq st e).1.length ≤ st.1.length + 1 := by
  unfold fgStep; split
  · simp
  omega
def sBat (bs : List (List Entry)) : Prop := bs.length ≤ 12001 ∧ ∀ b ∈ bs, b.length ≤ 12
def dkOkI (d : Disk) : Bool := if 12000 < (d.log.size : Int) ∨ d.safe < 0 ∨ (d.log.size : Int) < d.safe then false else treeOkI ⟨d.seq, [], d.levels, []⟩
theorem bI_ok {s : ByteArray} {a : Nat} (h : (bI s a).2.1 = true) : isB (bI s a).1 = true := by
  unfold bI at h ⊢
  generalize nI s a = n at h ⊢
  generalize tI s n.2.2 n.1 = t at h ⊢
  generalize tI s t.2.2 1 = u at h ⊢
  generalize innerI t.1 t.1.size 0 [] = r at h ⊢
  split at h
  · rename_i h1
    split at h
    · rename_i h2
      split at h
      · rename_i h3
        split at h
        · rename_i h4
          split at h
          · cases h
          rename_i h5
          rw [if_pos h1, if_pos h2, if_pos h3, if_pos h4, if_neg h5]; unfold bBad at h5; simp at h5
          exact h5.1
        cases h
      cases h
    cases h
  cases h
theorem readI_ok {s : ByteArray} : ∀ (f a : Nat) (out : List (List Entry)), a ≤ s.size → out.length ≤ a → (∀ b ∈ out, isB b = true) → (∀ b ∈ (readI s f a out).1, isB b = true) ∧ (readI s f a out).1.length ≤ s.size
  | 0, a, out, ha, hl, h => ⟨h, by simp only [readI]; omega⟩
  | f + 1, a, out, ha, hl, h => by
    unfold readI
    have hb := bI_le ha
    split
    · rename_i hk
      have := hb.2.2 hk
      refine readI_ok f _ _ hb.2.1 (by simp; omega) fun b hb' => ?_
      rcases List.mem_append.1 hb' with h1 | h1
      · exact h b h1
      rw [List.mem_singleton.1 h1]; exact bI_ok hk
    exact ⟨h, by simp only; omega⟩
theorem readAllI_ok (s : ByteArray) : (∀ b ∈ (raI s).1, isB b = true) ∧ (raI s).1.length ≤ s.size := readI_ok _ 0 [] (Nat.zero_le _) (Nat.le_refl _) (by simp)
theorem readAllI_bat {s : ByteArray} (hs : s.size ≤ 12000) : sBat (raI s).1 := by
  obtain ⟨h1, h2⟩ := readAllI_ok s
  exact ⟨by omega, fun b hb => (cC (h1 b hb)).2.2⟩
theorem w_TreeOk_d (d : Disk) (hs : sLvs d.levels) : aB P 115 [.agg [.raw (.int .i64 d.seq), .raw (.slice none 0 0), .sl 1 (d.levels.map rsA), .raw (.slice none 0 0)]] [] 0 (.raw (.bool (treeOkI ⟨d.seq, [], d.levels, []⟩))) :=
  (w_impl_TreeOk ⟨d.seq, [], d.levels, []⟩ ⟨⟨by simp, by simp⟩, hs, by simp⟩).args_le (LeL.cons (Le.aggL (LeL.cons (.refl _) (LeL.cons (.nil _) (LeL.cons (.refl _) (LeL.cons (.nil _) LeL.nil))))) LeL.nil) ⟨treeAV_b _ _, trivial⟩
theorem w_impl_freshOf (bs : List (List Entry)) (seq : Int) (hb : sBat bs) : aB P 118 [.sl 1 (bs.map esA), .raw (.int .i64 seq)] [] 0 (.tup [.sl 5 ((freshI bs seq).1.map enA), .raw (.int .i64 (freshI bs seq).2)]) := by
 refine pw (N := 43) (vs := [.tmp 4, .tmp 5]) ⟨Tryz.func118, rfl, rfl⟩ rfl rfl (by simp) ?_
 simp only [eE]
 have hmx : maxLen = 9223372036854775807 := rfl
 obtain ⟨hb1, hb2⟩ := hb
 refine sr rfl fun _ J => ?_; simp only [go_sem]; apply J; refine sr rfl fun _ k2 => ?_; simp only [go_sem]; apply k2; refine sr rfl fun _ J => ?_; simp only [go_sem]; apply J; refine sq fun _ k4 => ?_; refine sr rfl fun _ J => ?_; simp only [go_sem]; apply J; refine wb ?_
 refine awp_nil (t := 6) 65 5 rfl (by decide) ?_
 simp only [go_sem]
 refine wl (α := Nat × List Entry × Int) (fun x => x.1 ≤ bs.length ∧ x.2.1.length ≤ 12 * x.1 ∧ (bs.drop x.1).foldl (fgRow seq) x.2 = bs.foldl (fgRow seq) ([], seq)) (fun x => bs.length - x.1) (fun x => ([(1, .raw (.int .i64 seq)), (6, .ref 0), (7, .raw (.int .i64 x.2.2)), (13, .sl 1 (bs.map esA)), (14, .raw (.int .i64 (bs.length : Int))), (15, .raw (.int .i64 (x.1 : Int)))], [(0, .row 65 5 (x.2.1.map enA))])) 1 (0, [], seq) ⟨Nat.zero_le _, by simp, rfl⟩ [] ?_ ?_
 · simp only [go_sem, AObj.bel, List.map_nil, Int.natCast_zero] <;> simp
 rintro ⟨i, st⟩ ⟨hi, hol, hfold⟩
 simp only at hi hol hfold ⊢
 refine sr rfl fun _ J => ?_; simp only [go_sem]; apply J; refine sq fun _ k7 => ?_
 refine cd rfl (fun hc1 => ?_) fun hc1 => ?_
 · have hlt : i < bs.length := (by simpa using hc1); obtain ⟨l, hl, hdrop, hml⟩ := ix hlt
   have hl12 := hb2 l hml
   refine wk ?_; apply k7; refine sq fun _ k8 => ?_; refine wb ?_; refine sr rfl fun _ k9 => ?_; simp only [go_sem, hl, esA]
   repeat (first | refine ⟨by first | omega | (intro hg; simp at hg; omega), ?_⟩ | fail)
   apply k9; refine sr rfl fun _ J => ?_; simp only [go_sem]; apply J; refine wb ?_
   refine wl (α := Nat × List Entry × Int) (fun x => x.1 ≤ l.length ∧ x.2.1.length ≤ 12 * i + x.1 ∧ (l.drop x.1).foldl (fgStep seq) x.2 = fgRow seq st l) (fun x => l.length - x.1) (fun x => ([(1, .raw (.int .i64 seq)), (6, .ref 0), (7, .raw (.int .i64 x.2.2)), (13, .sl 1 (bs.map esA)), (14, .raw (.int .i64 (bs.length : Int))), (15, .raw (.int .i64 (i : Int))), (19, .sl 5 (l.map enA)), (20, .raw (.int .i64 (l.length : Int))), (21, .raw (.int .i64 (x.1 : Int)))], [(0, .row 65 5 (x.2.1.map enA))])) 1 (0, st) ⟨Nat.zero_le _, by simpa using hol, rfl⟩ [] ?_ ?_
   · simp only [go_sem, AObj.bel, AObj.ren, AV.ren, aA, sg, Int.natCast_zero] <;> simp
   rintro ⟨k, st2⟩ ⟨hk, hol2, hfold2⟩
   simp only at hk hol2 hfold2 ⊢
   refine sr rfl fun _ J => ?_; simp only [go_sem]; apply J; refine sq fun _ k12 => ?_
   refine cd rfl (fun hc2 => ?_) fun hc2 => ?_
   · have hltk : k < l.length := by simpa using hc2
     obtain ⟨e, he, hdrop2, _⟩ := ix hltk
     refine wk ?_; apply k12; refine sq fun _ k13 => ?_; refine wb ?_; refine sr rfl fun _ k14 => ?_; simp only [go_sem, he, enA]
     repeat (first | refine ⟨by first | omega | (intro hg; simp at hg; omega), ?_⟩ | fail)
     apply k14; refine sr rfl fun _ J => ?_; simp only [go_sem, enA]; apply J
     refine cd rfl (fun hc3 => ?_) fun hc3 => ?_
     · have hgt : seq < e.seq := by simpa using hc3
       have hst : fgStep seq st2 e = (st2.1 ++ [e], max st2.2 e.seq) := by unfold fgStep; rw [if_pos hgt]
       have hmx : max st2.2 e.seq = max st2.2 e.seq := rfl
       refine sr rfl fun _ k16 => ?_; simp only [go_sem, List.length_take, List.length_append, List.nil_append, List.length_map, List.length_reverse, List.length_drop, enA]
       repeat (first | refine ⟨by first | omega | (intro hg; simp at hg; omega), ?_⟩ | fail)
       apply k16; refine wg rfl ?_; simp only [go_sem, hmx]; try simp only [go_sem, lQ]
       apply k13
       have hwk : IntKind.i64.wrap ((k : Int) + 1) = ((k + 1 : Nat) : Int) := by rw [IntKind.wrap_i64]; omega
       refine wg rfl ?_; simp only [go_sem, hwk]; try simp only [go_sem, lQ]
       refine ⟨(k + 1, st2.1 ++ [e], max st2.2 e.seq), ⟨by omega, by simp; omega, by rw [hdrop2, List.foldl_cons] at hfold2; rw [← hfold2, hst]⟩, by omega, [(0, 3)], ?_⟩
       simp only [go_sem, AObj.bel, AObj.ren, AV.ren, aA, sg] <;> simp [enA]
     have hgt : ¬ seq < e.seq := by simpa using hc3
     have hst : fgStep seq st2 e = st2 := by unfold fgStep; rw [if_neg hgt]
     refine wk ?_; try simp only [go_sem, lQ]
     apply k13
     have hwk : IntKind.i64.wrap ((k : Int) + 1) = ((k + 1 : Nat) : Int) := by rw [IntKind.wrap_i64]; omega
     refine wg rfl ?_; simp only [go_sem, hwk]; try simp only [go_sem, lQ]
     refine ⟨(k + 1, st2), ⟨by omega, by simp only; omega, by rw [hdrop2, List.foldl_cons] at hfold2; rw [← hfold2, hst]⟩, by omega, [], ?_⟩
     simp only [go_sem, AObj.bel, AObj.ren, AV.ren, aA, sg, Int.natCast_zero] <;> simp
   have hgek : l.length ≤ k := by have h9 : ¬ k < l.length := (by simpa using hc2); omega
   rw [List.drop_eq_nil_of_le hgek, List.foldl_nil] at hfold2
   have hf2 : fgRow seq st l = st2 := hfold2.symm
   refine we ?_; try simp only [go_sem, lQ]
   try simp only [go_sem, lQ]
   apply k8
   have hw : IntKind.i64.wrap ((i : Int) + 1) = ((i + 1 : Nat) : Int) := by rw [IntKind.wrap_i64]; omega
   refine wg rfl ?_; simp only [go_sem, hw]; try simp only [go_sem, lQ]
   refine ⟨(i + 1, st2), ⟨by omega, by simp only; omega, by rw [hdrop, List.foldl_cons] at hfold; rw [← hfold]; exact congrArg (fun z => (bs.drop (i + 1)).foldl (fgRow seq) z) hf2.symm⟩, by omega, [], ?_⟩
   simp only [go_sem, AObj.bel, AObj.ren, AV.ren, aA, sg, Int.natCast_zero] <;> simp
 have hge : bs.length ≤ i := Nat.not_lt.1 (by simpa using hc1)
 rw [List.drop_eq_nil_of_le hge, List.foldl_nil] at hfold
 have h9 : freshI bs seq = (bY st.1, st.2) := by unfold freshI; rw [← hfold]
 refine we ?_; try simp only [go_sem, lQ]
 apply k4; refine sr rfl fun _ k17 => ?_; simp only [go_sem]
 refine vg [] 0 rfl rfl rfl ⟨Tryz.func140, rfl, rfl⟩ (w_sort st.1 (by omega)) rfl (by simp only [go_sem, cmpE]) (by simp only [go_sem, cmpE]) (fit1 (H1 := []) (.inl rfl) (by simp only [go_sem]) (by simp only [go_sem, AObj.bel])) (.inl rfl) ?_
 simp only [go_sem, AV.ren, AObj.ren, aA, shift, sg, Nat.le_refl, Nat.add_zero, Nat.sub_self]; apply k17; refine sr rfl fun _ J => ?_; simp only [go_sem]; apply J
 refine aFz 0 rfl ?_
 simp only [go_sem, fzL, AV.fz]; refine wR ?_
 refine fO ?_ ⟨enB _ _, trivial, trivial⟩
 simp only [go_sem, h9]
theorem w_impl_storeCopy_o (s : Store) (hs : bE s) : aD P 69 [stA s] [] 0 (.agg [.raw (.bool s.up), .raw (.int .i64 s.tree.seq), .ref 0, .ref 1, .ref 2, .raw (.string s.disk.log), .raw (.int .i64 s.disk.safe), .ref 3, .raw (.int .i64 s.disk.seq)]) [(0, .row 65 5 (s.tree.mem.map enA)), (1, .row 107 1 (s.tree.levels.map rsO)), (2, .row 3 1 (s.tree.snaps.map inA)), (3, .row 107 1 (s.disk.levels.map rsO))] 4 := by
 refine gw (N := 16) (vs := [.cell 2 40]) ⟨Tryz.func69, rfl, rfl⟩ rfl rfl (by simp) ?_
 simp only [eE, stA]; refine sr rfl fun _ J => ?_; simp only [go_sem]; apply J; refine sr rfl fun _ k2 => ?_; simp only [go_sem]; apply k2; refine sr rfl fun _ k3 => ?_; simp only [go_sem]
 refine vn 3 rfl rfl rfl ⟨Tryz.func120, rfl, rfl⟩ (w_impl_treeCopy_o s.tree hs.1) (by simp only [go_sem, trA]) (by simp only [go_sem, trA]) (by simp) (by decide) ?_
 simp only [go_sem, AV.ren, AObj.ren, aA, shift, sg, Nat.le_refl, Nat.add_zero, Nat.sub_self]; apply k3; refine sr rfl fun _ k4 => ?_; simp only [go_sem]
 refine vn 1 rfl rfl rfl ⟨Tryz.func121, rfl, rfl⟩ (w_impl_levelsCopy_o s.disk.levels hs.2) (by simp only [go_sem]) (by simp only [go_sem]) (by simp) (by decide) ?_
 simp only [go_sem, AV.ren, AObj.ren, aA, shift, sg, Nat.le_refl, Nat.add_zero, Nat.sub_self]; apply k4; refine sr rfl fun _ J => ?_; simp only [go_sem]; apply J; refine wR ?_
 refine ⟨[(0, 3), (1, 4), (2, 5), (3, 6)], ?_⟩
 simp only [go_sem, AObj.bel, AObj.ren, AV.ren, aA, sg] <;> simp
theorem w_impl_diskOk (d : Disk) (hs : sLvs d.levels) : aB P 112 [dkA d] [] 0 (.raw (.bool (dkOkI d))) := by
 refine pw (N := 28) (vs := [.tmp 2]) ⟨Tryz.func112, rfl, rfl⟩ rfl rfl (by simp) ?_
 simp only [eE, dkA]; refine sr rfl fun _ J => ?_; simp only [go_sem]; apply J; refine sr rfl fun _ k2 => ?_; simp only [go_sem]
 refine vpg rfl rfl rfl rfl rfl rfl ⟨Tryz.func115, rfl, rfl⟩ (fun hg => w_TreeOk_d d hs) (by simp only [go_sem]) (fun hg => (by simp only [go_sem])) (by simp only [go_sem]) trivial ?_
 simp only [go_sem]; apply k2; refine wR ?_
 have h9 : dkOkI d = (((decide ((d.log.size : Int) ≤ 12000) && decide (0 ≤ d.safe)) && decide (d.safe ≤ (d.log.size : Int))) && treeOkI ⟨d.seq, [], d.levels, []⟩) := by
   unfold dkOkI; split
   · rename_i h; have : ((decide ((d.log.size : Int) ≤ 12000) && decide (0 ≤ d.safe)) && decide (d.safe ≤ (d.log.size : Int))) = false := by simp; omega
     rw [this]; rfl
   rename_i h; have : ((decide ((d.log.size : Int) ≤ 12000) && decide (0 ≤ d.safe)) && decide (d.safe ≤ (d.log.size : Int))) = true := by simp; omega
   rw [this]; rfl
 refine fO ?_ trivial; simp only [go_sem, h9]
section
variable {H : Heap} {ro : Option Nat} {N nx b0 : Nat} {E : Env} {o : Oper} {c : Call} {x : Operand}
theorem lstep_sliceNil {P : Program} {ds : List (Option Tmp)} (hg : o.guard = none) (ho : o.op = .call c) (hc : c.callee = .builtin .unsafeSliceData) (hargs : c.args = #[x]) (hN : ∀ d, o.dst = some d → d < N)
    (hx : opv E x = some (.raw (.slice none 0 0))) : aS P ro N ds o b0 E H (tO [x]) [] (.raw (.pointer none)) [] nx 0 := by
  refine lsO hg fun E' H' U hE hH' hnx => ?_
  rw [aU0]
  have hops := oCg hE
  refine aG (by simp [ho, Op.noDefer]) hN fun C a w hR => ?_
  obtain ⟨h1, h2⟩ := hR.opv (x := x) (by rw [hops x (by simp)]; exact hx)
  have hev : a.eval x = .slice none 0 0 := by
    generalize a.eval x = v at h1
    cases h1; rfl
  have hr := Lib.run_unsafeSliceData_nil (P := P) w c.argTypes o.type 0 0
  exact ⟨trivial, .pointer none, by simp [execOp, ho, resolve, hc, hargs, invoke, builtin, hev, hr], .raw _⟩
theorem lstep_unsafeNil {P : Program} {ds : List (Option Tmp)} {x y : Operand} {pt it : Nat} (hg : o.guard = none) (ho : o.op = .call c) (hc : c.callee = .builtin .unsafeString) (hargs : c.args = #[x, y]) (hts : c.argTypes = #[pt, it]) (hN : ∀ d, o.dst = some d → d < N)
    (hx : opv E x = some (.raw (.pointer none))) (hy : opv E y = some (.raw (.int .i64 0))) : aS P ro N ds o b0 E H (tO [x, y]) [] (.raw (.string ⟨#[]⟩)) [] nx 0 := by
  refine lsO hg fun E' H' U hE hH' hnx => ?_
  rw [aU0]
  have hops := oCg hE
  refine aG (by simp [ho, Op.noDefer]) hN fun C a w hR => ?_
  obtain ⟨h1, h2⟩ := hR.opv (x := x) (by rw [hops x (by simp)]; exact hx)
  obtain ⟨h3, _⟩ := hR.opv (x := y) (by rw [hops y (by simp)]; exact hy)
  have hev : a.eval x = .pointer none := by
    generalize a.eval x = v at h1
    cases h1; rfl
  have hey : a.eval y = .int .i64 0 := by
    generalize a.eval y = v at h3
    cases h3; rfl
  have hr := Lib.run_unsafeString_none (P := P) w pt it o.type none
  exact ⟨trivial, .string .empty, by simp [execOp, ho, resolve, hc, hargs, hts, invoke, builtin, hev, hey, hr], .raw _⟩
def bldH (L : List UInt8) : Heap := if L = [] then [(2, .cells 144 [.raw (.pointer none), .raw (.slice none 0 0)])] else [(2, .cells 144 [.ptr 2 0, .ref 3]), (3, .row 5 1 (L.map byteAV))]
theorem bL_nil {s : ByteArray} : bL s = [] ↔ s.size = 0 := by rw [← List.length_eq_zero_iff, aL]
theorem frameTxt_sz {b : List Entry} (h : isB b = true) : (fTx b).size ≤ 4000 ∧ 1 ≤ (fTx b).size := by
  obtain ⟨hok, h1, h2⟩ := cC h
  have h3 := frFold_size b ⟨#[]⟩ fun e he => by obtain ⟨_, _, _, _, _, _, r7, r8⟩ := entOk_range (hok e he); exact ⟨r7, r8⟩
  have h4 := dec_size ((bTx b).size : Int)
  have h5 : (bTx b).size = (b.foldl frStep ⟨#[]⟩).size := rfl
  have h6 : (⟨#[]⟩ : ByteArray).size = 0 := rfl
  unfold fTx; rw [if_pos h]; simp only [ByteArray.size_append, aU, nlB_size]; omega
def openI (s : Store) : Store :=
  ⟨true, ⟨(freshI (raI s.disk.log).1 s.disk.seq).2, (freshI (raI s.disk.log).1 s.disk.seq).1, s.disk.levels, []⟩, ⟨leftS (raI s.disk.log).1 s.disk.seq, ((leftS (raI s.disk.log).1 s.disk.seq).size : Int), s.disk.levels, s.disk.seq⟩⟩
theorem fit1w {H H1 : Heap} {s : List (Nat × Nat)} {g : AObj} {nw : Nat} (hs : s = [] ∨ ∃ j, s = [(0, j)]) (ho : Abs.get H (sg s 0) = some (g.ren (sg s))) (hb : g.bel (UU 1)) (hk : ∀ i ∈ H1.map (·.1), i < 1 + nw) (ha : (Abs.get H1 0).isSome = true) (hf : nw ≤ 900) : FitC H s [(0, g)] 1 nw H1 where
  objs := ⟨ho, .inl (by omega), hb, trivial⟩
  inj := by simp
  cov := fun i hi => by have : i = 0 := by omega
                        subst this; rfl
  sk := fun p hp => by
    rcases hs with rfl | ⟨j, rfl⟩
    · cases hp
    rw [List.mem_singleton.1 hp]; rfl
  dom := fun p hp => by
    have := hk p.1 (List.mem_map.2 ⟨p, hp, rfl⟩)
    by_cases h : p.1 = 0
    · left; rw [h]; rfl
    exact .inr ⟨by omega, this⟩
  all := fun p hp => by rw [List.mem_singleton.1 hp]; exact ha
  far := by omega
theorem w_BString0  : aD P 127 [.ptr 0 0] [(0, bld0)] 1 (.raw (.string ⟨#[]⟩)) [(0, bld0)] 1 := by
 refine gw (N := 14) (vs := [.tmp 2]) ⟨Tryz.func127, rfl, rfl⟩ rfl rfl (by simp) ?_
 simp only [eE, bld0]; refine sr rfl fun _ J => ?_; simp only [go_sem]; apply J; refine sd mixed rfl fun _ k2 => ?_; simp only [go_sem]
 refine dE (fun hN => lstep_sliceNil rfl rfl rfl rfl hN rfl) (.inl rfl) ?_
 simp only [go_sem]
 refine dE (fun hN => lstep_unsafeNil rfl rfl rfl rfl rfl hN rfl rfl) (.inl rfl) ?_
 simp only [go_sem]; refine ⟨by rfl, ?_⟩; apply k2; refine wR ?_; refine ⟨[], ?_⟩
 simp only [go_sem, AObj.bel, AObj.ren, AV.ren, aA, sg] <;> simp
theorem w_BString2 (l : List UInt8) (h0 : l ≠ []) : aD P 127 [.ptr 0 0] [(0, bld1 1), (1, aQ l)] 2 (.raw (.string ⟨l.toArray⟩)) [(0, .cells 144 [.ptr 0 0, .sl 1 (l.map byteAV)]), (1, .dead)] 2 := by
 refine gw (N := 14) (vs := [.tmp 2]) ⟨Tryz.func127, rfl, rfl⟩ rfl rfl (by simp) ?_
 simp only [eE, bld1, aQ]; refine sr rfl fun _ J => ?_; simp only [go_sem]; apply J; refine sd mixed rfl fun _ k2 => ?_; simp only [go_sem, List.length_map]
 refine dE (fun hN => lstep_sliceData (l := l) rfl rfl rfl rfl hN rfl rfl h0 (.inl (by decide))) (.inl rfl) ?_
 simp only [go_sem, List.length_map]
 refine dE (fun hN => lstep_unsafeKeep (l := l) (m := 0) (jj := 1) rfl rfl rfl rfl rfl hN uPU ceU rfl rfl rfl h0 rfl rfl (by decide)) (.inr (by decide)) ?_
 simp only [go_sem, List.set_cons_succ, List.set_cons_zero, List.length_map]; refine ⟨by rfl, ?_⟩; apply k2; refine wR ?_; refine ⟨[], ?_⟩
 simp only [go_sem, AObj.bel, AObj.ren, AV.ren, aA, sg] <;> simp
theorem w_BLen2 (l : List UInt8) : aD P 126 [.ptr 0 0] [(0, .cells 144 [.ptr 0 0, .sl 1 (l.map byteAV)])] 1 (.raw (.int .i64 (l.length : Int))) [(0, .cells 144 [.ptr 0 0, .sl 1 (l.map byteAV)])] 1 := by
 refine gw (N := 8) (vs := [.tmp 2]) ⟨Tryz.func126, rfl, rfl⟩ rfl rfl (by simp) ?_
 simp only [eE]; refine sr rfl fun _ J => ?_; simp only [go_sem]; apply J; refine sr rfl fun _ k2 => ?_; simp only [go_sem, List.length_map]; apply k2; refine wR ?_; refine ⟨[], ?_⟩
 simp only [go_sem, AObj.bel, AObj.ren, AV.ren, aA, sg] <;> simp
theorem w_impl_opened (s : Store) (hlog : s.disk.log.size ≤ 12000) : aB P 114 [stA s] [] 0 (stA (openI s)) := by
 refine pw (N := 64) (vs := [.cell 2 40]) ⟨Tryz.func114, rfl, rfl⟩ rfl rfl (by simp) ?_
 simp only [eE, stA]
 have hb0 : bldH (bL (⟨#[]⟩ : ByteArray)) = [(2, .cells 144 [.raw (.pointer none), .raw (.slice none 0 0)])] := if_pos rfl
 have hbok := (readAllI_ok s.disk.log).1
 have hbl := (readAllI_ok s.disk.log).2
 refine sr rfl fun _ J => ?_; simp only [go_sem]; apply J; refine sr rfl fun _ k2 => ?_; simp only [go_sem]
 refine vp rfl rfl rfl ⟨Tryz.func117, rfl, rfl⟩ (w_impl_FrameRead s.disk.log (by omega)) (by simp only [go_sem]) (by simp only [go_sem]) ?_
 simp only [go_sem]; apply k2; refine sr rfl fun _ J => ?_; simp only [go_sem]; apply J; refine sq fun _ k4 => ?_; refine sr rfl fun _ J => ?_; simp only [go_sem]; apply J; refine wb ?_
 refine wl (α := Nat × ByteArray) (fun x => x.1 ≤ (raI s.disk.log).1.length ∧ x.2.size ≤ 4000 * x.1 ∧ ((raI s.disk.log).1.drop x.1).foldl (bM s.disk.seq) x.2 = leftS (raI s.disk.log).1 s.disk.seq) (fun x => (raI s.disk.log).1.length - x.1) (fun x => ([(1, .ptr 0 0), (2, .ptr 1 0), (3, .sl 1 ((raI s.disk.log).1.map esA)), (5, .ptr 2 0), (18, .sl 1 ((raI s.disk.log).1.map esA)), (19, .raw (.int .i64 ((raI s.disk.log).1.length : Int))), (20, .raw (.int .i64 (x.1 : Int)))], [(0, .cells 40 [.raw (.bool s.up), .raw (.int .i64 s.tree.seq), .sl 5 (s.tree.mem.map enA), .sl 1 (s.tree.levels.map rsA), .sl 1 (s.tree.snaps.map inA), .raw (.string s.disk.log), .raw (.int .i64 s.disk.safe), .sl 1 (s.disk.levels.map rsA), .raw (.int .i64 s.disk.seq)]), (1, .cells 40 [.raw (.bool false), .raw (.int .i64 0), .raw (.slice none 0 0), .raw (.slice none 0 0), .raw (.slice none 0 0), .raw (.string ⟨#[]⟩), .raw (.int .i64 0), .raw (.slice none 0 0), .raw (.int .i64 0)])] ++ bldH (bL x.2) ++ [])) 4 (0, ⟨#[]⟩) ⟨Nat.zero_le _, Nat.zero_le _, rfl⟩ [] ?_ ?_
 · simp only [hb0, List.cons_append, List.nil_append, List.append_nil, go_sem, AObj.bel, Int.natCast_zero] <;> simp
 rintro ⟨i, L⟩ ⟨hi, hL, hfold⟩
 simp only at hi hL hfold ⊢
 rcases Nat.eq_zero_or_pos L.size with hLz | hLz
 · have hbh : bldH (bL L) = [(2, .cells 144 [.raw (.pointer none), .raw (.slice none 0 0)])] := if_pos (bL_nil.2 hLz)
   have hLe : L = ⟨#[]⟩ := by rw [← bL_mk L, bL_nil.2 hLz]
   have hLb : bL L = [] := bL_nil.2 hLz
   simp only [hbh, List.cons_append, List.nil_append, List.append_nil]; refine sr rfl fun _ J => ?_; simp only [go_sem]; apply J; refine sq fun _ k7 => ?_
   refine cd rfl (fun hc1 => ?_) fun hc1 => ?_
   · have hlt : i < (raI s.disk.log).1.length := by simpa using hc1
     obtain ⟨l, hl, hdrop, hml⟩ := ix hlt
     have hib := hbok l hml
     obtain ⟨hok, hb1, hb2⟩ := cC hib
     obtain ⟨hf1, hf2⟩ := frameTxt_sz hib
     have hpv : l[l.length - 1]? = some (lastEnt l) := by unfold lastEnt; rw [List.getElem?_eq_getElem (by omega)]; rfl
     have hw6 : IntKind.i64.wrap ((l.length : Int) - 1) = (l.length : Int) - 1 := by rw [IntKind.wrap_i64]; omega
     have hpn : ((l.length : Int) - 1).toNat = l.length - 1 := by omega
     have hbn : bldH (bL (L ++ fTx l)) = [(2, .cells 144 [.ptr 2 0, .ref 3]), (3, .row 5 1 ((bL (L ++ fTx l)).map byteAV))] := if_neg (by rw [bL_nil, ByteArray.size_append]; omega)
     refine wk ?_; apply k7; refine sq fun _ k8 => ?_; refine wb ?_; refine sr rfl fun _ k9 => ?_; simp only [go_sem, hl, esA]
     repeat (first | refine ⟨by first | omega | (intro hg; simp at hg; omega), ?_⟩ | fail)
     apply k9; refine sd mixed rfl fun _ k10 => ?_; simp only [go_sem, hw6, hpn, hpv, enA, List.length_map]
     repeat (first | refine ⟨by first | omega | (intro hg; simp at hg; omega), ?_⟩ | fail)
     refine ⟨by rfl, ?_⟩; apply k10
     refine cd rfl (fun hc2 => ?_) fun hc2 => ?_
     · have hgt : s.disk.seq < (lastEnt l).seq := by simpa using hc2
       have hst : bM s.disk.seq L l = L ++ fTx l := by unfold bM; rw [if_pos hgt]
       refine wg rfl ?_; simp only [go_sem]
       refine vp rfl rfl rfl ⟨Tryz.func72, rfl, rfl⟩ (w_impl_FrameText l (by exact ⟨by omega, fun e he => ⟨by have := (entOk_small (hok e he)).1; omega, by have := (entOk_small (hok e he)).2; omega⟩⟩)) (by simp only [go_sem]) (by simp only [go_sem]) ?_
       simp only [go_sem]
       refine vg [(0, 2)] 1 rfl rfl rfl ⟨Tryz.func124, rfl, rfl⟩ (w_WriteString0 (fTx l) (by omega)) rfl (by simp only [go_sem, AV.ren, aA, sg] <;> simp [Abs.get]) (by simp only [go_sem]) (fit1w (.inr ⟨2, rfl⟩) (by simp only [go_sem, bld0, sg, AObj.ren, AV.ren, aA] <;> simp [Abs.get]) (by simp only [go_sem, AObj.bel, bld0]) (by simp) rfl (by decide)) (.inr (by decide)) ?_
       simp only [go_sem, AV.ren, AObj.ren, aA, shift, sg, Nat.le_refl, Nat.add_zero, Nat.sub_self, bld0, bld1, aQ]; try simp only [go_sem, lQ]
       apply k8
       have hw : IntKind.i64.wrap ((i : Int) + 1) = ((i + 1 : Nat) : Int) := by rw [IntKind.wrap_i64]; omega
       refine wg rfl ?_; simp only [go_sem, hw]; try simp only [go_sem, lQ]
       refine ⟨(i + 1, L ++ fTx l), ⟨by omega, by simp only [ByteArray.size_append]; omega, by rw [hdrop, List.foldl_cons, hst] at hfold; exact hfold⟩, by omega, [(3, 4)], ?_⟩
       simp only [go_sem, AObj.bel, AObj.ren, AV.ren, aA, sg, hbn, List.cons_append, List.nil_append, List.append_nil] <;> simp [bL_app, hLb, Abs.get, sg]
       rfl
     have hgt : ¬ s.disk.seq < (lastEnt l).seq := by simpa using hc2
     have hst : bM s.disk.seq L l = L := by unfold bM; rw [if_neg hgt]
     refine wk ?_; try simp only [go_sem, lQ]
     apply k8
     have hw : IntKind.i64.wrap ((i : Int) + 1) = ((i + 1 : Nat) : Int) := by rw [IntKind.wrap_i64]; omega
     refine wg rfl ?_; simp only [go_sem, hw]; try simp only [go_sem, lQ]
     refine ⟨(i + 1, L), ⟨by omega, by simp only; omega, by rw [hdrop, List.foldl_cons, hst] at hfold; exact hfold⟩, by omega, [], ?_⟩
     simp only [go_sem, AObj.bel, AObj.ren, AV.ren, aA, sg, hbh, List.cons_append, List.nil_append, List.append_nil] <;> simp
   have hge : (raI s.disk.log).1.length ≤ i := by have h9 : ¬ i < (raI s.disk.log).1.length := (by simpa using hc1); omega
   rw [List.drop_eq_nil_of_le hge, List.foldl_nil] at hfold; subst hLe; refine we ?_; try simp only [go_sem, lQ]
   apply k4; refine sr rfl fun _ k11 => ?_; simp only [go_sem]
   refine vp rfl rfl rfl ⟨Tryz.func118, rfl, rfl⟩ (w_impl_freshOf (raI s.disk.log).1 s.disk.seq (readAllI_bat hlog)) (by simp only [go_sem]) (by simp only [go_sem]) ?_
   simp only [go_sem]; apply k11; refine sr rfl fun _ J => ?_; simp only [go_sem]; apply J; refine sr rfl fun _ k13 => ?_; simp only [go_sem]
   refine vg [(0, 2)] 0 rfl rfl rfl ⟨Tryz.func127, rfl, rfl⟩ (w_BString0) rfl (by simp only [go_sem, AV.ren, aA, sg] <;> simp [Abs.get]) (by simp only [go_sem]) (fit1 (H1 := []) (.inr ⟨2, rfl⟩) (by simp only [go_sem, bld0, sg, AObj.ren, AV.ren, aA] <;> simp [Abs.get]) (by simp only [go_sem, AObj.bel, bld0])) (.inl rfl) ?_
   simp only [go_sem, AV.ren, AObj.ren, aA, shift, sg, Nat.le_refl, Nat.add_zero, Nat.sub_self, bld0, bld1, aQ]; apply k13; refine sr rfl fun _ k14 => ?_; simp only [go_sem]
   refine vg [(0, 2)] 0 rfl rfl rfl ⟨Tryz.func126, rfl, rfl⟩ (w_BLen0) rfl (by simp only [go_sem, AV.ren, aA, sg] <;> simp [Abs.get]) (by simp only [go_sem]) (fit1 (H1 := []) (.inr ⟨2, rfl⟩) (by simp only [go_sem, bld0, sg, AObj.ren, AV.ren, aA] <;> simp [Abs.get]) (by simp only [go_sem, AObj.bel, bld0])) (.inl rfl) ?_
   simp only [go_sem, AV.ren, AObj.ren, aA, shift, sg, Nat.le_refl, Nat.add_zero, Nat.sub_self, bld0, bld1, aQ]; apply k14; refine sr rfl fun _ J => ?_; simp only [go_sem]; apply J; refine sr rfl fun _ k16 => ?_; simp only [go_sem]; apply k16
   refine awp_cellsLe 1 (ds := [.raw (.bool true), .raw (.int .i64 (freshI (raI s.disk.log).1 s.disk.seq).2), .sl 5 ((freshI (raI s.disk.log).1 s.disk.seq).1.map enA), .sl 1 (s.disk.levels.map rsA), .sl 1 [], .raw (.string ⟨#[]⟩), .raw (.int .i64 0), .sl 1 (s.disk.levels.map rsA), .raw (.int .i64 s.disk.seq)]) rfl (by repeat (first | exact LeL.nil | refine LeL.cons (by first | exact Le.refl _ | exact Le.nil _) ?_)) (by simp only [go_sem]) ?_
   simp only [go_sem]; refine wR ?_
   have h9 : leftS (raI s.disk.log).1 s.disk.seq = ⟨#[]⟩ := hfold.symm
   refine fO ?_ (aV _ _)
   simp only [go_sem, openI, h9, stA, List.map_nil]; rfl
 have hLn : bL L ≠ [] := fun h => by rw [bL_nil] at h; omega
 have hbh : bldH (bL L) = [(2, .cells 144 [.ptr 2 0, .ref 3]), (3, .row 5 1 ((bL L).map byteAV))] := if_neg hLn
 simp only [hbh, List.cons_append, List.nil_append, List.append_nil]; refine sr rfl fun _ J => ?_; simp only [go_sem]; apply J; refine sq fun _ k18 => ?_
 refine cd rfl (fun hc3 => ?_) fun hc3 => ?_
 · have hlt : i < (raI s.disk.log).1.length := by simpa using hc3
   obtain ⟨l, hl, hdrop, hml⟩ := ix hlt
   have hib := hbok l hml
   obtain ⟨hok, hb1, hb2⟩ := cC hib
   obtain ⟨hf1, hf2⟩ := frameTxt_sz hib
   have hpv : l[l.length - 1]? = some (lastEnt l) := by unfold lastEnt; rw [List.getElem?_eq_getElem (by omega)]; rfl
   have hw6 : IntKind.i64.wrap ((l.length : Int) - 1) = (l.length : Int) - 1 := by rw [IntKind.wrap_i64]; omega
   have hpn : ((l.length : Int) - 1).toNat = l.length - 1 := by omega
   have hbn : bldH (bL (L ++ fTx l)) = [(2, .cells 144 [.ptr 2 0, .ref 3]), (3, .row 5 1 ((bL (L ++ fTx l)).map byteAV))] := if_neg (by rw [bL_nil, ByteArray.size_append]; omega)
   refine wk ?_; apply k18; refine sq fun _ k19 => ?_; refine wb ?_; refine sr rfl fun _ k20 => ?_; simp only [go_sem, hl, esA]
   repeat (first | refine ⟨by first | omega | (intro hg; simp at hg; omega), ?_⟩ | fail)
   apply k20; refine sd mixed rfl fun _ k21 => ?_; simp only [go_sem, hw6, hpn, hpv, enA, List.length_map]
   repeat (first | refine ⟨by first | omega | (intro hg; simp at hg; omega), ?_⟩ | fail)
   refine ⟨by rfl, ?_⟩; apply k21
   refine cd rfl (fun hc4 => ?_) fun hc4 => ?_
   · have hgt : s.disk.seq < (lastEnt l).seq := by simpa using hc4
     have hst : bM s.disk.seq L l = L ++ fTx l := by unfold bM; rw [if_pos hgt]
     refine wg rfl ?_; simp only [go_sem]
     refine vp rfl rfl rfl ⟨Tryz.func72, rfl, rfl⟩ (w_impl_FrameText l (by exact ⟨by omega, fun e he => ⟨by have := (entOk_small (hok e he)).1; omega, by have := (entOk_small (hok e he)).2; omega⟩⟩)) (by simp only [go_sem]) (by simp only [go_sem]) ?_
     simp only [go_sem]
     refine vg [(0, 2), (1, 3)] 1 rfl rfl rfl ⟨Tryz.func124, rfl, rfl⟩ (w_WriteString1 (bL L) (fTx l) (by rw [aL]; omega)) rfl (by simp only [go_sem, AV.ren, aA, sg] <;> simp [Abs.get]) (by simp only [go_sem]) (fit2 (.inr ⟨2, 3, by decide, rfl⟩) (by simp only [go_sem, bld1, aQ, sg, AObj.ren, AV.ren, aA] <;> simp [Abs.get]) (by simp only [go_sem, bld1, aQ, sg, AObj.ren, AV.ren, aA] <;> simp [Abs.get]) (by simp only [go_sem, AObj.bel, bld1, aQ] <;> simp) (by simp only [go_sem, AObj.bel, bld1, aQ]) (by simp) ⟨rfl, rfl⟩ (by decide)) (.inr (by decide)) ?_
     simp only [go_sem, AV.ren, AObj.ren, aA, shift, sg, Nat.le_refl, Nat.add_zero, Nat.sub_self, bld1, aQ]; try simp only [go_sem, lQ]
     apply k19
     have hw : IntKind.i64.wrap ((i : Int) + 1) = ((i + 1 : Nat) : Int) := by rw [IntKind.wrap_i64]; omega
     refine wg rfl ?_; simp only [go_sem, hw]; try simp only [go_sem, lQ]
     refine ⟨(i + 1, L ++ fTx l), ⟨by omega, by simp only [ByteArray.size_append]; omega, by rw [hdrop, List.foldl_cons, hst] at hfold; exact hfold⟩, by omega, [(3, 4)], ?_⟩
     simp only [go_sem, AObj.bel, AObj.ren, AV.ren, aA, sg, hbn, List.cons_append, List.nil_append, List.append_nil] <;> simp [bL_app, Abs.get, sg]
     rfl
   have hgt : ¬ s.disk.seq < (lastEnt l).seq := by simpa using hc4
   have hst : bM s.disk.seq L l = L := by unfold bM; rw [if_neg hgt]
   refine wk ?_; try simp only [go_sem, lQ]
   apply k19
   have hw : IntKind.i64.wrap ((i : Int) + 1) = ((i + 1 : Nat) : Int) := by rw [IntKind.wrap_i64]; omega
   refine wg rfl ?_; simp only [go_sem, hw]; try simp only [go_sem, lQ]
   refine ⟨(i + 1, L), ⟨by omega, by simp only; omega, by rw [hdrop, List.foldl_cons, hst] at hfold; exact hfold⟩, by omega, [], ?_⟩
   simp only [go_sem, AObj.bel, AObj.ren, AV.ren, aA, sg, hbh, List.cons_append, List.nil_append, List.append_nil] <;> simp
 have hge : (raI s.disk.log).1.length ≤ i := by have h9 : ¬ i < (raI s.disk.log).1.length := (by simpa using hc3); omega
 rw [List.drop_eq_nil_of_le hge, List.foldl_nil] at hfold
 have hLm : (⟨(bL L).toArray⟩ : ByteArray) = L := bL_mk L
 refine we ?_; try simp only [go_sem, lQ]
 apply k4; refine sr rfl fun _ k22 => ?_; simp only [go_sem]
 refine vp rfl rfl rfl ⟨Tryz.func118, rfl, rfl⟩ (w_impl_freshOf (raI s.disk.log).1 s.disk.seq (readAllI_bat hlog)) (by simp only [go_sem]) (by simp only [go_sem]) ?_
 simp only [go_sem]; apply k22; refine sr rfl fun _ J => ?_; simp only [go_sem]; apply J; refine sr rfl fun _ k24 => ?_; simp only [go_sem]
 refine vg [(0, 2), (1, 3)] 0 rfl rfl rfl ⟨Tryz.func127, rfl, rfl⟩ (w_BString2 (bL L) hLn) rfl (by simp only [go_sem, AV.ren, aA, sg] <;> simp [Abs.get]) (by simp only [go_sem]) (fit2 (.inr ⟨2, 3, by decide, rfl⟩) (by simp only [go_sem, bld1, aQ, sg, AObj.ren, AV.ren, aA] <;> simp [Abs.get]) (by simp only [go_sem, bld1, aQ, sg, AObj.ren, AV.ren, aA] <;> simp [Abs.get]) (by simp only [go_sem, AObj.bel, bld1, aQ] <;> simp) (by simp only [go_sem, AObj.bel, bld1, aQ]) (by simp) ⟨rfl, rfl⟩ (by decide)) (.inl rfl) ?_
 simp only [go_sem, AV.ren, AObj.ren, aA, shift, sg, Nat.le_refl, Nat.add_zero, Nat.sub_self, bld1, aQ]; apply k24; refine sr rfl fun _ k25 => ?_; simp only [go_sem]
 refine vg [(0, 2)] 0 rfl rfl rfl ⟨Tryz.func126, rfl, rfl⟩ (w_BLen2 (bL L)) rfl (by simp only [go_sem, AV.ren, aA, sg] <;> simp [Abs.get]) (by simp only [go_sem]) (fit1 (H1 := []) (.inr ⟨2, rfl⟩) (by simp only [go_sem, sg, AObj.ren, AV.ren, aA] <;> simp [Abs.get]) (by simp only [go_sem, AObj.bel] <;> simp)) (.inl rfl) ?_
 simp only [go_sem, AV.ren, AObj.ren, aA, shift, sg, Nat.le_refl, Nat.add_zero, Nat.sub_self, aL]; apply k25; refine sr rfl fun _ J => ?_; simp only [go_sem]; apply J; refine sr rfl fun _ k27 => ?_; simp only [go_sem]; apply k27
 refine awp_cellsLe 1 (ds := [.raw (.bool true), .raw (.int .i64 (freshI (raI s.disk.log).1 s.disk.seq).2), .sl 5 ((freshI (raI s.disk.log).1 s.disk.seq).1.map enA), .sl 1 (s.disk.levels.map rsA), .sl 1 [], .raw (.string L), .raw (.int .i64 (L.size : Int)), .sl 1 (s.disk.levels.map rsA), .raw (.int .i64 s.disk.seq)]) rfl (by repeat (first | exact LeL.nil | refine LeL.cons (by first | exact Le.refl _ | exact Le.nil _) ?_)) (by simp only [go_sem]) ?_
 simp only [go_sem]; refine wR ?_
 have h9 : leftS (raI s.disk.log).1 s.disk.seq = L := hfold.symm
 refine fO ?_ (aV _ _)
 simp only [go_sem, openI, h9, stA, List.map_nil]
end
theorem fg_small (seq : Int) : ∀ (bs : List (List Entry)) (st : List Entry × Int), (∀ b ∈ bs, b.length ≤ 12 ∧ ∀ e ∈ b, e.key.size ≤ 1048576 ∧ e.text.size ≤ 1048576) → (∀ e ∈ st.1, e.key.size ≤ 1048576 ∧ e.text.size ≤ 1048576) → (bs.foldl (fgRow seq) st).1.length ≤ st.1.length + 12 * bs.length ∧ ∀ e ∈ (bs.foldl (fgRow seq) st).1, e.key.size ≤ 1048576 ∧ e.text.size ≤ 1048576 := by
  have row : ∀ (b : List Entry) (st : List Entry × Int), (∀ e ∈ b, e.key.size ≤ 1048576 ∧ e.text.size ≤ 1048576) → (∀ e ∈ st.1, e.key.size ≤ 1048576 ∧ e.text.size ≤ 1048576) → (fgRow seq st b).1.length ≤ st.1.length + b.length ∧ ∀ e ∈ (fgRow seq st b).1, e.key.size ≤ 1048576 ∧ e.text.size ≤ 1048576 := by
    intro b
    induction b with
    | nil => intro st _ h; exact ⟨by simp [fgRow], h⟩
    | cons x r ih =>
      intro st hb h
      have h1 := fgStep_len seq st x
      have h2 : ∀ e ∈ (fgStep seq st x).1, e.key.size ≤ 1048576 ∧ e.text.size ≤ 1048576 := fun e he => by
        unfold fgStep at he; split at he
        · rcases List.mem_append.1 he with h3 | h3
          · exact h e h3
          rw [List.mem_singleton.1 h3]; exact hb x List.mem_cons_self
        exact h e he
      have h3 := ih (fgStep seq st x) (fun e he => hb e (List.mem_cons_of_mem _ he)) h2
      simp only [fgRow, List.foldl_cons, List.length_cons] at h3 ⊢
      exact ⟨by omega, h3.2⟩
  intro bs
  induction bs with
  | nil => intro st _ h; exact ⟨by simp, h⟩
  | cons b r ih =>
    intro st hb h
    have h1 := row b st (hb b List.mem_cons_self).2 h
    have h2 := ih (fgRow seq st b) (fun x hx => hb x (List.mem_cons_of_mem _ hx)) h1.2
    have h3 := (hb b List.mem_cons_self).1
    simp only [List.foldl_cons, List.length_cons]
    exact ⟨by omega, h2.2⟩
theorem freshI_small {s : ByteArray} (hs : s.size ≤ 12000) (seq : Int) : sEnts (freshI (raI s).1 seq).1 := by
  obtain ⟨h1, h2⟩ := readAllI_ok s
  have h3 := fg_small seq (raI s).1 ([], seq) (fun b hb => ⟨(cC (h1 b hb)).2.2, fun e he => entOk_small ((cC (h1 b hb)).1 e he)⟩) (by simp)
  simp only [List.length_nil, Nat.zero_add] at h3
  unfold freshI
  refine ⟨?_, fun e he => h3.2 e ((sortE_perm _).mem_iff.1 he)⟩
  rw [sortE_len]; omega
def upBadI (s : Store) : Bool := (!treeOkI s.tree || !decide (s.tree.levels = s.disk.levels)) || decide (s.tree.seq < s.disk.seq)
def upI (s : Store) : Bool := if upBadI s = true then false else if ((raI s.disk.log).2 : Int) ≠ (s.disk.log.size : Int) then false else decide ((freshI (raI s.disk.log).1 s.disk.seq).2 = s.tree.seq) && decide ((freshI (raI s.disk.log).1 s.disk.seq).1 = s.tree.mem)
def okUpI (s : Store) : Bool := if dkOkI s.disk = false then false else upI s
def bV (s : Store) : Bool := if dkOkI s.disk = false then false else if s.up = true then upI s else treeSame s.tree zTree && okUpI (openI s)
theorem dkOk_log {d : Disk} (h : dkOkI d = true) : d.log.size ≤ 12000 := by
  unfold dkOkI at h; split at h
  · cases h
  rename_i h1; omega
theorem mxLvs_of {ls : List (List Run)} (h : sLvs ls) : mxLvs ls := by
  refine ⟨by have := h.1; omega, fun rs hrs => ?_⟩
  have h1 := h.2 rs hrs
  exact ⟨by have := h1.1; omega, fun r hr => ⟨by have := (h1.2 r hr).1; omega, fun e he => ⟨by have := ((h1.2 r hr).2 e he).1; omega, by have := ((h1.2 r hr).2 e he).2; omega⟩⟩⟩
theorem mxTree_of {t : Tree} (h : sTree t) : mxTree t := ⟨⟨by have := h.1.1; omega, fun e he => ⟨by have := (h.1.2 e he).1; omega, by have := (h.1.2 e he).2; omega⟩⟩, mxLvs_of h.2.1, by have := h.2.2; omega⟩
theorem w_TreeSame_z (t : Tree) (hs : sTree t) : aB P 113 [trA t, .agg [.raw (.int .i64 0), .raw (.slice none 0 0), .raw (.slice none 0 0), .raw (.slice none 0 0)]] [] 0 (.raw (.bool (treeSame t zTree))) :=
  (w_impl_TreeSame t zTree (mxTree_of hs)).args_le (LeL.cons (.refl _) (LeL.cons (Le.aggL (LeL.cons (.refl _) (LeL.cons (.nil _) (LeL.cons (.nil _) (LeL.cons (.nil _) LeL.nil))))) LeL.nil)) ⟨treeAV_b _ _, treeAV_b _ _, trivial⟩
theorem sStore_open {s : Store} (hs : bE s) (hlog : s.disk.log.size ≤ 12000) : bE (openI s) := by
  have h1 := freshI_small hlog s.disk.seq
  have h2 := hs.2
  unfold bE sTree openI
  generalize freshI (raI s.disk.log).1 s.disk.seq = f at h1 ⊢
  exact ⟨⟨h1, h2, Nat.zero_le _⟩, h2⟩
theorem w_StoreOk_up (s : Store) (hs : bE s) (hup : s.up = true) : aB P 68 [stA s] [] 0 (.raw (.bool (okUpI s))) := by
 refine pw (N := 79) (vs := [.tmp 2]) ⟨Tryz.func68, rfl, rfl⟩ rfl rfl (by simp) ?_
 simp only [eE, stA]; refine sr rfl fun _ J => ?_; simp only [go_sem]; apply J; refine sq fun _ k2 => ?_; refine sr rfl fun _ k3 => ?_; simp only [go_sem]
 refine vp rfl rfl rfl ⟨Tryz.func112, rfl, rfl⟩ (w_impl_diskOk s.disk hs.2) (by simp only [go_sem, dkA]) (by simp only [go_sem, dkA]) ?_
 simp only [go_sem]; apply k3
 refine cd rfl (fun hc1 => ?_) fun hc1 => ?_
 · have hd : dkOkI s.disk = false := by simpa using hc1
   have h9 : okUpI s = false := by unfold okUpI; rw [if_pos hd]
   refine sr rfl fun _ J => ?_; simp only [go_sem]; apply J; refine wR ?_; refine fO ?_ trivial; simp only [go_sem, h9]
 have hd : dkOkI s.disk = true := by simpa using hc1
 have hlog := dkOk_log hd
 refine wk ?_; apply k2; refine sq fun _ k5 => ?_; refine sr rfl fun _ J => ?_; simp only [go_sem]; apply J
 refine cd rfl (fun hc2 => ?_) fun hc2 => ?_
 · exfalso
   rw [hup] at hc2; simp at hc2
 refine wk ?_; apply k5; refine sq fun _ k7 => ?_; refine sr rfl fun _ k8 => ?_; simp only [go_sem]
 refine vp rfl rfl rfl ⟨Tryz.func115, rfl, rfl⟩ (w_impl_TreeOk s.tree hs.1) (by simp only [go_sem, trA]) (by simp only [go_sem, trA]) ?_
 simp only [go_sem]
 refine vpg rfl rfl rfl rfl rfl rfl ⟨Tryz.func116, rfl, rfl⟩ (fun hg => w_impl_levelsSame s.tree.levels s.disk.levels (mxLvs_of hs.1.2.1)) (by simp only [go_sem]) (fun hg => (by simp only [go_sem])) (by simp only [go_sem]) trivial ?_
 simp only [go_sem]; apply k8
 refine cd rfl (fun hc3 => ?_) fun hc3 => ?_
 · have hb : upBadI s = true := hc3
   have h9 : okUpI s = false := by unfold okUpI upI; rw [if_neg (by rw [hd]; simp), if_pos hb]
   refine sr rfl fun _ J => ?_; simp only [go_sem]; apply J; refine wR ?_; refine fO ?_ trivial; simp only [go_sem, h9]
 have hb : upBadI s = false := hc3
 refine wk ?_; apply k7; refine sr rfl fun _ k10 => ?_; simp only [go_sem]
 refine vp rfl rfl rfl ⟨Tryz.func117, rfl, rfl⟩ (w_impl_FrameRead s.disk.log (by omega)) (by simp only [go_sem]) (by simp only [go_sem]) ?_
 simp only [go_sem]; apply k10; refine sq fun _ k11 => ?_; refine sr rfl fun _ J => ?_; simp only [go_sem]; apply J
 refine cd rfl (fun hc4 => ?_) fun hc4 => ?_
 · have hn : ((raI s.disk.log).2 : Int) ≠ (s.disk.log.size : Int) := by simpa using hc4
   have h9 : okUpI s = false := by unfold okUpI upI; rw [if_neg (by rw [hd]; simp), if_neg (by rw [hb]; simp), if_pos hn]
   refine sr rfl fun _ J => ?_; simp only [go_sem]; apply J; refine wR ?_; refine fO ?_ trivial; simp only [go_sem, h9]
 have hn : ¬ ((raI s.disk.log).2 : Int) ≠ (s.disk.log.size : Int) := by simpa using hc4
 have h9 : okUpI s = (decide ((freshI (raI s.disk.log).1 s.disk.seq).2 = s.tree.seq) && decide ((freshI (raI s.disk.log).1 s.disk.seq).1 = s.tree.mem)) := by unfold okUpI upI; rw [if_neg (by rw [hd]; simp), if_neg (by rw [hb]; simp), if_neg hn]
 refine wk ?_; apply k11; refine sr rfl fun _ k14 => ?_; simp only [go_sem]
 refine vp rfl rfl rfl ⟨Tryz.func118, rfl, rfl⟩ (w_impl_freshOf (raI s.disk.log).1 s.disk.seq (readAllI_bat hlog)) (by simp only [go_sem]) (by simp only [go_sem]) ?_
 simp only [go_sem]; apply k14; refine sr rfl fun _ k15 => ?_; simp only [go_sem]
 refine vpg rfl rfl rfl rfl rfl rfl ⟨Tryz.func119, rfl, rfl⟩ (fun hg => aY (freshI (raI s.disk.log).1 s.disk.seq).1 s.tree.mem (by have := (freshI_small hlog s.disk.seq).1; omega)) (by simp only [go_sem]) (fun hg => (by simp only [go_sem])) (by simp only [go_sem]) trivial ?_
 simp only [go_sem]; apply k15; refine wR ?_; refine fO ?_ trivial; simp only [go_sem, h9]
theorem w_StoreOk_dn (s : Store) (hs : bE s) (hup : s.up = false) : aB P 68 [stA s] [] 0 (.raw (.bool (bV s))) := by
 refine pw (N := 79) (vs := [.tmp 2]) ⟨Tryz.func68, rfl, rfl⟩ rfl rfl (by simp) ?_
 simp only [eE, stA]; refine sr rfl fun _ J => ?_; simp only [go_sem]; apply J; refine sq fun _ k2 => ?_; refine sr rfl fun _ k3 => ?_; simp only [go_sem]
 refine vp rfl rfl rfl ⟨Tryz.func112, rfl, rfl⟩ (w_impl_diskOk s.disk hs.2) (by simp only [go_sem, dkA]) (by simp only [go_sem, dkA]) ?_
 simp only [go_sem]; apply k3
 refine cd rfl (fun hc1 => ?_) fun hc1 => ?_
 · have hd : dkOkI s.disk = false := by simpa using hc1
   have h9 : bV s = false := by unfold bV; rw [if_pos hd]
   refine sr rfl fun _ J => ?_; simp only [go_sem]; apply J; refine wR ?_; refine fO ?_ trivial; simp only [go_sem, h9]
 have hd : dkOkI s.disk = true := by simpa using hc1
 have hlog := dkOk_log hd
 refine wk ?_; apply k2; refine sq fun _ k5 => ?_; refine sr rfl fun _ J => ?_; simp only [go_sem]; apply J
 refine cd rfl (fun hc2 => ?_) fun hc2 => ?_
 · have h9 : bV s = (treeSame s.tree zTree && okUpI (openI s)) := by unfold bV; rw [if_neg (by rw [hd]; simp), if_neg (by rw [hup]; simp)]
   refine sr rfl fun _ k7 => ?_; simp only [go_sem]
   refine vp rfl rfl rfl ⟨Tryz.func113, rfl, rfl⟩ (w_TreeSame_z s.tree hs.1) (by simp only [go_sem, trA]) (by simp only [go_sem, trA]) ?_
   simp only [go_sem]
   refine vpg rfl rfl rfl rfl rfl rfl ⟨Tryz.func114, rfl, rfl⟩ (fun hg => w_impl_opened s hlog) (by simp only [go_sem]) (fun hg => (by simp only [go_sem, stA])) (by simp only [go_sem, stA]) (aV _ _) ?_
   simp only [go_sem]
   refine vpg rfl rfl rfl rfl rfl rfl ⟨Tryz.func68, rfl, rfl⟩ (fun hg => w_StoreOk_up (openI s) (sStore_open hs hlog) rfl) (by simp only [go_sem]) (fun hg => (by simp only [go_sem, stA])) (by simp only [go_sem, stA]) trivial ?_
   simp only [go_sem]; apply k7; refine wR ?_; refine fO ?_ trivial; simp only [go_sem, h9]
 exfalso
 rw [hup] at hc2; simp at hc2
theorem w_StoreOk (s : Store) (hs : bE s) : aB P 68 [stA s] [] 0 (.raw (.bool (bV s))) := by
  cases h : s.up
  · exact w_StoreOk_dn s hs h
  have := w_StoreOk_up s hs h
  rwa [show okUpI s = bV s by unfold okUpI bV; rw [h]; simp] at this
inductive StepI where
  | log (t : ByteArray)
  | lev (ls : List (List Run)) (seq : Int)
  | emp
def stAV : StepI → AV
  | .log t => .iface 96 (.agg [.raw (.string t)])
  | .lev ls q => .iface 83 (.agg [.sl 1 (ls.map rsA), .raw (.int .i64 q)])
  | .emp => .iface 103 (.agg [])
def stDo (d : Disk) : StepI → Disk
  | .log t => { d with log := d.log ++ t }
  | .lev ls q => { d with levels := ls, seq := q }
  | .emp => { d with log := ⟨#[]⟩, safe := 0 }
def stSz : StepI → Nat
  | .log t => t.size
  | _ => 0
theorem stAV_b (U : Nat → Prop) (p : StepI) : (stAV p).bel U := by
  cases p with
  | log t => exact ⟨trivial, trivial⟩
  | lev ls q => exact ⟨dD _ _, trivial, trivial⟩
  | emp => trivial
theorem stsAV_b (U : Nat → Prop) (ps : List StepI) : aC U (ps.map stAV) := map_bel (f := stAV) (fun _ _ => stAV_b _ _) U ps
attribute [go_sem] stAV_b stsAV_b
theorem diskAV_b (U : Nat → Prop) (d : Disk) : (dkA d).bel U := ⟨trivial, trivial, dD _ _, trivial, trivial⟩
theorem w_impl_logStep_to (d : Disk) (t : ByteArray) (hz : d.log.size + t.size ≤ 4611686018427387904) : aB P 271 [.agg [.raw (.string t)], dkA d] [] 0 (dkA (stDo d (.log t))) := by
 refine pw (N := 12) (vs := [.cell 4 38]) ⟨Tryz.func271, rfl, rfl⟩ rfl rfl (by simp) ?_
 simp only [eE, dkA]; refine sr rfl fun _ J => ?_; simp only [go_sem]; apply J; refine sr rfl fun _ k2 => ?_; simp only [go_sem]
 refine ⟨by omega, ?_⟩
 apply k2; refine sr rfl fun _ J => ?_; simp only [go_sem]; apply J; refine wR ?_
 refine fO ?_ (diskAV_b _ _)
 simp only [go_sem, dkA, stDo]
theorem w_impl_levelStep_to (d : Disk) (ls : List (List Run)) (q : Int) : aB P 270 [.agg [.sl 1 (ls.map rsA), .raw (.int .i64 q)], dkA d] [] 0 (dkA (stDo d (.lev ls q))) := by
 refine pw (N := 12) (vs := [.cell 4 38]) ⟨Tryz.func270, rfl, rfl⟩ rfl rfl (by simp) ?_
 simp only [eE, dkA]; refine sr rfl fun _ J => ?_; simp only [go_sem]; apply J; refine sd mixed rfl fun _ k2 => ?_; simp only [go_sem]; refine ⟨by rfl, ?_⟩; apply k2; refine sr rfl fun _ J => ?_; simp only [go_sem]; apply J; refine wR ?_
 refine fO ?_ (diskAV_b _ _)
 simp only [go_sem, dkA, stDo]
theorem w_impl_emptyStep_to (d : Disk) : aB P 272 [.agg [], dkA d] [] 0 (dkA (stDo d .emp)) := by
 refine pw (N := 8) (vs := [.cell 4 38]) ⟨Tryz.func272, rfl, rfl⟩ rfl rfl (by simp) ?_
 simp only [eE, dkA]; refine sr rfl fun _ J => ?_; simp only [go_sem]; apply J; refine sr rfl fun _ k2 => ?_; simp only [go_sem]; apply k2; refine sr rfl fun _ J => ?_; simp only [go_sem]; apply J; refine wR ?_
 refine fO ?_ (diskAV_b _ _)
 simp only [go_sem, dkA, stDo]
theorem mTo1 : methodF P 96 "loop.example/comptoir/impl.to" = some (271, false) := by kernel_rfl
theorem mTo2 : methodF P 83 "loop.example/comptoir/impl.to" = some (270, false) := by kernel_rfl
theorem mTo3 : methodF P 103 "loop.example/comptoir/impl.to" = some (272, false) := by kernel_rfl
theorem pTo : ptrTo P 96 = none ∧ ptrTo P 83 = none ∧ ptrTo P 103 = none := by refine ⟨?_, ?_, ?_⟩ <;> kernel_rfl
theorem uTo : (P.underlying 96).isSome = true ∧ (P.underlying 83).isSome = true ∧ (P.underlying 103).isSome = true := by refine ⟨?_, ?_, ?_⟩ <;> kernel_rfl
theorem lstep_to {ro : Option Nat} {N : Nat} {E : Env} {H : Heap} {nx b0 : Nat} {o : Oper} {ds : List (Option Tmp)} {c : Call} {y : Operand} (p : StepI) (d : Disk) (hz : d.log.size + stSz p ≤ 4611686018427387904) (hg : o.guard = none) (ho : o.op = .call c) (hc : c.callee = .invoke y "loop.example/comptoir/impl.to")
    (hN : ∀ d, o.dst = some d → d < N) (hy : opv E y = some (stAV p)) (hxs : c.args.toList.map (opv E) = [dkA d].map some) : aS P ro N ds o b0 E H (tO (y :: c.args.toList)) [] (dkA (stDo d p)) [] nx 0 := by
  have hfit : FitC H [] [] 0 0 [] := fit_new (by simp) (by omega)
  cases p with
  | log t =>
    have := lstep_invoke (b0 := b0) (nx := nx) (ds := ds) (ro := ro) [] 0 hg ho hc hy mTo1 (.inl ⟨pTo.1, rfl⟩) ⟨Tryz.func271, rfl, rfl⟩ hN (w_impl_logStep_to d t hz) rfl hxs (renL_nil _).symm ⟨⟨trivial, trivial⟩, diskAV_b _ _, trivial⟩ hfit uTo.1
    rw [aW, AV.ren_nil] at this; exact this
  | lev ls q =>
    have := lstep_invoke (b0 := b0) (nx := nx) (ds := ds) (ro := ro) [] 0 hg ho hc hy mTo2 (.inl ⟨pTo.2.1, rfl⟩) ⟨Tryz.func270, rfl, rfl⟩ hN (w_impl_levelStep_to d ls q) rfl hxs (renL_nil _).symm ⟨⟨dD _ _, trivial, trivial⟩, diskAV_b _ _, trivial⟩ hfit uTo.2.1
    rw [aW, AV.ren_nil] at this; exact this
  | emp =>
    have := lstep_invoke (b0 := b0) (nx := nx) (ds := ds) (ro := ro) [] 0 hg ho hc hy mTo3 (.inl ⟨pTo.2.2, rfl⟩) ⟨Tryz.func272, rfl, rfl⟩ hN (w_impl_emptyStep_to d) rfl hxs (renL_nil _).symm ⟨trivial, diskAV_b _ _, trivial⟩ hfit uTo.2.2
    rw [aW, AV.ren_nil] at this; exact this
def stsDo (d : Disk) (ps : List StepI) : Disk := ps.foldl stDo d
def swI (s : Store) (b : List Entry) : Store × Bool :=
  if s.up = false then (s, false) else if (treeWI s.tree b).2 = false then (s, false) else
  if 12000 < ((stDo s.disk (.log (fTx (bK s.tree.seq b).1))).log.size : Int) then (s, false) else (⟨true, (treeWI s.tree b).1, stDo s.disk (.log (fTx (bK s.tree.seq b).1))⟩, true)
def sdI (F : Store → Store × Bool) (s : Store) : Store × Bool := if bV s = false then (zStore, false) else if (F s).2 = false then (s, false) else ((F s).1, true)
theorem treeWI_s {t : Tree} {b : List Entry} (hs : sTree t) (hm : t.mem.length ≤ 900000) (hb : b.length ≤ 1048576) : sTree (treeWI t b).1 := by
  unfold treeWI; split
  · exact hs
  rename_i hbd
  obtain ⟨h1, h2⟩ := stmpI_small (seq := t.seq) hb
  have h3 := (Plain.mergeAll_ok entLt_wo [t.mem, (bK t.seq b).1]).1
  refine ⟨⟨?_, fun e he => ?_⟩, hs.2⟩
  · have h4 := h3.length_eq
    simp at h4; unfold tWBad at hbd; simp at hbd
    show (Plain.mergeAll entLt [t.mem, (bK t.seq b).1]).length ≤ _
    rw [h4]; omega
  have h5 := h3.mem_iff.1 he
  simp at h5
  rcases h5 with h5 | h5
  · exact hs.1.2 e h5
  exact h2 e h5
theorem swI_s {s : Store} {b : List Entry} (hs : bE s) (hb : b.length ≤ 1048576) (hm : s.tree.mem.length ≤ 900000) : bE (swI s b).1 := by
  unfold swI; split
  · exact hs
  split
  · exact hs
  split
  · exact hs
  exact ⟨treeWI_s hs.1 hm hb, hs.2⟩
theorem okI_seq {s : Store} (h : bV s = true) (hu : s.up = true) : 0 ≤ s.tree.seq ∧ s.tree.seq ≤ 100000 ∧ s.tree.mem.length ≤ 60 := by
  unfold bV at h; rw [if_pos hu] at h; split at h
  · cases h
  unfold upI at h; split at h
  · cases h
  rename_i hb
  unfold upBadI at hb
  simp only [Bool.or_eq_true, not_or] at hb
  have h1 : treeOkI s.tree = true := by have := hb.1.1; simpa using this
  unfold treeOkI at h1; split at h1
  · cases h1
  rename_i h2
  unfold treeBadI at h2; simp at h2; omega
noncomputable def lsFs : Array Field := match P.underlying 96 with
  | some (.struct fs) => fs
  | _ => #[]
theorem uLStep : P.underlying 96 = some (.struct lsFs) := by kernel_rfl
theorem w_impl_doSteps (d : Disk) (ps : List StepI) (k : Nat) (hk : k ≤ ps.length) (hl : ps.length ≤ 1000) (hz : ∀ i p, (ps.take k)[i]? = some p → (stsDo d ((ps.take k).take i)).log.size + stSz p ≤ 4611686018427387904) : aB P 47 [dkA d, .sl 1 (ps.map stAV), .raw (.int .i64 (k : Int))] [] 0 (dkA (stsDo d (ps.take k))) := by
 refine pw (N := 22) (vs := [.cell 6 38]) ⟨Tryz.func47, rfl, rfl⟩ rfl rfl (by simp) ?_
 simp only [eE, dkA]
 obtain ⟨qs, hqs⟩ : ∃ qs, qs = ps.take k := ⟨_, rfl⟩
 have hql : qs.length = k := by rw [hqs, List.length_take]; omega
 have htk : (ps.map stAV).take k = qs.map stAV := by rw [hqs, List.map_take]
 rw [← hqs] at hz ⊢
 refine sr rfl fun _ J => ?_; simp only [go_sem]; apply J; refine sq fun _ k2 => ?_; refine sr rfl fun _ k3 => ?_; simp only [go_sem, htk, hql, Int.toNat_natCast, List.length_map, List.length_take]
 repeat (first | refine ⟨by first | omega | (intro hg; simp at hg; omega), ?_⟩ | fail)
 apply k3; refine wb ?_
 refine wl (α := Nat) (fun x => x ≤ qs.length) (fun x => qs.length - x) (fun x => ([(3, .ptr 0 0), (6, .ptr 1 0), (11, .sl 1 (qs.map stAV)), (12, .raw (.int .i64 (k : Int))), (13, .raw (.int .i64 (x : Int)))], [(0, .cells 38 [.raw (.string (stsDo d (qs.take x)).log), .raw (.int .i64 (stsDo d (qs.take x)).safe), .sl 1 ((stsDo d (qs.take x)).levels.map rsA), .raw (.int .i64 (stsDo d (qs.take x)).seq)]), (1, .cells 38 [.raw (.string ⟨#[]⟩), .raw (.int .i64 0), .raw (.slice none 0 0), .raw (.int .i64 0)])])) 2 0 (Nat.zero_le _) [] ?_ ?_
 · simp only [go_sem, AObj.bel, stsDo, List.take_zero, List.foldl_nil, Int.natCast_zero] <;> simp [hql]
 rintro i hi
 refine sr rfl fun _ J => ?_; simp only [go_sem]; apply J; refine sq fun _ k5 => ?_
 refine cd rfl (fun hc1 => ?_) fun hc1 => ?_
 · have hlt : i < qs.length := by simp at hc1; omega
   obtain ⟨p, hlp, _, _⟩ := ix hlt
   obtain ⟨T, x, hpx⟩ : ∃ T x, stAV p = .iface T x := by cases p <;> exact ⟨_, _, rfl⟩
   have hst : stsDo d (qs.take (i + 1)) = stDo (stsDo d (qs.take i)) p := by unfold stsDo; rw [List.take_add_one, hlp, List.foldl_append]; rfl
   refine wk ?_; apply k5; refine sq fun _ k6 => ?_; refine wb ?_; refine sr rfl fun _ k7 => ?_; simp only [go_sem, hlp, hpx]
   repeat (first | refine ⟨by first | omega | (intro hg; simp at hg; omega), ?_⟩ | fail)
   apply k7; refine wg rfl ?_; simp only [go_sem, hlp]
   refine vC (fun hN => lstep_to p (stsDo d (qs.take i)) (hz i p hlp) rfl rfl rfl hN (by simp only [go_sem, hpx]) (by simp only [go_sem, dkA])) (.inl rfl) ?_
   simp only [go_sem, dkA, hlp]; try simp only [go_sem, lQ]
   apply k6
   have hw : IntKind.i64.wrap ((i : Int) + 1) = ((i + 1 : Nat) : Int) := by rw [IntKind.wrap_i64]; omega
   refine wg rfl ?_; simp only [go_sem, hw]; try simp only [go_sem, lQ]
   refine ⟨i + 1, by omega, by omega, [], ?_⟩
   simp only [go_sem, AObj.bel, AObj.ren, AV.ren, aA, sg, dkA] <;> simp [hst]
 have hge : qs.length ≤ i := by simp at hc1; omega
 have hie : i = qs.length := by omega
 subst hie; rw [List.take_length]; refine we ?_; try simp only [go_sem, lQ]
 apply k2; refine sr rfl fun _ J => ?_; simp only [go_sem]; apply J; refine wR ?_
 refine fO ?_ (diskAV_b _ _)
 simp only [go_sem, dkA]
theorem w_impl_storeWrite (s : Store) (b : List Entry) (hs : bE s) (hb : bT b) (hl : b.length ≤ 1048576) (hq : s.up = true → 0 ≤ s.tree.seq ∧ s.tree.seq ≤ 100000) (hlog : s.disk.log.size ≤ 12000) : aB P 35 [stA s, .sl 5 (b.map enA)] [] 0 (.tup [stA (swI s b).1, .raw (.bool (swI s b).2)]) := by
 refine pw (N := 53) (vs := [.cell 4 40, .tmp 5]) ⟨Tryz.func35, rfl, rfl⟩ rfl rfl (by simp) ?_
 simp only [eE, stA]
 have hmx : maxLen = 9223372036854775807 := rfl
 refine sr rfl fun _ J => ?_; simp only [go_sem]; apply J; refine sq fun _ k2 => ?_; refine sr rfl fun _ J => ?_; simp only [go_sem]; apply J
 refine cd rfl (fun hc1 => ?_) fun hc1 => ?_
 · have hup : s.up = false := by simpa using hc1
   have h9 : swI s b = (s, false) := by unfold swI; rw [if_pos hup]
   refine sr rfl fun _ J => ?_; simp only [go_sem]; apply J; refine wR ?_
   refine fO ?_ ⟨aV _ _, trivial, trivial⟩
   simp only [go_sem, h9, stA]
 have hup : s.up = true := by simpa using hc1
 refine wk ?_; apply k2; refine sr rfl fun _ k5 => ?_; simp only [go_sem]
 refine vp rfl rfl rfl ⟨Tryz.func70, rfl, rfl⟩ (w_impl_treeWrite s.tree b hb hl (by have := hs.1.1.1; omega) (hq hup).1 (hq hup).2) (by simp only [go_sem, trA]) (by simp only [go_sem, trA]) ?_
 simp only [go_sem, trA]; apply k5; refine sq fun _ k6 => ?_; refine sr rfl fun _ J => ?_; simp only [go_sem]; apply J
 refine cd rfl (fun hc2 => ?_) fun hc2 => ?_
 · have hw : (treeWI s.tree b).2 = false := by simpa using hc2
   have h9 : swI s b = (s, false) := by unfold swI; rw [if_neg (by rw [hup]; simp), if_pos hw]
   refine sr rfl fun _ J => ?_; simp only [go_sem]; apply J; refine wR ?_
   refine fO ?_ ⟨aV _ _, trivial, trivial⟩
   simp only [go_sem, h9, stA]
 have hw : (treeWI s.tree b).2 = true := by simpa using hc2
 refine wk ?_; apply k6; refine sr rfl fun _ k9 => ?_; simp only [go_sem]
 refine vp rfl rfl rfl ⟨Tryz.func71, rfl, rfl⟩ (w_impl_stamped s.tree.seq b hb hl (hq hup).1 (hq hup).2) (by simp only [go_sem]) (by simp only [go_sem]) ?_
 simp only [go_sem]; apply k9
 have hsm := stmpI_small (seq := s.tree.seq) hl
 have hmx : bT (bK s.tree.seq b).1 := ⟨by have := hsm.1; omega, fun e he => ⟨by have := (hsm.2 e he).1; omega, by have := (hsm.2 e he).2; omega⟩⟩
 refine sr rfl fun _ k10 => ?_; simp only [go_sem, uLStep]
 repeat (first | refine ⟨by first | omega | (intro hg; simp at hg; omega), ?_⟩ | fail)
 refine vp rfl rfl rfl ⟨Tryz.func72, rfl, rfl⟩ (w_impl_FrameText (bK s.tree.seq b).1 hmx) (by simp only [go_sem]) (by simp only [go_sem]) ?_
 simp only [go_sem, uLStep]
 repeat (first | refine ⟨by first | omega | (intro hg; simp at hg; omega), ?_⟩ | fail)
 apply k10
 refine aFz 3 rfl ?_
 simp only [go_sem, fzL, AV.fz]
 have hft := frameTxt_size (bK s.tree.seq b).1
 have hdd : stsDo s.disk (List.take 1 [StepI.log (fTx (bK s.tree.seq b).1)]) = stDo s.disk (.log (fTx (bK s.tree.seq b).1)) := rfl
 have hdd2 : stsDo s.disk [StepI.log (fTx (bK s.tree.seq b).1)] = stDo s.disk (.log (fTx (bK s.tree.seq b).1)) := rfl
 have hzz : ∀ i p, (List.take 1 [StepI.log (fTx (bK s.tree.seq b).1)])[i]? = some p → (stsDo s.disk ((List.take 1 [StepI.log (fTx (bK s.tree.seq b).1)]).take i)).log.size + stSz p ≤ 4611686018427387904 := fun i p hp => by
   have hi : i = 0 := by have := (List.getElem?_eq_some_iff.1 hp).1; simp at this; omega
   subst hi; cases hp
   show s.disk.log.size + (fTx (bK s.tree.seq b).1).size ≤ _
   omega
 refine sr rfl fun _ k11 => ?_; simp only [go_sem]
 refine vp rfl rfl rfl ⟨Tryz.func47, rfl, rfl⟩ (w_impl_doSteps s.disk [.log (fTx (bK s.tree.seq b).1)] 1 (by simp) (by simp) hzz) (by simp only [go_sem, dkA, stAV, List.map_cons, List.map_nil]) (by simp only [go_sem, dkA, stAV, List.map_cons, List.map_nil]) ?_
 simp only [go_sem, dkA, hdd, hdd2]; apply k11; refine sq fun _ k12 => ?_; refine sr rfl fun _ J => ?_; simp only [go_sem]; apply J
 refine cd rfl (fun hc3 => ?_) fun hc3 => ?_
 · have hg : 12000 < ((stDo s.disk (.log (fTx (bK s.tree.seq b).1))).log.size : Int) := by simpa using hc3
   have h9 : swI s b = (s, false) := by unfold swI; rw [if_neg (by rw [hup]; simp), if_neg (by rw [hw]; simp), if_pos hg]
   refine sr rfl fun _ J => ?_; simp only [go_sem]; apply J; refine wR ?_
   refine fO ?_ ⟨aV _ _, trivial, trivial⟩
   simp only [go_sem, h9, stA]
 have hg : ¬ 12000 < ((stDo s.disk (.log (fTx (bK s.tree.seq b).1))).log.size : Int) := by simpa using hc3
 have h9 : swI s b = (⟨true, (treeWI s.tree b).1, stDo s.disk (.log (fTx (bK s.tree.seq b).1))⟩, true) := by unfold swI; rw [if_neg (by rw [hup]; simp), if_neg (by rw [hw]; simp), if_neg hg]
 refine wk ?_; apply k12; refine sr rfl fun _ J => ?_; simp only [go_sem]; apply J; refine wR ?_
 refine fO ?_ ⟨aV _ _, trivial, trivial⟩
 simp only [go_sem, h9, stA]
theorem w_impl_StoreWrite_1 (s : Store) (b : List Entry) (hs : bE s) (hb : bT b) (hl : b.length ≤ 1048576) (hq : s.up = true → 0 ≤ s.tree.seq ∧ s.tree.seq ≤ 100000) (hlog : s.disk.log.size ≤ 12000) : aD P 34 [stA s, .ptr 0 0] [(0, .cells 33 [.sl 5 (b.map enA)])] 1 (.tup [stA (swI s b).1, .raw (.bool (swI s b).2)]) [(0, .cells 33 [.sl 5 (b.map enA)])] 1 := by
 refine gw (N := 10) (vs := [.cell 3 40, .tmp 4]) ⟨Tryz.func34, rfl, rfl⟩ rfl rfl (by simp) ?_
 simp only [eE, stA]; refine sr rfl fun _ J => ?_; simp only [go_sem]; apply J; refine sr rfl fun _ k2 => ?_; simp only [go_sem]
 refine vp rfl rfl rfl ⟨Tryz.func35, rfl, rfl⟩ (w_impl_storeWrite s b hs hb hl hq hlog) (by simp only [go_sem, stA]) (by simp only [go_sem, stA]) ?_
 simp only [go_sem, stA]; apply k2; refine wR ?_; refine ⟨[], ?_⟩
 simp only [go_sem, AObj.bel, AObj.ren, AV.ren, aA, sg, stA] <;> simp
theorem ok_log {s : Store} (h : bV s = true) : s.disk.log.size ≤ 12000 := by
  unfold bV at h; split at h
  · cases h
  rename_i h1; exact dkOk_log (by simpa using h1)
theorem ok_mem {s : Store} (h : bV s = true) : s.up = true → s.tree.mem.length ≤ 60 := fun hu => (okI_seq h hu).2.2
theorem swI_s2 {s : Store} {b : List Entry} (hs : bE s) (hb : b.length ≤ 1048576) (hok : bV s = true) : bE (swI s b).1 := by
  cases hu : s.up with
  | false => unfold swI; rw [if_pos hu]; exact hs
  | true => exact swI_s hs hb (by have := ok_mem hok hu; omega)
theorem storeAV_r (σ : Nat → Nat) (s : Store) : (stA s).ren σ = stA s := AV.ren_closed σ (aV _ s)
theorem w_storeDo_w (s : Store) (b : List Entry) (hs : bE s) (hb : bT b) (hl : b.length ≤ 1048576) : aD P 33 [stA s, .fn (.func 34) [] [.ptr 0 0]] [(0, .cells 33 [.sl 5 (b.map enA)])] 1 (.tup [.agg [.raw (.bool (sdI (fun s => swI s b) s).1.up), .raw (.int .i64 (sdI (fun s => swI s b) s).1.tree.seq), .ref 1, .ref 2, .ref 3, .raw (.string (sdI (fun s => swI s b) s).1.disk.log), .raw (.int .i64 (sdI (fun s => swI s b) s).1.disk.safe), .ref 4, .raw (.int .i64 (sdI (fun s => swI s b) s).1.disk.seq)], .raw (.bool (sdI (fun s => swI s b) s).2)]) [(0, .cells 33 [.sl 5 (b.map enA)]), (1, .row 65 5 ((sdI (fun s => swI s b) s).1.tree.mem.map enA)), (2, .row 107 1 ((sdI (fun s => swI s b) s).1.tree.levels.map rsO)), (3, .row 3 1 ((sdI (fun s => swI s b) s).1.tree.snaps.map inA)), (4, .row 107 1 ((sdI (fun s => swI s b) s).1.disk.levels.map rsO))] 5 := by
 refine gw (N := 24) (vs := [.cell 4 40, .tmp 5]) ⟨Tryz.func33, rfl, rfl⟩ rfl rfl (by simp) ?_
 simp only [eE, stA]; refine sr rfl fun _ J => ?_; simp only [go_sem]; apply J; refine sq fun _ k2 => ?_; refine sr rfl fun _ k3 => ?_; simp only [go_sem]
 refine vp rfl rfl rfl ⟨Tryz.func68, rfl, rfl⟩ (w_StoreOk s hs) (by simp only [go_sem, stA]) (by simp only [go_sem, stA]) ?_
 simp only [go_sem]; apply k3
 refine cd rfl (fun hc1 => ?_) fun hc1 => ?_
 · have hok : bV s = false := by simpa using hc1
   have h9 : sdI (fun s => swI s b) s = (zStore, false) := by unfold sdI; rw [if_pos hok]
   refine sr rfl fun _ J => ?_; simp only [go_sem]; apply J
   refine awp_nilC (i := 2) (j := 2) 65 5 rfl rfl (by decide) ?_
   simp only [go_sem, List.set_cons_succ, List.set_cons_zero]
   refine awp_nilC (i := 2) (j := 3) 107 1 rfl rfl (by decide) ?_
   simp only [go_sem, List.set_cons_succ, List.set_cons_zero]
   refine awp_nilC (i := 2) (j := 4) 3 1 rfl rfl (by decide) ?_
   simp only [go_sem, List.set_cons_succ, List.set_cons_zero]
   refine awp_nilC (i := 2) (j := 7) 107 1 rfl rfl (by decide) ?_
   simp only [go_sem, List.set_cons_succ, List.set_cons_zero]; refine wR ?_
   refine ⟨[(1, 3), (2, 4), (3, 5), (4, 6)], ?_⟩
   simp only [go_sem, AObj.bel, AObj.ren, AV.ren, aA, sg, h9, zStore, zTree, zDisk, List.map_nil] <;> simp
 have hok : bV s = true := by simpa using hc1
 have hlog := ok_log hok
 have hq : s.up = true → 0 ≤ s.tree.seq ∧ s.tree.seq ≤ 100000 := fun hu => ⟨(okI_seq hok hu).1, (okI_seq hok hu).2.1⟩
 refine wk ?_; apply k2; refine sr rfl fun _ k5 => ?_; simp only [go_sem]
 refine vC (fun hN => lstep_callFn [] 0 (xs := [stA s]) rfl rfl rfl rfl ⟨Tryz.func34, rfl, rfl⟩ hN (w_impl_StoreWrite_1 s b hs hb hl hq hlog) rfl (by simp only [go_sem, stA]) (by simp only [go_sem, AV.ren, aA, storeAV_r] <;> rfl) (by simp only [go_sem, aV]) (fit1 (H1 := []) (.inl rfl) (by simp only [go_sem]) (by simp only [go_sem, AObj.bel]))) (.inl rfl) ?_
 simp only [go_sem, AV.ren, AObj.ren, aA, shift, sg, Nat.le_refl, Nat.add_zero, Nat.sub_self, stA]; apply k5; refine sq fun _ k6 => ?_; refine sr rfl fun _ J => ?_; simp only [go_sem]; apply J
 refine cd rfl (fun hc2 => ?_) fun hc2 => ?_
 · have hf : ((fun s => swI s b) s).2 = false := by simpa using hc2
   have h9 : sdI (fun s => swI s b) s = (s, false) := by unfold sdI; rw [if_neg (by rw [hok]; simp), if_pos hf]
   refine sr rfl fun _ k8 => ?_; simp only [go_sem]
   refine vn 4 rfl rfl rfl ⟨Tryz.func69, rfl, rfl⟩ (w_impl_storeCopy_o s hs) (by simp only [go_sem, stA]) (by simp only [go_sem, stA]) (by simp) (by decide) ?_
   simp only [go_sem, AV.ren, AObj.ren, aA, shift, sg, Nat.le_refl, Nat.add_zero, Nat.sub_self]; apply k8; refine wR ?_
   refine ⟨[(1, 4), (2, 5), (3, 6), (4, 7)], ?_⟩
   simp only [go_sem, AObj.bel, AObj.ren, AV.ren, aA, sg, h9] <;> simp
 have hf : ((fun s => swI s b) s).2 = true := by simpa using hc2
 have h9 : sdI (fun s => swI s b) s = (((fun s => swI s b) s).1, true) := by unfold sdI; rw [if_neg (by rw [hok]; simp), if_neg (by rw [hf]; simp)]
 refine wk ?_; apply k6; refine sr rfl fun _ k9 => ?_; simp only [go_sem]
 refine vn 4 rfl rfl rfl ⟨Tryz.func69, rfl, rfl⟩ (w_impl_storeCopy_o ((fun s => swI s b) s).1 (swI_s2 hs hl hok)) (by simp only [go_sem, stA]) (by simp only [go_sem, stA]) (by simp) (by decide) ?_
 simp only [go_sem, AV.ren, AObj.ren, aA, shift, sg, Nat.le_refl, Nat.add_zero, Nat.sub_self]; apply k9; refine wR ?_
 refine ⟨[(1, 4), (2, 5), (3, 6), (4, 7)], ?_⟩
 simp only [go_sem, AObj.bel, AObj.ren, AV.ren, aA, sg, h9] <;> simp
theorem w_impl_StoreWrite (s : Store) (b : List Entry) (hs : bE s) (hb : bT b) (hl : b.length ≤ 1048576) : aD P 12 [stA s, .sl 5 (b.map enA)] [] 0 (.tup [.agg [.raw (.bool (sdI (fun s => swI s b) s).1.up), .raw (.int .i64 (sdI (fun s => swI s b) s).1.tree.seq), .ref 0, .ref 1, .ref 2, .raw (.string (sdI (fun s => swI s b) s).1.disk.log), .raw (.int .i64 (sdI (fun s => swI s b) s).1.disk.safe), .ref 3, .raw (.int .i64 (sdI (fun s => swI s b) s).1.disk.seq)], .raw (.bool (sdI (fun s => swI s b) s).2)]) [(0, .row 65 5 ((sdI (fun s => swI s b) s).1.tree.mem.map enA)), (1, .row 107 1 ((sdI (fun s => swI s b) s).1.tree.levels.map rsO)), (2, .row 3 1 ((sdI (fun s => swI s b) s).1.tree.snaps.map inA)), (3, .row 107 1 ((sdI (fun s => swI s b) s).1.disk.levels.map rsO))] 4 := by
 refine gw (N := 11) (vs := [.cell 4 40, .tmp 5]) ⟨Tryz.func12, rfl, rfl⟩ rfl rfl (by simp) ?_
 simp only [eE, stA]; refine sr rfl fun _ J => ?_; simp only [go_sem]; apply J; refine sr rfl fun _ k2 => ?_; simp only [go_sem]
 refine vg [(0, 1)] 4 rfl rfl rfl ⟨Tryz.func33, rfl, rfl⟩ (w_storeDo_w s b hs hb hl) rfl (by simp only [go_sem, AV.ren, aA, sg, storeAV_r] <;> simp [stA, Abs.get]) (by simp only [go_sem, aV]) (fit1w (.inr ⟨1, rfl⟩) (by simp only [go_sem, sg, AObj.ren, AV.ren, aA] <;> simp [Abs.get]) (by simp only [go_sem, AObj.bel]) (by simp) rfl (by decide)) (.inr (by decide)) ?_
 simp only [go_sem, AV.ren, AObj.ren, aA, shift, sg, Nat.le_refl, Nat.add_zero, Nat.sub_self]; apply k2; refine wR ?_
 refine ⟨[(0, 3), (1, 4), (2, 5), (3, 6)], ?_⟩
 simp only [go_sem, AObj.bel, AObj.ren, AV.ren, aA, sg] <;> simp
theorem w_FrameRead_s (s : ByteArray) (hs : s.size ≤ 1048576) : aB P 102 [.raw (.string s)] [] 0 (.tup [.sl 1 ((cN s).1.map esA), .raw (.int .i64 (cN s).2)]) :=
  cQ (w_spec_FrameRead_o s hs) (by simp only [go_sem, entsAV_fz]) (by simp only [go_sem])
theorem w_CopyLevels_s (ls : List (List Run)) (hs : sLvs ls) : aB P 48 [.sl 1 (ls.map rsA)] [] 0 (.sl 1 (ls.map rsA)) :=
  cQ (w_spec_l5CopyLevels_o ls hs) (by simp only [go_sem]) (by simp only [go_sem])
theorem w_TreeOk_sd (d : Disk) (hs : sLvs d.levels) : aB P 58 [.agg [.raw (.int .i64 d.seq), .raw (.slice none 0 0), .sl 1 (d.levels.map rsA), .raw (.slice none 0 0)]] [] 0 (.raw (.bool (bU ⟨d.seq, [], d.levels, []⟩))) :=
  (w_spec_TreeOk ⟨d.seq, [], d.levels, []⟩ ⟨⟨by simp, by simp⟩, hs, by simp⟩).args_le (LeL.cons (Le.aggL (LeL.cons (.refl _) (LeL.cons (.nil _) (LeL.cons (.refl _) (LeL.cons (.nil _) LeL.nil))))) LeL.nil) ⟨treeAV_b _ _, trivial⟩
theorem w_TreeSame_sz (t : Tree) (hs : sTree t) : aB P 60 [trA t, .agg [.raw (.int .i64 0), .raw (.slice none 0 0), .raw (.slice none 0 0), .raw (.slice none 0 0)]] [] 0 (.raw (.bool (treeSame t zTree))) :=
  (w_spec_TreeSame t zTree (mxTree_of hs)).args_le (LeL.cons (.refl _) (LeL.cons (Le.aggL (LeL.cons (.refl _) (LeL.cons (.nil _) (LeL.cons (.nil _) (LeL.cons (.nil _) LeL.nil))))) LeL.nil)) ⟨treeAV_b _ _, treeAV_b _ _, trivial⟩
theorem readS_bat {s : ByteArray} (hs : s.size ≤ 1048576) : (cN s).1.length ≤ 1048576 ∧ (∀ b ∈ (cN s).1, b.length ≤ 1048576) ∧ ∀ b ∈ (cN s).1, sEnts b ∧ 1 ≤ b.length := by
  obtain ⟨h1, h2⟩ := readS_ok hs
  exact ⟨by omega, fun b hb => by have := (isBatch_small (h1 b hb)).2.2; omega, fun b hb => ⟨(isBatch_small (h1 b hb)).1, (isBatch_small (h1 b hb)).2.1⟩⟩
theorem frameS_txt (s : ByteArray) (a : Nat) (h : 0 ≤ (aR s a).2) : (fTx (aR s a).1).toList = (s.extract a (aR s a).2.toNat).toList := by
  have hf : aR s a = if frameBadAt s a = true then ([], -1) else if (!((fTx (frBody s a)).toList == (s.extract a ((aT s (a : Int)).2 + (aT s (a : Int)).1 + 1).toNat).toList)) = true then ([], -1) else (frBody s a, (aT s (a : Int)).2 + (aT s (a : Int)).1 + 1) := rfl
  rw [hf] at h ⊢
  split
  · rename_i hb; rw [if_pos hb] at h; simp at h
  rename_i hb
  rw [if_neg hb] at h; split
  · rename_i hc; rw [if_pos hc] at h; simp at h
  rename_i hc
  simpa using hc
theorem toList_size (x : ByteArray) : x.toList.length = x.size := by rw [ByteArray.toList_eq]; rfl
def frSum (bs : List (List Entry)) : Nat := (bs.map fun b => (fTx b).size).sum
theorem frSum_app (a b : List (List Entry)) : frSum (a ++ b) = frSum a + frSum b := by simp [frSum]
theorem readGo_sum (s : ByteArray) : ∀ (f a : Nat) (out : List (List Entry)), frSum out ≤ a → a ≤ s.size → frSum (readGo s f a out).1 ≤ s.size
  | 0, a, out, h, ha => by simp only [readGo]; omega
  | f + 1, a, out, h, ha => by
    unfold readGo; split
    · split
      · simp only; omega
      rename_i hn
      have h1 := frameS_gt s a (by omega)
      have h2 := frameS_le s a
      have h3 := congrArg List.length (frameS_txt s a (by omega))
      rw [toList_size, toList_size, extract_size s _ _ (by omega)] at h3
      refine readGo_sum s f _ _ ?_ (by omega)
      rw [frSum_app]
      simp only [frSum, List.map_cons, List.map_nil, List.sum_cons, List.sum_nil] at h ⊢
      omega
    simp only; omega
theorem leftS_size : ∀ (bs : List (List Entry)) (seq : Int) (out : ByteArray), (bs.foldl (bM seq) out).size ≤ out.size + frSum bs
  | [], seq, out => by simp [frSum]
  | b :: r, seq, out => by
    have h1 := leftS_size r seq (bM seq out b)
    have h2 : (bM seq out b).size ≤ out.size + (fTx b).size := by
      unfold bM; split
      · rw [ByteArray.size_append]; omega
      omega
    simp only [List.foldl_cons, frSum, List.map_cons, List.sum_cons] at h1 ⊢
    omega
theorem openS_lg (s : Store) (h : s.disk.log.size ≤ 12000) : (openS s).disk.log.size ≤ 12000 := by
  have h1 := leftS_size (cN s.disk.log).1 s.disk.seq ⟨#[]⟩
  have h2 := readGo_sum s.disk.log s.disk.log.size 0 [] (by simp [frSum]) (Nat.zero_le _)
  have h3 : (⟨#[]⟩ : ByteArray).size = 0 := rfl
  show (leftS (cN s.disk.log).1 s.disk.seq).size ≤ _
  unfold leftS
  unfold cN at h1 ⊢
  omega
theorem sStore_openS {s : Store} (hs : bE s) (hlog : s.disk.log.size ≤ 12000) : bE (openS s) := by
  have h0 := readS_ok (s := s.disk.log) (by omega)
  have h1 := memS_small (bs := (cN s.disk.log).1) s.disk.seq h0.1
  have h3 := h0.2
  have h2 := hs.2
  unfold bE sTree openS
  generalize memS (cN s.disk.log).1 s.disk.seq = f at h1 ⊢
  exact ⟨⟨⟨by show f.1.length ≤ _; omega, h1.2⟩, h2, Nat.zero_le _⟩, h2⟩
theorem w_spec_l6Open (s : Store) (hs : bE s) (hlog : s.disk.log.size ≤ 1048576) : aB P 61 [stA s] [] 0 (stA (openS s)) := by
 refine pw (N := 45) (vs := [.cell 2 40]) ⟨Tryz.func61, rfl, rfl⟩ rfl rfl (by simp) ?_
 simp only [eE, stA]
 have hrb := readS_bat hlog
 obtain ⟨hrb1, hrb2, hrb3⟩ := hrb
 refine sr rfl fun _ J => ?_; simp only [go_sem]; apply J; refine sr rfl fun _ k2 => ?_; simp only [go_sem]
 refine vp rfl rfl rfl ⟨Tryz.func102, rfl, rfl⟩ (w_FrameRead_s s.disk.log hlog) (by simp only [go_sem]) (by simp only [go_sem]) ?_
 simp only [go_sem]; apply k2; refine sr rfl fun _ k3 => ?_; simp only [go_sem]
 refine vp rfl rfl rfl ⟨Tryz.func103, rfl, rfl⟩ (w_spec_l6Mem (cN s.disk.log).1 s.disk.seq hrb1 hrb2) (by simp only [go_sem]) (by simp only [go_sem]) ?_
 simp only [go_sem]; apply k3; refine sr rfl fun _ J => ?_; simp only [go_sem]; apply J; refine sr rfl fun _ k5 => ?_; simp only [go_sem]
 refine vp rfl rfl rfl ⟨Tryz.func106, rfl, rfl⟩ (w_spec_l6Left (cN s.disk.log).1 s.disk.seq hrb1 hrb3) (by simp only [go_sem]) (by simp only [go_sem]) ?_
 simp only [go_sem]; apply k5; refine sr rfl fun _ J => ?_; simp only [go_sem]; apply J; refine sr rfl fun _ k7 => ?_; simp only [go_sem]
 refine vp rfl rfl rfl ⟨Tryz.func48, rfl, rfl⟩ (w_CopyLevels_s s.disk.levels hs.2) (by simp only [go_sem]) (by simp only [go_sem]) ?_
 simp only [go_sem]; apply k7; refine sr rfl fun _ J => ?_; simp only [go_sem]; apply J
 refine awp_cellsLe 1 (ds := [.raw (.bool true), .raw (.int .i64 (memS (cN s.disk.log).1 s.disk.seq).2), .sl 5 ((memS (cN s.disk.log).1 s.disk.seq).1.map enA), .sl 1 (s.disk.levels.map rsA), .sl 1 [], .raw (.string (leftS (cN s.disk.log).1 s.disk.seq)), .raw (.int .i64 ((leftS (cN s.disk.log).1 s.disk.seq).size : Int)), .sl 1 (s.disk.levels.map rsA), .raw (.int .i64 s.disk.seq)]) rfl (by repeat (first | exact LeL.nil | refine LeL.cons (by first | exact Le.refl _ | exact Le.nil _) ?_)) (by simp only [go_sem]) ?_
 simp only [go_sem]; refine wR ?_
 refine fO ?_ (aV _ _)
 simp only [go_sem, openS, stA, List.map_nil]
theorem w_spec_l6Up (s : Store) (hs : bE s) (hlog : s.disk.log.size ≤ 1048576) : aB P 59 [stA s] [] 0 (.raw (.bool (upS s))) := by
 refine pw (N := 71) (vs := [.tmp 2]) ⟨Tryz.func59, rfl, rfl⟩ rfl rfl (by simp) ?_
 simp only [eE, stA]
 have hrb := readS_bat hlog
 obtain ⟨hrb1, hrb2, hrb3⟩ := hrb
 refine sr rfl fun _ J => ?_; simp only [go_sem]; apply J; refine sq fun _ k2 => ?_; refine sr rfl fun _ k3 => ?_; simp only [go_sem]
 refine vp rfl rfl rfl ⟨Tryz.func58, rfl, rfl⟩ (w_spec_TreeOk s.tree hs.1) (by simp only [go_sem, trA]) (by simp only [go_sem, trA]) ?_
 simp only [go_sem]
 refine vpg rfl rfl rfl rfl rfl rfl ⟨Tryz.func101, rfl, rfl⟩ (fun hg => w_spec_l5Levels s.disk.levels s.tree.levels (mxLvs_of hs.2)) (by simp only [go_sem]) (fun hg => (by simp only [go_sem])) (by simp only [go_sem]) trivial ?_
 simp only [go_sem]; apply k3
 refine cd rfl (fun hc1 => ?_) fun hc1 => ?_
 · have h9 : upS s = false := by unfold upS; rw [if_pos (show upBad s = true from hc1)]
   refine sr rfl fun _ J => ?_; simp only [go_sem]; apply J; refine wR ?_; refine fO ?_ trivial; simp only [go_sem, h9]
 have h9 : upS s = ((decide ((cN s.disk.log).2 = (s.disk.log.size : Int)) && decide ((memS (cN s.disk.log).1 s.disk.seq).1 = s.tree.mem)) && decide ((memS (cN s.disk.log).1 s.disk.seq).2 = s.tree.seq)) := by unfold upS; rw [show upBad s = false from hc1, if_neg (by simp)]
 refine wk ?_; apply k2; refine sr rfl fun _ k5 => ?_; simp only [go_sem]
 refine vp rfl rfl rfl ⟨Tryz.func102, rfl, rfl⟩ (w_FrameRead_s s.disk.log hlog) (by simp only [go_sem]) (by simp only [go_sem]) ?_
 simp only [go_sem]; apply k5; refine sr rfl fun _ k6 => ?_; simp only [go_sem]
 refine vp rfl rfl rfl ⟨Tryz.func103, rfl, rfl⟩ (w_spec_l6Mem (cN s.disk.log).1 s.disk.seq hrb1 hrb2) (by simp only [go_sem]) (by simp only [go_sem]) ?_
 simp only [go_sem]; apply k6; refine sr rfl fun _ k7 => ?_; simp only [go_sem]
 refine vpg rfl rfl rfl rfl rfl rfl ⟨Tryz.func104, rfl, rfl⟩ (fun hg => w_spec_l4Same (memS (cN s.disk.log).1 s.disk.seq).1 s.tree.mem (by have := (memS_small (bs := (cN s.disk.log).1) s.disk.seq (readS_ok hlog).1).1; omega)) (by simp only [go_sem]) (fun hg => (by simp only [go_sem])) (by simp only [go_sem]) trivial ?_
 simp only [go_sem]; apply k7; refine wR ?_; refine fO ?_ trivial; simp only [go_sem, h9]
theorem w_spec_StoreOk (s : Store) (hs : bE s) (hlg : s.disk.log.size ≤ 1048576) : aB P 27 [stA s] [] 0 (.raw (.bool (bJ s))) := by
 refine pw (N := 46) (vs := [.tmp 2]) ⟨Tryz.func27, rfl, rfl⟩ rfl rfl (by simp) ?_
 simp only [eE, stA]; refine sr rfl fun _ J => ?_; simp only [go_sem]; apply J; refine sq fun _ k2 => ?_; refine sr rfl fun _ J => ?_; simp only [go_sem]; apply J
 refine cd rfl (fun hc1 => ?_) fun hc1 => ?_
 · have h9 : bJ s = false := by unfold bJ; rw [if_pos (show diskBad s = true from hc1)]
   refine sr rfl fun _ J => ?_; simp only [go_sem]; apply J; refine wR ?_; refine fO ?_ trivial; simp only [go_sem, h9]
 have hd : diskBad s = false := hc1
 have hlog : s.disk.log.size ≤ 12000 := by unfold diskBad at hd; simp at hd; omega
 refine wk ?_; apply k2; refine sq fun _ k5 => ?_; refine sr rfl fun _ k6 => ?_; simp only [go_sem]
 refine vp rfl rfl rfl ⟨Tryz.func58, rfl, rfl⟩ (w_TreeOk_sd s.disk hs.2) (by simp only [go_sem]) (by simp only [go_sem]) ?_
 simp only [go_sem]; apply k6
 refine cd rfl (fun hc2 => ?_) fun hc2 => ?_
 · have ht : bU ⟨s.disk.seq, [], s.disk.levels, []⟩ = false := by simpa using hc2
   have h9 : bJ s = false := by unfold bJ; rw [hd, if_neg (by simp), if_pos ht]
   refine sr rfl fun _ J => ?_; simp only [go_sem]; apply J; refine wR ?_; refine fO ?_ trivial; simp only [go_sem, h9]
 have ht : bU ⟨s.disk.seq, [], s.disk.levels, []⟩ = true := by simpa using hc2
 refine wk ?_; apply k5; refine sq fun _ k8 => ?_; refine sr rfl fun _ J => ?_; simp only [go_sem]; apply J
 refine cd rfl (fun hc3 => ?_) fun hc3 => ?_
 · have hup : s.up = true := hc3
   have h9 : bJ s = upS s := by unfold bJ; rw [hd, if_neg (by simp), if_neg (by rw [ht]; simp), if_pos hup]
   refine sr rfl fun _ k10 => ?_; simp only [go_sem]
   refine vp rfl rfl rfl ⟨Tryz.func59, rfl, rfl⟩ (w_spec_l6Up s hs (by omega)) (by simp only [go_sem, stA]) (by simp only [go_sem, stA]) ?_
   simp only [go_sem]; apply k10; refine wR ?_; refine fO ?_ trivial; simp only [go_sem, h9]
 have hup : s.up = false := hc3
 have h9 : bJ s = (treeSame s.tree zTree && upS (openS s)) := by unfold bJ; rw [hd, if_neg (by simp), if_neg (by rw [ht]; simp), if_neg (by rw [hup]; simp)]
 have hos := sStore_openS hs hlog
 have hol := openS_lg s hlog
 refine wk ?_; apply k8; refine sr rfl fun _ k11 => ?_; simp only [go_sem]
 refine vp rfl rfl rfl ⟨Tryz.func60, rfl, rfl⟩ (w_TreeSame_sz s.tree hs.1) (by simp only [go_sem, trA]) (by simp only [go_sem, trA]) ?_
 simp only [go_sem]
 refine vpg rfl rfl rfl rfl rfl rfl ⟨Tryz.func61, rfl, rfl⟩ (fun hg => w_spec_l6Open s hs (by omega)) (by simp only [go_sem]) (fun hg => (by simp only [go_sem, stA])) (by simp only [go_sem, stA]) (aV _ _) ?_
 simp only [go_sem]
 refine vpg rfl rfl rfl rfl rfl rfl ⟨Tryz.func59, rfl, rfl⟩ (fun hg => w_spec_l6Up (openS s) hos (by omega)) (by simp only [go_sem]) (fun hg => (by simp only [go_sem, stA])) (by simp only [go_sem, stA]) trivial ?_
 simp only [go_sem]; apply k11; refine wR ?_; refine fO ?_ trivial; simp only [go_sem, h9]
theorem okS_log {s : Store} (h : bJ s = true) : s.disk.log.size ≤ 12000 := by
  unfold bJ at h; split at h
  · cases h
  rename_i hd
  unfold diskBad at hd; simp at hd; omega
theorem okS_seq {s : Store} (h : bJ s = true) (hu : s.up = true) : bU s.tree = true := by
  unfold bJ at h; rw [if_pos hu] at h; split at h
  · cases h
  split at h
  · cases h
  unfold upS at h; split at h
  · cases h
  rename_i hb
  unfold upBad at hb
  simp only [Bool.or_eq_true, not_or] at hb
  have := hb.1.1.1
  simpa using this
theorem treeOkS_seq {t : Tree} (h : bU t = true) : 0 ≤ t.seq ∧ t.seq ≤ 100000 ∧ t.mem.length ≤ 60 := by
  unfold bU at h; split at h
  · cases h
  rename_i hb
  unfold treeBadS at hb; simp at hb; omega
theorem copyS_seq {s : Store} (h : bJ s = true) : 0 ≤ (copyS s).tree.seq ∧ (copyS s).tree.seq ≤ 100000 := by
  unfold copyS; split
  · rename_i hu
    have := treeOkS_seq (okS_seq h hu)
    exact ⟨this.1, this.2.1⟩
  exact ⟨Int.le_refl _, by show zTree.seq ≤ 100000; decide⟩
theorem copyS_s {s : Store} (h : bE s) : bE (copyS s) := by
  unfold copyS; split
  · exact h
  exact ⟨⟨⟨Nat.zero_le _, fun e he => by cases he⟩, ⟨Nat.zero_le _, fun e he => by cases he⟩, Nat.zero_le _⟩, h.2⟩
theorem copyS_log (s : Store) : (copyS s).disk.log = s.disk.log := by unfold copyS; split <;> rfl
theorem w_spec_l6Write (s : Store) (b : List Entry) (hs : bE s) (hb : bT b) (hl : b.length ≤ 1048576) (h0 : 0 ≤ s.tree.seq) (h1 : s.tree.seq ≤ 100000) (hlog : s.disk.log.size ≤ 12000) : aB P 28 [stA s, .sl 5 (b.map enA)] [] 0 (.tup [stA (write6S s b).1, .raw (.bool (write6S s b).2)]) := by
 refine pw (N := 51) (vs := [.cell 4 40, .tmp 5]) ⟨Tryz.func28, rfl, rfl⟩ rfl rfl (by simp) ?_
 simp only [eE, stA]
 have hsm := stampS_small (seq := s.tree.seq) hl
 have hmx : bT (aI b s.tree.seq).1 := ⟨by have := hsm.1; omega, fun e he => ⟨by have := (hsm.2 e he).1; omega, by have := (hsm.2 e he).2; omega⟩⟩
 have hft := frameTxt_size (aI b s.tree.seq).1
 have hwb : write6Bad s b = (!s.up || !(writeS s.tree b).2 || decide (12000 < ((s.disk.log.size + (fTx (aI b s.tree.seq).1).size : Nat) : Int))) := by unfold write6Bad; rw [ByteArray.size_append]
 refine sr rfl fun _ J => ?_; simp only [go_sem]; apply J; refine sr rfl fun _ k2 => ?_; simp only [go_sem]
 refine vp rfl rfl rfl ⟨Tryz.func62, rfl, rfl⟩ (w_spec_l5Stamp b s.tree.seq hb hl h0 h1) (by simp only [go_sem]) (by simp only [go_sem]) ?_
 simp only [go_sem]; apply k2; refine sr rfl fun _ k3 => ?_; simp only [go_sem]
 refine vp rfl rfl rfl ⟨Tryz.func63, rfl, rfl⟩ (w_spec_l5Write s.tree b hb hl (by have := hs.1.1.1; omega) h0 h1) (by simp only [go_sem, trA]) (by simp only [go_sem, trA]) ?_
 simp only [go_sem, trA]; apply k3; refine sd mixed rfl fun _ k4 => ?_; simp only [go_sem]
 refine tp rfl rfl rfl ⟨Tryz.func64, rfl, rfl⟩ (w_spec_FrameText (aI b s.tree.seq).1 hmx) (by simp only [go_sem]) (by simp only [go_sem]) ?_
 simp only [go_sem]
 refine ⟨by omega, ?_⟩
 refine ⟨by rfl, ?_⟩; apply k4; refine sq fun _ k5 => ?_; refine sr rfl fun _ J => ?_; simp only [go_sem]; apply J
 refine cd rfl (fun hc1 => ?_) fun hc1 => ?_
 · have h9 : write6S s b = (s, false) := by unfold write6S; rw [if_pos (hwb.trans hc1)]
   refine sr rfl fun _ J => ?_; simp only [go_sem]; apply J; refine wR ?_
   refine fO ?_ ⟨aV _ _, trivial, trivial⟩
   simp only [go_sem, h9, stA]
 have h9 : write6S s b = (⟨s.up, (writeS s.tree b).1, { s.disk with log := s.disk.log ++ fTx (aI b s.tree.seq).1 }⟩, true) := by unfold write6S; rw [hwb.trans hc1, if_neg (by simp)]
 refine wk ?_; apply k5; refine sr rfl fun _ J => ?_; simp only [go_sem]; apply J; refine sr rfl fun _ k9 => ?_; simp only [go_sem]; apply k9; refine sr rfl fun _ J => ?_; simp only [go_sem]; apply J; refine wR ?_
 refine fO ?_ ⟨aV _ _, trivial, trivial⟩
 simp only [go_sem, h9, stA]
theorem w_spec_StoreWrite (s : Store) (b : List Entry) (hs : bE s) (hb : bT b) (hl : b.length ≤ 1048576) (hlg : s.disk.log.size ≤ 1048576) : aB P 9 [stA s, .sl 5 (b.map enA)] [] 0 (.tup [stA (bD s b).1, .raw (.bool (bD s b).2)]) := by
 refine pw (N := 24) (vs := [.cell 4 40, .tmp 5]) ⟨Tryz.func9, rfl, rfl⟩ rfl rfl (by simp) ?_
 simp only [eE, stA]; refine sr rfl fun _ J => ?_; simp only [go_sem]; apply J; refine sq fun _ k2 => ?_; refine sr rfl fun _ k3 => ?_; simp only [go_sem]
 refine vp rfl rfl rfl ⟨Tryz.func27, rfl, rfl⟩ (w_spec_StoreOk s hs hlg) (by simp only [go_sem, stA]) (by simp only [go_sem, stA]) ?_
 simp only [go_sem]; apply k3
 refine cd rfl (fun hc1 => ?_) fun hc1 => ?_
 · have hok : bJ s = false := by simpa using hc1
   have h9 : bD s b = (zStore, false) := by unfold bD; rw [if_pos hok]
   refine sr rfl fun _ J => ?_; simp only [go_sem]; apply J
   refine awp_cellsLe 1 (ds := [.raw (.bool false), .raw (.int .i64 0), .sl 5 [], .sl 1 [], .sl 1 [], .raw (.string ⟨#[]⟩), .raw (.int .i64 0), .sl 1 [], .raw (.int .i64 0)]) rfl (by repeat (first | exact LeL.nil | refine LeL.cons (by first | exact Le.refl _ | exact Le.nil _) ?_)) (by simp only [go_sem]) ?_
   simp only [go_sem]; refine wR ?_
   refine fO ?_ ⟨aV _ _, trivial, trivial⟩
   simp only [go_sem, h9, stA, zStore, zTree, zDisk, List.map_nil]
 have hok : bJ s = true := by simpa using hc1
 refine wk ?_; apply k2; refine sr rfl fun _ k5 => ?_; simp only [go_sem]
 refine vp rfl rfl rfl ⟨Tryz.func29, rfl, rfl⟩ (w_spec_l6Copy s hs) (by simp only [go_sem, stA]) (by simp only [go_sem, stA]) ?_
 simp only [go_sem, stA]
 refine vp rfl rfl rfl ⟨Tryz.func28, rfl, rfl⟩ (w_spec_l6Write (copyS s) b (copyS_s hs) hb hl (copyS_seq hok).1 (copyS_seq hok).2 (by rw [copyS_log]; exact okS_log hok)) (by simp only [go_sem, stA]) (by simp only [go_sem, stA]) ?_
 simp only [go_sem, stA]; apply k5; refine sq fun _ k6 => ?_; refine sr rfl fun _ J => ?_; simp only [go_sem]; apply J
 refine cd rfl (fun hc2 => ?_) fun hc2 => ?_
 · have hw : (write6S (copyS s) b).2 = false := by simpa using hc2
   have h9 : bD s b = (copyS s, false) := by unfold bD; rw [if_neg (by rw [hok]; simp), if_pos hw]
   refine sr rfl fun _ k8 => ?_; simp only [go_sem]
   refine vp rfl rfl rfl ⟨Tryz.func29, rfl, rfl⟩ (w_spec_l6Copy s hs) (by simp only [go_sem, stA]) (by simp only [go_sem, stA]) ?_
   simp only [go_sem, stA]; apply k8; refine wR ?_
   refine fO ?_ ⟨aV _ _, trivial, trivial⟩
   simp only [go_sem, h9, stA]
 have hw : (write6S (copyS s) b).2 = true := by simpa using hc2
 have h9 : bD s b = ((write6S (copyS s) b).1, true) := by unfold bD; rw [if_neg (by rw [hok]; simp), if_neg (by rw [hw]; simp)]
 refine wk ?_; apply k6; refine sr rfl fun _ J => ?_; simp only [go_sem]; apply J; refine wR ?_
 refine fO ?_ ⟨aV _ _, trivial, trivial⟩
 simp only [go_sem, h9, stA]
section
variable {s : ByteArray} {a : Nat}
theorem fg_mem (seq : Int) (bs : List (List Entry)) : memS bs seq = freshI bs seq := by
  have step : ∀ (st : List Entry × Int) (e : Entry), memStep seq (bY st.1, st.2) e = (bY (fgStep seq st e).1, (fgStep seq st e).2) := fun st e => by
    unfold memStep fgStep; split
    · simp [bY, List.foldl_append]
    rfl
  have row : ∀ (b : List Entry) (st : List Entry × Int), memRow seq (bY st.1, st.2) b = (bY (fgRow seq st b).1, (fgRow seq st b).2) := by
    intro b
    induction b with
    | nil => intro st; rfl
    | cons x r ih =>
      intro st
      have h1 := ih (fgStep seq st x)
      simp only [memRow, fgRow, List.foldl_cons] at h1 ⊢
      rw [step st x]; exact h1
  have all : ∀ (bs : List (List Entry)) (st : List Entry × Int), bs.foldl (memRow seq) (bY st.1, st.2) = (bY (bs.foldl (fgRow seq) st).1, (bs.foldl (fgRow seq) st).2) := by
    intro bs
    induction bs with
    | nil => intro st; rfl
    | cons b r ih => intro st; rw [List.foldl_cons, List.foldl_cons, row b st]; exact ih _
  exact all bs ([], seq)
def Has (s : ByteArray) (a : Nat) (t : List UInt8) : Prop := ((bL s).drop a).take t.length = t
theorem Has.len {t : List UInt8} (h : Has s a t) (ha : a ≤ s.size) : a + t.length ≤ s.size := by
  have h1 := congrArg List.length h
  rw [List.length_take, List.length_drop, aL] at h1; omega
theorem Has.split {t u : List UInt8} (h : Has s a (t ++ u)) : Has s a t ∧ Has s (a + t.length) u := by
  unfold Has at h ⊢
  rw [List.length_append] at h
  have h1 := congrArg (List.take t.length) h
  have h2 := congrArg (List.drop t.length) h
  rw [List.take_take, Nat.min_eq_left (by omega), List.take_left'  rfl] at h1; rw [List.drop_take, List.drop_drop, List.drop_left' rfl] at h2
  refine ⟨h1, ?_⟩
  rw [show t.length + u.length - t.length = u.length by omega] at h2; exact h2
theorem ext_bL (s : ByteArray) (a b : Nat) : bL (s.extract a b) = ((bL s).drop a).take (b - a) := by
  unfold bL; rw [ByteArray.data_extract, Array.toList_extract]
theorem Has.ext {t : List UInt8} (h : Has s a t) : s.extract a (a + t.length) = ⟨t.toArray⟩ := by
  rw [← bL_mk (s.extract a (a + t.length)), ext_bL, show a + t.length - a = t.length by omega, h]
theorem Has.of_ext {a b : Nat} {t : List UInt8} (h : bL (s.extract a b) = t) (hb : a + t.length = b) : Has s a t := by
  rw [ext_bL] at h; unfold Has
  rw [show t.length = b - a by omega]; exact h
theorem Has.at {a i : Nat} {t : List UInt8} (h : Has s a t) (hi : i < t.length) : (bL s)[a + i]? = t[i]? := by
  have h1 := congrArg (·[i]?) h
  simp only [List.getElem?_take, if_pos hi, List.getElem?_drop] at h1
  exact h1
theorem Has.rest {t : List UInt8} (h : Has s a t) : ∃ r, (bL s).drop a = t ++ r := ⟨((bL s).drop a).drop t.length, by
  have := List.take_append_drop t.length ((bL s).drop a)
  rw [show ((bL s).drop a).take t.length = t from h] at this
  exact this.symm⟩
theorem idx_at : ∀ (w r : List UInt8), (∀ c ∈ w, c ≠ 32) → Lib.indexByte (w ++ 32 :: r) 32 = (w.length : Int)
  | [], r, _ => by simp [Lib.indexByte]
  | c :: w, r, h => by
    have h1 : (c == 32) = false := by simpa using h c List.mem_cons_self
    have ih := idx_at w r fun x hx => h x (List.mem_cons_of_mem _ hx)
    rw [List.cons_append, Lib.indexByte, h1, ih]; simp only [Bool.false_eq_true, if_false, List.length_cons]; split
    · rename_i h2; simp at h2
    omega
theorem wI_at {w : List UInt8} (ha : a ≤ s.size) (h : Has s a (w ++ [32])) (hw : ∀ c ∈ w, c ≠ 32) (hl : w.length ≤ 8) : wI s a = (⟨w.toArray⟩, true, a + (w.length + 1)) := by
  obtain ⟨r, hr⟩ := h.rest
  have hln := h.len ha
  rw [List.length_append, List.length_singleton] at hln
  have hah : bL (aheadI s a) = w ++ 32 :: r.take (min s.size (a + 9) - a - (w.length + 1)) := by
    unfold aheadI
    rw [ext_bL, hr, List.take_append, List.length_append, List.length_singleton, List.take_of_length_le (by rw [List.length_append, List.length_singleton]; omega)]
    simp
  have hsp : spAt s a = (w.length : Int) := by
    unfold spAt; rw [show (aheadI s a).data.toList = bL (aheadI s a) from rfl, hah]
    exact idx_at _ _ hw
  have hx : (aheadI s a).extract 0 w.length = ⟨w.toArray⟩ := by
    rw [← bL_mk ((aheadI s a).extract 0 w.length), ext_bL, hah, List.drop_zero, Nat.sub_zero, List.take_left' rfl]
  unfold wI; rw [hsp, if_neg (by omega), Int.toNat_natCast, hx]
end
theorem byteAt_has {s : ByteArray} {a i : Nat} {t : List UInt8} {c : UInt8} (h : Has s a t) (hi : t[i]? = some c) : aF s (a + i) = (c.toNat : Int) := by
  have hl : i < t.length := (List.getElem?_eq_some_iff.1 hi).1
  have h1 := h.at hl
  rw [hi] at h1; unfold aF
  show ((((bL s).getD (a + i) 0).toNat : Nat) : Int) = _
  rw [List.getD_eq_getElem?_getD, h1]; rfl
theorem u8_ne {c : UInt8} (h : c ≠ 32) : (c.toNat : Int) ≠ 32 := by
  intro h1; apply h; apply UInt8.toNat_inj.1
  show c.toNat = 32
  omega
theorem spGo_at {s : ByteArray} : ∀ (w : List UInt8) (a f : Nat), Has s a (w ++ [32]) → (∀ c ∈ w, c ≠ 32) → w.length < f → spGo s f a = some (a + w.length)
  | [], a, 0, _, _, hf => by simp at hf
  | [], a, f + 1, h, _, _ => by
    have h1 := byteAt_has (i := 0) (c := 32) h rfl
    rw [Nat.add_zero] at h1
    rw [spGo, if_pos (by rw [h1]; rfl)]
    rfl
  | c :: w, a, 0, _, _, hf => by simp at hf
  | c :: w, a, f + 1, h, hw, hf => by
    have h1 := byteAt_has (i := 0) (c := c) h rfl
    rw [Nat.add_zero] at h1
    rw [spGo, if_neg (by rw [h1]; exact u8_ne (hw c List.mem_cons_self))]
    have h2 : Has s (a + 1) (w ++ [32]) := (Has.split (t := [c]) (u := w ++ [32]) h).2
    rw [spGo_at w (a + 1) f h2 (fun x hx => hw x (List.mem_cons_of_mem _ hx)) (by rw [List.length_cons] at hf; omega), List.length_cons]
    congr 1; omega
theorem wordS_at {s : ByteArray} {a : Nat} {w : List UInt8} (ha : a ≤ s.size) (h : Has s a (w ++ [32])) (hw : ∀ c ∈ w, c ≠ 32) : wordS s a = (⟨w.toArray⟩, ((a + (w.length + 1) : Nat) : Int)) := by
  have hln := h.len ha
  rw [List.length_append, List.length_singleton] at hln; unfold wordS; rw [spGo_at w a _ h hw (by omega)]
  simp only
  rw [(Has.split h).1.ext]
  congr 1
theorem tI_at {s : ByteArray} {a : Nat} {t : List UInt8} (ha : a ≤ s.size) (h : Has s a t) : tI s a (t.length : Int) = (⟨t.toArray⟩, true, a + t.length) := by
  have hln := h.len ha
  unfold tI; rw [if_neg (by omega), Int.toNat_natCast, h.ext]
theorem dd_lo {u : Nat} (h : u < 10) : Lib.decDigits u = [UInt8.ofNat (48 + u)] := by rw [Lib.decDigits, dif_pos h]
theorem dd_hi {u : Nat} (h : ¬ u < 10) : Lib.decDigits u = Lib.decDigits (u / 10) ++ [UInt8.ofNat (48 + u % 10)] := by rw [Lib.decDigits, dif_neg h]
theorem dg_nat {m : Nat} (h : m < 10) : (UInt8.ofNat (48 + m)).toNat = 48 + m := by
  rw [UInt8.toNat_ofNat']; omega
theorem dd_dig (u : Nat) : ∀ c ∈ Lib.decDigits u, 48 ≤ c.toNat ∧ c.toNat ≤ 57 := by
  induction u using Nat.strongRecOn with
  | ind u ih =>
    intro c hc
    by_cases h : u < 10
    · rw [dd_lo h] at hc
      rw [List.mem_singleton.1 hc, dg_nat h]; omega
    rw [dd_hi h] at hc
    rcases List.mem_append.1 hc with h1 | h1
    · exact ih (u / 10) (by omega) c h1
    rw [List.mem_singleton.1 h1, dg_nat (by omega)]; omega
theorem dd_parse (u : Nat) : ∀ r, u < 1000000000000000000 → Lib.parseUint10 0 (Lib.decDigits u ++ r) = Lib.parseUint10 u r := by
  have one : ∀ (acc m : Nat) r, m < 10 → acc < 1000000000000000000 → Lib.parseUint10 acc (UInt8.ofNat (48 + m) :: r) = Lib.parseUint10 (acc * 10 + m) r := fun acc m r hm ha => by
    rw [Lib.parseUint10, dg_nat hm, if_pos (by omega), if_neg (by omega), if_neg (by omega), show 48 + m - 48 = m by omega]
  induction u using Nat.strongRecOn with
  | ind u ih =>
    intro r hu
    by_cases h : u < 10
    · rw [dd_lo h, List.singleton_append, one 0 u r h (by omega), Nat.zero_mul, Nat.zero_add]
    rw [dd_hi h, List.append_assoc, ih (u / 10) (by omega) _ (by omega), List.singleton_append, one _ _ r (by omega) (by omega)]
    congr 1; omega
theorem dd_ne (u : Nat) : Lib.decDigits u ≠ [] := by
  by_cases h : u < 10
  · rw [dd_lo h]; simp
  rw [dd_hi h]; simp
def dval (l : List UInt8) : Int := l.foldl (fun a c => a * 10 + ((c.toNat : Int) - 48)) 0
theorem dval_app (l : List UInt8) (c : UInt8) : dval (l ++ [c]) = dval l * 10 + ((c.toNat : Int) - 48) := by unfold dval; rw [List.foldl_append]; rfl
theorem dd_val (u : Nat) : dval (Lib.decDigits u) = (u : Int) := by
  induction u using Nat.strongRecOn with
  | ind u ih =>
    by_cases h : u < 10
    · rw [dd_lo h]
      show (0 : Int) * 10 + (((UInt8.ofNat (48 + u)).toNat : Int) - 48) = _
      rw [dg_nat h]; omega
    rw [dd_hi h, dval_app, ih (u / 10) (by omega), dg_nat (by omega)]; omega
theorem byteAt_mk {l : List UInt8} {i : Nat} {c : UInt8} (h : l[i]? = some c) : aF ⟨l.toArray⟩ i = (c.toNat : Int) := by
  unfold aF; rw [List.getD_eq_getElem?_getD]
  show (((l[i]?.getD 0).toNat : Nat) : Int) = _
  rw [h]; rfl
theorem numGo_val {l : List UInt8} (hl : ∀ c ∈ l, 48 ≤ c.toNat ∧ c.toNat ≤ 57) : ∀ i, i ≤ l.length → numGo ⟨l.toArray⟩ i = some (dval (l.take i))
  | 0, _ => by rw [List.take_zero]; rfl
  | i + 1, h => by
    have he := List.getElem?_eq_getElem (l := l) (i := i) (by omega)
    have hd := hl _ (List.getElem_mem (l := l) (n := i) (by omega))
    have hb := byteAt_mk he
    rw [numGo, numGo_val hl i (by omega)]
    simp only
    rw [hb, if_neg (by simp; omega), List.take_add_one, he]; simp only [Option.toList_some, dval_app]
theorem dd_len {u k : Nat} (h : u < 10 ^ (k + 1)) : (Lib.decDigits u).length ≤ k + 1 := by
  induction k generalizing u with
  | zero => rw [dd_lo (by simpa using h)]; simp
  | succ k ih =>
    by_cases h1 : u < 10
    · rw [dd_lo h1]; simp
    rw [dd_hi h1, List.length_append, List.length_singleton]
    have := ih (u := u / 10) (by rw [Nat.pow_succ] at h; omega)
    omega
theorem dd_head (u : Nat) (h : 1 ≤ u) : ∃ c r, Lib.decDigits u = c :: r ∧ c.toNat ≠ 48 := by
  induction u using Nat.strongRecOn with
  | ind u ih =>
    by_cases h1 : u < 10
    · exact ⟨_, [], dd_lo h1, by rw [dg_nat h1]; omega⟩
    obtain ⟨c, r, h2, h3⟩ := ih (u / 10) (by omega) (by omega)
    exact ⟨c, r ++ [UInt8.ofNat (48 + u % 10)], by rw [dd_hi h1, h2]; rfl, h3⟩
theorem dec_bL {n : Int} (h0 : -1000000000000000000 ≤ n) (h1 : n ≤ 1000000000000000000) : bL (dec n) = if n < 0 then 45 :: Lib.decDigits n.natAbs else Lib.decDigits n.natAbs := by
  rw [← itoaS_dec h0 h1]; unfold itoaS Lib.itoa bL; split
  · simp
  rename_i h
  simp
  rw [show n.toNat = n.natAbs by omega]
abbrev inN (n : Int) : Prop := -10000000000000000 < n ∧ n < 10000000000000000
theorem dec_no32 {n : Int} (h : inN n) : ∀ c ∈ bL (dec n), c ≠ 32 := by
  rw [dec_bL (by omega) (by omega)]
  have hd : ∀ c ∈ Lib.decDigits n.natAbs, c ≠ 32 := fun c hc e => by
    have := dd_dig _ c hc
    rw [e] at this
    exact absurd this.1 (by decide)
  split
  · intro c hc
    rcases List.mem_cons.1 hc with rfl | h1
    · decide
    exact hd c h1
  exact hd
theorem atoiV_dec {n : Int} (h : inN n) : atoiV (dec n) = (n, true) := by
  have hp := dd_parse n.natAbs [] (by omega)
  rw [List.append_nil] at hp
  have hm : Lib.parseMag (Lib.decDigits n.natAbs) = .ok n.natAbs := by
    unfold Lib.parseMag
    rw [if_neg (dd_ne _), hp]; rfl
  have ha : Lib.atoiAll (bL (dec n)) = .ok n := by
    rw [dec_bL (by omega) (by omega)]; split
    · rename_i hn
      unfold Lib.atoiAll; simp only [show (45 : UInt8).toNat = 45 from rfl, or_true, if_true, hm, not_true_eq_false, false_and, if_false, true_and]; rw [if_neg (by omega)]
      congr 1; omega
    rename_i hn
    obtain ⟨c, r, hc⟩ := List.exists_cons_of_ne_nil (dd_ne n.natAbs)
    have hd := dd_dig n.natAbs c (by rw [hc]; exact List.mem_cons_self)
    rw [hc] at hm ⊢
    unfold Lib.atoiAll
    have e1 : ¬ c.toNat = 45 := by omega
    have e2 : ¬ c.toNat = 43 := by omega
    simp only [e1, e2, or_self, if_false, hm, not_false_eq_true, true_and, false_and]; rw [if_neg (by omega)]
    congr 1; omega
  unfold atoiV; rw [show (dec n).data.toList = bL (dec n) from rfl, ha]
theorem nI_at {s : ByteArray} {a : Nat} {n : Int} (h : inN n) (hl : (dec n).size ≤ 8) (ha : a ≤ s.size) (hh : Has s a (bL (dec n ++ spB))) : nI s a = (n, true, a + ((dec n).size + 1)) := by
  rw [bL_app] at hh
  have hw := wI_at ha hh (dec_no32 h) (by rw [aL]; exact hl)
  unfold nI; rw [hw]; simp only [if_true, bL_mk, atoiV_dec h, aL]
theorem dd_len17 {n : Int} (h : inN n) : (Lib.decDigits n.natAbs).length ≤ 17 := dd_len (k := 16) (by omega)
theorem mk_size (l : List UInt8) : (⟨l.toArray⟩ : ByteArray).size = l.length := by show l.toArray.size = _; simp
theorem dd_pos (u : Nat) : 1 ≤ (Lib.decDigits u).length := by
  have := dd_ne u
  cases h : Lib.decDigits u with
  | nil => exact absurd h this
  | cons c r => simp
theorem numBad_dd {u : Nat} {ng : Bool} (hl : (Lib.decDigits u).length ≤ 17) (hn : ng = true → 1 ≤ u) : numBad ⟨(Lib.decDigits u).toArray⟩ ng = false := by
  have hp := dd_pos u
  unfold numBad; rw [mk_size]
  by_cases h0 : u = 0
  · subst h0
    have : ng = false := by cases ng; rfl; exact absurd (hn rfl) (by omega)
    subst this; rw [dd_lo (by omega)]
    decide
  obtain ⟨c, r, hc, h48⟩ := dd_head u (by omega)
  have hb : aF ⟨(Lib.decDigits u).toArray⟩ 0 = (c.toNat : Int) := byteAt_mk (by rw [hc]; rfl)
  rw [hb]
  have e1 : decide (((Lib.decDigits u).length : Int) = 0) = false := decide_eq_false (by omega)
  have e2 : decide (17 < ((Lib.decDigits u).length : Int)) = false := decide_eq_false (by omega)
  have e3 : decide ((c.toNat : Int) = 48) = false := decide_eq_false (by omega)
  rw [e1, e2, e3]; rfl
theorem numGo_dd (u : Nat) : numGo ⟨(Lib.decDigits u).toArray⟩ (⟨(Lib.decDigits u).toArray⟩ : ByteArray).size = some (u : Int) := by
  rw [mk_size, numGo_val (dd_dig u) _ (Nat.le_refl _), List.take_length, dd_val]
theorem numS_dec {n : Int} (h : inN n) : numS (dec n) = some n := by
  have hb := dec_bL (n := n) (by omega) (by omega)
  have hl := dd_len17 h
  have hp := dd_pos n.natAbs
  by_cases hn : n < 0
  · rw [if_pos hn] at hb
    have hd : dec n = ⟨(45 :: Lib.decDigits n.natAbs).toArray⟩ := by rw [← hb, bL_mk]
    have hng : isNeg (dec n) = true := by
      unfold isNeg; rw [hd, byteAt_mk (i := 0) (c := 45) rfl, mk_size, List.length_cons]
      have e1 : decide (0 < (((Lib.decDigits n.natAbs).length + 1 : Nat) : Int)) = true := decide_eq_true (by omega)
      rw [e1]; rfl
    have hun : unNeg (dec n) = ⟨(Lib.decDigits n.natAbs).toArray⟩ := by
      unfold unNeg; rw [if_pos hng, ← bL_mk ((dec n).extract 1 (dec n).size), ext_bL, hb, ← aL, hb]
      simp
    unfold numS; rw [hun, hng, numBad_dd hl (fun _ => by omega), numGo_dd]; simp only [Bool.false_eq_true, if_false, Option.map_some, if_true]
    congr 1; omega
  rw [if_neg hn] at hb
  have hd : dec n = ⟨(Lib.decDigits n.natAbs).toArray⟩ := by rw [← hb, bL_mk]
  obtain ⟨c, r, hc⟩ := List.exists_cons_of_ne_nil (dd_ne n.natAbs)
  have hdg := dd_dig n.natAbs c (by rw [hc]; exact List.mem_cons_self)
  have hng : isNeg (dec n) = false := by
    unfold isNeg
    rw [hd, byteAt_mk (i := 0) (c := c) (by rw [hc]; rfl)]
    have e1 : decide ((c.toNat : Int) = 45) = false := decide_eq_false (by omega)
    rw [e1, Bool.and_false]
  have hun : unNeg (dec n) = ⟨(Lib.decDigits n.natAbs).toArray⟩ := by
    unfold unNeg
    rw [hng]; simpa using hd
  unfold numS; rw [hun, hng, numBad_dd hl (fun h => by cases h), numGo_dd]; simp only [Bool.false_eq_true, if_false, Option.map_some]
  congr 1; omega
theorem numAt_at {s : ByteArray} {a : Nat} {n : Int} (h : inN n) (ha : a ≤ s.size) (hh : Has s a (bL (dec n ++ spB))) : aT s (a : Int) = (n, ((a + ((dec n).size + 1) : Nat) : Int)) := by
  rw [bL_app] at hh
  have hw := wordS_at ha hh (dec_no32 h)
  unfold aT; rw [if_neg (by omega), Int.toNat_natCast, hw, bL_mk, numS_dec h, aL]
abbrev inS (n : Int) : Prop := -10000000 < n ∧ n < 10000000
theorem dec_small {n : Int} (h : inS n) : (dec n).size ≤ 8 := by
  have hl : (Lib.decDigits n.natAbs).length ≤ 7 := dd_len (k := 6) (by omega)
  rw [← aL, dec_bL (by omega) (by omega)]; split
  · rw [List.length_cons]; omega
  omega
theorem numsI_at {s : ByteArray} : ∀ (ns : List Int) (a : Nat), (∀ n ∈ ns, inS n) → a ≤ s.size → Has s a (numL ns) → dF s ns.length a = (ns, true, a + (numL ns).length)
  | [], a, _, _, _ => by simp [dF, numL]
  | n :: r, a, hn, ha, hh => by
    have h0 : numL (n :: r) = bL (dec n ++ spB) ++ numL r := by simp [numL]
    rw [h0] at hh
    have hs := hn n List.mem_cons_self
    have hlen := hh.split.1.len ha
    have hl : (bL (dec n ++ spB)).length = (dec n).size + 1 := by rw [aL, ByteArray.size_append, aU]
    have h1 := nI_at (n := n) ⟨by omega, by omega⟩ (dec_small hs) ha hh.split.1
    rw [hl] at hlen
    have h2 := hh.split.2
    rw [hl] at h2
    have ih := numsI_at r _ (fun m hm => hn m (List.mem_cons_of_mem _ hm)) (by omega) h2
    rw [List.length_cons, dF, h1]; simp only [if_true, ih]; rw [h0, List.length_append, hl]; simp only [Prod.mk.injEq, true_and]; omega
def entL (e : Entry) : List UInt8 := bL (e.key ++ spB) ++ numL (nsOf e) ++ bL e.text
theorem key_no32 {k : ByteArray} (h : keyOk k = true) : ∀ c ∈ bL k, c ≠ 32 := by
  intro c hc e; subst e
  obtain ⟨i, hi, he⟩ := List.mem_iff_getElem.1 hc
  have hb : aF k i = 32 := by
    unfold aF; rw [List.getD_eq_getElem?_getD]
    show ((((bL k)[i]?.getD 0).toNat : Nat) : Int) = _
    rw [List.getElem?_eq_getElem hi, he]; rfl
  rw [aL] at hi
  simp only [keyOk, Bool.and_eq_true, List.all_eq_true, List.mem_range] at h
  have := h.1 i hi
  simp [kByte, hb] at this
theorem entOk_all {e : Entry} (h : cY e = true) : keyOk e.key = true ∧ (∀ n ∈ nsOf e, inS n) ∧ e.key.size ≤ 8 := by
  have hr := entOk_range h
  refine ⟨?_, ?_, hr.2.2.2.2.2.2.2⟩
  · unfold cY at h; split at h
    · cases h
    rename_i hb
    simp [entBad] at hb
    simp [hb]
  intro n hn
  simp only [nsOf, List.mem_cons, List.not_mem_nil, or_false] at hn
  rcases hn with rfl | rfl | rfl | rfl <;> exact ⟨by omega, by omega⟩
theorem eI_at {s : ByteArray} {a : Nat} {e : Entry} (h : cY e = true) (ha : a ≤ s.size) (hh : Has s a (entL e)) : eI s a = (e, true, a + (entL e).length) := by
  obtain ⟨hk, hn, h8⟩ := entOk_all h
  have hlen := hh.len ha
  unfold entL at hh hlen ⊢
  have hA := hh.split.1.split.1
  have hB := hh.split.1.split.2
  have hC := hh.split.2
  have hlk : (bL (e.key ++ spB)).length = e.key.size + 1 := by rw [aL, ByteArray.size_append, aU]
  simp only [List.length_append, hlk] at hlen hB hC ⊢
  rw [bL_app] at hA
  have h1 := wI_at ha hA (key_no32 hk) (by rw [aL]; exact h8)
  rw [aL, bL_mk] at h1
  have h2 := numsI_at (nsOf e) _ hn (by omega) hB
  rw [show (nsOf e).length = 4 from rfl] at h2
  have h3 := tI_at (by omega) hC
  rw [aL, bL_mk] at h3; unfold eI; rw [h1]; simp only [if_true]; rw [h2]; simp only [if_true]; rw [← Nat.add_assoc a (e.key.size + 1)] at h3; rw [show (nsOf e).getD 3 0 = (e.text.size : Int) from rfl]; rw [h3]; simp only [if_true, aL]; rw [show (nsOf e).getD 0 0 = e.seq from rfl, show (nsOf e).getD 1 0 = e.kind from rfl, show (nsOf e).getD 2 0 = e.n from rfl]; simp only [Prod.mk.injEq, true_and]; omega
theorem entS_at {s : ByteArray} {a : Nat} {e : Entry} (h : cY e = true) (ha : a ≤ s.size) (hh : Has s a (entL e)) : entS s a = (e, ((a + (entL e).length : Nat) : Int)) := by
  obtain ⟨hk, hn, h8⟩ := entOk_all h
  have hlen := hh.len ha
  unfold entL at hh hlen ⊢
  have hA := hh.split.1.split.1
  have hB := hh.split.1.split.2
  have hC := hh.split.2
  have hlk : (bL (e.key ++ spB)).length = e.key.size + 1 := by rw [aL, ByteArray.size_append, aU]
  have hnl : numL (nsOf e) = bL (dec e.seq ++ spB) ++ bL (dec e.kind ++ spB) ++ bL (dec e.n ++ spB) ++ bL (dec (e.text.size : Int) ++ spB) := by simp [numL, nsOf]
  have hdl : ∀ n, (bL (dec n ++ spB)).length = (dec n).size + 1 := fun n => by rw [aL, ByteArray.size_append, aU]
  rw [bL_app] at hA
  have i1 := hn e.seq (by simp [nsOf])
  have i2 := hn e.kind (by simp [nsOf])
  have i3 := hn e.n (by simp [nsOf])
  have i4 := hn (e.text.size : Int) (by simp [nsOf])
  rw [hnl] at hB hC hlen ⊢
  have h1 := wordS_at ha hA (key_no32 hk)
  rw [aL, bL_mk] at h1; rw [hlk] at hB
  have b4 := hB.split.2
  have b3 := hB.split.1.split.2
  have b2 := hB.split.1.split.1.split.2
  have b1 := hB.split.1.split.1.split.1
  simp only [List.length_append, hlk, hdl, aL] at b1 b2 b3 b4 hC hlen ⊢
  have f1 : e1 s a = (e.key, ((a + (e.key.size + 1) : Nat) : Int)) := h1
  have f2 : e2 s a = (e.seq, ((a + (e.key.size + 1) + ((dec e.seq).size + 1) : Nat) : Int)) := by
    unfold e2; rw [f1]; exact numAt_at ⟨by omega, by omega⟩ (by omega) b1
  have f3 : e3 s a = (e.kind, ((a + (e.key.size + 1) + ((dec e.seq).size + 1) + ((dec e.kind).size + 1) : Nat) : Int)) := by
    unfold e3; rw [f2]; exact numAt_at ⟨by omega, by omega⟩ (by omega) b2
  have f4 : e4 s a = (e.n, ((a + (e.key.size + 1) + ((dec e.seq).size + 1 + ((dec e.kind).size + 1)) + ((dec e.n).size + 1) : Nat) : Int)) := by
    unfold e4; rw [f3, Nat.add_assoc (a + (e.key.size + 1))]; exact numAt_at ⟨by omega, by omega⟩ (by omega) b3
  have f5 : e5 s a = ((e.text.size : Int), ((a + (e.key.size + 1) + ((dec e.seq).size + 1 + ((dec e.kind).size + 1) + ((dec e.n).size + 1)) + ((dec (e.text.size : Int)).size + 1) : Nat) : Int)) := by
    unfold e5; rw [f4, Nat.add_assoc (a + (e.key.size + 1))]; exact numAt_at ⟨by omega, by omega⟩ (by omega) b4
  have hb : entBadAt s a = false := by
    unfold entBadAt; rw [f5]
    simp
    omega
  have hx := hC.ext
  rw [aL, bL_mk] at hx; unfold entS; rw [hb, f1, f2, f3, f4, f5]; simp only [Bool.false_eq_true, if_false, Prod.mk.injEq]
  refine ⟨?_, by omega⟩
  rw [← Int.natCast_add, Int.toNat_natCast, Int.toNat_natCast]
  have e0 : a + (e.key.size + 1) + ((dec e.seq).size + 1 + ((dec e.kind).size + 1) + ((dec e.n).size + 1)) + ((dec (e.text.size : Int)).size + 1) = a + (e.key.size + 1 + ((dec e.seq).size + 1 + ((dec e.kind).size + 1) + ((dec e.n).size + 1) + ((dec (e.text.size : Int)).size + 1))) := by omega
  rw [e0, hx]
end Go.Proofs.S
end
