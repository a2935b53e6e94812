/-
  The abstract layer, the walks and the plain laws that the claim leans on, part 5 of 7 (working texts S18 to S35). It proves lemmas alone; no condition of its own.
-/
import Derived.Test.YthbibdnkiklemaaGreatDoorP4
import Derived.Shelf.Strconv.Itoa3
import Derived.Shelf.Strconv.AtoiAll
import Derived.Shelf.Small.Strs
import Derived.Test.YthbibdnkiklemaaGreatDoorProg
set_option linter.all false
set_option maxRecDepth 20000
section
open Go Go.Abs Go.Proofs
open Go.Plain (swp rot xA vZ eO eR gI iW)
namespace Go.Proofs.S
section
variable {a j f s r k : Nat} {σ : Nat → Nat}
abbrev lE (d : Nat → Entry) : Nat → Nat → Bool := fun i j => entLt (d i) (d j)
theorem sink_step {l : Nat → Nat → Bool} (h : a < j) (hl : l (σ j) (σ (j - 1)) = true) : xA l a j σ = xA l a (j - 1) (swp σ j (j - 1)) := by
  obtain ⟨k, rfl⟩ : ∃ k, j = k + 1 := ⟨j - 1, by omega⟩
  rw [Nat.add_sub_cancel] at hl ⊢
  rw [xA, if_pos ⟨h, hl⟩]
theorem sink_stop {l : Nat → Nat → Bool} (h : ¬ (a < j ∧ l (σ j) (σ (j - 1)) = true)) : xA l a j σ = σ := by
  cases j with
  | zero => rfl
  | succ k => rw [Nat.add_sub_cancel] at h; rw [xA, if_neg h]
theorem insGo_step {l : Nat → Nat → Bool} {a b i : Nat} (h : i < b) : vZ l a (b - i) i σ = vZ l a (b - (i + 1)) (i + 1) (xA l a i σ) := by
  rw [show b - i = (b - (i + 1)) + 1 by omega, vZ]
theorem bs_fuel (t : Nat → Bool) : ∀ (f g s r : Nat), r - s ≤ f → r - s ≤ g → eR t f s r = eR t g s r
  | 0, 0, _, _, _, _ => rfl
  | 0, g + 1, s, r, h, _ => by rw [eR, eR, if_neg (by omega)]
  | f + 1, 0, s, r, _, h => by rw [eR, eR, if_neg (by omega)]
  | f + 1, g + 1, s, r, h1, h2 => by
    rw [eR, eR]; split
    · split
      · exact bs_fuel t f g _ _ (by omega) (by omega)
      exact bs_fuel t f g _ _ (by omega) (by omega)
    rfl
theorem wW {t : Nat → Bool} (h : s < r) (hf : r - s ≤ f) : eR t f s r = if t ((s + r) / 2) = true then eR t f s ((s + r) / 2) else eR t f ((s + r) / 2 + 1) r := by
  obtain ⟨g, rfl⟩ : ∃ g, f = g + 1 := ⟨f - 1, by omega⟩
  rw [eR, if_pos h]; split
  · exact bs_fuel t g (g + 1) _ _ (by omega) (by omega)
  exact bs_fuel t g (g + 1) _ _ (by omega) (by omega)
theorem bs_stop {t : Nat → Bool} (h : ¬ s < r) : eR t f s r = s := by
  cases f with
  | zero => rfl
  | succ f => rw [eR, if_neg h]
theorem rot_up (σ : Nat → Nat) (h : a ≤ k) : swp (rot σ a (a + 1) (k + 1)) k (k + 1) = rot σ a (a + 1) (k + 2) := by
  funext x
  unfold swp rot
  repeat' split
  all_goals first | (exfalso; omega) | (congr 1; omega) | rfl | (subst_vars; congr 1; omega)
theorem rot_up0 (σ : Nat → Nat) (a : Nat) : rot σ a (a + 1) (a + 1) = σ := by
  funext x
  unfold rot
  repeat' split
  all_goals first | (exfalso; omega) | (congr 1; omega) | rfl | (subst_vars; congr 1; omega)
theorem rot_dn (σ : Nat → Nat) {k m : Nat} (h : 0 < k) (hk : k ≤ m) : swp (rot σ k m (m + 1)) k (k - 1) = rot σ (k - 1) m (m + 1) := by
  funext x
  unfold swp rot
  repeat' split
  all_goals first | (exfalso; omega) | (congr 1; omega) | rfl | (subst_vars; congr 1; omega)
theorem rot_dn0 (σ : Nat → Nat) (m : Nat) : rot σ m m (m + 1) = σ := by
  funext x
  unfold rot
  repeat' split
  all_goals first | (exfalso; omega) | (congr 1; omega) | rfl | (subst_vars; congr 1; omega)
theorem bR (d : Nat → Entry) (n : Nat) (σ : Nat → Nat) (hn : n ≤ 1048576) (a b m : Nat) (h1 : a + m ≤ b) (h2 : b + m ≤ n) : aD P 239 [.ref 0, .raw (.int .i64 (a : Int)), .raw (.int .i64 (b : Int)), .raw (.int .i64 (m : Int)), eZ] [(0, bY d n σ)] 1 (.tup []) [(0, bY d n (swr σ a b m))] 1 := by
 refine gq 38 [] Tryz.func239 ?_
 simp only [bY, eZ]
 refine aj (wb ?_)
 refine wl (α := Nat) (fun x => x ≤ m) (fun x => m - x) (fun x => ([(0, .ref 0), (1, .raw (.int .i64 (a : Int))), (2, .raw (.int .i64 (b : Int))), (3, .raw (.int .i64 (m : Int))), (10, .raw (.int .i64 (x : Int)))], [(0, .row 65 5 ((List.range n).map fun z => enA (d (swr σ a b x z))))])) 1 0 (Nat.zero_le _) [] ?_ ?_
 · simp only [go_sem, AObj.bel, AObj.ren, AV.ren, aA, sg, Int.natCast_zero, swr_zero] <;> simp
 rintro i hi
 refine sq fun _ k2 => aj ?_
 refine cdS rfl (fun hc1 => ?_) fun hc1 => ?_
 · have hie : i = m := by have h9 : ¬ i < m := (by simpa using hc1); omega
   subst hie
   refine we (jt ?_)
   refine ⟨[], ?_⟩
   simp only [go_sem, AObj.bel, AObj.ren, AV.ren, aA, sg, bY] <;> simp [enA]
 have hlt : i < m := by simpa using hc1
 refine wk (k2 (sq fun _ k4 => (wb ?_)))
 have hrow : (((List.range n).map fun z => (.agg [.raw (.string (d (swr σ a b i z)).key), .raw (.int .i64 (d (swr σ a b i z)).seq), .raw (.int .i64 (d (swr σ a b i z)).kind), .raw (.string (d (swr σ a b i z)).text), .raw (.int .i64 (d (swr σ a b i z)).n)])).set (a + i) (.agg [.raw (.string (d (swr σ a b i (b + i))).key), .raw (.int .i64 (d (swr σ a b i (b + i))).seq), .raw (.int .i64 (d (swr σ a b i (b + i))).kind), .raw (.string (d (swr σ a b i (b + i))).text), .raw (.int .i64 (d (swr σ a b i (b + i))).n)])).set (b + i) (.agg [.raw (.string (d (swr σ a b i (a + i))).key), .raw (.int .i64 (d (swr σ a b i (a + i))).seq), .raw (.int .i64 (d (swr σ a b i (a + i))).kind), .raw (.string (d (swr σ a b i (a + i))).text), .raw (.int .i64 (d (swr σ a b i (a + i))).n)]) = (List.range n).map fun z => enA (d (swr σ a b (i + 1) z)) := by
   have h9 := row_sw d n (swr σ a b i) (p := a + i) (q := b + i) (by omega) (by omega)
   rw [swr_step σ (by omega)] at h9; exact h9
 have hs1 : ∀ (y : AV), (((List.range n).map fun z => (.agg [.raw (.string (d (swr σ a b i z)).key), .raw (.int .i64 (d (swr σ a b i z)).seq), .raw (.int .i64 (d (swr σ a b i z)).kind), .raw (.string (d (swr σ a b i z)).text), .raw (.int .i64 (d (swr σ a b i z)).n)])).set (a + i) y)[b + i]? = ((List.range n).map fun z => (.agg [.raw (.string (d (swr σ a b i z)).key), .raw (.int .i64 (d (swr σ a b i z)).seq), .raw (.int .i64 (d (swr σ a b i z)).kind), .raw (.string (d (swr σ a b i z)).text), .raw (.int .i64 (d (swr σ a b i z)).n)]))[b + i]? := fun y => set_ne (by omega) y
 have hr1 : (List.range n)[a + i]? = some (a + i) := List.getElem?_range (by omega)
 have hr2 : (List.range n)[b + i]? = some (b + i) := List.getElem?_range (by omega)
 have hwa : IntKind.i64.wrap ((a : Int) + (i : Int)) = ((a + i : Nat) : Int) := by rw [w64]; omega
 have hwb : IntKind.i64.wrap ((b : Int) + (i : Int)) = ((b + i : Nat) : Int) := by rw [w64]; omega
 refine nS mixed rfl ?_
 simp only [go_sem, hwa, hwb, hr1, hr2, hs1, enA, List.length_set, List.length_map, List.length_range]; refine jr ?_; rw [hrow]; refine ⟨by rfl, ?_⟩
 refine jt (k4 ?_)
 refine jw (wiS i (by omega)) ?_
 refine jt ?_
 refine ⟨i + 1, by omega, by omega, [], ?_⟩
 simp only [go_sem, AObj.bel, AObj.ren, AV.ren, aA, sg, Int.natCast_zero] <;> simp [enA]
theorem lC (d : Nat → Entry) (n : Nat) (σ : Nat → Nat) (hn : n ≤ 1048576) (a m b : Nat) (h1 : a < m) (h2 : m < b) (h3 : b ≤ n) : aD P 230 [.ref 0, .raw (.int .i64 (a : Int)), .raw (.int .i64 (m : Int)), .raw (.int .i64 (b : Int)), eZ] [(0, bY d n σ)] 1 (.tup []) [(0, bY d n (rot σ a m b))] 1 := by
 refine gq 58 [] Tryz.func230 ?_
 simp only [bY, eZ]
 obtain ⟨i0, hi0⟩ : ∃ i0, i0 = m - a := ⟨_, rfl⟩
 obtain ⟨j0, hj0⟩ : ∃ j0, j0 = b - m := ⟨_, rfl⟩
 have hw1 : IntKind.i64.wrap ((m : Int) - (a : Int)) = (i0 : Int) := by rw [w64]; omega
 have hw2 : IntKind.i64.wrap ((b : Int) - (m : Int)) = (j0 : Int) := by rw [w64]; omega
 have ea : a = m - i0 := by omega
 have eb : b = m + j0 := by omega
 refine sr rfl fun _ k1 => ?_; simp only [go_sem, hw1]
 refine k1 (sr rfl fun _ k2 => ?_)
 simp only [go_sem, hw2]
 refine k2 (sq fun _ k3 => (wb ?_))
 refine wl (α := Nat × Nat × (Nat → Nat)) (fun x => 0 < x.1 ∧ 0 < x.2.1 ∧ x.1 ≤ i0 ∧ x.2.1 ≤ j0 ∧ rot x.2.2 (m - x.1) m (m + x.2.1) = rot σ a m b) (fun x => x.1 + x.2.1) (fun x => ([(0, .ref 0), (2, .raw (.int .i64 (m : Int))), (4, .fn (.func 141) [] []), (10, .raw (.int .i64 (x.1 : Int))), (11, .raw (.int .i64 (x.2.1 : Int)))], [(0, .row 65 5 ((List.range n).map fun z => enA (d (x.2.2 z))))])) 1 (i0, j0, σ) ⟨by simp only; omega, by simp only; omega, Nat.le_refl _, Nat.le_refl _, by rw [← ea, ← eb]⟩ [] ?_ ?_
 · simp only [go_sem, AObj.bel, AObj.ren, AV.ren, aA, sg, Int.natCast_zero] <;> simp [enA]
 rintro ⟨i, j, τ⟩ ⟨hi, hj, hi0, hj0, hrot⟩
 simp only at hi hj hi0 hj0 hrot ⊢
 refine sq fun _ k4 => aj ?_
 refine cdS rfl (fun hc1 => ?_) fun hc1 => ?_
 · have hij : i = j := by simp at hc1; omega
   subst hij
   have hfin : swr τ (m - i) m i = rot σ a m b := by rw [rot_eq τ (by omega)]; exact hrot
   refine we (jt (k3 ?_))
   have hwi : IntKind.i64.wrap ((m : Int) - (i : Int)) = ((m - i : Nat) : Int) := by rw [w64]; omega
   refine wg rfl ?_; simp only [go_sem, hwi]
   refine vg [] 0 rfl rfl rfl ⟨Tryz.func239, rfl, rfl⟩ (bR d n τ hn (m - i) m i (by omega) (by omega)) rfl (by simp only [go_sem, eZ]) (by simp only [go_sem, eZ]) (mD (H1 := []) (.inl rfl) (by simp only [go_sem, bY]) (by simp only [go_sem, AObj.bel, bY])) (.inl rfl) ?_
   simp only [go_sem, AV.ren, AObj.ren, aA, shift, sg, Nat.le_refl, Nat.add_zero, Nat.sub_self, bY]; rw [hfin]; refine ⟨[], ?_⟩
   simp only [go_sem, AObj.bel, AObj.ren, AV.ren, aA, sg, bY] <;> simp [enA]
 have hne : i ≠ j := by intro e; subst e; simp at hc1
 refine wk (k4 (wb ?_))
 have hwi : IntKind.i64.wrap ((m : Int) - (i : Int)) = ((m - i : Nat) : Int) := by rw [w64]; omega
 have hwj0 : IntKind.i64.wrap (((m + j : Nat) : Int) - (i : Int)) = ((m + j - i : Nat) : Int) := by rw [w64]; omega
 have hwm : IntKind.i64.wrap ((m : Int) + (j : Int)) = ((m + j : Nat) : Int) := by rw [w64]; omega
 have hwj : IntKind.i64.wrap (IntKind.i64.wrap ((m : Int) + (j : Int)) - (i : Int)) = ((m + j - i : Nat) : Int) := by rw [hwm, hwj0]
 refine aj ?_
 refine cd rfl (fun hc2 => ?_) fun hc2 => ?_
 · have hgt : j < i := by simpa using hc2
   refine sr rfl fun _ k7 => ?_; simp only [go_sem, hwi]
   refine vg [] 0 rfl rfl rfl ⟨Tryz.func239, rfl, rfl⟩ (bR d n τ hn (m - i) m j (by omega) (by omega)) rfl (by simp only [go_sem, eZ]) (by simp only [go_sem, eZ]) (mD (H1 := []) (.inl rfl) (by simp only [go_sem, bY]) (by simp only [go_sem, AObj.bel, bY])) (.inl rfl) ?_
   simp only [go_sem, AV.ren, AObj.ren, aA, shift, sg, Nat.le_refl, Nat.add_zero, Nat.sub_self, bY]; apply k7
   have hwi2 : IntKind.i64.wrap ((i : Int) - (j : Int)) = ((i - j : Nat) : Int) := by rw [w64]; omega
   refine wg rfl ?_; simp only [go_sem, hwi2]; refine jt ?_; refine jt ?_
   refine ⟨(i - j, j, swr τ (m - i) m j), ⟨by simp only; omega, hj, by simp only; omega, hj0, by simp only; rw [rot_big τ hgt (by omega) hj]; exact hrot⟩, by simp only; omega, [], ?_⟩
   simp only [go_sem, AObj.bel, AObj.ren, AV.ren, aA, sg, Int.natCast_zero] <;> simp [enA]
 have hgt : i < j := by have h9 : ¬ j < i := (by simpa using hc2); omega
 refine sr rfl fun _ k8 => ?_; simp only [go_sem, hwi, hwj]
 refine vg [] 0 rfl rfl rfl ⟨Tryz.func239, rfl, rfl⟩ (bR d n τ hn (m - i) (m + j - i) i (by omega) (by omega)) rfl (by simp only [go_sem, eZ]) (by simp only [go_sem, eZ]) (mD (H1 := []) (.inl rfl) (by simp only [go_sem, bY]) (by simp only [go_sem, AObj.bel, bY])) (.inl rfl) ?_
 simp only [go_sem, AV.ren, AObj.ren, aA, shift, sg, Nat.le_refl, Nat.add_zero, Nat.sub_self, bY]; apply k8
 have hwj2 : IntKind.i64.wrap ((j : Int) - (i : Int)) = ((j - i : Nat) : Int) := by rw [w64]; omega
 refine wg rfl ?_; simp only [go_sem, hwj2]; refine jt ?_; refine jt ?_
 refine ⟨(i, j - i, swr τ (m - i) (m + j - i) i), ⟨hi, by simp only; omega, hi0, by simp only; omega, by simp only; rw [rot_small τ hgt (by omega) hi]; exact hrot⟩, by simp only; omega, [], ?_⟩
 simp only [go_sem, AObj.bel, AObj.ren, AV.ren, aA, sg, Int.natCast_zero] <;> simp [enA]
theorem cX (d : Nat → Entry) (n : Nat) (σ : Nat → Nat) (hn : n ≤ 1048576) (a b : Nat) (h2 : b ≤ n) (ha : a ≤ b) : aD P 211 [.ref 0, .raw (.int .i64 (a : Int)), .raw (.int .i64 (b : Int)), eZ] [(0, bY d n σ)] 1 (.tup []) [(0, bY d n (eO (lE d) σ a b))] 1 := by
 refine gq 53 [] Tryz.func211 ?_
 simp only [bY, eZ]
 have hw0 := wiS a (by omega)
 refine sr rfl fun _ k1 => ?_; simp only [go_sem, hw0]
 refine k1 (wb ?_)
 refine wl (α := Nat × (Nat → Nat)) (fun x => a + 1 ≤ x.1 ∧ x.1 ≤ b + 1 ∧ vZ (lE d) a (b - x.1) x.1 x.2 = eO (lE d) σ a b) (fun x => b - x.1) (fun x => ([(0, .ref 0), (1, .raw (.int .i64 (a : Int))), (2, .raw (.int .i64 (b : Int))), (3, .fn (.func 141) [] []), (8, .raw (.int .i64 (x.1 : Int)))], [(0, .row 65 5 ((List.range n).map fun z => enA (d (x.2 z))))])) 1 (a + 1, σ) ⟨Nat.le_refl _, by simp only; omega, rfl⟩ [] ?_ ?_
 · simp only [go_sem, AObj.bel, AObj.ren, AV.ren, aA, sg, Int.natCast_zero] <;> simp [enA]
 rintro ⟨i, τ⟩ ⟨hi, hib, hgo⟩
 simp only at hi hib hgo ⊢
 refine sq fun _ k2 => aj ?_
 refine cdS rfl (fun hc1 => ?_) fun hc1 => ?_
 · have hge : b - i = 0 := by have h9 : ¬ i < b := (by simpa using hc1); omega
   rw [hge, vZ] at hgo
   refine we (jt ?_)
   rw [← hgo]; refine ⟨[], ?_⟩
   simp only [go_sem, AObj.bel, AObj.ren, AV.ren, aA, sg, bY] <;> simp [enA]
 have hlt : i < b := by simpa using hc1
 refine wk (k2 (sq fun _ k4 => (wb (aj (wb ?_)))))
 refine wl (α := Nat × (Nat → Nat)) (fun x => a ≤ x.1 ∧ x.1 ≤ i ∧ xA (lE d) a x.1 x.2 = xA (lE d) a i τ) (fun x => x.1) (fun x => ([(0, .ref 0), (1, .raw (.int .i64 (a : Int))), (2, .raw (.int .i64 (b : Int))), (3, .fn (.func 141) [] []), (8, .raw (.int .i64 (i : Int))), (9, .raw (.int .i64 (x.1 : Int)))], [(0, .row 65 5 ((List.range n).map fun z => enA (d (x.2 z))))])) 1 (i, τ) ⟨by simp only; omega, Nat.le_refl _, rfl⟩ [] ?_ ?_
 · simp only [go_sem, AObj.bel, AObj.ren, AV.ren, aA, sg, Int.natCast_zero] <;> simp [enA]
 rintro ⟨j, υ⟩ ⟨hj, hji, hsk⟩
 simp only at hj hji hsk ⊢
 refine sq fun _ k6 => ?_
 have hr1 : (List.range n)[j]? = some j := List.getElem?_range (by omega)
 have hr2 : (List.range n)[j - 1]? = some (j - 1) := List.getElem?_range (by omega)
 have hw1 : IntKind.i64.wrap ((j : Int) - 1) = (j : Int) - 1 := by rw [w64]; omega
 have hpn : ((j : Int) - 1).toNat = j - 1 := by omega
 refine sd mixed rfl fun _ k7 => ?_; simp only [go_sem, hr1, hr2, hw1, hpn, enA, List.length_set, List.length_map, List.length_range]; refine jr ?_
 refine tfg (first := []) (cap := []) (xs := [enA (d (υ j)), enA (d (υ (j - 1)))]) rfl rfl rfl rfl rfl rfl (fun _ => by rfl) ⟨Tryz.func141, rfl, rfl⟩ (fun hg => gX (d (υ j)) (d (υ (j - 1)))) (by simp only [go_sem]) (fun hg => by rfl) (by rfl) (by simp only [go_sem, enA]) trivial ?_
 simp only [go_sem, wM]; refine jr ?_; refine ⟨by rfl, ?_⟩; apply k7
 refine cdS rfl (fun hc2 => ?_) fun hc2 => ?_
 · have hfin : xA (lE d) a i τ = υ := by
     rw [← hsk]
     refine sink_stop fun h => ?_
     have h8 : decide ((a : Int) < (j : Int)) = true := by rw [decide_eq_true_eq]; omega
     rw [h8, Bool.true_and] at hc2
     have h7 : entLt (d (υ j)) (d (υ (j - 1))) = true := h.2
     rw [h7] at hc2; cases hc2
   refine we (jt ?_)
   refine jt (k4 ?_)
   refine jw (wiS i (by omega)) ?_
   refine jt ?_
   refine ⟨(i + 1, υ), ⟨by simp only; omega, by simp only; omega, by simp only; rw [insGo_step hlt, hfin] at hgo; exact hgo⟩, by simp only; omega, [], ?_⟩
   simp only [go_sem, AObj.bel, AObj.ren, AV.ren, aA, sg, Int.natCast_zero] <;> simp [enA]
 · have haj : a < j := by simp at hc2; omega
   have hlj : lE d (υ j) (υ (j - 1)) = true := by simp only [Bool.and_eq_true] at hc2; exact hc2.2
   refine wk (k6 (sq fun _ k8 => (wb ?_)))
   clear hr1 hr2
   have hrow : (((List.range n).map fun z => (.agg [.raw (.string (d (υ z)).key), .raw (.int .i64 (d (υ z)).seq), .raw (.int .i64 (d (υ z)).kind), .raw (.string (d (υ z)).text), .raw (.int .i64 (d (υ z)).n)])).set (j) (.agg [.raw (.string (d (υ (j - 1))).key), .raw (.int .i64 (d (υ (j - 1))).seq), .raw (.int .i64 (d (υ (j - 1))).kind), .raw (.string (d (υ (j - 1))).text), .raw (.int .i64 (d (υ (j - 1))).n)])).set (j - 1) (.agg [.raw (.string (d (υ (j))).key), .raw (.int .i64 (d (υ (j))).seq), .raw (.int .i64 (d (υ (j))).kind), .raw (.string (d (υ (j))).text), .raw (.int .i64 (d (υ (j))).n)]) = (List.range n).map fun z => enA (d (swp υ j (j - 1) z)) := by
     have h9 := row_sw d n (υ) (p := j) (q := j - 1) (by omega) (by omega)
     skip; exact h9
   have hs1 : ∀ (y : AV), (((List.range n).map fun z => (.agg [.raw (.string (d (υ z)).key), .raw (.int .i64 (d (υ z)).seq), .raw (.int .i64 (d (υ z)).kind), .raw (.string (d (υ z)).text), .raw (.int .i64 (d (υ z)).n)])).set (j) y)[j - 1]? = ((List.range n).map fun z => (.agg [.raw (.string (d (υ z)).key), .raw (.int .i64 (d (υ z)).seq), .raw (.int .i64 (d (υ z)).kind), .raw (.string (d (υ z)).text), .raw (.int .i64 (d (υ z)).n)]))[j - 1]? := fun y => set_ne (by omega) y
   have hr1 : (List.range n)[j]? = some (j) := List.getElem?_range (by omega)
   have hr2 : (List.range n)[j - 1]? = some (j - 1) := List.getElem?_range (by omega)
   refine nS mixed rfl ?_
   simp only [go_sem, hr1, hr2, hw1, hpn, hs1, enA, List.length_set, List.length_map, List.length_range]; refine jr ?_; rw [hrow]; refine ⟨by rfl, ?_⟩
   refine jt (k8 ?_)
   have hw5 : IntKind.i64.wrap ((j : Int) - 1) = ((j - 1 : Nat) : Int) := by rw [w64]; omega
   refine wg rfl ?_; simp only [go_sem, hw5]; refine jt ?_
   refine ⟨(j - 1, swp υ j (j - 1)), ⟨by simp only; omega, by simp only; omega, by simp only; rw [sink_step haj hlj] at hsk; exact hsk⟩, by simp only; omega, [], ?_⟩
   simp only [go_sem, AObj.bel, AObj.ren, AV.ren, aA, sg, Int.natCast_zero] <;> simp [enA]
set_option maxHeartbeats 2000000 in
theorem w_symMerge_s (d : Nat → Entry) (n : Nat) (σ : Nat → Nat) (hn : n ≤ 1048576) (f : Nat) (ih : ∀ (σ : Nat → Nat) (a m b : Nat), b - a ≤ f → a < m → m < b → b ≤ n → aD P 212 [.ref 0, .raw (.int .i64 (a : Int)), .raw (.int .i64 (m : Int)), .raw (.int .i64 (b : Int)), eZ] [(0, bY d n σ)] 1 (.tup []) [(0, bY d n (iW (lE d) f σ a m b))] 1) (a m b : Nat) (hf : b - a ≤ f + 1) (h1 : a < m) (h2 : m < b) (h3 : b ≤ n) : aD P 212 [.ref 0, .raw (.int .i64 (a : Int)), .raw (.int .i64 (m : Int)), .raw (.int .i64 (b : Int)), eZ] [(0, bY d n σ)] 1 (.tup []) [(0, bY d n (iW (lE d) (f + 1) σ a m b))] 1 := by
 refine gq 220 [] Tryz.func212 ?_
 simp only [bY, eZ]
 have hw0 : IntKind.i64.wrap ((m : Int) - (a : Int)) = (m : Int) - (a : Int) := by rw [w64]; omega
 have hw12 : IntKind.i64.wrap ((b : Int) - (m : Int)) = (b : Int) - (m : Int) := by rw [w64]; omega
 refine sq fun _ k1 => sr rfl fun _ k2 => ?_
 simp only [go_sem, hw0]; apply k2
 refine cd rfl (fun hc1 => ?_) fun hc1 => ?_
 · have hm : m = a + 1 := by simp at hc1; omega
   subst hm
   obtain ⟨e, he⟩ : ∃ e, e = eR (fun h => !lE d (σ h) (σ a)) b (a + 1) b := ⟨_, rfl⟩
   have hA : iW (lE d) (f + 1) σ a (a + 1) b = rot σ a (a + 1) e := by rw [iW, if_pos (by omega), ← he]
   have hbe := Plain.bs_ok (fun h => !lE d (σ h) (σ a)) (f := b) (s := a + 1) (r := b) (by omega) (by omega)
   rw [← he] at hbe; refine aj ?_; refine aj ?_
   refine sq fun _ k5 => wb ?_
   refine wl (α := Nat × Nat) (fun x => a + 1 ≤ x.1 ∧ x.1 ≤ x.2 ∧ x.2 ≤ b ∧ eR (fun h => !lE d (σ h) (σ a)) b x.1 x.2 = e) (fun x => x.2 - x.1) (fun x => ([(0, .ref 0), (1, .raw (.int .i64 (a : Int))), (4, .fn (.func 141) [] []), (10, .raw (.int .i64 (x.1 : Int))), (11, .raw (.int .i64 (x.2 : Int)))], [(0, .row 65 5 ((List.range n).map fun z => enA (d (σ z))))])) 1 (a + 1, b) ⟨Nat.le_refl _, by simp only; omega, Nat.le_refl _, he.symm⟩ [] ?_ ?_
   · simp only [go_sem, AObj.bel, AObj.ren, AV.ren, aA, sg, Int.natCast_zero] <;> simp [enA]
   rintro ⟨i, j⟩ ⟨hi, hij, hj, hbs⟩
   simp only at hi hij hj hbs ⊢
   refine sq fun _ k6 => aj ?_
   refine cd rfl (fun hc2 => ?_) fun hc2 => ?_
   · have hlt : i < j := by simpa using hc2
     refine wk (k6 (wb ?_))
     have hma : IntKind.i64.wrap ((i : Int) + (j : Int)) = ((i + j : Nat) : Int) := by rw [w64]; omega
     have hmb : IntKind.u64.wrap ((i + j : Nat) : Int) = ((i + j : Nat) : Int) := by rw [IntKind.wrap_u64]; omega
     have hmc : Int.fdiv ((i + j : Nat) : Int) (2 ^ min (Int.toNat 1) 64) = (((i + j) / 2 : Nat) : Int) := by show Int.fdiv ((i + j : Nat) : Int) 2 = _; rw [Int.fdiv_eq_ediv_of_nonneg _ (by omega)]; omega
     have hmd : IntKind.i64.wrap (((i + j) / 2 : Nat) : Int) = (((i + j) / 2 : Nat) : Int) := by rw [w64]; omega
     refine sr rfl fun _ k8 => ?_; simp only [go_sem, hma, hmb, hmc, hmd]
     refine jr (k8 ?_)
     have hr1 : (List.range n)[(i + j) / 2]? = some ((i + j) / 2) := List.getElem?_range (by omega)
     have hr2 : (List.range n)[a]? = some (a) := List.getElem?_range (by omega)
     refine sd mixed rfl fun _ k9 => ?_; simp only [go_sem, hr1, hr2, enA, List.length_set, List.length_map, List.length_range]; refine jr ?_
     refine tf (first := []) (cap := []) (xs := [enA (d (σ ((i + j) / 2))), enA (d (σ a))]) rfl rfl rfl (by rfl) ⟨Tryz.func141, rfl, rfl⟩ (gX (d (σ ((i + j) / 2))) (d (σ a))) (by rfl) (by rfl) (by simp only [go_sem, enA]) ?_
     simp only [go_sem, wM]; refine jr ?_; refine ⟨by rfl, ?_⟩; apply k9
     refine cd rfl (fun hc3 => ?_) fun hc3 => ?_
     · have hwh : IntKind.i64.wrap ((((i + j) / 2 : Nat) : Int) + 1) = (((i + j) / 2 + 1 : Nat) : Int) := by rw [w64]; omega
       refine wg rfl ?_; simp only [go_sem, hwh]; refine jt ?_; refine jt ?_
       refine ⟨((i + j) / 2 + 1, j), ⟨by simp only; omega, by simp only; omega, by simp only; omega, by simp only; rw [wW hlt (by omega), if_neg (by simp only [lE] at *; rw [hc3]; simp)] at hbs; exact hbs⟩, by simp only; omega, [], ?_⟩
       simp only [go_sem, AObj.bel, AObj.ren, AV.ren, aA, sg, Int.natCast_zero] <;> simp [enA]
     refine wg rfl ?_; simp only [go_sem]; refine jt ?_; refine jt ?_
     refine ⟨(i, (i + j) / 2), ⟨by simp only; omega, by simp only; omega, by simp only; omega, by simp only; rw [wW hlt (by omega), if_pos (by simp only [lE] at *; rw [hc3]; rfl)] at hbs; exact hbs⟩, by simp only; omega, [], ?_⟩
     simp only [go_sem, AObj.bel, AObj.ren, AV.ren, aA, sg, Int.natCast_zero] <;> simp [enA]
   have hlt : ¬ i < j := by simpa using hc2
   have hie : e = i := by rw [← hbs]; exact bs_stop hlt
   subst hie
   refine we (jt (k5 ?_))
   refine sq fun _ k10 => aj (wb ?_)
   refine wl (α := Nat) (fun x => a ≤ x ∧ x + 1 ≤ e) (fun x => e - x) (fun x => ([(0, .ref 0), (10, .raw (.int .i64 (e : Int))), (13, .raw (.int .i64 (x : Int)))], [(0, .row 65 5 ((List.range n).map fun z => enA (d (rot σ a (a + 1) (x + 1) z))))])) 1 a ⟨Nat.le_refl _, by omega⟩ [] ?_ ?_
   · simp only [go_sem, AObj.bel, AObj.ren, AV.ren, aA, sg, rot_up0] <;> simp
   rintro k ⟨hk, hke⟩
   refine sq fun _ k12 => ?_
   have hwe : IntKind.i64.wrap ((e : Int) - 1) = (e : Int) - 1 := by rw [w64]; omega
   refine sr rfl fun _ k13 => ?_; simp only [go_sem, hwe]; apply k13
   refine cdS rfl (fun hc4 => ?_) fun hc4 => ?_
   · have hke : k + 1 = e := by simp at hc4; omega
     refine we (jt (k10 (wR ?_)))
     rw [hA, ← hke]; refine ⟨[], ?_⟩
     simp only [go_sem, AObj.bel, AObj.ren, AV.ren, aA, sg, bY] <;> simp [enA]
   have hlt : k + 1 < e := by simp at hc4; omega
   refine wk (k12 (sq fun _ k14 => (wb ?_)))
   have hrow : (((List.range n).map fun z => (.agg [.raw (.string (d (rot σ a (a + 1) (k + 1) z)).key), .raw (.int .i64 (d (rot σ a (a + 1) (k + 1) z)).seq), .raw (.int .i64 (d (rot σ a (a + 1) (k + 1) z)).kind), .raw (.string (d (rot σ a (a + 1) (k + 1) z)).text), .raw (.int .i64 (d (rot σ a (a + 1) (k + 1) z)).n)])).set (k) (.agg [.raw (.string (d (rot σ a (a + 1) (k + 1) (k + 1))).key), .raw (.int .i64 (d (rot σ a (a + 1) (k + 1) (k + 1))).seq), .raw (.int .i64 (d (rot σ a (a + 1) (k + 1) (k + 1))).kind), .raw (.string (d (rot σ a (a + 1) (k + 1) (k + 1))).text), .raw (.int .i64 (d (rot σ a (a + 1) (k + 1) (k + 1))).n)])).set (k + 1) (.agg [.raw (.string (d (rot σ a (a + 1) (k + 1) (k))).key), .raw (.int .i64 (d (rot σ a (a + 1) (k + 1) (k))).seq), .raw (.int .i64 (d (rot σ a (a + 1) (k + 1) (k))).kind), .raw (.string (d (rot σ a (a + 1) (k + 1) (k))).text), .raw (.int .i64 (d (rot σ a (a + 1) (k + 1) (k))).n)]) = (List.range n).map fun z => enA (d (rot σ a (a + 1) (k + 2) z)) := by
     have h9 := row_sw d n (rot σ a (a + 1) (k + 1)) (p := k) (q := k + 1) (by omega) (by omega)
     rw [rot_up σ (by omega)] at h9; exact h9
   have hs1 : ∀ (y : AV), (((List.range n).map fun z => (.agg [.raw (.string (d (rot σ a (a + 1) (k + 1) z)).key), .raw (.int .i64 (d (rot σ a (a + 1) (k + 1) z)).seq), .raw (.int .i64 (d (rot σ a (a + 1) (k + 1) z)).kind), .raw (.string (d (rot σ a (a + 1) (k + 1) z)).text), .raw (.int .i64 (d (rot σ a (a + 1) (k + 1) z)).n)])).set (k) y)[k + 1]? = ((List.range n).map fun z => (.agg [.raw (.string (d (rot σ a (a + 1) (k + 1) z)).key), .raw (.int .i64 (d (rot σ a (a + 1) (k + 1) z)).seq), .raw (.int .i64 (d (rot σ a (a + 1) (k + 1) z)).kind), .raw (.string (d (rot σ a (a + 1) (k + 1) z)).text), .raw (.int .i64 (d (rot σ a (a + 1) (k + 1) z)).n)]))[k + 1]? := fun y => set_ne (by omega) y
   have hr1 : (List.range n)[k]? = some (k) := List.getElem?_range (by omega)
   have hr2 : (List.range n)[k + 1]? = some (k + 1) := List.getElem?_range (by omega)
   have hwk := wiS k (by omega)
   refine nS mixed rfl ?_
   simp only [go_sem, hr1, hr2, hwk, hs1, enA, List.length_set, List.length_map, List.length_range]; refine jr ?_; rw [hrow]; refine ⟨by rfl, ?_⟩
   refine jt (k14 ?_)
   have hwk := wiS k (by omega)
   refine wg rfl ?_; simp only [go_sem, hwk]; refine jt ?_
   refine ⟨k + 1, ⟨by omega, by omega⟩, by omega, [], ?_⟩
   simp only [go_sem, AObj.bel, AObj.ren, AV.ren, aA, sg, Int.natCast_zero] <;> simp [enA]
 have hm : ¬ m - a = 1 := by simp at hc1; omega
 refine wk (k1 (sq fun _ k15 => (sr rfl fun _ k16 => ?_)))
 simp only [go_sem, hw12]; apply k16
 refine cd rfl (fun hc5 => ?_) fun hc5 => ?_
 · have hb : b = m + 1 := by simp at hc5; omega
   subst hb
   obtain ⟨e, he⟩ : ∃ e, e = eR (fun h => lE d (σ m) (σ h)) m a m := ⟨_, rfl⟩
   have hB : iW (lE d) (f + 1) σ a m (m + 1) = rot σ e m (m + 1) := by rw [iW, if_neg hm, if_pos (by omega), ← he]
   have hbe := Plain.bs_ok (fun h => lE d (σ m) (σ h)) (f := m) (s := a) (r := m) (by omega) (by omega)
   rw [← he] at hbe; refine aj ?_; refine aj ?_
   refine sq fun _ k19 => wb ?_
   refine wl (α := Nat × Nat) (fun x => a ≤ x.1 ∧ x.1 ≤ x.2 ∧ x.2 ≤ m ∧ eR (fun h => lE d (σ m) (σ h)) m x.1 x.2 = e) (fun x => x.2 - x.1) (fun x => ([(0, .ref 0), (2, .raw (.int .i64 (m : Int))), (4, .fn (.func 141) [] []), (14, .raw (.int .i64 (x.1 : Int))), (15, .raw (.int .i64 (x.2 : Int)))], [(0, .row 65 5 ((List.range n).map fun z => enA (d (σ z))))])) 1 (a, m) ⟨Nat.le_refl _, by simp only; omega, Nat.le_refl _, he.symm⟩ [] ?_ ?_
   · simp only [go_sem, AObj.bel, AObj.ren, AV.ren, aA, sg, Int.natCast_zero] <;> simp [enA]
   rintro ⟨i, j⟩ ⟨hi, hij, hj, hbs⟩
   simp only at hi hij hj hbs ⊢
   refine sq fun _ k20 => aj ?_
   refine cd rfl (fun hc6 => ?_) fun hc6 => ?_
   · have hlt : i < j := by simpa using hc6
     refine wk (k20 (wb ?_))
     have hma : IntKind.i64.wrap ((i : Int) + (j : Int)) = ((i + j : Nat) : Int) := by rw [w64]; omega
     have hmb : IntKind.u64.wrap ((i + j : Nat) : Int) = ((i + j : Nat) : Int) := by rw [IntKind.wrap_u64]; omega
     have hmc : Int.fdiv ((i + j : Nat) : Int) (2 ^ min (Int.toNat 1) 64) = (((i + j) / 2 : Nat) : Int) := by show Int.fdiv ((i + j : Nat) : Int) 2 = _; rw [Int.fdiv_eq_ediv_of_nonneg _ (by omega)]; omega
     have hmd : IntKind.i64.wrap (((i + j) / 2 : Nat) : Int) = (((i + j) / 2 : Nat) : Int) := by rw [w64]; omega
     refine sr rfl fun _ k22 => ?_; simp only [go_sem, hma, hmb, hmc, hmd]
     refine jr (k22 ?_)
     have hr1 : (List.range n)[(i + j) / 2]? = some ((i + j) / 2) := List.getElem?_range (by omega)
     have hr2 : (List.range n)[m]? = some (m) := List.getElem?_range (by omega)
     refine sd mixed rfl fun _ k23 => ?_; simp only [go_sem, hr1, hr2, enA, List.length_set, List.length_map, List.length_range]; refine jr ?_
     refine tf (first := []) (cap := []) (xs := [enA (d (σ m)), enA (d (σ ((i + j) / 2)))]) rfl rfl rfl (by rfl) ⟨Tryz.func141, rfl, rfl⟩ (gX (d (σ m)) (d (σ ((i + j) / 2)))) (by rfl) (by rfl) (by simp only [go_sem, enA]) ?_
     simp only [go_sem, wM]; refine jr ?_; refine ⟨by rfl, ?_⟩; apply k23
     refine cd rfl (fun hc7 => ?_) fun hc7 => ?_
     · have hwh : IntKind.i64.wrap ((((i + j) / 2 : Nat) : Int) + 1) = (((i + j) / 2 + 1 : Nat) : Int) := by rw [w64]; omega
       refine wg rfl ?_; simp only [go_sem, hwh]; refine jt ?_; refine jt ?_
       refine ⟨((i + j) / 2 + 1, j), ⟨by simp only; omega, by simp only; omega, by simp only; omega, by simp only; rw [wW hlt (by omega), if_neg (by simp only [lE] at *; simpa using hc7)] at hbs; exact hbs⟩, by simp only; omega, [], ?_⟩
       simp only [go_sem, AObj.bel, AObj.ren, AV.ren, aA, sg, Int.natCast_zero] <;> simp [enA]
     refine wg rfl ?_; simp only [go_sem]; refine jt ?_; refine jt ?_
     refine ⟨(i, (i + j) / 2), ⟨by simp only; omega, by simp only; omega, by simp only; omega, by simp only; rw [wW hlt (by omega), if_pos (by simp only [lE] at *; simpa using hc7)] at hbs; exact hbs⟩, by simp only; omega, [], ?_⟩
     simp only [go_sem, AObj.bel, AObj.ren, AV.ren, aA, sg, Int.natCast_zero] <;> simp [enA]
   have hlt : ¬ i < j := by simpa using hc6
   have hie : e = i := by rw [← hbs]; exact bs_stop hlt
   subst hie
   refine we (jt (k19 ?_))
   refine sq fun _ k24 => aj (wb ?_)
   refine wl (α := Nat) (fun x => e ≤ x ∧ x ≤ m) (fun x => x - e) (fun x => ([(0, .ref 0), (14, .raw (.int .i64 (e : Int))), (17, .raw (.int .i64 (x : Int)))], [(0, .row 65 5 ((List.range n).map fun z => enA (d (rot σ x m (m + 1) z))))])) 1 m ⟨by omega, Nat.le_refl _⟩ [] ?_ ?_
   · simp only [go_sem, AObj.bel, AObj.ren, AV.ren, aA, sg, rot_dn0] <;> simp
   rintro k ⟨hk, hkm⟩
   refine sq fun _ k26 => aj ?_
   refine cdS rfl (fun hc8 => ?_) fun hc8 => ?_
   · have hke : k = e := by have h9 : ¬ e < k := (by simpa using hc8); omega
     refine we (jt (k24 (wR ?_)))
     rw [hB, ← hke]; refine ⟨[], ?_⟩
     simp only [go_sem, AObj.bel, AObj.ren, AV.ren, aA, sg, bY] <;> simp [enA]
   have hlt : e < k := by simpa using hc8
   refine wk (k26 (sq fun _ k28 => (wb ?_)))
   have hrow : (((List.range n).map fun z => (.agg [.raw (.string (d (rot σ k m (m + 1) z)).key), .raw (.int .i64 (d (rot σ k m (m + 1) z)).seq), .raw (.int .i64 (d (rot σ k m (m + 1) z)).kind), .raw (.string (d (rot σ k m (m + 1) z)).text), .raw (.int .i64 (d (rot σ k m (m + 1) z)).n)])).set (k) (.agg [.raw (.string (d (rot σ k m (m + 1) (k - 1))).key), .raw (.int .i64 (d (rot σ k m (m + 1) (k - 1))).seq), .raw (.int .i64 (d (rot σ k m (m + 1) (k - 1))).kind), .raw (.string (d (rot σ k m (m + 1) (k - 1))).text), .raw (.int .i64 (d (rot σ k m (m + 1) (k - 1))).n)])).set (k - 1) (.agg [.raw (.string (d (rot σ k m (m + 1) (k))).key), .raw (.int .i64 (d (rot σ k m (m + 1) (k))).seq), .raw (.int .i64 (d (rot σ k m (m + 1) (k))).kind), .raw (.string (d (rot σ k m (m + 1) (k))).text), .raw (.int .i64 (d (rot σ k m (m + 1) (k))).n)]) = (List.range n).map fun z => enA (d (rot σ (k - 1) m (m + 1) z)) := by
     have h9 := row_sw d n (rot σ k m (m + 1)) (p := k) (q := k - 1) (by omega) (by omega)
     rw [rot_dn σ (by omega) (by omega)] at h9; exact h9
   have hs1 : ∀ (y : AV), (((List.range n).map fun z => (.agg [.raw (.string (d (rot σ k m (m + 1) z)).key), .raw (.int .i64 (d (rot σ k m (m + 1) z)).seq), .raw (.int .i64 (d (rot σ k m (m + 1) z)).kind), .raw (.string (d (rot σ k m (m + 1) z)).text), .raw (.int .i64 (d (rot σ k m (m + 1) z)).n)])).set (k) y)[k - 1]? = ((List.range n).map fun z => (.agg [.raw (.string (d (rot σ k m (m + 1) z)).key), .raw (.int .i64 (d (rot σ k m (m + 1) z)).seq), .raw (.int .i64 (d (rot σ k m (m + 1) z)).kind), .raw (.string (d (rot σ k m (m + 1) z)).text), .raw (.int .i64 (d (rot σ k m (m + 1) z)).n)]))[k - 1]? := fun y => set_ne (by omega) y
   have hr1 : (List.range n)[k]? = some (k) := List.getElem?_range (by omega)
   have hr2 : (List.range n)[k - 1]? = some (k - 1) := List.getElem?_range (by omega)
   have hwk : IntKind.i64.wrap ((k : Int) - 1) = (k : Int) - 1 := by rw [w64]; omega
   have hpn : ((k : Int) - 1).toNat = k - 1 := by omega
   refine nS mixed rfl ?_
   simp only [go_sem, hr1, hr2, hwk, hpn, hs1, enA, List.length_set, List.length_map, List.length_range]; refine jr ?_; rw [hrow]; refine ⟨by rfl, ?_⟩
   refine jt (k28 ?_)
   have hwk2 : IntKind.i64.wrap ((k : Int) - 1) = ((k - 1 : Nat) : Int) := by rw [w64]; omega
   refine wg rfl ?_; simp only [go_sem, hwk2]; refine jt ?_
   refine ⟨k - 1, ⟨by omega, by omega⟩, by omega, [], ?_⟩
   simp only [go_sem, AObj.bel, AObj.ren, AV.ren, aA, sg, Int.natCast_zero] <;> simp [enA]
 have hb : ¬ b - m = 1 := by simp at hc5; omega
 have hcut := Plain.symCut_ok (l := lE d) (σ := σ) h1 h2
 obtain ⟨mid, hmid⟩ : ∃ mid, mid = (a + b) / 2 := ⟨_, rfl⟩
 obtain ⟨st, hst⟩ : ∃ st, st = gI (lE d) σ a m b := ⟨_, rfl⟩
 obtain ⟨en, hen⟩ : ∃ en, en = mid + m - st := ⟨_, rfl⟩
 rw [← hst, ← hmid, ← hen] at hcut
 obtain ⟨k1, k2, k3, k4, k5, -, -⟩ := hcut
 obtain ⟨s0, hs0⟩ : ∃ s0, s0 = if mid < m then mid + m - b else a := ⟨_, rfl⟩
 obtain ⟨r0, hr0⟩ : ∃ r0, r0 = if mid < m then mid else m := ⟨_, rfl⟩
 have he : st = eR (fun c => lE d (σ (mid + m - 1 - c)) (σ c)) b s0 r0 := by rw [hst, hs0, hr0, hmid]; rfl
 have hsb : s0 ≤ r0 ∧ mid + m ≤ b + s0 ∧ r0 ≤ mid ∧ r0 ≤ m ∧ a ≤ s0 := by rw [hs0, hr0]; split <;> omega
 obtain ⟨σ1, hσ1⟩ : ∃ σ1, σ1 = if st < m ∧ m < en then rot σ st m en else σ := ⟨_, rfl⟩
 obtain ⟨σ2, hσ2⟩ : ∃ σ2, σ2 = if a < st ∧ st < mid then iW (lE d) f σ1 a st mid else σ1 := ⟨_, rfl⟩
 have hC : iW (lE d) (f + 1) σ a m b = if mid < en ∧ en < b then iW (lE d) f σ2 mid en b else σ2 := by
   rw [iW, if_neg hm, if_neg hb]; simp only; rw [hσ2, hσ1, hen, hst, hmid]
 have hmid2 : (a + b) / 2 = mid := hmid.symm
 refine wk (k15 ?_)
 have hma : IntKind.i64.wrap ((a : Int) + (b : Int)) = ((a + b : Nat) : Int) := by rw [w64]; omega
 have hmb : IntKind.u64.wrap ((a + b : Nat) : Int) = ((a + b : Nat) : Int) := by rw [IntKind.wrap_u64]; omega
 have hmc : Int.fdiv ((a + b : Nat) : Int) (2 ^ min (Int.toNat 1) 64) = (((a + b) / 2 : Nat) : Int) := by show Int.fdiv ((a + b : Nat) : Int) 2 = _; rw [Int.fdiv_eq_ediv_of_nonneg _ (by omega)]; omega
 have hmd : IntKind.i64.wrap (((a + b) / 2 : Nat) : Int) = (((a + b) / 2 : Nat) : Int) := by rw [w64]; omega
 rw [hmid2] at hmc hmd
 refine sr rfl fun _ k29 => ?_; simp only [go_sem, hma, hmb, hmc, hmd]
 refine jr (k29 ?_)
 have hwn : IntKind.i64.wrap ((mid : Int) + (m : Int)) = ((mid + m : Nat) : Int) := by rw [w64]; omega
 refine sr rfl fun _ k30 => ?_; simp only [go_sem, hwn]
 refine k30 (aj ?_)
 refine awp_mid (α := Unit) (fun x => True) (fun x => ([(0, .ref 0), (1, .raw (.int .i64 (a : Int))), (2, .raw (.int .i64 (m : Int))), (3, .raw (.int .i64 (b : Int))), (4, .fn (.func 141) [] []), (18, .raw (.int .i64 (mid : Int))), (19, .raw (.int .i64 ((mid + m : Nat) : Int))), (20, .raw (.int .i64 (s0 : Int))), (21, .raw (.int .i64 (r0 : Int)))], [(0, .row 65 5 ((List.range n).map fun z => enA (d (σ z))))])) 1 ?_ ?_
 · refine aj ?_
   refine cd rfl (fun hc9 => ?_) fun hc9 => ?_
   · have hlt : mid < m := by simpa using hc9
     have q1 : s0 = mid + m - b := by rw [hs0, if_pos hlt]
     have q2 : r0 = mid := by rw [hr0, if_pos hlt]
     have hws : IntKind.i64.wrap (((mid + m : Nat) : Int) - (b : Int)) = ((mid + m - b : Nat) : Int) := by rw [w64]; omega
     refine sr rfl fun _ k34 => ?_; simp only [go_sem, hws]; apply k34; refine wg rfl ?_; simp only [go_sem]; try simp only [midQ]
     refine ⟨(), trivial, [], ?_⟩
     simp only [go_sem, AObj.bel, AObj.ren, AV.ren, aA, sg, Int.natCast_zero] <;> simp [enA, q1, q2]
   have hlt : ¬ mid < m := by simpa using hc9
   have q1 : s0 = a := by rw [hs0, if_neg hlt]
   have q2 : r0 = m := by rw [hr0, if_neg hlt]
   refine aj ?_; refine wg rfl ?_; simp only [go_sem]; try simp only [midQ]
   refine ⟨(), trivial, [], ?_⟩
   simp only [go_sem, AObj.bel, AObj.ren, AV.ren, aA, sg, Int.natCast_zero] <;> simp [enA, q1, q2]
 rintro ⟨⟩ -
 have hwp : IntKind.i64.wrap (((mid + m : Nat) : Int) - 1) = ((mid + m - 1 : Nat) : Int) := by rw [w64]; omega
 refine sr rfl fun _ k36 => ?_; simp only [go_sem, hwp]
 refine k36 (sq fun _ k37 => (wb ?_))
 refine wl (α := Nat × Nat) (fun x => s0 ≤ x.1 ∧ x.1 ≤ x.2 ∧ x.2 ≤ r0 ∧ eR (fun c => lE d (σ (mid + m - 1 - c)) (σ c)) b x.1 x.2 = st) (fun x => x.2 - x.1) (fun x => ([(0, .ref 0), (1, .raw (.int .i64 (a : Int))), (2, .raw (.int .i64 (m : Int))), (3, .raw (.int .i64 (b : Int))), (4, .fn (.func 141) [] []), (18, .raw (.int .i64 (mid : Int))), (19, .raw (.int .i64 ((mid + m : Nat) : Int))), (20, .raw (.int .i64 (x.1 : Int))), (21, .raw (.int .i64 (x.2 : Int))), (22, .raw (.int .i64 ((mid + m - 1 : Nat) : Int)))], [(0, .row 65 5 ((List.range n).map fun z => enA (d (σ z))))])) 1 (s0, r0) ⟨Nat.le_refl _, by simp only; omega, Nat.le_refl _, he.symm⟩ [] ?_ ?_
 · simp only [go_sem, AObj.bel, AObj.ren, AV.ren, aA, sg, Int.natCast_zero] <;> simp [enA]
 rintro ⟨i, j⟩ ⟨hi, hij, hj, hbs⟩
 simp only at hi hij hj hbs ⊢
 refine sq fun _ k38 => aj ?_
 refine cd rfl (fun hc10 => ?_) fun hc10 => ?_
 · have hlt : i < j := by simpa using hc10
   refine wk (k38 (wb ?_))
   have hma : IntKind.i64.wrap ((i : Int) + (j : Int)) = ((i + j : Nat) : Int) := by rw [w64]; omega
   have hmb : IntKind.u64.wrap ((i + j : Nat) : Int) = ((i + j : Nat) : Int) := by rw [IntKind.wrap_u64]; omega
   have hmc : Int.fdiv ((i + j : Nat) : Int) (2 ^ min (Int.toNat 1) 64) = (((i + j) / 2 : Nat) : Int) := by show Int.fdiv ((i + j : Nat) : Int) 2 = _; rw [Int.fdiv_eq_ediv_of_nonneg _ (by omega)]; omega
   have hmd : IntKind.i64.wrap (((i + j) / 2 : Nat) : Int) = (((i + j) / 2 : Nat) : Int) := by rw [w64]; omega
   refine sr rfl fun _ k40 => ?_; simp only [go_sem, hma, hmb, hmc, hmd]
   refine jr (k40 ?_)
   have hr1 : (List.range n)[mid + m - 1 - (i + j) / 2]? = some (mid + m - 1 - (i + j) / 2) := List.getElem?_range (by omega)
   have hr2 : (List.range n)[(i + j) / 2]? = some ((i + j) / 2) := List.getElem?_range (by omega)
   have hwpc : IntKind.i64.wrap (((mid + m - 1 : Nat) : Int) - (((i + j) / 2 : Nat) : Int)) = ((mid + m - 1 - (i + j) / 2 : Nat) : Int) := by rw [w64]; omega
   refine sd mixed rfl fun _ k41 => ?_; simp only [go_sem, hr1, hr2, hwpc, enA, List.length_set, List.length_map, List.length_range]; refine jr ?_
   refine tf (first := []) (cap := []) (xs := [enA (d (σ (mid + m - 1 - (i + j) / 2))), enA (d (σ ((i + j) / 2)))]) rfl rfl rfl (by rfl) ⟨Tryz.func141, rfl, rfl⟩ (gX (d (σ (mid + m - 1 - (i + j) / 2))) (d (σ ((i + j) / 2)))) (by rfl) (by rfl) (by simp only [go_sem, enA]) ?_
   simp only [go_sem, wM]; refine jr ?_; refine ⟨by rfl, ?_⟩; apply k41
   refine cd rfl (fun hc11 => ?_) fun hc11 => ?_
   · have hwh : IntKind.i64.wrap ((((i + j) / 2 : Nat) : Int) + 1) = (((i + j) / 2 + 1 : Nat) : Int) := by rw [w64]; omega
     refine wg rfl ?_; simp only [go_sem, hwh]; refine jt ?_; refine jt ?_
     refine ⟨((i + j) / 2 + 1, j), ⟨by simp only; omega, by simp only; omega, by simp only; omega, by simp only; rw [wW hlt (by omega), if_neg (by simp only [lE] at *; simpa using hc11)] at hbs; exact hbs⟩, by simp only; omega, [], ?_⟩
     simp only [go_sem, AObj.bel, AObj.ren, AV.ren, aA, sg, Int.natCast_zero] <;> simp [enA]
   refine wg rfl ?_; simp only [go_sem]; refine jt ?_; refine jt ?_
   refine ⟨(i, (i + j) / 2), ⟨by simp only; omega, by simp only; omega, by simp only; omega, by simp only; rw [wW hlt (by omega), if_pos (by simp only [lE] at *; simpa using hc11)] at hbs; exact hbs⟩, by simp only; omega, [], ?_⟩
   simp only [go_sem, AObj.bel, AObj.ren, AV.ren, aA, sg, Int.natCast_zero] <;> simp [enA]
 have hlt : ¬ i < j := by simpa using hc10
 have hie : st = i := by rw [← hbs]; exact bs_stop hlt
 rw [← hie]
 refine we (jt (k37 ?_))
 have hwen : IntKind.i64.wrap (((mid + m : Nat) : Int) - (st : Int)) = (en : Int) := by rw [w64]; omega
 refine sr rfl fun _ k42 => ?_; simp only [go_sem, hwen]; apply k42
 refine awp_mid (α := Unit) (fun x => True) (fun x => ([(0, .ref 0), (1, .raw (.int .i64 (a : Int))), (3, .raw (.int .i64 (b : Int))), (4, .fn (.func 141) [] []), (18, .raw (.int .i64 (mid : Int))), (20, .raw (.int .i64 (st : Int))), (24, .raw (.int .i64 (en : Int)))], [(0, .row 65 5 ((List.range n).map fun z => enA (d (σ1 z))))])) 1 ?_ ?_
 · refine aj ?_
   refine cdS rfl (fun hc12 => ?_) fun hc12 => ?_
   · have hx : ¬ (st < m ∧ m < en) := by intro h; simp at hc12; omega
     have q1 : σ1 = σ := by rw [hσ1, if_neg hx]
     refine wk ?_; try simp only [midQ]
     refine ⟨(), trivial, [], ?_⟩
     simp only [go_sem, AObj.bel, AObj.ren, AV.ren, aA, sg, Int.natCast_zero] <;> simp [enA, q1]
   have hx : st < m ∧ m < en := by simp at hc12; omega
   have q1 : σ1 = rot σ st m en := by rw [hσ1, if_pos hx]
   refine wg rfl ?_; simp only [go_sem]
   refine vg [] 0 rfl rfl rfl ⟨Tryz.func230, rfl, rfl⟩ (lC d n σ hn st m en hx.1 hx.2 (by omega)) rfl (by simp only [go_sem, eZ]) (by simp only [go_sem, eZ]) (mD (H1 := []) (.inl rfl) (by simp only [go_sem, bY]) (by simp only [go_sem, AObj.bel, bY])) (.inl rfl) ?_
   simp only [go_sem, AV.ren, AObj.ren, aA, shift, sg, Nat.le_refl, Nat.add_zero, Nat.sub_self, bY]; try simp only [midQ]
   refine ⟨(), trivial, [], ?_⟩
   simp only [go_sem, AObj.bel, AObj.ren, AV.ren, aA, sg, Int.natCast_zero] <;> simp [enA, q1]
 rintro ⟨⟩ -
 refine awp_mid (α := Unit) (fun x => True) (fun x => ([(0, .ref 0), (3, .raw (.int .i64 (b : Int))), (4, .fn (.func 141) [] []), (18, .raw (.int .i64 (mid : Int))), (24, .raw (.int .i64 (en : Int)))], [(0, .row 65 5 ((List.range n).map fun z => enA (d (σ2 z))))])) 1 ?_ ?_
 · refine aj ?_
   refine cdS rfl (fun hc13 => ?_) fun hc13 => ?_
   · have hx : ¬ (a < st ∧ st < mid) := by intro h; simp at hc13; omega
     have q1 : σ2 = σ1 := by rw [hσ2, if_neg hx]
     refine wk ?_; try simp only [midQ]
     refine ⟨(), trivial, [], ?_⟩
     simp only [go_sem, AObj.bel, AObj.ren, AV.ren, aA, sg, Int.natCast_zero] <;> simp [enA, q1]
   have hx : a < st ∧ st < mid := by simp at hc13; omega
   have q1 : σ2 = iW (lE d) f σ1 a st mid := by rw [hσ2, if_pos hx]
   refine wg rfl ?_; simp only [go_sem]
   refine vg [] 0 rfl rfl rfl ⟨Tryz.func212, rfl, rfl⟩ (ih σ1 a st mid (by omega) hx.1 hx.2 (by omega)) rfl (by simp only [go_sem, eZ]) (by simp only [go_sem, eZ]) (mD (H1 := []) (.inl rfl) (by simp only [go_sem, bY]) (by simp only [go_sem, AObj.bel, bY])) (.inl rfl) ?_
   simp only [go_sem, AV.ren, AObj.ren, aA, shift, sg, Nat.le_refl, Nat.add_zero, Nat.sub_self, bY]; try simp only [midQ]
   refine ⟨(), trivial, [], ?_⟩
   simp only [go_sem, AObj.bel, AObj.ren, AV.ren, aA, sg, Int.natCast_zero] <;> simp [enA, q1]
 rintro ⟨⟩ -
 refine aj ?_
 refine cdS rfl (fun hc14 => ?_) fun hc14 => ?_
 · have hx : ¬ (mid < en ∧ en < b) := by intro h; simp at hc14; omega
   rw [hC, if_neg hx]; refine wk ?_; refine ⟨[], ?_⟩
   simp only [go_sem, AObj.bel, AObj.ren, AV.ren, aA, sg, bY] <;> simp [enA]
 have hx : mid < en ∧ en < b := by simp at hc14; omega
 rw [hC, if_pos hx]; refine wg rfl ?_; simp only [go_sem]
 refine vg [] 0 rfl rfl rfl ⟨Tryz.func212, rfl, rfl⟩ (ih σ2 mid en b (by omega) hx.1 hx.2 h3) rfl (by simp only [go_sem, eZ]) (by simp only [go_sem, eZ]) (mD (H1 := []) (.inl rfl) (by simp only [go_sem, bY]) (by simp only [go_sem, AObj.bel, bY])) (.inl rfl) ?_
 simp only [go_sem, AV.ren, AObj.ren, aA, shift, sg, Nat.le_refl, Nat.add_zero, Nat.sub_self, bY]; refine ⟨[], ?_⟩
 simp only [go_sem, AObj.bel, AObj.ren, AV.ren, aA, sg, bY] <;> simp [enA]
theorem yX (d : Nat → Entry) (n : Nat) (hn : n ≤ 1048576) : ∀ (f : Nat) (σ : Nat → Nat) (a m b : Nat), b - a ≤ f → a < m → m < b → b ≤ n →
    aD P 212 [.ref 0, .raw (.int .i64 (a : Int)), .raw (.int .i64 (m : Int)), .raw (.int .i64 (b : Int)), eZ] [(0, bY d n σ)] 1 (.tup []) [(0, bY d n (iW (lE d) f σ a m b))] 1
  | 0, _, _, _, _, h, h1, h2, _ => by omega
  | f + 1, σ, a, m, b, h, h1, h2, h3 => w_symMerge_s d n σ hn f (yX d n hn f) a m b h h1 h2 h3
end
end Go.Proofs.S
end
section
open Go Go.Abs Go.Proofs
open Go.Plain (jR lY mK lH stab eO iW swp rot)
namespace Go.Proofs.S
section
variable {σ : Nat → Nat} {n bs f a : Nat}
theorem blk_step {l : Nat → Nat → Bool} (h : a + bs ≤ n) : jR l n bs (f + 1) σ a = jR l n bs f (eO l σ a (a + bs)) (a + bs) := by rw [jR, if_pos h]
theorem blk_stop {l : Nat → Nat → Bool} (h : ¬ a + bs ≤ n) : jR l n bs f σ a = (σ, a) := by
  cases f with
  | zero => rfl
  | succ f => rw [jR, if_neg h]
theorem mrg_step {l : Nat → Nat → Bool} (h : a + 2 * bs ≤ n) : lY l n bs (f + 1) σ a = lY l n bs f (iW l n σ a (a + bs) (a + 2 * bs)) (a + 2 * bs) := by rw [lY, if_pos h]
theorem mrg_stop {l : Nat → Nat → Bool} (h : ¬ a + 2 * bs ≤ n) : lY l n bs f σ a = (σ, a) := by
  cases f with
  | zero => rfl
  | succ f => rw [lY, if_neg h]
theorem stab_step {l : Nat → Nat → Bool} (h : bs < n) : lH l n (f + 1) bs σ = lH l n f (2 * bs) (mK l n bs (lY l n bs n σ 0)) := by rw [lH, if_pos h]
theorem stab_stop {l : Nat → Nat → Bool} (h : ¬ bs < n) : lH l n f bs σ = σ := by
  cases f with
  | zero => rfl
  | succ f => rw [lH, if_neg h]
theorem stab_def (l : Nat → Nat → Bool) (n : Nat) (h : jR l n 20 n id 0 = (σ, a)) : stab l n = lH l n n 20 (eO l σ a n) := by unfold stab; rw [h]
def dD (ls : List Entry) : List Entry := ls.foldl jF []
theorem pos_eq (ls : List Entry) (e : Entry) : ∀ k, k ≤ ls.length → Plain.pos entLt ls e k = xQ ls e k
  | 0, _ => rfl
  | k + 1, h => by
    unfold Plain.pos xQ; rw [List.getElem?_eq_getElem (by omega)]; simp only [Option.getD_some]; rw [pos_eq ls e k (by omega)]
theorem put_eq (ls : List Entry) (e : Entry) : Plain.put entLt ls e = jF ls e := by
  unfold Plain.put jF yK; rw [pos_eq ls e ls.length (Nat.le_refl _)]
theorem sortE_put (ls : List Entry) : dD ls = ls.foldl (Plain.put entLt) [] := by
  unfold dD
  have : jF = Plain.put entLt := by funext a b; exact (put_eq a b).symm
  rw [this]
def dOf (ls : List Entry) : Nat → Entry := fun k => ls.getD k lD
theorem dOf_get {ls : List Entry} {k : Nat} (h : k < ls.length) : ls[k]? = some (dOf ls k) := by simp [dOf, List.getD_eq_getElem?_getD, List.getElem?_eq_getElem h]
theorem row_dOf (ls : List Entry) : ls.map enA = (List.range ls.length).map fun k => enA (dOf ls (id k)) := by
  refine List.ext_getElem? fun i => ?_
  rw [List.getElem?_map, List.getElem?_map]
  by_cases h : i < ls.length
  · rw [dOf_get h, List.getElem?_range h]; rfl
  rw [List.getElem?_eq_none (by omega), List.getElem?_eq_none (by simp; omega)]; rfl
theorem row_stab (ls : List Entry) : ((List.range ls.length).map fun k => enA (dOf ls (stab (lE (dOf ls)) ls.length k))) = (dD ls).map enA := by
  rw [sortE_put, ← Plain.stab_list (lt := entLt) (dOf ls) ls (fun i hi => dOf_get hi) (uO.orders _), List.map_map]; rfl
theorem mQ (ls : List Entry) : (dD ls).Perm ls := by rw [sortE_put]; exact (Plain.put_sorted uO ls).2
theorem wV (ls : List Entry) : (dD ls).length = ls.length := (mQ ls).length_eq
theorem or_nat (a b : Nat) : ∀ (i : Nat) (out : Int), orGo (a : Int) (b : Int) i out = out * 2 ^ i + (((a ||| b) % 2 ^ i : Nat) : Int)
  | 0, out => by simp [orGo, Nat.mod_one]
  | i + 1, out => by
    unfold orGo
    have hT : orT (a : Int) (b : Int) i = (a ||| b).testBit i := by
      unfold orT; rw [Nat.testBit_or, Nat.testBit_eq_decide_div_mod_eq, Nat.testBit_eq_decide_div_mod_eq]
      have h2 : (2 : Int) ^ i = ((2 ^ i : Nat) : Int) := by norm_cast
      rw [h2, ← Int.ofNat_tdiv, ← Int.ofNat_tdiv]
      have e2 : (2 : Int) = ((2 : Nat) : Int) := rfl
      rw [e2, ← Int.ofNat_tmod, ← Int.ofNat_tmod]
      congr 1 <;> exact decide_eq_decide.2 (by omega)
    have hm : (a ||| b) % 2 ^ (i + 1) = (a ||| b) % 2 ^ i + (if (a ||| b).testBit i = true then 2 ^ i else 0) := by
      rw [Nat.pow_succ, Nat.mod_mul, Nat.testBit_eq_decide_div_mod_eq]
      rcases Nat.mod_two_eq_zero_or_one ((a ||| b) / 2 ^ i) with h | h
      · rw [h]; simp
      rw [h]; simp
    rw [hT, or_nat a b i, hm]
    have h2 : (2 : Int) ^ (i + 1) = 2 * 2 ^ i := by rw [Int.pow_succ]; omega
    have h3 : (((2 ^ i : Nat)) : Int) = (2 : Int) ^ i := by norm_cast
    rw [h2]; split
    · rename_i h
      simp only [if_pos h, Int.natCast_add, h3]; rw [Int.add_mul, Int.mul_assoc]; omega
    rename_i h
    simp only [if_neg h, Nat.add_zero]; rw [Int.mul_assoc]
theorem or_orZ (a b : Int) (ha : 0 ≤ a) (ha1 : a ≤ 65535) (hb : 0 ≤ b) (hb1 : b ≤ 65535) : IntKind.i64.wrap (((BitVec.ofInt 64 a ||| BitVec.ofInt 64 b).toNat : Nat) : Int) = orZ a b := by
  obtain ⟨m, rfl⟩ := Int.eq_ofNat_of_zero_le ha
  obtain ⟨n, rfl⟩ := Int.eq_ofNat_of_zero_le hb
  have hm : m < 2 ^ 16 := by omega
  have hn : n < 2 ^ 16 := by omega
  have h16 := Nat.or_lt_two_pow hm hn
  have e1 : (BitVec.ofInt 64 (m : Int) ||| BitVec.ofInt 64 (n : Int)).toNat = m ||| n := by
    rw [BitVec.toNat_or, BitVec.ofInt_natCast, BitVec.ofInt_natCast, BitVec.toNat_ofNat, BitVec.toNat_ofNat, Nat.mod_eq_of_lt (by omega), Nat.mod_eq_of_lt (by omega)]
  rw [e1]; unfold orZ; rw [or_nat, Nat.mod_eq_of_lt h16, IntKind.wrap_i64]; omega
def cV (ls : List Entry) : Run × Bool := if (ls.length < 1 ∨ 150 < ls.length) ∨ dL (dD ls) = false then (zRunV, false) else (⟨dD ls, jJ (dD ls)⟩, true)
theorem lA (d : Nat → Entry) (n : Nat) (hn : n ≤ 1048576) : aD P 187 [.ref 0, .raw (.int .i64 (n : Int)), eZ] [(0, bY d n id)] 1 (.tup []) [(0, bY d n (stab (lE d) n))] 1 := by
 refine gq 63 [] Tryz.func187 ?_
 simp only [bY, eZ]; refine aj ?_; refine aj ?_
 refine sq fun _ k3 => wb ?_
 refine wl (α := Nat × Nat × (Nat → Nat)) (fun x => x.2.1 ≤ n ∧ n ≤ x.1 + x.2.1 ∧ jR (lE d) n 20 x.1 x.2.2 x.2.1 = jR (lE d) n 20 n id 0) (fun x => n - x.2.1) (fun x => ([(0, .ref 0), (1, .raw (.int .i64 (n : Int))), (2, .fn (.func 141) [] []), (6, .raw (.int .i64 20)), (7, .raw (.int .i64 (x.2.1 : Int))), (8, .raw (.int .i64 ((x.2.1 + 20 : Nat) : Int)))], [(0, .row 65 5 ((List.range n).map fun z => enA (d (x.2.2 z))))])) 1 (n, 0, id) ⟨Nat.zero_le _, Nat.le_refl _, rfl⟩ [] ?_ ?_
 · simp only [go_sem, AObj.bel, AObj.ren, AV.ren, aA, sg, Int.natCast_zero] <;> simp [enA]
 rintro ⟨f, a, τ⟩ ⟨ha, hf, hgo⟩
 simp only at ha hf hgo ⊢
 refine sq fun _ k4 => aj ?_
 refine cd rfl (fun hc1 => ?_) fun hc1 => ?_
 · have hlt : a + 20 ≤ n := by simp at hc1; omega
   obtain ⟨g, rfl⟩ : ∃ g, f = g + 1 := ⟨f - 1, by omega⟩
   refine wk (k4 (wb (sr rfl fun _ k6 => (ja ?_))))
   refine vg [] 0 rfl rfl rfl ⟨Tryz.func211, rfl, rfl⟩ (cX d n τ hn a (a + 20) hlt (by omega)) rfl (by simp only [go_sem, eZ]) (by simp only [go_sem, eZ]) (mD (H1 := []) (.inl rfl) (by simp only [go_sem, bY]) (by simp only [go_sem, AObj.bel, bY])) (.inl rfl) ?_
   simp only [go_sem, AV.ren, AObj.ren, aA, shift, sg, Nat.le_refl, Nat.add_zero, Nat.sub_self, bY]
   refine k6 (aj ?_)
   have hw5 : IntKind.i64.wrap (((a + 20 : Nat) : Int) + 20) = ((a + 20 + 20 : Nat) : Int) := by rw [w64]; omega
   refine wg rfl ?_; simp only [go_sem, hw5]; refine jt ?_; refine jt ?_
   refine ⟨(g, a + 20, eO (lE d) τ a (a + 20)), ⟨by simp only; omega, by simp only; omega, by simp only; rw [blk_step hlt] at hgo; exact hgo⟩, by simp only; omega, [], ?_⟩
   simp only [go_sem, AObj.bel, AObj.ren, AV.ren, aA, sg, Int.natCast_zero] <;> simp [enA]
 have hlt : ¬ a + 20 ≤ n := by simp at hc1; omega
 rw [blk_stop hlt] at hgo
 replace hgo := hgo.symm
 refine we (jt (k3 ?_))
 refine sr rfl fun _ k8 => ja ?_
 refine vg [] 0 rfl rfl rfl ⟨Tryz.func211, rfl, rfl⟩ (cX d n τ hn a n (Nat.le_refl _) ha) rfl (by simp only [go_sem, eZ]) (by simp only [go_sem, eZ]) (mD (H1 := []) (.inl rfl) (by simp only [go_sem, bY]) (by simp only [go_sem, AObj.bel, bY])) (.inl rfl) ?_
 simp only [go_sem, AV.ren, AObj.ren, aA, shift, sg, Nat.le_refl, Nat.add_zero, Nat.sub_self, bY]
 refine k8 (wb ?_)
 refine wl (α := Nat × Nat × (Nat → Nat)) (fun x => 20 ≤ x.2.1 ∧ n ≤ x.1 + x.2.1 ∧ x.2.1 ≤ 2097172 ∧ lH (lE d) n x.1 x.2.1 x.2.2 = stab (lE d) n) (fun x => n - x.2.1) (fun x => ([(0, .ref 0), (1, .raw (.int .i64 (n : Int))), (2, .fn (.func 141) [] []), (6, .raw (.int .i64 (x.2.1 : Int)))], [(0, .row 65 5 ((List.range n).map fun z => enA (d (x.2.2 z))))])) 1 (n, 20, eO (lE d) τ a n) ⟨Nat.le_refl _, by simp only; omega, by simp only; omega, (stab_def (lE d) n hgo).symm⟩ [] ?_ ?_
 · simp only [go_sem, AObj.bel, AObj.ren, AV.ren, aA, sg, Int.natCast_zero] <;> simp [enA]
 rintro ⟨f, bs, υ⟩ ⟨hb, hf2, hbm, hst⟩
 simp only at hb hf2 hbm hst ⊢
 refine sq fun _ k9 => aj ?_
 refine cdS rfl (fun hc2 => ?_) fun hc2 => ?_
 · have hlt2 : ¬ bs < n := by simp at hc2; omega
   rw [stab_stop hlt2] at hst
   refine we (jt ?_)
   rw [← hst]; refine ⟨[], ?_⟩
   simp only [go_sem, AObj.bel, AObj.ren, AV.ren, aA, sg, bY] <;> simp [enA]
 have hlt2 : bs < n := by simp at hc2; omega
 obtain ⟨g, rfl⟩ : ∃ g, f = g + 1 := ⟨f - 1, by omega⟩
 refine wk (k9 (wb ?_))
 have hw8 : IntKind.i64.wrap (2 * (bs : Int)) = ((2 * bs : Nat) : Int) := by rw [w64]; omega
 refine sr rfl fun _ k11 => ?_; simp only [go_sem, hw8]
 refine k11 (sq fun _ k12 => (wb ?_))
 refine wl (α := Nat × Nat × (Nat → Nat)) (fun x => x.2.1 ≤ n ∧ n ≤ x.1 + x.2.1 ∧ lY (lE d) n bs x.1 x.2.2 x.2.1 = lY (lE d) n bs n υ 0) (fun x => n - x.2.1) (fun x => ([(0, .ref 0), (1, .raw (.int .i64 (n : Int))), (2, .fn (.func 141) [] []), (6, .raw (.int .i64 (bs : Int))), (7, .raw (.int .i64 (x.2.1 : Int))), (8, .raw (.int .i64 ((x.2.1 + 2 * bs : Nat) : Int)))], [(0, .row 65 5 ((List.range n).map fun z => enA (d (x.2.2 z))))])) 1 (n, 0, υ) ⟨Nat.zero_le _, Nat.le_refl _, rfl⟩ [] ?_ ?_
 · simp only [go_sem, AObj.bel, AObj.ren, AV.ren, aA, sg, Int.natCast_zero, Nat.zero_add] <;> simp
 rintro ⟨f3, a3, ω⟩ ⟨ha3, hf3, hgo3⟩
 simp only at ha3 hf3 hgo3 ⊢
 refine sq fun _ k13 => aj ?_
 refine cd rfl (fun hc3 => ?_) fun hc3 => ?_
 · have hlt3 : a3 + 2 * bs ≤ n := by simp at hc3; omega
   obtain ⟨g3, rfl⟩ : ∃ g, f3 = g + 1 := ⟨f3 - 1, by omega⟩
   refine wk (k13 (wb ?_))
   have hw10 : IntKind.i64.wrap ((a3 : Int) + (bs : Int)) = ((a3 + bs : Nat) : Int) := by rw [w64]; omega
   refine sr rfl fun _ k15 => ?_; simp only [go_sem, hw10]
   refine vg [] 0 rfl rfl rfl ⟨Tryz.func212, rfl, rfl⟩ (yX d n hn n ω a3 (a3 + bs) (a3 + 2 * bs) (by omega) (by omega) (by omega) hlt3) rfl (by simp only [go_sem, eZ]) (by simp only [go_sem, eZ]) (mD (H1 := []) (.inl rfl) (by simp only [go_sem, bY]) (by simp only [go_sem, AObj.bel, bY])) (.inl rfl) ?_
   simp only [go_sem, AV.ren, AObj.ren, aA, shift, sg, Nat.le_refl, Nat.add_zero, Nat.sub_self, bY]
   refine k15 (aj ?_)
   have hw8 : IntKind.i64.wrap (2 * (bs : Int)) = ((2 * bs : Nat) : Int) := by rw [w64]; omega
   have hw12 : IntKind.i64.wrap (((a3 + 2 * bs : Nat) : Int) + ((2 * bs : Nat) : Int)) = ((a3 + 2 * bs + 2 * bs : Nat) : Int) := by rw [w64]; omega
   refine wg rfl ?_; simp only [go_sem, hw8, hw12]; refine jt ?_; refine jt ?_
   refine ⟨(g3, a3 + 2 * bs, iW (lE d) n ω a3 (a3 + bs) (a3 + 2 * bs)), ⟨by simp only; omega, by simp only; omega, by simp only; rw [mrg_step hlt3] at hgo3; exact hgo3⟩, by simp only; omega, [], ?_⟩
   simp only [go_sem, AObj.bel, AObj.ren, AV.ren, aA, sg, Int.natCast_zero] <;> simp [enA]
 have hlt3 : ¬ a3 + 2 * bs ≤ n := by simp at hc3; omega
 rw [mrg_stop hlt3] at hgo3
 refine we (jt (k12 ?_))
 refine sq fun _ k17 => ?_
 have hw13 : IntKind.i64.wrap ((a3 : Int) + (bs : Int)) = ((a3 + bs : Nat) : Int) := by rw [w64]; omega
 refine sr rfl fun _ k18 => ?_; simp only [go_sem, hw13]
 refine k18 (aj ?_)
 refine cdS rfl (fun hc4 => ?_) fun hc4 => ?_
 · have hx : ¬ a3 + bs < n := by simp at hc4; omega
   have hend : mK (lE d) n bs (lY (lE d) n bs n υ 0) = ω := by rw [← hgo3]; unfold mK; exact if_neg hx
   refine wk (k17 ?_)
   have hw16 : IntKind.i64.wrap ((bs : Int) * 2) = ((2 * bs : Nat) : Int) := by rw [w64]; omega
   refine wg rfl ?_; simp only [go_sem, hw16]; refine jt ?_; refine jt ?_
   refine ⟨(g, 2 * bs, mK (lE d) n bs (lY (lE d) n bs n υ 0)), ⟨by simp only; omega, by simp only; omega, by simp only; omega, by simp only; rw [stab_step hlt2] at hst; exact hst⟩, by simp only; omega, [], ?_⟩
   simp only [go_sem, AObj.bel, AObj.ren, AV.ren, aA, sg, hend] <;> simp
 have hx : a3 + bs < n := by simp at hc4; omega
 have hend : mK (lE d) n bs (lY (lE d) n bs n υ 0) = iW (lE d) n ω a3 (a3 + bs) n := by rw [← hgo3]; unfold mK; exact if_pos hx
 refine wg rfl ?_; simp only [go_sem]
 refine vg [] 0 rfl rfl rfl ⟨Tryz.func212, rfl, rfl⟩ (yX d n hn n ω a3 (a3 + bs) n (by omega) (by omega) (by omega) (Nat.le_refl _)) rfl (by simp only [go_sem, eZ]) (by simp only [go_sem, eZ]) (mD (H1 := []) (.inl rfl) (by simp only [go_sem, bY]) (by simp only [go_sem, AObj.bel, bY])) (.inl rfl) ?_
 simp only [go_sem, AV.ren, AObj.ren, aA, shift, sg, Nat.le_refl, Nat.add_zero, Nat.sub_self, bY]; apply k17
 have hw16 : IntKind.i64.wrap ((bs : Int) * 2) = ((2 * bs : Nat) : Int) := by rw [w64]; omega
 refine wg rfl ?_; simp only [go_sem, hw16]; refine jt ?_; refine jt ?_
 refine ⟨(g, 2 * bs, mK (lE d) n bs (lY (lE d) n bs n υ 0)), ⟨by simp only; omega, by simp only; omega, by simp only; omega, by simp only; rw [stab_step hlt2] at hst; exact hst⟩, by simp only; omega, [], ?_⟩
 simp only [go_sem, AObj.bel, AObj.ren, AV.ren, aA, sg, hend] <;> simp
theorem w_sort_d (d : Nat → Entry) (n : Nat) (hn : n ≤ 1048576) : aD P 140 [.ref 0, eZ] [(0, bY d n id)] 1 (.tup []) [(0, bY d n (stab (lE d) n))] 1 := by
 refine gq 9 [] Tryz.func140 ?_
 simp only [bY, eZ]; refine wg rfl ?_; simp only [go_sem, List.length_set, List.length_map, List.length_range]
 refine vg [] 0 rfl rfl rfl ⟨Tryz.func187, rfl, rfl⟩ (lA d n hn) rfl (by simp only [go_sem, eZ]) (by simp only [go_sem, eZ]) (mD (H1 := []) (.inl rfl) (by simp only [go_sem, bY]) (by simp only [go_sem, AObj.bel, bY])) (.inl rfl) ?_
 simp only [go_sem, AV.ren, AObj.ren, aA, shift, sg, Nat.le_refl, Nat.add_zero, Nat.sub_self, bY]; refine ⟨[], ?_⟩
 simp only [go_sem, AObj.bel, AObj.ren, AV.ren, aA, sg, bY] <;> simp [enA]
theorem w_sort (ls : List Entry) (h : ls.length ≤ 1048576) : aD P 140 [.ref 0, eZ] [(0, .row 65 5 (ls.map enA))] 1 (.tup []) [(0, .row 65 5 ((dD ls).map enA))] 1 := by
  have := w_sort_d (dOf ls) ls.length h
  unfold bY at this; rw [row_stab, ← row_dOf] at this; exact this
end
end Go.Proofs.S
end
section
open Go Go.Abs Go.Proofs
namespace Go.Proofs.S
theorem pv_adj {ls : List Entry} (h : dL ls = true) : ∀ i, i + 1 < ls.length → ∀ a b, ls[i]? = some a → ls[i + 1]? = some b → entLt a b = true := by
  intro i hi a b ha hb
  have h1 := (List.all_eq_true.1 h) (i + 1) (List.mem_range.2 hi)
  unfold xC at h1; rw [hb] at h1
  have hp : dO ls (i + 1) = a := by unfold dO; rw [Nat.add_sub_cancel, ha]; rfl
  rw [hp] at h1; simp at h1
  exact h1.2
theorem inOrd_pw {ls : List Entry} (h : dL ls = true) : ls.Pairwise fun a b => entLt a b = true := by
  refine List.pairwise_iff_getElem.2 fun i j hi hj hij => ?_
  obtain ⟨d, rfl⟩ : ∃ d, j = i + 1 + d := ⟨j - (i + 1), by omega⟩
  induction d with
  | zero => exact pv_adj h i hj _ _ (List.getElem?_eq_getElem hi) (List.getElem?_eq_getElem hj)
  | succ d ih =>
    have h1 := ih (by omega) (by omega)
    have h2 := pv_adj h (i + 1 + d) (by omega) _ _ (List.getElem?_eq_getElem (by omega)) (List.getElem?_eq_getElem (by omega))
    exact uO.trans _ _ _ trivial trivial trivial h1 h2
theorem sortE_pw (ls : List Entry) : (dD ls).Pairwise fun a b => entLt b a = false := by
  rw [sortE_put]; exact (Plain.put_sorted uO ls).1
theorem entLt_asymm {a b : Entry} (h : entLt a b = true) : entLt b a = false := uO.asymm trivial trivial h
theorem pw_distinct {ls : List Entry} (h : ls.Pairwise fun a b => entLt a b = true) : ∀ x ∈ ls, ∀ y ∈ ls, entLt x y = false → entLt y x = false → x = y := by
  intro x hx y hy h1 h2
  obtain ⟨i, hi⟩ := List.getElem?_of_mem hx
  obtain ⟨j, hj⟩ := List.getElem?_of_mem hy
  have hil := (List.getElem?_eq_some_iff.1 hi).1
  have hjl := (List.getElem?_eq_some_iff.1 hj).1
  rw [List.getElem?_eq_getElem hil] at hi; rw [List.getElem?_eq_getElem hjl] at hj
  cases hi; cases hj
  have hp := List.pairwise_iff_getElem.1 h
  rcases Nat.lt_trichotomy i j with hij | hij | hij
  · rw [hp i j hil hjl hij] at h1; cases h1
  · subst hij; rfl
  rw [hp j i hjl hil hij] at h2; cases h2
theorem sortE_ord {ls : List Entry} (h : dL ls = true) : dD ls = ls := by
  have hp := inOrd_pw h
  exact List.Perm.eq_of_pairwise (le := fun a b => entLt b a = false) (fun a b ha hb h1 h2 => pw_distinct hp a ((mQ ls).mem_iff.1 ha) b hb h2 h1) (sortE_pw ls) (hp.imp fun h => entLt_asymm h) (mQ ls)
theorem runOf_ok (r : Run) : ((cV r.ents).2 && (decide ((cV r.ents).1.mask = r.mask) && decide ((cV r.ents).1.ents = r.ents))) = gC r := by
  rw [Bool.eq_iff_iff]
  constructor
  · intro h
    simp only [Bool.and_eq_true, decide_eq_true_eq] at h
    obtain ⟨h1, h2, h3⟩ := h
    unfold cV at h1 h2 h3; split at h1
    · cases h1
    rename_i hc
    rw [if_neg hc] at h2 h3
    simp only [not_or] at hc
    simp only at h2 h3
    rw [h3] at h2 hc
    have h4 : dL r.ents = true := by simpa using hc.2
    simp [gC, h4, h2]
    omega
  intro h
  simp only [gC, Bool.and_eq_true, decide_eq_true_eq] at h
  obtain ⟨⟨h1, h2⟩, h3⟩ := h
  have he := sortE_ord h2
  unfold cV
  rw [if_neg (by rw [he, h2]; simp only [not_or]; exact ⟨⟨by omega, by omega⟩, by simp⟩), he]
  simp [h3]
def roomI (level : Int) : Int := if level = 0 then 4 else 8
def uJ (ls : List Run) (level : Int) (i : Nat) : Bool := match ls[i]? with
  | some r => gC r && !((decide (0 < level) && decide (0 < (i : Int))) && !Op.bytesLess (iQ (gZ ls i)).toList (mV r).toList)
  | none => true
def nR (ls : List Run) (level : Int) : Bool := if roomI level < (ls.length : Int) then false else (List.range ls.length).all (uJ ls level)
theorem lvAtI_ok {ls : List Run} {level : Int} {i : Nat} {r : Run} (h : uJ ls level i = true) (hr : ls[i]? = some r) : gC r = true := by
  unfold uJ at h; rw [hr] at h; simp at h
  exact h.1
def zD (ls : List Int) (seq : Int) : Bool := if (4 : Int) < (ls.length : Int) then false else (List.range ls.length).all (pA ls seq)
theorem snapsI_eq (ls : List Int) (seq : Int) : zD ls seq = lS ls seq := by
  unfold zD lS; split
  · rename_i h
    rw [decide_eq_false (by omega), Bool.and_false]
  rename_i h
  rw [decide_eq_true (by omega), Bool.and_true]
def jB (ls : List (List Run)) (mem : List Entry) : List (List Entry) := (ls.reverse.flatMap fun rs => rs.map Run.ents) ++ [mem]
def rE (ls : List (List Run)) (k : Nat) : List (List Entry) := (ls.drop k).reverse.flatMap fun rs => rs.map Run.ents
theorem layTo_step {ls : List (List Run)} {k : Nat} {l : List Run} (h : ls[k]? = some l) : rE ls k = rE ls (k + 1) ++ l.map Run.ents := by
  unfold rE; rw [qF h, List.reverse_cons, List.flatMap_append]
  simp
theorem w_impl_KeyMask (s : ByteArray) (hs : s.size ≤ 4611686018427387904) : aB P 178 [.raw (.string s)] [] 0 (.raw (.int .i64 (tK s))) := by
 refine pq 27 [.tmp 2] Tryz.func178 ?_
 refine aj ?_; refine aj ?_
 refine sq fun _ k3 => aj (wb ?_)
 refine wl (α := Nat) (fun x => x ≤ s.size) (fun x => s.size - x) (fun x => ([(0, .raw (.string s)), (3, .raw (.int .i64 (cN s x))), (6, .raw (.int .i64 (s.size : Int))), (7, .raw (.int .i64 (x : Int)))], [])) 0 0 (Nat.zero_le _) [] ?_ ?_
 · simp only [go_sem, cN, Int.natCast_zero] <;> simp
 rintro i hi
 refine aj ?_; refine sq fun _ k6 => ?_
 refine cd rfl (fun hc1 => ?_) fun hc1 => ?_
 · have hlt : i < s.size := by simpa using hc1
   have hh := nN s i
   have hb := lU s i
   have hw0 : IntKind.i64.wrap (aE s i) = aE s i := by rw [w64]; omega
   have hw1 : IntKind.i64.wrap (31 * cN s i) = cN s i * 31 := by rw [w64]; omega
   have hw2 : IntKind.i64.wrap (cN s i * 31 + aE s i) = cN s i * 31 + aE s i := by rw [w64]; omega
   refine wk (k6 (sq fun _ k7 => (wb (aj ?_))))
   refine wg rfl ?_; simp only [go_sem, hw0, hw1, hw2]; refine jr ?_
   refine jt (k7 ?_)
   refine jw (wiS i (by omega)) ?_
   refine jt ?_
   refine ⟨i + 1, by omega, by omega, [], ?_⟩
   simp only [go_sem, cN] <;> simp
 have hge : i = s.size := by have h9 : ¬ i < s.size := (by simpa using hc1); omega
 subst hge
 refine we (jt (k3 ?_))
 have hh := nN s s.size
 have hq : IntKind.i64.wrap ((cN s s.size).tdiv 16) = (cN s s.size).tdiv 16 := by
   rw [Int.tdiv_eq_ediv_of_nonneg (by omega), IntKind.wrap_i64]; omega
 have hm1 : 0 ≤ (cN s s.size).tmod 16 ∧ (cN s s.size).tmod 16 ≤ 15 := by rw [Int.tmod_eq_emod_of_nonneg (by omega)]; omega
 have hd : 0 ≤ (cN s s.size).tdiv 16 := Int.tdiv_nonneg (by omega) (by omega)
 have hm2 : 0 ≤ ((cN s s.size).tdiv 16).tmod 16 ∧ ((cN s s.size).tdiv 16).tmod 16 ≤ 15 := by rw [Int.tmod_eq_emod_of_nonneg hd]; omega
 have hr1 := qE hm1.1 hm1.2
 have hr2 := qE hm2.1 hm2.2
 have hsh : ∀ m : Int, 0 ≤ m → m ≤ 15 → IntKind.i64.wrap (1 * 2 ^ min m.toNat 64) = bitZ m := fun m h0 h1 => by
   have := qE h0 h1
   rw [Nat.min_eq_left (by omega), Int.one_mul, IntKind.wrap_i64]
   show ((2 : Int) ^ m.toNat + _) % _ - _ = bitZ m
   unfold bitZ at this ⊢
   omega
 have hs1 := hsh _ hm1.1 hm1.2
 have hs2 := hsh _ hm2.1 hm2.2
 have hor := or_orZ _ _ hr1.1 hr1.2 hr2.1 hr2.2
 have hbb : IntKind.bits .i64 = 64 := rfl
 refine sd mixed rfl fun _ k9 => ?_; simp only [go_sem, hq, hs1, hs2, hor]
 refine ⟨hm1.1, hm2.1, ?_⟩
 refine ⟨by rfl, ?_⟩
 refine k9 (wR (fO ?_ trivial))
 simp only [go_sem, tK]
 exact congrArg (fun z => some (AV.raw (.int .i64 z))) hor
theorem w_impl_RunOf (ls : List Entry) (hz : dK ls) : aB P 133 [.sl 5 (ls.map enA)] [] 0 (.tup [rA (cV ls).1, .raw (.bool (cV ls).2)]) := by
 refine pq 40 [.cell 2 109, .tmp 3] Tryz.func133 ?_
 have hmx : maxLen = 9223372036854775807 := rfl
 have hlen := hz.1
 have hsl := wV ls
 have hzs : dK (dD ls) := ⟨by rw [hsl]; exact hz.1, fun e he => hz.2 e ((mQ ls).mem_iff.1 he)⟩
 refine aj ?_
 refine sq fun _ k2 => aj ?_
 refine cd rfl (fun hc1 => ?_) fun hc1 => ?_
 · have h9 : cV ls = (zRunV, false) := by unfold cV; rw [if_pos]; simp at hc1; left; omega
   refine aj ?_
   refine cG 0 (ds := [.sl 5 [], .raw (.int .i64 0)]) rfl (by repeat (first | exact LeL.nil | refine LeL.cons (by first | exact Le.refl _ | exact Le.nil _) ?_)) (by simp only [go_sem]) ?_
   simp only [go_sem]; refine wR ?_
   refine fO ?_ ⟨⟨enB _ _, trivial, trivial⟩, trivial, trivial⟩
   simp only [go_sem, h9, rA, zRunV]
 refine wk (k2 ?_)
 have hnb : 1 ≤ ls.length ∧ ls.length ≤ 150 := by simp at hc1; omega
 refine sr rfl fun _ k5 => ?_; simp only [go_sem, List.length_take, List.length_append, List.nil_append, List.length_map, List.length_drop]
 refine jr (k5 ?_)
 refine sr rfl fun _ k6 => ja ?_
 refine vg [(0, 1)] 0 rfl rfl rfl ⟨Tryz.func140, rfl, rfl⟩ (w_sort ls (by simp at hc1; omega)) rfl (by simp only [go_sem, eZ, aA, AV.ren, sg]) (by simp only [go_sem, eZ]) (mD (H1 := []) (.inr ⟨1, rfl⟩) (by simp only [go_sem, sg, AObj.ren]) (by simp only [go_sem, AObj.bel])) (.inl rfl) ?_
 simp only [go_sem, AV.ren, AObj.ren, aA, shift, sg, Nat.le_refl, Nat.add_zero, Nat.sub_self]
 refine k6 (sq fun _ k7 => ?_)
 refine aFz 1 rfl ?_
 simp only [go_sem, fzL, AV.fz]
 refine sr rfl fun _ k8 => ja ?_
 refine vq Tryz.func146 (pS (dD ls) hzs) (k8 ?_)
 refine cd rfl (fun hc2 => ?_) fun hc2 => ?_
 · have h9 : cV ls = (zRunV, false) := by unfold cV; rw [if_pos]; right; simpa using hc2
   refine aj ?_
   refine cG 0 (ds := [.sl 5 [], .raw (.int .i64 0)]) rfl (by repeat (first | exact LeL.nil | refine LeL.cons (by first | exact Le.refl _ | exact Le.nil _) ?_)) (by simp only [go_sem]) ?_
   simp only [go_sem]; refine wR ?_
   refine fO ?_ ⟨⟨enB _ _, trivial, trivial⟩, trivial, trivial⟩
   simp only [go_sem, h9, rA, zRunV]
 have h9 : cV ls = (⟨dD ls, jJ (dD ls)⟩, true) := by unfold cV; rw [if_neg (by simp only [not_or]; exact ⟨⟨by omega, by omega⟩, by simpa using hc2⟩)]
 refine wk (k7 (aj ?_))
 refine sq fun _ k11 => aj (wb ?_)
 refine wl (α := Nat × Int) (fun x => x.1 ≤ (dD ls).length ∧ 0 ≤ x.2 ∧ x.2 ≤ 65535 ∧ ((dD ls).drop x.1).foldl nG x.2 = jJ (dD ls)) (fun x => (dD ls).length - x.1) (fun x => ([(2, .ptr 0 0), (4, .sl 5 ((dD ls).map enA)), (5, .raw (.int .i64 x.2)), (25, .sl 5 ((dD ls).map enA)), (26, .raw (.int .i64 ((dD ls).length : Int))), (27, .raw (.int .i64 (x.1 : Int)))], [(0, .cells 109 [.raw (.slice none 0 0), .raw (.int .i64 0)])])) 1 (0, 0) ⟨Nat.zero_le _, by simp, by simp, rfl⟩ [] ?_ ?_
 · simp only [go_sem, AObj.bel, AObj.ren, AV.ren, aA, sg, Int.natCast_zero] <;> simp
 rintro ⟨i, m⟩ ⟨hi, hm0, hm1, hfold⟩
 simp only at hi hm0 hm1 hfold ⊢
 refine aj ?_; refine sq fun _ k14 => ?_
 refine cdS rfl (fun hc3 => ?_) fun hc3 => ?_
 · have hge : (dD ls).length ≤ i := by have h9 : ¬ i < (dD ls).length := (by simpa using hc3); omega
   rw [List.drop_eq_nil_of_le hge] at hfold
   have h8 : jJ (dD ls) = m := hfold.symm
   refine we (jt (k11 ?_))
   refine aj (wR ?_)
   refine fO ?_ ⟨⟨enB _ _, trivial, trivial⟩, trivial, trivial⟩
   simp only [go_sem, h9, h8, rA]
 have hlt : i < (dD ls).length := by simpa using hc3
 obtain ⟨l, hl, hdrop, hml⟩ := ix hlt
 refine wk (k14 (sq fun _ k15 => (wb (sr rfl fun _ k16 => ?_))))
 simp only [go_sem, hl, enA]
 refine jr (k16 ?_)
 have hkr := pP (bitZ ((cN l.key l.key.size).tmod 16)) (bitZ (((cN l.key l.key.size).tdiv 16).tmod 16))
 have hor := or_orZ m (tK l.key) hm0 hm1 hkr.1 hkr.2
 have hbb : IntKind.bits .i64 = 64 := rfl
 refine wg rfl ?_; simp only [go_sem, hbb, hor]
 refine vr rfl rfl rfl Tryz.func178 (w_impl_KeyMask l.key (hzs.2 l hml).1) (by simp only [go_sem, enA]) (by simp only [go_sem, enA]) ?_
 refine jt (k15 ?_)
 refine jw (wiS i (by omega)) ?_
 refine jt ?_
 refine ⟨(i + 1, nG m l), ⟨by simp only; omega, (pP _ _).1, (pP _ _).2, by rw [hdrop] at hfold; exact hfold⟩, by simp only; omega, [], ?_⟩
 simp only [go_sem, AObj.bel, AObj.ren, AV.ren, aA, sg, nG] <;> simp
 exact hor
theorem w_impl_RunOk (r : Run) (hz : dK r.ents) : aB P 200 [rA r] [] 0 (.raw (.bool (gC r))) := by
 refine pq 17 [.tmp 2] Tryz.func200 ?_
 simp only [rA]
 have hmz : (cV r.ents).1.ents.length ≤ 4611686018427387904 := by
   unfold cV; split
   · simp [zRunV]
   simp only [wV]; exact hz.1
 refine aj ?_
 refine sr rfl fun _ k2 => ja ?_
 refine vs rfl rfl rfl Tryz.func133 (w_impl_RunOf r.ents hz) (by simp only [go_sem, rA]) (by simp only [go_sem, rA]) ?_
 simp only [go_sem, rA]
 refine k2 (sr rfl fun _ k3 => (ja ?_))
 refine vpg rfl rfl rfl rfl rfl rfl ⟨Tryz.func168, rfl, rfl⟩ (fun hg => wA (cV r.ents).1 r hmz) (by simp only [go_sem]) (fun hg => (by simp only [go_sem, rA])) (by simp only [go_sem, rA]) trivial ?_
 simp only [go_sem, rA]
 refine k3 (wR (fO ?_ trivial))
 simp only [go_sem, runOf_ok]
theorem w_impl_roomOf (n : Int) : aB P 199 [.raw (.int .i64 n)] [] 0 (.raw (.int .i64 (roomI n))) := by
 refine pq 5 [.tmp 2] Tryz.func199 ?_
 refine aj ?_
 refine sq fun _ k2 => aj ?_
 refine cd rfl (fun hc1 => ?_) fun hc1 => ?_
 · have n1 : n = 0 := by simpa using hc1
   refine aj (wR ?_)
   refine fO ?_ trivial; simp only [go_sem, roomI, if_pos n1]
 have n1 : ¬ (n = 0) := by simpa using hc1
 refine wk (k2 (aj (wR ?_)))
 refine fO ?_ trivial; simp only [go_sem, roomI, if_neg n1]
theorem w_impl_levelOk (ls : List Run) (level : Int) (hz : mxRuns ls) : aB P 162 [.sl 2 (ls.map rA), .raw (.int .i64 level)] [] 0 (.raw (.bool (nR ls level))) := by
 refine pq 40 [.tmp 4] Tryz.func162 ?_
 have hlen := hz.1
 refine aj ?_
 refine sq fun _ k2 => sr rfl fun _ k3 => ja ?_
 refine vq Tryz.func199 (w_impl_roomOf level) (k3 ?_)
 refine cd rfl (fun hc1 => ?_) fun hc1 => ?_
 · have n1 : roomI level < (ls.length : Int) := by simpa using hc1
   refine aj (wR ?_)
   refine fO ?_ trivial; simp only [go_sem, nR, n1]
 have n1 : ¬ (roomI level < (ls.length : Int)) := by simpa using hc1
 refine wk (k2 (sq fun _ k5 => (aj (wb ?_))))
 refine wl (α := Nat) (fun x => x ≤ ls.length ∧ ∀ j, j < x → uJ ls level j = true) (fun x => ls.length - x) (fun x => ([(0, .sl 2 (ls.map rA)), (1, .raw (.int .i64 level)), (12, .sl 2 (ls.map rA)), (13, .raw (.int .i64 (ls.length : Int))), (14, .raw (.int .i64 (x : Int)))], [])) 0 0 ⟨Nat.zero_le _, fun j hj => absurd hj (Nat.not_lt_zero _)⟩ [] ?_ ?_
 · simp only [go_sem, Int.natCast_zero] <;> simp
 rintro i ⟨hi, hall⟩
 refine aj ?_; refine sq fun _ k8 => ?_
 refine cdS rfl (fun hc2 => ?_) fun hc2 => ?_
 · have hge : ls.length ≤ i := Nat.not_lt.1 (by simpa using hc2)
   refine we (jt (k5 ?_))
   refine aj (wR ?_)
   have h9 : nR ls level = true := by unfold nR; rw [if_neg n1]; exact dU hge hall
   refine fO ?_ trivial; simp only [go_sem, h9]
 have hlt : i < ls.length := (by simpa using hc2); obtain ⟨l, hl, hdrop, hml⟩ := ix hlt
 have hw1 : IntKind.i64.wrap ((i : Int) - 1) = (i : Int) - 1 := by rw [w64]; omega
 have hpn : ((i : Int) - 1).toNat = i - 1 := by omega
 have hpv : ls[i - 1]? = some (gZ ls i) := by unfold gZ; rw [List.getElem?_eq_getElem (by omega)]; rfl
 have hprev : 0 < i → 1 ≤ (gZ ls i).ents.length ∧ (gZ ls i).ents.length ≤ 150 := fun h0 => pL (lvAtI_ok (hall (i - 1) (by omega)) hpv)
 refine wk (k8 (sq fun _ k9 => (wb (sr rfl fun _ k10 => ?_))))
 simp only [go_sem, hl, rA]
 refine jr (k10 ?_)
 refine sq fun _ k11 => sr rfl fun _ k12 => ja ?_
 refine vr rfl rfl rfl Tryz.func200 (w_impl_RunOk l (hz.2 l hml)) (by simp only [go_sem, rA]) (by simp only [go_sem, rA]) (k12 ?_)
 refine cd rfl (fun hc3 => ?_) fun hc3 => ?_
 · have hp : uJ ls level i = false := by unfold uJ; rw [hl]; have : gC l = false := (by simpa using hc3); simp [this]
   refine aj (wR ?_)
   simp only [go_sem, lQ]
   have h9 : nR ls level = false := by unfold nR; rw [if_neg n1]; exact eP hlt hp
   refine fO ?_ trivial; simp only [go_sem, h9]
 have hr1 : gC l = true := by simpa using hc3
 have hl1 := pL hr1
 refine wk (k11 (sd mixed rfl fun _ k14 => ?_))
 simp only [go_sem, hl, hw1, hpn, hpv, rA]; refine jr ?_
 refine tpg rfl rfl rfl rfl rfl rfl ⟨Tryz.func136, rfl, rfl⟩ (fun hg => w_impl_highKey (gZ ls i) (hprev (by simp at hg; omega)).1 (by have := (hprev (by simp at hg; omega)).2; omega)) (by simp only [go_sem]) (fun hg => (by simp only [go_sem, rA])) (by simp only [go_sem, rA]) trivial ?_
 simp only [go_sem, hl, hw1, hpn, hpv, rA]; refine jr ?_
 refine tpg rfl rfl rfl rfl rfl rfl ⟨Tryz.func135, rfl, rfl⟩ (fun hg => w_impl_lowKey l hl1.1) (by simp only [go_sem]) (fun hg => (by simp only [go_sem, rA])) (by simp only [go_sem, rA]) trivial ?_
 simp only [go_sem, hl, hw1, hpn, hpv, rA]; refine jr ?_; refine ⟨by rfl, ?_⟩; apply k14
 refine cd rfl (fun hc4 => ?_) fun hc4 => ?_
 · have hp : uJ ls level i = false := by unfold uJ; rw [hl]; simp only [hr1, hc4]; rfl
   refine aj (wR ?_)
   simp only [go_sem, lQ]
   have h9 : nR ls level = false := by unfold nR; rw [if_neg n1]; exact eP hlt hp
   refine fO ?_ trivial; simp only [go_sem, h9]
 have hp : uJ ls level i = true := by unfold uJ; rw [hl]; simp only [hr1, hc4]; rfl
 refine wk (jt (k9 ?_))
 refine jw (wiS i (by omega)) ?_
 refine jt ?_
 refine ⟨i + 1, ⟨by omega, bP hall hp⟩, by omega, [], ?_⟩
 simp only [go_sem] <;> simp
theorem w_impl_snapsOk (ls : List Int) (seq : Int) (hz : ls.length ≤ 4611686018427387904) : aB P 161 [.sl 1 (ls.map inA), .raw (.int .i64 seq)] [] 0 (.raw (.bool (lS ls seq))) := by
 refine pq 38 [.tmp 4] Tryz.func161 ?_
 rw [← snapsI_eq]; refine aj ?_
 refine sq fun _ k2 => aj ?_
 refine cd rfl (fun hc1 => ?_) fun hc1 => ?_
 · have n1 : (4 : Int) < (ls.length : Int) := by simpa using hc1
   refine aj (wR ?_)
   refine fO ?_ trivial; simp only [go_sem, zD, n1]
 have n1 : ¬ ((4 : Int) < (ls.length : Int)) := by simpa using hc1
 refine wk (k2 (sq fun _ k5 => (aj (wb ?_))))
 refine wl (α := Nat) (fun x => x ≤ ls.length ∧ ∀ j, j < x → pA ls seq j = true) (fun x => ls.length - x) (fun x => ([(0, .sl 1 (ls.map inA)), (1, .raw (.int .i64 seq)), (10, .sl 1 (ls.map inA)), (11, .raw (.int .i64 (ls.length : Int))), (12, .raw (.int .i64 (x : Int)))], [])) 0 0 ⟨Nat.zero_le _, fun j hj => absurd hj (Nat.not_lt_zero _)⟩ [] ?_ ?_
 · simp only [go_sem, Int.natCast_zero] <;> simp
 rintro i ⟨hi, hall⟩
 refine aj ?_; refine sq fun _ k8 => ?_
 refine cdS rfl (fun hc2 => ?_) fun hc2 => ?_
 · have hge : ls.length ≤ i := Nat.not_lt.1 (by simpa using hc2)
   refine we (jt (k5 ?_))
   refine aj (wR ?_)
   have h9 : zD ls seq = true := by unfold zD; rw [if_neg n1]; exact dU hge hall
   refine fO ?_ trivial; simp only [go_sem, h9]
 have hlt : i < ls.length := (by simpa using hc2); obtain ⟨l, hl, hdrop, hml⟩ := ix hlt
 have hw1 : IntKind.i64.wrap ((i : Int) - 1) = (i : Int) - 1 := by rw [w64]; omega
 have hpn : ((i : Int) - 1).toNat = i - 1 := by omega
 have hpv : ls[i - 1]? = some (prevInt ls i) := by unfold prevInt; rw [List.getElem?_eq_getElem (by omega)]; rfl
 refine wk (k8 (sq fun _ k9 => (wb (sr rfl fun _ k10 => ?_))))
 simp only [go_sem, hl, inA]
 refine jr (k10 ?_)
 refine sr rfl fun _ k11 => ?_; simp only [go_sem, hl, hw1, hpn, hpv, inA]
 refine jr (k11 ?_)
 refine cd rfl (fun hc3 => ?_) fun hc3 => ?_
 · have hp : pA ls seq i = false := by unfold pA; rw [hl]; simp only [hc3]; rfl
   refine aj (wR ?_)
   simp only [go_sem, lQ]
   have h9 : zD ls seq = false := by unfold zD; rw [if_neg n1]; exact eP hlt hp
   refine fO ?_ trivial; simp only [go_sem, h9]
 have hp : pA ls seq i = true := by unfold pA; rw [hl]; simp only [hc3]; rfl
 refine wk (jt (k9 ?_))
 refine jw (wiS i (by omega)) ?_
 refine jt ?_
 refine ⟨i + 1, ⟨by omega, bP hall hp⟩, by omega, [], ?_⟩
 simp only [go_sem] <;> simp
theorem dJ (a b : List Run) (hz : a.length ≤ 4611686018427387904) (hy : ∀ r ∈ a, r.ents.length ≤ 4611686018427387904) : aB P 167 [.sl 2 (a.map rA), .sl 2 (b.map rA), .fn (.func 168) [] []] [] 0 (.raw (.bool (decide (a = b)))) := by
 refine pq 32 [.tmp 6] Tryz.func167 ?_
 refine aj ?_
 refine sq fun _ k2 => aj ?_
 refine cd rfl (fun hc1 => ?_) fun hc1 => ?_
 · have hne : a ≠ b := fun e => by rw [e] at hc1; simp at hc1
   refine aj (wR ?_)
   refine fO ?_ trivial; simp only [go_sem, decide_eq_false hne]
 have hlen : a.length = b.length := by simp at hc1; omega
 refine wk (k2 (sq fun _ k5 => (aj (wb ?_))))
 refine wl (α := Nat) (fun x => x ≤ a.length ∧ ∀ j, j < x → qJ a b j = true) (fun x => a.length - x) (fun x => ([(1, .sl 2 (b.map rA)), (2, .fn (.func 168) [] []), (15, .sl 2 (a.map rA)), (16, .raw (.int .i64 (a.length : Int))), (17, .raw (.int .i64 (x : Int)))], [])) 0 0 ⟨Nat.zero_le _, fun j hj => absurd hj (Nat.not_lt_zero _)⟩ [] ?_ ?_
 · simp only [go_sem, Int.natCast_zero] <;> simp
 rintro i ⟨hi, hall⟩
 refine aj ?_; refine sq fun _ k8 => ?_
 refine cdS rfl (fun hc2 => ?_) fun hc2 => ?_
 · have hge : a.length ≤ i := Nat.not_lt.1 (by simpa using hc2)
   refine we (jt (k5 ?_))
   refine aj (wR ?_)
   have hie : i = a.length := by omega
   subst hie
   have he := mS hlen hall
   refine fO ?_ trivial; simp only [go_sem, decide_eq_true he]
 have hlt : i < a.length := (by simpa using hc2); obtain ⟨l, hl, _, hml⟩ := ix hlt
 obtain ⟨m, hm, _, _⟩ := ix (xs := b) (i := i) (by omega)
 refine wk (k8 (sq fun _ k9 => (wb (sr rfl fun _ k10 => ?_))))
 simp only [go_sem, hl, rA]
 refine jr (k10 ?_)
 refine sr rfl fun _ k11 => ?_; simp only [go_sem, hm, rA]
 refine jr (k11 ?_)
 refine sr rfl fun _ k12 => ja ?_
 refine vf (xs := [rA l, rA m]) rfl rfl rfl rfl ⟨Tryz.func168, rfl, rfl⟩ (wA l m (hy l hml)) rfl rfl (by simp only [go_sem, rA]) ?_
 simp only [go_sem, runEq]; apply k12
 refine cd rfl (fun hc3 => ?_) fun hc3 => ?_
 · have hne : a ≠ b := fun e => by
     rw [e, hm] at hl; cases hl; simp at hc3
   refine aj (wR ?_)
   simp only [go_sem, lQ]; refine fO ?_ trivial; simp only [go_sem, decide_eq_false hne]
 · have hp : qJ a b i = true := by unfold qJ; rw [hl, hm]; simpa using hc3
   refine wk (jt (k9 ?_))
   refine jw (wiS i (by omega)) ?_
   refine jt ?_
   refine ⟨i + 1, ⟨by omega, bP hall hp⟩, by omega, [], ?_⟩
   simp only [go_sem] <;> simp
theorem xD (a b : List Run) (hz : a.length ≤ 4611686018427387904 ∧ ∀ r ∈ a, r.ents.length ≤ 4611686018427387904) : aB P 166 [rsA a, rsA b] [] 0 (.raw (.bool (decide (a = b)))) := by
 refine pq 8 [.tmp 4] Tryz.func166 ?_
 simp only [rsA]; refine aj ?_
 refine sr rfl fun _ k2 => ja ?_
 refine vr rfl rfl rfl Tryz.func167 (dJ a b hz.1 hz.2) (by simp only [go_sem, rsA]) (by simp only [go_sem, rsA]) (k2 (wR ?_))
 refine fO ?_ trivial; simp only [go_sem]
theorem cQ (a b : List (List Run)) (hz : a.length ≤ 4611686018427387904) (hy : ∀ l ∈ a, l.length ≤ 4611686018427387904 ∧ ∀ r ∈ l, r.ents.length ≤ 4611686018427387904) : aB P 165 [.sl 1 (a.map rsA), .sl 1 (b.map rsA), .fn (.func 166) [] []] [] 0 (.raw (.bool (decide (a = b)))) := by
 refine pq 32 [.tmp 6] Tryz.func165 ?_
 refine aj ?_
 refine sq fun _ k2 => aj ?_
 refine cd rfl (fun hc1 => ?_) fun hc1 => ?_
 · have hne : a ≠ b := fun e => by rw [e] at hc1; simp at hc1
   refine aj (wR ?_)
   refine fO ?_ trivial; simp only [go_sem, decide_eq_false hne]
 have hlen : a.length = b.length := by simp at hc1; omega
 refine wk (k2 (sq fun _ k5 => (aj (wb ?_))))
 refine wl (α := Nat) (fun x => x ≤ a.length ∧ ∀ j, j < x → qJ a b j = true) (fun x => a.length - x) (fun x => ([(1, .sl 1 (b.map rsA)), (2, .fn (.func 166) [] []), (15, .sl 1 (a.map rsA)), (16, .raw (.int .i64 (a.length : Int))), (17, .raw (.int .i64 (x : Int)))], [])) 0 0 ⟨Nat.zero_le _, fun j hj => absurd hj (Nat.not_lt_zero _)⟩ [] ?_ ?_
 · simp only [go_sem, Int.natCast_zero] <;> simp
 rintro i ⟨hi, hall⟩
 refine aj ?_; refine sq fun _ k8 => ?_
 refine cdS rfl (fun hc2 => ?_) fun hc2 => ?_
 · have hge : a.length ≤ i := Nat.not_lt.1 (by simpa using hc2)
   refine we (jt (k5 ?_))
   refine aj (wR ?_)
   have hie : i = a.length := by omega
   subst hie
   have he := mS hlen hall
   refine fO ?_ trivial; simp only [go_sem, decide_eq_true he]
 have hlt : i < a.length := (by simpa using hc2); obtain ⟨l, hl, _, hml⟩ := ix hlt
 obtain ⟨m, hm, _, _⟩ := ix (xs := b) (i := i) (by omega)
 refine wk (k8 (sq fun _ k9 => (wb (sr rfl fun _ k10 => ?_))))
 simp only [go_sem, hl, rsA]
 refine jr (k10 ?_)
 refine sr rfl fun _ k11 => ?_; simp only [go_sem, hm, rsA]
 refine jr (k11 ?_)
 refine sr rfl fun _ k12 => ja ?_
 refine vf (xs := [rsA l, rsA m]) rfl rfl rfl rfl ⟨Tryz.func166, rfl, rfl⟩ (xD l m (hy l hml)) rfl rfl (by simp only [go_sem, rsA]) ?_
 simp only [go_sem, runEq]; apply k12
 refine cd rfl (fun hc3 => ?_) fun hc3 => ?_
 · have hne : a ≠ b := fun e => by
     rw [e, hm] at hl; cases hl; simp at hc3
   refine aj (wR ?_)
   simp only [go_sem, lQ]; refine fO ?_ trivial; simp only [go_sem, decide_eq_false hne]
 · have hp : qJ a b i = true := by unfold qJ; rw [hl, hm]; simpa using hc3
   refine wk (jt (k9 ?_))
   refine jw (wiS i (by omega)) ?_
   refine jt ?_
   refine ⟨i + 1, ⟨by omega, bP hall hp⟩, by omega, [], ?_⟩
   simp only [go_sem] <;> simp
theorem rB (a b : List (List Run)) (ha : mxLvs a) : aB P 116 [.sl 1 (a.map rsA), .sl 1 (b.map rsA)] [] 0 (.raw (.bool (decide (a = b)))) := by
 refine pq 8 [.tmp 4] Tryz.func116 ?_
 refine aj ?_
 refine sr rfl fun _ k2 => ja ?_
 refine vq Tryz.func165 (cQ a b ha.1 (fun l hl => ⟨(ha.2 l hl).1, fun r hr => ((ha.2 l hl).2 r hr).1⟩)) (k2 (wR ?_))
 refine fO ?_ trivial; simp only [go_sem]
theorem w_impl_TreeSame (a b : Tree) (ha : mxTree a) : aB P 113 [trA a, trA b] [] 0 (.raw (.bool (gP a b))) := by
 refine pq 31 [.tmp 4] Tryz.func113 ?_
 simp only [trA]; refine aj ?_
 refine sr rfl fun _ k2 => ja ?_
 refine vpg rfl rfl rfl rfl rfl rfl ⟨Tryz.func119, rfl, rfl⟩ (fun hg => bN a.mem b.mem ha.1.1) (by simp only [go_sem]) (fun hg => (by simp only [go_sem])) (by simp only [go_sem]) trivial ?_
 simp only [go_sem]
 refine vpg rfl rfl rfl rfl rfl rfl ⟨Tryz.func116, rfl, rfl⟩ (fun hg => rB a.levels b.levels ha.2.1) (by simp only [go_sem]) (fun hg => (by simp only [go_sem])) (by simp only [go_sem]) trivial ?_
 simp only [go_sem]
 refine vpg rfl rfl rfl rfl rfl rfl ⟨Tryz.func160, rfl, rfl⟩ (fun hg => sE a.snaps b.snaps ha.2.2) (by simp only [go_sem]) (fun hg => (by simp only [go_sem])) (by simp only [go_sem]) trivial ?_
 simp only [go_sem]
 refine k2 (wR (fO ?_ trivial))
 simp only [go_sem, gP]
end Go.Proofs.S
end
section
open Go Go.Abs Go.Proofs
open Go.MapKept (IsKey)
namespace Go.Proofs.S
theorem keyS : KeyT P 9 (IsKey .string) := keyT_string (by kernel_rfl)
abbrev Tops := List (ByteArray × Int)
abbrev tD (m : Tops) : AObj := .map 9 3 (mAV Value.string inA m)
theorem tops_ren (σ : Nat → Nat) (m : Tops) : ((mAV Value.string inA m).map fun p => (p.1, p.2.ren σ)) = mAV Value.string inA m := mAV_ren σ (fun _ => rfl) m
theorem tops_bel (U : Nat → Prop) (m : Tops) : aC U ((mAV Value.string inA m).map (·.2)) := mAV_bel (eV := inA) (fun _ => trivial) m
attribute [go_sem] tops_ren tops_bel
def nwAt (m : Tops) (seq : Int) (ls : List Entry) (i : Nat) : Bool := match ls[i]? with
  | some e => !(decide (seq < e.seq) || decide (e.seq ≤ xE m e.key 0))
  | none => true
def nwOk (m : Tops) (seq : Int) (ls : List Entry) : Bool := (List.range ls.length).all (nwAt m seq ls)
def vU (m : Tops) (e : Entry) : Tops := vW m e.key (max (xE m e.key 0) e.seq)
def tY (m : Tops) (ls : List Entry) : Tops := ls.foldl vU m
def qK (seq : Int) : Tops → List (List Entry) → Bool
  | _, [] => true
  | m, l :: r => if nwOk m seq l = true then qK seq (tY m l) r else false
theorem nwStep_nodup {m : Tops} (h : (m.map (·.1)).Nodup) (e : Entry) : ((vU m e).map (·.1)).Nodup := mset_nodup _ _ _ h
theorem nwPut_nodup : ∀ (ls : List Entry) {m : Tops}, (m.map (·.1)).Nodup → ((tY m ls).map (·.1)).Nodup
  | [], _, h => h
  | e :: r, _, h => nwPut_nodup r (nwStep_nodup h e)
theorem nwStep_len (m : Tops) (e : Entry) : (vU m e).length ≤ m.length + 1 := mset_length _ _ _
theorem nwPut_len : ∀ (ls : List Entry) (m : Tops), (tY m ls).length ≤ m.length + ls.length
  | [], m => Nat.le_refl _
  | e :: r, m => by
    have h1 := nwStep_len m e
    have h2 := nwPut_len r (vU m e)
    simp only [tY, List.foldl_cons, List.length_cons] at h2 ⊢
    omega
def lvsOkI (ls : List (List Run)) : Bool := (List.range ls.length).all fun i => nR ((ls[i]?).getD []) i
def nM (t : Tree) : Bool := ((decide (t.seq < 0) || decide (100000 < t.seq)) || decide (60 < (t.mem.length : Int))) || !decide ((t.levels.length : Int) = 3)
def dG (t : Tree) : Bool := if nM t = true then false else if (!dL t.mem || !lS t.snaps t.seq) = true then false else if lvsOkI t.levels = false then false else qK t.seq [] (jB t.levels t.mem)
theorem layersI_small {t : Tree} (h : gN t) : ∀ p ∈ jB t.levels t.mem, p.length ≤ 1048576 := by
  obtain ⟨h1, h2, h3⟩ := h
  intro p hp
  rcases List.mem_append.1 hp with hp | hp
  · obtain ⟨rs, hrs, hp⟩ := List.mem_flatMap.1 hp
    obtain ⟨r, hr, rfl⟩ := List.mem_map.1 hp
    exact ((h2.2 rs (List.mem_reverse.1 hrs)).2 r hr).1
  rw [List.mem_singleton.1 hp]; exact h1.1
theorem layersI_len {t : Tree} (h : gN t) : (jB t.levels t.mem).length ≤ 1048576 * t.levels.length + 1 := by
  have aux : ∀ ls : List (List Run), (∀ rs ∈ ls, rs.length ≤ 1048576) → (ls.reverse.flatMap fun rs => rs.map Run.ents).length ≤ 1048576 * ls.length := by
    intro ls
    induction ls with
    | nil => intro _; simp
    | cons a r ih =>
      intro hl
      have h1 := ih fun x hx => hl x (List.mem_cons_of_mem _ hx)
      have h2 := hl a List.mem_cons_self
      rw [List.reverse_cons, List.flatMap_append, List.length_append]
      simp at h1 ⊢
      omega
  have := aux t.levels fun rs hrs => (h.2.1.2 rs hrs).1
  unfold jB; rw [List.length_append]
  simp at this ⊢
  omega
theorem w_impl_layersOf_o (ls : List (List Run)) (mem : List Entry) (hs : mR ls) : aD P 164 [.sl 1 (ls.map rsA), .sl 5 (mem.map enA)] [] 0 (.ref 0) [(0, .row 33 1 ((jB ls mem).map esA))] 1 := by
 refine gq 35 [.tmp 4] Tryz.func164 ?_
 have hmx : maxLen = 9223372036854775807 := rfl
 have hlen := hs.1
 refine aj ?_; refine aj ?_; refine sq fun _ k3 => ?_
 have hw0 : IntKind.i64.wrap ((ls.length : Int) - 1) = (ls.length : Int) - 1 := by rw [w64]; omega
 refine sr rfl fun _ k4 => ?_; simp only [go_sem, hw0]
 refine k4 (wb ?_)
 refine eT (t := 5) 33 1 rfl (by decide) ?_
 simp only [go_sem]
 refine wl (α := Nat) (fun x => x ≤ ls.length ∧ (rE ls x).length ≤ 1048576 * (ls.length - x)) (fun x => x) (fun x => ([(0, .sl 1 (ls.map rsA)), (1, .sl 5 (mem.map enA)), (5, .ref 0), (6, .raw (.int .i64 ((x : Int) - 1)))], [(0, .row 33 1 ((rE ls x).map esA))])) 1 ls.length ⟨Nat.le_refl _, by simp [rE]⟩ [] ?_ ?_
 · simp only [go_sem, AObj.bel, rE, List.drop_length, List.reverse_nil, List.flatMap_nil, List.map_nil] <;> simp
 rintro j ⟨hj, hjl⟩
 refine sq fun _ k5 => aj ?_
 refine cdS rfl (fun hc1 => ?_) fun hc1 => ?_
 · have hj0 : j = 0 := by have h9 : ¬ (0 : Int) ≤ (j : Int) - 1 := (by simpa using hc1); omega
   subst hj0
   refine we (jt (k3 ?_))
   refine sr rfl fun _ k13 => ?_; simp only [go_sem, List.length_take, List.length_append, List.nil_append, List.length_map, List.length_drop, List.map_append]
   refine jr (k13 (wR ?_))
   have hfin : (rE ls 0).map esA ++ [AV.sl 5 (mem.map enA)] = (jB ls mem).map esA := by unfold jB rE; simp [esA]
   refine ⟨[(0, 2)], ?_⟩
   simp only [go_sem, AObj.bel, AObj.ren, AV.ren, aA, sg] <;> simp
   exact hfin
 obtain ⟨i, rfl⟩ : ∃ i, j = i + 1 := ⟨j - 1, by have h9 : (0 : Int) ≤ (j : Int) - 1 := (by simpa using hc1); omega⟩
 have hi1 : (((i + 1 : Nat) : Int) - 1) = (i : Int) := by omega
 obtain ⟨l, hl, _, hml⟩ := ix (xs := ls) (i := i) (by omega)
 have hsl := hs.2 l hml
 have hll := hsl.1
 simp only [hi1]
 refine wk (k5 (sq fun _ k7 => (wb (sr rfl fun _ k8 => ?_))))
 simp only [go_sem, hl, rsA]
 refine jr (k8 (wb ?_))
 refine wl (α := Nat) (fun x => x ≤ l.length) (fun x => l.length - x) (fun x => ([(0, .sl 1 (ls.map rsA)), (1, .sl 5 (mem.map enA)), (5, .ref 0), (6, .raw (.int .i64 (i : Int))), (19, .sl 2 (l.map rA)), (20, .raw (.int .i64 (l.length : Int))), (21, .raw (.int .i64 (x : Int)))], [(0, .row 33 1 ((rE ls (i + 1) ++ (l.take x).map Run.ents).map esA))])) 1 0 (Nat.zero_le _) [] ?_ ?_
 · simp only [go_sem, AObj.bel, AObj.ren, AV.ren, aA, sg, Int.natCast_zero] <;> simp
 rintro k hk
 refine aj ?_; refine sq fun _ k10 => ?_
 refine cdS rfl (fun hc2 => ?_) fun hc2 => ?_
 · have hgek : l.length ≤ k := by have h9 : ¬ k < l.length := (by simpa using hc2); omega
   refine we (jt ?_)
   refine jt (k7 ?_)
   have hw4 : IntKind.i64.wrap ((i : Int) - 1) = (i : Int) - 1 := by rw [w64]; omega
   have htn : (rE ls (i + 1)).map esA ++ (l.map Run.ents).map esA = (rE ls i).map esA := by rw [layTo_step hl, List.map_append]
   have hfull : l.take k = l := List.take_of_length_le (by omega)
   refine wg rfl ?_; simp only [go_sem, hw4, hfull]; refine jt ?_
   refine ⟨i, ⟨by omega, by rw [layTo_step hl, List.length_append, List.length_map]; omega⟩, by omega, [], ?_⟩
   simp only [go_sem, AObj.bel, AObj.ren, AV.ren, aA, sg, Int.natCast_zero] <;> simp
   simpa using htn
 have hltk : k < l.length := by simpa using hc2
 obtain ⟨r, hr, _, hmr⟩ := ix hltk
 refine wk (k10 (sq fun _ k11 => (wb (sr rfl fun _ k12 => ?_))))
 simp only [go_sem, hr, rA]
 refine jr (k12 ?_)
 refine wg rfl ?_; simp only [go_sem, List.length_take, List.length_append, List.nil_append, List.length_map, List.length_drop, List.map_append]; refine jr ?_
 refine jt (k11 ?_)
 have hwk := wiS k (by omega)
 have htk : (rE ls (i + 1)).map esA ++ (((l.take k).map Run.ents).map esA ++ [AV.sl 5 (r.ents.map enA)]) = (rE ls (i + 1)).map esA ++ ((l.take (k + 1)).map Run.ents).map esA := by
   rw [List.take_add_one, hr]; simp [esA]
 refine wg rfl ?_; simp only [go_sem, hwk]; refine jt ?_
 refine ⟨k + 1, by omega, by omega, [(0, 3)], ?_⟩
 simp only [go_sem, AObj.bel, AObj.ren, AV.ren, aA, sg, Int.natCast_zero] <;> simp
 first | exact htk | simpa using htk
theorem w_impl_newerAbove (ls : List (List Entry)) (seq : Int) (hz : ls.length ≤ 4194304) (hl5 : ∀ l ∈ ls, l.length ≤ 1048576) : aB P 163 [.sl 1 (ls.map esA), .raw (.int .i64 seq)] [] 0 (.raw (.bool (qK seq [] ls))) := by
 refine pq 57 [.tmp 4] Tryz.func163 ?_
 refine aj ?_; refine aj ?_
 refine sq fun _ k3 => aj (wb ?_)
 refine wl (α := Nat × Tops) (fun x => x.1 ≤ ls.length ∧ (x.2.map (·.1)).Nodup ∧ x.2.length ≤ 1048576 * x.1 ∧ qK seq x.2 (ls.drop x.1) = qK seq [] ls) (fun x => ls.length - x.1) (fun x => ([(1, .raw (.int .i64 seq)), (5, .ref 0), (13, .sl 1 (ls.map esA)), (14, .raw (.int .i64 (ls.length : Int))), (15, .raw (.int .i64 (x.1 : Int)))], [(0, tD x.2)])) 1 (0, []) ⟨Nat.zero_le _, List.nodup_nil, Nat.le_refl _, rfl⟩ [] ?_ ?_
 · simp only [go_sem, AObj.bel, AObj.ren, tD, mAV, List.map_nil, Int.natCast_zero] <;> simp [aC]
 rintro ⟨i, m⟩ ⟨hi, hnd, hml, hgo⟩
 simp only at hi hnd hml hgo ⊢
 refine aj ?_; refine sq fun _ k6 => ?_
 refine cdS rfl (fun hc1 => ?_) fun hc1 => ?_
 · have hge : ls.length ≤ i := Nat.not_lt.1 (by simpa using hc1)
   rw [List.drop_eq_nil_of_le hge, qK] at hgo
   refine we (jt (k3 ?_))
   refine aj (wR ?_)
   refine fO ?_ trivial; simp only [go_sem, ← hgo]
 have hlt : i < ls.length := (by simpa using hc1); obtain ⟨l, hl, hdrop, hml0⟩ := ix hlt
 have hll := hl5 l hml0
 refine wk (k6 (sq fun _ k7 => (wb (sr rfl fun _ k8 => ?_))))
 simp only [go_sem, hl, esA]
 refine jr (k8 ?_)
 refine sq fun _ k9 => aj (wb ?_)
 refine wl (α := Nat) (fun x => x ≤ l.length ∧ ∀ j, j < x → nwAt m seq l j = true) (fun x => l.length - x) (fun x => ([(1, .raw (.int .i64 seq)), (5, .ref 0), (7, .sl 5 (l.map enA)), (13, .sl 1 (ls.map esA)), (14, .raw (.int .i64 (ls.length : Int))), (15, .raw (.int .i64 (i : Int))), (19, .sl 5 (l.map enA)), (20, .raw (.int .i64 (l.length : Int))), (21, .raw (.int .i64 (x : Int)))], [(0, tD m)])) 1 0 ⟨Nat.zero_le _, fun j hj => absurd hj (Nat.not_lt_zero _)⟩ [] ?_ ?_
 · simp only [go_sem, AObj.bel, AObj.ren, tD, Int.natCast_zero] <;> simp
 rintro k ⟨hk, hall⟩
 refine aj ?_; refine sq fun _ k12 => ?_
 refine cd rfl (fun hc2 => ?_) fun hc2 => ?_
 · have hltk : k < l.length := by simpa using hc2
   obtain ⟨e, he, _, _⟩ := ix hltk
   refine wk (k12 (sq fun _ k13 => (wb (sr rfl fun _ k14 => ?_))))
   simp only [go_sem, he, enA]
   refine jr (k14 ?_)
   refine sr rfl fun _ k15 => ?_; simp only [go_sem, he, enA]
   refine vC (fun hN => cH hN rfl rfl rfl rfl (by simp only [go_sem]) (fun hg => lstep_look (eK := Value.string) (eV := inA) (k := e.key) (z := 0) (m := m) rfl rfl hN (by simp only [go_sem]) (by simp only [go_sem, inA]) keyS (fun a b h => Value.string.inj h) (fun a => trivial) rfl rfl hnd rfl rfl) trivial) (.inl rfl) ?_
   simp only [go_sem, inA, he, enA]; apply k15
   refine cd rfl (fun hc3 => ?_) fun hc3 => ?_
   · have hp : nwAt m seq l k = false := by unfold nwAt; rw [he]; simp only [hc3]; rfl
     have hok : nwOk m seq l = false := eP hltk hp
     refine aj (wR ?_)
     simp only [go_sem, lQ]; rw [hdrop, qK, hok] at hgo; refine fO ?_ trivial; simp only [go_sem, ← hgo, Bool.false_eq_true, if_false]
   have hp : nwAt m seq l k = true := by unfold nwAt; rw [he]; simp only [hc3]; rfl
   refine wk (jt (k13 ?_))
   have hwk := wiS k (by omega)
   refine wg rfl ?_; simp only [go_sem, hwk]; refine jt ?_
   refine ⟨k + 1, ⟨by omega, bP hall hp⟩, by omega, [], ?_⟩
   simp only [go_sem, AObj.bel, AObj.ren, AV.ren, aA, sg, tD] <;> simp
 have hgek : l.length ≤ k := by have h9 : ¬ k < l.length := (by simpa using hc2); omega
 refine we (jt (k9 ?_))
 have hok : nwOk m seq l = true := dU hgek hall
 refine aj (wb ?_)
 refine wl (α := Nat × Tops) (fun x => x.1 ≤ l.length ∧ (x.2.map (·.1)).Nodup ∧ x.2.length ≤ 1048576 * i + x.1 ∧ tY x.2 (l.drop x.1) = tY m l) (fun x => l.length - x.1) (fun x => ([(1, .raw (.int .i64 seq)), (5, .ref 0), (13, .sl 1 (ls.map esA)), (14, .raw (.int .i64 (ls.length : Int))), (15, .raw (.int .i64 (i : Int))), (39, .sl 5 (l.map enA)), (40, .raw (.int .i64 (l.length : Int))), (41, .raw (.int .i64 (x.1 : Int)))], [(0, tD x.2)])) 1 (0, m) ⟨Nat.zero_le _, hnd, by simpa using hml, rfl⟩ [] ?_ ?_
 · simp only [go_sem, AObj.bel, AObj.ren, tD, Int.natCast_zero] <;> simp
 rintro ⟨k, m2⟩ ⟨hk2, hnd2, hml2, hput⟩
 simp only at hk2 hnd2 hml2 hput ⊢
 refine aj ?_; refine sq fun _ k19 => ?_
 refine cdS rfl (fun hc4 => ?_) fun hc4 => ?_
 · have hgek2 : l.length ≤ k := by have h9 : ¬ k < l.length := (by simpa using hc4); omega
   rw [List.drop_eq_nil_of_le hgek2] at hput
   have hput2 : m2 = tY m l := hput
   refine we (jt ?_)
   refine jt (k7 ?_)
   refine jw (wiS i (by omega)) ?_
   refine jt ?_
   refine ⟨(i + 1, tY m l), ⟨by simp only; omega, nwPut_nodup l hnd, by have := nwPut_len l m; simp only; omega, by rw [hdrop, qK, if_pos hok] at hgo; exact hgo⟩, by simp only; omega, [], ?_⟩
   rw [hput2]
   simp only [go_sem, AObj.bel, AObj.ren, AV.ren, aA, sg, tD] <;> simp
 have hltk : k < l.length := by simpa using hc4
 obtain ⟨e, he, hdrop2, _⟩ := ix hltk
 refine wk (k19 (sq fun _ k20 => (wb (sr rfl fun _ k21 => ?_))))
 simp only [go_sem, he, enA]
 refine jr (k21 ?_)
 have hmx2 : m2.length + 1 < maxLen := by have hmx : maxLen = 9223372036854775807 := rfl
                                          omega
 refine wg rfl ?_; simp only [go_sem, he, enA]
 refine vC (fun hN => lstep_look (eK := Value.string) (eV := inA) (k := e.key) (z := 0) (m := m2) rfl rfl hN (by simp only [go_sem]) (by simp only [go_sem, inA]) keyS (fun a b h => Value.string.inj h) (fun a => trivial) rfl rfl hnd2 rfl rfl) (.inl rfl) ?_
 simp only [go_sem, inA, he, enA]
 refine vC (fun hN => lstep_upd (eK := Value.string) (eV := inA) (k := e.key) (v := max (xE m2 e.key 0) e.seq) (m := m2) rfl rfl hN (by simp only [go_sem]) keyS (fun a b h => Value.string.inj h) (fun a => trivial) rfl rfl hnd2 rfl rfl rfl hmx2) (.inl rfl) ?_
 simp only [go_sem, inA, he, enA]
 refine jt (k20 ?_)
 have hwk := wiS k (by omega)
 refine wg rfl ?_; simp only [go_sem, hwk]; refine jt ?_
 refine ⟨(k + 1, vU m2 e), ⟨by simp only; omega, nwStep_nodup hnd2 e, by have := nwStep_len m2 e; simp only; omega, by rw [hdrop2] at hput; exact hput⟩, by simp only; omega, [], ?_⟩
 simp only [go_sem, AObj.bel, AObj.ren, AV.ren, aA, sg, tD, vU] <;> simp
theorem xS (t : Tree) (hs : gN t) : aB P 115 [trA t] [] 0 (.raw (.bool (dG t))) := by
 refine pq 58 [.tmp 2] Tryz.func115 ?_
 simp only [trA]
 have hs0 := hs
 obtain ⟨hs1, hs2, hs3⟩ := hs
 have hz1 : dK t.mem := ⟨by have := hs1.1; omega, fun e he => ⟨by have := (hs1.2 e he).1; omega, by have := (hs1.2 e he).2; omega⟩⟩
 have hzr : ∀ rs ∈ t.levels, mxRuns rs := fun rs hrs => by
   have h1 := hs2.2 rs hrs
   exact ⟨by have := h1.1; omega, fun r hr => ⟨by have := (h1.2 r hr).1; omega, fun e he => ⟨by have := ((h1.2 r hr).2 e he).1; omega, by have := ((h1.2 r hr).2 e he).2; omega⟩⟩⟩
 have hlz := hs2.1
 refine aj ?_
 refine sq fun _ k2 => aj ?_
 refine cd rfl (fun hc1 => ?_) fun hc1 => ?_
 · have hb : nM t = true := hc1
   refine aj (wR ?_)
   refine fO ?_ trivial; simp only [go_sem, dG, hb, if_true]
 have hb : nM t = false := hc1
 have h3 : t.levels.length = 3 := by simp at hc1; omega
 refine wk (k2 (sq fun _ k5 => (sr rfl fun _ k6 => (ja ?_))))
 refine vq Tryz.func146 (pS t.mem hz1) ?_
 refine vpg rfl rfl rfl rfl rfl rfl ⟨Tryz.func161, rfl, rfl⟩ (fun hg => w_impl_snapsOk t.snaps t.seq (by omega)) (by simp only [go_sem]) (fun hg => (by simp only [go_sem])) (by simp only [go_sem]) trivial ?_
 simp only [go_sem]; apply k6
 refine cd rfl (fun hc2 => ?_) fun hc2 => ?_
 · have hb2 := hc2
   refine aj (wR ?_)
   refine fO ?_ trivial; simp only [go_sem, dG, hb, hb2, Bool.false_eq_true, if_false, if_true]
 have hb2 := hc2
 refine wk (k5 (sq fun _ k8 => (aj (wb ?_))))
 refine wl (α := Nat) (fun x => x ≤ t.levels.length ∧ ∀ j, j < x → (fun i : Nat => nR ((t.levels[i]?).getD []) (i : Int)) j = true) (fun x => t.levels.length - x) (fun x => ([(1, .ptr 0 0), (38, .sl 1 (t.levels.map rsA)), (39, .raw (.int .i64 (t.levels.length : Int))), (40, .raw (.int .i64 (x : Int)))], [(0, .cells 36 [.raw (.int .i64 t.seq), .sl 5 (t.mem.map enA), .sl 1 (t.levels.map rsA), .sl 1 (t.snaps.map inA)])])) 1 0 ⟨Nat.zero_le _, fun j hj => absurd hj (Nat.not_lt_zero _)⟩ [] ?_ ?_
 · simp only [go_sem, AObj.bel, Int.natCast_zero] <;> simp
 rintro i ⟨hi, hall⟩
 refine aj ?_; refine sq fun _ k11 => ?_
 refine cdS rfl (fun hc3 => ?_) fun hc3 => ?_
 · have hge : t.levels.length ≤ i := Nat.not_lt.1 (by simpa using hc3)
   have hlo : lvsOkI t.levels = true := dU hge hall
   have hlay : (jB t.levels t.mem).length ≤ 4194304 := by have h8 := layersI_len hs0; omega
   refine we (jt (k8 ?_))
   refine sd mixed rfl fun _ k16 => ja ?_
   refine tp rfl rfl rfl ⟨Tryz.func164, rfl, rfl⟩ ((bX (w_impl_layersOf_o t.levels t.mem hs2) (by simp only [go_sem, entsAV_fz]) (by simp only [go_sem]) : aB P 164 [.sl 1 (t.levels.map rsA), .sl 5 (t.mem.map enA)] [] 0 (.sl 1 ((jB t.levels t.mem).map esA)))) (by simp only [go_sem]) (by simp only [go_sem]) ?_
   simp only [go_sem]
   refine tp rfl rfl rfl ⟨Tryz.func163, rfl, rfl⟩ (w_impl_newerAbove (jB t.levels t.mem) t.seq hlay (layersI_small hs0)) (by simp only [go_sem]) (by simp only [go_sem]) ?_
   simp only [go_sem]; refine ⟨by rfl, ?_⟩
   refine k16 (wR (fO ?_ trivial))
   simp only [go_sem, dG, hb, hb2, hlo, Bool.false_eq_true, Bool.true_eq_false, if_false]
 have hlt : i < t.levels.length := by simpa using hc3
 obtain ⟨l, hl, hdrop, hml⟩ := ix hlt
 refine wk (k11 (sq fun _ k12 => (wb (sr rfl fun _ k13 => ?_))))
 simp only [go_sem, hl, rsA]
 refine jr (k13 ?_)
 refine sr rfl fun _ k14 => ?_; simp only [go_sem, hl, rsA]
 refine vs rfl rfl rfl Tryz.func162 (w_impl_levelOk l (i : Int) (hzr l hml)) (by simp only [go_sem]) (by simp only [go_sem]) ?_
 simp only [go_sem, hl, rsA]; apply k14
 refine cd rfl (fun hc4 => ?_) fun hc4 => ?_
 · have hp : (fun i : Nat => nR ((t.levels[i]?).getD []) (i : Int)) i = false := by simp only [hl, Option.getD_some]; simpa using hc4
   have hlo : lvsOkI t.levels = false := eP hlt hp
   refine aj (wR ?_)
   simp only [go_sem, lQ]; refine fO ?_ trivial; simp only [go_sem, dG, hb, hb2, hlo, Bool.false_eq_true, if_false, if_true]
 have hp : (fun i : Nat => nR ((t.levels[i]?).getD []) (i : Int)) i = true := by simp only [hl, Option.getD_some]; simpa using hc4
 refine wk (jt (k12 ?_))
 refine jw (wiS i (by omega)) ?_
 refine jt ?_
 refine ⟨i + 1, ⟨by omega, bP hall hp⟩, by omega, [], ?_⟩
 simp only [go_sem, AObj.bel] <;> simp
end Go.Proofs.S
end
section
open Go Go.Abs Go.Proofs
namespace Go.Proofs.S
section
variable {ls : List Run} {r : Run} {e : Entry}
theorem lO {p : Nat → Bool} {n : Nat} : (List.range n).all p = true ↔ ∀ i, i < n → p i = true := by
  rw [List.all_eq_true]
  exact ⟨fun h i hi => h i (List.mem_range.2 hi), fun h i hi => h i (List.mem_range.1 hi)⟩
theorem pF {α : Type} {ls : List α} {x : α} (h : x ∈ ls) : ∃ i, i < ls.length ∧ ls[i]? = some x := by
  obtain ⟨i, hi⟩ := List.getElem?_of_mem h
  exact ⟨i, (List.getElem?_eq_some_iff.1 hi).1, hi⟩
theorem qH (ls : List Entry) (seq : Int) : jM ls seq = true ↔ ∀ e ∈ ls, e.seq ≤ seq := by
  unfold jM; rw [lO]
  constructor
  · intro h e he
    obtain ⟨i, hi, hx⟩ := pF he
    have := h i hi
    unfold nT at this; rw [hx] at this
    simpa using this
  intro h i hi; unfold nT; rw [List.getElem?_eq_getElem hi]
  simpa using h _ (List.getElem_mem hi)
theorem iN (a b : List Entry) : lK a b = true ↔ ∀ e ∈ a, ∀ f ∈ b, e.key = f.key → f.seq < e.seq := by
  unfold lK; rw [lO]
  constructor
  · intro h e he f hf hk
    obtain ⟨i, hi, hx⟩ := pF he
    obtain ⟨j, hj, hy⟩ := pF hf
    have := lO.1 (h i hi) j hj
    unfold abvAt at this; rw [hx, hy] at this
    simp only [ba_beq, hk, decide_true, Bool.true_and, Bool.not_eq_true', decide_eq_false_iff_not] at this
    omega
  intro h i hi
  refine lO.2 fun j hj => ?_
  unfold abvAt; rw [List.getElem?_eq_getElem hi, List.getElem?_eq_getElem hj]; simp only [ba_beq]
  by_cases hk : a[i].key = b[j].key
  · have := h _ (List.getElem_mem hi) _ (List.getElem_mem hj) hk
    simp [hk]; omega
  simp [hk]
theorem agedS_iff (ps : List (List Entry)) : agedS ps = true ↔ ps.Pairwise fun a b => lK a b = true := by
  unfold agedS; rw [lO, List.pairwise_iff_getElem]
  constructor
  · intro h i j hi hj hij
    have := lO.1 (h i hi) (j - (i + 1)) (by omega)
    unfold wG at this; rw [show i + 1 + (j - (i + 1)) = j by omega, List.getElem?_eq_getElem hi, List.getElem?_eq_getElem hj] at this; exact this
  intro h i hi
  refine lO.2 fun d hd => ?_
  unfold wG; rw [List.getElem?_eq_getElem hi, List.getElem?_eq_getElem (show i + 1 + d < ps.length by omega)]
  exact h i (i + 1 + d) hi (by omega) (by omega)
def Adj (ls : List Run) : Prop := ∀ i, (h : i + 1 < ls.length) → Op.bytesLess (iQ ls[i]).toList (mV ls[i + 1]).toList = true
theorem sX {i : Nat} (h : i + 1 < ls.length) : gZ ls (i + 1) = ls[i] := by
  unfold gZ; rw [Nat.add_sub_cancel, List.getElem?_eq_getElem (by omega)]; rfl
theorem pM (ls : List Run) (level : Int) : nR ls level = true ↔ (ls.length : Int) ≤ roomI level ∧ (∀ r ∈ ls, gC r = true) ∧ (0 < level → Adj ls) := by
  unfold nR; split
  · rename_i h
    exact ⟨fun h' => (by cases h'), fun h' => by omega⟩
  rename_i h
  rw [lO]
  constructor
  · intro h'
    refine ⟨by omega, fun r hr => ?_, fun hl i hi => ?_⟩
    · obtain ⟨i, hi, hx⟩ := pF hr
      exact lvAtI_ok (h' i hi) hx
    have := h' (i + 1) hi
    unfold uJ at this; rw [List.getElem?_eq_getElem hi, sX hi] at this
    simp [hl] at this
    have h1 := this.2
    exact h1
  rintro ⟨h1, h2, h3⟩ i hi
  unfold uJ; rw [List.getElem?_eq_getElem hi]; simp only [h2 _ (List.getElem_mem hi), Bool.true_and]
  by_cases hl : 0 < level
  · cases i with
    | zero => simp
    | succ i =>
      rw [sX hi, h3 hl i hi]
      simp
  simp [hl]
theorem gQ (ls : List Run) (most : Int) (ap : Bool) (seq : Int) : dY ls most ap seq = true ↔ (ls.length : Int) ≤ most ∧ (∀ r ∈ ls, gC r = true ∧ jM r.ents seq = true) ∧ (ap = true → Adj ls) := by
  unfold dY; split
  · rename_i h
    exact ⟨fun h' => (by cases h'), fun h' => by omega⟩
  rename_i h
  rw [lO]
  constructor
  · intro h'
    refine ⟨by omega, fun r hr => ?_, fun hl i hi => ?_⟩
    · obtain ⟨i, hi, hx⟩ := pF hr
      have := h' i hi
      unfold mX at this; rw [hx] at this; simp at this
      exact this.1
    have := h' (i + 1) hi
    unfold mX at this; rw [List.getElem?_eq_getElem hi, sX hi] at this
    simp [hl] at this
    exact this.2
  rintro ⟨h1, h2, h3⟩ i hi
  unfold mX; rw [List.getElem?_eq_getElem hi]
  obtain ⟨k1, k2⟩ := h2 _ (List.getElem_mem hi)
  simp only [k1, k2, Bool.not_true, Bool.or_false, Bool.not_false, Bool.true_and]
  by_cases hl : ap = true
  · cases i with
    | zero => simp
    | succ i =>
      rw [sX hi, h3 hl i hi]
      simp
  simp [hl]
theorem top_put (s : Int) (k : ByteArray) : ∀ (l : List Entry) (m : Tops), xE (tY m l) k 0 < s ↔ xE m k 0 < s ∧ ∀ e ∈ l, e.key = k → e.seq < s
  | [], m => by simp [tY]
  | e :: r, m => by
    have ih := top_put s k r (vU m e)
    unfold tY at ih ⊢
    rw [List.foldl_cons, ih]; unfold vU; rw [mval_mset]
    by_cases hk : e.key = k
    · subst hk; rw [if_pos rfl]
      constructor
      · rintro ⟨h1, h2⟩
        refine ⟨by omega, fun f hf hfk => ?_⟩
        rcases List.mem_cons.1 hf with rfl | hf
        · omega
        exact h2 f hf hfk
      rintro ⟨h1, h2⟩
      have h3 := h2 e List.mem_cons_self rfl
      exact ⟨by omega, fun f hf => h2 f (List.mem_cons_of_mem _ hf)⟩
    rw [if_neg hk]
    constructor
    · rintro ⟨h1, h2⟩
      refine ⟨h1, fun f hf hfk => ?_⟩
      rcases List.mem_cons.1 hf with rfl | hf
      · exact absurd hfk hk
      exact h2 f hf hfk
    rintro ⟨h1, h2⟩
    exact ⟨h1, fun f hf => h2 f (List.mem_cons_of_mem _ hf)⟩
theorem nwOk_iff (m : Tops) (seq : Int) (l : List Entry) : nwOk m seq l = true ↔ ∀ e ∈ l, e.seq ≤ seq ∧ xE m e.key 0 < e.seq := by
  unfold nwOk; rw [lO]
  constructor
  · intro h e he
    obtain ⟨i, hi, hx⟩ := pF he
    have := h i hi
    unfold nwAt at this; rw [hx] at this; simp at this; omega
  intro h i hi; unfold nwAt; rw [List.getElem?_eq_getElem hi]
  have := h _ (List.getElem_mem hi)
  simp
  omega
theorem yO (seq : Int) : ∀ (ls : List (List Entry)) (m : Tops), qK seq m ls = true ↔ (∀ l ∈ ls, ∀ e ∈ l, e.seq ≤ seq ∧ xE m e.key 0 < e.seq) ∧ ls.Pairwise fun a b => lK b a = true
  | [], m => by simp [qK]
  | l :: r, m => by
    unfold qK; rw [List.pairwise_cons]; split
    · rename_i h
      have h0 := (nwOk_iff m seq l).1 h
      rw [yO seq r (tY m l)]
      constructor
      · rintro ⟨h1, h2⟩
        refine ⟨fun l' hl' e he => ?_, fun b hb => (iN b l).2 fun e he f hf hk => ?_, h2⟩
        · rcases List.mem_cons.1 hl' with rfl | hl'
          · exact h0 e he
          have h3 := h1 l' hl' e he
          exact ⟨h3.1, ((top_put _ _ _ _).1 h3.2).1⟩
        have h3 := (h1 b hb e he).2
        exact ((top_put _ _ _ _).1 h3).2 f hf hk.symm
      rintro ⟨h1, h2, h3⟩
      refine ⟨fun l' hl' e he => ?_, h3⟩
      have h4 := h1 l' (List.mem_cons_of_mem _ hl') e he
      exact ⟨h4.1, (top_put _ _ _ _).2 ⟨h4.2, fun f hf hfk => (iN l' l).1 (h2 l' hl') e he f hf hfk.symm⟩⟩
    rename_i h
    refine ⟨fun h' => (by cases h'), fun h' => absurd ((nwOk_iff m seq l).2 fun e he => h'.1 l List.mem_cons_self e he) h⟩
theorem key_le {a b : Entry} (h : entLt a b = true) : Op.bytesLess b.key.toList a.key.toList = false := by
  have := entLt_asymm h
  simp only [entLt, Bool.or_eq_false_iff] at this
  exact this.1
theorem run_keys (h : gC r = true) (he : e ∈ r.ents) : Op.bytesLess e.key.toList (mV r).toList = false ∧ Op.bytesLess (iQ r).toList e.key.toList = false := by
  have hl := pL h
  simp only [gC, Bool.and_eq_true] at h
  have hp := List.pairwise_iff_getElem.1 (inOrd_pw h.1.2)
  obtain ⟨i, hi, hx⟩ := pF he
  rw [List.getElem?_eq_getElem hi] at hx; cases hx
  refine ⟨?_, ?_⟩
  · unfold mV; rw [List.getElem?_eq_getElem (by omega)]; simp only [Option.getD_some]
    by_cases h0 : i = 0
    · subst h0; exact iL _
    exact key_le (hp 0 i (by omega) hi (by omega))
  unfold iQ; rw [List.getElem?_eq_getElem (by omega)]; simp only [Option.getD_some]
  by_cases h0 : i = r.ents.length - 1
  · subst h0; exact iL _
  exact key_le (hp i (r.ents.length - 1) hi (by omega) (by omega))
theorem bl_lt_le {x y z : List UInt8} (h1 : Op.bytesLess x y = true) (h2 : Op.bytesLess z y = false) : Op.bytesLess x z = true := by
  cases h3 : Op.bytesLess x z with
  | true => rfl
  | false => have := bl_neg x z y h3 h2; rw [h1] at this; cases this
theorem bl_le_lt {x y z : List UInt8} (h1 : Op.bytesLess y x = false) (h2 : Op.bytesLess y z = true) : Op.bytesLess x z = true := by
  cases h3 : Op.bytesLess x z with
  | true => rfl
  | false => have := bl_neg y x z h1 h3; rw [h2] at this; cases this
theorem low_high (h : gC r = true) : Op.bytesLess (iQ r).toList (mV r).toList = false := by
  have hl := pL h
  have hm : r.ents[0] ∈ r.ents := List.getElem_mem (by omega)
  have h1 := run_keys h hm
  exact bl_neg _ _ _ h1.2 h1.1
theorem adj_all (h : Adj ls) (hr : ∀ r ∈ ls, gC r = true) : ls.Pairwise fun a b => Op.bytesLess (iQ a).toList (mV b).toList = true := by
  refine List.pairwise_iff_getElem.2 fun i j hi hj hij => ?_
  obtain ⟨d, rfl⟩ : ∃ d, j = i + 1 + d := ⟨j - (i + 1), by omega⟩
  clear hij
  induction d with
  | zero => exact h i hj
  | succ d ih =>
    have h1 := ih (by omega)
    have h2 := h (i + 1 + d) (by omega)
    have h3 := low_high (hr _ (List.getElem_mem (show i + 1 + d < ls.length by omega)))
    exact bl_trans _ _ _ (bl_lt_le h1 h3) h2
theorem adj_above (h : Adj ls) (hr : ∀ r ∈ ls, gC r = true) : (ls.map Run.ents).Pairwise fun a b => lK b a = true := by
  rw [List.pairwise_map]
  refine List.Pairwise.imp_of_mem (fun {a b} ha hb hab => ?_) (adj_all h hr)
  refine (iN _ _).2 fun e he f hf hk => ?_
  have h1 := (run_keys (hr b hb) he).1
  have h2 := (run_keys (hr a ha) hf).2
  have h3 := bl_le_lt h2 (bl_lt_le hab h1)
  rw [hk, iL] at h3; cases h3
theorem eQ (a : List Entry) (rs : List Run) : lK a (dS rs) = true ↔ ∀ r ∈ rs, lK a r.ents = true := by
  rw [iN]
  constructor
  · intro h r hr
    exact (iN _ _).2 fun e he f hf => h e he f (List.mem_flatMap.2 ⟨r, hr, hf⟩)
  intro h e he f hf
  obtain ⟨r, hr, hf⟩ := List.mem_flatMap.1 hf
  exact (iN _ _).1 (h r hr) e he f hf
theorem flat_above (a : List Entry) (rs : List Run) : lK (dS rs) a = true ↔ ∀ r ∈ rs, lK r.ents a = true := by
  rw [iN]
  constructor
  · intro h r hr
    exact (iN _ _).2 fun e he f hf => h e (List.mem_flatMap.2 ⟨r, hr, he⟩) f hf
  intro h e he f hf
  obtain ⟨r, hr, he⟩ := List.mem_flatMap.1 he
  exact (iN _ _).1 (h r hr) e he f hf
theorem ok_seq (h : gC r = true) (he : e ∈ r.ents) : 0 < e.seq := by
  simp only [gC, Bool.and_eq_true] at h
  obtain ⟨i, hi, hx⟩ := pF he
  have := (List.all_eq_true.1 h.1.2) i (List.mem_range.2 hi)
  unfold xC at this; rw [hx] at this; simp at this
  have := eL this.1
  omega
theorem ord_seq {ls : List Entry} (h : dL ls = true) (he : e ∈ ls) : 0 < e.seq := by
  obtain ⟨i, hi, hx⟩ := pF he
  have := (List.all_eq_true.1 h) i (List.mem_range.2 hi)
  unfold xC at this; rw [hx] at this; simp at this
  have := eL this.1
  omega
theorem aged_iff (L0 L1 L2 : List Run) (mem : List Entry) (h1 : Adj L1) (r1 : ∀ r ∈ L1, gC r = true) (h2 : Adj L2) (r2 : ∀ r ∈ L2, gC r = true) :
    ((mem :: (L0.reverse.map Run.ents ++ [dS L1, dS L2])).Pairwise fun a b => lK a b = true) ↔ (((L2.map Run.ents ++ (L1.map Run.ents ++ L0.map Run.ents)) ++ [mem]).Pairwise fun a b => lK b a = true) := by
  have e0 : ∀ (ls : List Run) (φ : List Entry → Prop), (∀ x ∈ ls.map Run.ents, φ x) ↔ ∀ r ∈ ls, φ r.ents := fun ls φ =>
    ⟨fun h r hr => h _ (List.mem_map_of_mem hr), fun h x hx => by obtain ⟨r, hr, rfl⟩ := List.mem_map.1 hx; exact h r hr⟩
  have e1 : (L0.reverse.map Run.ents).Pairwise (fun a b => lK a b = true) ↔ (L0.map Run.ents).Pairwise (fun a b => lK b a = true) := by
    rw [List.map_reverse, List.pairwise_reverse]
  simp only [List.pairwise_cons, List.pairwise_append, List.mem_append, List.mem_cons, List.not_mem_nil, or_false, e1, List.Pairwise.nil, List.Pairwise.nil, forall_eq, forall_eq_or_imp, false_implies, implies_true, and_true, true_and]
  have a1 := adj_above h1 r1
  have a2 := adj_above h2 r2
  constructor
  · rintro ⟨k1, k2, k3, k4⟩
    refine ⟨⟨a2, ⟨a1, k2, fun x hx y hy => ?_⟩, fun x hx y hy => ?_⟩, fun x hx => ?_⟩
    · obtain ⟨r, hr, rfl⟩ := List.mem_map.1 hx
      obtain ⟨s, hs, rfl⟩ := List.mem_map.1 hy
      exact (eQ _ _).1 (k4 s.ents (List.mem_map_of_mem (List.mem_reverse.2 hs))).1 r hr
    · obtain ⟨r, hr, rfl⟩ := List.mem_map.1 hx
      rcases hy with hy | hy
      · obtain ⟨s, hs, rfl⟩ := List.mem_map.1 hy
        exact (eQ _ _).1 ((flat_above _ _).1 k3 s hs) r hr
      obtain ⟨s, hs, rfl⟩ := List.mem_map.1 hy
      exact (eQ _ _).1 (k4 s.ents (List.mem_map_of_mem (List.mem_reverse.2 hs))).2 r hr
    rcases hx with hx | hx | hx
    · obtain ⟨r, hr, rfl⟩ := List.mem_map.1 hx
      exact (eQ _ _).1 (k1 _ (.inr (.inr rfl))) r hr
    · obtain ⟨r, hr, rfl⟩ := List.mem_map.1 hx
      exact (eQ _ _).1 (k1 _ (.inr (.inl rfl))) r hr
    obtain ⟨r, hr, rfl⟩ := List.mem_map.1 hx
    exact k1 _ (.inl (List.mem_map_of_mem (List.mem_reverse.2 hr)))
  rintro ⟨⟨k1, ⟨k2, k3, k4⟩, k5⟩, k6⟩
  refine ⟨fun x hx => ?_, k3, ?_, fun x hx => ?_⟩
  · rcases hx with hx | rfl | rfl
    · obtain ⟨r, hr, rfl⟩ := List.mem_map.1 hx
      exact k6 _ (.inr (.inr (List.mem_map_of_mem (List.mem_reverse.1 hr))))
    · exact (eQ _ _).2 fun r hr => k6 _ (.inr (.inl (List.mem_map_of_mem hr)))
    exact (eQ _ _).2 fun r hr => k6 _ (.inl (List.mem_map_of_mem hr))
  · exact (flat_above _ _).2 fun s hs => (eQ _ _).2 fun r hr => k5 _ (List.mem_map_of_mem hr) _ (.inl (List.mem_map_of_mem hs))
  obtain ⟨s, hs, rfl⟩ := List.mem_map.1 hx
  have hs' := List.mem_reverse.1 hs
  exact ⟨(eQ _ _).2 fun r hr => k4 _ (List.mem_map_of_mem hr) _ (List.mem_map_of_mem hs'), (eQ _ _).2 fun r hr => k5 _ (List.mem_map_of_mem hr) _ (.inr (List.mem_map_of_mem hs'))⟩
theorem treeOk_eq (t : Tree) : dG t = eS t := by
  rw [Bool.eq_iff_iff]
  by_cases h3 : t.levels.length = 3
  · obtain ⟨L0, L1, L2, hL⟩ : ∃ a b c, t.levels = [a, b, c] := by
      match hl : t.levels, h3 with
      | [a, b, c], _ => exact ⟨a, b, c, rfl⟩
    have v0 : lv t 0 = L0 := by unfold lv; rw [hL]; rfl
    have v1 : lv t 1 = L1 := by unfold lv; rw [hL]; rfl
    have v2 : lv t 2 = L2 := by unfold lv; rw [hL]; rfl
    have hp : dB t = t.mem :: (L0.reverse.map Run.ents ++ [dS L1, dS L2]) := by unfold dB; rw [hL]; rfl
    have hlay : jB t.levels t.mem = (L2.map Run.ents ++ (L1.map Run.ents ++ L0.map Run.ents)) ++ [t.mem] := by unfold jB; rw [hL]; simp
    have hlv : lvsOkI t.levels = true ↔ nR L0 0 = true ∧ nR L1 1 = true ∧ nR L2 2 = true := by
      unfold lvsOkI; rw [lO, hL]
      constructor
      · intro h; exact ⟨h 0 (by simp), h 1 (by simp), h 2 (by simp)⟩
      rintro ⟨a, b, c⟩ i hi
      match i, hi with
      | 0, _ => exact a
      | 1, _ => exact b
      | 2, _ => exact c
    unfold dG eS nM sM; rw [v0, v1, v2, hp, hlay]
    constructor
    · intro h; split at h
      · cases h
      rename_i hb
      split at h
      · cases h
      rename_i hb2
      split at h
      · cases h
      rename_i hb3
      have hb3' := hlv.1 (by simpa using hb3)
      obtain ⟨l0, l1, l2⟩ := hb3'
      obtain ⟨a0, b0, -⟩ := (pM _ _).1 l0
      obtain ⟨a1, b1, c1⟩ := (pM _ _).1 l1
      obtain ⟨a2, b2, c2⟩ := (pM _ _).1 l2
      obtain ⟨n1, n2⟩ := (yO _ _ _).1 h
      have hw : ∀ x, x ∈ (L2.map Run.ents ++ (L1.map Run.ents ++ L0.map Run.ents)) ++ [t.mem] → jM x t.seq = true := fun x hx => (qH _ _).2 fun e he => (n1 x hx e he).1
      have hwm := hw t.mem (by simp)
      have w0 : ∀ r ∈ L0, jM r.ents t.seq = true := fun r hr => hw _ (by simp; exact .inr (.inr (.inl ⟨r, hr, rfl⟩)))
      have w1 : ∀ r ∈ L1, jM r.ents t.seq = true := fun r hr => hw _ (by simp; exact .inr (.inl ⟨r, hr, rfl⟩))
      have w2 : ∀ r ∈ L2, jM r.ents t.seq = true := fun r hr => hw _ (by simp; exact .inl ⟨r, hr, rfl⟩)
      rw [if_neg (by simp only [hwm]; simp at hb hb2 ⊢; simp [hb2, h3]; omega)]
      simp only [Bool.and_eq_true]
      exact ⟨⟨⟨(gQ _ _ _ _).2 ⟨a0, fun r hr => ⟨b0 r hr, w0 r hr⟩, fun h => (by cases h)⟩, (gQ _ _ _ _).2 ⟨a1, fun r hr => ⟨b1 r hr, w1 r hr⟩, fun _ => c1 (by omega)⟩⟩, (gQ _ _ _ _).2 ⟨a2, fun r hr => ⟨b2 r hr, w2 r hr⟩, fun _ => c2 (by omega)⟩⟩, (agedS_iff _).2 ((aged_iff L0 L1 L2 t.mem (c1 (by omega)) b1 (c2 (by omega)) b2).2 n2)⟩
    intro h; split at h
    · cases h
    rename_i hb
    simp only [Bool.and_eq_true] at h
    obtain ⟨⟨⟨l0, l1⟩, l2⟩, ha⟩ := h
    obtain ⟨a0, b0, -⟩ := (gQ _ _ _ _).1 l0
    obtain ⟨a1, b1, c1⟩ := (gQ _ _ _ _).1 l1
    obtain ⟨a2, b2, c2⟩ := (gQ _ _ _ _).1 l2
    simp at hb
    have hm : dL t.mem = true := by simp [hb]
    have hs : lS t.snaps t.seq = true := by simp [hb]
    have hwm : jM t.mem t.seq = true := by simp [hb]
    rw [if_neg (by simp; omega), if_neg (by simp [hm, hs]), if_neg (by
      rw [Bool.not_eq_false]
      exact hlv.2 ⟨(pM _ _).2 ⟨a0, fun r hr => (b0 r hr).1, fun h => by omega⟩, (pM _ _).2 ⟨a1, fun r hr => (b1 r hr).1, fun _ => c1 rfl⟩, (pM _ _).2 ⟨a2, fun r hr => (b2 r hr).1, fun _ => c2 rfl⟩⟩)]
    refine (yO _ _ _).2 ⟨fun x hx e he => ?_, (aged_iff L0 L1 L2 t.mem (c1 rfl) (fun r hr => (b1 r hr).1) (c2 rfl) (fun r hr => (b2 r hr).1)).1 ((agedS_iff _).1 ha)⟩
    rw [mval_nil]
    simp only [List.mem_append, List.mem_map, List.mem_singleton] at hx
    rcases hx with (⟨r, hr, rfl⟩ | ⟨r, hr, rfl⟩ | ⟨r, hr, rfl⟩) | rfl
    · exact ⟨(qH _ _).1 (b2 r hr).2 e he, ok_seq (b2 r hr).1 he⟩
    · exact ⟨(qH _ _).1 (b1 r hr).2 e he, ok_seq (b1 r hr).1 he⟩
    · exact ⟨(qH _ _).1 (b0 r hr).2 e he, ok_seq (b0 r hr).1 he⟩
    exact ⟨(qH _ _).1 hwm e he, ord_seq hm he⟩
  · have h1 : dG t = false := by
      unfold dG nM; rw [if_pos]; simp; omega
    have h2 : eS t = false := by
      unfold eS sM; rw [if_pos]; simp; omega
    rw [h1, h2]
end
def hdA (p : List Entry × Nat) : AV := .agg [.sl 5 (p.1.map enA), .raw (.int .i64 (p.2 : Int))]
theorem headAV_b (U : Nat → Prop) (p : List Entry × Nat) : (hdA p).bel U := ⟨enB _ _, trivial, trivial⟩
theorem headAV_r (σ : Nat → Nat) (p : List Entry × Nat) : (hdA p).ren σ = hdA p := AV.ren_closed σ (headAV_b _ p)
attribute [go_sem] headAV_b headAV_r
theorem rowH_bel (U : Nat → Prop) (g : Nat → List Entry × Nat) (n : Nat) : aC U ((List.range n).map fun k => hdA (g k)) := by
  rw [bLi]; intro x hx; obtain ⟨k, _, rfl⟩ := List.mem_map.1 hx; exact headAV_b U _
theorem rowH_ren (s : Nat → Nat) (g : Nat → List Entry × Nat) (n : Nat) : aA s ((List.range n).map fun k => hdA (g k)) = (List.range n).map fun k => hdA (g k) := cO s (rowH_bel _ g n)
attribute [go_sem] rowH_bel rowH_ren
theorem cHead : Tryz.prog.concrete 165 = true := by kernel_rfl
theorem cHeads : Tryz.prog.concrete 167 = true := by kernel_rfl
theorem uPH : P.underlying 167 = some (.pointer 161) := by kernel_rfl
attribute [go_sem] cHead cHeads uPH
def NE (g : Nat → List Entry × Nat) (n : Nat) : Prop := ∀ k, k < n → (g k).1 ≠ []
theorem NE.swp {g : Nat → List Entry × Nat} {n i j : Nat} (h : NE g n) (hi : i < n) (hj : j < n) : NE (Plain.swpA g i j) n := fun k hk => by
  unfold Plain.swpA; split
  · exact h j hj
  split
  · exact h i hi
  exact h k hk
end Go.Proofs.S
end
section
open Go Go.Abs Go.Proofs
open Go.Plain (mergeGo mergeAll headsOf flatH shed hless)
namespace Go.Proofs.S
theorem heads_bel (U : Nat → Prop) (ls : List (List Entry × Nat)) : aC U (ls.map hdA) := nD (f := hdA) (fun _ _ => headAV_b _ _) U ls
theorem heads_ren (σ : Nat → Nat) (ls : List (List Entry × Nat)) : aA σ (ls.map hdA) = ls.map hdA := cO σ (heads_bel _ ls)
attribute [go_sem] heads_bel heads_ren
end Go.Proofs.S
end
section
open Go Go.Abs Go.Proofs
namespace Go.Proofs.S
theorem vN (ls : List Entry) (hz : dK ls) : aB P 123 [.sl 5 (ls.map enA)] [] 0 (.raw (.bool (isB ls))) := by
 refine pq 40 [.tmp 2] Tryz.func123 ?_
 have hlen := hz.1
 refine aj ?_
 refine sq fun _ k2 => aj ?_
 refine cd rfl (fun hc1 => ?_) fun hc1 => ?_
 · have hlb : (decide (1 ≤ (ls.length : Int)) && decide ((ls.length : Int) ≤ 12)) = false := by simp at hc1 ⊢; omega
   have h9 : isB ls = false := by unfold isB; rw [hlb, Bool.and_false]
   refine aj (wR ?_)
   refine fO ?_ trivial; simp only [go_sem, h9]
 have hlb : (decide (1 ≤ (ls.length : Int)) && decide ((ls.length : Int) ≤ 12)) = true := by simp at hc1 ⊢; omega
 refine wk (k2 (sq fun _ k5 => (aj (wb ?_))))
 refine wl (α := Nat) (fun x => x ≤ ls.length ∧ ∀ j, j < x → jD ls j = true) (fun x => ls.length - x) (fun x => ([(0, .sl 5 (ls.map enA)), (13, .sl 5 (ls.map enA)), (14, .raw (.int .i64 (ls.length : Int))), (15, .raw (.int .i64 (x : Int)))], [])) 0 0 ⟨Nat.zero_le _, fun j hj => absurd hj (Nat.not_lt_zero _)⟩ [] ?_ ?_
 · simp only [go_sem, Int.natCast_zero] <;> simp
 rintro i ⟨hi, hall⟩
 refine aj ?_; refine sq fun _ k8 => ?_
 refine cdS rfl (fun hc2 => ?_) fun hc2 => ?_
 · have hge : ls.length ≤ i := Nat.not_lt.1 (by simpa using hc2)
   refine we (jt (k5 ?_))
   refine aj (wR ?_)
   have h9 : isB ls = true := by unfold isB; rw [dU hge hall, hlb]; rfl
   refine fO ?_ trivial; simp only [go_sem, h9]
 have hlt : i < ls.length := (by simpa using hc2); obtain ⟨l, hl, hdrop, hml⟩ := ix hlt
 have hw1 : IntKind.i64.wrap ((i : Int) - 1) = (i : Int) - 1 := by rw [w64]; omega
 have hpn : ((i : Int) - 1).toNat = i - 1 := by omega
 have hpv : ls[i - 1]? = some (dO ls i) := by unfold dO; rw [List.getElem?_eq_getElem (by omega)]; rfl
 refine wk (k8 (sq fun _ k9 => (wb (sr rfl fun _ k10 => ?_))))
 simp only [go_sem, hl, enA]
 refine jr (k10 ?_)
 refine sd mixed rfl fun _ k11 => ?_; simp only [go_sem, hl, hw1, hpn, hpv, enA]; refine jr ?_
 refine tp rfl rfl rfl ⟨Tryz.func122, rfl, rfl⟩ (wC l (hz.2 l hml)) (by simp only [go_sem, enA]) (by simp only [go_sem, enA]) ?_
 simp only [go_sem, hl, hw1, hpn, hpv, enA]; refine jr ?_; refine ⟨by rfl, ?_⟩; apply k11
 refine cd rfl (fun hc3 => ?_) fun hc3 => ?_
 · have hp : jD ls i = false := by unfold jD; rw [hl]; simp only [hc3]; rfl
   refine aj (wR ?_)
   simp only [go_sem, lQ]
   have h9 : isB ls = false := by unfold isB; rw [eP hlt hp]; rfl
   refine fO ?_ trivial; simp only [go_sem, h9]
 have hp : jD ls i = true := by unfold jD; rw [hl]; simp only [hc3]; rfl
 refine wk (jt (k9 ?_))
 refine jw (wiS i (by omega)) ?_
 refine jt ?_
 refine ⟨i + 1, ⟨by omega, bP hall hp⟩, by omega, [], ?_⟩
 simp only [go_sem] <;> simp
theorem w_impl_runCopy (r : Run) (hs : r.ents.length ≤ 1048576) : aD P 170 [rA r] [] 0 (.agg [.ref 0, .raw (.int .i64 r.mask)]) [(0, .row 65 5 (r.ents.map enA))] 1 := by
 refine gq 9 [.cell 2 109] Tryz.func170 ?_
 simp only [rA]
 have hmx : maxLen = 9223372036854775807 := rfl
 refine aj ?_; refine sd mixed rfl fun _ k2 => ?_; simp only [go_sem, List.length_take, List.length_append, List.nil_append, List.length_map, List.length_reverse, List.length_drop]; refine jr ?_; refine ⟨by rfl, ?_⟩
 refine k2 (wR ?_)
 refine ⟨[(0, 2)], ?_⟩
 simp only [go_sem, AObj.bel, AObj.ren, AV.ren, aA, sg] <;> simp
theorem pD (ls : List (List Run)) (hs : mR ls) : aD P 121 [.sl 1 (ls.map rsA)] [] 0 (.ref 0) [(0, .row 107 1 (ls.map rsO))] 1 := by
 refine gq 33 [.tmp 2] Tryz.func121 ?_
 have hmx : maxLen = 9223372036854775807 := rfl
 have hlen := hs.1
 refine aj ?_; refine aj ?_
 refine sq fun _ k3 => aj (wb ?_)
 refine eT (t := 3) 107 1 rfl (by decide) ?_
 simp only [go_sem]
 refine wl (α := Nat) (fun x => x ≤ ls.length) (fun x => ls.length - x) (fun x => ([(3, .ref 0), (9, .sl 1 (ls.map rsA)), (10, .raw (.int .i64 (ls.length : Int))), (11, .raw (.int .i64 (x : Int)))], [(0, .row 107 1 ((ls.take x).map rsO))])) 1 0 (Nat.zero_le _) [] ?_ ?_
 · simp only [go_sem, AObj.bel, List.take_zero, List.map_nil, Int.natCast_zero] <;> simp
 rintro i hi
 refine aj ?_; refine sq fun _ k6 => ?_
 refine cdS rfl (fun hc1 => ?_) fun hc1 => ?_
 · have hge : ls.length ≤ i := Nat.not_lt.1 (by simpa using hc1)
   refine we (jt (k3 ?_))
   refine aj (wR ?_)
   have hie : i = ls.length := by omega
   subst hie; rw [List.take_length]; refine ⟨[], ?_⟩
   simp only [go_sem, AObj.bel] <;> simp
 have hlt : i < ls.length := (by simpa using hc1); obtain ⟨l, hl, hdrop, hml⟩ := ix hlt
 have hsl := hs.2 l hml
 have hll := hsl.1
 refine wk (k6 (sq fun _ k7 => (wb (sr rfl fun _ k8 => ?_))))
 simp only [go_sem, hl, rsA]
 refine jr (k8 ?_)
 refine aj ?_
 refine sq fun _ k10 => sr rfl fun _ k11 => ?_
 simp only [go_sem, rsA]
 refine k11 (wb ?_)
 refine eT (t := 6) 109 2 rfl (by decide) ?_
 simp only [go_sem]
 refine wl (α := Nat) (fun x => x ≤ l.length) (fun x => l.length - x) (fun x => ([(3, .ref 0), (6, .ref 1), (9, .sl 1 (ls.map rsA)), (10, .raw (.int .i64 (ls.length : Int))), (11, .raw (.int .i64 (i : Int))), (15, .sl 2 (l.map rA)), (16, .raw (.int .i64 (l.length : Int))), (17, .raw (.int .i64 (x : Int)))], [(0, .row 107 1 ((ls.take i).map rsO)), (1, .row 109 2 ((l.take x).map runOwn))])) 2 0 (Nat.zero_le _) [] ?_ ?_
 · simp only [go_sem, AObj.bel, List.take_zero, List.map_nil, Int.natCast_zero] <;> simp
 rintro k hk
 refine aj ?_; refine sq fun _ k13 => ?_
 refine cdS rfl (fun hc2 => ?_) fun hc2 => ?_
 · have hgek : l.length ≤ k := by have h9 : ¬ k < l.length := (by simpa using hc2); omega
   refine we (jt (k10 ?_))
   have hfull : l.take k = l := List.take_of_length_le (by omega)
   refine wg rfl ?_; simp only [go_sem, hfull, List.length_take, List.length_append, List.nil_append, List.length_map, List.length_reverse, List.length_drop]; refine jr ?_
   refine jt (k7 ?_)
   have hw := wiS i (by omega)
   have htl : List.take i (List.map rsO ls) ++ [AV.own 109 2 (List.map runOwn l)] = List.take (i + 1) (List.map rsO ls) := by rw [← List.map_take, ← List.map_take]; exact zX hl
   refine wg rfl ?_; simp only [go_sem, hw]; refine jt ?_
   refine ⟨i + 1, by omega, by omega, [(0, 3)], ?_⟩
   simp only [go_sem, AObj.bel, AObj.ren, AV.ren, aA, sg, Int.natCast_zero] <;> simp
   exact htl
 have hltk : k < l.length := by simpa using hc2
 obtain ⟨r, hr, _, hmr⟩ := ix hltk
 have hrl := (hsl.2 r hmr).1
 refine wk (k13 (sq fun _ k14 => (wb (sr rfl fun _ k15 => ?_))))
 simp only [go_sem, hr, rA]
 refine jr (k15 ?_)
 refine wg rfl ?_; simp only [go_sem, List.length_take, List.length_append, List.nil_append, List.length_map, List.length_reverse, List.length_drop]; refine jr ?_
 refine vn 1 rfl rfl rfl ⟨Tryz.func170, rfl, rfl⟩ (w_impl_runCopy r hrl) (by simp only [go_sem, rA]) (by simp only [go_sem, rA]) (by simp) (by decide) ?_
 simp only [go_sem, AV.ren, AObj.ren, aA, shift, sg, Nat.le_refl, Nat.add_zero, Nat.sub_self, List.length_take, List.length_append, List.nil_append, List.length_map, List.length_reverse, List.length_drop]; refine jr ?_
 refine jt (k14 ?_)
 have hwk := wiS k (by omega)
 have htk : List.take k (List.map runOwn l) ++ [AV.agg [AV.own 65 5 (List.map enA r.ents), AV.raw (Value.int IntKind.i64 r.mask)]] = List.take (k + 1) (List.map runOwn l) := by rw [← List.map_take, ← List.map_take]; exact runOwn_take hr
 refine wg rfl ?_; simp only [go_sem, hwk]; refine jt ?_
 refine ⟨k + 1, by omega, by omega, [(1, 5)], ?_⟩
 simp only [go_sem, AObj.bel, AObj.ren, AV.ren, aA, sg, Int.natCast_zero] <;> simp
 exact htk
theorem zQ (t : Tree) (hs : gN t) : aD P 120 [trA t] [] 0 (.agg [.raw (.int .i64 t.seq), .ref 0, .ref 1, .ref 2]) [(0, .row 65 5 (t.mem.map enA)), (1, .row 107 1 (t.levels.map rsO)), (2, .row 3 1 (t.snaps.map inA))] 3 := by
 refine gq 15 [.cell 2 36] Tryz.func120 ?_
 simp only [trA]
 have hmx : maxLen = 9223372036854775807 := rfl
 obtain ⟨⟨hs1, _⟩, hs2, hs3⟩ := hs
 refine aj ?_; refine sd mixed rfl fun _ k2 => ?_; simp only [go_sem, List.length_take, List.length_append, List.nil_append, List.length_map, List.length_reverse, List.length_drop]; refine jr ?_
 refine tn 1 rfl rfl rfl ⟨Tryz.func121, rfl, rfl⟩ (pD t.levels hs2) (by simp only [go_sem]) (by simp only [go_sem]) (by simp) (by decide) ?_
 simp only [go_sem, AV.ren, AObj.ren, aA, shift, sg, Nat.le_refl, Nat.add_zero, Nat.sub_self]; refine jr ?_; refine ⟨by rfl, ?_⟩
 refine k2 (wR ?_)
 refine ⟨[(0, 2), (1, 3), (2, 4)], ?_⟩
 simp only [go_sem, AObj.bel, AObj.ren, AV.ren, aA, sg] <;> simp

end Go.Proofs.S
end
section
open Go.Shelf
namespace Go.Proofs
def Tryz.lays137_ren : Go.Shelf.Ren := ⟨fun | 137 => 231 | 217 => 240 | 266 => 248 | n => n, fun | 9 => 9 | 5 => 5 | 3 => 3 | n => n, fun | n => n⟩
theorem Tryz.lays137 : Go.Proofs.Lays.n137 Tryz.prog Tryz.lays137_ren := {
  mixed := by kernel_rfl
  f137 := Tryz.func231.trans (congrArg some (by kernel_rfl))
  f217 := Tryz.func240.trans (congrArg some (by kernel_rfl))
  f266 := Tryz.func248.trans (congrArg some (by kernel_rfl))
  t3 := Tryz.underlying3
  a3 := Tryz.isAgg3
  z3 := Tryz.sizeOf3
  v3 := Tryz.zeroValue3
  t5 := Tryz.underlying5
  a5 := Tryz.isAgg5
  z5 := Tryz.sizeOf5
  v5 := Tryz.zeroValue5
  t9 := Tryz.underlying9
  a9 := Tryz.isAgg9
  z9 := Tryz.sizeOf9
  v9 := Tryz.zeroValue9 }
def Tryz.laysM171_ren : Go.Shelf.Ren := ⟨fun | 171 => 125 | 243 => 173 | 246 => 205 | 283 => 224 | 284 => 225 | 285 => 226 | 286 => 227 | 129 => 235 | 317 => 234 | 318 => 236 | 319 => 237 | 320 => 238 | 337 => 246 | 338 => 247 | n => n, fun | 3 => 3 | 9 => 9 | 2 => 2 | 4 => 4 | 171 => 244 | 0 => 0 | 53 => 245 | 37 => 100 | 5 => 5 | 173 => 248 | 212 => 254 | 51 => 255 | 20 => 20 | 213 => 256 | 46 => 201 | 232 => 271 | 233 => 272 | n => n, fun | 17 => 0 | 18 => 3 | 19 => 4 | n => n⟩
theorem Tryz.laysM171 : Go.Proofs.LaysM.n171 Tryz.prog Tryz.laysM171_ren := {
  mixed := by kernel_rfl
  f129 := Tryz.func235.trans (congrArg some (by kernel_rfl))
  f171 := Tryz.func125.trans (congrArg some (by kernel_rfl))
  f243 := Tryz.func173.trans (congrArg some (by kernel_rfl))
  f246 := Tryz.func205.trans (congrArg some (by kernel_rfl))
  f283 := Tryz.func224.trans (congrArg some (by kernel_rfl))
  f284 := Tryz.func225.trans (congrArg some (by kernel_rfl))
  f285 := Tryz.func226.trans (congrArg some (by kernel_rfl))
  f286 := Tryz.func227.trans (congrArg some (by kernel_rfl))
  f317 := Tryz.func234.trans (congrArg some (by kernel_rfl))
  f318 := Tryz.func236.trans (congrArg some (by kernel_rfl))
  f319 := Tryz.func237.trans (congrArg some (by kernel_rfl))
  f320 := Tryz.func238.trans (congrArg some (by kernel_rfl))
  f337 := Tryz.func246.trans (congrArg some (by kernel_rfl))
  f338 := Tryz.func247.trans (congrArg some (by kernel_rfl))
  t0 := Tryz.underlying0
  a0 := Tryz.isAgg0
  z0 := Tryz.sizeOf0
  v0 := Tryz.zeroValue0
  t2 := Tryz.underlying2
  a2 := Tryz.isAgg2
  z2 := Tryz.sizeOf2
  v2 := Tryz.zeroValue2
  t3 := Tryz.underlying3
  a3 := Tryz.isAgg3
  z3 := Tryz.sizeOf3
  v3 := Tryz.zeroValue3
  t4 := Tryz.underlying4
  a4 := Tryz.isAgg4
  z4 := Tryz.sizeOf4
  v4 := Tryz.zeroValue4
  t5 := Tryz.underlying5
  a5 := Tryz.isAgg5
  z5 := Tryz.sizeOf5
  v5 := Tryz.zeroValue5
  t9 := Tryz.underlying9
  a9 := Tryz.isAgg9
  z9 := Tryz.sizeOf9
  v9 := Tryz.zeroValue9
  t20 := Tryz.underlying20
  a20 := Tryz.isAgg20
  z20 := Tryz.sizeOf20
  v20 := Tryz.zeroValue20
  t37 := Tryz.underlying100
  a37 := Tryz.isAgg100
  z37 := Tryz.sizeOf100
  v37 := Tryz.zeroValue100
  t46 := Tryz.underlying201
  a46 := Tryz.isAgg201
  z46 := Tryz.sizeOf201
  v46 := Tryz.zeroValue201
  t51 := Tryz.underlying255
  a51 := Tryz.isAgg255
  z51 := Tryz.sizeOf255
  v51 := Tryz.zeroValue255
  t53 := Tryz.underlying245
  a53 := Tryz.isAgg245
  z53 := Tryz.sizeOf245
  v53 := Tryz.zeroValue245
  t171 := Tryz.underlying244
  a171 := Tryz.isAgg244
  z171 := Tryz.sizeOf244
  v171 := Tryz.zeroValue244
  t173 := Tryz.underlying248
  a173 := Tryz.isAgg248
  z173 := Tryz.sizeOf248
  v173 := Tryz.zeroValue248
  t212 := Tryz.underlying254
  a212 := Tryz.isAgg254
  z212 := Tryz.sizeOf254
  v212 := Tryz.zeroValue254
  t213 := Tryz.underlying256
  a213 := Tryz.isAgg256
  z213 := Tryz.sizeOf256
  t232 := Tryz.underlying271
  a232 := Tryz.isAgg271
  z232 := Tryz.sizeOf271
  v232 := Tryz.zeroValue271
  t233 := Tryz.underlying272
  a233 := Tryz.isAgg272
  z233 := Tryz.sizeOf272
  v233 := Tryz.zeroValue272
  g17 := by kernel_rfl
  g18 := by kernel_rfl
  g19 := by kernel_rfl
  i0 := by kernel_rfl
  i2 := by kernel_rfl
  i3 := by kernel_rfl
  i4 := by kernel_rfl
  i5 := by kernel_rfl
  i9 := by kernel_rfl
  i20 := by kernel_rfl
  i37 := by kernel_rfl
  i46 := by kernel_rfl
  i51 := by kernel_rfl
  i53 := by kernel_rfl
  i171 := by kernel_rfl
  i173 := by kernel_rfl
  i212 := by kernel_rfl
  i232 := by kernel_rfl
  i233 := by kernel_rfl
  m17 := by kernel_rfl
  m18 := by kernel_rfl
  m19 := by kernel_rfl }
def Tryz.laysC172_ren : Go.Shelf.Ren := ⟨fun | 172 => 223 | 244 => 232 | 245 => 233 | 247 => 241 | 279 => 242 | 280 => 243 | 281 => 244 | 282 => 245 | 287 => 249 | 316 => 250 | 171 => 125 | 205 => 251 | 321 => 252 | 322 => 253 | 243 => 173 | 246 => 205 | 283 => 224 | 284 => 225 | 285 => 226 | 286 => 227 | 129 => 235 | 317 => 234 | 318 => 236 | 319 => 237 | 320 => 238 | 337 => 246 | 338 => 247 | n => n, fun | 9 => 9 | 3 => 3 | 75 => 146 | 76 => 147 | 4 => 4 | 5 => 5 | 167 => 258 | 37 => 100 | 0 => 0 | 85 => 259 | 2 => 2 | 168 => 261 | 53 => 245 | 175 => 265 | 46 => 201 | 210 => 269 | 127 => 190 | 145 => 276 | 143 => 274 | 21 => 21 | 171 => 244 | 173 => 248 | 212 => 254 | 51 => 255 | 20 => 20 | 213 => 256 | 232 => 271 | 233 => 272 | 80 => 150 | n => n, fun | 15 => 1 | 16 => 2 | 17 => 0 | 18 => 3 | 19 => 4 | n => n⟩
theorem Tryz.laysC172 : Go.Proofs.LaysC.n172 Tryz.prog Tryz.laysC172_ren := {
  mixed := by kernel_rfl
  f129 := Tryz.func235.trans (congrArg some (by kernel_rfl))
  f171 := Tryz.func125.trans (congrArg some (by kernel_rfl))
  f172 := Tryz.func223.trans (congrArg some (by kernel_rfl))
  f205 := Tryz.func251.trans (congrArg some (by kernel_rfl))
  f243 := Tryz.func173.trans (congrArg some (by kernel_rfl))
  f244 := Tryz.func232.trans (congrArg some (by kernel_rfl))
  f245 := Tryz.func233.trans (congrArg some (by kernel_rfl))
  f246 := Tryz.func205.trans (congrArg some (by kernel_rfl))
  f247 := Tryz.func241.trans (congrArg some (by kernel_rfl))
  f279 := Tryz.func242.trans (congrArg some (by kernel_rfl))
  f280 := Tryz.func243.trans (congrArg some (by kernel_rfl))
  f281 := Tryz.func244.trans (congrArg some (by kernel_rfl))
  f282 := Tryz.func245.trans (congrArg some (by kernel_rfl))
  f283 := Tryz.func224.trans (congrArg some (by kernel_rfl))
  f284 := Tryz.func225.trans (congrArg some (by kernel_rfl))
  f285 := Tryz.func226.trans (congrArg some (by kernel_rfl))
  f286 := Tryz.func227.trans (congrArg some (by kernel_rfl))
  f287 := Tryz.func249.trans (congrArg some (by kernel_rfl))
  f316 := Tryz.func250.trans (congrArg some (by kernel_rfl))
  f317 := Tryz.func234.trans (congrArg some (by kernel_rfl))
  f318 := Tryz.func236.trans (congrArg some (by kernel_rfl))
  f319 := Tryz.func237.trans (congrArg some (by kernel_rfl))
  f320 := Tryz.func238.trans (congrArg some (by kernel_rfl))
  f321 := Tryz.func252.trans (congrArg some (by kernel_rfl))
  f322 := Tryz.func253.trans (congrArg some (by kernel_rfl))
  f337 := Tryz.func246.trans (congrArg some (by kernel_rfl))
  f338 := Tryz.func247.trans (congrArg some (by kernel_rfl))
  t0 := Tryz.underlying0
  a0 := Tryz.isAgg0
  z0 := Tryz.sizeOf0
  v0 := Tryz.zeroValue0
  t2 := Tryz.underlying2
  a2 := Tryz.isAgg2
  z2 := Tryz.sizeOf2
  v2 := Tryz.zeroValue2
  t3 := Tryz.underlying3
  a3 := Tryz.isAgg3
  z3 := Tryz.sizeOf3
  v3 := Tryz.zeroValue3
  t4 := Tryz.underlying4
  a4 := Tryz.isAgg4
  z4 := Tryz.sizeOf4
  v4 := Tryz.zeroValue4
  t5 := Tryz.underlying5
  a5 := Tryz.isAgg5
  z5 := Tryz.sizeOf5
  v5 := Tryz.zeroValue5
  t9 := Tryz.underlying9
  a9 := Tryz.isAgg9
  z9 := Tryz.sizeOf9
  v9 := Tryz.zeroValue9
  t20 := Tryz.underlying20
  a20 := Tryz.isAgg20
  z20 := Tryz.sizeOf20
  v20 := Tryz.zeroValue20
  t21 := Tryz.underlying21
  a21 := Tryz.isAgg21
  z21 := Tryz.sizeOf21
  v21 := Tryz.zeroValue21
  t37 := Tryz.underlying100
  a37 := Tryz.isAgg100
  z37 := Tryz.sizeOf100
  v37 := Tryz.zeroValue100
  t46 := Tryz.underlying201
  a46 := Tryz.isAgg201
  z46 := Tryz.sizeOf201
  v46 := Tryz.zeroValue201
  t51 := Tryz.underlying255
  a51 := Tryz.isAgg255
  z51 := Tryz.sizeOf255
  v51 := Tryz.zeroValue255
  t53 := Tryz.underlying245
  a53 := Tryz.isAgg245
  z53 := Tryz.sizeOf245
  v53 := Tryz.zeroValue245
  t75 := Tryz.underlying146
  a75 := Tryz.isAgg146
  z75 := Tryz.sizeOf146
  v75 := Tryz.zeroValue146
  t76 := Tryz.underlying147
  a76 := Tryz.isAgg147
  z76 := Tryz.sizeOf147
  v76 := Tryz.zeroValue147
  t85 := Tryz.underlying259
  a85 := Tryz.isAgg259
  z85 := Tryz.sizeOf259
  v85 := Tryz.zeroValue259
  t127 := Tryz.underlying190
  a127 := Tryz.isAgg190
  z127 := Tryz.sizeOf190
  v127 := Tryz.zeroValue190
  t143 := Tryz.underlying274
  a143 := Tryz.isAgg274
  z143 := Tryz.sizeOf274
  v143 := Tryz.zeroValue274
  t145 := Tryz.underlying276
  a145 := Tryz.isAgg276
  z145 := Tryz.sizeOf276
  v145 := Tryz.zeroValue276
  t167 := Tryz.underlying258
  a167 := Tryz.isAgg258
  z167 := Tryz.sizeOf258
  v167 := Tryz.zeroValue258
  t168 := Tryz.underlying261
  a168 := Tryz.isAgg261
  z168 := Tryz.sizeOf261
  v168 := Tryz.zeroValue261
  t171 := Tryz.underlying244
  a171 := Tryz.isAgg244
  z171 := Tryz.sizeOf244
  v171 := Tryz.zeroValue244
  t173 := Tryz.underlying248
  a173 := Tryz.isAgg248
  z173 := Tryz.sizeOf248
  v173 := Tryz.zeroValue248
  t175 := Tryz.underlying265
  a175 := Tryz.isAgg265
  z175 := Tryz.sizeOf265
  v175 := Tryz.zeroValue265
  t210 := Tryz.underlying269
  a210 := Tryz.isAgg269
  z210 := Tryz.sizeOf269
  v210 := Tryz.zeroValue269
  t212 := Tryz.underlying254
  a212 := Tryz.isAgg254
  z212 := Tryz.sizeOf254
  v212 := Tryz.zeroValue254
  t213 := Tryz.underlying256
  a213 := Tryz.isAgg256
  z213 := Tryz.sizeOf256
  t232 := Tryz.underlying271
  a232 := Tryz.isAgg271
  z232 := Tryz.sizeOf271
  v232 := Tryz.zeroValue271
  t233 := Tryz.underlying272
  a233 := Tryz.isAgg272
  z233 := Tryz.sizeOf272
  v233 := Tryz.zeroValue272
  g15 := by kernel_rfl
  g16 := by kernel_rfl
  g17 := by kernel_rfl
  g18 := by kernel_rfl
  g19 := by kernel_rfl
  t80 := Tryz.underlying150
  a80 := Tryz.isAgg150
  z80 := Tryz.sizeOf150
  v80 := Tryz.zeroValue150
  i0 := by kernel_rfl
  i2 := by kernel_rfl
  i3 := by kernel_rfl
  i4 := by kernel_rfl
  i5 := by kernel_rfl
  i9 := by kernel_rfl
  i20 := by kernel_rfl
  i21 := by kernel_rfl
  i37 := by kernel_rfl
  i46 := by kernel_rfl
  i51 := by kernel_rfl
  i53 := by kernel_rfl
  i75 := by kernel_rfl
  i76 := by kernel_rfl
  i80 := by kernel_rfl
  i85 := by kernel_rfl
  i127 := by kernel_rfl
  i143 := by kernel_rfl
  i145 := by kernel_rfl
  i167 := by kernel_rfl
  i168 := by kernel_rfl
  i171 := by kernel_rfl
  i173 := by kernel_rfl
  i175 := by kernel_rfl
  i210 := by kernel_rfl
  i212 := by kernel_rfl
  i232 := by kernel_rfl
  i233 := by kernel_rfl
  m15 := by kernel_rfl
  m16 := by kernel_rfl
  m17 := by kernel_rfl
  m18 := by kernel_rfl
  m19 := by kernel_rfl
  c0 := by kernel_rfl
  c2 := by kernel_rfl
  c3 := by kernel_rfl
  c4 := by kernel_rfl
  c5 := by kernel_rfl
  c9 := by kernel_rfl
  c20 := by kernel_rfl
  c21 := by kernel_rfl
  c37 := by kernel_rfl
  c46 := by kernel_rfl
  c51 := by kernel_rfl
  c53 := by kernel_rfl
  c75 := by kernel_rfl
  c76 := by kernel_rfl
  c80 := by kernel_rfl
  c85 := by kernel_rfl
  c127 := by kernel_rfl
  c143 := by kernel_rfl
  c145 := by kernel_rfl
  c167 := by kernel_rfl
  c168 := by kernel_rfl
  c171 := by kernel_rfl
  c173 := by kernel_rfl
  c175 := by kernel_rfl
  c210 := by kernel_rfl
  c212 := by kernel_rfl
  c213 := by kernel_rfl
  c232 := by kernel_rfl
  c233 := by kernel_rfl }
end Go.Proofs
end
section
open Go Go.Abs Go.Proofs
namespace Go.Proofs.S
section
variable {ρ : Nat → Value} {av : Nat → Prop} {hp : Array Obj} {v : Value} {vals : Array Value}
theorem vals1 (h : cF ρ av hp [.raw v] vals) : vals = #[v] := by
  obtain ⟨h1, h2⟩ := h
  have h3 := h2 0 _ rfl
  apply Array.ext
  · exact h1
  intro i h4 h5
  have hi : i = 0 := by simp at h5; omega
  subst hi; rw [Array.getD_eq_getD_getElem?, Array.getElem?_eq_getElem h4, Option.getD_some] at h3
  generalize vals[0] = u at h3
  cases h3; rfl
theorem xW {v u : Value} (h : cF ρ av hp [.raw v, .raw u] vals) : vals = #[v, u] := by
  obtain ⟨h1, h2⟩ := h
  have h3 := h2 0 _ rfl
  have h4 := h2 1 _ rfl
  apply Array.ext
  · exact h1
  intro i h5 h6
  have hs : vals.size = 2 := h1
  have hi : i = 0 ∨ i = 1 := by simp at h6; omega
  rcases hi with rfl | rfl
  · rw [Array.getD_eq_getD_getElem?, Array.getElem?_eq_getElem h5, Option.getD_some] at h3
    generalize vals[0] = z at h3
    cases h3; rfl
  rw [Array.getD_eq_getD_getElem?, Array.getElem?_eq_getElem h5, Option.getD_some] at h4
  generalize vals[1] = z at h4
  cases h4; rfl
def itoaS (n : Int) : ByteArray := ⟨(Lib.itoa n).toArray⟩
theorem gn0 : P.globalNamed "internal/strconv.uint64pow10" = some 0 := by kernel_rfl
theorem uY (n : Int) (h0 : -9223372036854775808 ≤ n) (h1 : n ≤ 9223372036854775807) : aB P 125 [.raw (.int .i64 n)] [] 0 (.raw (.string (itoaS n))) := by
  refine gR trivial fun C w vals hR hv => ?_
  rw [vals1 hv]
  obtain ⟨o, ho1, ho2, _⟩ := hR.gl 0 (.inl rfl)
  obtain ⟨t, fr, rfl⟩ := ho2.1 rfl
  have htab : Lib.TabIs Tryz.prog w "internal/strconv.uint64pow10" .u64 Lib.pow10Tab := by
    unfold Lib.TabIs World.var?
    rw [show Tryz.prog.globalNamed "internal/strconv.uint64pow10" = _ from gn0]; simp only [Option.bind_some, ho1]
  refine (Any.strconv_Itoa Tryz.laysM171 n h0 h1 w htab).mono fun e w' ⟨he, k, os, hw⟩ => ⟨_, he, .raw _, ?_⟩
  rw [hw]; exact below_grow w k os
def gO (s : ByteArray) : Int × Bool := match Lib.atoiAll s.data.toList with
  | .ok v => (v, true)
  | .range => (Lib.atoiSat s.data.toList, false)
  | _ => (0, false)
theorem gErr {C : Conc} {w : World} (hR : RelH C [] (UU 0) w) {g : Nat} (hg : g = 1 ∨ g = 2) : ∃ te pe, w.cell? ⟨g, 0, none⟩ = some (.iface te pe) := by
  obtain ⟨o, ho1, ho2, _⟩ := hR.gl g (.inr hg)
  obtain ⟨te, pe, t, fr, rfl⟩ := ho2.2.1 hg
  exact ⟨te, pe, by rw [Lib.cell_of_heap ho1]; rfl⟩
theorem w_Atoi_ok (s : ByteArray) (hs : s.size ≤ 1048576) (h : (gO s).2 = true) : aB P 223 [.raw (.string s)] [] 0 (.tup [.raw (.int .i64 (gO s).1), .raw .nilIface]) := by
  refine gR ⟨trivial, trivial, trivial⟩ fun C w vals hR hv => ?_
  rw [vals1 hv]
  have hat : Lib.atoiAll s.data.toList = .ok (gO s).1 := by
    unfold gO at h ⊢
    split at h
    · rename_i v hq; simp only [hq]
    · cases h
    cases h
  refine (Any.strconv_Atoi_ok Tryz.laysC172 s (by omega) _ hat w).mono fun e w' ⟨he, hw⟩ => ⟨_, he, ?_, ?_⟩
  · exact .tup _ _ rfl fun j x hj => by
      match j, hj with
      | 0, hj => cases hj; exact .raw _
      | 1, hj => cases hj; exact .raw _
  · rcases hw with rfl | ⟨t, rfl⟩
    · exact RowKit.Below.refl _ _
    exact Lib.bytesWorld_below w _ t
theorem w_Atoi_no (s : ByteArray) (hs : s.size ≤ 1048576) (h : (gO s).2 = false) : aB P 223 [.raw (.string s)] [] 0 (.tup [.raw (.int .i64 (gO s).1), .iface 261 .any]) := by
  refine gR ⟨trivial, trivial, trivial⟩ fun C w vals hR hv => ?_
  rw [vals1 hv]
  have hrep : ∀ (hp : Array Obj) (N : Nat) (n : Int), Rep C.ρ (C.avoid []) hp (.tup [.raw (.int .i64 n), .iface 261 .any]) (.tuple #[.int .i64 n, .iface 261 (.pointer (some ⟨N, 0, none⟩))]) := fun hp N n => .tup _ _ rfl fun j x hj => by
    match j, hj with
    | 0, hj => cases hj; exact .raw _
    | 1, hj => cases hj; exact .iface _ _ _ (.any _)
  cases hat : Lib.atoiAll s.data.toList with
  | ok v => unfold gO at h; rw [hat] at h; cases h
  | range =>
    have hv0 : (gO s).1 = Lib.atoiSat s.data.toList := by unfold gO; rw [hat]
    obtain ⟨te, pe, hc⟩ := gErr hR (.inr rfl)
    refine (Any.strconv_Atoi_range Tryz.laysC172 s (by omega) hat _ w hc (.inr ⟨te, pe, rfl⟩)).mono fun e w' ⟨N, he, _, _, hB⟩ => ⟨_, he, ?_, hB⟩
    rw [hv0]; exact hrep _ N _
  | _ =>
    have hv0 : (gO s).1 = 0 := by unfold gO; rw [hat]
    obtain ⟨te, pe, hc⟩ := gErr hR (.inl rfl)
    refine (Any.strconv_Atoi_syntax Tryz.laysC172 s (by omega) hat _ w hc (.inr ⟨te, pe, rfl⟩)).mono fun e w' ⟨N, he, _, _, hB⟩ => ⟨_, he, ?_, hB⟩
    rw [hv0]; exact hrep _ N 0
theorem xF (s : ByteArray) (c : Int) : aB P 231 [.raw (.string s), .raw (.int .u8 c)] [] 0 (.raw (.int .i64 (Lib.indexByte s.data.toList c.toNat.toUInt8))) := by
  refine gR trivial fun C w vals hR hv => ?_
  rw [xW hv]
  refine (Any.strings_IndexByte Tryz.lays137 s c w).mono fun e w' ⟨he, hw⟩ => ⟨_, he, .raw _, ?_⟩
  rw [hw]; exact RowKit.Below.refl _ _
abbrev rN : AObj := .cells 144 [.raw (.pointer none), .raw (.slice none 0 0)]
abbrev iV (k : Nat) : AObj := .cells 144 [.ptr 0 0, .ref k]
abbrev aX (l : List UInt8) : AObj := .row 5 1 (l.map byteAV)
attribute [go_sem] wS bytes_ren
theorem uPB : P.underlying 142 = some (.pointer 144) := by kernel_rfl
theorem uUP : P.underlying 226 = some .unsafePointer := by kernel_rfl
theorem uBS : P.underlying 100 = some (.slice 5) := by kernel_rfl
theorem uST : P.underlying 9 = some .string := by kernel_rfl
theorem uPU : P.underlying 190 = some (.pointer 5) := by kernel_rfl
theorem ceU : P.cellsOf 5 = 1 := by kernel_rfl
theorem infoB : ∃ j, P.info? 144 = some j ∧ j.size ≠ 0 := by
  have h : (P.info? 144).map (·.size) = some 2 := by kernel_rfl
  obtain ⟨j, hj, hs⟩ := Option.map_eq_some_iff.1 h
  exact ⟨j, hj, by rw [hs]; decide⟩
theorem infoU : ∃ i, P.info? 5 = some i ∧ i.zero = some (.int .u8 0) ∧ i.size = 1 ∧ i.bytes = 1 := by
  have h : (P.info? 5).map (fun i => (i.zero, i.size, i.bytes)) = some (some (.int .u8 0), 1, 1) := by kernel_rfl
  obtain ⟨j, hj, hs⟩ := Option.map_eq_some_iff.1 h
  simp only [Prod.mk.injEq] at hs
  exact ⟨j, hj, hs.1, hs.2.1, hs.2.2⟩
theorem liesB : liesAt P P.depth 144 (2 / P.cellsOf 144) 0 144 1 = true := by kernel_rfl
theorem xL : P.funcs[(204 : Nat)]? = some Tryz.f204 ∧ (Tryz.f204.name == "runtime.NumGoroutine") = false ∧ Tryz.f204.body.isNone = true ∧ Extern.findNext Tryz.f204 = none ∧ Extern.find Tryz.f204 = some Extern.AbiNoEscape.same := by
  refine ⟨?_, ?_, ?_, ?_, ?_⟩ <;> kernel_rfl
theorem w_copyCheck0  : aD P 172 [.ptr 0 0] [(0, rN)] 1 (.tup []) [(0, .cells 144 [.ptr 0 0, .raw (.slice none 0 0)])] 1 := by
 refine gq 20 [] Tryz.func172 ?_
 simp only [rN]
 obtain ⟨j, hj, hjs⟩ := infoB
 refine sr rfl fun _ k1 => ja ?_
 refine vC (fun hN => lstep_nilEq rfl rfl hN uPB rfl) (.inl rfl) ?_
 simp only [go_sem]; apply k1
 refine cd rfl (fun hc1 => ?_) (fun hc => by simp at hc)
 refine wg rfl ?_; simp only [go_sem]
 refine vC (fun hN => vV rfl rfl hN uPB uUP hj hjs rfl rfl (by decide)) (.inl rfl) ?_
 simp only [go_sem]
 refine vC (fun hN => vY rfl rfl rfl rfl hN xL.1 xL.2.1 xL.2.2.1 xL.2.2.2.1 xL.2.2.2.2 rfl) (.inl rfl) ?_
 simp only [go_sem]
 refine vC (fun hN => sC rfl rfl hN uUP uPB hj rfl rfl liesB) (.inl rfl) ?_
 simp only [go_sem]; refine ⟨[], ?_⟩
 simp only [go_sem, AObj.bel, AObj.ren, AV.ren, aA, sg] <;> simp
theorem w_copyCheck1 (l : List UInt8) : aD P 172 [.ptr 0 0] [(0, iV 1), (1, aX l)] 2 (.tup []) [(0, iV 1), (1, aX l)] 2 := by
 refine gq 20 [] Tryz.func172 ?_
 simp only [iV, aX]
 obtain ⟨j, hj, hjs⟩ := infoB
 refine sr rfl fun _ k1 => ja ?_
 refine vC (fun hN => lstep_nilEqP rfl rfl hN uPB rfl) (.inl rfl) ?_
 simp only [go_sem]; apply k1
 refine cd rfl (fun hc => by simp at hc) fun hc1 => ?_
 refine sr rfl fun _ k2 => ja ?_
 refine vC (fun hN => lstep_selfNe rfl rfl hN uPB hj rfl rfl) (.inl rfl) ?_
 simp only [go_sem]; apply k2
 refine cd rfl (fun hc => by simp at hc) fun hc2 => ?_
 refine wk ?_; refine ⟨[], ?_⟩
 simp only [go_sem, AObj.bel, AObj.ren, AV.ren, aA, sg] <;> simp
theorem w_WriteString0 (s : ByteArray) (hs : s.size ≤ 140737488355328) : aD P 124 [.ptr 0 0, .raw (.string s)] [(0, rN)] 1 (.tup [.raw (.int .i64 (s.size : Int)), .raw .nilIface]) [(0, iV 1), (1, aX s.data.toList)] 2 := by
 refine gq 19 [.tmp 4, .tmp 5] Tryz.func124 ?_
 simp only [rN, iV, aX]
 have hmx : maxLen = 9223372036854775807 := rfl
 refine aj ?_
 refine sr rfl fun _ k2 => ja ?_
 refine vg [] 0 rfl rfl rfl ⟨Tryz.func172, rfl, rfl⟩ w_copyCheck0 rfl (by simp only [go_sem]) (by simp only [go_sem]) (mD (H1 := []) (.inl rfl) (by simp only [go_sem, rN]) (by simp only [go_sem, AObj.bel, rN])) (.inl rfl) ?_
 simp only [go_sem, AV.ren, AObj.ren, aA, shift, sg, Nat.le_refl, Nat.add_zero, Nat.sub_self]
 refine k2 (sr rfl fun _ k3 => (ja ?_))
 refine vC (fun hN => lstep_appStr0 rfl rfl rfl rfl rfl hN uBS uST infoU rfl rfl hs) (.inr (by decide)) ?_
 simp only [go_sem]
 refine jr (k3 ?_)
 refine aj (wR ?_)
 refine ⟨[], ?_⟩
 simp only [go_sem, AObj.bel, AObj.ren, AV.ren, aA, sg] <;> simp
theorem vB (l : List UInt8) (s : ByteArray) (hs : l.length + s.size ≤ 140737488355328) : aD P 124 [.ptr 0 0, .raw (.string s)] [(0, iV 1), (1, aX l)] 2 (.tup [.raw (.int .i64 (s.size : Int)), .raw .nilIface]) [(0, iV 2), (1, .dead), (2, aX (l ++ s.data.toList))] 3 := by
 refine gq 19 [.tmp 4, .tmp 5] Tryz.func124 ?_
 simp only [iV, aX]
 have hmx : maxLen = 9223372036854775807 := rfl
 refine aj ?_
 refine sr rfl fun _ k2 => ja ?_
 refine vg [] 0 rfl rfl rfl ⟨Tryz.func172, rfl, rfl⟩ (w_copyCheck1 l) rfl (by simp only [go_sem]) (by simp only [go_sem]) (fit2 (.inl rfl) (by simp only [go_sem, iV, aX]) (by simp only [go_sem, iV, aX]) (by simp only [go_sem, AObj.bel, iV, aX] <;> simp) (by simp only [go_sem, AObj.bel, iV, aX]) (by simp) ⟨rfl, rfl⟩ (by decide)) (.inl rfl) ?_
 simp only [go_sem, AV.ren, AObj.ren, aA, shift, sg, Nat.le_refl, Nat.add_zero, Nat.sub_self]
 refine k2 (sr rfl fun _ k3 => (ja ?_))
 refine vC (fun hN => zN rfl rfl rfl rfl rfl hN uBS uST infoU rfl rfl rfl hs) (.inr (by decide)) ?_
 simp only [go_sem]
 refine jr (k3 ?_)
 refine aj (wR ?_)
 refine ⟨[], ?_⟩
 simp only [go_sem, AObj.bel, AObj.ren, AV.ren, aA, sg] <;> simp
theorem w_BLen1 (l : List UInt8) : aD P 126 [.ptr 0 0] [(0, iV 1), (1, aX l)] 2 (.raw (.int .i64 (l.length : Int))) [(0, iV 1), (1, aX l)] 2 := by
 refine gq 8 [.tmp 2] Tryz.func126 ?_
 simp only [iV, aX]; refine aj ?_; refine sr rfl fun _ k2 => ?_; simp only [go_sem, List.length_map]
 refine k2 (wR ?_)
 refine ⟨[], ?_⟩
 simp only [go_sem, AObj.bel, AObj.ren, AV.ren, aA, sg] <;> simp
theorem w_BLen0  : aD P 126 [.ptr 0 0] [(0, rN)] 1 (.raw (.int .i64 0)) [(0, rN)] 1 := by
 refine gq 8 [.tmp 2] Tryz.func126 ?_
 simp only [rN]; refine aj ?_
 refine aj (wR ?_)
 refine ⟨[], ?_⟩
 simp only [go_sem, AObj.bel, AObj.ren, AV.ren, aA, sg] <;> simp
theorem w_BString1 (l : List UInt8) (h0 : l ≠ []) : aD P 127 [.ptr 0 0] [(0, iV 1), (1, aX l)] 2 (.raw (.string ⟨l.toArray⟩)) [(0, iV 1), (1, .dead)] 2 := by
 refine gq 14 [.tmp 2] Tryz.func127 ?_
 simp only [iV, aX]; refine aj ?_; refine sd mixed rfl fun _ k2 => ?_; simp only [go_sem, List.length_map]
 refine bQ (fun hN => uF (l := l) rfl rfl rfl rfl hN rfl rfl h0 (.inl (by decide))) (.inl rfl) ?_
 simp only [go_sem, List.length_map]
 refine bQ (fun hN => lstep_unsafeStr (l := l) rfl rfl rfl rfl rfl hN uPU ceU rfl rfl rfl h0) (.inr (by decide)) ?_
 simp only [go_sem, List.length_map]; refine ⟨by rfl, ?_⟩
 refine k2 (wR ?_)
 refine ⟨[], ?_⟩
 simp only [go_sem, AObj.bel, AObj.ren, AV.ren, aA, sg] <;> simp
end
def adr (b : Bool) : AV := if b then .ptr 0 0 else .raw (.pointer none)
theorem aH : adr true = .ptr 0 0 := rfl
theorem mU : adr false = .raw (.pointer none) := rfl
theorem adr_bel (b : Bool) : (adr b).bel (UU 2) := by
  cases b
  · trivial
  exact .inl (by decide)
theorem adr_ren (b : Bool) : (adr b).ren (sg []) = adr b := AV.ren_nil _
attribute [go_sem] adr_bel adr_ren
abbrev dW (b : Bool) (k : Nat) : AObj := .cells 144 [adr b, .ref k]
theorem dchr_eq {m : Int} (h0 : 0 ≤ m) (h1 : m ≤ 9) : dchr m = ⟨#[UInt8.ofNat (48 + m.toNat)]⟩ := by
  unfold dchr
  have e1 : IntKind.i64.wrap (48 + m) = 48 + m := by rw [w64]; omega
  have e2 : IntKind.u8.wrap (48 + m) = 48 + m := by rw [IntKind.wrap_u8]; omega
  rw [e1, e2, show (48 + m).toNat = 48 + m.toNat by omega]; rfl
theorem ba_app (a b : List UInt8) : (⟨a.toArray⟩ : ByteArray) ++ ⟨b.toArray⟩ = ⟨(a ++ b).toArray⟩ := by
  apply ByteArray.ext
  simp
theorem decGo_eq : ∀ (f : Nat) (u : Nat) (out : ByteArray), u < 10 ^ (f + 1) → qR f (u : Int) out = ⟨(Lib.decDigits u).toArray⟩ ++ out
  | 0, u, out, h => by
    unfold qR; rw [Lib.decDigits, dif_pos (by simpa using h), dchr_eq (by omega) (by simp at h; omega)]; rfl
  | f + 1, u, out, h => by
    unfold qR; split
    · rename_i h9
      have hu : 10 ≤ u := by omega
      rw [Lib.decDigits, dif_neg (by omega), Int.tdiv_eq_ediv_of_nonneg (by omega), Int.tmod_eq_emod_of_nonneg (by omega)]
      have e1 : (u : Int) / 10 = ((u / 10 : Nat) : Int) := by omega
      have e2 : (u : Int) % 10 = ((u % 10 : Nat) : Int) := by omega
      rw [e1, e2, decGo_eq f (u / 10) _ (by rw [Nat.pow_succ] at h; omega), dchr_eq (by omega) (by omega), ← ba_app, ByteArray.append_assoc]
      rfl
    rename_i h9
    have hu : u < 10 := by omega
    rw [Lib.decDigits, dif_pos hu, dchr_eq (by omega) (by omega)]; rfl
theorem itoaS_dec {n : Int} (h0 : -1000000000000000000 ≤ n) (h1 : n ≤ 1000000000000000000) : itoaS n = dec n := by
  unfold itoaS Lib.itoa dec decP; split
  · rename_i h
    have e : -n = ((n.natAbs : Nat) : Int) := by omega
    rw [e, decGo_eq 19 n.natAbs _ (by omega)]; apply ByteArray.ext
    simp
  rename_i h
  obtain ⟨u, rfl⟩ := Int.eq_ofNat_of_zero_le (by omega : 0 ≤ n)
  rw [decGo_eq 19 u _ (by omega)]; apply ByteArray.ext
  simp
def bL (s : ByteArray) : List UInt8 := s.data.toList
theorem rM (a b : ByteArray) : bL (a ++ b) = bL a ++ bL b := by unfold bL; simp [ByteArray.data_append]
theorem pE (s : ByteArray) : (⟨(bL s).toArray⟩ : ByteArray) = s := by apply ByteArray.ext; simp [bL]
theorem aK (s : ByteArray) : (bL s).length = s.size := by unfold bL; rw [Array.length_toList]; rfl
def iK (e : Entry) : List Int := [e.seq, e.kind, e.n, (e.text.size : Int)]
def pC (ns : List Int) : List UInt8 := ns.flatMap fun n => bL (dec n ++ spB)
theorem numL_step {ns : List Int} {k : Nat} {n : Int} (h : ns[k]? = some n) : pC (ns.take (k + 1)) = pC (ns.take k) ++ bL (dec n ++ spB) := by
  unfold pC; rw [List.take_add_one, h, List.flatMap_append]
  simp
theorem numL_len (ns : List Int) : (pC ns).length ≤ 22 * ns.length := by
  induction ns with
  | nil => simp [pC]
  | cons a r ih =>
    have h1 := eM a
    have h2 : (bL (dec a ++ spB)).length = (dec a).size + 1 := by rw [aK, ByteArray.size_append, bD]
    simp only [pC, List.flatMap_cons, List.length_append, List.length_cons] at ih ⊢
    omega
def jS (ls : List Entry) : List UInt8 := bL (bTx ls)
theorem yS {ls : List Entry} {i : Nat} {e : Entry} (h : ls[i]? = some e) : jS (ls.take (i + 1)) = jS (ls.take i) ++ bL (e.key ++ spB) ++ pC (iK e) ++ bL e.text := by
  unfold jS bTx; rw [List.take_add_one, h, List.foldl_append]; simp only [Option.toList_some, List.foldl_cons, List.foldl_nil, mL, pC, iK, List.flatMap_cons, List.flatMap_nil, rM, List.append_assoc, List.append_nil]
theorem w_copyCheckN (l : List UInt8) : aD P 172 [.ptr 0 0] [(0, dW false 1), (1, aX l)] 2 (.tup []) [(0, dW true 1), (1, aX l)] 2 := by
 refine gq 20 [] Tryz.func172 ?_
 simp only [dW, aX, aH, mU]
 obtain ⟨j, hj, hjs⟩ := infoB
 refine sr rfl fun _ k1 => ja ?_
 refine vC (fun hN => lstep_nilEq rfl rfl hN uPB rfl) (.inl rfl) ?_
 simp only [go_sem]; apply k1
 refine cd rfl (fun hc1 => ?_) (fun hc => by simp at hc)
 refine wg rfl ?_; simp only [go_sem]
 refine vC (fun hN => vV rfl rfl hN uPB uUP hj hjs rfl rfl (by decide)) (.inl rfl) ?_
 simp only [go_sem]
 refine vC (fun hN => vY rfl rfl rfl rfl hN xL.1 xL.2.1 xL.2.2.1 xL.2.2.2.1 xL.2.2.2.2 rfl) (.inl rfl) ?_
 simp only [go_sem]
 refine vC (fun hN => sC rfl rfl hN uUP uPB hj rfl rfl liesB) (.inl rfl) ?_
 simp only [go_sem]; refine ⟨[], ?_⟩
 simp only [go_sem, AObj.bel, AObj.ren, AV.ren, aA, sg] <;> simp
theorem w_WriteStringN (l : List UInt8) (s : ByteArray) (hs : l.length + s.size ≤ 140737488355328) : aD P 124 [.ptr 0 0, .raw (.string s)] [(0, dW false 1), (1, aX l)] 2 (.tup [.raw (.int .i64 (s.size : Int)), .raw .nilIface]) [(0, dW true 2), (1, .dead), (2, aX (l ++ s.data.toList))] 3 := by
 refine gq 19 [.tmp 4, .tmp 5] Tryz.func124 ?_
 simp only [dW, aX, aH, mU]
 have hmx : maxLen = 9223372036854775807 := rfl
 refine aj ?_
 refine sr rfl fun _ k2 => ja ?_
 refine vg [] 0 rfl rfl rfl ⟨Tryz.func172, rfl, rfl⟩ (w_copyCheckN l) rfl (by simp only [go_sem]) (by simp only [go_sem]) (fit2 (.inl rfl) (by simp only [go_sem, dW, aX, aH, mU]) (by simp only [go_sem, dW, aX, aH, mU]) (by simp only [go_sem, AObj.bel, dW, aX, aH, mU] <;> simp) (by simp only [go_sem, AObj.bel, dW, aX, aH, mU]) (by simp) ⟨rfl, rfl⟩ (by decide)) (.inl rfl) ?_
 simp only [go_sem, AV.ren, AObj.ren, aA, shift, sg, Nat.le_refl, Nat.add_zero, Nat.sub_self, dW, aX, aH, mU]
 refine k2 (sr rfl fun _ k3 => (ja ?_))
 refine vC (fun hN => zN rfl rfl rfl rfl rfl hN uBS uST infoU rfl rfl rfl hs) (.inr (by decide)) ?_
 simp only [go_sem]
 refine jr (k3 ?_)
 refine aj (wR ?_)
 refine ⟨[], ?_⟩
 simp only [go_sem, AObj.bel, AObj.ren, AV.ren, aA, sg] <;> simp
theorem rU (b : Bool) (l : List UInt8) (s : ByteArray) (hs : l.length + s.size ≤ 140737488355328) : aD P 124 [.ptr 0 0, .raw (.string s)] [(0, dW b 1), (1, aX l)] 2 (.tup [.raw (.int .i64 (s.size : Int)), .raw .nilIface]) [(0, dW true 2), (1, .dead), (2, aX (l ++ bL s))] 3 := by
  cases b
  · exact w_WriteStringN l s hs
  exact vB l s hs
theorem w_BLen (l : List UInt8) : aD P 126 [.ptr 0 0] [(0, dW true 1), (1, aX l)] 2 (.raw (.int .i64 (l.length : Int))) [(0, dW true 1), (1, aX l)] 2 := w_BLen1 l
theorem w_BString (l : List UInt8) (h0 : l ≠ []) : aD P 127 [.ptr 0 0] [(0, dW true 1), (1, aX l)] 2 (.raw (.string ⟨l.toArray⟩)) [(0, dW true 1), (1, .dead)] 2 := w_BString1 l h0
theorem bodyL_le {ls : List Entry} (h : ∀ e ∈ ls, e.key.size ≤ 1048576 ∧ e.text.size ≤ 1048576) : ∀ i, (jS (ls.take i)).length ≤ 3000000 * i
  | 0 => by simp [jS, bTx, bL]
  | i + 1 => by
    have ih := bodyL_le h i
    by_cases hi : i < ls.length
    · have he := List.getElem?_eq_getElem hi
      obtain ⟨h1, h2⟩ := h _ (List.getElem_mem hi)
      have h3 := numL_len (iK ls[i])
      have h4 : (iK ls[i]).length = 4 := rfl
      rw [yS he]; simp only [List.length_append, aK, ByteArray.size_append, bD]; omega
    rw [List.take_of_length_le (by omega)]; rw [List.take_of_length_le (by omega)] at ih; omega
theorem nsOf_at {e : Entry} {k : Nat} (h : k < 4) : ∃ n, (iK e)[k]? = some n ∧ (n = e.seq ∨ n = e.kind ∨ n = e.n ∨ n = (e.text.size : Int)) := by
  have : k = 0 ∨ k = 1 ∨ k = 2 ∨ k = 3 := by omega
  rcases this with rfl | rfl | rfl | rfl
  · exact ⟨_, rfl, .inl rfl⟩
  · exact ⟨_, rfl, .inr (.inl rfl)⟩
  · exact ⟨_, rfl, .inr (.inr (.inl rfl))⟩
  exact ⟨_, rfl, .inr (.inr (.inr rfl))⟩
theorem bodyL_ne {ls : List Entry} (h : 1 ≤ ls.length) : jS ls ≠ [] := by
  intro h0
  obtain ⟨i, hi⟩ : ∃ i, ls.length = i + 1 := ⟨ls.length - 1, by omega⟩
  have he := List.getElem?_eq_getElem (l := ls) (i := i) (by omega)
  have h1 := yS he
  rw [← hi, List.take_length, h0] at h1
  have h2 := congrArg List.length h1
  simp only [List.length_nil, List.length_append, aK, ByteArray.size_append, bD] at h2
  omega
theorem mH (ls : List Entry) (hz : dK ls) : aB P 72 [.sl 5 (ls.map enA)] [] 0 (.raw (.string (fTx ls))) := by
 refine pq 51 [.tmp 2] Tryz.func72 ?_
 have hmx : maxLen = 9223372036854775807 := rfl
 have hsp : (#[32] : Array UInt8).size = 1 := rfl
 have hsn : (#[10] : Array UInt8).size = 1 := rfl
 refine aj ?_
 refine sq fun _ k2 => sr rfl fun _ k3 => ja ?_
 refine vq Tryz.func123 (vN ls hz) (k3 ?_)
 refine cd rfl (fun hc1 => ?_) fun hc1 => ?_
 · have hb : isB ls = false := by simpa using hc1
   refine aj (wR ?_)
   refine fO ?_ trivial; simp only [go_sem, fTx, hb, Bool.false_eq_true, if_false]
 have hb : isB ls = true := by simpa using hc1
 obtain ⟨hok, hb1, hb2⟩ := cK hb
 have hbl := bodyL_le (ls := ls) fun e he => eG (hok e he)
 refine wk (k2 (aj ?_))
 refine sq fun _ k6 => aj (wb ?_)
 refine vO (i := 0) (j := 1) 5 1 rfl rfl (by decide) ?_
 simp only [go_sem]
 refine wl (α := Nat) (fun x => x ≤ ls.length) (fun x => ls.length - x) (fun x => ([(3, .ptr 0 0), (11, .sl 5 (ls.map enA)), (12, .raw (.int .i64 (ls.length : Int))), (13, .raw (.int .i64 (x : Int)))], [(0, dW (decide (0 < x)) 1), (1, aX (jS (ls.take x)))])) 2 0 (Nat.zero_le _) [] ?_ ?_
 · simp only [go_sem, AObj.bel, dW, aX, List.take_zero, Int.natCast_zero] <;> simp [adr, jS, bTx, bL]
 rintro i hi
 refine aj ?_; refine sq fun _ k9 => ?_
 refine cdS rfl (fun hc2 => ?_) fun hc2 => ?_
 · have hge : ls.length ≤ i := Nat.not_lt.1 (by simpa using hc2)
   have hie : i = ls.length := by omega
   subst hie
   have hpos : decide (0 < ls.length) = true := by simp; omega
   have hbi := hbl ls.length
   rw [List.take_length] at hbi; rw [List.take_length, hpos]
   have hds := eM ((bTx ls).size : Int)
   have hit : itoaS ((jS ls).length : Int) = dec ((bTx ls).size : Int) := by rw [itoaS_dec (by omega) (by omega)]; unfold jS; rw [aK]
   refine we (jt (k6 ?_))
   refine sr rfl fun _ k19 => ja ?_
   refine vg [] 0 rfl rfl rfl ⟨Tryz.func126, rfl, rfl⟩ (w_BLen (jS ls)) rfl (by simp only [go_sem]) (by simp only [go_sem]) (fit2 (.inl rfl) (by simp only [go_sem, dW, aX, aH]) (by simp only [go_sem, dW, aX, aH]) (by simp only [go_sem, AObj.bel, dW, aX, aH] <;> simp) (by simp only [go_sem, AObj.bel, dW, aX, aH]) (by simp) ⟨rfl, rfl⟩ (by decide)) (.inl rfl) ?_
   simp only [go_sem, AV.ren, AObj.ren, aA, shift, sg, Nat.le_refl, Nat.add_zero, Nat.sub_self, dW, aX, aH]
   refine vs rfl rfl rfl Tryz.func125 (uY ((jS ls).length : Int) (by omega) (by omega)) (by simp only [go_sem]) (by simp only [go_sem]) ?_
   simp only [go_sem, hit]
   refine ⟨by omega, ?_⟩
   refine vg [] 0 rfl rfl rfl ⟨Tryz.func127, rfl, rfl⟩ (w_BString (jS ls) (bodyL_ne hb1)) rfl (by simp only [go_sem]) (by simp only [go_sem]) (fit2 (.inl rfl) (by simp only [go_sem, dW, aX, aH]) (by simp only [go_sem, dW, aX, aH]) (by simp only [go_sem, AObj.bel, dW, aX, aH] <;> simp) (by simp only [go_sem, AObj.bel, dW, aX, aH]) (by simp) ⟨rfl, rfl⟩ (by decide)) (.inl rfl) ?_
   simp only [go_sem, AV.ren, AObj.ren, aA, shift, sg, Nat.le_refl, Nat.add_zero, Nat.sub_self, dW, aX, aH, List.size_toArray]
   refine ⟨by omega, by omega, ?_⟩
   refine k19 (wR ?_)
   have hm : (⟨(jS ls).toArray⟩ : ByteArray) = bTx ls := pE _
   refine fO ?_ trivial; simp only [go_sem, fTx, hb, if_true, hm]
 have hlt : i < ls.length := (by simpa using hc2); obtain ⟨l, hl, hdrop, hml⟩ := ix hlt
 obtain ⟨r1, r2, r3, r4, r5, r6, r7, r8⟩ := eL (hok l hml)
 obtain ⟨z1, z2⟩ := eG (hok l hml)
 have hbi := hbl i
 refine wk (k9 (sq fun _ k10 => (wb (sr rfl fun _ k11 => ?_))))
 simp only [go_sem, hl, enA]
 refine jr (k11 ?_)
 refine sr rfl fun _ k12 => ja ?_
 refine ⟨by omega, ?_⟩
 refine vg [] 1 rfl rfl rfl ⟨Tryz.func124, rfl, rfl⟩ (rU (decide (0 < i)) (jS (ls.take i)) (l.key ++ spB) (by rw [ByteArray.size_append, bD]; omega)) rfl (by simp only [go_sem]) (by simp only [go_sem]) (fit2 (.inl rfl) (by simp only [go_sem, dW, aX]) (by simp only [go_sem, dW, aX]) (by simp only [go_sem, AObj.bel, dW, aX] <;> simp) (by simp only [go_sem, AObj.bel, dW, aX]) (by simp) ⟨rfl, rfl⟩ (by decide)) (.inr (by decide)) ?_
 simp only [go_sem, AV.ren, AObj.ren, aA, shift, sg, Nat.le_refl, Nat.add_zero, Nat.sub_self, dW, aX, aH]
 refine k12 (sq fun _ k13 => (sr rfl fun _ k14 => (ja ?_)))
 refine jr (k14 (wb ?_))
 refine wl (α := Nat) (fun x => x ≤ 4) (fun x => 4 - x) (fun x => ([(3, .ptr 0 0), (5, .ptr 3 0), (11, .sl 5 (ls.map enA)), (12, .raw (.int .i64 (ls.length : Int))), (13, .raw (.int .i64 (i : Int))), (30, .ref 2), (31, .raw (.int .i64 (4 : Int))), (32, .raw (.int .i64 (x : Int)))], [(0, dW true 1), (1, aX ((jS (ls.take i) ++ bL (l.key ++ spB)) ++ pC ((iK l).take x))), (2, .row 3 1 ((iK l).map inA)), (3, .cells 65 [.raw (.string l.key), .raw (.int .i64 l.seq), .raw (.int .i64 l.kind), .raw (.string l.text), .raw (.int .i64 l.n)])])) 4 0 (Nat.zero_le _) [(1, 3), (2, 4), (3, 2)] ?_ ?_
 · simp only [go_sem, AObj.bel, AObj.ren, AV.ren, aA, sg, dW, aX, aH, Int.natCast_zero] <;> simp [pC, aH]
   rfl
 rintro k hk
 refine aj ?_; refine sq fun _ k16 => ?_
 refine cdS rfl (fun hc3 => ?_) fun hc3 => ?_
 · have hk4 : k = 4 := by simp at hc3; omega
   subst hk4
   have hft : (iK l).take 4 = iK l := rfl
   rw [hft]
   have hnl := numL_len (iK l)
   have h44 : (iK l).length = 4 := rfl
   refine we (jt (k13 ?_))
   refine wg rfl ?_; simp only [go_sem]
   refine vg [] 1 rfl rfl rfl ⟨Tryz.func124, rfl, rfl⟩ (rU (true) ((jS (ls.take i) ++ bL (l.key ++ spB)) ++ pC (iK l)) (l.text) (by simp only [List.length_append, aK, ByteArray.size_append, bD]; omega)) rfl (by simp only [go_sem]) (by simp only [go_sem]) (fit2 (.inl rfl) (by simp only [go_sem, dW, aX, aH]) (by simp only [go_sem, dW, aX, aH]) (by simp only [go_sem, AObj.bel, dW, aX, aH] <;> simp) (by simp only [go_sem, AObj.bel, dW, aX, aH]) (by simp) ⟨rfl, rfl⟩ (by decide)) (.inr (by decide)) ?_
   simp only [go_sem, AV.ren, AObj.ren, aA, shift, sg, Nat.le_refl, Nat.add_zero, Nat.sub_self, dW, aX, aH]
   refine jt (k10 ?_)
   have hw := wiS i (by omega)
   have hfin : (jS (ls.take i)).map byteAV ++ ((bL (l.key ++ spB)).map byteAV ++ ((pC (iK l)).map byteAV ++ (bL l.text).map byteAV)) = (jS (ls.take (i + 1))).map byteAV := by rw [yS hl]; simp only [List.map_append, List.append_assoc]
   refine wg rfl ?_; simp only [go_sem, hw]; refine jt ?_
   refine ⟨i + 1, by omega, by omega, [(1, 4)], ?_⟩
   simp only [go_sem, AObj.bel, AObj.ren, AV.ren, aA, sg, dW, aX, aH, Int.natCast_zero] <;> simp [hfin, aH, AV.ren, sg, Abs.get]
 have hlt4 : k < 4 := by simp at hc3; omega
 obtain ⟨n, hn, hnc⟩ := nsOf_at (e := l) hlt4
 have h44 : (iK l).length = 4 := rfl
 have hnum : (pC ((iK l).take (k + 1))).map byteAV = (pC ((iK l).take k)).map byteAV ++ (bL (dec n ++ spB)).map byteAV := by rw [numL_step hn, List.map_append]
 have hit := itoaS_dec (n := n) (by omega) (by omega)
 have hds := eM n
 have hnl := numL_len ((iK l).take k)
 rw [List.length_take] at hnl
 refine wk (k16 (sq fun _ k17 => (wb (sr rfl fun _ k18 => ?_))))
 simp only [go_sem, hn, inA, List.length_map, List.getElem?_map]
 refine jr (k18 ?_)
 refine wg rfl ?_; simp only [go_sem]; skip
 refine vs rfl rfl rfl Tryz.func125 (uY n (by omega) (by omega)) (by simp only [go_sem]) (by simp only [go_sem]) ?_
 simp only [go_sem, hit]
 refine ⟨by omega, ?_⟩
 refine vg [] 1 rfl rfl rfl ⟨Tryz.func124, rfl, rfl⟩ (rU (true) ((jS (ls.take i) ++ bL (l.key ++ spB)) ++ pC ((iK l).take k)) (dec n ++ spB) (by simp only [List.length_append, aK, ByteArray.size_append, bD]; omega)) rfl (by simp only [go_sem]) (by simp only [go_sem]) (fit2 (.inl rfl) (by simp only [go_sem, dW, aX, aH]) (by simp only [go_sem, dW, aX, aH]) (by simp only [go_sem, AObj.bel, dW, aX, aH] <;> simp) (by simp only [go_sem, AObj.bel, dW, aX, aH]) (by simp) ⟨rfl, rfl⟩ (by decide)) (.inr (by decide)) ?_
 simp only [go_sem, AV.ren, AObj.ren, aA, shift, sg, Nat.le_refl, Nat.add_zero, Nat.sub_self, dW, aX, aH]
 refine jt (k17 ?_)
 have hwk := wiS k (by omega)
 refine wg rfl ?_; simp only [go_sem, hwk]; refine jt ?_
 refine ⟨k + 1, by omega, by omega, [(1, 4)], ?_⟩
 simp only [go_sem, AObj.bel, AObj.ren, AV.ren, aA, sg, dW, aX, aH, Int.natCast_zero] <;> simp [hnum]
abbrev rdr (s : ByteArray) (a : Nat) : AObj := .cells 187 [.raw (.string s), .raw (.int .i64 (a : Int))]
def jH (s : ByteArray) (a : Nat) : ByteArray := s.extract a (min s.size (a + 9))
def zL (s : ByteArray) (a : Nat) : Int := Lib.indexByte (jH s a).data.toList 32
def wI (s : ByteArray) (a : Nat) : ByteArray × Bool × Nat := if zL s a < 0 then (⟨#[]⟩, false, a) else ((jH s a).extract 0 (zL s a).toNat, true, a + ((zL s a).toNat + 1))
def nI (s : ByteArray) (a : Nat) : Int × Bool × Nat := if (wI s a).2.1 = true then ((gO (wI s a).1).1, (gO (wI s a).1).2, (wI s a).2.2) else (0, false, (wI s a).2.2)
def tI (s : ByteArray) (a : Nat) (n : Int) : ByteArray × Bool × Nat := if n < 0 ∨ (s.size : Int) - a < n then (⟨#[]⟩, false, a) else (s.extract a (a + n.toNat), true, a + n.toNat)
theorem indexByte_lt : ∀ (l : List UInt8) (c : UInt8), Lib.indexByte l c < l.length ∧ -1 ≤ Lib.indexByte l c
  | [], c => by simp [Lib.indexByte]
  | b :: l, c => by
    have ih := indexByte_lt l c
    unfold Lib.indexByte; simp only [List.length_cons]; split
    · omega
    split <;> omega
theorem spAt_lt {s : ByteArray} {a : Nat} (ha : a ≤ s.size) : zL s a < (min s.size (a + 9) - a : Nat) ∧ -1 ≤ zL s a := by
  have h := indexByte_lt (jH s a).data.toList 32
  have h2 : (jH s a).data.toList.length = min s.size (a + 9) - a := by
    rw [Array.length_toList]
    exact mA s a _ (by omega)
  rw [h2] at h; exact h
theorem wI_le {s : ByteArray} {a : Nat} (ha : a ≤ s.size) : a ≤ (wI s a).2.2 ∧ (wI s a).2.2 ≤ s.size ∧ (wI s a).1.size ≤ 8 ∧ ((wI s a).2.1 = true → a < (wI s a).2.2) := by
  have h := spAt_lt ha
  unfold wI; split
  · exact ⟨Nat.le_refl _, ha, Nat.zero_le _, fun h => by cases h⟩
  simp only
  refine ⟨by omega, by omega, ?_, fun _ => by omega⟩
  rw [ByteArray.size_extract]; omega
theorem nI_le {s : ByteArray} {a : Nat} (ha : a ≤ s.size) : a ≤ (nI s a).2.2 ∧ (nI s a).2.2 ≤ s.size ∧ ((nI s a).2.1 = true → a < (nI s a).2.2) := by
  have h := wI_le ha
  unfold nI; split
  · rename_i hw; exact ⟨h.1, h.2.1, fun _ => h.2.2.2 hw⟩
  exact ⟨h.1, h.2.1, fun h => by cases h⟩
theorem tI_le {s : ByteArray} {a : Nat} {n : Int} (ha : a ≤ s.size) : a ≤ (tI s a n).2.2 ∧ (tI s a n).2.2 ≤ s.size := by
  unfold tI; split
  · exact ⟨Nat.le_refl _, ha⟩
  simp only; omega
theorem gU (s : ByteArray) (a : Nat) (ha : a ≤ s.size) (hs : s.size ≤ 1048576) : aD P 222 [.ptr 0 0] [(0, rdr s a)] 1 (.tup [.raw (.string (wI s a).1), .raw (.bool (wI s a).2.1)]) [(0, rdr s (wI s a).2.2)] 1 := by
 refine gq 43 [.tmp 2, .tmp 3] Tryz.func222 ?_
 simp only [rdr]; refine aj ?_
 have hw1 : IntKind.i64.wrap ((a : Int) + 8) = (a : Int) + 8 := by rw [w64]; omega
 have hw2 : IntKind.i64.wrap ((a : Int) + 8 + 1) = (a : Int) + 8 + 1 := by rw [w64]; omega
 have hmn : (min (s.size : Int) ((a : Int) + 8 + 1)).toNat = min s.size (a + 9) := by omega
 have hah : s.extract a (min s.size (a + 9)) = jH s a := rfl
 refine sd mixed rfl fun _ k2 => ?_; simp only [go_sem, hw1, hw2, hmn, hah]; refine jr ?_; refine ⟨by rfl, ?_⟩; apply k2
 have hix : Lib.indexByte (jH s a).data.toList (Int.toNat 32).toUInt8 = zL s a := rfl
 have hsz := spAt_lt ha
 have hes : (jH s a).size = min s.size (a + 9) - a := mA s a _ (by omega)
 refine sr rfl fun _ k3 => ja ?_
 refine vs rfl rfl rfl Tryz.func231 (xF (jH s a) 32) (by simp only [go_sem]) (by simp only [go_sem]) ?_
 simp only [go_sem, hix]
 refine k3 (sq fun _ k4 => (aj ?_))
 refine cd rfl (fun hc1 => ?_) fun hc1 => ?_
 · have h9 : wI s a = (⟨#[]⟩, false, a) := by unfold wI; rw [if_pos (by simpa using hc1)]
   refine aj (wR ?_)
   refine ⟨[], ?_⟩
   simp only [go_sem, AObj.bel, AObj.ren, AV.ren, aA, sg, rdr, h9] <;> simp
 have hc9 : ¬ zL s a < 0 := by simpa using hc1
 have h9 : wI s a = ((jH s a).extract 0 (zL s a).toNat, true, a + ((zL s a).toNat + 1)) := by unfold wI; rw [if_neg hc9]
 refine wk (k4 ?_)
 have hw5 : IntKind.i64.wrap (zL s a + 1) = zL s a + 1 := by rw [w64]; omega
 have hw6 : IntKind.i64.wrap ((a : Int) + (zL s a + 1)) = ((a + ((zL s a).toNat + 1) : Nat) : Int) := by rw [w64]; omega
 refine sr rfl fun _ k7 => ?_; simp only [go_sem, hw5, hw6]
 refine k7 (sr rfl fun _ k8 => (ja ?_))
 refine jr (k8 (wR ?_))
 refine ⟨[], ?_⟩
 simp only [go_sem, AObj.bel, AObj.ren, AV.ren, aA, sg, rdr, h9] <;> simp
theorem w_number_ok (s : ByteArray) (a : Nat) (ha : a ≤ s.size) (hs : s.size ≤ 1048576) (hat : (gO (wI s a).1).2 = true) : aD P 201 [.ptr 0 0] [(0, rdr s a)] 1 (.tup [.raw (.int .i64 (nI s a).1), .raw (.bool (nI s a).2.1)]) [(0, rdr s (nI s a).2.2)] 1 := by
 refine gq 23 [.tmp 2, .tmp 3] Tryz.func201 ?_
 simp only [rdr]
 have hl := wI_le ha
 refine aj ?_
 refine sr rfl fun _ k2 => ja ?_
 refine vg [] 0 rfl rfl rfl ⟨Tryz.func222, rfl, rfl⟩ (gU s a ha hs) rfl (by simp only [go_sem]) (by simp only [go_sem]) (mD (H1 := []) (.inl rfl) (by simp only [go_sem, rdr]) (by simp only [go_sem, AObj.bel, rdr] <;> simp)) (.inl rfl) ?_
 simp only [go_sem, AV.ren, AObj.ren, aA, shift, sg, Nat.le_refl, Nat.add_zero, Nat.sub_self, rdr]
 refine k2 (sq fun _ k3 => (aj ?_))
 refine cd rfl (fun hc1 => ?_) fun hc1 => ?_
 · have hw : (wI s a).2.1 = false := by simpa using hc1
   have h9 : nI s a = (0, false, (wI s a).2.2) := by unfold nI; rw [if_neg (by rw [hw]; simp)]
   refine aj (wR ?_)
   refine ⟨[], ?_⟩
   simp only [go_sem, AObj.bel, AObj.ren, AV.ren, aA, sg, rdr, h9] <;> simp
 have hw : (wI s a).2.1 = true := by simpa using hc1
 have h9 : nI s a = ((gO (wI s a).1).1, (gO (wI s a).1).2, (wI s a).2.2) := by unfold nI; rw [if_pos hw]
 refine wk (k3 (sr rfl fun _ k6 => (ja ?_)))
 refine vq Tryz.func223 (w_Atoi_ok (wI s a).1 (by omega) hat) (k6 ?_)
 refine sd mixed rfl fun _ k7 => ja ?_
 refine ⟨by rfl, ?_⟩
 refine k7 (wR ?_)
 refine ⟨[], ?_⟩
 simp only [go_sem, AObj.bel, AObj.ren, AV.ren, aA, sg, rdr, h9, hat] <;> simp
theorem w_number_no (s : ByteArray) (a : Nat) (ha : a ≤ s.size) (hs : s.size ≤ 1048576) (hat : (gO (wI s a).1).2 = false) : aD P 201 [.ptr 0 0] [(0, rdr s a)] 1 (.tup [.raw (.int .i64 (nI s a).1), .raw (.bool (nI s a).2.1)]) [(0, rdr s (nI s a).2.2)] 1 := by
 refine gq 23 [.tmp 2, .tmp 3] Tryz.func201 ?_
 simp only [rdr]
 have hl := wI_le ha
 refine aj ?_
 refine sr rfl fun _ k2 => ja ?_
 refine vg [] 0 rfl rfl rfl ⟨Tryz.func222, rfl, rfl⟩ (gU s a ha hs) rfl (by simp only [go_sem]) (by simp only [go_sem]) (mD (H1 := []) (.inl rfl) (by simp only [go_sem, rdr]) (by simp only [go_sem, AObj.bel, rdr] <;> simp)) (.inl rfl) ?_
 simp only [go_sem, AV.ren, AObj.ren, aA, shift, sg, Nat.le_refl, Nat.add_zero, Nat.sub_self, rdr]
 refine k2 (sq fun _ k3 => (aj ?_))
 refine cd rfl (fun hc1 => ?_) fun hc1 => ?_
 · have hw : (wI s a).2.1 = false := by simpa using hc1
   have h9 : nI s a = (0, false, (wI s a).2.2) := by unfold nI; rw [if_neg (by rw [hw]; simp)]
   refine aj (wR ?_)
   refine ⟨[], ?_⟩
   simp only [go_sem, AObj.bel, AObj.ren, AV.ren, aA, sg, rdr, h9] <;> simp
 have hw : (wI s a).2.1 = true := by simpa using hc1
 have h9 : nI s a = ((gO (wI s a).1).1, (gO (wI s a).1).2, (wI s a).2.2) := by unfold nI; rw [if_pos hw]
 refine wk (k3 (sr rfl fun _ k6 => (ja ?_)))
 refine vq Tryz.func223 (w_Atoi_no (wI s a).1 (by omega) hat) (k6 ?_)
 refine sd mixed rfl fun _ k7 => ja ?_
 refine ⟨by rfl, ?_⟩
 refine k7 (wR ?_)
 refine ⟨[], ?_⟩
 simp only [go_sem, AObj.bel, AObj.ren, AV.ren, aA, sg, rdr, h9, hat] <;> simp
theorem gS (s : ByteArray) (a : Nat) (ha : a ≤ s.size) (hs : s.size ≤ 1048576) (n : Int) (h0 : -9223372036854775808 ≤ n) (h1 : n ≤ 9223372036854775807) : aD P 202 [.ptr 0 0, .raw (.int .i64 n)] [(0, rdr s a)] 1 (.tup [.raw (.string (tI s a n).1), .raw (.bool (tI s a n).2.1)]) [(0, rdr s (tI s a n).2.2)] 1 := by
 refine gq 45 [.tmp 4, .tmp 5] Tryz.func202 ?_
 simp only [rdr]; refine aj ?_; refine sq fun _ k2 => ?_
 have hw1 : IntKind.i64.wrap ((s.size : Int) - (a : Int)) = (s.size : Int) - (a : Int) := by rw [w64]; omega
 refine sd mixed rfl fun _ k3 => ?_; simp only [go_sem, hw1]; refine ⟨by rfl, ?_⟩; apply k3
 refine cd rfl (fun hc1 => ?_) fun hc1 => ?_
 · have h9 : tI s a n = (⟨#[]⟩, false, a) := by unfold tI; rw [if_pos]; simp at hc1; omega
   refine aj (wR ?_)
   refine ⟨[], ?_⟩
   simp only [go_sem, AObj.bel, AObj.ren, AV.ren, aA, sg, rdr, h9] <;> simp
 have hc9 : 0 ≤ n ∧ n ≤ (s.size : Int) - a := by simp at hc1; omega
 have h9 : tI s a n = (s.extract a (a + n.toNat), true, a + n.toNat) := by unfold tI; rw [if_neg (by omega)]
 have hw3 : IntKind.i64.wrap ((a : Int) + n) = ((a + n.toNat : Nat) : Int) := by rw [w64]; omega
 have hw4 : IntKind.i64.wrap (((a + n.toNat : Nat) : Int) - n) = (a : Int) := by rw [w64]; omega
 have hto : ((a + n.toNat : Nat) : Int).toNat = a + n.toNat := by omega
 refine wk (k2 (sr rfl fun _ k5 => ?_))
 simp only [go_sem, hw3]
 refine k5 (sd mixed rfl fun _ k6 => ?_)
 simp only [go_sem, hw4, hto]; refine jr ?_; refine ⟨by rfl, ?_⟩
 refine k6 (wR ?_)
 refine ⟨[], ?_⟩
 simp only [go_sem, AObj.bel, AObj.ren, AV.ren, aA, sg, rdr, h9] <;> simp
theorem w_number (s : ByteArray) (a : Nat) (ha : a ≤ s.size) (hs : s.size ≤ 1048576) : aD P 201 [.ptr 0 0] [(0, rdr s a)] 1 (.tup [.raw (.int .i64 (nI s a).1), .raw (.bool (nI s a).2.1)]) [(0, rdr s (nI s a).2.2)] 1 := by
  cases h : (gO (wI s a).1).2
  · exact w_number_no s a ha hs h
  exact w_number_ok s a ha hs h
def padN (L : List Int) : List Int := L ++ List.replicate (4 - L.length) 0
theorem padN_len {L : List Int} (h : L.length ≤ 4) : (padN L).length = 4 := by
  unfold padN; rw [List.length_append, List.length_replicate]; omega
theorem splice_pad {L : List Int} (h : L.length < 4) (v : Int) : bS ((padN L).map inA) L.length [.raw (.int .i64 v)] = (padN (L ++ [v])).map inA := by
  unfold bS padN
  obtain ⟨k, hk⟩ : ∃ k, 4 - L.length = k + 1 := ⟨3 - L.length, by omega⟩
  rw [hk, show 4 - (L ++ [v]).length = k by rw [List.length_append, List.length_singleton]; omega, List.replicate_succ, List.map_append, List.map_cons]
  have e1 : (L.map inA ++ inA 0 :: (List.replicate k 0).map inA).take L.length = L.map inA := by
    rw [List.take_left' (by simp)]
  have e2 : (L.map inA ++ inA 0 :: (List.replicate k 0).map inA).drop (L.length + [AV.raw (Value.int IntKind.i64 v)].length) = (List.replicate k 0).map inA := by
    rw [List.length_singleton, ← List.drop_drop, List.drop_left' (by simp)]; rfl
  rw [e1, e2]
  simp [inA]
def dR (s : ByteArray) : Nat → Nat → List Int × Bool × Nat
  | 0, a => ([], true, a)
  | k + 1, a => if (nI s a).2.1 = true then ((nI s a).1 :: (dR s k (nI s a).2.2).1, (dR s k (nI s a).2.2).2) else ([], false, (nI s a).2.2)
def addR (L : List Int) (r : List Int × Bool × Nat) : List Int × Bool × Nat := (L ++ r.1, r.2)
theorem addR_step {s : ByteArray} {k a : Nat} {L : List Int} (h : (nI s a).2.1 = true) : addR L (dR s (k + 1) a) = addR (L ++ [(nI s a).1]) (dR s k (nI s a).2.2) := by
  unfold addR; rw [dR, if_pos h]
  simp
theorem addR_no {s : ByteArray} {k a : Nat} {L : List Int} (h : (nI s a).2.1 = false) : addR L (dR s (k + 1) a) = (L, false, (nI s a).2.2) := by
  unfold addR
  rw [dR, if_neg (by rw [h]; simp)]
  simp
theorem addR_end {s : ByteArray} {a : Nat} {L : List Int} : addR L (dR s 0 a) = (L, true, a) := by
  unfold addR dR; simp
def eI (s : ByteArray) (a : Nat) : Entry × Bool × Nat :=
  if (wI s a).2.1 = true then
    (if (dR s 4 (wI s a).2.2).2.1 = true then
      (if (tI s (dR s 4 (wI s a).2.2).2.2 ((dR s 4 (wI s a).2.2).1.getD 3 0)).2.1 = true then
        (⟨(wI s a).1, (dR s 4 (wI s a).2.2).1.getD 0 0, (dR s 4 (wI s a).2.2).1.getD 1 0, (tI s (dR s 4 (wI s a).2.2).2.2 ((dR s 4 (wI s a).2.2).1.getD 3 0)).1, (dR s 4 (wI s a).2.2).1.getD 2 0⟩, true, (tI s (dR s 4 (wI s a).2.2).2.2 ((dR s 4 (wI s a).2.2).1.getD 3 0)).2.2)
      else (gF, false, (tI s (dR s 4 (wI s a).2.2).2.2 ((dR s 4 (wI s a).2.2).1.getD 3 0)).2.2))
    else (gF, false, (dR s 4 (wI s a).2.2).2.2))
  else (gF, false, (wI s a).2.2)
theorem arr4 : P.underlying 243 = some (.array 4 3) := by kernel_rfl
theorem int1 : (P.info? 3).map (·.size) = some 1 := by kernel_rfl
theorem atoiV_range (s : ByteArray) : -9223372036854775808 ≤ (gO s).1 ∧ (gO s).1 ≤ 9223372036854775807 := by
  unfold gO; split
  · rename_i v h
    simp only
    unfold Lib.atoiAll at h; split at h
    · cases h
    simp only at h
    split at h
    · cases h
    · cases h
    rename_i u _
    split at h
    · cases h
    split at h
    · cases h
    rename_i h1 h2
    cases h; split
    · rename_i hn
      have : ¬ 9223372036854775808 < u := fun h => h2 ⟨hn, h⟩
      omega
    rename_i hn
    have : ¬ 9223372036854775808 ≤ u := fun h => h1 ⟨hn, h⟩
    omega
  · simp only [Lib.atoiSat]; split <;> omega
  simp only; omega
theorem nI_range (s : ByteArray) (a : Nat) : -9223372036854775808 ≤ (nI s a).1 ∧ (nI s a).1 ≤ 9223372036854775807 := by
  unfold nI; split
  · exact atoiV_range _
  simp only; omega
theorem numsI_le {s : ByteArray} : ∀ (k a : Nat), a ≤ s.size → a ≤ (dR s k a).2.2 ∧ (dR s k a).2.2 ≤ s.size
  | 0, a, h => ⟨Nat.le_refl _, h⟩
  | k + 1, a, h => by
    have h1 := nI_le h
    unfold dR; split
    · have := numsI_le k _ h1.2.1
      simp only; omega
    simp only; omega
theorem eI_le {s : ByteArray} {a : Nat} (ha : a ≤ s.size) : a ≤ (eI s a).2.2 ∧ (eI s a).2.2 ≤ s.size ∧ ((eI s a).2.1 = true → a < (eI s a).2.2) := by
  have h1 := wI_le ha
  have h2 := numsI_le 4 _ h1.2.1
  have h3 := tI_le (n := (dR s 4 (wI s a).2.2).1.getD 3 0) h2.2
  unfold eI; split
  · rename_i hw
    have := h1.2.2.2 hw
    split
    · split
      · simp only; exact ⟨by omega, h3.2, fun _ => by omega⟩
      simp only; exact ⟨by omega, h3.2, fun h => by cases h⟩
    simp only; exact ⟨by omega, h2.2, fun h => by cases h⟩
  exact ⟨h1.1, h1.2.1, fun h => by cases h⟩
theorem tJ (s : ByteArray) (a : Nat) (ha : a ≤ s.size) (hs : s.size ≤ 1048576) : aD P 203 [.ptr 0 0] [(0, rdr s a)] 1 (.tup [enA (eI s a).1, .raw (.bool (eI s a).2.1)]) [(0, rdr s (eI s a).2.2)] 1 := by
 refine gq 50 [.cell 2 65, .tmp 3] Tryz.func203 ?_
 simp only [rdr]
 have hl := wI_le ha
 have tn3 : (3 : Int).toNat = 3 := rfl
 refine aj ?_
 refine sr rfl fun _ k2 => ja ?_
 refine vg [] 0 rfl rfl rfl ⟨Tryz.func222, rfl, rfl⟩ (gU s a ha hs) rfl (by simp only [go_sem]) (by simp only [go_sem]) (mD (H1 := []) (.inl rfl) (by simp only [go_sem, rdr]) (by simp only [go_sem, AObj.bel, rdr] <;> simp)) (.inl rfl) ?_
 simp only [go_sem, AV.ren, AObj.ren, aA, shift, sg, Nat.le_refl, Nat.add_zero, Nat.sub_self, rdr]
 refine k2 (sq fun _ k3 => (aj ?_))
 refine cd rfl (fun hc1 => ?_) fun hc1 => ?_
 · have hw0 : (wI s a).2.1 = false := by simpa using hc1
   have h9 : eI s a = (gF, false, (wI s a).2.2) := by unfold eI; rw [if_neg (by rw [hw0]; simp)]
   refine aj (wR ?_)
   refine ⟨[], ?_⟩
   simp only [go_sem, AObj.bel, AObj.ren, AV.ren, aA, sg, rdr, h9, enA, gF] <;> simp
 have hw0 : (wI s a).2.1 = true := by simpa using hc1
 refine wk (k3 (aj ?_))
 refine sq fun _ k7 => aj (wb ?_)
 refine wl (α := List Int × Nat) (fun x => x.1.length ≤ 4 ∧ x.2 ≤ s.size ∧ (∀ v ∈ x.1, -9223372036854775808 ≤ v ∧ v ≤ 9223372036854775807) ∧ addR x.1 (dR s (4 - x.1.length) x.2) = dR s 4 (wI s a).2.2) (fun x => 4 - x.1.length) (fun x => ([(0, .ptr 0 0), (2, .ptr 1 0), (4, .raw (.string (wI s a).1)), (6, .ptr 2 0), (17, .raw (.int .i64 (x.1.length : Int)))], [(0, rdr s x.2), (1, .cells 65 [.raw (.string ⟨#[]⟩), .raw (.int .i64 0), .raw (.int .i64 0), .raw (.string ⟨#[]⟩), .raw (.int .i64 0)]), (2, .cells 243 ((padN x.1).map inA))])) 3 ([], (wI s a).2.2) ⟨by simp, hl.2.1, by simp, by unfold addR; simp⟩ [] ?_ ?_
 · simp only [go_sem, AObj.bel, AObj.ren, AV.ren, aA, sg, rdr, Int.natCast_zero] <;> simp [padN, inA]
 rintro ⟨L, b⟩ ⟨hL, hb, hr, hgo⟩
 simp only at hL hb hr hgo ⊢
 refine aj ?_; refine sq fun _ k10 => ?_
 refine cd rfl (fun hc2 => ?_) fun hc2 => ?_
 · have hlt : L.length < 4 := by simp at hc2; omega
   obtain ⟨k, hk⟩ : ∃ k, 4 - L.length = k + 1 := ⟨3 - L.length, by omega⟩
   have hsp := splice_pad hlt (nI s b).1
   have hsp2 : ((padN L).map inA).take L.length ++ AV.raw (.int .i64 (nI s b).1) :: ((padN L).map inA).drop (L.length + 1) = (padN (L ++ [(nI s b).1])).map inA := by simpa [bS] using hsp
   have hpl := padN_len hL
   have hle4 : (L.length + 1 ≤ 4) = True := by simp; omega
   have hn := nI_le hb
   refine wk (k10 (sq fun _ k11 => (wb (aj ?_))))
   refine sr rfl fun _ k13 => ?_; simp only [go_sem, hsp, hpl, hle4]; refine jr ?_
   refine vg [] 0 rfl rfl rfl ⟨Tryz.func201, rfl, rfl⟩ (w_number s b hb hs) rfl (by simp only [go_sem]) (by simp only [go_sem]) (mD (H1 := []) (.inl rfl) (by simp only [go_sem, rdr]) (by simp only [go_sem, AObj.bel, rdr] <;> simp)) (.inl rfl) ?_
   simp only [go_sem, AV.ren, AObj.ren, aA, shift, sg, Nat.le_refl, Nat.add_zero, Nat.sub_self, rdr]; refine jr ?_
   refine vC (fun hN => dI (n := (L.length : Int)) rfl rfl hN arr4 int1 rfl rfl (by omega) (by omega)) (.inl rfl) ?_
   simp only [go_sem, Int.toNat_natCast, Nat.mul_one, Nat.zero_add, hsp, hpl, hle4, List.length_map, hsp, hpl, hle4]
   refine jr (k13 ?_)
   refine aj ?_
   refine cd rfl (fun hc3 => ?_) fun hc3 => ?_
   · have hok : (nI s b).2.1 = false := by simpa using hc3
     rw [hk, addR_no hok] at hgo
     have h9 : eI s a = (gF, false, (nI s b).2.2) := by unfold eI; rw [if_pos hw0, ← hgo, if_neg (by simp)]
     refine aj (wR ?_)
     simp only [go_sem, lQ]; refine ⟨[], ?_⟩
     simp only [go_sem, AObj.bel, AObj.ren, AV.ren, aA, sg, rdr, h9, enA, gF] <;> simp
   have hok : (nI s b).2.1 = true := by simpa using hc3
   refine wk (jt (k11 ?_))
   have hw : IntKind.i64.wrap ((L.length : Int) + 1) = ((L.length + 1 : Nat) : Int) := by rw [w64]; omega
   refine wg rfl ?_; simp only [go_sem, hw]; refine jt ?_
   refine ⟨(L ++ [(nI s b).1], (nI s b).2.2), ⟨by simp; omega, hn.2.1, fun v hv => (by rcases List.mem_append.1 hv with h | h; exact hr v h; rw [List.mem_singleton.1 h]; exact nI_range s b), by rw [List.length_append, List.length_singleton, show 4 - (L.length + 1) = k from by omega]; rw [hk, addR_step hok] at hgo; exact hgo⟩, by simp only [List.length_append, List.length_singleton]; omega, [], ?_⟩
   simp only [go_sem, AObj.bel, AObj.ren, AV.ren, aA, sg, rdr] <;> simp
   exact hsp2
 have hl4 : L.length = 4 := by simp at hc2; omega
 rw [hl4, Nat.sub_self, addR_end] at hgo
 obtain ⟨p, q, r, t, rfl⟩ : ∃ p q r t, L = [p, q, r, t] := by
   match L, hl4 with
   | [p, q, r, t], _ => exact ⟨p, q, r, t, rfl⟩
 have padL : padN [p, q, r, t] = [p, q, r, t] := rfl
 obtain ⟨hr1, hr2⟩ := hr t (by simp)
 have hns : (dR s 4 (wI s a).2.2).2.1 = true := by rw [← hgo]
 refine we (jt (k7 ?_))
 refine sr rfl fun _ k16 => ja ?_
 refine jr ?_
 refine vC (fun hN => dI (n := 3) rfl rfl hN arr4 int1 rfl rfl (by decide) (by decide)) (.inl rfl) ?_
 simp only [go_sem, tn0, tn1, tn2, tn3, Nat.mul_one, Nat.zero_add, padL, inA, List.map_cons, List.map_nil]; refine jr ?_
 refine vg [] 0 rfl rfl rfl ⟨Tryz.func202, rfl, rfl⟩ (gS s b hb hs t (by omega) (by omega)) rfl (by simp only [go_sem]) (by simp only [go_sem]) (mD (H1 := []) (.inl rfl) (by simp only [go_sem, rdr]) (by simp only [go_sem, AObj.bel, rdr] <;> simp)) (.inl rfl) ?_
 simp only [go_sem, AV.ren, AObj.ren, aA, shift, sg, Nat.le_refl, Nat.add_zero, Nat.sub_self, rdr]
 refine jr (k16 ?_)
 refine sq fun _ k17 => aj ?_
 refine cd rfl (fun hc4 => ?_) fun hc4 => ?_
 · have ht0 : (tI s b t).2.1 = false := by simpa using hc4
   have h9 : eI s a = (gF, false, (tI s b t).2.2) := by unfold eI; rw [if_pos hw0, if_pos hns, ← hgo]; exact if_neg (by show ¬ (tI s b t).2.1 = true; rw [ht0]; simp)
   refine aj (wR ?_)
   refine ⟨[], ?_⟩
   simp only [go_sem, AObj.bel, AObj.ren, AV.ren, aA, sg, rdr, h9, enA, gF] <;> simp
 have ht0 : (tI s b t).2.1 = true := by simpa using hc4
 have h9 : eI s a = (⟨(wI s a).1, p, q, (tI s b t).1, r⟩, true, (tI s b t).2.2) := by unfold eI; rw [if_pos hw0, if_pos hns, ← hgo]; exact if_pos ht0
 refine wk (k17 (sr rfl fun _ k20 => (ja ?_)))
 refine jr ?_
 refine vC (fun hN => dI (n := 0) rfl rfl hN arr4 int1 rfl rfl (by decide) (by decide)) (.inl rfl) ?_
 simp only [go_sem, tn0, tn1, tn2, tn3, Nat.mul_one, Nat.zero_add, padL, inA, List.map_cons, List.map_nil]; refine jr ?_
 refine vC (fun hN => dI (n := 1) rfl rfl hN arr4 int1 rfl rfl (by decide) (by decide)) (.inl rfl) ?_
 simp only [go_sem, tn0, tn1, tn2, tn3, Nat.mul_one, Nat.zero_add, padL, inA, List.map_cons, List.map_nil]; refine jr ?_
 refine vC (fun hN => dI (n := 2) rfl rfl hN arr4 int1 rfl rfl (by decide) (by decide)) (.inl rfl) ?_
 simp only [go_sem, tn0, tn1, tn2, tn3, Nat.mul_one, Nat.zero_add, padL, inA, List.map_cons, List.map_nil]
 refine jr (k20 (wR ?_))
 refine ⟨[], ?_⟩
 simp only [go_sem, AObj.bel, AObj.ren, AV.ren, aA, sg, rdr, h9, enA, gF] <;> simp
theorem tI_small (s : ByteArray) (a : Nat) (n : Int) : (tI s a n).1.size ≤ s.size := by
  unfold tI; split
  · exact Nat.zero_le _
  show (s.extract a (a + n.toNat)).size ≤ s.size
  rw [ByteArray.size_extract]; omega
theorem eI_small {s : ByteArray} {a : Nat} (ha : a ≤ s.size) : (eI s a).1.key.size ≤ 8 ∧ (eI s a).1.text.size ≤ s.size := by
  have h1 := (wI_le ha).2.2.1
  have hz : gF.key.size ≤ 8 ∧ gF.text.size ≤ s.size := ⟨by decide, Nat.zero_le _⟩
  unfold eI
  generalize wI s a = w at h1 ⊢
  generalize dR s 4 w.2.2 = r
  have h2 := tI_small s r.2.2 (r.1.getD 3 0)
  generalize tI s r.2.2 (r.1.getD 3 0) = t at h2 ⊢
  split
  · split
    · split
      · exact ⟨h1, h2⟩
      exact hz
    exact hz
  exact hz
def iB (s : ByteArray) : Nat → Nat → List Entry → List Entry × Bool
  | 0, _, out => (out, true)
  | f + 1, a, out => if a < s.size then (if (!(eI s a).2.1 || decide (12 ≤ (out.length : Int))) = true then (out, false) else iB s f (eI s a).2.2 (out ++ [(eI s a).1])) else (out, true)
theorem innerI_end {s : ByteArray} {f a : Nat} {out : List Entry} (h : ¬ a < s.size) : iB s f a out = (out, true) := by
  cases f with
  | zero => rfl
  | succ f => rw [iB, if_neg h]
def bBad (s : ByteArray) (a b : Nat) (r : List Entry) : Bool := !isB r || !((fTx r).toList == (s.extract a b).toList)
def bI (s : ByteArray) (a : Nat) : List Entry × Bool × Nat :=
  if (nI s a).2.1 = true then
    (if (tI s (nI s a).2.2 (nI s a).1).2.1 = true then
      (if (tI s (tI s (nI s a).2.2 (nI s a).1).2.2 1).2.1 = true then
        (if (iB (tI s (nI s a).2.2 (nI s a).1).1 (tI s (nI s a).2.2 (nI s a).1).1.size 0 []).2 = true then
          (if bBad s a (tI s (tI s (nI s a).2.2 (nI s a).1).2.2 1).2.2 (iB (tI s (nI s a).2.2 (nI s a).1).1 (tI s (nI s a).2.2 (nI s a).1).1.size 0 []).1 = true then ([], false, (tI s (tI s (nI s a).2.2 (nI s a).1).2.2 1).2.2)
          else ((iB (tI s (nI s a).2.2 (nI s a).1).1 (tI s (nI s a).2.2 (nI s a).1).1.size 0 []).1, true, (tI s (tI s (nI s a).2.2 (nI s a).1).2.2 1).2.2))
        else ([], false, (tI s (tI s (nI s a).2.2 (nI s a).1).2.2 1).2.2))
      else ([], false, (tI s (tI s (nI s a).2.2 (nI s a).1).2.2 1).2.2))
    else ([], false, (tI s (nI s a).2.2 (nI s a).1).2.2))
  else ([], false, (nI s a).2.2)
theorem bI_le {s : ByteArray} {a : Nat} (ha : a ≤ s.size) : a ≤ (bI s a).2.2 ∧ (bI s a).2.2 ≤ s.size ∧ ((bI s a).2.1 = true → a < (bI s a).2.2) := by
  have h1 := nI_le ha
  have h2 := tI_le (n := (nI s a).1) h1.2.1
  have h3 := tI_le (n := 1) h2.2
  unfold bI; split
  · rename_i hn
    have := h1.2.2 hn
    split
    · split
      · split
        · split
          · simp only; exact ⟨by omega, h3.2, fun h => by cases h⟩
          simp only; exact ⟨by omega, h3.2, fun _ => by omega⟩
        simp only; exact ⟨by omega, h3.2, fun h => by cases h⟩
      simp only; exact ⟨by omega, h3.2, fun h => by cases h⟩
    simp only; exact ⟨by omega, h2.2, fun h => by cases h⟩
  exact ⟨h1.1, h1.2.1, fun h => by cases h⟩
def rF (s : ByteArray) : Nat → Nat → List (List Entry) → List (List Entry) × Nat
  | 0, a, out => (out, a)
  | f + 1, a, out => if (bI s a).2.1 = true then rF s f (bI s a).2.2 (out ++ [(bI s a).1]) else (out, a)
def raI (s : ByteArray) : List (List Entry) × Nat := rF s (s.size + 1) 0 []
theorem tL (s : ByteArray) (a : Nat) (ha : a ≤ s.size) (hs : s.size ≤ 1048576) : aD P 169 [.ptr 0 0] [(0, rdr s a)] 1 (.tup [.sl 5 ((bI s a).1.map enA), .raw (.bool (bI s a).2.1)]) [(0, rdr s (bI s a).2.2)] 1 := by
 refine gq 79 [.tmp 2, .tmp 3] Tryz.func169 ?_
 simp only [rdr]
 have hmx : maxLen = 9223372036854775807 := rfl
 have hn := nI_le ha
 have hnr := nI_range s a
 have ht := tI_le (n := (nI s a).1) hn.2.1
 have hu := tI_le (n := 1) ht.2
 obtain ⟨n1, hn1⟩ : ∃ z, z = (nI s a).1 := ⟨_, rfl⟩
 obtain ⟨n2, hn2⟩ : ∃ z, z = (nI s a).2.2 := ⟨_, rfl⟩
 obtain ⟨b0, hb0⟩ : ∃ z, z = (tI s n2 n1).1 := ⟨_, rfl⟩
 obtain ⟨t2, ht2⟩ : ∃ z, z = (tI s n2 n1).2.2 := ⟨_, rfl⟩
 obtain ⟨u2, hu2⟩ : ∃ z, z = (tI s t2 1).2.2 := ⟨_, rfl⟩
 rw [← hn1, ← hn2] at ht hu
 rw [← ht2] at ht hu
 rw [← hu2] at hu; rw [← hn2] at hn; rw [← hn1] at hnr
 have hbs : b0.size ≤ s.size := by rw [hb0]; exact tI_small _ _ _
 refine aj ?_; refine aj ?_
 refine sr rfl fun _ k3 => ja ?_
 refine vg [] 0 rfl rfl rfl ⟨Tryz.func201, rfl, rfl⟩ (w_number s a ha hs) rfl (by simp only [go_sem]) (by simp only [go_sem]) (mD (H1 := []) (.inl rfl) (by simp only [go_sem, rdr]) (by simp only [go_sem, AObj.bel, rdr] <;> simp)) (.inl rfl) ?_
 simp only [go_sem, AV.ren, AObj.ren, aA, shift, sg, Nat.le_refl, Nat.add_zero, Nat.sub_self, rdr, ← hn1, ← hn2]
 refine k3 (sq fun _ k4 => (aj ?_))
 refine cd rfl (fun hc1 => ?_) fun hc1 => ?_
 · have hk : (nI s a).2.1 = false := by simpa using hc1
   have h9 : bI s a = ([], false, n2) := by unfold bI; rw [if_neg (by rw [hk]; simp), hn2]
   refine aj ?_
   refine eT (t := 2) 65 5 rfl (by decide) ?_
   simp only [go_sem]
   refine aFz 1 rfl ?_
   simp only [go_sem, fzL, AV.fz]; refine wR ?_; refine ⟨[], ?_⟩
   simp only [go_sem, AObj.bel, AObj.ren, AV.ren, aA, sg, rdr, h9, List.map_nil] <;> simp
 have hk1 : (nI s a).2.1 = true := by simpa using hc1
 refine wk (k4 (sr rfl fun _ k7 => (ja ?_)))
 refine vg [] 0 rfl rfl rfl ⟨Tryz.func202, rfl, rfl⟩ (gS s n2 hn.2.1 hs n1 hnr.1 hnr.2) rfl (by simp only [go_sem]) (by simp only [go_sem]) (mD (H1 := []) (.inl rfl) (by simp only [go_sem, rdr]) (by simp only [go_sem, AObj.bel, rdr] <;> simp)) (.inl rfl) ?_
 simp only [go_sem, AV.ren, AObj.ren, aA, shift, sg, Nat.le_refl, Nat.add_zero, Nat.sub_self, rdr, ← hb0, ← ht2]
 refine k7 (sq fun _ k8 => (aj ?_))
 refine cd rfl (fun hc2 => ?_) fun hc2 => ?_
 · have hk : (tI s n2 n1).2.1 = false := by simpa using hc2
   have h9 : bI s a = ([], false, t2) := by unfold bI; rw [if_pos hk1, ← hn1, ← hn2, if_neg (by rw [hk]; simp), ht2]
   refine aj ?_
   refine eT (t := 2) 65 5 rfl (by decide) ?_
   simp only [go_sem]
   refine aFz 1 rfl ?_
   simp only [go_sem, fzL, AV.fz]; refine wR ?_; refine ⟨[], ?_⟩
   simp only [go_sem, AObj.bel, AObj.ren, AV.ren, aA, sg, rdr, h9, List.map_nil] <;> simp
 have hk2 : (tI s n2 n1).2.1 = true := by simpa using hc2
 refine wk (k8 (sq fun _ k11 => (sr rfl fun _ k12 => (ja ?_))))
 refine vg [] 0 rfl rfl rfl ⟨Tryz.func202, rfl, rfl⟩ (gS s t2 ht.2 hs 1 (by omega) (by omega)) rfl (by simp only [go_sem]) (by simp only [go_sem]) (mD (H1 := []) (.inl rfl) (by simp only [go_sem, rdr]) (by simp only [go_sem, AObj.bel, rdr] <;> simp)) (.inl rfl) ?_
 simp only [go_sem, AV.ren, AObj.ren, aA, shift, sg, Nat.le_refl, Nat.add_zero, Nat.sub_self, rdr, ← hu2]
 refine k12 (aj ?_)
 refine cd rfl (fun hc3 => ?_) fun hc3 => ?_
 · have hk : (tI s t2 1).2.1 = false := by simpa using hc3
   have h9 : bI s a = ([], false, u2) := by unfold bI; rw [if_pos hk1, ← hn1, ← hn2, if_pos hk2, ← ht2, if_neg (by rw [hk]; simp), hu2]
   refine aj ?_
   refine eT (t := 2) 65 5 rfl (by decide) ?_
   simp only [go_sem]
   refine aFz 1 rfl ?_
   simp only [go_sem, fzL, AV.fz]; refine wR ?_; refine ⟨[], ?_⟩
   simp only [go_sem, AObj.bel, AObj.ren, AV.ren, aA, sg, rdr, h9, List.map_nil] <;> simp
 have hk3 : (tI s t2 1).2.1 = true := by simpa using hc3
 have hbI : bI s a = if (iB b0 b0.size 0 []).2 = true then (if bBad s a u2 (iB b0 b0.size 0 []).1 = true then ([], false, u2) else ((iB b0 b0.size 0 []).1, true, u2)) else ([], false, u2) := by
   unfold bI; rw [if_pos hk1, ← hn1, ← hn2, if_pos hk2, ← ht2, ← hb0, if_pos hk3, ← hu2]
 refine wk (k11 (aj ?_))
 refine aj ?_
 refine sq fun _ k17 => wb ?_
 refine eT (t := 9) 65 5 rfl (by decide) ?_
 simp only [go_sem]
 refine wl (α := Nat × Nat × List Entry) (fun x => b0.size ≤ x.1 + x.2.1 ∧ x.2.1 ≤ b0.size ∧ x.2.2.length ≤ 12 ∧ (∀ e ∈ x.2.2, e.key.size ≤ 1048576 ∧ e.text.size ≤ 1048576) ∧ iB b0 x.1 x.2.1 x.2.2 = iB b0 b0.size 0 []) (fun x => x.1) (fun x => ([(0, .ptr 0 0), (4, .raw (.int .i64 (a : Int))), (7, .raw (.string b0)), (8, .ptr 1 0), (9, .ref 2)], [(0, rdr s u2), (1, rdr b0 x.2.1), (2, .row 65 5 (x.2.2.map enA))])) 3 (b0.size, 0, []) ⟨by simp, Nat.zero_le _, by simp, by simp, rfl⟩ [] ?_ ?_
 · simp only [go_sem, AObj.bel, AObj.ren, AV.ren, aA, sg, rdr, Int.natCast_zero, List.map_nil] <;> simp
 rintro ⟨f, at0, out⟩ ⟨hf, hat, hol, hoz, hgo⟩
 simp only at hf hat hol hoz hgo ⊢
 refine sq fun _ k18 => aj ?_
 refine cd rfl (fun hc4 => ?_) fun hc4 => ?_
 · have hlt : at0 < b0.size := by simpa using hc4
   obtain ⟨g, rfl⟩ : ∃ g, f = g + 1 := ⟨f - 1, by omega⟩
   have he := eI_le hat
   have hes := eI_small hat
   refine wk (k18 (wb (sr rfl fun _ k20 => ?_)))
   simp only [go_sem, enA]
   refine vg [(0, 1)] 0 rfl rfl rfl ⟨Tryz.func203, rfl, rfl⟩ (tJ b0 at0 hat (by omega)) rfl (by simp only [go_sem, AV.ren, aA, sg]) (by simp only [go_sem]) (mD (H1 := []) (.inr ⟨1, rfl⟩) (by simp only [go_sem, rdr, sg, AObj.ren] <;> simp [AV.ren, aA, sg, Abs.get]) (by simp only [go_sem, AObj.bel, rdr] <;> simp)) (.inl rfl) ?_
   simp only [go_sem, AV.ren, AObj.ren, aA, shift, sg, Nat.le_refl, Nat.add_zero, Nat.sub_self, rdr, enA]
   refine k20 (sq fun _ k21 => (aj ?_))
   refine cd rfl (fun hc5 => ?_) fun hc5 => ?_
   · rw [iB, if_pos hlt, if_pos hc5] at hgo
     have h9 : bI s a = ([], false, u2) := by rw [hbI, ← hgo]; exact if_neg (by simp)
     refine aj ?_
     refine eT (t := 2) 65 5 rfl (by decide) ?_
     simp only [go_sem]
     refine aFz 4 rfl ?_
     simp only [go_sem, fzL, AV.fz]; refine wR ?_; simp only [go_sem, lQ]; refine ⟨[], ?_⟩
     simp only [go_sem, AObj.bel, AObj.ren, AV.ren, aA, sg, rdr, h9, List.map_nil] <;> simp
   have hok : (eI b0 at0).2.1 = true ∧ out.length < 12 := by simp at hc5; exact ⟨hc5.1, by omega⟩
   have hlt2 := he.2.2 hok.1
   refine wk (k21 ?_)
   refine wg rfl ?_; simp only [go_sem, List.length_take, List.length_append, List.nil_append, List.length_map, List.length_drop, enA]; refine jr ?_; refine jt ?_; refine jt ?_
   refine ⟨(g, (eI b0 at0).2.2, out ++ [(eI b0 at0).1]), ⟨by simp only; omega, he.2.1, by simp; omega, fun e h => (by rcases List.mem_append.1 h with h | h; exact hoz e h; rw [List.mem_singleton.1 h]; omega), by simp only; rw [iB, if_pos hlt, if_neg (by rw [hc5]; simp)] at hgo; exact hgo⟩, by simp only; omega, [(2, 5)], ?_⟩
   simp only [go_sem, AObj.bel, AObj.ren, AV.ren, aA, sg, rdr] <;> simp [enA]
 have hge : ¬ at0 < b0.size := by simpa using hc4
 rw [innerI_end hge] at hgo; rw [← hgo] at hbI
 simp only [if_true] at hbI
 have hto : ((u2 : Nat) : Int).toNat = u2 := Int.toNat_natCast _
 refine we (jt (k17 ?_))
 refine sq fun _ k24 => ?_
 have hmx : dK out := ⟨by omega, fun e he => ⟨by have := hoz e he; omega, by have := hoz e he; omega⟩⟩
 refine aFz 2 rfl ?_
 simp only [go_sem, fzL, AV.fz]; refine sd mixed rfl fun _ k25 => ?_; simp only [go_sem, hto]; refine jr ?_
 refine tp rfl rfl rfl ⟨Tryz.func123, rfl, rfl⟩ (vN out hmx) (by simp only [go_sem]) (by simp only [go_sem]) ?_
 simp only [go_sem]; refine jr ?_
 refine tpg rfl rfl rfl rfl rfl rfl ⟨Tryz.func72, rfl, rfl⟩ (fun hg => mH out hmx) (by simp only [go_sem]) (fun hg => (by simp only [go_sem])) (by simp only [go_sem]) trivial ?_
 simp only [go_sem]; refine jr ?_; refine ⟨by rfl, ?_⟩; apply k25
 refine cd rfl (fun hc6 => ?_) fun hc6 => ?_
 · have h9 : bI s a = ([], false, u2) := by rw [hbI]; exact if_pos hc6
   refine aj ?_
   refine eT (t := 2) 65 5 rfl (by decide) ?_
   simp only [go_sem]
   refine aFz 3 rfl ?_
   simp only [go_sem, fzL, AV.fz]; refine wR ?_; refine ⟨[], ?_⟩
   simp only [go_sem, AObj.bel, AObj.ren, AV.ren, aA, sg, rdr, h9, List.map_nil] <;> simp
 have h9 : bI s a = (out, true, u2) := by rw [hbI]; exact if_neg (by unfold bBad; rw [hc6]; simp)
 refine wk (k24 (aj (wR ?_)))
 refine ⟨[], ?_⟩
 simp only [go_sem, AObj.bel, AObj.ren, AV.ren, aA, sg, rdr, h9, List.map_nil] <;> simp
theorem sI (s : ByteArray) (hs : s.size ≤ 1048576) : aB P 117 [.raw (.string s)] [] 0 (.tup [.sl 1 ((raI s).1.map esA), .raw (.int .i64 ((raI s).2 : Int))]) := by
 refine pq 25 [.tmp 2, .tmp 3] Tryz.func117 ?_
 have hmx : maxLen = 9223372036854775807 := rfl
 refine aj ?_; refine aj ?_
 refine aj (wb ?_)
 refine eT (t := 5) 33 1 rfl (by decide) ?_
 simp only [go_sem]
 refine wl (α := Nat × Nat × List (List Entry)) (fun x => x.2.1 ≤ s.size ∧ s.size < x.1 + x.2.1 ∧ x.2.2.length ≤ x.2.1 ∧ rF s x.1 x.2.1 x.2.2 = raI s) (fun x => x.1) (fun x => ([(4, .ptr 0 0), (5, .ref 1)], [(0, rdr s x.2.1), (1, .row 33 1 (x.2.2.map esA))])) 2 (s.size + 1, 0, []) ⟨Nat.zero_le _, by simp, by simp, rfl⟩ [] ?_ ?_
 · simp only [go_sem, AObj.bel, AObj.ren, AV.ren, aA, sg, rdr, Int.natCast_zero, List.map_nil] <;> simp
 rintro ⟨f, a, out⟩ ⟨ha, hf, hol, hgo⟩
 simp only at ha hf hol hgo ⊢
 obtain ⟨g, rfl⟩ : ∃ g, f = g + 1 := ⟨f - 1, by omega⟩
 have hb := bI_le ha
 refine wb (aj ?_)
 refine sr rfl fun _ k5 => ja ?_
 refine vg [] 0 rfl rfl rfl ⟨Tryz.func169, rfl, rfl⟩ (tL s a ha hs) rfl (by simp only [go_sem]) (by simp only [go_sem]) (mD (H1 := []) (.inl rfl) (by simp only [go_sem, rdr]) (by simp only [go_sem, AObj.bel, rdr] <;> simp)) (.inl rfl) ?_
 simp only [go_sem, AV.ren, AObj.ren, aA, shift, sg, Nat.le_refl, Nat.add_zero, Nat.sub_self, rdr]
 refine k5 (sq fun _ k6 => (aj ?_))
 refine cd rfl (fun hc1 => ?_) fun hc1 => ?_
 · have hok : (bI s a).2.1 = false := by simpa using hc1
   rw [rF, if_neg (by rw [hok]; simp)] at hgo
   refine aj ?_
   refine aFz 1 rfl ?_
   simp only [go_sem, fzL, AV.fz]; refine wR ?_; simp only [go_sem, lQ]
   refine fO ?_ ⟨by simp only [go_sem], trivial, trivial⟩
   simp only [go_sem, ← hgo]
 have hok : (bI s a).2.1 = true := by simpa using hc1
 have hlt := hb.2.2 hok
 refine wk (k6 ?_)
 refine wg rfl ?_; simp only [go_sem, List.length_take, List.length_append, List.nil_append, List.length_map, List.length_drop]; refine jr ?_; refine jt ?_; refine jt ?_
 refine ⟨(g, (bI s a).2.2, out ++ [(bI s a).1]), ⟨hb.2.1, by simp only; omega, by simp; omega, by simp only; rw [rF, if_pos hok] at hgo; exact hgo⟩, by simp only; omega, [(1, 3)], ?_⟩
 simp only [go_sem, AObj.bel, AObj.ren, AV.ren, aA, sg, rdr] <;> simp [esA]
def jO (seq : Int) (st : List Entry × Int) (e : Entry) : List Entry × Int := if seq < e.seq then (st.1 ++ [e], max st.2 e.seq) else st
def lT (seq : Int) (st : List Entry × Int) (b : List Entry) : List Entry × Int := b.foldl (jO seq) st
def gH (bs : List (List Entry)) (seq : Int) : List Entry × Int := (dD (bs.foldl (lT seq) ([], seq)).1, (bs.foldl (lT seq) ([], seq)).2)
theorem fgStep_len (seq : Int) (st : List Entry × Int) (e : Entry) : (jO seq st e).1.length ≤ st.1.length + 1 := by
  unfold jO; split
  · simp
  omega
def sBat (bs : List (List Entry)) : Prop := bs.length ≤ 12001 ∧ ∀ b ∈ bs, b.length ≤ 12
def nP (d : Disk) : Bool := if 12000 < (d.log.size : Int) ∨ d.safe < 0 ∨ (d.log.size : Int) < d.safe then false else dG ⟨d.seq, [], d.levels, []⟩
theorem bI_ok {s : ByteArray} {a : Nat} (h : (bI s a).2.1 = true) : isB (bI s a).1 = true := by
  unfold bI at h ⊢
  generalize nI s a = n at h ⊢
  generalize tI s n.2.2 n.1 = t at h ⊢
  generalize tI s t.2.2 1 = u at h ⊢
  generalize iB t.1 t.1.size 0 [] = r at h ⊢
  split at h
  · rename_i h1
    split at h
    · rename_i h2
      split at h
      · rename_i h3
        split at h
        · rename_i h4
          split at h
          · cases h
          rename_i h5
          rw [if_pos h1, if_pos h2, if_pos h3, if_pos h4, if_neg h5]; unfold bBad at h5; simp at h5
          exact h5.1
        cases h
      cases h
    cases h
  cases h
theorem readI_ok {s : ByteArray} : ∀ (f a : Nat) (out : List (List Entry)), a ≤ s.size → out.length ≤ a → (∀ b ∈ out, isB b = true) → (∀ b ∈ (rF s f a out).1, isB b = true) ∧ (rF s f a out).1.length ≤ s.size
  | 0, a, out, ha, hl, h => ⟨h, by simp only [rF]; omega⟩
  | f + 1, a, out, ha, hl, h => by
    unfold rF
    have hb := bI_le ha
    split
    · rename_i hk
      have := hb.2.2 hk
      refine readI_ok f _ _ hb.2.1 (by simp; omega) fun b hb' => ?_
      rcases List.mem_append.1 hb' with h1 | h1
      · exact h b h1
      rw [List.mem_singleton.1 h1]; exact bI_ok hk
    exact ⟨h, by simp only; omega⟩
theorem qQ (s : ByteArray) : (∀ b ∈ (raI s).1, isB b = true) ∧ (raI s).1.length ≤ s.size := readI_ok _ 0 [] (Nat.zero_le _) (Nat.le_refl _) (by simp)
theorem tF {s : ByteArray} (hs : s.size ≤ 12000) : sBat (raI s).1 := by
  obtain ⟨h1, h2⟩ := qQ s
  exact ⟨by omega, fun b hb => (cK (h1 b hb)).2.2⟩
theorem w_TreeOk_d (d : Disk) (hs : mR d.levels) : aB P 115 [.agg [.raw (.int .i64 d.seq), .raw (.slice none 0 0), .sl 1 (d.levels.map rsA), .raw (.slice none 0 0)]] [] 0 (.raw (.bool (dG ⟨d.seq, [], d.levels, []⟩))) :=
  (xS ⟨d.seq, [], d.levels, []⟩ ⟨⟨by simp, by simp⟩, hs, by simp⟩).args_le (LeL.cons (Le.aggL (LeL.cons (.refl _) (LeL.cons (.nil _) (LeL.cons (.refl _) (LeL.cons (.nil _) LeL.nil))))) LeL.nil) ⟨lJ _ _, trivial⟩
theorem qL (bs : List (List Entry)) (seq : Int) (hb : sBat bs) : aB P 118 [.sl 1 (bs.map esA), .raw (.int .i64 seq)] [] 0 (.tup [.sl 5 ((gH bs seq).1.map enA), .raw (.int .i64 (gH bs seq).2)]) := by
 refine pq 43 [.tmp 4, .tmp 5] Tryz.func118 ?_
 have hmx : maxLen = 9223372036854775807 := rfl
 obtain ⟨hb1, hb2⟩ := hb
 refine aj ?_; refine aj ?_; refine aj ?_
 refine sq fun _ k4 => aj (wb ?_)
 refine eT (t := 6) 65 5 rfl (by decide) ?_
 simp only [go_sem]
 refine wl (α := Nat × List Entry × Int) (fun x => x.1 ≤ bs.length ∧ x.2.1.length ≤ 12 * x.1 ∧ (bs.drop x.1).foldl (lT seq) x.2 = bs.foldl (lT seq) ([], seq)) (fun x => bs.length - x.1) (fun x => ([(1, .raw (.int .i64 seq)), (6, .ref 0), (7, .raw (.int .i64 x.2.2)), (13, .sl 1 (bs.map esA)), (14, .raw (.int .i64 (bs.length : Int))), (15, .raw (.int .i64 (x.1 : Int)))], [(0, .row 65 5 (x.2.1.map enA))])) 1 (0, [], seq) ⟨Nat.zero_le _, by simp, rfl⟩ [] ?_ ?_
 · simp only [go_sem, AObj.bel, List.map_nil, Int.natCast_zero] <;> simp
 rintro ⟨i, st⟩ ⟨hi, hol, hfold⟩
 simp only at hi hol hfold ⊢
 refine aj ?_; refine sq fun _ k7 => ?_
 refine cdS rfl (fun hc1 => ?_) fun hc1 => ?_
 · have hge : bs.length ≤ i := Nat.not_lt.1 (by simpa using hc1)
   rw [List.drop_eq_nil_of_le hge, List.foldl_nil] at hfold
   have h9 : gH bs seq = (dD st.1, st.2) := by unfold gH; rw [← hfold]
   refine we (jt (k4 ?_))
   refine sr rfl fun _ k17 => ja ?_
   refine vg [] 0 rfl rfl rfl ⟨Tryz.func140, rfl, rfl⟩ (w_sort st.1 (by omega)) rfl (by simp only [go_sem, eZ]) (by simp only [go_sem, eZ]) (mD (H1 := []) (.inl rfl) (by simp only [go_sem]) (by simp only [go_sem, AObj.bel])) (.inl rfl) ?_
   simp only [go_sem, AV.ren, AObj.ren, aA, shift, sg, Nat.le_refl, Nat.add_zero, Nat.sub_self]
   refine k17 (aj ?_)
   refine aFz 0 rfl ?_
   simp only [go_sem, fzL, AV.fz]; refine wR ?_
   refine fO ?_ ⟨enB _ _, trivial, trivial⟩
   simp only [go_sem, h9]
 have hlt : i < bs.length := (by simpa using hc1); obtain ⟨l, hl, hdrop, hml⟩ := ix hlt
 have hl12 := hb2 l hml
 refine wk (k7 (sq fun _ k8 => (wb (sr rfl fun _ k9 => ?_))))
 simp only [go_sem, hl, esA]
 refine jr (k9 ?_)
 refine aj (wb ?_)
 refine wl (α := Nat × List Entry × Int) (fun x => x.1 ≤ l.length ∧ x.2.1.length ≤ 12 * i + x.1 ∧ (l.drop x.1).foldl (jO seq) x.2 = lT seq st l) (fun x => l.length - x.1) (fun x => ([(1, .raw (.int .i64 seq)), (6, .ref 0), (7, .raw (.int .i64 x.2.2)), (13, .sl 1 (bs.map esA)), (14, .raw (.int .i64 (bs.length : Int))), (15, .raw (.int .i64 (i : Int))), (19, .sl 5 (l.map enA)), (20, .raw (.int .i64 (l.length : Int))), (21, .raw (.int .i64 (x.1 : Int)))], [(0, .row 65 5 (x.2.1.map enA))])) 1 (0, st) ⟨Nat.zero_le _, by simpa using hol, rfl⟩ [] ?_ ?_
 · simp only [go_sem, AObj.bel, AObj.ren, AV.ren, aA, sg, Int.natCast_zero] <;> simp
 rintro ⟨k, st2⟩ ⟨hk, hol2, hfold2⟩
 simp only at hk hol2 hfold2 ⊢
 refine aj ?_; refine sq fun _ k12 => ?_
 refine cdS rfl (fun hc2 => ?_) fun hc2 => ?_
 · have hgek : l.length ≤ k := by have h9 : ¬ k < l.length := (by simpa using hc2); omega
   rw [List.drop_eq_nil_of_le hgek, List.foldl_nil] at hfold2
   have hf2 : lT seq st l = st2 := hfold2.symm
   refine we (jt ?_)
   refine jt (k8 ?_)
   refine jw (wiS i (by omega)) ?_
   refine jt ?_
   refine ⟨(i + 1, st2), ⟨by omega, by simp only; omega, by rw [hdrop, List.foldl_cons] at hfold; rw [← hfold]; exact congrArg (fun z => (bs.drop (i + 1)).foldl (lT seq) z) hf2.symm⟩, by omega, [], ?_⟩
   simp only [go_sem, AObj.bel, AObj.ren, AV.ren, aA, sg, Int.natCast_zero] <;> simp
 have hltk : k < l.length := by simpa using hc2
 obtain ⟨e, he, hdrop2, _⟩ := ix hltk
 refine wk (k12 (sq fun _ k13 => (wb (sr rfl fun _ k14 => ?_))))
 simp only [go_sem, he, enA]
 refine jr (k14 ?_)
 refine sr rfl fun _ k15 => ?_; simp only [go_sem, enA]; apply k15
 refine cdS rfl (fun hc3 => ?_) fun hc3 => ?_
 · have hgt : ¬ seq < e.seq := by simpa using hc3
   have hst : jO seq st2 e = st2 := by unfold jO; rw [if_neg hgt]
   refine wk (jt (k13 ?_))
   have hwk := wiS k (by omega)
   refine wg rfl ?_; simp only [go_sem, hwk]; refine jt ?_
   refine ⟨(k + 1, st2), ⟨by omega, by simp only; omega, by rw [hdrop2, List.foldl_cons] at hfold2; rw [← hfold2, hst]⟩, by omega, [], ?_⟩
   simp only [go_sem, AObj.bel, AObj.ren, AV.ren, aA, sg, Int.natCast_zero] <;> simp
 have hgt : seq < e.seq := by simpa using hc3
 have hst : jO seq st2 e = (st2.1 ++ [e], max st2.2 e.seq) := by unfold jO; rw [if_pos hgt]
 have hmx : max st2.2 e.seq = max st2.2 e.seq := rfl
 refine sr rfl fun _ k16 => ?_; simp only [go_sem, List.length_take, List.length_append, List.nil_append, List.length_map, List.length_reverse, List.length_drop, enA]
 refine jr (k16 ?_)
 refine wg rfl ?_; simp only [go_sem, hmx]
 refine jt (k13 ?_)
 have hwk := wiS k (by omega)
 refine wg rfl ?_; simp only [go_sem, hwk]; refine jt ?_
 refine ⟨(k + 1, st2.1 ++ [e], max st2.2 e.seq), ⟨by omega, by simp; omega, by rw [hdrop2, List.foldl_cons] at hfold2; rw [← hfold2, hst]⟩, by omega, [(0, 3)], ?_⟩
 simp only [go_sem, AObj.bel, AObj.ren, AV.ren, aA, sg] <;> simp [enA]
theorem pW (s : Store) (hs : bM s) : aD P 69 [stA s] [] 0 (.agg [.raw (.bool s.up), .raw (.int .i64 s.tree.seq), .ref 0, .ref 1, .ref 2, .raw (.string s.disk.log), .raw (.int .i64 s.disk.safe), .ref 3, .raw (.int .i64 s.disk.seq)]) [(0, .row 65 5 (s.tree.mem.map enA)), (1, .row 107 1 (s.tree.levels.map rsO)), (2, .row 3 1 (s.tree.snaps.map inA)), (3, .row 107 1 (s.disk.levels.map rsO))] 4 := by
 refine gq 16 [.cell 2 40] Tryz.func69 ?_
 simp only [stA]; refine aj ?_; refine aj ?_
 refine sr rfl fun _ k3 => ja ?_
 refine vn 3 rfl rfl rfl ⟨Tryz.func120, rfl, rfl⟩ (zQ s.tree hs.1) (by simp only [go_sem, trA]) (by simp only [go_sem, trA]) (by simp) (by decide) ?_
 simp only [go_sem, AV.ren, AObj.ren, aA, shift, sg, Nat.le_refl, Nat.add_zero, Nat.sub_self]
 refine k3 (sr rfl fun _ k4 => (ja ?_))
 refine vn 1 rfl rfl rfl ⟨Tryz.func121, rfl, rfl⟩ (pD s.disk.levels hs.2) (by simp only [go_sem]) (by simp only [go_sem]) (by simp) (by decide) ?_
 simp only [go_sem, AV.ren, AObj.ren, aA, shift, sg, Nat.le_refl, Nat.add_zero, Nat.sub_self]
 refine k4 (aj (wR ?_))
 refine ⟨[(0, 3), (1, 4), (2, 5), (3, 6)], ?_⟩
 simp only [go_sem, AObj.bel, AObj.ren, AV.ren, aA, sg] <;> simp
theorem xZ (d : Disk) (hs : mR d.levels) : aB P 112 [dkA d] [] 0 (.raw (.bool (nP d))) := by
 refine pq 28 [.tmp 2] Tryz.func112 ?_
 simp only [dkA]; refine aj ?_
 refine sr rfl fun _ k2 => ja ?_
 refine vpg rfl rfl rfl rfl rfl rfl ⟨Tryz.func115, rfl, rfl⟩ (fun hg => w_TreeOk_d d hs) (by simp only [go_sem]) (fun hg => (by simp only [go_sem])) (by simp only [go_sem]) trivial ?_
 simp only [go_sem]
 refine k2 (wR ?_)
 have h9 : nP d = (((decide ((d.log.size : Int) ≤ 12000) && decide (0 ≤ d.safe)) && decide (d.safe ≤ (d.log.size : Int))) && dG ⟨d.seq, [], d.levels, []⟩) := by
   unfold nP; split
   · rename_i h; have : ((decide ((d.log.size : Int) ≤ 12000) && decide (0 ≤ d.safe)) && decide (d.safe ≤ (d.log.size : Int))) = false := by simp; omega
     rw [this]; rfl
   rename_i h; have : ((decide ((d.log.size : Int) ≤ 12000) && decide (0 ≤ d.safe)) && decide (d.safe ≤ (d.log.size : Int))) = true := by simp; omega
   rw [this]; rfl
 refine fO ?_ trivial; simp only [go_sem, h9]
section
variable {H : Heap} {ro : Option Nat} {N nx b0 : Nat} {E : Env} {o : Oper} {c : Call} {x : Operand}
theorem lstep_sliceNil {P : Program} {ds : List (Option Tmp)} (hg : o.guard = none) (ho : o.op = .call c) (hc : c.callee = .builtin .unsafeSliceData) (hargs : c.args = #[x]) (hN : ∀ d, o.dst = some d → d < N)
    (hx : opv E x = some (.raw (.slice none 0 0))) : bC P ro N ds o b0 E H (tO [x]) [] (.raw (.pointer none)) [] nx 0 := by
  refine lsO hg fun E' H' U hE hH' hnx => ?_
  rw [aU0]
  have hops := oCg hE
  refine aG (by simp [ho, Op.noDefer]) hN fun C a w hR => ?_
  obtain ⟨h1, h2⟩ := hR.opv (x := x) (by rw [hops x (by simp)]; exact hx)
  have hev : a.eval x = .slice none 0 0 := by
    generalize a.eval x = v at h1
    cases h1; rfl
  have hr := Lib.run_unsafeSliceData_nil (P := P) w c.argTypes o.type 0 0
  exact ⟨trivial, .pointer none, by simp [execOp, ho, resolve, hc, hargs, invoke, builtin, hev, hr], .raw _⟩
theorem lstep_unsafeNil {P : Program} {ds : List (Option Tmp)} {x y : Operand} {pt it : Nat} (hg : o.guard = none) (ho : o.op = .call c) (hc : c.callee = .builtin .unsafeString) (hargs : c.args = #[x, y]) (hts : c.argTypes = #[pt, it]) (hN : ∀ d, o.dst = some d → d < N)
    (hx : opv E x = some (.raw (.pointer none))) (hy : opv E y = some (.raw (.int .i64 0))) : bC P ro N ds o b0 E H (tO [x, y]) [] (.raw (.string ⟨#[]⟩)) [] nx 0 := by
  refine lsO hg fun E' H' U hE hH' hnx => ?_
  rw [aU0]
  have hops := oCg hE
  refine aG (by simp [ho, Op.noDefer]) hN fun C a w hR => ?_
  obtain ⟨h1, h2⟩ := hR.opv (x := x) (by rw [hops x (by simp)]; exact hx)
  obtain ⟨h3, _⟩ := hR.opv (x := y) (by rw [hops y (by simp)]; exact hy)
  have hev : a.eval x = .pointer none := by
    generalize a.eval x = v at h1
    cases h1; rfl
  have hey : a.eval y = .int .i64 0 := by
    generalize a.eval y = v at h3
    cases h3; rfl
  have hr := Lib.run_unsafeString_none (P := P) w pt it o.type none
  exact ⟨trivial, .string .empty, by simp [execOp, ho, resolve, hc, hargs, hts, invoke, builtin, hev, hey, hr], .raw _⟩
def bldH (L : List UInt8) : Heap := if L = [] then [(2, .cells 144 [.raw (.pointer none), .raw (.slice none 0 0)])] else [(2, .cells 144 [.ptr 2 0, .ref 3]), (3, .row 5 1 (L.map byteAV))]
theorem bL_nil {s : ByteArray} : bL s = [] ↔ s.size = 0 := by rw [← List.length_eq_zero_iff, aK]
theorem frameTxt_sz {b : List Entry} (h : isB b = true) : (fTx b).size ≤ 4000 ∧ 1 ≤ (fTx b).size := by
  obtain ⟨hok, h1, h2⟩ := cK h
  have h3 := qV b ⟨#[]⟩ fun e he => by obtain ⟨_, _, _, _, _, _, r7, r8⟩ := eL (hok e he); exact ⟨r7, r8⟩
  have h4 := eM ((bTx b).size : Int)
  have h5 : (bTx b).size = (b.foldl mL ⟨#[]⟩).size := rfl
  have h6 : (⟨#[]⟩ : ByteArray).size = 0 := rfl
  unfold fTx; rw [if_pos h]; simp only [ByteArray.size_append, bD, mC]; omega
def xR (s : Store) : Store :=
  ⟨true, ⟨(gH (raI s.disk.log).1 s.disk.seq).2, (gH (raI s.disk.log).1 s.disk.seq).1, s.disk.levels, []⟩, ⟨qY (raI s.disk.log).1 s.disk.seq, ((qY (raI s.disk.log).1 s.disk.seq).size : Int), s.disk.levels, s.disk.seq⟩⟩
theorem fit1w {H H1 : Heap} {s : List (Nat × Nat)} {g : AObj} {nw : Nat} (hs : s = [] ∨ ∃ j, s = [(0, j)]) (ho : Abs.get H (sg s 0) = some (g.ren (sg s))) (hb : g.bel (UU 1)) (hk : ∀ i ∈ H1.map (·.1), i < 1 + nw) (ha : (Abs.get H1 0).isSome = true) (hf : nw ≤ 900) : FitC H s [(0, g)] 1 nw H1 where
  objs := ⟨ho, .inl (by omega), hb, trivial⟩
  inj := by simp
  cov := fun i hi => by have : i = 0 := by omega
                        subst this; rfl
  sk := fun p hp => by
    rcases hs with rfl | ⟨j, rfl⟩
    · cases hp
    rw [List.mem_singleton.1 hp]; rfl
  dom := fun p hp => by
    have := hk p.1 (List.mem_map.2 ⟨p, hp, rfl⟩)
    by_cases h : p.1 = 0
    · left; rw [h]; rfl
    exact .inr ⟨by omega, this⟩
  all := fun p hp => by rw [List.mem_singleton.1 hp]; exact ha
  far := by omega
theorem w_BString0  : aD P 127 [.ptr 0 0] [(0, rN)] 1 (.raw (.string ⟨#[]⟩)) [(0, rN)] 1 := by
 refine gq 14 [.tmp 2] Tryz.func127 ?_
 simp only [rN]; refine aj ?_
 refine sd mixed rfl fun _ k2 => ja ?_
 refine bQ (fun hN => lstep_sliceNil rfl rfl rfl rfl hN rfl) (.inl rfl) ?_
 simp only [go_sem]
 refine bQ (fun hN => lstep_unsafeNil rfl rfl rfl rfl rfl hN rfl rfl) (.inl rfl) ?_
 simp only [go_sem]; refine ⟨by rfl, ?_⟩
 refine k2 (wR ?_)
 refine ⟨[], ?_⟩
 simp only [go_sem, AObj.bel, AObj.ren, AV.ren, aA, sg] <;> simp
theorem w_BString2 (l : List UInt8) (h0 : l ≠ []) : aD P 127 [.ptr 0 0] [(0, iV 1), (1, aX l)] 2 (.raw (.string ⟨l.toArray⟩)) [(0, .cells 144 [.ptr 0 0, .sl 1 (l.map byteAV)]), (1, .dead)] 2 := by
 refine gq 14 [.tmp 2] Tryz.func127 ?_
 simp only [iV, aX]; refine aj ?_; refine sd mixed rfl fun _ k2 => ?_; simp only [go_sem, List.length_map]
 refine bQ (fun hN => uF (l := l) rfl rfl rfl rfl hN rfl rfl h0 (.inl (by decide))) (.inl rfl) ?_
 simp only [go_sem, List.length_map]
 refine bQ (fun hN => lstep_unsafeKeep (l := l) (m := 0) (jj := 1) rfl rfl rfl rfl rfl hN uPU ceU rfl rfl rfl h0 rfl rfl (by decide)) (.inr (by decide)) ?_
 simp only [go_sem, List.set_cons_succ, List.set_cons_zero, List.length_map]; refine ⟨by rfl, ?_⟩
 refine k2 (wR ?_)
 refine ⟨[], ?_⟩
 simp only [go_sem, AObj.bel, AObj.ren, AV.ren, aA, sg] <;> simp
theorem w_BLen2 (l : List UInt8) : aD P 126 [.ptr 0 0] [(0, .cells 144 [.ptr 0 0, .sl 1 (l.map byteAV)])] 1 (.raw (.int .i64 (l.length : Int))) [(0, .cells 144 [.ptr 0 0, .sl 1 (l.map byteAV)])] 1 := by
 refine gq 8 [.tmp 2] Tryz.func126 ?_
 refine aj ?_; refine sr rfl fun _ k2 => ?_; simp only [go_sem, List.length_map]
 refine k2 (wR ?_)
 refine ⟨[], ?_⟩
 simp only [go_sem, AObj.bel, AObj.ren, AV.ren, aA, sg] <;> simp
theorem w_impl_opened (s : Store) (hlog : s.disk.log.size ≤ 12000) : aB P 114 [stA s] [] 0 (stA (xR s)) := by
 refine pq 64 [.cell 2 40] Tryz.func114 ?_
 simp only [stA]
 have hb0 : bldH (bL (⟨#[]⟩ : ByteArray)) = [(2, .cells 144 [.raw (.pointer none), .raw (.slice none 0 0)])] := if_pos rfl
 have hbok := (qQ s.disk.log).1
 have hbl := (qQ s.disk.log).2
 refine aj ?_
 refine sr rfl fun _ k2 => ja ?_
 refine vq Tryz.func117 (sI s.disk.log (by omega)) (k2 ?_)
 refine aj ?_
 refine sq fun _ k4 => aj (wb ?_)
 refine wl (α := Nat × ByteArray) (fun x => x.1 ≤ (raI s.disk.log).1.length ∧ x.2.size ≤ 4000 * x.1 ∧ ((raI s.disk.log).1.drop x.1).foldl (bZ s.disk.seq) x.2 = qY (raI s.disk.log).1 s.disk.seq) (fun x => (raI s.disk.log).1.length - x.1) (fun x => ([(1, .ptr 0 0), (2, .ptr 1 0), (3, .sl 1 ((raI s.disk.log).1.map esA)), (5, .ptr 2 0), (18, .sl 1 ((raI s.disk.log).1.map esA)), (19, .raw (.int .i64 ((raI s.disk.log).1.length : Int))), (20, .raw (.int .i64 (x.1 : Int)))], [(0, .cells 40 [.raw (.bool s.up), .raw (.int .i64 s.tree.seq), .sl 5 (s.tree.mem.map enA), .sl 1 (s.tree.levels.map rsA), .sl 1 (s.tree.snaps.map inA), .raw (.string s.disk.log), .raw (.int .i64 s.disk.safe), .sl 1 (s.disk.levels.map rsA), .raw (.int .i64 s.disk.seq)]), (1, .cells 40 [.raw (.bool false), .raw (.int .i64 0), .raw (.slice none 0 0), .raw (.slice none 0 0), .raw (.slice none 0 0), .raw (.string ⟨#[]⟩), .raw (.int .i64 0), .raw (.slice none 0 0), .raw (.int .i64 0)])] ++ bldH (bL x.2) ++ [])) 4 (0, ⟨#[]⟩) ⟨Nat.zero_le _, Nat.zero_le _, rfl⟩ [] ?_ ?_
 · simp only [hb0, List.cons_append, List.nil_append, List.append_nil, go_sem, AObj.bel, Int.natCast_zero] <;> simp
 rintro ⟨i, L⟩ ⟨hi, hL, hfold⟩
 simp only at hi hL hfold ⊢
 rcases Nat.eq_zero_or_pos L.size with hLz | hLz
 · have hbh : bldH (bL L) = [(2, .cells 144 [.raw (.pointer none), .raw (.slice none 0 0)])] := if_pos (bL_nil.2 hLz)
   have hLe : L = ⟨#[]⟩ := by rw [← pE L, bL_nil.2 hLz]
   have hLb : bL L = [] := bL_nil.2 hLz
   simp only [hbh, List.cons_append, List.nil_append, List.append_nil]; refine aj ?_; refine sq fun _ k7 => ?_
   refine cdS rfl (fun hc1 => ?_) fun hc1 => ?_
   · have hge : (raI s.disk.log).1.length ≤ i := by have h9 : ¬ i < (raI s.disk.log).1.length := (by simpa using hc1); omega
     rw [List.drop_eq_nil_of_le hge, List.foldl_nil] at hfold; subst hLe
     refine we (jt (k4 ?_))
     refine sr rfl fun _ k11 => ja ?_
     refine vq Tryz.func118 (qL (raI s.disk.log).1 s.disk.seq (tF hlog)) (k11 ?_)
     refine aj ?_
     refine sr rfl fun _ k13 => ja ?_
     refine vg [(0, 2)] 0 rfl rfl rfl ⟨Tryz.func127, rfl, rfl⟩ (w_BString0) rfl (by simp only [go_sem, AV.ren, aA, sg] <;> simp [Abs.get]) (by simp only [go_sem]) (mD (H1 := []) (.inr ⟨2, rfl⟩) (by simp only [go_sem, rN, sg, AObj.ren, AV.ren, aA] <;> simp [Abs.get]) (by simp only [go_sem, AObj.bel, rN])) (.inl rfl) ?_
     simp only [go_sem, AV.ren, AObj.ren, aA, shift, sg, Nat.le_refl, Nat.add_zero, Nat.sub_self, rN, iV, aX]
     refine k13 (sr rfl fun _ k14 => (ja ?_))
     refine vg [(0, 2)] 0 rfl rfl rfl ⟨Tryz.func126, rfl, rfl⟩ (w_BLen0) rfl (by simp only [go_sem, AV.ren, aA, sg] <;> simp [Abs.get]) (by simp only [go_sem]) (mD (H1 := []) (.inr ⟨2, rfl⟩) (by simp only [go_sem, rN, sg, AObj.ren, AV.ren, aA] <;> simp [Abs.get]) (by simp only [go_sem, AObj.bel, rN])) (.inl rfl) ?_
     simp only [go_sem, AV.ren, AObj.ren, aA, shift, sg, Nat.le_refl, Nat.add_zero, Nat.sub_self, rN, iV, aX]
     refine k14 (aj ?_)
     refine aj ?_
     refine cG 1 (ds := [.raw (.bool true), .raw (.int .i64 (gH (raI s.disk.log).1 s.disk.seq).2), .sl 5 ((gH (raI s.disk.log).1 s.disk.seq).1.map enA), .sl 1 (s.disk.levels.map rsA), .sl 1 [], .raw (.string ⟨#[]⟩), .raw (.int .i64 0), .sl 1 (s.disk.levels.map rsA), .raw (.int .i64 s.disk.seq)]) rfl (by repeat (first | exact LeL.nil | refine LeL.cons (by first | exact Le.refl _ | exact Le.nil _) ?_)) (by simp only [go_sem]) ?_
     simp only [go_sem]; refine wR ?_
     have h9 : qY (raI s.disk.log).1 s.disk.seq = ⟨#[]⟩ := hfold.symm
     refine fO ?_ (dN _ _)
     simp only [go_sem, xR, h9, stA, List.map_nil]; rfl
   have hlt : i < (raI s.disk.log).1.length := by simpa using hc1
   obtain ⟨l, hl, hdrop, hml⟩ := ix hlt
   have hib := hbok l hml
   obtain ⟨hok, hb1, hb2⟩ := cK hib
   obtain ⟨hf1, hf2⟩ := frameTxt_sz hib
   have hpv : l[l.length - 1]? = some (iO l) := by unfold iO; rw [List.getElem?_eq_getElem (by omega)]; rfl
   have hw6 : IntKind.i64.wrap ((l.length : Int) - 1) = (l.length : Int) - 1 := by rw [w64]; omega
   have hpn : ((l.length : Int) - 1).toNat = l.length - 1 := by omega
   have hbn : bldH (bL (L ++ fTx l)) = [(2, .cells 144 [.ptr 2 0, .ref 3]), (3, .row 5 1 ((bL (L ++ fTx l)).map byteAV))] := if_neg (by rw [bL_nil, ByteArray.size_append]; omega)
   refine wk (k7 (sq fun _ k8 => (wb (sr rfl fun _ k9 => ?_))))
   simp only [go_sem, hl, esA]
   refine jr (k9 ?_)
   refine sd mixed rfl fun _ k10 => ?_; simp only [go_sem, hw6, hpn, hpv, enA, List.length_map]; refine jr ?_; refine ⟨by rfl, ?_⟩; apply k10
   refine cdS rfl (fun hc2 => ?_) fun hc2 => ?_
   · have hgt : ¬ s.disk.seq < (iO l).seq := by simpa using hc2
     have hst : bZ s.disk.seq L l = L := by unfold bZ; rw [if_neg hgt]
     refine wk (jt (k8 ?_))
     refine jw (wiS i (by omega)) ?_
     refine jt ?_
     refine ⟨(i + 1, L), ⟨by omega, by simp only; omega, by rw [hdrop, List.foldl_cons, hst] at hfold; exact hfold⟩, by omega, [], ?_⟩
     simp only [go_sem, AObj.bel, AObj.ren, AV.ren, aA, sg, hbh, List.cons_append, List.nil_append, List.append_nil] <;> simp
   have hgt : s.disk.seq < (iO l).seq := by simpa using hc2
   have hst : bZ s.disk.seq L l = L ++ fTx l := by unfold bZ; rw [if_pos hgt]
   refine wg rfl ?_; simp only [go_sem]
   refine vq Tryz.func72 (mH l (by exact ⟨by omega, fun e he => ⟨by have := (eG (hok e he)).1; omega, by have := (eG (hok e he)).2; omega⟩⟩)) ?_
   refine vg [(0, 2)] 1 rfl rfl rfl ⟨Tryz.func124, rfl, rfl⟩ (w_WriteString0 (fTx l) (by omega)) rfl (by simp only [go_sem, AV.ren, aA, sg] <;> simp [Abs.get]) (by simp only [go_sem]) (fit1w (.inr ⟨2, rfl⟩) (by simp only [go_sem, rN, sg, AObj.ren, AV.ren, aA] <;> simp [Abs.get]) (by simp only [go_sem, AObj.bel, rN]) (by simp) rfl (by decide)) (.inr (by decide)) ?_
   simp only [go_sem, AV.ren, AObj.ren, aA, shift, sg, Nat.le_refl, Nat.add_zero, Nat.sub_self, rN, iV, aX]
   refine jt (k8 ?_)
   refine jw (wiS i (by omega)) ?_
   refine jt ?_
   refine ⟨(i + 1, L ++ fTx l), ⟨by omega, by simp only [ByteArray.size_append]; omega, by rw [hdrop, List.foldl_cons, hst] at hfold; exact hfold⟩, by omega, [(3, 4)], ?_⟩
   simp only [go_sem, AObj.bel, AObj.ren, AV.ren, aA, sg, hbn, List.cons_append, List.nil_append, List.append_nil] <;> simp [rM, hLb, Abs.get, sg]
   rfl
 have hLn : bL L ≠ [] := fun h => by rw [bL_nil] at h; omega
 have hbh : bldH (bL L) = [(2, .cells 144 [.ptr 2 0, .ref 3]), (3, .row 5 1 ((bL L).map byteAV))] := if_neg hLn
 simp only [hbh, List.cons_append, List.nil_append, List.append_nil]; refine aj ?_; refine sq fun _ k18 => ?_
 refine cdS rfl (fun hc3 => ?_) fun hc3 => ?_
 · have hge : (raI s.disk.log).1.length ≤ i := by have h9 : ¬ i < (raI s.disk.log).1.length := (by simpa using hc3); omega
   rw [List.drop_eq_nil_of_le hge, List.foldl_nil] at hfold
   have hLm : (⟨(bL L).toArray⟩ : ByteArray) = L := pE L
   refine we (jt (k4 ?_))
   refine sr rfl fun _ k22 => ja ?_
   refine vq Tryz.func118 (qL (raI s.disk.log).1 s.disk.seq (tF hlog)) (k22 ?_)
   refine aj ?_
   refine sr rfl fun _ k24 => ja ?_
   refine vg [(0, 2), (1, 3)] 0 rfl rfl rfl ⟨Tryz.func127, rfl, rfl⟩ (w_BString2 (bL L) hLn) rfl (by simp only [go_sem, AV.ren, aA, sg] <;> simp [Abs.get]) (by simp only [go_sem]) (fit2 (.inr ⟨2, 3, by decide, rfl⟩) (by simp only [go_sem, iV, aX, sg, AObj.ren, AV.ren, aA] <;> simp [Abs.get]) (by simp only [go_sem, iV, aX, sg, AObj.ren, AV.ren, aA] <;> simp [Abs.get]) (by simp only [go_sem, AObj.bel, iV, aX] <;> simp) (by simp only [go_sem, AObj.bel, iV, aX]) (by simp) ⟨rfl, rfl⟩ (by decide)) (.inl rfl) ?_
   simp only [go_sem, AV.ren, AObj.ren, aA, shift, sg, Nat.le_refl, Nat.add_zero, Nat.sub_self, iV, aX]
   refine k24 (sr rfl fun _ k25 => (ja ?_))
   refine vg [(0, 2)] 0 rfl rfl rfl ⟨Tryz.func126, rfl, rfl⟩ (w_BLen2 (bL L)) rfl (by simp only [go_sem, AV.ren, aA, sg] <;> simp [Abs.get]) (by simp only [go_sem]) (mD (H1 := []) (.inr ⟨2, rfl⟩) (by simp only [go_sem, sg, AObj.ren, AV.ren, aA] <;> simp [Abs.get]) (by simp only [go_sem, AObj.bel] <;> simp)) (.inl rfl) ?_
   simp only [go_sem, AV.ren, AObj.ren, aA, shift, sg, Nat.le_refl, Nat.add_zero, Nat.sub_self, aK]
   refine k25 (aj ?_)
   refine aj ?_
   refine cG 1 (ds := [.raw (.bool true), .raw (.int .i64 (gH (raI s.disk.log).1 s.disk.seq).2), .sl 5 ((gH (raI s.disk.log).1 s.disk.seq).1.map enA), .sl 1 (s.disk.levels.map rsA), .sl 1 [], .raw (.string L), .raw (.int .i64 (L.size : Int)), .sl 1 (s.disk.levels.map rsA), .raw (.int .i64 s.disk.seq)]) rfl (by repeat (first | exact LeL.nil | refine LeL.cons (by first | exact Le.refl _ | exact Le.nil _) ?_)) (by simp only [go_sem]) ?_
   simp only [go_sem]; refine wR ?_
   have h9 : qY (raI s.disk.log).1 s.disk.seq = L := hfold.symm
   refine fO ?_ (dN _ _)
   simp only [go_sem, xR, h9, stA, List.map_nil]
 have hlt : i < (raI s.disk.log).1.length := by simpa using hc3
 obtain ⟨l, hl, hdrop, hml⟩ := ix hlt
 have hib := hbok l hml
 obtain ⟨hok, hb1, hb2⟩ := cK hib
 obtain ⟨hf1, hf2⟩ := frameTxt_sz hib
 have hpv : l[l.length - 1]? = some (iO l) := by unfold iO; rw [List.getElem?_eq_getElem (by omega)]; rfl
 have hw6 : IntKind.i64.wrap ((l.length : Int) - 1) = (l.length : Int) - 1 := by rw [w64]; omega
 have hpn : ((l.length : Int) - 1).toNat = l.length - 1 := by omega
 have hbn : bldH (bL (L ++ fTx l)) = [(2, .cells 144 [.ptr 2 0, .ref 3]), (3, .row 5 1 ((bL (L ++ fTx l)).map byteAV))] := if_neg (by rw [bL_nil, ByteArray.size_append]; omega)
 refine wk (k18 (sq fun _ k19 => (wb (sr rfl fun _ k20 => ?_))))
 simp only [go_sem, hl, esA]
 refine jr (k20 ?_)
 refine sd mixed rfl fun _ k21 => ?_; simp only [go_sem, hw6, hpn, hpv, enA, List.length_map]; refine jr ?_; refine ⟨by rfl, ?_⟩; apply k21
 refine cdS rfl (fun hc4 => ?_) fun hc4 => ?_
 · have hgt : ¬ s.disk.seq < (iO l).seq := by simpa using hc4
   have hst : bZ s.disk.seq L l = L := by unfold bZ; rw [if_neg hgt]
   refine wk (jt (k19 ?_))
   refine jw (wiS i (by omega)) ?_
   refine jt ?_
   refine ⟨(i + 1, L), ⟨by omega, by simp only; omega, by rw [hdrop, List.foldl_cons, hst] at hfold; exact hfold⟩, by omega, [], ?_⟩
   simp only [go_sem, AObj.bel, AObj.ren, AV.ren, aA, sg, hbh, List.cons_append, List.nil_append, List.append_nil] <;> simp
 have hgt : s.disk.seq < (iO l).seq := by simpa using hc4
 have hst : bZ s.disk.seq L l = L ++ fTx l := by unfold bZ; rw [if_pos hgt]
 refine wg rfl ?_; simp only [go_sem]
 refine vq Tryz.func72 (mH l (by exact ⟨by omega, fun e he => ⟨by have := (eG (hok e he)).1; omega, by have := (eG (hok e he)).2; omega⟩⟩)) ?_
 refine vg [(0, 2), (1, 3)] 1 rfl rfl rfl ⟨Tryz.func124, rfl, rfl⟩ (vB (bL L) (fTx l) (by rw [aK]; omega)) rfl (by simp only [go_sem, AV.ren, aA, sg] <;> simp [Abs.get]) (by simp only [go_sem]) (fit2 (.inr ⟨2, 3, by decide, rfl⟩) (by simp only [go_sem, iV, aX, sg, AObj.ren, AV.ren, aA] <;> simp [Abs.get]) (by simp only [go_sem, iV, aX, sg, AObj.ren, AV.ren, aA] <;> simp [Abs.get]) (by simp only [go_sem, AObj.bel, iV, aX] <;> simp) (by simp only [go_sem, AObj.bel, iV, aX]) (by simp) ⟨rfl, rfl⟩ (by decide)) (.inr (by decide)) ?_
 simp only [go_sem, AV.ren, AObj.ren, aA, shift, sg, Nat.le_refl, Nat.add_zero, Nat.sub_self, iV, aX]
 refine jt (k19 ?_)
 refine jw (wiS i (by omega)) ?_
 refine jt ?_
 refine ⟨(i + 1, L ++ fTx l), ⟨by omega, by simp only [ByteArray.size_append]; omega, by rw [hdrop, List.foldl_cons, hst] at hfold; exact hfold⟩, by omega, [(3, 4)], ?_⟩
 simp only [go_sem, AObj.bel, AObj.ren, AV.ren, aA, sg, hbn, List.cons_append, List.nil_append, List.append_nil] <;> simp [rM, Abs.get, sg]
 rfl
end
theorem fg_small (seq : Int) : ∀ (bs : List (List Entry)) (st : List Entry × Int), (∀ b ∈ bs, b.length ≤ 12 ∧ ∀ e ∈ b, e.key.size ≤ 1048576 ∧ e.text.size ≤ 1048576) → (∀ e ∈ st.1, e.key.size ≤ 1048576 ∧ e.text.size ≤ 1048576) → (bs.foldl (lT seq) st).1.length ≤ st.1.length + 12 * bs.length ∧ ∀ e ∈ (bs.foldl (lT seq) st).1, e.key.size ≤ 1048576 ∧ e.text.size ≤ 1048576 := by
  have row : ∀ (b : List Entry) (st : List Entry × Int), (∀ e ∈ b, e.key.size ≤ 1048576 ∧ e.text.size ≤ 1048576) → (∀ e ∈ st.1, e.key.size ≤ 1048576 ∧ e.text.size ≤ 1048576) → (lT seq st b).1.length ≤ st.1.length + b.length ∧ ∀ e ∈ (lT seq st b).1, e.key.size ≤ 1048576 ∧ e.text.size ≤ 1048576 := by
    intro b
    induction b with
    | nil => intro st _ h; exact ⟨by simp [lT], h⟩
    | cons x r ih =>
      intro st hb h
      have h1 := fgStep_len seq st x
      have h2 : ∀ e ∈ (jO seq st x).1, e.key.size ≤ 1048576 ∧ e.text.size ≤ 1048576 := fun e he => by
        unfold jO at he; split at he
        · rcases List.mem_append.1 he with h3 | h3
          · exact h e h3
          rw [List.mem_singleton.1 h3]; exact hb x List.mem_cons_self
        exact h e he
      have h3 := ih (jO seq st x) (fun e he => hb e (List.mem_cons_of_mem _ he)) h2
      simp only [lT, List.foldl_cons, List.length_cons] at h3 ⊢
      exact ⟨by omega, h3.2⟩
  intro bs
  induction bs with
  | nil => intro st _ h; exact ⟨by simp, h⟩
  | cons b r ih =>
    intro st hb h
    have h1 := row b st (hb b List.mem_cons_self).2 h
    have h2 := ih (lT seq st b) (fun x hx => hb x (List.mem_cons_of_mem _ hx)) h1.2
    have h3 := (hb b List.mem_cons_self).1
    simp only [List.foldl_cons, List.length_cons]
    exact ⟨by omega, h2.2⟩
theorem freshI_small {s : ByteArray} (hs : s.size ≤ 12000) (seq : Int) : gD (gH (raI s).1 seq).1 := by
  obtain ⟨h1, h2⟩ := qQ s
  have h3 := fg_small seq (raI s).1 ([], seq) (fun b hb => ⟨(cK (h1 b hb)).2.2, fun e he => eG ((cK (h1 b hb)).1 e he)⟩) (by simp)
  simp only [List.length_nil, Nat.zero_add] at h3
  unfold gH
  refine ⟨?_, fun e he => h3.2 e ((mQ _).mem_iff.1 he)⟩
  rw [wV]; omega
def vT (s : Store) : Bool := (!dG s.tree || !decide (s.tree.levels = s.disk.levels)) || decide (s.tree.seq < s.disk.seq)
def upI (s : Store) : Bool := if vT s = true then false else if ((raI s.disk.log).2 : Int) ≠ (s.disk.log.size : Int) then false else decide ((gH (raI s.disk.log).1 s.disk.seq).2 = s.tree.seq) && decide ((gH (raI s.disk.log).1 s.disk.seq).1 = s.tree.mem)
def rD (s : Store) : Bool := if nP s.disk = false then false else upI s
def aM (s : Store) : Bool := if nP s.disk = false then false else if s.up = true then upI s else gP s.tree gE && rD (xR s)
theorem dkOk_log {d : Disk} (h : nP d = true) : d.log.size ≤ 12000 := by
  unfold nP at h; split at h
  · cases h
  rename_i h1; omega
theorem mxLvs_of {ls : List (List Run)} (h : mR ls) : mxLvs ls := by
  refine ⟨by have := h.1; omega, fun rs hrs => ?_⟩
  have h1 := h.2 rs hrs
  exact ⟨by have := h1.1; omega, fun r hr => ⟨by have := (h1.2 r hr).1; omega, fun e he => ⟨by have := ((h1.2 r hr).2 e he).1; omega, by have := ((h1.2 r hr).2 e he).2; omega⟩⟩⟩
theorem mxTree_of {t : Tree} (h : gN t) : mxTree t := ⟨⟨by have := h.1.1; omega, fun e he => ⟨by have := (h.1.2 e he).1; omega, by have := (h.1.2 e he).2; omega⟩⟩, mxLvs_of h.2.1, by have := h.2.2; omega⟩
theorem w_TreeSame_z (t : Tree) (hs : gN t) : aB P 113 [trA t, .agg [.raw (.int .i64 0), .raw (.slice none 0 0), .raw (.slice none 0 0), .raw (.slice none 0 0)]] [] 0 (.raw (.bool (gP t gE))) :=
  (w_impl_TreeSame t gE (mxTree_of hs)).args_le (LeL.cons (.refl _) (LeL.cons (Le.aggL (LeL.cons (.refl _) (LeL.cons (.nil _) (LeL.cons (.nil _) (LeL.cons (.nil _) LeL.nil))))) LeL.nil)) ⟨lJ _ _, lJ _ _, trivial⟩
theorem sStore_open {s : Store} (hs : bM s) (hlog : s.disk.log.size ≤ 12000) : bM (xR s) := by
  have h1 := freshI_small hlog s.disk.seq
  have h2 := hs.2
  unfold bM gN xR
  generalize gH (raI s.disk.log).1 s.disk.seq = f at h1 ⊢
  exact ⟨⟨h1, h2, Nat.zero_le _⟩, h2⟩
theorem w_StoreOk_up (s : Store) (hs : bM s) (hup : s.up = true) : aB P 68 [stA s] [] 0 (.raw (.bool (rD s))) := by
 refine pq 79 [.tmp 2] Tryz.func68 ?_
 simp only [stA]; refine aj ?_
 refine sq fun _ k2 => sr rfl fun _ k3 => ja ?_
 refine vr rfl rfl rfl Tryz.func112 (xZ s.disk hs.2) (by simp only [go_sem, dkA]) (by simp only [go_sem, dkA]) (k3 ?_)
 refine cd rfl (fun hc1 => ?_) fun hc1 => ?_
 · have hd : nP s.disk = false := by simpa using hc1
   have h9 : rD s = false := by unfold rD; rw [if_pos hd]
   refine aj (wR ?_)
   refine fO ?_ trivial; simp only [go_sem, h9]
 have hd : nP s.disk = true := by simpa using hc1
 have hlog := dkOk_log hd
 refine wk (k2 (sq fun _ k5 => (aj ?_)))
 refine cd rfl (fun hc2 => ?_) fun hc2 => ?_
 · exfalso
   rw [hup] at hc2; simp at hc2
 refine wk (k5 (sq fun _ k7 => (sr rfl fun _ k8 => (ja ?_))))
 refine vr rfl rfl rfl Tryz.func115 (xS s.tree hs.1) (by simp only [go_sem, trA]) (by simp only [go_sem, trA]) ?_
 refine vpg rfl rfl rfl rfl rfl rfl ⟨Tryz.func116, rfl, rfl⟩ (fun hg => rB s.tree.levels s.disk.levels (mxLvs_of hs.1.2.1)) (by simp only [go_sem]) (fun hg => (by simp only [go_sem])) (by simp only [go_sem]) trivial ?_
 simp only [go_sem]; apply k8
 refine cd rfl (fun hc3 => ?_) fun hc3 => ?_
 · have hb : vT s = true := hc3
   have h9 : rD s = false := by unfold rD upI; rw [if_neg (by rw [hd]; simp), if_pos hb]
   refine aj (wR ?_)
   refine fO ?_ trivial; simp only [go_sem, h9]
 have hb : vT s = false := hc3
 refine wk (k7 (sr rfl fun _ k10 => (ja ?_)))
 refine vq Tryz.func117 (sI s.disk.log (by omega)) (k10 ?_)
 refine sq fun _ k11 => aj ?_
 refine cd rfl (fun hc4 => ?_) fun hc4 => ?_
 · have hn : ((raI s.disk.log).2 : Int) ≠ (s.disk.log.size : Int) := by simpa using hc4
   have h9 : rD s = false := by unfold rD upI; rw [if_neg (by rw [hd]; simp), if_neg (by rw [hb]; simp), if_pos hn]
   refine aj (wR ?_)
   refine fO ?_ trivial; simp only [go_sem, h9]
 have hn : ¬ ((raI s.disk.log).2 : Int) ≠ (s.disk.log.size : Int) := by simpa using hc4
 have h9 : rD s = (decide ((gH (raI s.disk.log).1 s.disk.seq).2 = s.tree.seq) && decide ((gH (raI s.disk.log).1 s.disk.seq).1 = s.tree.mem)) := by unfold rD upI; rw [if_neg (by rw [hd]; simp), if_neg (by rw [hb]; simp), if_neg hn]
 refine wk (k11 (sr rfl fun _ k14 => (ja ?_)))
 refine vq Tryz.func118 (qL (raI s.disk.log).1 s.disk.seq (tF hlog)) (k14 ?_)
 refine sr rfl fun _ k15 => ja ?_
 refine vpg rfl rfl rfl rfl rfl rfl ⟨Tryz.func119, rfl, rfl⟩ (fun hg => bN (gH (raI s.disk.log).1 s.disk.seq).1 s.tree.mem (by have := (freshI_small hlog s.disk.seq).1; omega)) (by simp only [go_sem]) (fun hg => (by simp only [go_sem])) (by simp only [go_sem]) trivial ?_
 simp only [go_sem]
 refine k15 (wR (fO ?_ trivial))
 simp only [go_sem, h9]
theorem w_StoreOk_dn (s : Store) (hs : bM s) (hup : s.up = false) : aB P 68 [stA s] [] 0 (.raw (.bool (aM s))) := by
 refine pq 79 [.tmp 2] Tryz.func68 ?_
 simp only [stA]; refine aj ?_
 refine sq fun _ k2 => sr rfl fun _ k3 => ja ?_
 refine vr rfl rfl rfl Tryz.func112 (xZ s.disk hs.2) (by simp only [go_sem, dkA]) (by simp only [go_sem, dkA]) (k3 ?_)
 refine cd rfl (fun hc1 => ?_) fun hc1 => ?_
 · have hd : nP s.disk = false := by simpa using hc1
   have h9 : aM s = false := by unfold aM; rw [if_pos hd]
   refine aj (wR ?_)
   refine fO ?_ trivial; simp only [go_sem, h9]
 have hd : nP s.disk = true := by simpa using hc1
 have hlog := dkOk_log hd
 refine wk (k2 (sq fun _ k5 => (aj ?_)))
 refine cdS rfl (fun hc2 => ?_) fun hc2 => ?_
 · exfalso
   rw [hup] at hc2; simp at hc2
 have h9 : aM s = (gP s.tree gE && rD (xR s)) := by unfold aM; rw [if_neg (by rw [hd]; simp), if_neg (by rw [hup]; simp)]
 refine sr rfl fun _ k7 => ja ?_
 refine vr rfl rfl rfl Tryz.func113 (w_TreeSame_z s.tree hs.1) (by simp only [go_sem, trA]) (by simp only [go_sem, trA]) ?_
 refine vpg rfl rfl rfl rfl rfl rfl ⟨Tryz.func114, rfl, rfl⟩ (fun hg => w_impl_opened s hlog) (by simp only [go_sem]) (fun hg => (by simp only [go_sem, stA])) (by simp only [go_sem, stA]) (dN _ _) ?_
 simp only [go_sem]
 refine vpg rfl rfl rfl rfl rfl rfl ⟨Tryz.func68, rfl, rfl⟩ (fun hg => w_StoreOk_up (xR s) (sStore_open hs hlog) rfl) (by simp only [go_sem]) (fun hg => (by simp only [go_sem, stA])) (by simp only [go_sem, stA]) trivial ?_
 simp only [go_sem]
 refine k7 (wR (fO ?_ trivial))
 simp only [go_sem, h9]
theorem w_StoreOk (s : Store) (hs : bM s) : aB P 68 [stA s] [] 0 (.raw (.bool (aM s))) := by
  cases h : s.up
  · exact w_StoreOk_dn s hs h
  have := w_StoreOk_up s hs h
  rwa [show rD s = aM s by unfold rD aM; rw [h]; simp] at this
end Go.Proofs.S
end
