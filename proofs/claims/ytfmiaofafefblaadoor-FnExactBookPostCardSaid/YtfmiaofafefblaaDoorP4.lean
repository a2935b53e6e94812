/-
  The abstract layer and the walks that the claim leans on, part 4 of 6 (merged out of the working texts Abs35, Abs36, T8, C1, C2, C3, C4, C5, C6, C7, C8, C9, C10). It proves lemmas alone; no condition of its own.
-/
import Derived.Test.YtfmiaofafefblaaDoorP3
import Derived.Laws.BytesString
import Derived.Test.YtfmiaofafefblaaDoorProg
import Derived.KernelRfl
import Derived.WalkKit
import Derived.LaidEql
import Derived.Stop.Asserts
import Derived.RowKitTokens
import Derived.Laws.Cells
set_option linter.all false

/- Abs35 -/
section
/- The abstract layer, thirty-fifth part: a slice within a row, taken out and put back; a byte made a string. -/
set_option linter.unusedVariables false
set_option linter.unusedSimpArgs false
namespace Go.Abs
open Go

theorem set_get_ne {α : Type} {xs : List α} {j k : Nat} {y : α} (h : k ≠ j) : (xs.set j y)[k]? = xs[k]? := by
  rw [List.getElem?_set, if_neg (fun e => h e.symm)]
theorem set_get_eq {α : Type} {xs : List α} {j : Nat} {x y : α} (h : xs[j]? = some x) : (xs.set j y)[j]? = some y := by
  rw [List.getElem?_set, if_pos rfl, if_pos (List.getElem?_eq_some_iff.1 h).1]

theorem mem_flat_upd {n j : Nat} {f : Nat → List Nat} {g : List Nat} {b : Nat} (h : b ∈ flat n fun k => if k = j then g else f k) (hg : ∀ b, b ∈ g → b ∈ f j) : b ∈ flat n f := by
  obtain ⟨k, hk, hb⟩ := mem_flat.1 h
  by_cases e : k = j
  · rw [if_pos e] at hb
    exact mem_flat.2 ⟨k, hk, by rw [e]; exact hg b hb⟩
  · rw [if_neg e] at hb
    exact mem_flat.2 ⟨k, hk, hb⟩
theorem flat_upd_nodup {n j : Nat} {f : Nat → List Nat} {g : List Nat} (h : (flat n f).Nodup) (hg : ∀ b, b ∈ g → b ∈ f j) (hgn : g.Nodup) : (flat n fun k => if k = j then g else f k).Nodup := by
  rw [flat_nodup] at h ⊢
  refine ⟨fun k hk => ?_, fun k l hk hl hne b hb hb' => ?_⟩
  · split
    · exact hgn
    · exact h.1 k hk
  · refine h.2 k l hk hl hne b ?_ ?_
    · split at hb
      · rename_i e; rw [e]; exact hg b hb
      · exact hb
    · split at hb'
      · rename_i e; rw [e]; exact hg b hb'
      · exact hb'

/-- A slice that a row owns, taken out. -/
theorem RepO.split {ρ : Nat → Value} {av : Nat → Prop} {hp : Array Obj} {e sz : Nat} {xs : List AV} {v : Value} {ow : List Nat} {j q e' sz' : Nat} {cs ys : List AV} {U : Nat → Prop} (h : RepO ρ av hp (.own e sz xs) v ow) (hnd : ow.Nodup) (hb : belL U xs)
    (hj : xs[j]? = some (.agg cs)) (hq : cs[q]? = some (.own e' sz' ys)) :
    ∃ u ow1 ow2, RepO ρ av hp (.own e' sz' ys) u ow2 ∧ u.oneCell' = true ∧ ow1.Nodup ∧ ow2.Nodup ∧ (∀ b, b ∈ ow1 → b ∈ ow) ∧ (∀ b, b ∈ ow2 → b ∈ ow) ∧ (∀ b, b ∈ ow1 → b ∉ ow2) ∧
      ∀ (ρ' : Nat → Value) (n : Nat), (∀ i, U i → ρ' i = ρ i) → ρ' n = u → RepO ρ' av hp (.own e sz (xs.set j (.agg (cs.set q (.ref n))))) v ow1 := by
  have hjl := (List.getElem?_eq_some_iff.1 hj).1
  have hql := (List.getElem?_eq_some_iff.1 hq).1
  cases h with
  | leaf _ _ h => cases h
  | own0 => simp at hj
  | own _ _ _ b c cells vals ows hh hs hc hm hx hcells =>
    obtain ⟨vs, ows', hvj, hvn, hoj, hvx⟩ := (hx j _ hj).agg_inv
    have hqx := hvx q _ hq
    obtain ⟨hn1, hn2⟩ := List.nodup_cons.1 hnd
    have hnj : (flat cs.length ows').Nodup := by rw [← hoj]; exact (flat_nodup.1 hn2).1 j hjl
    have hinj : ∀ b', b' ∈ (flat cs.length fun q2 => if q2 = q then [] else ows' q2) → b' ∈ ows j := fun b' hb' => by rw [hoj]; exact mem_flat_upd hb' (by simp)
    have hq2 : ∀ b', b' ∈ ows' q → b' ∈ flat xs.length ows := fun b' hb' => mem_flat.2 ⟨j, hjl, by rw [hoj]; exact mem_flat.2 ⟨q, hql, hb'⟩⟩
    refine ⟨vs.getD q undef, b :: flat xs.length (fun k => if k = j then (flat cs.length fun q2 => if q2 = q then [] else ows' q2) else ows k), ows' q, hqx, ?_, ?_, (flat_nodup.1 hnj).1 q hql, ?_, ?_, ?_, ?_⟩
    · clear hnj hinj hq2
      generalize vs.getD q undef = u0 at hqx ⊢
      generalize ows' q = oo at hqx
      cases hqx with
      | leaf _ _ h => cases h
      | own0 => rfl
      | own => rfl
    · refine List.nodup_cons.2 ⟨fun hb' => hn1 (mem_flat_upd hb' hinj), flat_upd_nodup hn2 hinj (flat_upd_nodup hnj (by simp) List.nodup_nil)⟩
    · intro b' hb'
      rcases List.mem_cons.1 hb' with e1 | e1
      · rw [e1]; exact List.mem_cons_self
      · exact List.mem_cons_of_mem _ (mem_flat_upd e1 hinj)
    · exact fun b' hb' => List.mem_cons_of_mem _ (hq2 b' hb')
    · intro b' hb' hb2
      rcases List.mem_cons.1 hb' with e1 | e1
      · rw [e1] at hb2; exact hn1 (hq2 b hb2)
      · obtain ⟨k, hk, hbk⟩ := mem_flat.1 e1
        by_cases ek : k = j
        · rw [if_pos ek] at hbk
          obtain ⟨q2, hq2l, hbq⟩ := mem_flat.1 hbk
          by_cases eq : q2 = q
          · rw [if_pos eq] at hbq; cases hbq
          · rw [if_neg eq] at hbq
            exact (flat_nodup.1 hnj).2 q2 q hq2l hql eq b' hbq hb2
        · rw [if_neg ek] at hbk
          exact (flat_nodup.1 hn2).2 k j hk hjl ek b' hbk (by rw [hoj]; exact mem_flat.2 ⟨q, hql, hb2⟩)
    · intro ρ' n hρ hn
      have hlen : (xs.set j (.agg (cs.set q (.ref n)))).length = xs.length := List.length_set ..
      have := RepO.own (ρ := ρ') (av := av) (hp := hp) e sz (xs.set j (.agg (cs.set q (.ref n)))) b c cells vals (fun k => if k = j then (flat cs.length fun q2 => if q2 = q then [] else ows' q2) else ows k) hh hs (by rw [hlen]; exact hc) hm (fun k x hk => ?_) (by rw [hlen]; exact hcells)
      · rw [hlen] at this; exact this
      · by_cases ek : k = j
        · subst ek
          rw [set_get_eq hj] at hk
          cases hk
          simp only [if_true]
          rw [hvj]
          have hlc : (cs.set q (.ref n)).length = cs.length := List.length_set ..
          have hbc : belL U cs := belL_get hb hj
          have := RepO.agg (ρ := ρ') (av := av) (hp := hp) (cs.set q (.ref n)) vs (fun q2 => if q2 = q then [] else ows' q2) (by rw [hlc]; exact hvn) (fun q2 y hy => ?_)
          · rw [hlc] at this; exact this
          · by_cases eq : q2 = q
            · subst eq
              rw [set_get_eq hq] at hy
              cases hy
              simp only [if_true]
              refine .leaf _ _ ?_
              rw [← hn]
              exact .ref n
            · rw [set_get_ne eq] at hy
              simp only [if_neg eq]
              exact (hvx q2 y hy).named hρ (belL_get hbc hy)
        · rw [set_get_ne ek] at hk
          simp only [if_neg ek]
          exact (hx k x hk).named hρ (belL_get hb hk)

/-- And put back. -/
theorem RepO.join {ρ : Nat → Value} {av : Nat → Prop} {hp : Array Obj} {e sz : Nat} {xs : List AV} {v : Value} {ow ow2 : List Nat} {j q e' sz' n : Nat} {cs ys : List AV} (h : RepO ρ av hp (.own e sz xs) v ow) (hnd : ow.Nodup) (h2 : RepO ρ av hp (.own e' sz' ys) (ρ n) ow2) (hnd2 : ow2.Nodup) (hdis : ∀ b, b ∈ ow → b ∉ ow2)
    (hj : xs[j]? = some (.agg cs)) (hq : cs[q]? = some (.ref n)) :
    ∃ ow1, RepO ρ av hp (.own e sz (xs.set j (.agg (cs.set q (.own e' sz' ys))))) v ow1 ∧ ow1.Nodup ∧ (∀ b, b ∈ ow1 → b ∈ ow ∨ b ∈ ow2) := by
  have hjl := (List.getElem?_eq_some_iff.1 hj).1
  have hql := (List.getElem?_eq_some_iff.1 hq).1
  cases h with
  | leaf _ _ h => cases h
  | own0 => simp at hj
  | own _ _ _ b c cells vals ows hh hs hc hm hx hcells =>
    obtain ⟨vs, ows', hvj, hvn, hoj, hvx⟩ := (hx j _ hj).agg_inv
    have hqx := hvx q _ hq
    obtain ⟨hn1, hn2⟩ := List.nodup_cons.1 hnd
    have hnj : (flat cs.length ows').Nodup := by rw [← hoj]; exact (flat_nodup.1 hn2).1 j hjl
    have hold : ∀ q2 b', q2 < cs.length → b' ∈ ows' q2 → b' ∈ flat xs.length ows := fun q2 b' hq2 hb' => mem_flat.2 ⟨j, hjl, by rw [hoj]; exact mem_flat.2 ⟨q2, hq2, hb'⟩⟩
    have hd : ∀ b', b' ∈ flat xs.length ows → b' ∉ ow2 := fun b' hb' => hdis b' (List.mem_cons_of_mem _ hb')
    have hin : ∀ b', b' ∈ (flat cs.length fun q2 => if q2 = q then ow2 else ows' q2) → b' ∈ ows j ∨ b' ∈ ow2 := fun b' hb' => by
      obtain ⟨q2, hq2, hb2⟩ := mem_flat.1 hb'
      split at hb2
      · exact .inr hb2
      · exact .inl (by rw [hoj]; exact mem_flat.2 ⟨q2, hq2, hb2⟩)
    have hin2 : ∀ b', b' ∈ (flat xs.length fun k => if k = j then (flat cs.length fun q2 => if q2 = q then ow2 else ows' q2) else ows k) → b' ∈ flat xs.length ows ∨ b' ∈ ow2 := fun b' hb' => by
      obtain ⟨k, hk, hb2⟩ := mem_flat.1 hb'
      split at hb2
      · rcases hin b' hb2 with h3 | h3
        · exact .inl (mem_flat.2 ⟨j, hjl, h3⟩)
        · exact .inr h3
      · exact .inl (mem_flat.2 ⟨k, hk, hb2⟩)
    refine ⟨b :: flat xs.length (fun k => if k = j then (flat cs.length fun q2 => if q2 = q then ow2 else ows' q2) else ows k), ?_, ?_, ?_⟩
    · have hlen : (xs.set j (.agg (cs.set q (.own e' sz' ys)))).length = xs.length := List.length_set ..
      have := RepO.own (ρ := ρ) (av := av) (hp := hp) e sz (xs.set j (.agg (cs.set q (.own e' sz' ys)))) b c cells vals (fun k => if k = j then (flat cs.length fun q2 => if q2 = q then ow2 else ows' q2) else ows k) hh hs (by rw [hlen]; exact hc) hm (fun k x hk => ?_) (by rw [hlen]; exact hcells)
      · rw [hlen] at this; exact this
      · by_cases ek : k = j
        · subst ek
          rw [set_get_eq hj] at hk
          cases hk
          simp only [if_true]
          rw [hvj]
          have hlc : (cs.set q (.own e' sz' ys)).length = cs.length := List.length_set ..
          have := RepO.agg (ρ := ρ) (av := av) (hp := hp) (cs.set q (.own e' sz' ys)) vs (fun q2 => if q2 = q then ow2 else ows' q2) (by rw [hlc]; exact hvn) (fun q2 y hy => ?_)
          · rw [hlc] at this; exact this
          · by_cases eq : q2 = q
            · subst eq
              rw [set_get_eq hq] at hy
              cases hy
              simp only [if_true]
              have hv : vs.getD q2 undef = ρ n := by
                generalize vs.getD q2 undef = u at hqx
                generalize ows' q2 = oo at hqx
                cases hqx with
                | leaf _ _ h => cases h; rfl
              rw [hv]
              exact h2
            · rw [set_get_ne eq] at hy
              simp only [if_neg eq]
              exact hvx q2 y hy
        · rw [set_get_ne ek] at hk
          simp only [if_neg ek]
          exact hx k x hk
    · refine List.nodup_cons.2 ⟨fun hb' => ?_, ?_⟩
      · rcases hin2 b hb' with h3 | h3
        · exact hn1 h3
        · exact hdis b List.mem_cons_self h3
      · rw [flat_nodup]
        refine ⟨fun k hk => ?_, fun k l hk hl hne b' hb1 hb2 => ?_⟩
        · split
          · rw [flat_nodup]
            refine ⟨fun q2 hq2 => ?_, fun q2 q3 h2l h3l hne b' hb1 hb2 => ?_⟩
            · split
              · exact hnd2
              · exact (flat_nodup.1 hnj).1 q2 hq2
            · split at hb1
              · rename_i e1
                rw [if_neg (fun e2 => hne (e1.trans e2.symm))] at hb2
                exact hd b' (hold q3 b' h3l hb2) hb1
              · split at hb2
                · exact hd b' (hold q2 b' h2l hb1) hb2
                · exact (flat_nodup.1 hnj).2 q2 q3 h2l h3l hne b' hb1 hb2
          · exact (flat_nodup.1 hn2).1 k hk
        · split at hb1
          · rename_i e1
            rw [if_neg (fun e2 => hne (e1.trans e2.symm))] at hb2
            rcases hin b' hb1 with h3 | h3
            · exact (flat_nodup.1 hn2).2 j l hjl hl (fun e2 => hne (e1.trans e2)) b' h3 hb2
            · exact hd b' (mem_flat.2 ⟨l, hl, hb2⟩) h3
          · split at hb2
            · rename_i e1 e2
              rcases hin b' hb2 with h3 | h3
              · exact (flat_nodup.1 hn2).2 k j hk hjl e1 b' hb1 h3
              · exact hd b' (mem_flat.2 ⟨k, hk, hb1⟩) h3
            · exact (flat_nodup.1 hn2).2 k l hk hl hne b' hb1 hb2
    · intro b' hb'
      rcases List.mem_cons.1 hb' with e1 | e1
      · exact .inl (by rw [e1]; exact List.mem_cons_self)
      · rcases hin2 b' e1 with h3 | h3
        · exact .inl (List.mem_cons_of_mem _ h3)
        · exact .inr h3

section
variable {P : Program} {ro : Option Nat} {N n0 : Nat} {Q : AQ} {E : Env} {H : Heap} {nx : Nat}

/-- A slice that a row owns becomes an object. -/
theorem awp_split {c : Code} {i j q e sz e' sz' : Nat} {xs cs ys : List AV} (hn : nx < 1000) (hi : get H i = some (.row e sz xs)) (hj : xs[j]? = some (.agg cs)) (hq : cs[q]? = some (.own e' sz' ys))
    (h : AWP P ro N n0 c Q E (put (put H i (.row e sz (xs.set j (.agg (cs.set q (.ref nx)))))) nx (.row e' sz' ys)) (nx + 1)) : AWP P ro N n0 c Q E H nx := by
  intro C a w Qc hn0 hR hK
  obtain ⟨h1, hnd⟩ := hR.obj i _ hi
  obtain ⟨hUi, hbx⟩ := hR.objb i _ hi
  have hbx : belL (UU nx) xs := hbx
  have hnU : ¬ UU nx nx := UU_new hn
  have hine : i ≠ nx := fun e => hnU (e ▸ hUi)
  obtain ⟨u, ow1, ow2, k1, k2, k3, k4, k5, k6, k7, k8⟩ := h1.split hnd hbx hj hq
  obtain ⟨C', hC'⟩ : ∃ C' : Conc, C' = { C with ρ := upd C.ρ nx u, one := upd_one C.one k2, own := upd (upd C.own i ow1) nx ow2 } := ⟨_, rfl⟩
  have hρ : ∀ k, UU nx k → C'.ρ k = C.ρ k := fun k hk => by rw [hC']; exact upd_other _ _ (fun e => hnU (e ▸ hk))
  have hρn : C'.ρ nx = u := by rw [hC']; exact upd_same _ _ _
  have hoi : C'.own i = ow1 := by rw [hC']; show upd (upd C.own i ow1) nx ow2 i = _; rw [upd_other _ _ hine, upd_same]
  have hon : C'.own nx = ow2 := by rw [hC']; exact upd_same _ _ _
  have hoo : ∀ k, k ≠ i → k ≠ nx → C'.own k = C.own k := fun k h2 h3 => by rw [hC']; show upd (upd C.own i ow1) nx ow2 k = _; rw [upd_other _ _ h3, upd_other _ _ h2]
  have hX : C'.X = C.X := by rw [hC']
  have hB : C'.B = C.B := by rw [hC']
  generalize hH' : put (put H i (.row e sz (xs.set j (.agg (cs.set q (.ref nx)))))) nx (.row e' sz' ys) = H' at h
  have hget : ∀ k ob, get H' k = some ob → (k = nx ∧ ob = .row e' sz' ys) ∨ (k = i ∧ ob = .row e sz (xs.set j (.agg (cs.set q (.ref nx))))) ∨ (k ≠ i ∧ k ≠ nx ∧ get H k = some ob) := fun k ob hk => by
    rw [← hH', get_put] at hk
    split at hk
    · rename_i e1; exact .inl ⟨e1.symm, (Option.some.inj hk).symm⟩
    · rename_i e1
      rw [get_put] at hk
      split at hk
      · rename_i e2; exact .inr (.inl ⟨e2.symm, (Option.some.inj hk).symm⟩)
      · rename_i e2; exact .inr (.inr ⟨fun e => e2 e.symm, fun e => e1 e.symm, hk⟩)
  have hWs : ∀ k ob b, get H' k = some ob → b ∈ C'.own k → C.W H b := fun k ob b hk hb => by
    rcases hget k ob hk with ⟨rfl, _⟩ | ⟨rfl, _⟩ | ⟨h2, h3, h4⟩
    · rw [hon] at hb; exact ⟨i, _, hi, k6 b hb⟩
    · rw [hoi] at hb; exact ⟨k, _, hi, k5 b hb⟩
    · rw [hoo k h2 h3] at hb; exact ⟨k, _, h4, hb⟩
  have hav : ∀ b, C'.avoid H' b → C.avoid H b := fun b hb => by
    rcases hb with hb | ⟨k, ob, hk, hb⟩
    · exact .inl (by rw [← hX]; exact hb)
    · exact .inr (hWs k ob b hk hb)
  have hRH : RelH C' H' (UU (nx + 1)) w :=
    { obj := fun k ob hk => by
        rcases hget k ob hk with ⟨rfl, rfl⟩ | ⟨rfl, rfl⟩ | ⟨h2, h3, h4⟩
        · rw [hon, hρn]
          have hby : belL (UU k) ys := by
            have hbc : belL (UU k) cs := belL_get hbx hj
            exact belL_get hbc hq
          exact ⟨((k1.named hρ hby).mono' (fun b _ hb => hav b hb) (fun _ _ _ _ _ _ => rfl) (fun _ _ => rfl)), k4⟩
        · rw [hoi, hρ k hUi]
          exact ⟨(k8 C'.ρ nx hρ hρn).mono' (fun b _ hb => hav b hb) (fun _ _ _ _ _ _ => rfl) (fun _ _ => rfl), k3⟩
        · rw [hoo k h2 h3, hρ k (hR.objb k ob h4).1]
          exact ((hR.obj k ob h4).named hρ (hR.objb k ob h4).2).mono (fun b _ hb => hav b hb) (fun _ _ _ => rfl) (fun _ _ => rfl)
      apart := fun k l ok ol b hne hk hl hbk hbl => by
        rcases hget k ok hk with ⟨rfl, rfl⟩ | ⟨rfl, rfl⟩ | ⟨h2, h3, h4⟩
        · rw [hon] at hbk
          rcases hget l ol hl with ⟨rfl, rfl⟩ | ⟨rfl, rfl⟩ | ⟨m2, m3, m4⟩
          · exact hne rfl
          · rw [hoi] at hbl; exact k7 b hbl hbk
          · rw [hoo l m2 m3] at hbl; exact hR.apart i l _ _ b (fun e => m2 e.symm) hi m4 (k6 b hbk) hbl
        · rw [hoi] at hbk
          rcases hget l ol hl with ⟨rfl, rfl⟩ | ⟨rfl, rfl⟩ | ⟨m2, m3, m4⟩
          · rw [hon] at hbl; exact k7 b hbk hbl
          · exact hne rfl
          · rw [hoo l m2 m3] at hbl; exact hR.apart k l _ _ b (fun e => m2 e.symm) hi m4 (k5 b hbk) hbl
        · rw [hoo k h2 h3] at hbk
          rcases hget l ol hl with ⟨rfl, rfl⟩ | ⟨rfl, rfl⟩ | ⟨m2, m3, m4⟩
          · rw [hon] at hbl; exact hR.apart k i _ _ b h2 h4 hi hbk (k6 b hbl)
          · rw [hoi] at hbl; exact hR.apart k l _ _ b h2 h4 hi hbk (k5 b hbl)
          · rw [hoo l m2 m3] at hbl; exact hR.apart k l _ _ b hne h4 m4 hbk hbl
      xapart := fun k ob b hk hb hx => by
        rw [hX] at hx
        obtain ⟨l, ol, hl, hbl⟩ := hWs k ob b hk hb
        exact hR.xapart l ol b hl hbl hx
      xlt := fun b hb => hR.xlt b (by rw [← hX]; exact hb)
      objb := fun k ob hk => by
        rcases hget k ob hk with ⟨rfl, rfl⟩ | ⟨rfl, rfl⟩ | ⟨h2, h3, h4⟩
        · refine ⟨.inl (by omega), ?_⟩
          have hbc : belL (UU k) cs := belL_get hbx hj
          exact belL_mono (UU_mono (Nat.le_succ _)) ys (belL_get hbc hq)
        · refine ⟨UU_mono (Nat.le_succ _) _ hUi, ?_⟩
          show belL (UU (nx + 1)) _
          rw [belL_iff]
          intro y hy
          rcases List.mem_or_eq_of_mem_set hy with h5 | h5
          · exact AV.bel_mono (UU_mono (Nat.le_succ _)) y (belL_iff.1 hbx y h5)
          · rw [h5]
            show belL (UU (nx + 1)) _
            rw [belL_iff]
            intro z hz
            have hbc : belL (UU nx) cs := belL_get hbx hj
            rcases List.mem_or_eq_of_mem_set hz with h6 | h6
            · exact AV.bel_mono (UU_mono (Nat.le_succ _)) z (belL_iff.1 hbc z h6)
            · rw [h6]; exact .inl (Nat.lt_succ_self _)
        · exact ⟨UU_mono (Nat.le_succ _) _ (hR.objb k ob h4).1, AObj.bel_mono (UU_mono (Nat.le_succ _)) _ (hR.objb k ob h4).2⟩ }
  have hs : StepR C H (UU nx) w C' H' w :=
    ⟨rfl, rfl, rfl, Nat.le_refl _, fun _ _ _ => rfl, fun b ⟨k, ob, hk, hb⟩ => .inl (hWs k ob b hk hb), hX, hB, hρ⟩
  have hR' := hR.change hs (UU_mono (Nat.le_succ _)) hRH
  exact h C' a w Qc (by omega) hR' fun e1 E1 H1 nx1 C1 a1 w1 hn1 hR1 hs1 hQ => hK e1 E1 H1 nx1 C1 a1 w1 hn1 hR1 ((hs.fewerNames (UU_mono hn0)).trans (fun _ h => h) hs1) hQ

/-- An object becomes a slice that a row owns. -/
theorem awp_join {c : Code} {i n j q e sz e' sz' : Nat} {xs cs ys : List AV} (hne : i ≠ n) (hi : get H i = some (.row e sz xs)) (hni : get H n = some (.row e' sz' ys)) (hj : xs[j]? = some (.agg cs)) (hq : cs[q]? = some (.ref n))
    (h : AWP P ro N n0 c Q E (put (put H i (.row e sz (xs.set j (.agg (cs.set q (.own e' sz' ys)))))) n .dead) nx) : AWP P ro N n0 c Q E H nx := by
  intro C a w Qc hn0 hR hK
  obtain ⟨h1, hnd⟩ := hR.obj i _ hi
  obtain ⟨g1, gnd⟩ := hR.obj n _ hni
  obtain ⟨hUi, hbx⟩ := hR.objb i _ hi
  obtain ⟨hUn, hby⟩ := hR.objb n _ hni
  have hbx : belL (UU nx) xs := hbx
  have hby : belL (UU nx) ys := hby
  obtain ⟨ow1, k1, k2, k3⟩ := h1.join hnd g1 gnd (fun b hb hb' => hR.apart i n _ _ b hne hi hni hb hb') hj hq
  obtain ⟨C', hC'⟩ : ∃ C' : Conc, C' = { C with own := upd (upd C.own i ow1) n [] } := ⟨_, rfl⟩
  have hρ : C'.ρ = C.ρ := by rw [hC']
  have hoi : C'.own i = ow1 := by rw [hC']; show upd (upd C.own i ow1) n [] i = _; rw [upd_other _ _ hne, upd_same]
  have hon : C'.own n = [] := by rw [hC']; exact upd_same _ _ _
  have hoo : ∀ k, k ≠ i → k ≠ n → C'.own k = C.own k := fun k h2 h3 => by rw [hC']; show upd (upd C.own i ow1) n [] k = _; rw [upd_other _ _ h3, upd_other _ _ h2]
  have hX : C'.X = C.X := by rw [hC']
  have hB : C'.B = C.B := by rw [hC']
  generalize hH' : put (put H i (.row e sz (xs.set j (.agg (cs.set q (.own e' sz' ys)))))) n .dead = H' at h
  have hget : ∀ k ob, get H' k = some ob → (k = n ∧ ob = .dead) ∨ (k = i ∧ ob = .row e sz (xs.set j (.agg (cs.set q (.own e' sz' ys))))) ∨ (k ≠ i ∧ k ≠ n ∧ get H k = some ob) := fun k ob hk => by
    rw [← hH', get_put] at hk
    split at hk
    · rename_i e1; exact .inl ⟨e1.symm, (Option.some.inj hk).symm⟩
    · rename_i e1
      rw [get_put] at hk
      split at hk
      · rename_i e2; exact .inr (.inl ⟨e2.symm, (Option.some.inj hk).symm⟩)
      · rename_i e2; exact .inr (.inr ⟨fun e => e2 e.symm, fun e => e1 e.symm, hk⟩)
  have hWs : ∀ k ob b, get H' k = some ob → b ∈ C'.own k → C.W H b := fun k ob b hk hb => by
    rcases hget k ob hk with ⟨rfl, _⟩ | ⟨rfl, _⟩ | ⟨h2, h3, h4⟩
    · rw [hon] at hb; cases hb
    · rw [hoi] at hb
      rcases k3 b hb with h5 | h5
      · exact ⟨k, _, hi, h5⟩
      · exact ⟨n, _, hni, h5⟩
    · rw [hoo k h2 h3] at hb; exact ⟨k, _, h4, hb⟩
  have hav : ∀ b, C'.avoid H' b → C.avoid H b := fun b hb => by
    rcases hb with hb | ⟨k, ob, hk, hb⟩
    · exact .inl (by rw [← hX]; exact hb)
    · exact .inr (hWs k ob b hk hb)
  have hap : ∀ l ol b, l ≠ i → l ≠ n → get H l = some ol → b ∈ C.own l → b ∈ ow1 → False := fun l ol b h2 h3 hl hbl hb1 => by
    rcases k3 b hb1 with h5 | h5
    · exact hR.apart l i _ _ b h2 hl hi hbl h5
    · exact hR.apart l n _ _ b h3 hl hni hbl h5
  have hRH : RelH C' H' (UU nx) w :=
    { obj := fun k ob hk => by
        rw [hρ]
        rcases hget k ob hk with ⟨rfl, rfl⟩ | ⟨rfl, rfl⟩ | ⟨h2, h3, h4⟩
        · exact hon
        · rw [hoi]
          exact ⟨k1.mono' (fun b _ hb => hav b hb) (fun _ _ _ _ _ _ => rfl) (fun _ _ => rfl), k2⟩
        · rw [hoo k h2 h3]
          exact (hR.obj k ob h4).mono (fun b _ hb => hav b hb) (fun _ _ _ => rfl) (fun _ _ => rfl)
      apart := fun k l ok ol b hne' hk hl hbk hbl => by
        rcases hget k ok hk with ⟨rfl, rfl⟩ | ⟨rfl, rfl⟩ | ⟨h2, h3, h4⟩
        · rw [hon] at hbk; cases hbk
        · rw [hoi] at hbk
          rcases hget l ol hl with ⟨rfl, rfl⟩ | ⟨rfl, rfl⟩ | ⟨m2, m3, m4⟩
          · rw [hon] at hbl; cases hbl
          · exact hne' rfl
          · rw [hoo l m2 m3] at hbl; exact hap l ol b m2 m3 m4 hbl hbk
        · rw [hoo k h2 h3] at hbk
          rcases hget l ol hl with ⟨rfl, rfl⟩ | ⟨rfl, rfl⟩ | ⟨m2, m3, m4⟩
          · rw [hon] at hbl; cases hbl
          · rw [hoi] at hbl; exact hap k ok b h2 h3 h4 hbk hbl
          · rw [hoo l m2 m3] at hbl; exact hR.apart k l _ _ b hne' h4 m4 hbk hbl
      xapart := fun k ob b hk hb hx => by
        rw [hX] at hx
        obtain ⟨l, ol, hl, hbl⟩ := hWs k ob b hk hb
        exact hR.xapart l ol b hl hbl hx
      xlt := fun b hb => hR.xlt b (by rw [← hX]; exact hb)
      objb := fun k ob hk => by
        rcases hget k ob hk with ⟨rfl, rfl⟩ | ⟨rfl, rfl⟩ | ⟨h2, h3, h4⟩
        · exact ⟨hUn, trivial⟩
        · refine ⟨hUi, ?_⟩
          show belL (UU nx) _
          rw [belL_iff]
          intro y hy
          rcases List.mem_or_eq_of_mem_set hy with h5 | h5
          · exact belL_iff.1 hbx y h5
          · rw [h5]
            show belL (UU nx) _
            rw [belL_iff]
            intro z hz
            have hbc : belL (UU nx) cs := belL_get hbx hj
            rcases List.mem_or_eq_of_mem_set hz with h6 | h6
            · exact belL_iff.1 hbc z h6
            · rw [h6]; exact hby
        · exact hR.objb k ob h4 }
  have hs : StepR C H (UU nx) w C' H' w :=
    ⟨rfl, rfl, rfl, Nat.le_refl _, fun _ _ _ => rfl, fun b ⟨k, ob, hk, hb⟩ => .inl (hWs k ob b hk hb), hX, hB, fun k _ => by rw [hρ]⟩
  have hR' := hR.change hs (fun _ h => h) hRH
  exact h C' a w Qc hn0 hR' fun e1 E1 H1 nx1 C1 a1 w1 hn1 hR1 hs1 hQ => hK e1 E1 H1 nx1 C1 a1 w1 hn1 hR1 ((hs.fewerNames (UU_mono hn0)).trans (fun _ h => h) hs1) hQ

/-- A byte made a string. -/
theorem lstep_byteStr {o : Oper} {b0 : Nat} {ds : List (Option Tmp)} {t s e : TypeId} {x : Operand} {i : Nat} {n : Int} (hg : o.guard = none) (ho : o.op = .convert t s x) (hN : ∀ d, o.dst = some d → d < N) (hs : P.underlying t = some (.slice e)) (he : P.underlying e = some (.int .u8)) (hd : P.underlying s = some .string)
    (hx : opv E x = some (.ref i)) (hH : get H i = some (.row e 1 [.raw (.int .u8 n)])) :
    LStep P ro N ds o b0 E H (tmpsOf [x]) [i] (.raw (.string (ByteArray.empty.push (UInt8.ofNat n.toNat)))) [] nx 0 := by
  refine lstep_of_opT hg fun E' H' U hE hH' _ => ?_
  rw [addU_zero]
  have hops := opv_congr hE
  refine opT_val (by simp [ho, Op.noDefer]) hN fun C a w hR => ?_
  obtain ⟨h1, _⟩ := hR.opv (x := x) (r := .ref i) (by rw [hops x (by simp)]; exact hx)
  have hev : a.eval x = C.ρ i := by generalize a.eval x = v at h1; cases h1; rfl
  obtain ⟨h2, _⟩ := hR.obj i _ ((hH' i (by simp)).trans hH)
  refine ⟨trivial, _, ?_, .raw _⟩
  generalize C.ρ i = v at h2 hev
  generalize C.own i = oo at h2
  cases h2 with
  | leaf _ _ h => cases h
  | own _ _ _ b c cells vals ows hh hsz hc hm hxx hcells =>
    have hv0 : vals 0 = .int .u8 n := by
      have := hxx 0 _ rfl
      generalize vals 0 = u at this
      generalize ows 0 = oo at this
      cases this with
      | leaf _ _ h => cases h; rfl
    obtain ⟨q1, q2⟩ := hcells 0 (by simp)
    have hc0 : cells[0]? = some (.int .u8 n) := by
      have := q2 0 (by omega)
      rw [hv0] at this
      simpa [Value.cells] using this
    have hl := run_loadCells_list (P := P) w ⟨b, 0, none⟩ ([n].map (Value.int .u8)) (fun j v hj => by
      cases j with
      | zero => simp at hj; subst hj; simp [World.cell?, Addr.add, hh, hc0]
      | succ j => simp at hj)
    have hb := run_bytesToString (P := P) w ⟨b, 0, none⟩ 1 c [n] hl
    simp [execOp, ho, hev, run_convert_bytes_string w t s e (some ⟨b, 0, none⟩) 1 c hs he hd, hb]
end
end Go.Abs
end

/- Abs36 -/
section
/- The abstract layer, thirty-sixth part: calls that are lent rows, the simple cases. -/
set_option linter.unusedVariables false
set_option linter.unusedSimpArgs false
namespace Go.Abs
open Go
section
variable {P : Program} {ro : Option Nat} {N : Nat} {o : Oper} {E : Env} {H : Heap} {nx b0 : Nat} {ds : List (Option Tmp)}

theorem lend_pure {c : Call} {f : Nat} {fn : Func} {code : Code} {args xs : List AV} {r0 : AV} (bw : List Nat) (hg : o.guard = none) (ho : o.op = .call c) (hc : c.callee = .value (.func f)) (hT : FnT P f fn code)
    (hN : ∀ d, o.dst = some d → d < N) (hM : Pure P f args [] 0 r0) (hxs : c.args.toList.map (opv E) = xs.map some) (hargs : xs.map (lend (get H) bw) = args) (hab : belL (UU 0) args) (hfr : r0.noFz = true) :
    LStep P ro N ds o b0 E H (tmpsOf c.args.toList) bw r0 [] nx 0 := by
  have := lstep_lend (P := P) (ro := ro) (N := N) (o := o) (E := E) (H := H) (nx := nx) (b0 := b0) (ds := ds) (s := []) (nd := []) (H1 := []) (m0 := 0) (n1 := 0) bw 0 hg ho hc hT hN hM rfl hxs (by rw [hargs]; exact (renL_nil args).symm) hab (fit_new (by simp) (by omega)) (fun i hi p hp => by cases hp) hfr (fun p hp => by cases hp)
  rw [shift_zero, AV.ren_nil] at this
  exact this

theorem lend_new {c : Call} {f : Nat} {fn : Func} {code : Code} {args xs : List AV} {r0 : AV} {H1 : Heap} {nw : Nat} (bw : List Nat) (hg : o.guard = none) (ho : o.op = .call c) (hc : c.callee = .value (.func f)) (hT : FnT P f fn code)
    (hN : ∀ d, o.dst = some d → d < N) (hM : Gives P f args [] 0 r0 H1 nw) (hk : ∀ i ∈ H1.map (·.1), i < nw) (hw : nw ≤ 1000) (hxs : c.args.toList.map (opv E) = xs.map some) (hargs : xs.map (lend (get H) bw) = args) (hab : belL (UU 0) args) (hfr : r0.noFz = true) (hfo : ∀ p ∈ H1, p.2.noFz = true) :
    LStep P ro N ds o b0 E H (tmpsOf c.args.toList) bw (r0.ren (shift id 0 nx nw)) (H1.map fun p => (shift id 0 nx nw p.1, p.2.ren (shift id 0 nx nw))) nx nw := by
  have := lstep_lend (P := P) (ro := ro) (N := N) (o := o) (E := E) (H := H) (nx := nx) (b0 := b0) (ds := ds) (s := []) (nd := []) (H1 := H1) (m0 := 0) (n1 := nw) bw nw hg ho hc hT hN hM (Nat.zero_add _).symm hxs (by rw [hargs]; exact (renL_nil args).symm) hab (fit_new hk hw) (fun i hi p hp => by cases hp) hfr hfo
  exact this

/-- With one object that keeps its own name, 0. -/
theorem lend_g {c : Call} {f : Nat} {fn : Func} {code : Code} {args xs : List AV} {r0 : AV} {H1 : Heap} {g : AObj} {nw : Nat} (bw : List Nat) (hg : o.guard = none) (ho : o.op = .call c) (hc : c.callee = .value (.func f)) (hT : FnT P f fn code)
    (hN : ∀ d, o.dst = some d → d < N) (hM : Gives P f args [(0, g)] 1 r0 H1 (1 + nw)) (hG : get H 0 = some g) (hgb : g.bel (UU 1)) (hk : ∀ i ∈ H1.map (·.1), i < 1 + nw) (h0 : (get H1 0).isSome = true) (hw : nw ≤ 900) (hbw : 0 ∉ bw) (hxs : c.args.toList.map (opv E) = xs.map some) (hargs : xs.map (lend (get H) bw) = args) (hab : belL (UU 1) args) (hfr : r0.noFz = true) (hfo : ∀ p ∈ H1, p.2.noFz = true) :
    LStep P ro N ds o b0 E H (tmpsOf c.args.toList) (0 :: bw) (r0.ren (shift id 1 nx nw)) (H1.map fun p => (shift id 1 nx nw p.1, p.2.ren (shift id 1 nx nw))) nx nw := by
  have hfit : FitC H [] [(0, g)] 1 nw H1 :=
    { objs := ⟨by rw [AObj.ren_nil]; exact hG, .inl (by omega), hgb, trivial⟩
      inj := by simp
      cov := fun i hi => by have : i = 0 := by omega
                            subst this; rfl
      sk := fun p hp => by cases hp
      dom := fun p hp => by
        have := hk _ (List.mem_map_of_mem hp)
        by_cases e : p.1 = 0
        · exact .inl (by rw [e]; rfl)
        · exact .inr ⟨by omega, by omega⟩
      all := fun p hp => by rw [List.mem_singleton.1 hp]; exact h0
      far := by omega }
  have := lstep_lend (P := P) (ro := ro) (N := N) (o := o) (E := E) (H := H) (nx := nx) (b0 := b0) (ds := ds) (s := []) (nd := [(0, g)]) (H1 := H1) (m0 := 1) (n1 := 1 + nw) bw nw hg ho hc hT hN hM rfl hxs (by rw [hargs]; exact (renL_nil args).symm) hab hfit (fun i hi p hp => by
    rw [List.mem_singleton.1 hp]
    show (0 : Nat) ≠ i
    exact fun e => hbw (e ▸ hi)) hfr hfo
  exact this
end
end Go.Abs
end

/- T8 -/
section
set_option linter.unusedVariables false
set_option linter.unusedSimpArgs false
open Go Go.Abs Go.Proofs
namespace Go.Proofs.T
theorem F0 : varInfo Tryd.prog 1 = some (1, false) ∧
  zeroCellsOf Tryd.prog 1 = some [Value.nilFunc] ∧
  zeroEl Tryd.prog 1 = some (.raw Value.nilFunc) ∧
  Tryd.prog.concrete 1 = true ∧
  varInfo Tryd.prog 2 = some (1, false) ∧
  zeroCellsOf Tryd.prog 2 = some [(Value.int IntKind.i64 0)] ∧
  zeroEl Tryd.prog 2 = some (.raw (Value.int IntKind.i64 0)) ∧
  Tryd.prog.concrete 2 = true ∧
  varInfo Tryd.prog 3 = some (1, false) ∧
  zeroCellsOf Tryd.prog 3 = some [(Value.int IntKind.i64 0)] ∧
  zeroEl Tryd.prog 3 = some (.raw (Value.int IntKind.i64 0)) ∧
  Tryd.prog.concrete 3 = true ∧
  varInfo Tryd.prog 4 = some (1, false) ∧
  zeroCellsOf Tryd.prog 4 = some [(Value.bool false)] ∧
  zeroEl Tryd.prog 4 = some (.raw (Value.bool false)) ∧
  Tryd.prog.concrete 4 = true ∧
  varInfo Tryd.prog 5 = some (1, false) ∧
  zeroCellsOf Tryd.prog 5 = some [(Value.int IntKind.u8 0)] ∧
  zeroEl Tryd.prog 5 = some (.raw (Value.int IntKind.u8 0)) ∧
  Tryd.prog.concrete 5 = true ∧
  varInfo Tryd.prog 6 = some (1, false) ∧
  zeroCellsOf Tryd.prog 6 = some [(Value.int IntKind.u8 0)] ∧
  zeroEl Tryd.prog 6 = some (.raw (Value.int IntKind.u8 0)) ∧
  Tryd.prog.concrete 6 = true ∧
  varInfo Tryd.prog 7 = some (4, true) ∧
  zeroCellsOf Tryd.prog 7 = some [(Value.int IntKind.i64 0), (Value.int IntKind.i64 0), (Value.bool false), (Value.int IntKind.u8 0)] ∧
  zeroEl Tryd.prog 7 = some (.agg [.raw (Value.int IntKind.i64 0), .raw (Value.int IntKind.i64 0), .raw (Value.bool false), .raw (Value.int IntKind.u8 0)]) ∧
  fieldInfo Tryd.prog 7 0 = some (0, some 1, some false) ∧
  fieldInfo Tryd.prog 7 1 = some (1, some 1, some false) ∧
  fieldInfo Tryd.prog 7 2 = some (2, some 1, some false) ∧
  fieldInfo Tryd.prog 7 3 = some (3, some 1, some false) ∧
  structTab Tryd.prog 7 = some [(0, 1), (1, 1), (2, 1), (3, 1)] ∧
  Tryd.prog.concrete 7 = true ∧
  varInfo Tryd.prog 8 = some (4, true) ∧
  zeroCellsOf Tryd.prog 8 = some [(Value.int IntKind.i64 0), (Value.int IntKind.i64 0), (Value.bool false), (Value.int IntKind.u8 0)] ∧
  zeroEl Tryd.prog 8 = some (.agg [.raw (Value.int IntKind.i64 0), .raw (Value.int IntKind.i64 0), .raw (Value.bool false), .raw (Value.int IntKind.u8 0)]) ∧
  fieldInfo Tryd.prog 8 0 = some (0, some 1, some false) ∧
  fieldInfo Tryd.prog 8 1 = some (1, some 1, some false) ∧
  fieldInfo Tryd.prog 8 2 = some (2, some 1, some false) ∧
  fieldInfo Tryd.prog 8 3 = some (3, some 1, some false) ∧
  structTab Tryd.prog 8 = some [(0, 1), (1, 1), (2, 1), (3, 1)] ∧
  Tryd.prog.concrete 8 = true ∧
  varInfo Tryd.prog 9 = some (1, false) ∧
  zeroCellsOf Tryd.prog 9 = some [(Value.string ⟨#[]⟩)] ∧
  zeroEl Tryd.prog 9 = some (.raw (Value.string ⟨#[]⟩)) ∧
  isStr Tryd.prog 9 = true ∧
  Tryd.prog.concrete 9 = true ∧
  varInfo Tryd.prog 10 = some (1, false) ∧
  zeroCellsOf Tryd.prog 10 = some [(Value.string ⟨#[]⟩)] ∧
  zeroEl Tryd.prog 10 = some (.raw (Value.string ⟨#[]⟩)) ∧
  isStr Tryd.prog 10 = true ∧
  Tryd.prog.concrete 10 = true ∧
  varInfo Tryd.prog 11 = some (1, false) ∧
  zeroCellsOf Tryd.prog 11 = some [(Value.string ⟨#[]⟩)] ∧
  zeroEl Tryd.prog 11 = some (.raw (Value.string ⟨#[]⟩)) ∧
  isStr Tryd.prog 11 = true ∧
  Tryd.prog.concrete 11 = true ∧
  varInfo Tryd.prog 12 = some (1, false) ∧
  zeroCellsOf Tryd.prog 12 = some [(Value.int IntKind.u64 0)] ∧
  zeroEl Tryd.prog 12 = some (.raw (Value.int IntKind.u64 0)) ∧
  Tryd.prog.concrete 12 = true ∧
  varInfo Tryd.prog 13 = some (2, true) ∧
  zeroCellsOf Tryd.prog 13 = some [(Value.string ⟨#[]⟩), (Value.int IntKind.u64 0)] ∧
  zeroEl Tryd.prog 13 = some (.agg [.raw (Value.string ⟨#[]⟩), .raw (Value.int IntKind.u64 0)]) ∧
  fieldInfo Tryd.prog 13 0 = some (0, some 1, some false) ∧
  fieldInfo Tryd.prog 13 1 = some (1, some 1, some false) ∧
  structTab Tryd.prog 13 = some [(0, 1), (1, 1)] ∧
  Tryd.prog.concrete 13 = true ∧
  varInfo Tryd.prog 14 = some (2, true) ∧
  zeroCellsOf Tryd.prog 14 = some [(Value.string ⟨#[]⟩), (Value.int IntKind.u64 0)] ∧
  zeroEl Tryd.prog 14 = some (.agg [.raw (Value.string ⟨#[]⟩), .raw (Value.int IntKind.u64 0)]) ∧
  fieldInfo Tryd.prog 14 0 = some (0, some 1, some false) ∧
  fieldInfo Tryd.prog 14 1 = some (1, some 1, some false) ∧
  structTab Tryd.prog 14 = some [(0, 1), (1, 1)] ∧
  Tryd.prog.concrete 14 = true ∧
  varInfo Tryd.prog 15 = some (1, false) ∧
  zeroCellsOf Tryd.prog 15 = some [(Value.pointer none)] ∧
  zeroEl Tryd.prog 15 = some (.raw (Value.pointer none)) ∧
  Tryd.prog.concrete 15 = true ∧
  varInfo Tryd.prog 16 = some (1, false) ∧
  zeroCellsOf Tryd.prog 16 = some [(Value.pointer none)] ∧
  zeroEl Tryd.prog 16 = some (.raw (Value.pointer none)) ∧
  Tryd.prog.concrete 16 = true ∧
  varInfo Tryd.prog 17 = some (1, false) ∧
  zeroCellsOf Tryd.prog 17 = some [(Value.pointer none)] ∧
  zeroEl Tryd.prog 17 = some (.raw (Value.pointer none)) ∧
  Tryd.prog.concrete 17 = true ∧
  varInfo Tryd.prog 18 = some (1, true) ∧
  zeroCellsOf Tryd.prog 18 = some [(Value.pointer none)] ∧
  zeroEl Tryd.prog 18 = some (.agg [.raw (Value.pointer none)]) ∧
  fieldInfo Tryd.prog 18 0 = some (0, some 1, some false) ∧
  structTab Tryd.prog 18 = some [(0, 1)] ∧
  Tryd.prog.concrete 18 = true ∧
  varInfo Tryd.prog 19 = some (1, true) ∧
  zeroCellsOf Tryd.prog 19 = some [(Value.pointer none)] ∧
  zeroEl Tryd.prog 19 = some (.agg [.raw (Value.pointer none)]) ∧
  fieldInfo Tryd.prog 19 0 = some (0, some 1, some false) ∧
  structTab Tryd.prog 19 = some [(0, 1)] ∧
  Tryd.prog.concrete 19 = true ∧
  varInfo Tryd.prog 20 = some (1, false) := by
  refine ⟨?_, ?_, ?_, ?_, ?_, ?_, ?_, ?_, ?_, ?_, ?_, ?_, ?_, ?_, ?_, ?_, ?_, ?_, ?_, ?_, ?_, ?_, ?_, ?_, ?_, ?_, ?_, ?_, ?_, ?_, ?_, ?_, ?_, ?_, ?_, ?_, ?_, ?_, ?_, ?_, ?_, ?_, ?_, ?_, ?_, ?_, ?_, ?_, ?_, ?_, ?_, ?_, ?_, ?_, ?_, ?_, ?_, ?_, ?_, ?_, ?_, ?_, ?_, ?_, ?_, ?_, ?_, ?_, ?_, ?_, ?_, ?_, ?_, ?_, ?_, ?_, ?_, ?_, ?_, ?_, ?_, ?_, ?_, ?_, ?_, ?_, ?_, ?_, ?_, ?_, ?_, ?_, ?_, ?_, ?_, ?_, ?_, ?_, ?_, ?_⟩ <;> kernel_rfl
theorem F1 : zeroCellsOf Tryd.prog 20 = some [Value.nilIface] ∧
  zeroEl Tryd.prog 20 = some (.raw Value.nilIface) ∧
  isIf Tryd.prog 20 = true ∧
  varInfo Tryd.prog 21 = some (1, false) ∧
  zeroCellsOf Tryd.prog 21 = some [(Value.int IntKind.i32 0)] ∧
  zeroEl Tryd.prog 21 = some (.raw (Value.int IntKind.i32 0)) ∧
  Tryd.prog.concrete 21 = true ∧
  varInfo Tryd.prog 22 = some (1, false) ∧
  zeroCellsOf Tryd.prog 22 = some [(Value.slice none 0 0)] ∧
  zeroEl Tryd.prog 22 = some (.raw (Value.slice none 0 0)) ∧
  slInfo Tryd.prog 22 = some (5, some (1, 1)) ∧
  isSl Tryd.prog 22 = true ∧
  Tryd.prog.concrete 22 = true ∧
  varInfo Tryd.prog 23 = some (1, false) ∧
  zeroCellsOf Tryd.prog 23 = some [(Value.slice none 0 0)] ∧
  zeroEl Tryd.prog 23 = some (.raw (Value.slice none 0 0)) ∧
  slInfo Tryd.prog 23 = some (31, some (2, 32)) ∧
  isSl Tryd.prog 23 = true ∧
  Tryd.prog.concrete 23 = true ∧
  varInfo Tryd.prog 25 = some (1, false) ∧
  zeroCellsOf Tryd.prog 25 = some [Value.nilFunc] ∧
  zeroEl Tryd.prog 25 = some (.raw Value.nilFunc) ∧
  Tryd.prog.concrete 25 = true ∧
  varInfo Tryd.prog 26 = some (1, false) ∧
  zeroCellsOf Tryd.prog 26 = some [Value.nilFunc] ∧
  zeroEl Tryd.prog 26 = some (.raw Value.nilFunc) ∧
  Tryd.prog.concrete 26 = true ∧
  varInfo Tryd.prog 27 = some (1, false) ∧
  zeroCellsOf Tryd.prog 27 = some [Value.nilFunc] ∧
  zeroEl Tryd.prog 27 = some (.raw Value.nilFunc) ∧
  Tryd.prog.concrete 27 = true ∧
  varInfo Tryd.prog 28 = some (1, false) ∧
  zeroCellsOf Tryd.prog 28 = some [Value.nilFunc] ∧
  zeroEl Tryd.prog 28 = some (.raw Value.nilFunc) ∧
  Tryd.prog.concrete 28 = true ∧
  varInfo Tryd.prog 29 = some (1, false) ∧
  zeroCellsOf Tryd.prog 29 = some [(Value.slice none 0 0)] ∧
  zeroEl Tryd.prog 29 = some (.raw (Value.slice none 0 0)) ∧
  slInfo Tryd.prog 29 = some (35, some (3, 32)) ∧
  isSl Tryd.prog 29 = true ∧
  Tryd.prog.concrete 29 = true ∧
  varInfo Tryd.prog 30 = some (2, true) ∧
  zeroCellsOf Tryd.prog 30 = some [(Value.int IntKind.i64 0), (Value.slice none 0 0)] ∧
  zeroEl Tryd.prog 30 = some (.agg [.raw (Value.int IntKind.i64 0), .raw (Value.slice none 0 0)]) ∧
  fieldInfo Tryd.prog 30 0 = some (0, some 1, some false) ∧
  fieldInfo Tryd.prog 30 1 = some (1, some 1, some false) ∧
  structTab Tryd.prog 30 = some [(0, 1), (1, 1)] ∧
  Tryd.prog.concrete 30 = true ∧
  varInfo Tryd.prog 31 = some (2, true) ∧
  zeroCellsOf Tryd.prog 31 = some [(Value.int IntKind.i64 0), (Value.slice none 0 0)] ∧
  zeroEl Tryd.prog 31 = some (.agg [.raw (Value.int IntKind.i64 0), .raw (Value.slice none 0 0)]) ∧
  fieldInfo Tryd.prog 31 0 = some (0, some 1, some false) ∧
  fieldInfo Tryd.prog 31 1 = some (1, some 1, some false) ∧
  structTab Tryd.prog 31 = some [(0, 1), (1, 1)] ∧
  Tryd.prog.concrete 31 = true ∧
  varInfo Tryd.prog 33 = some (1, false) ∧
  zeroCellsOf Tryd.prog 33 = some [Value.nilFunc] ∧
  zeroEl Tryd.prog 33 = some (.raw Value.nilFunc) ∧
  Tryd.prog.concrete 33 = true ∧
  varInfo Tryd.prog 34 = some (3, true) ∧
  zeroCellsOf Tryd.prog 34 = some [(Value.string ⟨#[]⟩), (Value.int IntKind.i64 0), (Value.int IntKind.i64 0)] ∧
  zeroEl Tryd.prog 34 = some (.agg [.raw (Value.string ⟨#[]⟩), .raw (Value.int IntKind.i64 0), .raw (Value.int IntKind.i64 0)]) ∧
  fieldInfo Tryd.prog 34 0 = some (0, some 1, some false) ∧
  fieldInfo Tryd.prog 34 1 = some (1, some 1, some false) ∧
  fieldInfo Tryd.prog 34 2 = some (2, some 1, some false) ∧
  structTab Tryd.prog 34 = some [(0, 1), (1, 1), (2, 1)] ∧
  Tryd.prog.concrete 34 = true ∧
  varInfo Tryd.prog 35 = some (3, true) ∧
  zeroCellsOf Tryd.prog 35 = some [(Value.string ⟨#[]⟩), (Value.int IntKind.i64 0), (Value.int IntKind.i64 0)] ∧
  zeroEl Tryd.prog 35 = some (.agg [.raw (Value.string ⟨#[]⟩), .raw (Value.int IntKind.i64 0), .raw (Value.int IntKind.i64 0)]) ∧
  fieldInfo Tryd.prog 35 0 = some (0, some 1, some false) ∧
  fieldInfo Tryd.prog 35 1 = some (1, some 1, some false) ∧
  fieldInfo Tryd.prog 35 2 = some (2, some 1, some false) ∧
  structTab Tryd.prog 35 = some [(0, 1), (1, 1), (2, 1)] ∧
  Tryd.prog.concrete 35 = true ∧
  varInfo Tryd.prog 36 = some (1, false) ∧
  zeroCellsOf Tryd.prog 36 = some [Value.nilFunc] ∧
  zeroEl Tryd.prog 36 = some (.raw Value.nilFunc) ∧
  Tryd.prog.concrete 36 = true ∧
  varInfo Tryd.prog 37 = some (1, false) ∧
  zeroCellsOf Tryd.prog 37 = some [Value.nilFunc] ∧
  zeroEl Tryd.prog 37 = some (.raw Value.nilFunc) ∧
  Tryd.prog.concrete 37 = true ∧
  varInfo Tryd.prog 38 = some (1, false) ∧
  zeroCellsOf Tryd.prog 38 = some [Value.nilFunc] ∧
  zeroEl Tryd.prog 38 = some (.raw Value.nilFunc) ∧
  Tryd.prog.concrete 38 = true ∧
  varInfo Tryd.prog 39 = some (1, false) ∧
  zeroCellsOf Tryd.prog 39 = some [Value.nilFunc] ∧
  zeroEl Tryd.prog 39 = some (.raw Value.nilFunc) ∧
  Tryd.prog.concrete 39 = true ∧
  varInfo Tryd.prog 41 = some (1, false) ∧
  zeroCellsOf Tryd.prog 41 = some [Value.nilFunc] ∧
  zeroEl Tryd.prog 41 = some (.raw Value.nilFunc) ∧
  Tryd.prog.concrete 41 = true ∧
  varInfo Tryd.prog 42 = some (1, false) ∧
  zeroCellsOf Tryd.prog 42 = some [Value.nilFunc] ∧
  zeroEl Tryd.prog 42 = some (.raw Value.nilFunc) ∧
  Tryd.prog.concrete 42 = true ∧
  varInfo Tryd.prog 43 = some (1, false) := by
  refine ⟨?_, ?_, ?_, ?_, ?_, ?_, ?_, ?_, ?_, ?_, ?_, ?_, ?_, ?_, ?_, ?_, ?_, ?_, ?_, ?_, ?_, ?_, ?_, ?_, ?_, ?_, ?_, ?_, ?_, ?_, ?_, ?_, ?_, ?_, ?_, ?_, ?_, ?_, ?_, ?_, ?_, ?_, ?_, ?_, ?_, ?_, ?_, ?_, ?_, ?_, ?_, ?_, ?_, ?_, ?_, ?_, ?_, ?_, ?_, ?_, ?_, ?_, ?_, ?_, ?_, ?_, ?_, ?_, ?_, ?_, ?_, ?_, ?_, ?_, ?_, ?_, ?_, ?_, ?_, ?_, ?_, ?_, ?_, ?_, ?_, ?_, ?_, ?_, ?_, ?_, ?_, ?_, ?_, ?_, ?_, ?_, ?_, ?_, ?_, ?_⟩ <;> kernel_rfl
theorem F2 : zeroCellsOf Tryd.prog 43 = some [Value.nilFunc] ∧
  zeroEl Tryd.prog 43 = some (.raw Value.nilFunc) ∧
  Tryd.prog.concrete 43 = true ∧
  varInfo Tryd.prog 44 = some (1, false) ∧
  zeroCellsOf Tryd.prog 44 = some [(Value.slice none 0 0)] ∧
  zeroEl Tryd.prog 44 = some (.raw (Value.slice none 0 0)) ∧
  slInfo Tryd.prog 44 = some (47, some (2, 32)) ∧
  isSl Tryd.prog 44 = true ∧
  Tryd.prog.concrete 44 = true ∧
  varInfo Tryd.prog 45 = some (1, false) ∧
  zeroCellsOf Tryd.prog 45 = some [(Value.slice none 0 0)] ∧
  zeroEl Tryd.prog 45 = some (.raw (Value.slice none 0 0)) ∧
  slInfo Tryd.prog 45 = some (110, some (3, 32)) ∧
  isSl Tryd.prog 45 = true ∧
  Tryd.prog.concrete 45 = true ∧
  varInfo Tryd.prog 46 = some (2, true) ∧
  zeroCellsOf Tryd.prog 46 = some [(Value.int IntKind.i64 0), (Value.slice none 0 0)] ∧
  zeroEl Tryd.prog 46 = some (.agg [.raw (Value.int IntKind.i64 0), .raw (Value.slice none 0 0)]) ∧
  fieldInfo Tryd.prog 46 0 = some (0, some 1, some false) ∧
  fieldInfo Tryd.prog 46 1 = some (1, some 1, some false) ∧
  structTab Tryd.prog 46 = some [(0, 1), (1, 1)] ∧
  Tryd.prog.concrete 46 = true ∧
  varInfo Tryd.prog 47 = some (2, true) ∧
  zeroCellsOf Tryd.prog 47 = some [(Value.int IntKind.i64 0), (Value.slice none 0 0)] ∧
  zeroEl Tryd.prog 47 = some (.agg [.raw (Value.int IntKind.i64 0), .raw (Value.slice none 0 0)]) ∧
  fieldInfo Tryd.prog 47 0 = some (0, some 1, some false) ∧
  fieldInfo Tryd.prog 47 1 = some (1, some 1, some false) ∧
  structTab Tryd.prog 47 = some [(0, 1), (1, 1)] ∧
  Tryd.prog.concrete 47 = true ∧
  varInfo Tryd.prog 48 = some (1, false) ∧
  zeroCellsOf Tryd.prog 48 = some [Value.nilFunc] ∧
  zeroEl Tryd.prog 48 = some (.raw Value.nilFunc) ∧
  Tryd.prog.concrete 48 = true ∧
  varInfo Tryd.prog 49 = some (1, false) ∧
  zeroCellsOf Tryd.prog 49 = some [Value.nilFunc] ∧
  zeroEl Tryd.prog 49 = some (.raw Value.nilFunc) ∧
  Tryd.prog.concrete 49 = true ∧
  varInfo Tryd.prog 50 = some (1, false) ∧
  zeroCellsOf Tryd.prog 50 = some [Value.nilFunc] ∧
  zeroEl Tryd.prog 50 = some (.raw Value.nilFunc) ∧
  Tryd.prog.concrete 50 = true ∧
  varInfo Tryd.prog 51 = some (1, false) ∧
  zeroCellsOf Tryd.prog 51 = some [Value.nilFunc] ∧
  zeroEl Tryd.prog 51 = some (.raw Value.nilFunc) ∧
  Tryd.prog.concrete 51 = true ∧
  varInfo Tryd.prog 52 = some (1, false) ∧
  zeroCellsOf Tryd.prog 52 = some [Value.nilFunc] ∧
  zeroEl Tryd.prog 52 = some (.raw Value.nilFunc) ∧
  Tryd.prog.concrete 52 = true ∧
  varInfo Tryd.prog 53 = some (1, false) ∧
  zeroCellsOf Tryd.prog 53 = some [Value.nilFunc] ∧
  zeroEl Tryd.prog 53 = some (.raw Value.nilFunc) ∧
  Tryd.prog.concrete 53 = true ∧
  varInfo Tryd.prog 54 = some (1, false) ∧
  zeroCellsOf Tryd.prog 54 = some [Value.nilFunc] ∧
  zeroEl Tryd.prog 54 = some (.raw Value.nilFunc) ∧
  Tryd.prog.concrete 54 = true ∧
  varInfo Tryd.prog 55 = some (1, false) ∧
  zeroCellsOf Tryd.prog 55 = some [(Value.slice none 0 0)] ∧
  zeroEl Tryd.prog 55 = some (.raw (Value.slice none 0 0)) ∧
  slInfo Tryd.prog 55 = some (9, some (1, 16)) ∧
  isSl Tryd.prog 55 = true ∧
  Tryd.prog.concrete 55 = true ∧
  varInfo Tryd.prog 56 = some (1, false) ∧
  zeroCellsOf Tryd.prog 56 = some [Value.nilFunc] ∧
  zeroEl Tryd.prog 56 = some (.raw Value.nilFunc) ∧
  Tryd.prog.concrete 56 = true ∧
  varInfo Tryd.prog 57 = some (1, false) ∧
  zeroCellsOf Tryd.prog 57 = some [(Value.pointer none)] ∧
  zeroEl Tryd.prog 57 = some (.raw (Value.pointer none)) ∧
  Tryd.prog.concrete 57 = true ∧
  varInfo Tryd.prog 58 = some (1, false) ∧
  zeroCellsOf Tryd.prog 58 = some [Value.nilFunc] ∧
  zeroEl Tryd.prog 58 = some (.raw Value.nilFunc) ∧
  Tryd.prog.concrete 58 = true ∧
  varInfo Tryd.prog 59 = some (1, false) ∧
  zeroCellsOf Tryd.prog 59 = some [Value.nilFunc] ∧
  zeroEl Tryd.prog 59 = some (.raw Value.nilFunc) ∧
  Tryd.prog.concrete 59 = true ∧
  varInfo Tryd.prog 60 = some (1, false) ∧
  zeroCellsOf Tryd.prog 60 = some [Value.nilFunc] ∧
  zeroEl Tryd.prog 60 = some (.raw Value.nilFunc) ∧
  Tryd.prog.concrete 60 = true ∧
  varInfo Tryd.prog 61 = some (1, false) ∧
  zeroCellsOf Tryd.prog 61 = some [Value.nilFunc] ∧
  zeroEl Tryd.prog 61 = some (.raw Value.nilFunc) ∧
  Tryd.prog.concrete 61 = true ∧
  varInfo Tryd.prog 62 = some (1, false) ∧
  zeroCellsOf Tryd.prog 62 = some [Value.nilFunc] ∧
  zeroEl Tryd.prog 62 = some (.raw Value.nilFunc) ∧
  Tryd.prog.concrete 62 = true ∧
  varInfo Tryd.prog 63 = some (1, false) ∧
  zeroCellsOf Tryd.prog 63 = some [(Value.slice none 0 0)] ∧
  zeroEl Tryd.prog 63 = some (.raw (Value.slice none 0 0)) ∧
  slInfo Tryd.prog 63 = some (3, some (1, 8)) ∧
  isSl Tryd.prog 63 = true ∧
  Tryd.prog.concrete 63 = true ∧
  varInfo Tryd.prog 64 = some (1, false) ∧
  zeroCellsOf Tryd.prog 64 = some [(Value.pointer none)] ∧
  zeroEl Tryd.prog 64 = some (.raw (Value.pointer none)) := by
  refine ⟨?_, ?_, ?_, ?_, ?_, ?_, ?_, ?_, ?_, ?_, ?_, ?_, ?_, ?_, ?_, ?_, ?_, ?_, ?_, ?_, ?_, ?_, ?_, ?_, ?_, ?_, ?_, ?_, ?_, ?_, ?_, ?_, ?_, ?_, ?_, ?_, ?_, ?_, ?_, ?_, ?_, ?_, ?_, ?_, ?_, ?_, ?_, ?_, ?_, ?_, ?_, ?_, ?_, ?_, ?_, ?_, ?_, ?_, ?_, ?_, ?_, ?_, ?_, ?_, ?_, ?_, ?_, ?_, ?_, ?_, ?_, ?_, ?_, ?_, ?_, ?_, ?_, ?_, ?_, ?_, ?_, ?_, ?_, ?_, ?_, ?_, ?_, ?_, ?_, ?_, ?_, ?_, ?_, ?_, ?_, ?_, ?_, ?_, ?_, ?_⟩ <;> kernel_rfl
theorem F3 : Tryd.prog.concrete 64 = true ∧
  varInfo Tryd.prog 66 = some (1, false) ∧
  zeroCellsOf Tryd.prog 66 = some [Value.nilFunc] ∧
  zeroEl Tryd.prog 66 = some (.raw Value.nilFunc) ∧
  Tryd.prog.concrete 66 = true ∧
  varInfo Tryd.prog 67 = some (1, false) ∧
  zeroCellsOf Tryd.prog 67 = some [(Value.map none)] ∧
  zeroEl Tryd.prog 67 = some (.raw (Value.map none)) ∧
  Tryd.prog.concrete 67 = true ∧
  varInfo Tryd.prog 68 = some (1, false) ∧
  zeroCellsOf Tryd.prog 68 = some [(Value.map none)] ∧
  zeroEl Tryd.prog 68 = some (.raw (Value.map none)) ∧
  Tryd.prog.concrete 68 = true ∧
  varInfo Tryd.prog 69 = some (3, true) ∧
  zeroCellsOf Tryd.prog 69 = some [(Value.int IntKind.i64 0), (Value.map none), (Value.map none)] ∧
  zeroEl Tryd.prog 69 = some (.agg [.raw (Value.int IntKind.i64 0), .raw (Value.map none), .raw (Value.map none)]) ∧
  fieldInfo Tryd.prog 69 0 = some (0, some 1, some false) ∧
  fieldInfo Tryd.prog 69 1 = some (1, some 1, some false) ∧
  fieldInfo Tryd.prog 69 2 = some (2, some 1, some false) ∧
  structTab Tryd.prog 69 = some [(0, 1), (1, 1), (2, 1)] ∧
  Tryd.prog.concrete 69 = true ∧
  varInfo Tryd.prog 70 = some (3, true) ∧
  zeroCellsOf Tryd.prog 70 = some [(Value.int IntKind.i64 0), (Value.map none), (Value.map none)] ∧
  zeroEl Tryd.prog 70 = some (.agg [.raw (Value.int IntKind.i64 0), .raw (Value.map none), .raw (Value.map none)]) ∧
  fieldInfo Tryd.prog 70 0 = some (0, some 1, some false) ∧
  fieldInfo Tryd.prog 70 1 = some (1, some 1, some false) ∧
  fieldInfo Tryd.prog 70 2 = some (2, some 1, some false) ∧
  structTab Tryd.prog 70 = some [(0, 1), (1, 1), (2, 1)] ∧
  Tryd.prog.concrete 70 = true ∧
  varInfo Tryd.prog 71 = some (2, true) ∧
  zeroCellsOf Tryd.prog 71 = some [(Value.string ⟨#[]⟩), (Value.int IntKind.i64 0)] ∧
  zeroEl Tryd.prog 71 = some (.agg [.raw (Value.string ⟨#[]⟩), .raw (Value.int IntKind.i64 0)]) ∧
  fieldInfo Tryd.prog 71 0 = some (0, some 1, some false) ∧
  fieldInfo Tryd.prog 71 1 = some (1, some 1, some false) ∧
  structTab Tryd.prog 71 = some [(0, 1), (1, 1)] ∧
  Tryd.prog.concrete 71 = true ∧
  varInfo Tryd.prog 72 = some (2, true) ∧
  zeroCellsOf Tryd.prog 72 = some [(Value.string ⟨#[]⟩), (Value.int IntKind.i64 0)] ∧
  zeroEl Tryd.prog 72 = some (.agg [.raw (Value.string ⟨#[]⟩), .raw (Value.int IntKind.i64 0)]) ∧
  fieldInfo Tryd.prog 72 0 = some (0, some 1, some false) ∧
  fieldInfo Tryd.prog 72 1 = some (1, some 1, some false) ∧
  structTab Tryd.prog 72 = some [(0, 1), (1, 1)] ∧
  Tryd.prog.concrete 72 = true ∧
  varInfo Tryd.prog 73 = some (1, false) ∧
  zeroCellsOf Tryd.prog 73 = some [Value.nilFunc] ∧
  zeroEl Tryd.prog 73 = some (.raw Value.nilFunc) ∧
  Tryd.prog.concrete 73 = true ∧
  varInfo Tryd.prog 74 = some (1, false) ∧
  zeroCellsOf Tryd.prog 74 = some [Value.nilFunc] ∧
  zeroEl Tryd.prog 74 = some (.raw Value.nilFunc) ∧
  Tryd.prog.concrete 74 = true ∧
  varInfo Tryd.prog 75 = some (1, false) ∧
  zeroCellsOf Tryd.prog 75 = some [Value.nilIface] ∧
  zeroEl Tryd.prog 75 = some (.raw Value.nilIface) ∧
  isIf Tryd.prog 75 = true ∧
  varInfo Tryd.prog 76 = some (1, false) ∧
  zeroCellsOf Tryd.prog 76 = some [Value.nilIface] ∧
  zeroEl Tryd.prog 76 = some (.raw Value.nilIface) ∧
  isIf Tryd.prog 76 = true ∧
  varInfo Tryd.prog 77 = some (1, false) ∧
  zeroCellsOf Tryd.prog 77 = some [Value.nilFunc] ∧
  zeroEl Tryd.prog 77 = some (.raw Value.nilFunc) ∧
  Tryd.prog.concrete 77 = true ∧
  varInfo Tryd.prog 78 = some (1, false) ∧
  zeroCellsOf Tryd.prog 78 = some [Value.nilFunc] ∧
  zeroEl Tryd.prog 78 = some (.raw Value.nilFunc) ∧
  Tryd.prog.concrete 78 = true ∧
  varInfo Tryd.prog 79 = some (1, false) ∧
  zeroCellsOf Tryd.prog 79 = some [Value.nilFunc] ∧
  zeroEl Tryd.prog 79 = some (.raw Value.nilFunc) ∧
  Tryd.prog.concrete 79 = true ∧
  varInfo Tryd.prog 80 = some (1, false) ∧
  zeroCellsOf Tryd.prog 80 = some [(Value.map none)] ∧
  zeroEl Tryd.prog 80 = some (.raw (Value.map none)) ∧
  Tryd.prog.concrete 80 = true ∧
  varInfo Tryd.prog 81 = some (1, false) ∧
  zeroCellsOf Tryd.prog 81 = some [Value.nilFunc] ∧
  zeroEl Tryd.prog 81 = some (.raw Value.nilFunc) ∧
  Tryd.prog.concrete 81 = true ∧
  varInfo Tryd.prog 82 = some (1, false) ∧
  zeroCellsOf Tryd.prog 82 = some [Value.nilFunc] ∧
  zeroEl Tryd.prog 82 = some (.raw Value.nilFunc) ∧
  Tryd.prog.concrete 82 = true ∧
  varInfo Tryd.prog 83 = some (1, false) ∧
  zeroCellsOf Tryd.prog 83 = some [Value.nilFunc] ∧
  zeroEl Tryd.prog 83 = some (.raw Value.nilFunc) ∧
  Tryd.prog.concrete 83 = true ∧
  varInfo Tryd.prog 84 = some (1, false) ∧
  zeroCellsOf Tryd.prog 84 = some [Value.nilFunc] ∧
  zeroEl Tryd.prog 84 = some (.raw Value.nilFunc) ∧
  Tryd.prog.concrete 84 = true ∧
  varInfo Tryd.prog 85 = some (1, false) ∧
  zeroCellsOf Tryd.prog 85 = some [Value.nilFunc] ∧
  zeroEl Tryd.prog 85 = some (.raw Value.nilFunc) ∧
  Tryd.prog.concrete 85 = true ∧
  varInfo Tryd.prog 86 = some (1, false) ∧
  zeroCellsOf Tryd.prog 86 = some [Value.nilFunc] ∧
  zeroEl Tryd.prog 86 = some (.raw Value.nilFunc) ∧
  Tryd.prog.concrete 86 = true ∧
  varInfo Tryd.prog 87 = some (1, false) := by
  refine ⟨?_, ?_, ?_, ?_, ?_, ?_, ?_, ?_, ?_, ?_, ?_, ?_, ?_, ?_, ?_, ?_, ?_, ?_, ?_, ?_, ?_, ?_, ?_, ?_, ?_, ?_, ?_, ?_, ?_, ?_, ?_, ?_, ?_, ?_, ?_, ?_, ?_, ?_, ?_, ?_, ?_, ?_, ?_, ?_, ?_, ?_, ?_, ?_, ?_, ?_, ?_, ?_, ?_, ?_, ?_, ?_, ?_, ?_, ?_, ?_, ?_, ?_, ?_, ?_, ?_, ?_, ?_, ?_, ?_, ?_, ?_, ?_, ?_, ?_, ?_, ?_, ?_, ?_, ?_, ?_, ?_, ?_, ?_, ?_, ?_, ?_, ?_, ?_, ?_, ?_, ?_, ?_, ?_, ?_, ?_, ?_, ?_, ?_, ?_, ?_⟩ <;> kernel_rfl
theorem F4 : zeroCellsOf Tryd.prog 87 = some [Value.nilFunc] ∧
  zeroEl Tryd.prog 87 = some (.raw Value.nilFunc) ∧
  Tryd.prog.concrete 87 = true ∧
  varInfo Tryd.prog 88 = some (1, false) ∧
  zeroCellsOf Tryd.prog 88 = some [Value.nilFunc] ∧
  zeroEl Tryd.prog 88 = some (.raw Value.nilFunc) ∧
  Tryd.prog.concrete 88 = true ∧
  varInfo Tryd.prog 89 = some (1, false) ∧
  zeroCellsOf Tryd.prog 89 = some [Value.nilFunc] ∧
  zeroEl Tryd.prog 89 = some (.raw Value.nilFunc) ∧
  Tryd.prog.concrete 89 = true ∧
  varInfo Tryd.prog 90 = some (1, false) ∧
  zeroCellsOf Tryd.prog 90 = some [Value.nilFunc] ∧
  zeroEl Tryd.prog 90 = some (.raw Value.nilFunc) ∧
  Tryd.prog.concrete 90 = true ∧
  varInfo Tryd.prog 91 = some (1, false) ∧
  zeroCellsOf Tryd.prog 91 = some [Value.nilFunc] ∧
  zeroEl Tryd.prog 91 = some (.raw Value.nilFunc) ∧
  Tryd.prog.concrete 91 = true ∧
  varInfo Tryd.prog 92 = some (1, false) ∧
  zeroCellsOf Tryd.prog 92 = some [Value.nilFunc] ∧
  zeroEl Tryd.prog 92 = some (.raw Value.nilFunc) ∧
  Tryd.prog.concrete 92 = true ∧
  varInfo Tryd.prog 94 = some (1, false) ∧
  zeroCellsOf Tryd.prog 94 = some [Value.nilFunc] ∧
  zeroEl Tryd.prog 94 = some (.raw Value.nilFunc) ∧
  Tryd.prog.concrete 94 = true ∧
  varInfo Tryd.prog 95 = some (1, false) ∧
  zeroCellsOf Tryd.prog 95 = some [Value.nilFunc] ∧
  zeroEl Tryd.prog 95 = some (.raw Value.nilFunc) ∧
  Tryd.prog.concrete 95 = true ∧
  varInfo Tryd.prog 96 = some (2, true) ∧
  zeroCellsOf Tryd.prog 96 = some [(Value.slice none 0 0), (Value.int IntKind.i64 0)] ∧
  zeroEl Tryd.prog 96 = some (.agg [.raw (Value.slice none 0 0), .raw (Value.int IntKind.i64 0)]) ∧
  fieldInfo Tryd.prog 96 0 = some (0, some 1, some false) ∧
  fieldInfo Tryd.prog 96 1 = some (1, some 1, some false) ∧
  structTab Tryd.prog 96 = some [(0, 1), (1, 1)] ∧
  Tryd.prog.concrete 96 = true ∧
  varInfo Tryd.prog 97 = some (2, true) ∧
  zeroCellsOf Tryd.prog 97 = some [(Value.slice none 0 0), (Value.int IntKind.i64 0)] ∧
  zeroEl Tryd.prog 97 = some (.agg [.raw (Value.slice none 0 0), .raw (Value.int IntKind.i64 0)]) ∧
  fieldInfo Tryd.prog 97 0 = some (0, some 1, some false) ∧
  fieldInfo Tryd.prog 97 1 = some (1, some 1, some false) ∧
  structTab Tryd.prog 97 = some [(0, 1), (1, 1)] ∧
  Tryd.prog.concrete 97 = true ∧
  varInfo Tryd.prog 98 = some (1, false) ∧
  zeroCellsOf Tryd.prog 98 = some [Value.nilFunc] ∧
  zeroEl Tryd.prog 98 = some (.raw Value.nilFunc) ∧
  Tryd.prog.concrete 98 = true ∧
  varInfo Tryd.prog 99 = some (1, false) ∧
  zeroCellsOf Tryd.prog 99 = some [Value.nilFunc] ∧
  zeroEl Tryd.prog 99 = some (.raw Value.nilFunc) ∧
  Tryd.prog.concrete 99 = true ∧
  varInfo Tryd.prog 100 = some (1, false) ∧
  zeroCellsOf Tryd.prog 100 = some [Value.nilFunc] ∧
  zeroEl Tryd.prog 100 = some (.raw Value.nilFunc) ∧
  Tryd.prog.concrete 100 = true ∧
  varInfo Tryd.prog 101 = some (1, false) ∧
  zeroCellsOf Tryd.prog 101 = some [Value.nilFunc] ∧
  zeroEl Tryd.prog 101 = some (.raw Value.nilFunc) ∧
  Tryd.prog.concrete 101 = true ∧
  varInfo Tryd.prog 102 = some (1, true) ∧
  zeroCellsOf Tryd.prog 102 = some [(Value.int IntKind.i64 0)] ∧
  zeroEl Tryd.prog 102 = some (.agg [.raw (Value.int IntKind.i64 0)]) ∧
  fieldInfo Tryd.prog 102 0 = some (0, some 1, some false) ∧
  structTab Tryd.prog 102 = some [(0, 1)] ∧
  Tryd.prog.concrete 102 = true ∧
  varInfo Tryd.prog 103 = some (1, true) ∧
  zeroCellsOf Tryd.prog 103 = some [(Value.int IntKind.i64 0)] ∧
  zeroEl Tryd.prog 103 = some (.agg [.raw (Value.int IntKind.i64 0)]) ∧
  fieldInfo Tryd.prog 103 0 = some (0, some 1, some false) ∧
  structTab Tryd.prog 103 = some [(0, 1)] ∧
  Tryd.prog.concrete 103 = true ∧
  varInfo Tryd.prog 104 = some (1, false) ∧
  zeroCellsOf Tryd.prog 104 = some [Value.nilFunc] ∧
  zeroEl Tryd.prog 104 = some (.raw Value.nilFunc) ∧
  Tryd.prog.concrete 104 = true ∧
  varInfo Tryd.prog 105 = some (1, false) ∧
  zeroCellsOf Tryd.prog 105 = some [(Value.pointer none)] ∧
  zeroEl Tryd.prog 105 = some (.raw (Value.pointer none)) ∧
  Tryd.prog.concrete 105 = true ∧
  varInfo Tryd.prog 106 = some (1, false) ∧
  zeroCellsOf Tryd.prog 106 = some [Value.nilFunc] ∧
  zeroEl Tryd.prog 106 = some (.raw Value.nilFunc) ∧
  Tryd.prog.concrete 106 = true ∧
  varInfo Tryd.prog 107 = some (1, false) ∧
  zeroCellsOf Tryd.prog 107 = some [Value.nilFunc] ∧
  zeroEl Tryd.prog 107 = some (.raw Value.nilFunc) ∧
  Tryd.prog.concrete 107 = true ∧
  varInfo Tryd.prog 108 = some (1, false) ∧
  zeroCellsOf Tryd.prog 108 = some [Value.nilFunc] ∧
  zeroEl Tryd.prog 108 = some (.raw Value.nilFunc) ∧
  Tryd.prog.concrete 108 = true ∧
  varInfo Tryd.prog 109 = some (1, false) ∧
  zeroCellsOf Tryd.prog 109 = some [Value.nilFunc] ∧
  zeroEl Tryd.prog 109 = some (.raw Value.nilFunc) ∧
  Tryd.prog.concrete 109 = true ∧
  varInfo Tryd.prog 110 = some (3, true) ∧
  zeroCellsOf Tryd.prog 110 = some [(Value.string ⟨#[]⟩), (Value.int IntKind.i64 0), (Value.int IntKind.i64 0)] ∧
  zeroEl Tryd.prog 110 = some (.agg [.raw (Value.string ⟨#[]⟩), .raw (Value.int IntKind.i64 0), .raw (Value.int IntKind.i64 0)]) := by
  refine ⟨?_, ?_, ?_, ?_, ?_, ?_, ?_, ?_, ?_, ?_, ?_, ?_, ?_, ?_, ?_, ?_, ?_, ?_, ?_, ?_, ?_, ?_, ?_, ?_, ?_, ?_, ?_, ?_, ?_, ?_, ?_, ?_, ?_, ?_, ?_, ?_, ?_, ?_, ?_, ?_, ?_, ?_, ?_, ?_, ?_, ?_, ?_, ?_, ?_, ?_, ?_, ?_, ?_, ?_, ?_, ?_, ?_, ?_, ?_, ?_, ?_, ?_, ?_, ?_, ?_, ?_, ?_, ?_, ?_, ?_, ?_, ?_, ?_, ?_, ?_, ?_, ?_, ?_, ?_, ?_, ?_, ?_, ?_, ?_, ?_, ?_, ?_, ?_, ?_, ?_, ?_, ?_, ?_, ?_, ?_, ?_, ?_, ?_, ?_, ?_⟩ <;> kernel_rfl
theorem F5 : fieldInfo Tryd.prog 110 0 = some (0, some 1, some false) ∧
  fieldInfo Tryd.prog 110 1 = some (1, some 1, some false) ∧
  fieldInfo Tryd.prog 110 2 = some (2, some 1, some false) ∧
  structTab Tryd.prog 110 = some [(0, 1), (1, 1), (2, 1)] ∧
  Tryd.prog.concrete 110 = true ∧
  varInfo Tryd.prog 111 = some (1, false) ∧
  zeroCellsOf Tryd.prog 111 = some [Value.nilFunc] ∧
  zeroEl Tryd.prog 111 = some (.raw Value.nilFunc) ∧
  Tryd.prog.concrete 111 = true ∧
  varInfo Tryd.prog 112 = some (1, false) ∧
  zeroCellsOf Tryd.prog 112 = some [Value.nilFunc] ∧
  zeroEl Tryd.prog 112 = some (.raw Value.nilFunc) ∧
  Tryd.prog.concrete 112 = true ∧
  varInfo Tryd.prog 113 = some (1, false) ∧
  zeroCellsOf Tryd.prog 113 = some [Value.nilFunc] ∧
  zeroEl Tryd.prog 113 = some (.raw Value.nilFunc) ∧
  Tryd.prog.concrete 113 = true ∧
  varInfo Tryd.prog 114 = some (1, false) ∧
  zeroCellsOf Tryd.prog 114 = some [(Value.int IntKind.u64 0)] ∧
  zeroEl Tryd.prog 114 = some (.raw (Value.int IntKind.u64 0)) ∧
  Tryd.prog.concrete 114 = true ∧
  varInfo Tryd.prog 115 = some (1, false) ∧
  zeroCellsOf Tryd.prog 115 = some [Value.nilFunc] ∧
  zeroEl Tryd.prog 115 = some (.raw Value.nilFunc) ∧
  Tryd.prog.concrete 115 = true ∧
  varInfo Tryd.prog 116 = some (1, false) ∧
  zeroCellsOf Tryd.prog 116 = some [Value.nilFunc] ∧
  zeroEl Tryd.prog 116 = some (.raw Value.nilFunc) ∧
  Tryd.prog.concrete 116 = true ∧
  varInfo Tryd.prog 117 = some (1, false) ∧
  zeroCellsOf Tryd.prog 117 = some [Value.nilFunc] ∧
  zeroEl Tryd.prog 117 = some (.raw Value.nilFunc) ∧
  Tryd.prog.concrete 117 = true ∧
  varInfo Tryd.prog 118 = some (1, false) ∧
  zeroCellsOf Tryd.prog 118 = some [(Value.pointer none)] ∧
  zeroEl Tryd.prog 118 = some (.raw (Value.pointer none)) ∧
  Tryd.prog.concrete 118 = true ∧
  varInfo Tryd.prog 119 = some (1, false) ∧
  zeroCellsOf Tryd.prog 119 = some [(Value.int IntKind.u64 0)] ∧
  zeroEl Tryd.prog 119 = some (.raw (Value.int IntKind.u64 0)) ∧
  Tryd.prog.concrete 119 = true ∧
  varInfo Tryd.prog 120 = some (3, true) ∧
  zeroCellsOf Tryd.prog 120 = some [(Value.pointer none), (Value.pointer none), (Value.int IntKind.u64 0)] ∧
  zeroEl Tryd.prog 120 = some (.agg [.raw (Value.pointer none), .raw (Value.pointer none), .raw (Value.int IntKind.u64 0)]) ∧
  fieldInfo Tryd.prog 120 0 = some (0, some 1, some false) ∧
  fieldInfo Tryd.prog 120 1 = some (1, some 1, some false) ∧
  fieldInfo Tryd.prog 120 2 = some (2, some 1, some false) ∧
  structTab Tryd.prog 120 = some [(0, 1), (1, 1), (2, 1)] ∧
  Tryd.prog.concrete 120 = true ∧
  varInfo Tryd.prog 121 = some (3, true) ∧
  zeroCellsOf Tryd.prog 121 = some [(Value.pointer none), (Value.pointer none), (Value.int IntKind.u64 0)] ∧
  zeroEl Tryd.prog 121 = some (.agg [.raw (Value.pointer none), .raw (Value.pointer none), .raw (Value.int IntKind.u64 0)]) ∧
  fieldInfo Tryd.prog 121 0 = some (0, some 1, some false) ∧
  fieldInfo Tryd.prog 121 1 = some (1, some 1, some false) ∧
  fieldInfo Tryd.prog 121 2 = some (2, some 1, some false) ∧
  structTab Tryd.prog 121 = some [(0, 1), (1, 1), (2, 1)] ∧
  Tryd.prog.concrete 121 = true ∧
  varInfo Tryd.prog 122 = some (1, false) ∧
  zeroCellsOf Tryd.prog 122 = some [Value.nilFunc] ∧
  zeroEl Tryd.prog 122 = some (.raw Value.nilFunc) ∧
  Tryd.prog.concrete 122 = true ∧
  varInfo Tryd.prog 123 = some (1, false) ∧
  zeroCellsOf Tryd.prog 123 = some [Value.nilIface] ∧
  zeroEl Tryd.prog 123 = some (.raw Value.nilIface) ∧
  isIf Tryd.prog 123 = true ∧
  varInfo Tryd.prog 124 = some (1, false) ∧
  zeroCellsOf Tryd.prog 124 = some [Value.nilIface] ∧
  zeroEl Tryd.prog 124 = some (.raw Value.nilIface) ∧
  isIf Tryd.prog 124 = true ∧
  varInfo Tryd.prog 125 = some (1, false) ∧
  zeroCellsOf Tryd.prog 125 = some [Value.nilFunc] ∧
  zeroEl Tryd.prog 125 = some (.raw Value.nilFunc) ∧
  Tryd.prog.concrete 125 = true ∧
  varInfo Tryd.prog 126 = some (1, false) ∧
  zeroCellsOf Tryd.prog 126 = some [(Value.int IntKind.u8 0)] ∧
  zeroEl Tryd.prog 126 = some (.raw (Value.int IntKind.u8 0)) ∧
  Tryd.prog.concrete 126 = true ∧
  varInfo Tryd.prog 127 = some (1, false) ∧
  zeroCellsOf Tryd.prog 127 = some [Value.nilFunc] ∧
  zeroEl Tryd.prog 127 = some (.raw Value.nilFunc) ∧
  Tryd.prog.concrete 127 = true ∧
  varInfo Tryd.prog 128 = some (1, false) ∧
  zeroCellsOf Tryd.prog 128 = some [Value.nilFunc] ∧
  zeroEl Tryd.prog 128 = some (.raw Value.nilFunc) ∧
  Tryd.prog.concrete 128 = true ∧
  varInfo Tryd.prog 129 = some (1, false) ∧
  zeroCellsOf Tryd.prog 129 = some [Value.nilFunc] ∧
  zeroEl Tryd.prog 129 = some (.raw Value.nilFunc) ∧
  Tryd.prog.concrete 129 = true ∧
  varInfo Tryd.prog 130 = some (1, false) ∧
  zeroCellsOf Tryd.prog 130 = some [Value.nilFunc] ∧
  zeroEl Tryd.prog 130 = some (.raw Value.nilFunc) ∧
  Tryd.prog.concrete 130 = true ∧
  varInfo Tryd.prog 131 = some (1, true) ∧
  zeroCellsOf Tryd.prog 131 = some [(Value.pointer none)] ∧
  zeroEl Tryd.prog 131 = some (.agg [.raw (Value.pointer none)]) ∧
  fieldInfo Tryd.prog 131 0 = some (0, some 1, some false) ∧
  structTab Tryd.prog 131 = some [(0, 1)] ∧
  Tryd.prog.concrete 131 = true ∧
  varInfo Tryd.prog 132 = some (1, true) := by
  refine ⟨?_, ?_, ?_, ?_, ?_, ?_, ?_, ?_, ?_, ?_, ?_, ?_, ?_, ?_, ?_, ?_, ?_, ?_, ?_, ?_, ?_, ?_, ?_, ?_, ?_, ?_, ?_, ?_, ?_, ?_, ?_, ?_, ?_, ?_, ?_, ?_, ?_, ?_, ?_, ?_, ?_, ?_, ?_, ?_, ?_, ?_, ?_, ?_, ?_, ?_, ?_, ?_, ?_, ?_, ?_, ?_, ?_, ?_, ?_, ?_, ?_, ?_, ?_, ?_, ?_, ?_, ?_, ?_, ?_, ?_, ?_, ?_, ?_, ?_, ?_, ?_, ?_, ?_, ?_, ?_, ?_, ?_, ?_, ?_, ?_, ?_, ?_, ?_, ?_, ?_, ?_, ?_, ?_, ?_, ?_, ?_, ?_, ?_, ?_, ?_⟩ <;> kernel_rfl
theorem F6 : zeroCellsOf Tryd.prog 132 = some [(Value.pointer none)] ∧
  zeroEl Tryd.prog 132 = some (.agg [.raw (Value.pointer none)]) ∧
  fieldInfo Tryd.prog 132 0 = some (0, some 1, some false) ∧
  structTab Tryd.prog 132 = some [(0, 1)] ∧
  Tryd.prog.concrete 132 = true ∧
  varInfo Tryd.prog 133 = some (1, false) ∧
  zeroCellsOf Tryd.prog 133 = some [(Value.pointer none)] ∧
  zeroEl Tryd.prog 133 = some (.raw (Value.pointer none)) ∧
  Tryd.prog.concrete 133 = true ∧
  varInfo Tryd.prog 134 = some (1, false) ∧
  zeroCellsOf Tryd.prog 134 = some [Value.nilFunc] ∧
  zeroEl Tryd.prog 134 = some (.raw Value.nilFunc) ∧
  Tryd.prog.concrete 134 = true ∧
  varInfo Tryd.prog 135 = some (1, false) ∧
  zeroCellsOf Tryd.prog 135 = some [Value.nilFunc] ∧
  zeroEl Tryd.prog 135 = some (.raw Value.nilFunc) ∧
  Tryd.prog.concrete 135 = true ∧
  varInfo Tryd.prog 136 = some (1, false) ∧
  zeroCellsOf Tryd.prog 136 = some [Value.nilFunc] ∧
  zeroEl Tryd.prog 136 = some (.raw Value.nilFunc) ∧
  Tryd.prog.concrete 136 = true ∧
  varInfo Tryd.prog 137 = some (1, false) ∧
  zeroCellsOf Tryd.prog 137 = some [Value.nilIface] ∧
  zeroEl Tryd.prog 137 = some (.raw Value.nilIface) ∧
  isIf Tryd.prog 137 = true ∧
  varInfo Tryd.prog 139 = some (1, false) ∧
  zeroCellsOf Tryd.prog 139 = some [Value.nilFunc] ∧
  zeroEl Tryd.prog 139 = some (.raw Value.nilFunc) ∧
  Tryd.prog.concrete 139 = true := by
  refine ⟨?_, ?_, ?_, ?_, ?_, ?_, ?_, ?_, ?_, ?_, ?_, ?_, ?_, ?_, ?_, ?_, ?_, ?_, ?_, ?_, ?_, ?_, ?_, ?_, ?_, ?_, ?_, ?_, ?_⟩ <;> kernel_rfl
attribute [go_sem] F0 F1 F2 F3 F4 F5 F6
theorem mixed : Tryd.prog.follows .mixedOrders = true := by kernel_rfl
noncomputable abbrev P := Tryd.prog
set_option maxRecDepth 20000
def byteOk (s : ByteArray) (i : Nat) : Bool := !(decide (byteAt s i < 97) || decide (122 < byteAt s i))
def acctOk (s : ByteArray) : Bool := !(decide ((s.size : Int) < 1) || decide (4 < (s.size : Int))) && (List.range s.size).all (byteOk s)

theorem w16 (s : ByteArray) : Pure P 16 [.raw (.string s)] [] 0 (.raw (.bool (acctOk s))) := by
  refine pure_of_awp (fn := Tryd.f16) (N := 28) (vs := [.tmp 2]) ⟨Tryd.func16, rfl, rfl⟩ rfl rfl (by simp) ?_
  simp only [enumE]
  refine awp_seq_k fun K1 hK1 => ?_
  refine awp_region rfl ?_  -- region 0
  simp only [go_sem, vcSeq, Nat.reduceAdd, Nat.reduceMul, Nat.reduceSub, Nat.reduceLeDiff, Nat.reduceEqDiff, Nat.reduceLT]
  apply hK1; clear hK1 K1
  refine awp_seq_k fun K2 hK2 => ?_
  refine awp_seq_k fun K3 hK3 => ?_
  refine awp_region rfl ?_  -- region 1
  simp only [go_sem, vcSeq, Nat.reduceAdd, Nat.reduceMul, Nat.reduceSub, Nat.reduceLeDiff, Nat.reduceEqDiff, Nat.reduceLT]
  apply hK3; clear hK3 K3
  refine awp_cond rfl ?_ ?_
  · intro hc
    refine awp_seq_k fun K4 hK4 => ?_
    refine awp_region rfl ?_  -- region 2
    simp only [go_sem, vcSeq, Nat.reduceAdd, Nat.reduceMul, Nat.reduceSub, Nat.reduceLeDiff, Nat.reduceEqDiff, Nat.reduceLT]
    apply hK4; clear hK4 K4
    refine awp_ret (final0 ?_ trivial)
    simp only [go_sem, Nat.reduceEqDiff]
    simp only [acctOk, hc, Bool.not_true, Bool.false_and]
  · intro hc0
    have hs4 : 1 ≤ s.size ∧ s.size ≤ 4 := by
      simp at hc0
      omega
    refine awp_skip ?_
    simp only [athen]
    apply hK2; clear hK2 K2
    refine awp_seq_k fun K5 hK5 => ?_
    refine awp_seq_k fun K6 hK6 => ?_
    refine awp_region rfl ?_  -- region 3
    simp only [go_sem, vcSeq, Nat.reduceAdd, Nat.reduceMul, Nat.reduceSub, Nat.reduceLeDiff, Nat.reduceEqDiff, Nat.reduceLT]
    apply hK6; clear hK6 K6
    refine awp_block ?_  -- block 0
    refine awp_loop_c (fun i : Nat => i ≤ s.size ∧ ∀ j, j < i → byteOk s j = true) (fun i => s.size - i) (fun i => ([(14, .raw (.int .i64 (i : Int))), (13, .raw (.int .i64 (s.size : Int))), (0, .raw (.string s))], [])) 0 0 ⟨Nat.zero_le _, fun j hj => by omega⟩ [] ?_ ?_
    · simp only [go_sem, Nat.reduceEqDiff, Int.natCast_zero]
      simp
    rintro i ⟨hi, hall⟩
    refine awp_seq_k fun K7 hK7 => ?_
    refine awp_region rfl ?_  -- region 4
    simp only [go_sem, vcSeq, Nat.reduceAdd, Nat.reduceMul, Nat.reduceSub, Nat.reduceLeDiff, Nat.reduceEqDiff, Nat.reduceLT]
    apply hK7; clear hK7 K7
    refine awp_seq_k fun K8 hK8 => ?_
    refine awp_cond rfl ?_ ?_
    · intro hc
      have hlt : i < s.size := by simpa using hc
      refine awp_skip ?_
      simp only [athen]
      apply hK8; clear hK8 K8
      refine awp_seq_k fun K9 hK9 => ?_
      refine awp_block ?_  -- block 1
      refine awp_seq_k fun K10 hK10 => ?_
      refine awp_region rfl ?_  -- region 5
      simp only [go_sem, vcSeq, Nat.reduceAdd, Nat.reduceMul, Nat.reduceSub, Nat.reduceLeDiff, Nat.reduceEqDiff, Nat.reduceLT]
      apply hK10; clear hK10 K10
      refine awp_seq_k fun K11 hK11 => ?_
      refine awp_region rfl ?_  -- region 6
      simp only [go_sem, vcSeq, Nat.reduceAdd, Nat.reduceMul, Nat.reduceSub, Nat.reduceLeDiff, Nat.reduceEqDiff, Nat.reduceLT]
      refine ⟨⟨by omega, by omega⟩, fun _ => ⟨by omega, by omega⟩, ?_⟩
      apply hK11; clear hK11 K11
      refine awp_cond rfl ?_ ?_
      · intro hc2
        refine awp_seq_k fun K12 hK12 => ?_
        refine awp_region rfl ?_  -- region 7
        simp only [go_sem, vcSeq, Nat.reduceAdd, Nat.reduceMul, Nat.reduceSub, Nat.reduceLeDiff, Nat.reduceEqDiff, Nat.reduceLT]
        apply hK12; clear hK12 K12
        refine awp_ret ?_
        simp only [go_sem, loopQ]
        refine final0 ?_ trivial
        simp only [go_sem, Nat.reduceEqDiff]
        have : (List.range s.size).all (byteOk s) = false := by
          rw [List.all_eq_false]
          exact ⟨i, List.mem_range.2 hlt, by simp [byteOk, hc2]⟩
        simp [acctOk, this]
      · intro hc2
        refine awp_skip ?_
        simp only [go_sem, loopQ]
        apply hK9; clear hK9 K9
        refine awp_region rfl ?_  -- region 8
        have hw : IntKind.i64.wrap ((i : Int) + 1) = ((i + 1 : Nat) : Int) := by rw [IntKind.wrap_i64]; omega
        simp only [go_sem, vcSeq, loopQ, hw, Nat.reduceAdd, Nat.reduceMul, Nat.reduceSub, Nat.reduceLeDiff, Nat.reduceEqDiff, Nat.reduceLT]
        refine ⟨i + 1, ⟨by omega, fun j hj => ?_⟩, by omega, [], ?_⟩
        · by_cases e : j = i
          · subst e; simp [byteOk, hc2]
          · exact hall j (by omega)
        · simp only [go_sem, Nat.reduceEqDiff, Nat.reduceLeDiff]
    · intro hc
      refine awp_exit ?_
      simp only [go_sem, loopQ, Nat.reduceEqDiff]
      clear hK8 K8
      apply hK5; clear hK5 K5
      refine awp_seq_k fun K13 hK13 => ?_
      refine awp_region rfl ?_  -- region 9
      simp only [go_sem, vcSeq, Nat.reduceAdd, Nat.reduceMul, Nat.reduceSub, Nat.reduceLeDiff, Nat.reduceEqDiff, Nat.reduceLT]
      apply hK13; clear hK13 K13
      refine awp_ret (final0 ?_ trivial)
      simp only [go_sem, Nat.reduceEqDiff]
      have : (List.range s.size).all (byteOk s) = true := by
        rw [List.all_eq_true]
        intro j hj
        exact hall j (by have := List.mem_range.1 hj; have : ¬ (i : Int) < s.size := by simpa using hc
                         omega)
      simp only [acctOk, this, hc0, Bool.not_false, Bool.and_self]

structure Leg where
  acct : ByteArray
  cur : Int
  n : Int
def legAV (l : Leg) : AV := .agg [.raw (.string l.acct), .raw (.int .i64 l.cur), .raw (.int .i64 l.n)]
def legOk (l : Leg) : Bool := acctOk l.acct && decide (1 ≤ l.cur) && decide (l.cur ≤ 3) && decide (-1000 ≤ l.n) && decide (l.n ≤ 1000) && !decide (l.n = 0)

theorem w73 (l : Leg) : Pure P 73 [legAV l] [] 0 (.raw (.bool (legOk l))) := by
  refine pure_of_awp (fn := Tryd.f73) (N := 31) (vs := [.tmp 2]) ⟨Tryd.func73, rfl, rfl⟩ rfl rfl (by simp) ?_
  simp only [enumE, legAV]
  refine awp_seq_k fun K1 hK1 => ?_
  refine awp_region rfl ?_  -- region 0
  simp only [go_sem, vcSeq, Nat.reduceAdd, Nat.reduceMul, Nat.reduceSub, Nat.reduceLeDiff, Nat.reduceEqDiff, Nat.reduceLT]
  apply hK1; clear hK1 K1
  refine awp_seq_k fun K2 hK2 => ?_
  refine awp_region rfl ?_  -- region 1
  simp only [go_sem, vcSeq, Nat.reduceAdd, Nat.reduceMul, Nat.reduceSub, Nat.reduceLeDiff, Nat.reduceEqDiff, Nat.reduceLT]
  refine vsem_call (fun hN => lstep_pure0 rfl rfl rfl ⟨Tryd.func16, rfl, rfl⟩ hN (w16 _) rfl ⟨trivial, trivial⟩) (.inl rfl) ?_
  simp only [go_sem, vcSeq, Nat.reduceAdd, Nat.reduceMul, Nat.reduceSub, Nat.reduceLeDiff, Nat.reduceEqDiff, Nat.reduceLT]
  apply hK2; clear hK2 K2
  refine awp_ret (final0 ?_ trivial)
  simp only [go_sem, Nat.reduceEqDiff, legOk]

structure Post where
  id : Int
  legs : List Leg
def postAV (p : Post) : AV := .agg [.raw (.int .i64 p.id), .sl 3 (p.legs.map legAV)]
theorem legAV_bel (U : Nat → Prop) (ls : List Leg) : belL U (ls.map legAV) := by
  rw [belL_iff]; intro x hx; obtain ⟨l, _, rfl⟩ := List.mem_map.1 hx; exact ⟨trivial, trivial, trivial, trivial⟩
attribute [local go_sem] legAV_bel
def postOk (p : Post) : Bool := !(decide (p.id < 0) || decide (99 < p.id) || decide ((p.legs.length : Int) < 1) || decide (4 < (p.legs.length : Int))) && p.legs.all legOk

theorem w54 (p : Post) : Pure P 54 [postAV p] [] 0 (.raw (.bool (postOk p))) := by
  refine pure_of_awp (fn := Tryd.f54) (N := 36) (vs := [.tmp 2]) ⟨Tryd.func54, rfl, rfl⟩ rfl rfl (by simp) ?_
  simp only [enumE, postAV]
  refine awp_seq_k fun K1 hK1 => ?_
  refine awp_region rfl ?_  -- region 0
  simp only [go_sem, vcSeq, Nat.reduceAdd, Nat.reduceMul, Nat.reduceSub, Nat.reduceLeDiff, Nat.reduceEqDiff, Nat.reduceLT]
  apply hK1; clear hK1 K1
  refine awp_seq_k fun K2 hK2 => ?_
  refine awp_seq_k fun K3 hK3 => ?_
  refine awp_region rfl ?_  -- region 1
  simp only [go_sem, vcSeq, Nat.reduceAdd, Nat.reduceMul, Nat.reduceSub, Nat.reduceLeDiff, Nat.reduceEqDiff, Nat.reduceLT]
  apply hK3; clear hK3 K3
  refine awp_cond rfl ?_ ?_
  · intro hc
    refine awp_seq_k fun K4 hK4 => ?_
    refine awp_region rfl ?_  -- region 2
    simp only [go_sem, vcSeq, Nat.reduceAdd, Nat.reduceMul, Nat.reduceSub, Nat.reduceLeDiff, Nat.reduceEqDiff, Nat.reduceLT]
    apply hK4; clear hK4 K4
    refine awp_ret (final0 ?_ trivial)
    simp only [go_sem, Nat.reduceEqDiff, postOk, hc, Bool.not_true, Bool.false_and]
  · intro hc0
    have hl4 : p.legs.length ≤ 4 := by
      simp at hc0
      omega
    refine awp_skip ?_
    simp only [athen]
    apply hK2; clear hK2 K2
    refine awp_seq_k fun K5 hK5 => ?_
    refine awp_seq_k fun K6 hK6 => ?_
    refine awp_region rfl ?_  -- region 3
    simp only [go_sem, vcSeq, Nat.reduceAdd, Nat.reduceMul, Nat.reduceSub, Nat.reduceLeDiff, Nat.reduceEqDiff, Nat.reduceLT]
    apply hK6; clear hK6 K6
    refine awp_block ?_  -- block 0
    refine awp_loop_c (fun i : Nat => i ≤ p.legs.length ∧ ∀ (j : Nat) (l : Leg), j < i → p.legs[j]? = some l → legOk l = true) (fun i => p.legs.length - i) (fun i => ([(28, .raw (.int .i64 (i : Int))), (27, .raw (.int .i64 (p.legs.length : Int))), (26, .sl 3 (p.legs.map legAV))], [])) 0 0 ⟨Nat.zero_le _, fun j l hj => by omega⟩ [] ?_ ?_
    · simp only [go_sem, Nat.reduceEqDiff, Int.natCast_zero]
      try simp
    rintro i ⟨hi, hall⟩
    refine awp_seq_k fun K7 hK7 => ?_
    refine awp_region rfl ?_  -- region 4
    simp only [go_sem, vcSeq, Nat.reduceAdd, Nat.reduceMul, Nat.reduceSub, Nat.reduceLeDiff, Nat.reduceEqDiff, Nat.reduceLT]
    apply hK7; clear hK7 K7
    refine awp_seq_k fun K8 hK8 => ?_
    refine awp_cond rfl ?_ ?_
    · intro hc
      have hlt : i < p.legs.length := by simpa using hc
      obtain ⟨l, hl⟩ : ∃ l, p.legs[i]? = some l := ⟨_, List.getElem?_eq_getElem hlt⟩
      refine awp_skip ?_
      simp only [athen]
      apply hK8; clear hK8 K8
      refine awp_seq_k fun K9 hK9 => ?_
      refine awp_block ?_  -- block 1
      refine awp_seq_k fun K10 hK10 => ?_
      refine awp_region rfl ?_  -- region 5
      simp only [go_sem, vcSeq, Nat.reduceAdd, Nat.reduceMul, Nat.reduceSub, Nat.reduceLeDiff, Nat.reduceEqDiff, Nat.reduceLT, hl, legAV]
      refine ⟨⟨by omega, by omega⟩, ?_⟩
      apply hK10; clear hK10 K10
      refine awp_seq_k fun K11 hK11 => ?_
      refine awp_region rfl ?_  -- region 6
      simp only [go_sem, vcSeq, Nat.reduceAdd, Nat.reduceMul, Nat.reduceSub, Nat.reduceLeDiff, Nat.reduceEqDiff, Nat.reduceLT]
      refine vsem_call (fun hN => lstep_pure0 rfl rfl rfl ⟨Tryd.func73, rfl, rfl⟩ hN (w73 l) rfl ⟨⟨trivial, trivial, trivial, trivial⟩, trivial⟩) (.inl rfl) ?_
      simp only [go_sem, vcSeq, Nat.reduceAdd, Nat.reduceMul, Nat.reduceSub, Nat.reduceLeDiff, Nat.reduceEqDiff, Nat.reduceLT]
      apply hK11; clear hK11 K11
      refine awp_cond rfl ?_ ?_
      · intro hc2
        refine awp_seq_k fun K12 hK12 => ?_
        refine awp_region rfl ?_  -- region 7
        simp only [go_sem, vcSeq, Nat.reduceAdd, Nat.reduceMul, Nat.reduceSub, Nat.reduceLeDiff, Nat.reduceEqDiff, Nat.reduceLT]
        apply hK12; clear hK12 K12
        refine awp_ret ?_
        simp only [go_sem, loopQ]
        refine final0 ?_ trivial
        simp only [go_sem, Nat.reduceEqDiff]
        have : p.legs.all legOk = false := by
          rw [List.all_eq_false]
          exact ⟨l, List.mem_of_getElem? hl, by simpa using hc2⟩
        simp [postOk, this]
      · intro hc2
        refine awp_skip ?_
        simp only [go_sem, loopQ]
        apply hK9; clear hK9 K9
        refine awp_region rfl ?_  -- region 8
        have hw : IntKind.i64.wrap ((i : Int) + 1) = ((i + 1 : Nat) : Int) := by rw [IntKind.wrap_i64]; omega
        simp only [go_sem, vcSeq, Nat.reduceAdd, Nat.reduceMul, Nat.reduceSub, Nat.reduceLeDiff, Nat.reduceEqDiff, Nat.reduceLT, loopQ, hw]
        refine ⟨i + 1, ⟨by omega, fun j l' hj hl' => ?_⟩, by omega, [], ?_⟩
        · by_cases e : j = i
          · subst e; rw [hl] at hl'; cases hl'; simpa using hc2
          · exact hall j l' (by omega) hl'
        · simp only [go_sem, Nat.reduceEqDiff, Nat.reduceLeDiff]
    · intro hc
      refine awp_exit ?_
      simp only [go_sem, loopQ, Nat.reduceEqDiff]
      clear hK8 K8
      apply hK5; clear hK5 K5
      refine awp_seq_k fun K13 hK13 => ?_
      refine awp_region rfl ?_  -- region 9
      simp only [go_sem, vcSeq, Nat.reduceAdd, Nat.reduceMul, Nat.reduceSub, Nat.reduceLeDiff, Nat.reduceEqDiff, Nat.reduceLT]
      apply hK13; clear hK13 K13
      refine awp_ret (final0 ?_ trivial)
      simp only [go_sem, Nat.reduceEqDiff]
      have : p.legs.all legOk = true := by
        rw [List.all_eq_true]
        intro l hl
        obtain ⟨j, hj⟩ := List.getElem?_of_mem hl
        exact hall j l (by have := (List.getElem?_eq_some_iff.1 hj).1; have : ¬ (i : Int) < p.legs.length := by simpa using hc
                           omega) hj
      simp only [postOk, this, hc0, Bool.not_false, Bool.and_self]
end Go.Proofs.T
end

/- C1 -/
section
set_option linter.unusedVariables false
set_option linter.unusedSimpArgs false
open Go Go.Abs Go.Proofs
namespace Go.Proofs.T
set_option maxRecDepth 20000

theorem legAV_ren (σ : Nat → Nat) (ls : List Leg) : renL σ (ls.map legAV) = ls.map legAV := renL_closed σ (legAV_bel _ ls)
attribute [local go_sem] legAV_bel legAV_ren
/-- The legs of a right posting, in turn. -/
def legsOf (p : Post) : List Leg := if postOk p then p.legs else []
def boxPost (p : Post) : AObj := .cells 31 [.raw (.int .i64 p.id), .sl 3 (p.legs.map legAV)]

theorem w78 (p : Post) (k : Nat) (hk : 1000 ≤ k) : Iter P 78 [.ptr k 0] [(k, boxPost p)] (fun l : Leg => [legAV l]) (legsOf p) := by
  intro S Hx Inv nxt l s0 hCH hfar hnd hkk hy hI0
  have hF : ∀ s, Far (Hx s) (Hx s) := fun s => ⟨fun q hq => (hfar s q hq).1, fun q hq => (hfar s q hq).2, hnd s⟩
  have hbox : ∀ s, get (Hx s) k = some (boxPost p) := fun s => (hCH s).1
  have h0k : (0 = k) = False := by simp; omega
  refine gives_of_awp (fn := Tryd.f78) (N := 20) (vs := []) ⟨Tryd.func78, rfl, rfl⟩ rfl rfl (by simp) ?_
  simp only [enumE]
  refine awp_seq_k fun K1 hK1 => ?_
  refine awp_seq_k fun K2 hK2 => ?_
  refine awp_region rfl ?_  -- region 0
  simp only [go_sem, vcSeq, Nat.reduceAdd, Nat.reduceMul, Nat.reduceSub, Nat.reduceLeDiff, Nat.reduceEqDiff, Nat.reduceLT, hbox, boxPost]
  -- CALL 1  t6 := call F54(t5)  :4 [after 0]
  refine vsem_call (fun hN => lstep_pure0 rfl rfl rfl ⟨Tryd.func54, rfl, rfl⟩ hN (w54 p) rfl ?_) (.inl rfl) ?_
  · simp only [go_sem, postAV, Nat.reduceAdd, Nat.reduceMul, Nat.reduceSub, Nat.reduceLeDiff, Nat.reduceEqDiff, Nat.reduceLT]
  simp only [go_sem, vcSeq, Nat.reduceAdd, Nat.reduceMul, Nat.reduceSub, Nat.reduceLeDiff, Nat.reduceEqDiff, Nat.reduceLT]
  apply hK2; clear hK2 K2
  refine awp_cond rfl ?_ ?_
  · intro hc
    refine awp_ret ?_
    have hl : legsOf p = [] := by simp [legsOf]; intro h; simp [h] at hc
    rw [hl]
    exact (hF s0).final rfl trivial
  · intro hc
    have hok : postOk p = true := by simpa using hc
    have hl : legsOf p = p.legs := by simp [legsOf, hok]
    have hl4 : p.legs.length ≤ 4 := by
      simp [postOk] at hok
      omega
    rw [hl]
    refine awp_skip ?_
    simp only [athen]
    apply hK1; clear hK1 K1
    refine awp_seq_k fun K3 hK3 => ?_
    refine awp_region rfl ?_  -- region 1
    simp only [go_sem, vcSeq, Nat.reduceAdd, Nat.reduceMul, Nat.reduceSub, Nat.reduceLeDiff, Nat.reduceEqDiff, Nat.reduceLT, hbox, boxPost]
    apply hK3; clear hK3 K3
    refine awp_block ?_  -- block 0
    refine awp_loop_c (α := Nat × S) (fun x => x.1 ≤ p.legs.length ∧ Inv (p.legs.drop x.1) x.2 ∧ runL nxt (p.legs.drop x.1) x.2 = runL nxt p.legs s0) (fun x => p.legs.length - x.1)
      (fun x => ([(11, .raw (.int .i64 (x.1 : Int))), (10, .raw (.int .i64 (p.legs.length : Int))), (9, .sl 3 (p.legs.map legAV)), (0, .raw (.func (.yield l) #[] #[])), (1, .ptr k 0)], Hx x.2)) 0 (0, s0) ⟨Nat.zero_le _, by rw [hl] at hI0; exact hI0, by simp⟩ [] ?_ ?_
    · refine (hF s0).told ?_
      simp only [go_sem, Nat.reduceEqDiff, Int.natCast_zero]
      simp [hk]
    rintro ⟨i, s⟩ ⟨hi, hIs, hrun⟩
    simp only at hi hIs hrun ⊢
    refine awp_seq_k fun K4 hK4 => ?_
    refine awp_region rfl ?_  -- region 2
    simp only [go_sem, vcSeq, Nat.reduceAdd, Nat.reduceMul, Nat.reduceSub, Nat.reduceLeDiff, Nat.reduceEqDiff, Nat.reduceLT]
    apply hK4; clear hK4 K4
    refine awp_seq_k fun K5 hK5 => ?_
    refine awp_cond rfl ?_ ?_
    · intro hc
      have hlt : i < p.legs.length := by simpa using hc
      obtain ⟨x, hx⟩ : ∃ x, p.legs[i]? = some x := ⟨_, List.getElem?_eq_getElem hlt⟩
      have hdrop : p.legs.drop i = x :: p.legs.drop (i + 1) := by
        rw [List.drop_eq_getElem_cons hlt]
        rw [List.getElem?_eq_getElem hlt] at hx
        cases hx; rfl
      rw [hdrop] at hrun hIs
      obtain ⟨hy1, hy2⟩ := hy s x _ hIs (by rw [hl]; exact List.mem_of_getElem? hx)
      refine awp_skip ?_
      simp only [athen]
      apply hK5; clear hK5 K5
      refine awp_seq_k fun K6 hK6 => ?_
      refine awp_block ?_  -- block 1
      refine awp_seq_k fun K7 hK7 => ?_
      refine awp_region rfl ?_  -- region 3
      simp only [go_sem, vcSeq, Nat.reduceAdd, Nat.reduceMul, Nat.reduceSub, Nat.reduceLeDiff, Nat.reduceEqDiff, Nat.reduceLT, hx, legAV, get_put]
      refine ⟨⟨by omega, by omega⟩, ?_⟩
      apply hK7; clear hK7 K7
      refine awp_seq_k fun K8 hK8 => ?_
      refine awp_region rfl ?_  -- region 4
      simp only [go_sem, vcSeq, Nat.reduceAdd, Nat.reduceMul, Nat.reduceSub, Nat.reduceLeDiff, Nat.reduceEqDiff, Nat.reduceLT, get_put]
      -- CALL 2  t17 := call t15(t16)  :4 [after 0,1]
      refine vsem_call (fun hN => lstep_yield rfl rfl rfl rfl hN hy1 rfl ⟨⟨trivial, trivial, trivial, trivial⟩, trivial⟩ (Far.fit (((hF s).put (by omega) _).put (by omega) _) (hkk _ _))) (.inl rfl) ?_
      simp only [go_sem, vcSeq, Nat.reduceAdd, Nat.reduceMul, Nat.reduceSub, Nat.reduceLeDiff, Nat.reduceEqDiff, Nat.reduceLT]
      apply hK8; clear hK8 K8
      refine awp_cond rfl ?_ ?_
      · intro hc2
        have hn : (nxt s x).2 = false := by simpa using hc2
        refine awp_ret ?_
        simp only [go_sem, loopQ]
        rw [runL, hn] at hrun
        simp only [Bool.false_eq_true, if_false] at hrun
        rw [hl, ← hrun]
        exact (hF _).over.final rfl trivial
      · intro hc2
        have hn : (nxt s x).2 = true := by simpa using hc2
        rw [runL, hn] at hrun
        simp only [if_true] at hrun
        refine awp_skip ?_
        simp only [go_sem, loopQ]
        apply hK6; clear hK6 K6
        refine awp_region rfl ?_  -- region 5
        have hw : IntKind.i64.wrap ((i : Int) + 1) = ((i + 1 : Nat) : Int) := by rw [IntKind.wrap_i64]; omega
        simp only [go_sem, vcSeq, hw, Nat.reduceAdd, Nat.reduceMul, Nat.reduceSub, Nat.reduceLeDiff, Nat.reduceEqDiff, Nat.reduceLT]
        simp only [loopQ]
        refine ⟨(i + 1, (nxt s x).1), ⟨by omega, hy2 hn, hrun⟩, by omega, [], ?_⟩
        refine (hF _).over.told ?_
        simp only [go_sem, Nat.reduceEqDiff, Nat.reduceLeDiff]
        simp [hk]
    · intro hc
      have hge : p.legs.length ≤ i := by
        have : ¬ (i : Int) < p.legs.length := by simpa using hc
        omega
      refine awp_exit ?_
      simp only [go_sem, loopQ, Nat.reduceEqDiff]
      clear hK5 K5
      rw [List.drop_eq_nil_of_le hge] at hrun
      rw [hl, ← hrun]
      exact (hF s).final rfl trivial

theorem w61 (p : Post) : Gives P 61 [postAV p] [] 0 (.fn (.func 78) [] [.ptr 0 0]) [(0, boxPost p)] 1 := by
  refine gives_of_awp (fn := Tryd.f61) (N := 4) (vs := [.tmp 2]) ⟨Tryd.func61, rfl, rfl⟩ rfl rfl (by simp) ?_
  simp only [enumE, postAV]
  refine awp_seq_k fun K1 hK1 => ?_
  refine awp_region rfl ?_  -- region 0
  simp only [go_sem, vcSeq, Nat.reduceAdd, Nat.reduceMul, Nat.reduceSub, Nat.reduceLeDiff, Nat.reduceEqDiff, Nat.reduceLT]
  apply hK1; clear hK1 K1
  refine awp_seq_k fun K2 hK2 => ?_
  refine awp_region rfl ?_  -- region 1
  simp only [go_sem, vcSeq, Nat.reduceAdd, Nat.reduceMul, Nat.reduceSub, Nat.reduceLeDiff, Nat.reduceEqDiff, Nat.reduceLT]
  apply hK2; clear hK2 K2
  refine awp_ret ⟨[], ?_⟩
  simp only [go_sem, boxPost, AObj.bel, AObj.ren, renL_nil, Nat.reduceAdd, Nat.reduceMul, Nat.reduceSub, Nat.reduceLeDiff, Nat.reduceEqDiff, Nat.reduceLT]

/-- The sum of what a leg list brings in a currency. -/
def addLeg (cur : Int) (s : Int) (l : Leg) : Int := if l.cur = cur then IntKind.i64.wrap (s + l.n) else s
def postSum (p : Post) (cur : Int) : Int := (legsOf p).foldl (addLeg cur) 0

theorem runL_fold {α S : Type} (f : S → α → S) : ∀ (xs : List α) (s : S), runL (fun s x => (f s x, true)) xs s = xs.foldl f s
  | [], s => rfl
  | x :: r, s => by simp [runL, runL_fold f r]

theorem w55 (p : Post) (cur : Int) : Pure P 55 [postAV p, .raw (.int .i64 cur)] [] 0 (.raw (.int .i64 (postSum p cur))) := by
  refine pure_of_awp (fn := Tryd.f55) (N := 19) (vs := [.tmp 4]) ⟨Tryd.func55, rfl, rfl⟩ rfl rfl (by simp) ?_
  simp only [enumE, postAV]
  refine awp_seq_k fun K1 hK1 => ?_
  refine awp_region rfl ?_  -- region 0
  simp only [go_sem, vcSeq, Nat.reduceAdd, Nat.reduceMul, Nat.reduceSub, Nat.reduceLeDiff, Nat.reduceEqDiff, Nat.reduceLT]
  apply hK1; clear hK1 K1
  refine awp_seq_k fun K2 hK2 => ?_
  refine awp_region rfl ?_  -- region 1
  simp only [go_sem, vcSeq, Nat.reduceAdd, Nat.reduceMul, Nat.reduceSub, Nat.reduceLeDiff, Nat.reduceEqDiff, Nat.reduceLT]
  apply hK2; clear hK2 K2
  refine awp_seq_k fun K3 hK3 => ?_
  refine awp_seq_k fun K4 hK4 => ?_
  refine awp_region rfl ?_  -- region 2
  simp only [go_sem, vcSeq, Nat.reduceAdd, Nat.reduceMul, Nat.reduceSub, Nat.reduceLeDiff, Nat.reduceEqDiff, Nat.reduceLT]
  -- CALL 1  t8 := call F61(t7)  :91 [after 0]
  refine vsem_call (fun hN => lstep_gives (s := []) 1 rfl rfl rfl ⟨Tryd.func61, rfl, rfl⟩ hN (w61 p) rfl (by simp only [go_sem, postAV, Nat.reduceEqDiff]) ?_ ?_) (.inr (by decide)) ?_
  · simp only [go_sem, postAV]
  · exact ⟨trivial, List.nodup_nil, (fun i hi => by omega), (fun p hp => by cases hp), (fun p hp => .inr (by simp at hp; subst hp; simp)), (fun p hp => by cases hp), by omega⟩
  simp only [go_sem, vcSeq, boxPost, AObj.ren, AV.ren, renL, shift, Nat.reduceAdd, Nat.reduceMul, Nat.reduceSub, Nat.reduceLeDiff, Nat.reduceEqDiff, Nat.reduceLT]
  apply hK4; clear hK4 K4
  refine awp_block ?_  -- block 0
  refine awp_rangeFunc (S := Int) (cap := [.ptr 3 0]) (CH := [(1003, boxPost p)]) (enc := fun l : Leg => [legAV l]) (xs := legsOf p) (fn := Tryd.f78)
    (fun s => [(1, .cells 3 [.raw (.int .i64 cur)]), (2, .cells 3 [.raw (.int .i64 s)]), (3, boxPost p)]) [(5, .ptr 2 0), (3, .ptr 1 0)] (fun _ _ => True) (fun _ => none) (fun s x => (addLeg cur s x, true)) 0
    (by decide) rfl ⟨Tryd.func78, rfl, rfl⟩ ⟨(by simp [AV.bel]), trivial⟩ (w78 p 1003 (by decide)) (fun x _ => ⟨rfl, ⟨trivial, trivial, trivial, trivial⟩, trivial⟩) (by decide) ?_ ?_ ?_ ?_ ?_ ?_ trivial (fun _ _ _ => rfl) ?_ ?_
  · simp [Abs.get, AV.bel]
  · simp only [go_sem, boxPost, Nat.reduceEqDiff]
  · intro s q hq
    simp only [List.mem_cons, List.not_mem_nil, or_false] at hq
    rcases hq with rfl | rfl | rfl <;> simp [AObj.bel, belL, AV.bel, boxPost, legAV_bel]
  · intro s; simp
  · intro s s'; rfl
  · intro s
    simp only [go_sem, boxPost, AObj.ren, AV.ren, renL, Nat.reduceAdd, Nat.reduceLT, Nat.reduceEqDiff]
  · intro s x r l _ hx
    refine ⟨?_, rfl, fun _ => trivial⟩
    simp only [go_sem]
    refine awp_region rfl ?_  -- region 3
    simp only [go_sem, vcSeq, legAV, Nat.reduceAdd, Nat.reduceMul, Nat.reduceSub, Nat.reduceLeDiff, Nat.reduceEqDiff, Nat.reduceLT]
    refine awp_block ?_  -- block 1
    refine awp_seq_k fun K5 hK5 => ?_
    refine awp_region rfl ?_  -- region 4
    simp only [go_sem, vcSeq, Nat.reduceAdd, Nat.reduceMul, Nat.reduceSub, Nat.reduceLeDiff, Nat.reduceEqDiff, Nat.reduceLT]
    apply hK5; clear hK5 K5
    refine awp_cond rfl ?_ ?_
    · intro hc
      have he : x.cur = cur := by simpa using hc
      refine awp_region rfl ?_  -- region 5
      simp only [go_sem, vcSeq, Nat.reduceAdd, Nat.reduceMul, Nat.reduceSub, Nat.reduceLeDiff, Nat.reduceEqDiff, Nat.reduceLT, addLeg, he, boxPost]
    · intro hc
      have he : ¬ x.cur = cur := by simpa using hc
      refine awp_skip ?_
      simp only [go_sem, Nat.reduceEqDiff, addLeg, he, boxPost]
  rw [runL_fold]
  simp only [go_sem, boxPost, Nat.reduceEqDiff]
  apply hK3; clear hK3 K3
  refine awp_seq_k fun K6 hK6 => ?_
  refine awp_region rfl ?_  -- region 6
  simp only [go_sem, vcSeq, Nat.reduceAdd, Nat.reduceMul, Nat.reduceSub, Nat.reduceLeDiff, Nat.reduceEqDiff, Nat.reduceLT]
  apply hK6; clear hK6 K6
  refine awp_ret (final0 ?_ trivial)
  simp only [go_sem, postSum, Nat.reduceEqDiff]
end Go.Proofs.T
end

/- C2 -/
section
set_option linter.unusedVariables false
set_option linter.unusedSimpArgs false
open Go Go.Abs Go.Proofs
namespace Go.Proofs.T
set_option maxRecDepth 20000
attribute [local go_sem] legAV_bel legAV_ren

def iV (n : Int) : AV := .raw (.int .i64 n)
def sumStep (cur : Int) (m : List (ByteArray × Int)) (l : Leg) : List (ByteArray × Int) := if l.cur = cur then mset m l.acct (IntKind.i64.wrap (mval m l.acct 0 + l.n)) else m
def sums (p : Post) (cur : Int) : List (ByteArray × Int) := (legsOf p).foldl (sumStep cur) []
abbrev sMap (m : List (ByteArray × Int)) : AObj := .map 9 3 (mAV Value.string iV m)
theorem FM : mapInfo Tryd.prog 80 = some (9, 3) ∧ mapInfo Tryd.prog 67 = some (3, 3) ∧ mapInfo Tryd.prog 68 = some (72, 3) := by refine ⟨?_, ?_, ?_⟩ <;> kernel_rfl
attribute [go_sem] FM
theorem key9 : KeyT P 9 (Go.MapKept.IsKey .string) := keyT_string (by kernel_rfl)
theorem key3 : KeyT P 3 (Go.MapKept.IsKey (.int .i64)) := keyT_int (by kernel_rfl)
theorem sums_ren (σ : Nat → Nat) (m : List (ByteArray × Int)) : ((mAV Value.string iV m).map fun p => (p.1, p.2.ren σ)) = mAV Value.string iV m := mAV_ren σ (fun _ => rfl) m
theorem sums_bel (U : Nat → Prop) (m : List (ByteArray × Int)) : belL U ((mAV Value.string iV m).map (·.2)) := mAV_bel (eV := iV) (fun _ => trivial) m

theorem legsOf_len (p : Post) : (legsOf p).length ≤ 4 := by
  unfold legsOf
  split
  · rename_i h
    simp [postOk] at h
    omega
  · simp

theorem w47 (p : Post) (cur : Int) : Gives P 47 [postAV p, .raw (.int .i64 cur)] [] 0 (.ref 0) [(0, sMap (sums p cur))] 1 := by
  refine gives_of_awp (fn := Tryd.f47) (N := 23) (vs := [.tmp 4]) ⟨Tryd.func47, rfl, rfl⟩ rfl rfl (by simp) ?_
  simp only [enumE, postAV]
  refine awp_seq_k fun K1 hK1 => ?_
  refine awp_region rfl ?_  -- region 0
  simp only [go_sem, vcSeq, Nat.reduceAdd, Nat.reduceMul, Nat.reduceSub, Nat.reduceLeDiff, Nat.reduceEqDiff, Nat.reduceLT]
  apply hK1; clear hK1 K1
  refine awp_seq_k fun K2 hK2 => ?_
  refine awp_region rfl ?_  -- region 1
  simp only [go_sem, vcSeq, Nat.reduceAdd, Nat.reduceMul, Nat.reduceSub, Nat.reduceLeDiff, Nat.reduceEqDiff, Nat.reduceLT]
  apply hK2; clear hK2 K2
  refine awp_seq_k fun K3 hK3 => ?_
  refine awp_seq_k fun K4 hK4 => ?_
  refine awp_region rfl ?_  -- region 2
  simp only [go_sem, vcSeq, Nat.reduceAdd, Nat.reduceMul, Nat.reduceSub, Nat.reduceLeDiff, Nat.reduceEqDiff, Nat.reduceLT]
  -- CALL 1  t8 := call F61(t7)  :91 [after 0]
  refine vsem_call (fun hN => lstep_gives (s := []) 1 rfl rfl rfl ⟨Tryd.func61, rfl, rfl⟩ hN (w61 p) rfl (by simp only [go_sem, postAV, Nat.reduceEqDiff]) ?_ ?_) (.inr (by decide)) ?_
  · simp only [go_sem, postAV]
  · exact ⟨trivial, List.nodup_nil, (fun i hi => by omega), (fun p hp => by cases hp), (fun p hp => .inr (by simp at hp; subst hp; simp)), (fun p hp => by cases hp), by omega⟩
  simp only [go_sem, vcSeq, boxPost, AObj.ren, AV.ren, renL, shift, Nat.reduceAdd, Nat.reduceMul, Nat.reduceSub, Nat.reduceLeDiff, Nat.reduceEqDiff, Nat.reduceLT]
  apply hK4; clear hK4 K4
  refine awp_block ?_  -- block 0
  refine awp_rangeFunc (S := List (ByteArray × Int)) (cap := [.ptr 4 0]) (CH := [(1004, boxPost p)]) (enc := fun l : Leg => [legAV l]) (xs := legsOf p) (fn := Tryd.f78)
    (fun m => [(1, .cells 3 [.raw (.int .i64 cur)]), (2, sMap m), (3, .cells 80 [.ref 2]), (4, boxPost p)]) [(5, .ptr 3 0), (3, .ptr 1 0)]
    (fun r m => (m.map (·.1)).Nodup ∧ m.length + r.length ≤ 4) (fun _ => none) (fun s x => (sumStep cur s x, true)) []
    (by decide) rfl ⟨Tryd.func78, rfl, rfl⟩ ⟨(by simp [AV.bel]), trivial⟩ (w78 p 1004 (by decide)) (fun x _ => ⟨rfl, ⟨trivial, trivial, trivial, trivial⟩, trivial⟩) (by decide) ?_ ?_ ?_ ?_ ?_ ?_ ⟨List.nodup_nil, by simpa using legsOf_len p⟩ (fun _ _ _ => rfl) ?_ ?_
  · simp [Abs.get, AV.bel]
  · simp only [go_sem, boxPost, Nat.reduceEqDiff]; simp [mAV]
  · intro s q hq
    simp only [List.mem_cons, List.not_mem_nil, or_false] at hq
    rcases hq with rfl | rfl | rfl | rfl <;> simp [AObj.bel, belL, AV.bel, boxPost, legAV_bel, sums_bel]
  · intro s; simp
  · intro s s'; rfl
  · intro s
    simp only [go_sem, boxPost, AObj.ren, AV.ren, renL, Nat.reduceAdd, Nat.reduceLT, Nat.reduceEqDiff]
  · intro s x r l ⟨hnd, hlen⟩ hx
    have hlen' : s.length + 1 < maxLen := by simp [maxLen] at hlen ⊢; omega
    refine ⟨?_, rfl, fun _ => ?_⟩
    rotate_left
    · unfold sumStep
      split
      · have := mset_length x.acct (IntKind.i64.wrap (mval s x.acct 0 + x.n)) s
        simp only [List.length_cons] at hlen
        exact ⟨mset_nodup _ _ _ hnd, by show (mset _ _ _).length + _ ≤ 4; omega⟩
      · simp only [List.length_cons] at hlen
        exact ⟨hnd, by show s.length + _ ≤ 4; omega⟩
    simp only [go_sem]
    refine awp_region rfl ?_  -- region 3
    simp only [go_sem, vcSeq, legAV, Nat.reduceAdd, Nat.reduceMul, Nat.reduceSub, Nat.reduceLeDiff, Nat.reduceEqDiff, Nat.reduceLT]
    refine awp_block ?_  -- block 1
    refine awp_seq_k fun K5 hK5 => ?_
    refine awp_region rfl ?_  -- region 4
    simp only [go_sem, vcSeq, Nat.reduceAdd, Nat.reduceMul, Nat.reduceSub, Nat.reduceLeDiff, Nat.reduceEqDiff, Nat.reduceLT]
    apply hK5; clear hK5 K5
    refine awp_cond rfl ?_ ?_
    · intro hc
      have he : x.cur = cur := by simpa using hc
      refine awp_region rfl ?_  -- region 5
      simp only [go_sem, vcSeq, Nat.reduceAdd, Nat.reduceMul, Nat.reduceSub, Nat.reduceLeDiff, Nat.reduceEqDiff, Nat.reduceLT]
      refine vsem_call (fun hN => lstep_look (eK := Value.string) (eV := iV) (k := x.acct) (z := 0) (m := s) rfl rfl hN FM.1 (by simp only [go_sem, iV]) key9 (fun a b h => Value.string.inj h) (fun a => trivial) rfl rfl hnd rfl rfl) (.inl rfl) ?_
      simp only [go_sem, vcSeq, iV, Nat.reduceAdd, Nat.reduceMul, Nat.reduceSub, Nat.reduceLeDiff, Nat.reduceEqDiff, Nat.reduceLT]
      refine vsem_call (fun hN => lstep_upd (eK := Value.string) (eV := iV) (k := x.acct) (v := IntKind.i64.wrap (mval s x.acct 0 + x.n)) (m := s) rfl rfl hN FM.1 key9 (fun a b h => Value.string.inj h) (fun a => trivial) rfl rfl hnd rfl rfl rfl hlen') (.inl rfl) ?_
      simp only [go_sem, vcSeq, iV, Nat.reduceAdd, Nat.reduceMul, Nat.reduceSub, Nat.reduceLeDiff, Nat.reduceEqDiff, Nat.reduceLT, boxPost, sumStep, he]
    · intro hc
      have he : ¬ x.cur = cur := by simpa using hc
      refine awp_skip ?_
      simp only [go_sem, Nat.reduceEqDiff, sumStep, he, boxPost]
  rw [runL_fold]
  simp only [go_sem, boxPost, Nat.reduceEqDiff]
  apply hK3; clear hK3 K3
  refine awp_seq_k fun K6 hK6 => ?_
  refine awp_region rfl ?_  -- region 6
  simp only [go_sem, vcSeq, Nat.reduceAdd, Nat.reduceMul, Nat.reduceSub, Nat.reduceLeDiff, Nat.reduceEqDiff, Nat.reduceLT]
  apply hK6; clear hK6 K6
  refine awp_ret ⟨[(0, 2)], ?_⟩
  simp only [go_sem, sg, AV.ren, AObj.ren, sums_ren, AObj.bel, sums_bel, sums, Nat.reduceAdd, Nat.reduceMul, Nat.reduceSub, Nat.reduceLeDiff, Nat.reduceEqDiff, Nat.reduceLT, Option.getD_some]
end Go.Proofs.T
end

/- C3 -/
section
set_option linter.unusedVariables false
set_option linter.unusedSimpArgs false
open Go Go.Abs Go.Proofs
namespace Go.Proofs.T
set_option maxRecDepth 20000
attribute [local go_sem] legAV_bel legAV_ren

theorem sums_nodup (p : Post) (cur : Int) : ((sums p cur).map (·.1)).Nodup := by
  unfold sums
  have : ∀ (ls : List Leg) (m : List (ByteArray × Int)), (m.map (·.1)).Nodup → ((ls.foldl (sumStep cur) m).map (·.1)).Nodup := by
    intro ls
    induction ls with
    | nil => exact fun m h => h
    | cons x r ih =>
      intro m h
      refine ih _ ?_
      unfold sumStep
      split
      · exact mset_nodup _ _ _ h
      · exact h
  exact this _ _ List.nodup_nil

def postTo (p : Post) (acct : ByteArray) (cur : Int) : Int := mval (sums p cur) acct 0

theorem w19 (p : Post) (acct : ByteArray) (cur : Int) : Pure P 19 [postAV p, .raw (.string acct), .raw (.int .i64 cur)] [] 0 (.raw (.int .i64 (postTo p acct cur))) := by  -- "loop.example/comptoir/impl.PostTo"
  refine pure_of_awp (fn := Tryd.f19) (N := 12) (vs := [.tmp 6]) ⟨Tryd.func19, rfl, rfl⟩ rfl rfl (by simp) ?_
  simp only [enumE, postAV]
  refine awp_seq_k fun K1 hK1 => ?_
  refine awp_region rfl ?_  -- region 0
  simp only [go_sem, vcSeq, Nat.reduceAdd, Nat.reduceMul, Nat.reduceSub, Nat.reduceLeDiff, Nat.reduceEqDiff, Nat.reduceLT]
  apply hK1; clear hK1 K1
  refine awp_seq_k fun K2 hK2 => ?_
  refine awp_region rfl ?_  -- region 1
  simp only [go_sem, vcSeq, Nat.reduceAdd, Nat.reduceMul, Nat.reduceSub, Nat.reduceLeDiff, Nat.reduceEqDiff, Nat.reduceLT]
  refine vsem_call (fun hN => lstep_gives (s := []) 1 rfl rfl rfl ⟨Tryd.func47, rfl, rfl⟩ hN (w47 p cur) rfl (by simp only [go_sem, postAV, Nat.reduceEqDiff]) ?_ ?_) (.inr (by decide)) ?_
  · simp only [go_sem, postAV]
  · exact ⟨trivial, List.nodup_nil, (fun i hi => by omega), (fun p hp => by cases hp), (fun p hp => .inr (by simp at hp; subst hp; simp)), (fun p hp => by cases hp), by omega⟩
  simp only [go_sem, vcSeq, sums_ren, AObj.ren, AV.ren, renL, shift, Nat.reduceAdd, Nat.reduceMul, Nat.reduceSub, Nat.reduceLeDiff, Nat.reduceEqDiff, Nat.reduceLT]
  refine vsem_call (fun hN => lstep_look (eK := Value.string) (eV := iV) (k := acct) (z := 0) (m := sums p cur) rfl rfl hN FM.1 (by simp only [go_sem, iV]) key9 (fun a b h => Value.string.inj h) (fun a => trivial) rfl rfl (sums_nodup p cur) rfl rfl) (.inl rfl) ?_
  simp only [go_sem, vcSeq, iV, Nat.reduceAdd, Nat.reduceMul, Nat.reduceSub, Nat.reduceLeDiff, Nat.reduceEqDiff, Nat.reduceLT]
  apply hK2; clear hK2 K2
  refine awp_ret (final0 ?_ trivial)
  simp only [go_sem, postTo, Nat.reduceEqDiff]

def postFair (p : Post) : Bool := postOk p && (decide (postSum p 1 = 0) && decide (postSum p 2 = 0) && decide (postSum p 3 = 0))

theorem w23 (p : Post) : Pure P 23 [postAV p] [] 0 (.raw (.bool (postFair p))) := by  -- "loop.example/comptoir/impl.PostFair"
  refine pure_of_awp (fn := Tryd.f23) (N := 15) (vs := [.tmp 2]) ⟨Tryd.func23, rfl, rfl⟩ rfl rfl (by simp) ?_
  simp only [enumE, postAV]
  refine awp_seq_k fun K1 hK1 => ?_
  refine awp_region rfl ?_  -- region 0
  simp only [go_sem, vcSeq, Nat.reduceAdd, Nat.reduceMul, Nat.reduceSub, Nat.reduceLeDiff, Nat.reduceEqDiff, Nat.reduceLT]
  apply hK1; clear hK1 K1
  refine awp_seq_k fun K2 hK2 => ?_
  refine awp_seq_k fun K3 hK3 => ?_
  refine awp_region rfl ?_  -- region 1
  simp only [go_sem, vcSeq, Nat.reduceAdd, Nat.reduceMul, Nat.reduceSub, Nat.reduceLeDiff, Nat.reduceEqDiff, Nat.reduceLT]
  -- CALL 1  t5 := call F54(t4)  :4 [after 0]
  refine vsem_call (fun hN => lstep_pure0 rfl rfl rfl ⟨Tryd.func54, rfl, rfl⟩ hN (w54 p) rfl ?_) (.inl rfl) ?_
  · simp only [go_sem, postAV, Nat.reduceAdd, Nat.reduceMul, Nat.reduceSub, Nat.reduceLeDiff, Nat.reduceEqDiff, Nat.reduceLT]
  simp only [go_sem, vcSeq, Nat.reduceAdd, Nat.reduceMul, Nat.reduceSub, Nat.reduceLeDiff, Nat.reduceEqDiff, Nat.reduceLT]
  apply hK3; clear hK3 K3
  refine awp_cond rfl ?_ ?_
  · intro hc
    refine awp_seq_k fun K4 hK4 => ?_
    refine awp_region rfl ?_  -- region 2
    simp only [go_sem, vcSeq, Nat.reduceAdd, Nat.reduceMul, Nat.reduceSub, Nat.reduceLeDiff, Nat.reduceEqDiff, Nat.reduceLT]
    apply hK4; clear hK4 K4
    refine awp_ret (final0 ?_ trivial)
    have : postOk p = false := by simpa using hc
    simp only [go_sem, postFair, this, Bool.false_and, Nat.reduceEqDiff]
  · intro hc
    have hok : postOk p = true := by simpa using hc
    refine awp_skip ?_
    simp only [athen]
    apply hK2; clear hK2 K2
    refine awp_seq_k fun K6 hK6 => ?_
    refine awp_seq_k fun K5 hK5 => ?_
    refine awp_region rfl ?_  -- region 3
    simp only [go_sem, vcSeq, Nat.reduceAdd, Nat.reduceMul, Nat.reduceSub, Nat.reduceLeDiff, Nat.reduceEqDiff, Nat.reduceLT]
    apply hK5; clear hK5 K5
    refine awp_block ?_  -- block 0
    refine awp_loop_c (fun i : Nat => 1 ≤ i ∧ i ≤ 4 ∧ ∀ j : Nat, 1 ≤ j → j < i → postSum p j = 0) (fun i => 4 - i) (fun i => ([(3, .raw (.int .i64 (i : Int))), (1, .ptr 0 0)], [(0, boxPost p)])) 1 1 ⟨Nat.le_refl _, by omega, fun j hj hj2 => by omega⟩ [] ?_ ?_
    · simp only [go_sem, boxPost, AObj.bel, Nat.reduceEqDiff, Nat.reduceLeDiff, Nat.reduceLT]
      simp
    rintro i ⟨hi1, hi4, hall⟩
    refine awp_seq_k fun K8 hK8 => ?_
    refine awp_seq_k fun K7 hK7 => ?_
    refine awp_region rfl ?_  -- region 4
    simp only [go_sem, vcSeq, Nat.reduceAdd, Nat.reduceMul, Nat.reduceSub, Nat.reduceLeDiff, Nat.reduceEqDiff, Nat.reduceLT]
    apply hK7; clear hK7 K7
    refine awp_cond rfl ?_ ?_
    · intro hc
      have hlt : i ≤ 3 := by have : (i : Int) ≤ 3 := by simpa using hc
                             omega
      refine awp_skip ?_
      simp only [athen]
      apply hK8; clear hK8 K8
      refine awp_seq_k fun K9 hK9 => ?_
      refine awp_block ?_  -- block 1
      refine awp_seq_k fun K10 hK10 => ?_
      refine awp_region rfl ?_  -- region 6
      simp only [go_sem, vcSeq, boxPost, Nat.reduceAdd, Nat.reduceMul, Nat.reduceSub, Nat.reduceLeDiff, Nat.reduceEqDiff, Nat.reduceLT]
      -- CALL 2  t13 := call F55(t11, t12)  :3 [after 0,1]
      refine vsem_call (fun hN => lstep_pure0 rfl rfl rfl ⟨Tryd.func55, rfl, rfl⟩ hN (w55 p i) rfl ?_) (.inl rfl) ?_
      · simp only [go_sem, postAV, Nat.reduceAdd, Nat.reduceMul, Nat.reduceSub, Nat.reduceLeDiff, Nat.reduceEqDiff, Nat.reduceLT]
      simp only [go_sem, vcSeq, Nat.reduceAdd, Nat.reduceMul, Nat.reduceSub, Nat.reduceLeDiff, Nat.reduceEqDiff, Nat.reduceLT]
      apply hK10; clear hK10 K10
      refine awp_cond rfl ?_ ?_
      · intro hc2
        refine awp_seq_k fun K11 hK11 => ?_
        refine awp_region rfl ?_  -- region 7
        simp only [go_sem, vcSeq, Nat.reduceAdd, Nat.reduceMul, Nat.reduceSub, Nat.reduceLeDiff, Nat.reduceEqDiff, Nat.reduceLT]
        apply hK11; clear hK11 K11
        refine awp_ret ?_
        simp only [go_sem, loopQ]
        refine final0 ?_ trivial
        simp only [go_sem, Nat.reduceEqDiff]
        have hne : postSum p i ≠ 0 := by simpa using hc2
        have : postFair p = false := by
          have h3 : i = 1 ∨ i = 2 ∨ i = 3 := by omega
          rcases h3 with rfl | rfl | rfl <;> simp at hne <;> simp [postFair, hne]
        rw [this]
      · intro hc2
        have he : postSum p i = 0 := by simpa using hc2
        refine awp_skip ?_
        simp only [go_sem, loopQ]
        apply hK9; clear hK9 K9
        refine awp_region rfl ?_  -- region 5
        have hw : IntKind.i64.wrap ((i : Int) + 1) = ((i + 1 : Nat) : Int) := by rw [IntKind.wrap_i64]; omega
        simp only [go_sem, vcSeq, hw, Nat.reduceAdd, Nat.reduceMul, Nat.reduceSub, Nat.reduceLeDiff, Nat.reduceEqDiff, Nat.reduceLT]
        simp only [loopQ]
        refine ⟨i + 1, ⟨by omega, by omega, fun j hj hj2 => ?_⟩, by omega, [], ?_⟩
        · by_cases e : j = i
          · rw [e]; exact he
          · exact hall j hj (by omega)
        · simp only [go_sem, boxPost, AObj.bel, Nat.reduceEqDiff, Nat.reduceLeDiff, Nat.reduceLT]
    · intro hc
      have hge : i = 4 := by have : ¬ (i : Int) ≤ 3 := by simpa using hc
                             omega
      subst hge
      refine awp_exit ?_
      simp only [go_sem, loopQ, Nat.reduceEqDiff]
      clear hK8 K8
      apply hK6; clear hK6 K6
      refine awp_seq_k fun K12 hK12 => ?_
      refine awp_region rfl ?_  -- region 8
      simp only [go_sem, vcSeq, Nat.reduceAdd, Nat.reduceMul, Nat.reduceSub, Nat.reduceLeDiff, Nat.reduceEqDiff, Nat.reduceLT]
      apply hK12; clear hK12 K12
      refine awp_ret (final0 ?_ trivial)
      have h1 := hall 1 (by omega) (by omega)
      have h2 := hall 2 (by omega) (by omega)
      have h3 := hall 3 (by omega) (by omega)
      simp at h1 h2 h3
      simp only [go_sem, postFair, hok, h1, h2, h3, Nat.reduceEqDiff]
      try simp
end Go.Proofs.T
end

/- C4 -/
section
set_option linter.unusedVariables false
set_option linter.unusedSimpArgs false
open Go Go.Abs Go.Proofs
namespace Go.Proofs.T
set_option maxRecDepth 20000
attribute [local go_sem] legAV_bel legAV_ren

theorem U103 : Tryd.prog.underlying 103 = some (.struct #[{ name := "code", type := 3, offset := 0, embedded := false, tag := "", pkgPath := "loop.example/comptoir/impl", byteOffset := 0 }]) := by kernel_rfl
attribute [go_sem] U103
structure Ledger where
  count : Int
  ids : List (Int × Int)
  bals : List ((ByteArray × Int) × Int)
def Ledger.ok (g : Ledger) : Prop := (g.ids.map (·.1)).Nodup ∧ (g.bals.map (·.1)).Nodup
def intK (n : Int) : Value := .int .i64 n
def sideK (k : ByteArray × Int) : Value := .agg #[.string k.1, .int .i64 k.2]
theorem intK_inj (a b : Int) (h : intK a = intK b) : a = b := by simpa [intK] using h
theorem sideK_inj (a b : ByteArray × Int) (h : sideK a = sideK b) : a = b := by
  simp [sideK] at h
  exact Prod.ext h.1 h.2
theorem sideK_key (a : ByteArray × Int) : isSI (sideK a) := ⟨a.1, a.2, rfl⟩
theorem intK_key (a : Int) : Go.MapKept.IsKey (.int .i64) (intK a) := rfl
theorem key72 : KeyT P 72 isSI := keyT_SI (f1 := { name := "acct", type := 9, offset := 0, embedded := false, tag := "", pkgPath := "loop.example/comptoir/impl", byteOffset := 0 })
  (f2 := { name := "cur", type := 3, offset := 1, embedded := false, tag := "", pkgPath := "loop.example/comptoir/impl", byteOffset := 16 }) (by kernel_rfl) (by kernel_rfl) (by kernel_rfl) (by decide) (by decide) (by kernel_rfl) (by kernel_rfl) rfl rfl
abbrev idsM (m : List (Int × Int)) : AObj := .map 3 3 (mAV intK iV m)
abbrev balM (m : List ((ByteArray × Int) × Int)) : AObj := .map 72 3 (mAV sideK iV m)
theorem ids_ren (σ : Nat → Nat) (m : List (Int × Int)) : ((mAV intK iV m).map fun p => (p.1, p.2.ren σ)) = mAV intK iV m := mAV_ren σ (fun _ => rfl) m
theorem ids_bel (U : Nat → Prop) (m : List (Int × Int)) : belL U ((mAV intK iV m).map (·.2)) := mAV_bel (eV := iV) (fun _ => trivial) m
theorem bal_ren (σ : Nat → Nat) (m : List ((ByteArray × Int) × Int)) : ((mAV sideK iV m).map fun p => (p.1, p.2.ren σ)) = mAV sideK iV m := mAV_ren σ (fun _ => rfl) m
theorem bal_bel (U : Nat → Prop) (m : List ((ByteArray × Int) × Int)) : belL U ((mAV sideK iV m).map (·.2)) := mAV_bel (eV := iV) (fun _ => trivial) m

def LH (g : Ledger) : Heap := [(0, .cells 70 [.raw (.int .i64 g.count), .ref 1, .ref 2]), (1, idsM g.ids), (2, balM g.bals)]
def errAV (c : Int) : AV := .iface 103 (.agg [.raw (.int .i64 c)])
def endAV (c : Int) : AV := if c = 0 then .raw .nilIface else errAV c

def overBal (g : Ledger) (p : Post) (l : Leg) : Int := IntKind.i64.wrap (mval g.bals (l.acct, l.cur) 0 + postTo p l.acct l.cur)
def over1 (g : Ledger) (p : Post) (l : Leg) : Bool := decide (2000 < overBal g p l) || decide (overBal g p l < -2000)
def chk (g : Ledger) (p : Post) : Int := if postFair p = false then 1 else if 0 < mval g.ids p.id 0 then 2 else if (legsOf p).any (over1 g p) then 3 else if 40 ≤ g.count then 4 else 0

theorem runL_any {α : Type} (f : α → Bool) : ∀ xs : List α, runL (fun (s : Bool) x => (f x, !f x)) xs false = xs.any f
  | [] => rfl
  | x :: r => by
    rw [runL]
    cases h : f x with
    | true => simp [h]
    | false => simp [h, runL_any f r]

theorem w44 (g : Ledger) (hg : g.ok) (p : Post) : Pure P 44 [.ptr 0 0, postAV p] (LH g) 3 (endAV (chk g p)) := by  -- "(*loop.example/comptoir/impl.ledger).check"
  refine pure_of_awp (fn := Tryd.f44) (N := 57) (vs := [.cell 4 76]) ⟨Tryd.func44, rfl, rfl⟩ rfl rfl (by simp) ?_
  simp only [enumE, postAV, LH]
  refine awp_seq_k fun K1 hK1 => ?_
  refine awp_region rfl ?_  -- region 0
  simp only [go_sem, vcSeq, Nat.reduceAdd, Nat.reduceMul, Nat.reduceSub, Nat.reduceLeDiff, Nat.reduceEqDiff, Nat.reduceLT]
  apply hK1; clear hK1 K1
  refine awp_seq_k fun K2 hK2 => ?_
  refine awp_seq_k fun K3 hK3 => ?_
  refine awp_region rfl ?_  -- region 1
  simp only [go_sem, vcSeq, Nat.reduceAdd, Nat.reduceMul, Nat.reduceSub, Nat.reduceLeDiff, Nat.reduceEqDiff, Nat.reduceLT]
  -- CALL 1  t8 := call F23(t7)  :4 [after 0]
  refine vsem_call (fun hN => lstep_pure0 rfl rfl rfl ⟨Tryd.func23, rfl, rfl⟩ hN (w23 p) rfl ?_) (.inl rfl) ?_
  · simp only [go_sem, postAV, Nat.reduceAdd, Nat.reduceMul, Nat.reduceSub, Nat.reduceLeDiff, Nat.reduceEqDiff, Nat.reduceLT]
  simp only [go_sem, vcSeq, Nat.reduceAdd, Nat.reduceMul, Nat.reduceSub, Nat.reduceLeDiff, Nat.reduceEqDiff, Nat.reduceLT]
  apply hK3; clear hK3 K3
  refine awp_cond rfl ?_ ?_
  · intro hc
    refine awp_seq_k fun K4 hK4 => ?_
    refine awp_region rfl ?_  -- region 2
    simp only [go_sem, vcSeq, Nat.reduceAdd, Nat.reduceMul, Nat.reduceSub, Nat.reduceLeDiff, Nat.reduceEqDiff, Nat.reduceLT]
    apply hK4; clear hK4 K4
    refine awp_ret ⟨[], ?_⟩
    have h0 : postFair p = false := by simpa using hc
    have he : endAV (chk g p) = errAV 1 := by simp [chk, h0, endAV]
    rw [he]
    simp only [go_sem, errAV, AObj.bel, ids_bel, bal_bel, Nat.reduceAdd, Nat.reduceMul, Nat.reduceSub, Nat.reduceLeDiff, Nat.reduceEqDiff, Nat.reduceLT]
    simp
  · intro hc
    have hfair : postFair p = true := by simpa using hc
    refine awp_skip ?_
    simp only [athen]
    apply hK2; clear hK2 K2
    refine awp_seq_k fun K5 hK5 => ?_
    refine awp_seq_k fun K6 hK6 => ?_
    refine awp_draw mixed rfl ?_  -- region 3
    simp only [go_sem, vcDraw, Nat.reduceAdd, Nat.reduceMul, Nat.reduceSub, Nat.reduceLeDiff, Nat.reduceEqDiff, Nat.reduceLT]
    refine vtr_call (fun hN => lstep_look (eK := intK) (eV := iV) (k := p.id) (z := 0) (m := g.ids) rfl rfl hN FM.2.1 (by simp only [go_sem, iV]) key3 intK_inj intK_key rfl rfl hg.1 rfl rfl) (.inl rfl) ?_
    simp only [go_sem, vcDraw, iV, Nat.reduceAdd, Nat.reduceMul, Nat.reduceSub, Nat.reduceLeDiff, Nat.reduceEqDiff, Nat.reduceLT]
    refine ⟨by rfl, ?_⟩
    apply hK6; clear hK6 K6
    refine awp_cond rfl ?_ ?_
    · intro hc
      have h2 : 0 < mval g.ids p.id 0 := by simpa using hc
      refine awp_seq_k fun K7 hK7 => ?_
      refine awp_region rfl ?_  -- region 4
      simp only [go_sem, vcSeq, Nat.reduceAdd, Nat.reduceMul, Nat.reduceSub, Nat.reduceLeDiff, Nat.reduceEqDiff, Nat.reduceLT]
      apply hK7; clear hK7 K7
      refine awp_ret ⟨[], ?_⟩
      have he : endAV (chk g p) = errAV 2 := by simp [chk, hfair, h2, endAV]
      rw [he]
      simp only [go_sem, errAV, AObj.bel, ids_bel, bal_bel, Nat.reduceAdd, Nat.reduceMul, Nat.reduceSub, Nat.reduceLeDiff, Nat.reduceEqDiff, Nat.reduceLT]
      simp
    · intro hc
      have h2 : ¬ 0 < mval g.ids p.id 0 := by simpa using hc
      refine awp_skip ?_
      simp only [athen]
      apply hK5; clear hK5 K5
      refine awp_seq_k fun K8 hK8 => ?_
      refine awp_seq_k fun K9 hK9 => ?_
      refine awp_region rfl ?_  -- region 5
      simp only [go_sem, vcSeq, Nat.reduceAdd, Nat.reduceMul, Nat.reduceSub, Nat.reduceLeDiff, Nat.reduceEqDiff, Nat.reduceLT]
      -- CALL 1  t23 := call F61(t22)  :91 [after 0]
      refine vsem_call (fun hN => lstep_gives (s := []) 1 rfl rfl rfl ⟨Tryd.func61, rfl, rfl⟩ hN (w61 p) rfl (by simp only [go_sem, postAV, Nat.reduceEqDiff]) ?_ ?_) (.inr (by decide)) ?_
      · simp only [go_sem, postAV]
      · exact ⟨trivial, List.nodup_nil, (fun i hi => by omega), (fun p hp => by cases hp), (fun p hp => .inr (by simp at hp; subst hp; simp)), (fun p hp => by cases hp), by omega⟩
      simp only [go_sem, vcSeq, boxPost, AObj.ren, AV.ren, renL, shift, Nat.reduceAdd, Nat.reduceMul, Nat.reduceSub, Nat.reduceLeDiff, Nat.reduceEqDiff, Nat.reduceLT]
      apply hK9; clear hK9 K9
      refine awp_block ?_  -- block 0
      refine awp_rangeFunc (S := Bool) (cap := [.ptr 6 0]) (CH := [(1006, boxPost p)]) (enc := fun l : Leg => [legAV l]) (xs := legsOf p) (fn := Tryd.f78)
        (fun b => [(0, .cells 70 [.raw (.int .i64 g.count), .ref 1, .ref 2]), (2, balM g.bals), (3, .cells 64 [.ptr 0 0]), (4, boxPost p), (5, .cells 76 [if b = true then errAV 3 else .raw .nilIface]), (6, boxPost p)]) [(2, .ptr 3 0), (3, .ptr 4 0), (4, .ptr 5 0)]
        (fun _ b => b = false) (fun b => if b = true then some .ret else none) (fun s x => (over1 g p x, !over1 g p x)) false
        (by decide) rfl ⟨Tryd.func78, rfl, rfl⟩ ⟨(by simp [AV.bel]), trivial⟩ (w78 p 1006 (by decide)) (fun x _ => ⟨rfl, ⟨trivial, trivial, trivial, trivial⟩, trivial⟩) (by decide) ?_ ?_ ?_ ?_ ?_ ?_ rfl (fun _ b hb => by rw [hb]; rfl) ?_ ?_
      · simp [Abs.get, AV.bel]
      · simp only [go_sem, boxPost, Nat.reduceEqDiff]
      · intro s q hq
        simp only [List.mem_cons, List.not_mem_nil, or_false] at hq
        rcases hq with rfl | rfl | rfl | rfl | rfl | rfl <;> simp [AObj.bel, belL, AV.bel, boxPost, legAV_bel, bal_bel]
        cases s <;> simp [AV.bel, belL, errAV]
      · intro s; simp
      · intro s s'; rfl
      · intro s
        simp only [go_sem, boxPost, AObj.ren, AV.ren, renL, Nat.reduceAdd, Nat.reduceLT, Nat.reduceEqDiff]
      · intro s x r l hs hx
        subst hs
        refine ⟨?_, by cases over1 g p x <;> rfl, fun h => by simpa using h⟩
        simp only [go_sem]
        refine awp_region rfl ?_  -- region 6
        simp only [go_sem, vcSeq, legAV, Nat.reduceAdd, Nat.reduceMul, Nat.reduceSub, Nat.reduceLeDiff, Nat.reduceEqDiff, Nat.reduceLT]
        refine awp_block ?_  -- block 1
        refine awp_seq_k fun K10 hK10 => ?_
        refine awp_draw mixed rfl ?_  -- region 7
        simp only [go_sem, vcDraw, boxPost, Nat.reduceAdd, Nat.reduceMul, Nat.reduceSub, Nat.reduceLeDiff, Nat.reduceEqDiff, Nat.reduceLT]
        refine vtr_call (fun hN => lstep_look (eK := sideK) (eV := iV) (k := (x.acct, x.cur)) (z := 0) (m := g.bals) rfl rfl hN FM.2.2 (by simp only [go_sem, iV]) key72 sideK_inj sideK_key rfl rfl hg.2 rfl rfl) (.inl rfl) ?_
        simp only [go_sem, vcDraw, iV, Nat.reduceAdd, Nat.reduceMul, Nat.reduceSub, Nat.reduceLeDiff, Nat.reduceEqDiff, Nat.reduceLT]
        -- CALL 15 t40 := call F19(t35, t37, t39)  :3 [after 10,12,14]
        refine vtr_call (fun hN => lstep_pure0 rfl rfl rfl ⟨Tryd.func19, rfl, rfl⟩ hN (w19 p x.acct x.cur) rfl ?_) (.inl rfl) ?_
        · simp only [go_sem, postAV, Nat.reduceAdd, Nat.reduceMul, Nat.reduceSub, Nat.reduceLeDiff, Nat.reduceEqDiff, Nat.reduceLT]
        simp only [go_sem, vcDraw, Nat.reduceAdd, Nat.reduceMul, Nat.reduceSub, Nat.reduceLeDiff, Nat.reduceEqDiff, Nat.reduceLT]
        refine ⟨by rfl, ?_⟩
        apply hK10; clear hK10 K10
        refine awp_seq_k fun K11 hK11 => ?_
        refine awp_region rfl ?_  -- region 8
        simp only [go_sem, vcSeq, Nat.reduceAdd, Nat.reduceMul, Nat.reduceSub, Nat.reduceLeDiff, Nat.reduceEqDiff, Nat.reduceLT]
        apply hK11; clear hK11 K11
        refine awp_cond rfl ?_ ?_
        · intro hc2
          have ho : over1 g p x = true := by unfold over1 overBal; simpa using hc2
          refine awp_seq_k fun K12 hK12 => ?_
          refine awp_region rfl ?_  -- region 9
          simp only [go_sem, vcSeq, Nat.reduceAdd, Nat.reduceMul, Nat.reduceSub, Nat.reduceLeDiff, Nat.reduceEqDiff, Nat.reduceLT]
          apply hK12; clear hK12 K12
          refine awp_ret ?_
          simp only [go_sem, ho, boxPost, errAV, Nat.reduceEqDiff]
        · intro hc2
          have ho : over1 g p x = false := by unfold over1 overBal; simpa using hc2
          refine awp_skip ?_
          simp only [go_sem, ho, boxPost, errAV, Nat.reduceEqDiff]
      rw [runL_any]
      by_cases hany : (legsOf p).any (over1 g p) = true
      · simp only [go_sem, hany, boxPost, Nat.reduceEqDiff]
        refine ⟨[], ?_⟩
        have he : endAV (chk g p) = errAV 3 := by simp only [chk, hfair, h2, endAV, hany]; simp
        rw [he]
        simp only [go_sem, errAV, AObj.bel, ids_bel, bal_bel, Nat.reduceAdd, Nat.reduceMul, Nat.reduceSub, Nat.reduceLeDiff, Nat.reduceEqDiff, Nat.reduceLT]
        simp
      have hany' : (legsOf p).any (over1 g p) = false := by simpa using hany
      simp only [go_sem, hany', boxPost, Nat.reduceEqDiff]
      apply hK8; clear hK8 K8
      refine awp_seq_k fun K13 hK13 => ?_
      refine awp_seq_k fun K14 hK14 => ?_
      refine awp_region rfl ?_  -- region 10
      simp only [go_sem, vcSeq, Nat.reduceAdd, Nat.reduceMul, Nat.reduceSub, Nat.reduceLeDiff, Nat.reduceEqDiff, Nat.reduceLT]
      apply hK14; clear hK14 K14
      refine awp_cond rfl ?_ ?_
      · intro hc3
        have h4 : 40 ≤ g.count := by simpa using hc3
        refine awp_seq_k fun K15 hK15 => ?_
        refine awp_region rfl ?_  -- region 11
        simp only [go_sem, vcSeq, Nat.reduceAdd, Nat.reduceMul, Nat.reduceSub, Nat.reduceLeDiff, Nat.reduceEqDiff, Nat.reduceLT]
        apply hK15; clear hK15 K15
        refine awp_ret ⟨[], ?_⟩
        have he : endAV (chk g p) = errAV 4 := by simp only [chk, hfair, h2, endAV, hany', h4]; simp
        rw [he]
        simp only [go_sem, errAV, AObj.bel, ids_bel, bal_bel, Nat.reduceAdd, Nat.reduceMul, Nat.reduceSub, Nat.reduceLeDiff, Nat.reduceEqDiff, Nat.reduceLT]
        simp
      · intro hc3
        have h4 : ¬ 40 ≤ g.count := by simpa using hc3
        refine awp_skip ?_
        simp only [athen]
        apply hK13; clear hK13 K13
        refine awp_seq_k fun K16 hK16 => ?_
        refine awp_region rfl ?_  -- region 12
        simp only [go_sem, vcSeq, Nat.reduceAdd, Nat.reduceMul, Nat.reduceSub, Nat.reduceLeDiff, Nat.reduceEqDiff, Nat.reduceLT]
        apply hK16; clear hK16 K16
        refine awp_ret ⟨[], ?_⟩
        have he : endAV (chk g p) = .raw .nilIface := by simp only [chk, hfair, h2, endAV, hany', h4]; simp
        rw [he]
        simp only [go_sem, errAV, AObj.bel, ids_bel, bal_bel, Nat.reduceAdd, Nat.reduceMul, Nat.reduceSub, Nat.reduceLeDiff, Nat.reduceEqDiff, Nat.reduceLT]
        simp
end Go.Proofs.T
end

/- C5 -/
section
set_option linter.unusedVariables false
set_option linter.unusedSimpArgs false
open Go Go.Abs Go.Proofs
namespace Go.Proofs.T
set_option maxRecDepth 20000
attribute [local go_sem] legAV_bel legAV_ren

def balStep (m : List ((ByteArray × Int) × Int)) (l : Leg) : List ((ByteArray × Int) × Int) := mset m (l.acct, l.cur) (IntKind.i64.wrap (mval m (l.acct, l.cur) 0 + l.n))
def ledAdd (g : Ledger) (p : Post) : Ledger := ⟨IntKind.i64.wrap (g.count + 1), mset g.ids p.id (IntKind.i64.wrap (mval g.ids p.id 0 + 1)), (legsOf p).foldl balStep g.bals⟩

theorem balStep_len (ls : List Leg) : ∀ m : List ((ByteArray × Int) × Int), (ls.foldl balStep m).length ≤ m.length + ls.length := by
  induction ls with
  | nil => intro m; simp
  | cons x r ih =>
    intro m
    have h1 := ih (balStep m x)
    have h2 := mset_length (x.acct, x.cur) (IntKind.i64.wrap (mval m (x.acct, x.cur) 0 + x.n)) m
    have h3 : (balStep m x).length ≤ m.length + 1 := h2
    simp only [List.foldl_cons, List.length_cons]
    omega
theorem balStep_nodup (ls : List Leg) : ∀ m : List ((ByteArray × Int) × Int), (m.map (·.1)).Nodup → ((ls.foldl balStep m).map (·.1)).Nodup := by
  induction ls with
  | nil => exact fun m h => h
  | cons x r ih => exact fun m h => ih _ (mset_nodup _ _ _ h)
theorem ledAdd_ok {g : Ledger} (hg : g.ok) (p : Post) : (ledAdd g p).ok := ⟨mset_nodup _ _ _ hg.1, balStep_nodup _ _ hg.2⟩

theorem w65 (g : Ledger) (hg : g.ok) (p : Post) (hi : g.ids.length ≤ 1000) (hb : g.bals.length ≤ 1000) : Gives P 65 [.ptr 0 0, postAV p] (LH g) 3 (.tup []) (LH (ledAdd g p)) 3 := by  -- "(*loop.example/comptoir/impl.ledger).add"
  refine gives_of_awp (fn := Tryd.f65) (N := 38) (vs := []) ⟨Tryd.func65, rfl, rfl⟩ rfl rfl (by simp) ?_
  simp only [enumE, postAV, LH]
  refine awp_seq_k fun K1 hK1 => ?_
  refine awp_region rfl ?_  -- region 0
  simp only [go_sem, vcSeq, Nat.reduceAdd, Nat.reduceMul, Nat.reduceSub, Nat.reduceLeDiff, Nat.reduceEqDiff, Nat.reduceLT]
  apply hK1; clear hK1 K1
  refine awp_seq_k fun K2 hK2 => ?_
  refine awp_region rfl ?_  -- region 1
  simp only [go_sem, vcSeq, Nat.reduceAdd, Nat.reduceMul, Nat.reduceSub, Nat.reduceLeDiff, Nat.reduceEqDiff, Nat.reduceLT]
  apply hK2; clear hK2 K2
  refine awp_seq_k fun K3 hK3 => ?_
  refine awp_draw mixed rfl ?_  -- region 2
  simp only [go_sem, vcDraw, Nat.reduceAdd, Nat.reduceMul, Nat.reduceSub, Nat.reduceLeDiff, Nat.reduceEqDiff, Nat.reduceLT]
  refine vtr_call (fun hN => lstep_look (eK := intK) (eV := iV) (k := p.id) (z := 0) (m := g.ids) rfl rfl hN FM.2.1 (by simp only [go_sem, iV]) key3 intK_inj intK_key rfl rfl hg.1 rfl rfl) (.inl rfl) ?_
  simp only [go_sem, vcDraw, iV, Nat.reduceAdd, Nat.reduceMul, Nat.reduceSub, Nat.reduceLeDiff, Nat.reduceEqDiff, Nat.reduceLT]
  refine vtr_call (fun hN => lstep_upd (eK := intK) (eV := iV) (k := p.id) (v := IntKind.i64.wrap (mval g.ids p.id 0 + 1)) (m := g.ids) rfl rfl hN FM.2.1 key3 intK_inj intK_key rfl rfl hg.1 rfl rfl rfl (by simp only [maxLen]; omega)) (.inl rfl) ?_
  simp only [go_sem, vcDraw, iV, Nat.reduceAdd, Nat.reduceMul, Nat.reduceSub, Nat.reduceLeDiff, Nat.reduceEqDiff, Nat.reduceLT]
  refine ⟨by rfl, ?_⟩
  apply hK3; clear hK3 K3
  refine awp_seq_k fun K4 hK4 => ?_
  refine awp_region rfl ?_  -- region 3
  simp only [go_sem, vcSeq, Nat.reduceAdd, Nat.reduceMul, Nat.reduceSub, Nat.reduceLeDiff, Nat.reduceEqDiff, Nat.reduceLT]
  -- CALL 1  t21 := call F61(t20)  :91 [after 0]
  refine vsem_call (fun hN => lstep_gives (s := []) 1 rfl rfl rfl ⟨Tryd.func61, rfl, rfl⟩ hN (w61 p) rfl (by simp only [go_sem, postAV, Nat.reduceEqDiff]) ?_ ?_) (.inr (by decide)) ?_
  · simp only [go_sem, postAV]
  · exact ⟨trivial, List.nodup_nil, (fun i hi => by omega), (fun p hp => by cases hp), (fun p hp => .inr (by simp at hp; subst hp; simp)), (fun p hp => by cases hp), by omega⟩
  simp only [go_sem, vcSeq, boxPost, AObj.ren, AV.ren, renL, shift, Nat.reduceAdd, Nat.reduceMul, Nat.reduceSub, Nat.reduceLeDiff, Nat.reduceEqDiff, Nat.reduceLT]
  apply hK4; clear hK4 K4
  refine awp_block ?_  -- block 0
  refine awp_rangeFunc (S := List ((ByteArray × Int) × Int)) (cap := [.ptr 5 0]) (CH := [(1005, boxPost p)]) (enc := fun l : Leg => [legAV l]) (xs := legsOf p) (fn := Tryd.f78)
    (fun m => [(0, .cells 70 [.raw (.int .i64 (IntKind.i64.wrap (g.count + 1))), .ref 1, .ref 2]), (2, balM m), (3, .cells 64 [.ptr 0 0]), (4, boxPost p), (5, boxPost p)]) [(2, .ptr 3 0), (3, .ptr 4 0)]
    (fun r m => (m.map (·.1)).Nodup ∧ m.length + r.length ≤ 1004) (fun _ => none) (fun s x => (balStep s x, true)) g.bals
    (by decide) rfl ⟨Tryd.func78, rfl, rfl⟩ ⟨(by simp [AV.bel]), trivial⟩ (w78 p 1005 (by decide)) (fun x _ => ⟨rfl, ⟨trivial, trivial, trivial, trivial⟩, trivial⟩) (by decide) ?_ ?_ ?_ ?_ ?_ ?_ ⟨hg.2, by have := legsOf_len p; omega⟩ (fun _ _ _ => rfl) ?_ ?_
  · simp [Abs.get, AV.bel]
  · simp only [go_sem, boxPost, Nat.reduceEqDiff]
  · intro s q hq
    simp only [List.mem_cons, List.not_mem_nil, or_false] at hq
    rcases hq with rfl | rfl | rfl | rfl | rfl <;> simp [AObj.bel, belL, AV.bel, boxPost, legAV_bel, bal_bel]
  · intro s; simp
  · intro s s'; rfl
  · intro s
    simp only [go_sem, boxPost, AObj.ren, AV.ren, renL, Nat.reduceAdd, Nat.reduceLT, Nat.reduceEqDiff]
  · intro s x r l ⟨hnd, hlen⟩ hx
    have hlen' : s.length + 1 < maxLen := by simp [maxLen] at hlen ⊢; omega
    refine ⟨?_, rfl, fun _ => ⟨mset_nodup _ _ _ hnd, ?_⟩⟩
    rotate_left
    · have := mset_length (x.acct, x.cur) (IntKind.i64.wrap (mval s (x.acct, x.cur) 0 + x.n)) s
      simp only [List.length_cons] at hlen
      show (mset _ _ _).length + _ ≤ _
      omega
    simp only [go_sem]
    refine awp_region rfl ?_  -- region 4
    simp only [go_sem, vcSeq, legAV, Nat.reduceAdd, Nat.reduceMul, Nat.reduceSub, Nat.reduceLeDiff, Nat.reduceEqDiff, Nat.reduceLT]
    refine awp_block ?_  -- block 1
    refine awp_drawX (9, 13) mixed rfl ?_  -- region 5
    simp only [go_sem, vcDraw, boxPost, Nat.reduceAdd, Nat.reduceMul, Nat.reduceSub, Nat.reduceLeDiff, Nat.reduceEqDiff, Nat.reduceLT]
    refine vtr_callA (fun hN => lstepA_look (eK := sideK) (eV := iV) (k := (x.acct, x.cur)) (z := 0) (m := s) (st := 8) rfl rfl hN FM.2.2 (by simp only [go_sem, iV]) key72 sideK_inj sideK_key rfl rfl hnd rfl rfl) (.inl rfl) ?_
    simp only [go_sem, vcDraw, iV, Nat.reduceAdd, Nat.reduceMul, Nat.reduceSub, Nat.reduceLeDiff, Nat.reduceEqDiff, Nat.reduceLT]
    refine vtr_call (fun hN => lstep_entry (eK := sideK) (eV := iV) (k := (x.acct, x.cur)) (z := 0) (m := s) rfl rfl hN FM.2.2 rfl (zeroValue_of (by simp only [go_sem])) key72 sideK_inj sideK_key rfl rfl hnd rfl rfl hlen') (.inr (by decide)) ?_
    simp only [go_sem, vcDraw, iV, Nat.reduceAdd, Nat.reduceMul, Nat.reduceSub, Nat.reduceLeDiff, Nat.reduceEqDiff, Nat.reduceLT]
    refine vtr_call (fun hN => lstep_entrySet (eK := sideK) (eV := iV) (k := (x.acct, x.cur)) (v := IntKind.i64.wrap (mval s (x.acct, x.cur) 0 + x.n)) (z0 := 0) (m := s) (st := 8) rfl rfl hN sideK_inj rfl rfl rfl rfl hnd) (.inl rfl) ?_
    simp only [go_sem, vcDraw, iV, Nat.reduceAdd, Nat.reduceMul, Nat.reduceSub, Nat.reduceLeDiff, Nat.reduceEqDiff, Nat.reduceLT]
    refine ⟨by rfl, fun _ => rfl, ?_⟩
    simp only [go_sem, boxPost, balStep, Nat.reduceEqDiff]
  rw [runL_fold]
  simp only [go_sem, boxPost, Nat.reduceEqDiff]
  refine ⟨[], ?_⟩
  simp only [go_sem, ledAdd, AObj.bel, ids_bel, bal_bel, Nat.reduceAdd, Nat.reduceMul, Nat.reduceSub, Nat.reduceLeDiff, Nat.reduceEqDiff, Nat.reduceLT]
  simp
end Go.Proofs.T
end

/- C6 -/
section
set_option linter.unusedVariables false
set_option linter.unusedSimpArgs false
open Go Go.Abs Go.Proofs
namespace Go.Proofs.T
set_option maxRecDepth 20000
theorem postAV_bel (U : Nat → Prop) (ps : List Post) : belL U (ps.map postAV) := by
  rw [belL_iff]; intro x hx; obtain ⟨p, _, rfl⟩ := List.mem_map.1 hx; exact ⟨trivial, legAV_bel _ _, trivial⟩
theorem postAV_ren (σ : Nat → Nat) (ps : List Post) : renL σ (ps.map postAV) = ps.map postAV := renL_closed σ (postAV_bel _ ps)
attribute [local go_sem] legAV_bel legAV_ren postAV_bel postAV_ren

def runLedger : List Post → Ledger → Ledger × Bool
  | [], g => (g, true)
  | p :: r, g => if chk g p = 0 then runLedger r (ledAdd g p) else (g, false)
def led0 : Ledger := ⟨0, [], []⟩
def ledgerOf (b : List Post) : Ledger × Bool := if 40 < b.length then (led0, false) else runLedger b led0

theorem LH_fit {H : Heap} {g g' : Ledger} (h : hasAll H (LH g)) : FitC H [] (LH g) 3 0 (LH g') where
  objs := by
    obtain ⟨h0, h1, h2, _⟩ := h
    refine ⟨h0, .inl (by omega), ⟨trivial, .inl (by omega), .inl (by omega), trivial⟩, ?_, .inl (by omega), ids_bel _ _, ?_, .inl (by omega), bal_bel _ _, trivial⟩
    · rw [AObj.ren_nil]; exact h1
    · rw [AObj.ren_nil]; exact h2
  inj := by show [0, 1, 2].Nodup; decide
  cov := fun i hi => by
    have : i = 0 ∨ i = 1 ∨ i = 2 := by omega
    rcases this with rfl | rfl | rfl <;> rfl
  sk := fun p hp => by cases hp
  dom := fun p hp => by
    simp only [LH, List.mem_cons, List.not_mem_nil, or_false] at hp
    rcases hp with rfl | rfl | rfl <;> exact .inl rfl
  all := fun p hp => by
    simp only [LH, List.mem_cons, List.not_mem_nil, or_false] at hp
    rcases hp with rfl | rfl | rfl <;> rfl
  far := by omega

theorem w40 (b : List Post) (hbl : b.length ≤ 1048576) : Gives P 40 [.sl 2 (b.map postAV)] [] 0 (.tup [.ptr 0 0, .raw (.bool (ledgerOf b).2)]) (LH (ledgerOf b).1) 3 := by  -- "loop.example/comptoir/impl.ledgerOf"
  refine gives_of_awp (fn := Tryd.f40) (N := 31) (vs := [.tmp 2, .tmp 3]) ⟨Tryd.func40, rfl, rfl⟩ rfl rfl (by simp) ?_
  simp only [enumE]
  refine awp_seq_k fun K1 hK1 => ?_
  refine awp_region rfl ?_  -- region 0
  simp only [go_sem, vcSeq, Nat.reduceAdd, Nat.reduceMul, Nat.reduceSub, Nat.reduceLeDiff, Nat.reduceEqDiff, Nat.reduceLT]
  apply hK1; clear hK1 K1
  refine awp_seq_k fun K2 hK2 => ?_
  refine awp_region rfl ?_  -- region 1
  simp only [go_sem, vcSeq, Nat.reduceAdd, Nat.reduceMul, Nat.reduceSub, Nat.reduceLeDiff, Nat.reduceEqDiff, Nat.reduceLT]
  apply hK2; clear hK2 K2
  refine awp_seq_k fun K3 hK3 => ?_
  refine awp_seq_k fun K4 hK4 => ?_
  refine awp_region rfl ?_  -- region 2
  simp only [go_sem, vcSeq, Nat.reduceAdd, Nat.reduceMul, Nat.reduceSub, Nat.reduceLeDiff, Nat.reduceEqDiff, Nat.reduceLT]
  apply hK4; clear hK4 K4
  refine awp_cond rfl ?_ ?_
  · intro hc
    have h40 : 40 < b.length := by have : (40 : Int) < b.length := by simpa using hc
                                   omega
    refine awp_seq_k fun K5 hK5 => ?_
    refine awp_region rfl ?_  -- region 3
    simp only [go_sem, vcSeq, Nat.reduceAdd, Nat.reduceMul, Nat.reduceSub, Nat.reduceLeDiff, Nat.reduceEqDiff, Nat.reduceLT]
    apply hK5; clear hK5 K5
    refine awp_ret ⟨[(0, 2), (1, 0), (2, 1)], ?_⟩
    have hl : ledgerOf b = (led0, false) := by simp [ledgerOf, h40]
    rw [hl]
    simp only [go_sem, LH, led0, mAV, sg, AV.ren, AObj.ren, AObj.bel, renL, List.map_nil, Option.getD_some, Nat.reduceAdd, Nat.reduceMul, Nat.reduceSub, Nat.reduceLeDiff, Nat.reduceEqDiff, Nat.reduceLT]
    simp
  · intro hc
    have h40 : ¬ 40 < b.length := by have : ¬ (40 : Int) < b.length := by simpa using hc
                                     omega
    have hlr : ledgerOf b = runLedger b led0 := by simp [ledgerOf, h40]
    refine awp_skip ?_
    simp only [athen]
    apply hK3; clear hK3 K3
    refine awp_seq_k fun K6 hK6 => ?_
    refine awp_seq_k fun K7 hK7 => ?_
    refine awp_region rfl ?_  -- region 4
    simp only [go_sem, vcSeq, Nat.reduceAdd, Nat.reduceMul, Nat.reduceSub, Nat.reduceLeDiff, Nat.reduceEqDiff, Nat.reduceLT]
    apply hK7; clear hK7 K7
    refine awp_block ?_  -- block 0
    refine awp_loop_c (α := Nat × Ledger) (fun x => x.1 ≤ b.length ∧ x.2.ok ∧ x.2.ids.length ≤ x.1 ∧ x.2.bals.length ≤ 4 * x.1 ∧ runLedger (b.drop x.1) x.2 = runLedger b led0) (fun x => b.length - x.1)
      (fun x => ([(17, .raw (.int .i64 (x.1 : Int))), (16, .raw (.int .i64 (b.length : Int))), (15, .sl 2 (b.map postAV)), (4, .ptr 0 0)], LH x.2)) 3 (0, led0)
      ⟨Nat.zero_le _, ⟨List.nodup_nil, List.nodup_nil⟩, Nat.le_refl _, Nat.le_refl _, by simp⟩ [(0, 2), (1, 0), (2, 1)] ?_ ?_
    · simp only [go_sem, LH, led0, mAV, sg, AV.ren, AObj.ren, AObj.bel, renL, List.map_nil, Option.getD_some, Int.natCast_zero, Nat.reduceAdd, Nat.reduceMul, Nat.reduceSub, Nat.reduceLeDiff, Nat.reduceEqDiff, Nat.reduceLT]
      simp
    rintro ⟨i, g⟩ ⟨hi, hg, hil, hbl2, hrun⟩
    simp only at hi hg hil hbl2 hrun
    simp only [LH]
    refine awp_seq_k fun K8 hK8 => ?_
    refine awp_region rfl ?_  -- region 5
    simp only [go_sem, vcSeq, Nat.reduceAdd, Nat.reduceMul, Nat.reduceSub, Nat.reduceLeDiff, Nat.reduceEqDiff, Nat.reduceLT]
    apply hK8; clear hK8 K8
    refine awp_seq_k fun K9 hK9 => ?_
    refine awp_cond rfl ?_ ?_
    · intro hc
      have hlt : i < b.length := by simpa using hc
      obtain ⟨p, hp⟩ : ∃ p, b[i]? = some p := ⟨_, List.getElem?_eq_getElem hlt⟩
      have hdrop : b.drop i = p :: b.drop (i + 1) := by
        rw [List.drop_eq_getElem_cons hlt]
        rw [List.getElem?_eq_getElem hlt] at hp
        cases hp; rfl
      rw [hdrop, runLedger] at hrun
      refine awp_skip ?_
      simp only [athen]
      apply hK9; clear hK9 K9
      refine awp_seq_k fun K10 hK10 => ?_
      refine awp_block ?_  -- block 1
      refine awp_seq_k fun K11 hK11 => ?_
      refine awp_region rfl ?_  -- region 6
      simp only [go_sem, vcSeq, Nat.reduceAdd, Nat.reduceMul, Nat.reduceSub, Nat.reduceLeDiff, Nat.reduceEqDiff, Nat.reduceLT, hp, postAV]
      refine ⟨⟨by omega, by omega⟩, ?_⟩
      apply hK11; clear hK11 K11
      refine awp_seq_k fun K12 hK12 => ?_
      refine awp_seq_k fun K13 hK13 => ?_
      refine awp_region rfl ?_  -- region 7
      simp only [go_sem, vcSeq, Nat.reduceAdd, Nat.reduceMul, Nat.reduceSub, Nat.reduceLeDiff, Nat.reduceEqDiff, Nat.reduceLT]
      -- CALL 2  t23 := call F44(t21, t22)  :76 [after 0,1]
      refine vsem_call (fun hN => lstep_pure (s := []) rfl rfl rfl ⟨Tryd.func44, rfl, rfl⟩ hN (w44 g hg p) (by simp only [go_sem, postAV, Nat.reduceEqDiff]) ?_ (LH_fit ⟨rfl, rfl, rfl, trivial⟩)) (.inl rfl) ?_
      · simp only [go_sem, postAV, Nat.reduceAdd, Nat.reduceMul, Nat.reduceSub, Nat.reduceLeDiff, Nat.reduceEqDiff, Nat.reduceLT]
      rw [AV.ren_nil]
      by_cases hk : chk g p = 0
      · have he : endAV (chk g p) = .raw .nilIface := by simp [endAV, hk]
        rw [if_pos hk] at hrun
        rw [he]
        simp only [go_sem, vcSeq, Nat.reduceAdd, Nat.reduceMul, Nat.reduceSub, Nat.reduceLeDiff, Nat.reduceEqDiff, Nat.reduceLT]
        apply hK13; clear hK13 K13
        refine awp_cond rfl (fun hc2 => by simp at hc2) fun _ => ?_
        refine awp_skip ?_
        simp only [athen]
        apply hK12; clear hK12 K12
        refine awp_region rfl ?_  -- region 9
        simp only [go_sem, vcSeq, Nat.reduceAdd, Nat.reduceMul, Nat.reduceSub, Nat.reduceLeDiff, Nat.reduceEqDiff, Nat.reduceLT]
        -- CALL 2  t28 := call F65(t26, t27)  :0 [after 0,1]
        refine vsem_call (fun hN => lstep_gives (s := []) 0 rfl rfl rfl ⟨Tryd.func65, rfl, rfl⟩ hN (w65 g hg p (by omega) (by omega)) rfl (by simp only [go_sem, postAV, Nat.reduceEqDiff]) ?_ (LH_fit ⟨rfl, rfl, rfl, trivial⟩)) (.inl rfl) ?_
        · simp only [go_sem, postAV, Nat.reduceAdd, Nat.reduceMul, Nat.reduceSub, Nat.reduceLeDiff, Nat.reduceEqDiff, Nat.reduceLT]
        simp only [shift_zero, AV.ren_nil, AObj.ren_nil, sg_nil_at]
        simp only [go_sem, vcSeq, LH, Nat.reduceAdd, Nat.reduceMul, Nat.reduceSub, Nat.reduceLeDiff, Nat.reduceEqDiff, Nat.reduceLT]
        apply hK10; clear hK10 K10
        refine awp_region rfl ?_  -- region 10
        have hw : IntKind.i64.wrap ((i : Int) + 1) = ((i + 1 : Nat) : Int) := by rw [IntKind.wrap_i64]; omega
        simp only [go_sem, vcSeq, hw, Nat.reduceAdd, Nat.reduceMul, Nat.reduceSub, Nat.reduceLeDiff, Nat.reduceEqDiff, Nat.reduceLT]
        simp only [loopQ]
        refine ⟨(i + 1, ledAdd g p), ⟨by omega, ledAdd_ok hg p, ?_, ?_, hrun⟩, by omega, [], ?_⟩
        · have := mset_length p.id (IntKind.i64.wrap (mval g.ids p.id 0 + 1)) g.ids
          show (mset _ _ _).length ≤ _
          omega
        · have := balStep_len (legsOf p) g.bals
          have := legsOf_len p
          show (List.foldl balStep g.bals (legsOf p)).length ≤ _
          omega
        · simp only [go_sem, LH, AObj.bel, ids_bel, bal_bel, Nat.reduceAdd, Nat.reduceMul, Nat.reduceSub, Nat.reduceLeDiff, Nat.reduceEqDiff, Nat.reduceLT]
          simp
      · have he : endAV (chk g p) = errAV (chk g p) := by simp [endAV, hk]
        rw [if_neg hk] at hrun
        rw [he]
        simp only [go_sem, errAV, vcSeq, Nat.reduceAdd, Nat.reduceMul, Nat.reduceSub, Nat.reduceLeDiff, Nat.reduceEqDiff, Nat.reduceLT]
        apply hK13; clear hK13 K13
        refine awp_cond rfl (fun _ => ?_) (fun hc2 => by simp at hc2)
        refine awp_seq_k fun K14 hK14 => ?_
        refine awp_region rfl ?_  -- region 8
        simp only [go_sem, vcSeq, Nat.reduceAdd, Nat.reduceMul, Nat.reduceSub, Nat.reduceLeDiff, Nat.reduceEqDiff, Nat.reduceLT]
        apply hK14; clear hK14 K14
        refine awp_ret ?_
        simp only [go_sem, loopQ]
        refine ⟨[], ?_⟩
        rw [hlr, ← hrun]
        simp only [go_sem, LH, AObj.bel, ids_bel, bal_bel, Nat.reduceAdd, Nat.reduceMul, Nat.reduceSub, Nat.reduceLeDiff, Nat.reduceEqDiff, Nat.reduceLT]
        simp
    · intro hc
      have hge : b.length ≤ i := by
        have : ¬ (i : Int) < b.length := by simpa using hc
        omega
      refine awp_exit ?_
      simp only [go_sem, loopQ, Nat.reduceEqDiff]
      clear hK9 K9
      apply hK6; clear hK6 K6
      refine awp_seq_k fun K15 hK15 => ?_
      refine awp_region rfl ?_  -- region 11
      simp only [go_sem, vcSeq, Nat.reduceAdd, Nat.reduceMul, Nat.reduceSub, Nat.reduceLeDiff, Nat.reduceEqDiff, Nat.reduceLT]
      apply hK15; clear hK15 K15
      refine awp_ret ⟨[], ?_⟩
      rw [List.drop_eq_nil_of_le hge] at hrun
      rw [hlr, ← hrun]
      simp only [go_sem, runLedger, LH, AObj.bel, ids_bel, bal_bel, Nat.reduceAdd, Nat.reduceMul, Nat.reduceSub, Nat.reduceLeDiff, Nat.reduceEqDiff, Nat.reduceLT]
      simp
end Go.Proofs.T
end

/- C7 -/
section
set_option linter.unusedVariables false
set_option linter.unusedSimpArgs false
open Go Go.Abs Go.Proofs
namespace Go.Proofs.T
set_option maxRecDepth 20000
theorem legAV_elem (ls : List Leg) : (ls.map legAV).all AV.elem = true := by
  rw [List.all_map, List.all_eq_true]; intro l _; rfl
/-- A posting in new memory, within a row. -/
def postOwn (p : Post) : AV := .agg [.raw (.int .i64 p.id), .own 35 3 (p.legs.map legAV)]
theorem postOwn_bel (U : Nat → Prop) (ls : List Post) : belL U (ls.map postOwn) := by
  rw [belL_iff]; intro x hx; obtain ⟨p, _, rfl⟩ := List.mem_map.1 hx; exact ⟨trivial, legAV_bel _ _, trivial⟩
theorem postOwn_ren (σ : Nat → Nat) (ls : List Post) : renL σ (ls.map postOwn) = ls.map postOwn := renL_closed σ (postOwn_bel _ ls)
attribute [local go_sem] legAV_bel legAV_ren postAV_bel postAV_ren legAV_elem postOwn_bel postOwn_ren

theorem w46 (p : Post) (hp : p.legs.length ≤ 1048576) : Gives P 46 [postAV p] [] 0 (.agg [.raw (.int .i64 p.id), .ref 0]) [(0, .row 35 3 (p.legs.map legAV))] 1 := by
  refine gives_of_awp (fn := Tryd.f46) (N := 9) (vs := [.cell 2 31]) ⟨Tryd.func46, rfl, rfl⟩ rfl rfl (by simp) ?_
  simp only [enumE, postAV]
  refine awp_seq_k fun K1 hK1 => ?_
  refine awp_region rfl ?_
  simp only [go_sem, vcSeq, Nat.reduceAdd, Nat.reduceMul, Nat.reduceSub, Nat.reduceLeDiff, Nat.reduceEqDiff, Nat.reduceLT]
  apply hK1; clear hK1 K1
  refine awp_seq_k fun K2 hK2 => ?_
  refine awp_draw mixed rfl ?_
  simp only [go_sem, vcDraw, Nat.reduceAdd, Nat.reduceMul, Nat.reduceSub, Nat.reduceLeDiff, Nat.reduceEqDiff, Nat.reduceLT]
  refine ⟨⟨by simp only [maxLen]; omega, by omega⟩, by rfl, ?_⟩
  apply hK2; clear hK2 K2
  refine awp_ret ⟨[(0, 2)], ?_⟩
  simp only [go_sem, AV.ren, renL, AObj.ren, AObj.bel, sg, Option.getD_some, Nat.reduceAdd, Nat.reduceMul, Nat.reduceSub, Nat.reduceLeDiff, Nat.reduceEqDiff, Nat.reduceLT]

theorem w43 (b : List Post) (hb : b.length ≤ 1048576) (hp : ∀ p ∈ b, p.legs.length ≤ 1048576) : Gives P 43 [.sl 2 (b.map postAV)] [] 0 (.ref 0) [(0, .row 31 2 (b.map postOwn))] 1 := by
  refine gives_of_awp (fn := Tryd.f43) (N := 19) (vs := [.tmp 2]) ⟨Tryd.func43, rfl, rfl⟩ rfl rfl (by simp) ?_
  simp only [enumE]
  refine awp_seq_k fun K hK => awp_region rfl ?_
  simp only [go_sem, vcSeq, Nat.reduceAdd, Nat.reduceMul, Nat.reduceSub, Nat.reduceLeDiff, Nat.reduceEqDiff, Nat.reduceLT]
  apply hK; clear hK K
  refine awp_seq_k fun K hK => awp_region rfl ?_
  simp only [go_sem, vcSeq, Nat.reduceAdd, Nat.reduceMul, Nat.reduceSub, Nat.reduceLeDiff, Nat.reduceEqDiff, Nat.reduceLT]
  apply hK; clear hK K
  refine awp_seq_k fun K hK => awp_seq_k fun K1 hK1 => awp_region rfl ?_
  simp only [go_sem, vcSeq, Nat.reduceAdd, Nat.reduceMul, Nat.reduceSub, Nat.reduceLeDiff, Nat.reduceEqDiff, Nat.reduceLT]
  apply hK1; clear hK1 K1
  refine awp_nil (t := 3) 31 2 rfl (by omega) ?_
  simp only [Abs.put, Nat.zero_add]
  refine awp_block ?_
  refine awp_loop_c (fun i : Nat => i ≤ b.length) (fun i => b.length - i) (fun i => ([(8, .raw (.int .i64 (i : Int))), (7, .raw (.int .i64 (b.length : Int))), (6, .sl 2 (b.map postAV)), (3, .ref 0)], [(0, .row 31 2 ((b.take i).map postOwn))])) 1 0 (Nat.zero_le _) [] ?_ ?_
  · simp only [go_sem, AObj.bel, List.take_zero, Int.natCast_zero, Nat.reduceAdd, Nat.reduceMul, Nat.reduceSub, Nat.reduceLeDiff, Nat.reduceEqDiff, Nat.reduceLT]
  intro i hi
  refine awp_seq_k fun K1 hK1 => awp_region rfl ?_
  simp only [go_sem, vcSeq, Nat.reduceAdd, Nat.reduceMul, Nat.reduceSub, Nat.reduceLeDiff, Nat.reduceEqDiff, Nat.reduceLT]
  apply hK1; clear hK1 K1
  refine awp_seq_k fun K1 hK1 => awp_cond rfl ?_ ?_
  · intro hlt
    refine awp_skip ?_
    simp only [athen]
    apply hK1; clear hK1 K1
    have hlt' : i < b.length := by simpa using hlt
    obtain ⟨p, hpi⟩ : ∃ p, b[i]? = some p := ⟨_, List.getElem?_eq_getElem hlt'⟩
    have hpl := hp p (List.mem_of_getElem? hpi)
    refine awp_seq_k fun K1 hK1 => awp_block ?_
    refine awp_seq_k fun K2 hK2 => awp_region rfl ?_
    simp only [go_sem, vcSeq, hpi, postAV, Nat.reduceAdd, Nat.reduceMul, Nat.reduceSub, Nat.reduceLeDiff, Nat.reduceEqDiff, Nat.reduceLT]
    refine ⟨⟨by omega, by omega⟩, ?_⟩
    apply hK2; clear hK2 K2
    refine awp_region rfl ?_
    simp only [go_sem, vcSeq, Nat.reduceAdd, Nat.reduceMul, Nat.reduceSub, Nat.reduceLeDiff, Nat.reduceEqDiff, Nat.reduceLT]
    refine vsem_call (fun hN => lstep_gives [] 1 rfl rfl rfl ⟨Tryd.func46, rfl, rfl⟩ hN (w46 p hpl) rfl (by simp only [go_sem, postAV, Nat.reduceEqDiff]) ?_ ?_) (.inr (by decide)) ?_
    · simp only [go_sem, postAV]
    · exact ⟨trivial, List.nodup_nil, (fun i hi => by omega), (fun p hp => by cases hp), (fun p hp => .inr (by simp at hp; subst hp; simp)), (fun p hp => by cases hp), by omega⟩
    simp only [go_sem, vcSeq, AV.ren, AObj.ren, renL, shift, sg, Nat.le_refl, Nat.add_zero, Nat.sub_self, Nat.reduceAdd, Nat.reduceMul, Nat.reduceSub, Nat.reduceLeDiff, Nat.reduceEqDiff, Nat.reduceLT]
    refine ⟨⟨by simp [maxLen]; omega, by simp; omega⟩, ?_⟩
    apply hK1; clear hK1 K1
    refine awp_region rfl ?_
    have hw : IntKind.i64.wrap ((i : Int) + 1) = ((i + 1 : Nat) : Int) := by rw [IntKind.wrap_i64]; omega
    simp only [go_sem, vcSeq, hw, Nat.reduceAdd, Nat.reduceMul, Nat.reduceSub, Nat.reduceLeDiff, Nat.reduceEqDiff, Nat.reduceLT]
    have htk : (b.take i).map postOwn ++ [AV.agg [AV.raw (Value.int IntKind.i64 p.id), AV.own 35 3 (List.map legAV p.legs)]] = (b.take (i + 1)).map postOwn := by
      rw [List.take_add_one, hpi]; simp [postOwn]
    simp only [loopQ]
    refine ⟨i + 1, by omega, by omega, [(0, 4)], ?_⟩
    rw [htk]
    simp only [go_sem, AV.ren, AObj.ren, AObj.bel, sg, Option.getD_some, Nat.reduceAdd, Nat.reduceMul, Nat.reduceSub, Nat.reduceLeDiff, Nat.reduceEqDiff, Nat.reduceLT]
  · intro hlt
    refine awp_exit ?_
    simp only [go_sem, loopQ, Nat.reduceEqDiff]
    apply hK; clear hK1 K1 hK K
    have hib : i = b.length := by
      have := hlt
      simp at this
      omega
    subst hib
    refine awp_seq_k fun K hK => awp_region rfl ?_
    simp only [go_sem, vcSeq, Nat.reduceAdd, Nat.reduceMul, Nat.reduceSub, Nat.reduceLeDiff, Nat.reduceEqDiff, Nat.reduceLT]
    apply hK; clear hK K
    refine awp_ret ⟨[], ?_⟩
    simp only [go_sem, AObj.bel, List.take_length, Nat.reduceAdd, Nat.reduceMul, Nat.reduceSub, Nat.reduceLeDiff, Nat.reduceEqDiff, Nat.reduceLT]
end Go.Proofs.T
end

/- C8 -/
section
set_option linter.unusedSimpArgs false
set_option linter.unusedVariables false
namespace Go.Proofs.T
open Go Go.RowKit Go.Extern.Stop Go.Stop Go.Extern

theorem As.und105 : Tryd.prog.underlying 105 = some (.pointer 103) := by kernel_rfl
theorem As.und103 : Tryd.prog.underlying 103 = some (.struct #[{ name := "code", type := 3, offset := 0, embedded := false, tag := "", pkgPath := "loop.example/comptoir/impl", byteOffset := 0 }]) := by kernel_rfl
theorem As.valueOf105 (t : Addr) (w : World) : (ReflectliteValue.unpack (.iface 105 (.pointer (some t)))).run Tryd.prog w
    = .ok (.agg #[.pointer (some ⟨1, 105, none⟩), .pointer (some ⟨w.heap.size, 0, none⟩), .int .u64 150]) (w.alloc (.cells #[.pointer (some t)] 105)) := by kernel_rfl
theorem As.type105 (a : Addr) (w : World) : (ReflectliteValue.methodAny (ReflectliteValue.valueError "reflectlite.Value.Type" 0) (fun t _ _ _ => ReflectliteType.toType t) #[.agg #[.pointer (some ⟨1, 105, none⟩), .pointer (some a), .int .u64 150]]).run Tryd.prog w
    = .ok (.iface 132 (.agg #[.pointer (some ⟨1, 105, none⟩)])) w := by kernel_rfl
theorem As.methodKind (h : Value) (w : World) : (Go.method 278 132 (.agg #[h]) "Kind").run Tryd.prog w = .ok (111, h) w := by kernel_rfl
theorem As.kind105 (w : World) : ((ReflectliteType.abiMethod fun t => (fun a : Nat => Value.int IntKind.u8 (a : Int)) <$> Rtype.kind t) #[.pointer (some ⟨1, 105, none⟩)]).run Tryd.prog w = .ok (.int .u8 22) w := by kernel_rfl
theorem As.kind103 (w : World) : ((ReflectliteType.abiMethod fun t => (fun a : Nat => Value.int IntKind.u8 (a : Int)) <$> Rtype.kind t) #[.pointer (some ⟨1, 103, none⟩)]).run Tryd.prog w = .ok (.int .u8 25) w := by kernel_rfl
theorem rlm (z : Sem Value) (f : TypeId → Addr → Nat → Nat → Sem Value) (v : Value) :
    ReflectliteValue.method z f #[v] = (do match ← ReflectliteValue.parts v with | none => z | some (t, a, fl) => f t a fl (fl % 32)) := rfl
theorem As.parts105 (a : Addr) (w : World) : (ReflectliteValue.parts (.agg #[.pointer (some ⟨1, 105, none⟩), .pointer (some a), .int .u64 150])).run Tryd.prog w = .ok (some (105, a, 150)) w := by kernel_rfl
theorem As.isNil105 (a p : Addr) (W : World) (ha : W.cell? a = some (.pointer (some p))) :
    (ReflectliteValue.method (ReflectliteValue.valueError "reflectlite.Value.IsNil" 0) ReflectliteValue.isNil #[.agg #[.pointer (some ⟨1, 105, none⟩), .pointer (some a), .int .u64 150]]).run Tryd.prog W = .ok (.bool false) W := by
  rw [rlm]
  simp only [Sem.run_bind, As.parts105, Result.andThen]
  simp [ReflectliteValue.isNil, loadVar, isAgg, underlying, As.und105, ha, Result.andThen]
theorem As.methodElem (h : Value) (w : World) : (Go.method 278 132 (.agg #[h]) "Elem").run Tryd.prog w = .ok (122, .agg #[h]) w := by kernel_rfl
theorem As.methodImplements (h : Value) (w : World) : (Go.method 278 132 (.agg #[h]) "Implements").run Tryd.prog w = .ok (123, .agg #[h]) w := by kernel_rfl
theorem As.methodAssignableTo (h : Value) (w : World) : (Go.method 278 132 (.agg #[h]) "AssignableTo").run Tryd.prog w = .ok (120, .agg #[h]) w := by kernel_rfl
theorem As.elem105 (w : World) : (ReflectliteType.method ReflectliteType.elem #[.agg #[.pointer (some ⟨1, 105, none⟩)]]).run Tryd.prog w = .ok (.iface 132 (.agg #[.pointer (some ⟨1, 103, none⟩)])) w := by kernel_rfl
theorem As.implements103 (w : World) : (ReflectliteType.relation "Implements" ReflectliteType.implements_ #[.agg #[.pointer (some ⟨1, 103, none⟩)], .iface 132 (.agg #[.pointer (some ⟨1, 76, none⟩)])]).run Tryd.prog w = .ok (.bool true) w := by kernel_rfl
theorem As.typeOf103 (v : Value) (w : World) : (ReflectliteType.typeOf #[.iface 103 v]).run Tryd.prog w = .ok (.iface 132 (.agg #[.pointer (some ⟨1, 103, none⟩)])) w := by kernel_rfl
theorem As.assignable103 (w : World) : (ReflectliteType.relation "AssignableTo" ReflectliteType.assignableTo #[.agg #[.pointer (some ⟨1, 103, none⟩)], .iface 132 (.agg #[.pointer (some ⟨1, 103, none⟩)])]).run Tryd.prog w = .ok (.bool true) w := by kernel_rfl
theorem As.valueOf103 (c : Int) (w : World) : (ReflectliteValue.unpack (.iface 103 (.agg #[.int .i64 c]))).run Tryd.prog w
    = .ok (.agg #[.pointer (some ⟨1, 103, none⟩), .pointer (some ⟨w.heap.size, 0, none⟩), .int .u64 153]) (w.alloc (.cells #[.int .i64 c] 103)) := by kernel_rfl
theorem As.elemOf105 (w : World) : (Rtype.elem? 105).run Tryd.prog w = .ok (some 103) w := by kernel_rfl
theorem As.mk103 (p : Addr) (w : World) : (ReflectliteValue.mk 103 p ReflectliteValue.flagAddr).run Tryd.prog w = .ok (.agg #[.pointer (some ⟨1, 103, none⟩), .pointer (some p), .int .u64 409]) w := by kernel_rfl
theorem As.elemV105 (a p : Addr) (W : World) (ha : W.cell? a = some (.pointer (some p))) :
    (ReflectliteValue.method (ReflectliteValue.valueError "reflectlite.Value.Elem" 0) ReflectliteValue.elem #[.agg #[.pointer (some ⟨1, 105, none⟩), .pointer (some a), .int .u64 150]]).run Tryd.prog W
      = .ok (.agg #[.pointer (some ⟨1, 103, none⟩), .pointer (some p), .int .u64 409]) W := by
  rw [rlm]
  simp only [Sem.run_bind, As.parts105, Result.andThen]
  simp [ReflectliteValue.elem, loadVar, isAgg, underlying, As.und105, ha, Result.andThen, As.elemOf105, As.mk103]
theorem rls (v x : Value) : ReflectliteValue.set #[v, x] = (do
    let (some (dst, a, fl), some (src, b, _)) := (← ReflectliteValue.parts v, ← ReflectliteValue.parts x)
      | unsupported (.noEntry "extern/(internal/reflectlite.Value).Set.zeroValue")
    if fl / ReflectliteValue.flagAddr % 2 == 0 then unsupported (.noEntry "extern/(internal/reflectlite.Value).Set.unaddressable")
    let val ← loadVar src b
    if ← Rtype.directlyAssignable dst src then storeVar dst a val
    else if ← Rtype.implements dst src then
      if (← Rtype.kind src) == 20 then
        match val with
        | .nilIface => unsupported (.noEntry "extern/reflectlite: a nil value of one interface type handed on as a value of another")
        | _ => storeVar dst a val
      else storeVar dst a (.iface src val)
    else panicString ("reflectlite.Set: value of type " ++ (← Rtype.spelt src) ++ " is not assignable to type " ++ (← Rtype.spelt dst))
    pure (.tuple #[])) := rfl
theorem As.parts103a (a : Addr) (w : World) : (ReflectliteValue.parts (.agg #[.pointer (some ⟨1, 103, none⟩), .pointer (some a), .int .u64 409])).run Tryd.prog w = .ok (some (103, a, 409)) w := by kernel_rfl
theorem As.parts103 (a : Addr) (w : World) : (ReflectliteValue.parts (.agg #[.pointer (some ⟨1, 103, none⟩), .pointer (some a), .int .u64 153])).run Tryd.prog w = .ok (some (103, a, 153)) w := by kernel_rfl
theorem As.direct103 (w : World) : (Rtype.directlyAssignable 103 103).run Tryd.prog w = .ok true w := by kernel_rfl
theorem As.size103 (w : World) : (sizeOf 103).run Tryd.prog w = .ok 1 w := by kernel_rfl
theorem As.set103 (ta b : Addr) (c : Int) (old : Value) (W : World) (hb : W.cell? b = some (.int .i64 c)) (ht : W.cell? ta = some old) (hf : W.frozen? ta = false) :
    (ReflectliteValue.set #[.agg #[.pointer (some ⟨1, 103, none⟩), .pointer (some ta), .int .u64 409], .agg #[.pointer (some ⟨1, 103, none⟩), .pointer (some b), .int .u64 153]]).run Tryd.prog W
      = .ok (.tuple #[]) (W.setCell ta (.int .i64 c)) := by
  rw [rls]
  simp only [Sem.run_bind, As.parts103a, As.parts103, Result.andThen]
  simp [ReflectliteValue.flagAddr, loadVar, isAgg, underlying, As.und103, hb, Result.andThen, As.direct103, storeVar, Value.cells, storeCells, Addr.add]
  have hl : (loadCells b 1).run Tryd.prog W = .ok #[.int .i64 c] W := by
    have := run_loadCells_list (P := Tryd.prog) W b [.int .i64 c] (fun j v hj => by
      cases j with
      | zero => simp only [List.getElem?_cons_zero, Option.some.injEq] at hj; subst hj; simpa [Addr.add] using hb
      | succ j => simp at hj)
    simpa using this
  simp only [hl]
  simp [storeCells, Addr.add]
  rw [run_store Tryd.prog W ta _ _ (by rfl)]
  simp [ht, hf]

/-- errors.As(nil, target). -/
theorem as_nil (t : Value) (w : World) : Calls Tryd.prog 70 #[.nilIface, t] w fun e w' => e = .returned (.bool false) ∧ w' = w := by
  go_enter Tryd.func70, Tryd.ntmps70
  go_wp2
  go_ret
  exact ⟨rfl, rfl⟩

set_option maxHeartbeats 4000000 in
theorem as_hit (c : Int) (t : Addr) (old : Value) (w : World) (hg : w.cell? ⟨0, 0, none⟩ = some (.iface 132 (.agg #[.pointer (some ⟨1, 76, none⟩)]))) (ht0 : w.cell? t = some old) (hf0 : w.frozen? t = false) :
    Calls Tryd.prog 70 #[.iface 103 (.agg #[.int .i64 c]), .iface 105 (.pointer (some t))] w fun ev w' => ev = .returned (.bool true) ∧ w' = ((((w.alloc (.cells #[.pointer (some t)] 105)).alloc (.cells #[.pointer (some ⟨1, 105, none⟩), .pointer (some ⟨w.heap.size, 0, none⟩), .int .u64 150] 121)).alloc (.cells #[.pointer (some ⟨1, 105, none⟩), .pointer (some ⟨w.heap.size, 0, none⟩), .int .u64 150] 121)).alloc (.cells #[.int .i64 c] 103)).setCell t (.int .i64 c) := by
  have h85 := @run_callFunc_extern Tryd.prog 85 _ (fun args => ReflectliteValue.unpack (args.getD 0 (.tuple #[]))) Tryd.func85 (by kernel_rfl) (by kernel_rfl) (by kernel_rfl) (by kernel_rfl)
  have h86 := @run_callFunc_extern Tryd.prog 86 _ (ReflectliteValue.methodAny (ReflectliteValue.valueError "reflectlite.Value.Type" 0) (fun t _ _ _ => ReflectliteType.toType t)) Tryd.func86 (by kernel_rfl) (by kernel_rfl) (by kernel_rfl) (by kernel_rfl)
  have h87 := @run_callFunc_extern Tryd.prog 87 _ (ReflectliteValue.method (ReflectliteValue.valueError "reflectlite.Value.IsNil" 0) ReflectliteValue.isNil) Tryd.func87 (by kernel_rfl) (by kernel_rfl) (by kernel_rfl) (by kernel_rfl)
  have h111 := @run_callFunc_extern Tryd.prog 111 _ (ReflectliteType.abiMethod fun t => do pure (.int .u8 (← Rtype.kind t))) Tryd.func111 (by kernel_rfl) (by kernel_rfl) (by kernel_rfl) (by kernel_rfl)
  have h122 := @run_callFunc_extern Tryd.prog 122 _ (ReflectliteType.method ReflectliteType.elem) Tryd.func122 (by kernel_rfl) (by kernel_rfl) (by kernel_rfl) (by kernel_rfl)
  have h123 := @run_callFunc_extern Tryd.prog 123 _ (ReflectliteType.relation "Implements" ReflectliteType.implements_) Tryd.func123 (by kernel_rfl) (by kernel_rfl) (by kernel_rfl) (by kernel_rfl)
  have h92 := @run_callFunc_extern Tryd.prog 92 _ ReflectliteType.typeOf Tryd.func92 (by kernel_rfl) (by kernel_rfl) (by kernel_rfl) (by kernel_rfl)
  have h120 := @run_callFunc_extern Tryd.prog 120 _ (ReflectliteType.relation "AssignableTo" ReflectliteType.assignableTo) Tryd.func120 (by kernel_rfl) (by kernel_rfl) (by kernel_rfl) (by kernel_rfl)
  have h93 := @run_callFunc_extern Tryd.prog 93 _ (ReflectliteValue.method (ReflectliteValue.valueError "reflectlite.Value.Elem" 0) ReflectliteValue.elem) Tryd.func93 (by kernel_rfl) (by kernel_rfl) (by kernel_rfl) (by kernel_rfl)
  have h94 := @run_callFunc_extern Tryd.prog 94 _ ReflectliteValue.set Tryd.func94 (by kernel_rfl) (by kernel_rfl) (by kernel_rfl) (by kernel_rfl)
  have tO := As.typeOf103
  have mA := As.methodAssignableTo
  have a25 := As.assignable103
  have v25 := As.valueOf103
  have f6 := As.valueOf105
  have f7 := As.type105
  have mK := As.methodKind
  have mE := As.methodElem
  have mI := As.methodImplements
  have k27 := As.kind105
  have k25 := As.kind103
  have e27 := As.elem105
  have i25 := As.implements103
  have n8 := As.isNil105 ⟨w.heap.size, 0, none⟩ t ((w.alloc (.cells #[.pointer (some t)] 105)).alloc (.cells #[.pointer (some ⟨1, 105, none⟩), .pointer (some ⟨w.heap.size, 0, none⟩), .int .u64 150] 121)) (by simp)
  have hlt : 0 < w.heap.size := by
    rcases Nat.eq_zero_or_pos w.heap.size with h0 | h
    · simp [World.cell?, h0] at hg
    · exact h
  have hg2 : ((w.alloc (.cells #[.pointer (some t)] 105)).alloc (.cells #[.pointer (some ⟨1, 105, none⟩), .pointer (some ⟨w.heap.size, 0, none⟩), .int .u64 150] 121)).cell? ⟨0, 0, none⟩ = some (.iface 132 (.agg #[.pointer (some ⟨1, 76, none⟩)])) := by
    rw [World.cell?_alloc_lt _ _ ⟨0, 0, none⟩ (by simp), World.cell?_alloc_lt _ _ ⟨0, 0, none⟩ hlt]; exact hg
  have htl : t.block < w.heap.size := by
    rcases Nat.lt_or_ge t.block w.heap.size with h | h
    · exact h
    · simp [World.cell?, Array.getElem?_eq_none h] at ht0
  have el := As.elemV105 ⟨w.heap.size, 0, none⟩ t (((w.alloc (.cells #[.pointer (some t)] 105)).alloc (.cells #[.pointer (some ⟨1, 105, none⟩), .pointer (some ⟨w.heap.size, 0, none⟩), .int .u64 150] 121)).alloc (.cells #[.pointer (some ⟨1, 105, none⟩), .pointer (some ⟨w.heap.size, 0, none⟩), .int .u64 150] 121)) (by rw [World.cell?_alloc_lt _ _ ⟨w.heap.size, 0, none⟩ (by simp; omega)]; simp)
  have st := As.set103 t ⟨w.heap.size + 1 + 1 + 1, 0, none⟩ c old ((((w.alloc (.cells #[.pointer (some t)] 105)).alloc (.cells #[.pointer (some ⟨1, 105, none⟩), .pointer (some ⟨w.heap.size, 0, none⟩), .int .u64 150] 121)).alloc (.cells #[.pointer (some ⟨1, 105, none⟩), .pointer (some ⟨w.heap.size, 0, none⟩), .int .u64 150] 121)).alloc (.cells #[.int .i64 c] 103))
    (by rw [World.cell?_alloc_at _ _ _ _ (by simp)]; rfl)
    (by rw [World.cell?_alloc_lt _ _ t (by simp; omega), World.cell?_alloc_lt _ _ t (by simp; omega), World.cell?_alloc_lt _ _ t (by simp; omega), World.cell?_alloc_lt _ _ t htl]; exact ht0)
    (by rw [World.frozen?_alloc_old _ _ t (by simp; omega), World.frozen?_alloc_old _ _ t (by simp; omega), World.frozen?_alloc_old _ _ t (by simp; omega), World.frozen?_alloc_old _ _ t (Nat.ne_of_lt htl)]; exact hf0)
  go_enter Tryd.func70, Tryd.ntmps70
  go_wp2
  refine wp_loop_rounds 1 ?_
  rw [rounds_succ]
  go_wp2
  go_ret
  exact ⟨rfl, rfl⟩
end Go.Proofs.T
end

/- C9 -/
section
set_option linter.unusedVariables false
set_option linter.unusedSimpArgs false
open Go Go.Abs Go.Proofs
namespace Go.Proofs.T
set_option maxRecDepth 20000
attribute [local go_sem] legAV_bel legAV_ren postAV_bel postAV_ren legAV_elem postOwn_bel postOwn_ren

/-- The block of the package-level variable errors.errorType. -/
def isG (gob : Obj) : Prop := ∃ cs t fr, gob = .cells cs t fr ∧ cs[0]? = some (.iface 132 (.agg #[.pointer (some ⟨1, 76, none⟩)]))
abbrev GH (gob : Obj) : Heap := [(0, .other 0 gob)]

theorem w70 (gob : Obj) (hg : isG gob) (c old : Int) : Gives P 70 [errAV c, .iface 105 (.ptr 1 0)] [(0, .other 0 gob), (1, .cells 103 [.raw (.int .i64 old)])] 2 (.raw (.bool true)) [(0, .other 0 gob), (1, .cells 103 [.raw (.int .i64 c)])] 2 := by
  intro C w vals hRH hargs hb
  have hv0 := hargs.2 0 _ rfl
  have hv1 := hargs.2 1 _ rfl
  obtain ⟨h0, h0o, h0h⟩ := hRH.obj 0 _ rfl
  obtain ⟨b, vs, h1, h1o, h1h, h1r⟩ := hRH.obj 1 _ rfl
  have hvals : vals = #[.iface 103 (.agg #[.int .i64 c]), .iface 105 (.pointer (some ⟨b, 0, none⟩))] := by
    have hs : vals.size = 2 := hargs.1
    have e0 : vals.getD 0 undef = .iface 103 (.agg #[.int .i64 c]) := by
      generalize vals.getD 0 undef = v at hv0
      cases hv0 with
      | iface _ _ v h =>
        cases h with
        | agg _ us hn h =>
          have := h 0 _ rfl
          have hu : us.getD 0 undef = .int .i64 c := by generalize us.getD 0 undef = u at this; cases this; rfl
          have hus : us.size = 1 := hn
          have : us = #[.int .i64 c] := by
            apply Array.ext
            · simp [hus]
            · intro i h1 h2
              have : i = 0 := by simp at h2; omega
              subst this
              simpa [Array.getD_eq_getD_getElem?, hus] using hu
          rw [this]
    have e1 : vals.getD 1 undef = .iface 105 (.pointer (some ⟨b, 0, none⟩)) := by
      generalize vals.getD 1 undef = v at hv1
      cases hv1 with
      | iface _ _ v h =>
        cases h with
        | ptr _ _ b' hb' =>
          rw [h1] at hb'
          simp only [blk, Option.some.injEq] at hb'
          rw [← hb']
    apply Array.ext
    · simp [hs]
    · intro i h1 h2
      have : i = 0 ∨ i = 1 := by simp at h2; omega
      rcases this with rfl | rfl
      · simpa [Array.getD_eq_getD_getElem?, hs] using e0
      · simpa [Array.getD_eq_getD_getElem?, hs] using e1
  subst hvals
  obtain ⟨cs, t, fr, rfl, hcs⟩ := hg
  have hvs : vs = #[.int .i64 old] := by
    have hs : vs.size = 1 := h1r.1
    have := h1r.2 0 _ rfl
    have hu : vs.getD 0 undef = .int .i64 old := by generalize vs.getD 0 undef = u at this; cases this; rfl
    apply Array.ext
    · simp [hs]
    · intro i h1 h2
      have : i = 0 := by simp at h2; omega
      subst this
      simpa [Array.getD_eq_getD_getElem?, hs] using hu
  subst hvs
  have hbl := lt_of_block h1h
  refine (as_hit c ⟨b, 0, none⟩ (.int .i64 old) w (by simp [World.cell?, h0h, hcs]) (by simp [World.cell?, h1h]) (by simp [World.frozen?, h1h])).mono fun e w' ⟨he, hw'⟩ => ?_
  subst he
  generalize hw4 : (((w.alloc (.cells #[.pointer (some ⟨b, 0, none⟩)] 105)).alloc (.cells #[.pointer (some ⟨1, 105, none⟩), .pointer (some ⟨w.heap.size, 0, none⟩), .int .u64 150] 121)).alloc (.cells #[.pointer (some ⟨1, 105, none⟩), .pointer (some ⟨w.heap.size, 0, none⟩), .int .u64 150] 121)).alloc (.cells #[.int .i64 c] 103) = w4 at hw'
  have hsz4 : w.heap.size ≤ w4.heap.size := by rw [← hw4]; simp; omega
  have hk4 : ∀ k, k < w.heap.size → w4.heap[k]? = w.heap[k]? := fun k hk => by
    rw [← hw4]
    show ((((w.heap.push _).push _).push _).push _)[k]? = _
    rw [Array.getElem?_push, if_neg (by simp; omega), Array.getElem?_push, if_neg (by simp; omega), Array.getElem?_push, if_neg (by simp; omega), Array.getElem?_push, if_neg (by omega)]
  have ho4 : w4.os = w.os ∧ w4.tape = w.tape ∧ w4.output = w.output := by rw [← hw4]; exact ⟨rfl, rfl, rfl⟩
  have hR4 := hRH.grow hsz4 hk4
  have hs4 : StepR C _ (UU 2) w C _ w4 := StepR.grow (H := [(0, AObj.other 0 (.cells cs t fr)), (1, .cells 103 [.raw (.int .i64 old)])]) ho4.1 ho4.2.1 ho4.2.2 hsz4 hk4
  have hb4 : w4.heap[b]? = some (.cells #[.int .i64 old] 103 (0, 0)) := (hk4 b hbl).trans h1h
  have hsc : w' = { w4 with heap := w4.heap.setIfInBounds b (.cells #[.int .i64 c] 103 (0, 0)) } := by
    rw [hw']
    unfold World.setCell
    congr 1
    apply Array.ext_getElem?
    intro k
    rw [Array.getElem?_modify, Array.getElem?_setIfInBounds]
    by_cases e : b = k
    · subst e
      have hlt : b < w4.heap.size := lt_of_block hb4
      rw [if_pos rfl, if_pos rfl, if_pos hlt, hb4]
      rfl
    · rw [if_neg e, if_neg e]
  have hother : ∀ k, k ∉ C.own 1 → w'.heap[k]? = w4.heap[k]? := fun k hk => by
    rw [hsc]
    show (w4.heap.setIfInBounds b _)[k]? = _
    rw [Array.getElem?_setIfInBounds, if_neg (fun e => hk (by rw [h1o, e]; simp))]
  have hosz : w'.heap.size = w4.heap.size := by rw [hsc]; show (w4.heap.setIfInBounds b _).size = _; simp
  have hR5 := hR4.inPlace (w' := w') (o' := .cells 103 [.raw (.int .i64 c)]) (by rw [hsc]) (by rw [hsc]) (by rw [hsc]) hosz (i := 1) rfl hother
    ⟨b, #[.int .i64 c], h1, h1o, by rw [hsc]; show (w4.heap.setIfInBounds b _)[b]? = _; rw [Array.getElem?_setIfInBounds, if_pos rfl, if_pos (lt_of_block hb4)], ⟨rfl, fun j x hj => by
      cases j with
      | zero => cases hj; exact .raw _
      | succ j => simp at hj⟩⟩ ⟨trivial, trivial⟩
  have hs5 := StepR.inPlace (U := UU 2) (w' := w') (o' := .cells 103 [.raw (.int .i64 c)]) hR4 (by rw [hsc]) (by rw [hsc]) (by rw [hsc]) hosz (i := 1) rfl hother
  exact ⟨_, _, _, _, C, rfl, Nat.le_refl _, ⟨rfl, rfl, rfl⟩, hR5, hs4.trans (fun _ h => h) hs5, .raw _, trivial⟩
end Go.Proofs.T
end

/- C10 -/
section
set_option linter.unusedVariables false
set_option linter.unusedSimpArgs false
open Go Go.Abs Go.Proofs
namespace Go.Proofs.T
set_option maxRecDepth 20000
attribute [local go_sem] legAV_bel legAV_ren postAV_bel postAV_ren legAV_elem postOwn_bel postOwn_ren

theorem U105 : Tryd.prog.underlying 105 = some (.pointer 103) := by kernel_rfl
attribute [go_sem] U105
theorem w45 (gob : Obj) (hg : isG gob) (c : Int) : Pure P 45 [endAV c] (GH gob) 1 (.raw (.int .i64 c)) := by
  refine pure_of_awp (fn := Tryd.f45) (N := 11) (vs := [.tmp 2]) ⟨Tryd.func45, rfl, rfl⟩ rfl rfl (by simp) ?_
  simp only [enumE]
  refine awp_seq_k fun K1 hK1 => ?_
  refine awp_region rfl ?_  -- region 0
  simp only [go_sem, vcSeq, Nat.reduceAdd, Nat.reduceMul, Nat.reduceSub, Nat.reduceLeDiff, Nat.reduceEqDiff, Nat.reduceLT]
  apply hK1; clear hK1 K1
  refine awp_seq_k fun K2 hK2 => ?_
  refine awp_seq_k fun K3 hK3 => ?_
  by_cases hc0 : c = 0
  · subst hc0
    have he : endAV 0 = .raw .nilIface := rfl
    rw [he]
    refine awp_region rfl ?_  -- region 1
    simp only [go_sem, vcSeq, Nat.reduceAdd, Nat.reduceMul, Nat.reduceSub, Nat.reduceLeDiff, Nat.reduceEqDiff, Nat.reduceLT]
    apply hK3; clear hK3 K3
    refine awp_cond rfl (fun _ => ?_) (fun hc => by simp at hc)
    refine awp_seq_k fun K4 hK4 => ?_
    refine awp_region rfl ?_  -- region 2
    simp only [go_sem, vcSeq, Nat.reduceAdd, Nat.reduceMul, Nat.reduceSub, Nat.reduceLeDiff, Nat.reduceEqDiff, Nat.reduceLT]
    apply hK4; clear hK4 K4
    refine awp_ret ⟨[], ?_⟩
    simp only [go_sem, AObj.bel, Nat.reduceAdd, Nat.reduceMul, Nat.reduceSub, Nat.reduceLeDiff, Nat.reduceEqDiff, Nat.reduceLT]
  · have he : endAV c = errAV c := by simp [endAV, hc0]
    rw [he]
    refine awp_region rfl ?_  -- region 1
    simp only [go_sem, errAV, vcSeq, Nat.reduceAdd, Nat.reduceMul, Nat.reduceSub, Nat.reduceLeDiff, Nat.reduceEqDiff, Nat.reduceLT]
    apply hK3; clear hK3 K3
    refine awp_cond rfl (fun hc => by simp at hc) (fun _ => ?_)
    refine awp_skip ?_
    simp only [athen]
    apply hK2; clear hK2 K2
    refine awp_seq_k fun K5 hK5 => ?_
    refine awp_region rfl ?_  -- region 3
    simp only [go_sem, vcSeq, Nat.reduceAdd, Nat.reduceMul, Nat.reduceSub, Nat.reduceLeDiff, Nat.reduceEqDiff, Nat.reduceLT]
    apply hK5; clear hK5 K5
    refine awp_seq_k fun K6 hK6 => ?_
    refine awp_seq_k fun K7 hK7 => ?_
    refine awp_region rfl ?_  -- region 4
    simp only [go_sem, vcSeq, Nat.reduceAdd, Nat.reduceMul, Nat.reduceSub, Nat.reduceLeDiff, Nat.reduceEqDiff, Nat.reduceLT]
    refine vsem_call (fun hN => lstep_gives (s := []) 0 rfl rfl rfl ⟨Tryd.func70, rfl, rfl⟩ hN (w70 gob hg c 0) rfl (by simp only [go_sem, errAV, Nat.reduceEqDiff]) ?_ (fit_same ⟨rfl, rfl, trivial⟩ (by simp [UU, AObj.bel, belL, AV.bel]) (by simp) (by simp; omega) rfl (by omega))) (.inl rfl) ?_
    · simp only [go_sem, errAV, Nat.reduceAdd, Nat.reduceMul, Nat.reduceSub, Nat.reduceLeDiff, Nat.reduceEqDiff, Nat.reduceLT]
    simp only [shift_zero, AV.ren_nil, AObj.ren_nil, sg_nil_at]
    simp only [go_sem, vcSeq, Nat.reduceAdd, Nat.reduceMul, Nat.reduceSub, Nat.reduceLeDiff, Nat.reduceEqDiff, Nat.reduceLT]
    apply hK7; clear hK7 K7
    refine awp_cond rfl (fun _ => ?_) (fun hc => by simp at hc)
    refine awp_seq_k fun K8 hK8 => ?_
    refine awp_region rfl ?_  -- region 5
    simp only [go_sem, vcSeq, Nat.reduceAdd, Nat.reduceMul, Nat.reduceSub, Nat.reduceLeDiff, Nat.reduceEqDiff, Nat.reduceLT]
    apply hK8; clear hK8 K8
    refine awp_ret ⟨[], ?_⟩
    simp only [go_sem, AObj.bel, Nat.reduceAdd, Nat.reduceMul, Nat.reduceSub, Nat.reduceLeDiff, Nat.reduceEqDiff, Nat.reduceLT]

theorem LH_fits {H : Heap} {g : Ledger} (k : Nat) (h0 : get H k = some (.cells 70 [.raw (.int .i64 g.count), .ref (k + 1), .ref (k + 2)])) (h1 : get H (k + 1) = some (idsM g.ids)) (h2 : get H (k + 2) = some (balM g.bals)) : FitC H [(0, k), (1, k + 1), (2, k + 2)] (LH g) 3 0 (LH g) where
  objs := by
    refine ⟨h0, .inl (by omega), ⟨trivial, .inl (by omega), .inl (by omega), trivial⟩, ?_, .inl (by omega), ids_bel _ _, ?_, .inl (by omega), bal_bel _ _, trivial⟩
    · show get H (k + 1) = some (AObj.ren _ (idsM g.ids))
      simp only [AObj.ren, ids_ren]; exact h1
    · show get H (k + 2) = some (AObj.ren _ (balM g.bals))
      simp only [AObj.ren, bal_ren]; exact h2
  inj := by show [k, k + 1, k + 2].Nodup; simp
  cov := fun i hi => by
    have : i = 0 ∨ i = 1 ∨ i = 2 := by omega
    rcases this with rfl | rfl | rfl <;> rfl
  sk := fun p hp => by
    simp only [List.mem_cons, List.not_mem_nil, or_false] at hp
    rcases hp with rfl | rfl | rfl <;> rfl
  dom := fun p hp => by
    simp only [LH, List.mem_cons, List.not_mem_nil, or_false] at hp
    rcases hp with rfl | rfl | rfl <;> exact .inl rfl
  all := fun p hp => by
    simp only [LH, List.mem_cons, List.not_mem_nil, or_false] at hp
    rcases hp with rfl | rfl | rfl <;> rfl
  far := by omega

theorem endAV_ren (σ : Nat → Nat) (c : Int) : (endAV c).ren σ = endAV c := by
  unfold endAV
  split <;> rfl
def bookPost (b : List Post) (p : Post) : List Post × Int :=
  if (ledgerOf b).2 = true then (if chk (ledgerOf b).1 p = 0 then (b ++ [p], 0) else (b, chk (ledgerOf b).1 p)) else ([], 1)

theorem runLedger_ok : ∀ (b : List Post) (g : Ledger), g.ok → (runLedger b g).1.ok
  | [], g, h => h
  | p :: r, g, h => by
    unfold runLedger
    split
    · exact runLedger_ok r _ (ledAdd_ok h p)
    · exact h
theorem ledgerOf_ok (b : List Post) : (ledgerOf b).1.ok := by
  unfold ledgerOf
  split
  · exact ⟨List.nodup_nil, List.nodup_nil⟩
  · exact runLedger_ok b led0 ⟨List.nodup_nil, List.nodup_nil⟩

theorem w17 (gob : Obj) (hgob : isG gob) (b : List Post) (p : Post) (hb : b.length ≤ 1048576) (hbp : ∀ q ∈ b, q.legs.length ≤ 1048576) (hp : p.legs.length ≤ 1048576) :
    Gives P 17 [.sl 2 (b.map postAV), postAV p] (GH gob) 1 (.tup [.ref 1, .raw (.int .i64 (bookPost b p).2)]) [(0, .other 0 gob), (1, .row 31 2 ((bookPost b p).1.map postOwn))] 2 := by
  refine gives_of_awp (fn := Tryd.f17) (N := 32) (vs := [.tmp 4, .tmp 5]) ⟨Tryd.func17, rfl, rfl⟩ rfl rfl (by simp) ?_
  simp only [enumE, postAV, GH]
  refine awp_seq_k fun K1 hK1 => ?_
  refine awp_region rfl ?_  -- region 0
  simp only [go_sem, vcSeq, Nat.reduceAdd, Nat.reduceMul, Nat.reduceSub, Nat.reduceLeDiff, Nat.reduceEqDiff, Nat.reduceLT]
  apply hK1; clear hK1 K1
  refine awp_seq_k fun K2 hK2 => ?_
  refine awp_region rfl ?_  -- region 1
  simp only [go_sem, vcSeq, Nat.reduceAdd, Nat.reduceMul, Nat.reduceSub, Nat.reduceLeDiff, Nat.reduceEqDiff, Nat.reduceLT]
  refine vsem_call (fun hN => lstep_gives (s := []) 3 rfl rfl rfl ⟨Tryd.func40, rfl, rfl⟩ hN (w40 b hb) rfl (by simp only [go_sem, Nat.reduceEqDiff]) ?_ (fit_new (by simp [LH]) (by omega))) (.inr (by decide)) ?_
  · simp only [go_sem]
  simp only [go_sem, vcSeq, LH, AObj.ren, AV.ren, renL, shift, ids_ren, bal_ren, Nat.reduceAdd, Nat.reduceMul, Nat.reduceSub, Nat.reduceLeDiff, Nat.reduceEqDiff, Nat.reduceLT]
  apply hK2; clear hK2 K2
  refine awp_seq_k fun K3 hK3 => ?_
  refine awp_seq_k fun K4 hK4 => ?_
  refine awp_region rfl ?_  -- region 2
  simp only [go_sem, vcSeq, Nat.reduceAdd, Nat.reduceMul, Nat.reduceSub, Nat.reduceLeDiff, Nat.reduceEqDiff, Nat.reduceLT]
  apply hK4; clear hK4 K4
  refine awp_cond rfl ?_ ?_
  · intro hc
    have hok : (ledgerOf b).2 = false := by simpa using hc
    have hbp2 : bookPost b p = ([], 1) := by simp [bookPost, hok]
    refine awp_seq_k fun K5 hK5 => ?_
    refine awp_region rfl ?_  -- region 3
    simp only [go_sem, vcSeq, Nat.reduceAdd, Nat.reduceMul, Nat.reduceSub, Nat.reduceLeDiff, Nat.reduceEqDiff, Nat.reduceLT]
    apply hK5; clear hK5 K5
    refine awp_nil (t := 4) 31 2 rfl (by omega) ?_
    refine awp_ret ⟨[(1, 5)], ?_⟩
    rw [hbp2]
    simp only [go_sem, AObj.bel, AObj.ren, AV.ren, renL, sg, Option.getD_some, Option.getD_none, Nat.reduceAdd, Nat.reduceMul, Nat.reduceSub, Nat.reduceLeDiff, Nat.reduceEqDiff, Nat.reduceLT]
  · intro hc
    have hok : (ledgerOf b).2 = true := by simpa using hc
    refine awp_skip ?_
    simp only [athen]
    apply hK3; clear hK3 K3
    refine awp_seq_k fun K6 hK6 => ?_
    refine awp_region rfl ?_  -- region 4
    simp only [go_sem, vcSeq, Nat.reduceAdd, Nat.reduceMul, Nat.reduceSub, Nat.reduceLeDiff, Nat.reduceEqDiff, Nat.reduceLT]
    -- CALL 1  t18 := call F43(t17)  :23 [after 0]
    refine vsem_call (fun hN => lstep_gives (s := []) 1 rfl rfl rfl ⟨Tryd.func43, rfl, rfl⟩ hN (w43 b hb hbp) rfl (by simp only [go_sem, Nat.reduceEqDiff]) ?_ (fit_new (by simp) (by omega))) (.inr (by decide)) ?_
    · simp only [go_sem]
    simp only [go_sem, vcSeq, AObj.ren, AV.ren, renL, shift, Nat.reduceAdd, Nat.reduceMul, Nat.reduceSub, Nat.reduceLeDiff, Nat.reduceEqDiff, Nat.reduceLT]
    apply hK6; clear hK6 K6
    refine awp_seq_k fun K7 hK7 => ?_
    refine awp_seq_k fun K8 hK8 => ?_
    refine awp_region rfl ?_  -- region 5
    simp only [go_sem, vcSeq, Nat.reduceAdd, Nat.reduceMul, Nat.reduceSub, Nat.reduceLeDiff, Nat.reduceEqDiff, Nat.reduceLT]
    -- CALL 2  t21 := call F44(t19, t20)  :76 [after 0,1]
    refine vsem_call (fun hN => lstep_pure (s := [(0, 2), (1, 2 + 1), (2, 2 + 2)]) rfl rfl rfl ⟨Tryd.func44, rfl, rfl⟩ hN (w44 (ledgerOf b).1 (ledgerOf_ok b) p) (by simp only [go_sem, postAV, renL, AV.ren, sg, Option.getD_some, Nat.reduceAdd, Nat.reduceMul, Nat.reduceSub, Nat.reduceLeDiff, Nat.reduceEqDiff, Nat.reduceLT]) ?_ (LH_fits 2 rfl rfl rfl)) (.inl rfl) ?_
    · simp only [go_sem, postAV, Nat.reduceAdd, Nat.reduceMul, Nat.reduceSub, Nat.reduceLeDiff, Nat.reduceEqDiff, Nat.reduceLT]
    rw [endAV_ren]
    simp only [go_sem, vcSeq, Nat.reduceAdd, Nat.reduceMul, Nat.reduceSub, Nat.reduceLeDiff, Nat.reduceEqDiff, Nat.reduceLT]
    apply hK8; clear hK8 K8
    refine awp_seq_k fun K9 hK9 => ?_
    refine awp_region rfl ?_  -- region 6
    by_cases hk : chk (ledgerOf b).1 p = 0
    · have he : endAV (chk (ledgerOf b).1 p) = .raw .nilIface := by simp [endAV, hk]
      have hbp2 : bookPost b p = (b ++ [p], 0) := by simp [bookPost, hok, hk]
      rw [he]
      simp only [go_sem, vcSeq, Nat.reduceAdd, Nat.reduceMul, Nat.reduceSub, Nat.reduceLeDiff, Nat.reduceEqDiff, Nat.reduceLT]
      apply hK9; clear hK9 K9
      refine awp_cond rfl (fun hc => by simp at hc) (fun _ => ?_)
      refine awp_skip ?_
      simp only [athen]
      apply hK7; clear hK7 K7
      refine awp_seq_k fun K11 hK11 => ?_
      refine awp_region rfl ?_  -- region 8
      simp only [go_sem, vcSeq, Nat.reduceAdd, Nat.reduceMul, Nat.reduceSub, Nat.reduceLeDiff, Nat.reduceEqDiff, Nat.reduceLT]
      -- CALL 2  t29 := call F46(t28)  :31 [after 1]
      refine vsem_call (fun hN => lstep_gives (s := []) 1 rfl rfl rfl ⟨Tryd.func46, rfl, rfl⟩ hN (w46 p hp) rfl (by simp only [go_sem, postAV, Nat.reduceEqDiff]) ?_ (fit_new (by simp) (by omega))) (.inr (by decide)) ?_
      · simp only [go_sem, postAV]
      simp only [go_sem, vcSeq, AObj.ren, AV.ren, renL, shift, sg, Nat.le_refl, Nat.add_zero, Nat.sub_self, Nat.reduceAdd, Nat.reduceMul, Nat.reduceSub, Nat.reduceLeDiff, Nat.reduceEqDiff, Nat.reduceLT]
      refine ⟨⟨by simp [maxLen]; omega, by omega⟩, ?_⟩
      have htk : b.map postOwn ++ [AV.agg [AV.raw (Value.int IntKind.i64 p.id), AV.own 35 3 (List.map legAV p.legs)]] = (b ++ [p]).map postOwn := by simp [postOwn]
      rw [htk]
      apply hK11; clear hK11 K11
      refine awp_ret ⟨[(1, 8)], ?_⟩
      rw [hbp2]
      simp only [go_sem, AObj.bel, AObj.ren, AV.ren, renL, sg, Option.getD_some, Option.getD_none, Nat.reduceAdd, Nat.reduceMul, Nat.reduceSub, Nat.reduceLeDiff, Nat.reduceEqDiff, Nat.reduceLT]
    · have hbp2 : bookPost b p = (b, chk (ledgerOf b).1 p) := by simp [bookPost, hok, hk]
      have he : endAV (chk (ledgerOf b).1 p) = errAV (chk (ledgerOf b).1 p) := by simp [endAV, hk]
      rw [he]
      simp only [go_sem, errAV, vcSeq, Nat.reduceAdd, Nat.reduceMul, Nat.reduceSub, Nat.reduceLeDiff, Nat.reduceEqDiff, Nat.reduceLT]
      apply hK9; clear hK9 K9
      refine awp_cond rfl (fun _ => ?_) (fun hc => by simp at hc)
      refine awp_seq_k fun K10 hK10 => ?_
      refine awp_region rfl ?_  -- region 7
      simp only [go_sem, vcSeq, Nat.reduceAdd, Nat.reduceMul, Nat.reduceSub, Nat.reduceLeDiff, Nat.reduceEqDiff, Nat.reduceLT]
      -- CALL 2  t26 := call F45(t25)  :3 [after 1]
      refine vsem_call (fun hN => lstep_pure (s := []) rfl rfl rfl ⟨Tryd.func45, rfl, rfl⟩ hN (w45 gob hgob (chk (ledgerOf b).1 p)) (by rw [he]; simp only [go_sem, errAV, Nat.reduceEqDiff]) ?_ (fit_same ⟨rfl, trivial⟩ (by simp [UU, AObj.bel]) (by simp) (by simp) rfl (by omega))) (.inl rfl) ?_
      · rw [he]; simp only [go_sem, errAV, Nat.reduceAdd, Nat.reduceMul, Nat.reduceSub, Nat.reduceLeDiff, Nat.reduceEqDiff, Nat.reduceLT]
      rw [AV.ren_nil]
      simp only [go_sem, vcSeq, Nat.reduceAdd, Nat.reduceMul, Nat.reduceSub, Nat.reduceLeDiff, Nat.reduceEqDiff, Nat.reduceLT]
      apply hK10; clear hK10 K10
      refine awp_ret ⟨[(1, 5)], ?_⟩
      rw [hbp2]
      simp only [go_sem, AObj.bel, AObj.ren, AV.ren, renL, sg, Option.getD_some, Option.getD_none, Nat.reduceAdd, Nat.reduceMul, Nat.reduceSub, Nat.reduceLeDiff, Nat.reduceEqDiff, Nat.reduceLT]
end Go.Proofs.T
end
