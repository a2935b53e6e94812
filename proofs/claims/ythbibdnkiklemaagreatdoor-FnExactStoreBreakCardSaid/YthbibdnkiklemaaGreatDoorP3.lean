/-
  The abstract layer, the walks and the plain laws that the claim leans on, part 3 of 7 (working texts Abs31 to S3). It proves lemmas alone; no condition of its own.
-/
import Derived.Test.YthbibdnkiklemaaGreatDoorP2
import Derived.Laws.BytesString
import Derived.Below
import Derived.Sort.Grow
import Derived.Deep.Draws
import Derived.Lib.AppendStr
import Derived.Lib.UnsafeStr
import Derived.Lib.Builder
import Derived.Laws.Externs
import Derived.Test.YthbibdnkiklemaaGreatDoorProg
import Derived.KernelRfl
import Derived.Lib.LaidTab
import Derived.Lib.ItoaNum
set_option linter.all false
set_option maxRecDepth 20000
section
open Go Go.MapKept
namespace Go.Abs
section
variable [Globals]
variable {t kt et : TypeId} {x y : Operand} {i : Nat} {kav : AV}
section
variable {K V : Type} [DecidableEq K]
def tX : List (K × V) → K → Option (Nat × V)
  | [], _ => none
  | (k, v) :: r, q => if k = q then some (0, v) else (tX r q).map fun p => (p.1 + 1, p.2)
def vW : List (K × V) → K → V → List (K × V)
  | [], q, w => [(q, w)]
  | (k, v) :: r, q, w => if k = q then (q, w) :: r else (k, v) :: vW r q w
def xE (m : List (K × V)) (q : K) (z : V) : V := match tX m q with | some p => p.2 | none => z
def mAV (eK : K → Value) (eV : V → AV) (m : List (K × V)) : List (Value × AV) := m.map fun p => (eK p.1, eV p.2)
theorem rZ (k : K) (v : V) (r : List (K × V)) (q : K) (z : V) : xE ((k, v) :: r) q z = if k = q then v else xE r q z := by
  unfold xE; rw [tX]
  by_cases h : k = q
  · simp [h]
  simp only [h, if_false]
  cases tX r q <;> rfl
theorem mval_nil (q : K) (z : V) : xE ([] : List (K × V)) q z = z := rfl
theorem mval_mset (k : K) (v : V) (q : K) (z : V) : ∀ m : List (K × V), xE (vW m k v) q z = if k = q then v else xE m q z
  | [] => by rw [vW, rZ]
  | (k', v') :: r => by
    unfold vW
    by_cases h : k' = k
    · subst h; simp only [if_true]; rw [rZ, rZ]
      by_cases h2 : k' = q <;> simp [h2]
    simp only [h, if_false]; rw [rZ, rZ, mval_mset k v q z r]
    by_cases h2 : k' = q
    · subst h2; simp only [if_true]; rw [if_neg (fun e => h e.symm)]
    simp [h2]
theorem mset_length (k : K) (v : V) : ∀ m : List (K × V), (vW m k v).length ≤ m.length + 1
  | [] => by simp [vW]
  | (k', v') :: r => by
    unfold vW; split
    · simp
    have := mset_length k v r; simp; omega
theorem mset_key (k : K) (v : V) (q : K) : ∀ m : List (K × V), q ∈ (vW m k v).map (·.1) → q = k ∨ q ∈ m.map (·.1)
  | [], h => by simp [vW] at h; exact .inl h
  | (k', v') :: r, h => by
    unfold vW at h; split at h
    · rename_i e
      simp only [List.map_cons, List.mem_cons] at h ⊢
      rcases h with h | h
      · exact .inl h
      exact .inr (.inr h)
    simp only [List.map_cons, List.mem_cons] at h ⊢
    rcases h with h | h
    · exact .inr (.inl h)
    rcases mset_key k v q r h with h | h
    · exact .inl h
    exact .inr (.inr h)
theorem mset_nodup (k : K) (v : V) : ∀ m : List (K × V), (m.map (·.1)).Nodup → ((vW m k v).map (·.1)).Nodup
  | [], _ => by simp [vW]
  | (k', v') :: r, h => by
    simp only [List.map_cons, List.nodup_cons] at h
    unfold vW; split
    · rename_i e
      subst e
      simpa using h
    rename_i e
    simp only [List.map_cons, List.nodup_cons]
    refine ⟨fun hm => ?_, mset_nodup k v r h.2⟩
    rcases mset_key k v k' r hm with h' | h'
    · exact e h'
    exact h.1 h'
variable {eK : K → Value} {eV : V → AV}
theorem mget_of (hi : ∀ a b, eK a = eK b → a = b) (k : K) : ∀ m : List (K × V), MGet (mAV eK eV m) (eK k) ((tX m k).map fun p => (p.1, eV p.2))
  | [] => fun p hp => by cases hp
  | (k', v') :: r => by
    have ih := mget_of hi k r
    unfold tX
    by_cases h : k' = k
    · subst h
      simp [MGet, mAV]
    simp only [h, if_false]
    cases hf : tX r k with
    | none =>
      rw [hf] at ih; intro p hp
      simp only [mAV, List.map_cons, List.mem_cons] at hp
      rcases hp with rfl | hp
      · exact fun e => h (hi _ _ e)
      exact ih p hp
    | some q =>
      rw [hf] at ih
      simpa [MGet, mAV] using ih
theorem mput_of (k : K) (v : V) : ∀ m : List (K × V), gL (mAV eK eV m) (eK k) (eV v) ((tX m k).map fun p => (p.1, eV p.2)) = mAV eK eV (vW m k v)
  | [] => rfl
  | (k', v') :: r => by
    have ih := mput_of k v r
    unfold tX vW
    by_cases h : k' = k
    · subst h
      simp [gL, mAV]
    simp only [h, if_false]
    cases hf : tX r k with
    | none =>
      rw [hf] at ih
      simp only [Option.map_none, gL, mAV] at ih ⊢
      simp [ih]
    | some q =>
      rw [hf] at ih
      simp only [Option.map_some, gL, mAV] at ih ⊢
      simp [ih]
theorem look_of (m : List (K × V)) (k : K) (z : V) : lookAV (eV z) false ((tX m k).map fun p => (p.1, eV p.2)) = eV (xE m k z) := by
  unfold lookAV xE
  cases tX m k <;> rfl
theorem mAV_bel {U : Nat → Prop} (h : ∀ v, (eV v).bel U) (m : List (K × V)) : aC U ((mAV eK eV m).map (·.2)) := by
  rw [bLi]; intro x hx
  obtain ⟨p, hp, rfl⟩ := List.mem_map.1 hx
  obtain ⟨q, hq, rfl⟩ := List.mem_map.1 hp
  exact h _
theorem mAV_ren (σ : Nat → Nat) (h : ∀ v, (eV v).ren σ = eV v) (m : List (K × V)) : ((mAV eK eV m).map fun p => (p.1, p.2.ren σ)) = mAV eK eV m := by
  unfold mAV; rw [List.map_map]
  exact List.map_congr_left fun p _ => by simp [h]
variable {P : Program} {ro : Option Nat} {N : Nat} {o : Oper} {E : Env} {H : Heap} {nx b0 : Nat} {ds : List (Option Tmp)}
theorem lstep_look {m : List (K × V)} {isKey : Value → Prop} {k : K} {z : V} (hg : o.guard = none) (ho : o.op = .lookup t x y false) (hN : ∀ d, o.dst = some d → d < N) (hm : iY P t = some (kt, et)) (hz : zE P et = some (eV z))
    (hK : KeyT P kt isKey) (hi : ∀ a b, eK a = eK b → a = b) (hk : ∀ a, isKey (eK a)) (hx : opv E x = some (.ref i)) (hH : get H i = some (.map kt et (mAV eK eV m))) (hnd : (m.map (·.1)).Nodup) (hy : opv E y = some kav) (hkv : keyV kav = some (eK k)) :
    bC P ro N ds o b0 E H (tO [x, y]) [i] (eV (xE m k z)) [] nx 0 := by
  rw [← look_of (eV := eV) m k z]
  refine lstep_lookup hg ho hN hm hz hK hx hH hy hkv (hk k) (fun p hp => ?_) ?_ (mget_of hi k m)
  · obtain ⟨q, _, rfl⟩ := List.mem_map.1 hp
    exact hk _
  rw [show ((mAV eK eV m).map (·.1)) = (m.map (·.1)).map eK by simp [mAV]]
  exact pJ (fun a _ b _ => hi a b) hnd
theorem lstep_upd {x y z : Operand} {m : List (K × V)} {isKey : Value → Prop} {k : K} {v : V} (hg : o.guard = none) (ho : o.op = .mapUpdate t x y z) (hN : ∀ d, o.dst = some d → d < N) (hm : iY P t = some (kt, et))
    (hK : KeyT P kt isKey) (hi : ∀ a b, eK a = eK b → a = b) (hk : ∀ a, isKey (eK a)) (hx : opv E x = some (.ref i)) (hH : get H i = some (.map kt et (mAV eK eV m))) (hnd : (m.map (·.1)).Nodup) (hy : opv E y = some kav) (hkv : keyV kav = some (eK k)) (hz : opv E z = some (eV v)) (hlen : m.length + 1 < maxLen) :
    bC P ro N ds o b0 E H (tO [x, y, z]) [i] (.raw undef) [(i, .map kt et (mAV eK eV (vW m k v)))] nx 0 := by
  rw [← mput_of (eK := eK) (eV := eV) k v m]
  refine lstep_mapUpdate hg ho hN hm hK hx hH hy hkv hz (hk k) (fun p hp => ?_) ?_ (mget_of hi k m) (by simpa [mAV] using hlen)
  · obtain ⟨q, _, rfl⟩ := List.mem_map.1 hp
    exact hk _
  rw [show ((mAV eK eV m).map (·.1)) = (m.map (·.1)).map eK by simp [mAV]]
  exact pJ (fun a _ b _ => hi a b) hnd
end
end
section
variable [Globals]
section
variable {P : Program} {ro : Option Nat} {N : Nat} {o : Oper} {E : Env} {H : Heap} {nx b0 : Nat} {ds : List (Option Tmp)} {U : Nat → Prop}
end
end
section
variable [Globals]
section
variable {K V : Type} [DecidableEq K] {eK : K → Value} {eV : V → AV}
variable {P : Program} {ro : Option Nat} {N : Nat} {o : Oper} {E : Env} {H : Heap} {nx b0 : Nat} {ds : List (Option Tmp)}
end
end
end Go.Abs
end
section
open Go
namespace Go.Abs
section
variable [Globals]
section
variable {C : Conc} {H : Heap} {U : Nat → Prop} {w w' : World}
theorem RelH.grow (h : RelH C H U w) (hsz : w.heap.size ≤ w'.heap.size) (hk : ∀ k, k < w.heap.size → w'.heap[k]? = w.heap[k]?) : RelH C H U w' where
  obj := fun i o hi => (h.obj i o hi).mono (fun _ _ h => h) (fun b hb _ => hk b hb) (fun b hb => hk b ((h.obj i o hi).own_lt b hb))
  apart := h.apart
  xapart := h.xapart
  xlt := fun b hb => Nat.lt_of_lt_of_le (h.xlt b hb) hsz
  objb := h.objb
  gl := h.glK (fun _ _ h => h) fun b _ _ _ hb _ => hk b (ltB hb)
theorem StepR.grow (ho : w'.os = w.os) (ht : w'.tape = w.tape) (hout : w'.output = w.output) (hsz : w.heap.size ≤ w'.heap.size) (hk : ∀ k, k < w.heap.size → w'.heap[k]? = w.heap[k]?) : StepR C H U w C H w' :=
  ⟨ho, ht, hout, hsz, fun k hk' _ => hk k hk', fun _ h => .inl h, rfl, rfl, fun _ _ => rfl⟩
end
theorem get_nilE {α : Type} (n : Nat) : get ([] : List (Nat × α)) n = none := rfl
attribute [go_sem] get_nilE Option.getD_none Option.getD_some
theorem wL {H H1 : Heap} {nw : Nat} (h : ∀ i ∈ H1.map (·.1), i < nw) (hm : nw ≤ 1000) : FitC H [] [] 0 nw H1 where
  objs := trivial
  inj := List.nodup_nil
  cov := fun i hi => by omega
  sk := fun p hp => by cases hp
  dom := fun p hp => .inr ⟨Nat.zero_le _, by have := h _ (List.mem_map_of_mem hp); omega⟩
  all := fun p hp => by cases hp
  far := by omega
end
section
variable [Globals]
variable {α : Type} {j e sz e' sz' n i q : Nat} {xs ys cs : List AV} {c : Code} {ρ : Nat → Value} {av U : Nat → Prop} {hp : Array Obj} {v : Value} {ow g ow2 : List Nat} {y : α}
theorem mP {xs : List α} {j k : Nat} (h : k ≠ j) : (xs.set j y)[k]? = xs[k]? := by
  rw [List.getElem?_set, if_neg (fun e => h e.symm)]
theorem gM {xs : List α} {x y : α} (h : xs[j]? = some x) : (xs.set j y)[j]? = some y := by
  rw [List.getElem?_set, if_pos rfl, if_pos (List.getElem?_eq_some_iff.1 h).1]
theorem mB {f : Nat → List Nat} {b : Nat} (h : b ∈ aP n fun k => if k = j then g else f k) (hg : ∀ b, b ∈ g → b ∈ f j) : b ∈ aP n f := by
  obtain ⟨k, hk, hb⟩ := mFl.1 h
  by_cases e : k = j
  · rw [if_pos e] at hb
    exact mFl.2 ⟨k, hk, by rw [e]; exact hg b hb⟩
  rw [if_neg e] at hb
  exact mFl.2 ⟨k, hk, hb⟩
theorem pZ {f : Nat → List Nat} (h : (aP n f).Nodup) (hg : ∀ b, b ∈ g → b ∈ f j) (hgn : g.Nodup) : (aP n fun k => if k = j then g else f k).Nodup := by
  rw [aI] at h ⊢
  refine ⟨fun k hk => ?_, fun k l hk hl hne b hb hb' => ?_⟩
  · split
    · exact hgn
    exact h.1 k hk
  refine h.2 k l hk hl hne b ?_ ?_
  · split at hb
    · rename_i e; rw [e]; exact hg b hb
    exact hb
  split at hb'
  · rename_i e; rw [e]; exact hg b hb'
  exact hb'
theorem RepO.split (h : RepO ρ av hp (.own e sz xs) v ow) (hnd : ow.Nodup) (hb : aC U xs)
    (hj : xs[j]? = some (.agg cs)) (hq : cs[q]? = some (.own e' sz' ys)) :
    ∃ u ow1 ow2, RepO ρ av hp (.own e' sz' ys) u ow2 ∧ u.oneCell' = true ∧ ow1.Nodup ∧ ow2.Nodup ∧ (∀ b, b ∈ ow1 → b ∈ ow) ∧ (∀ b, b ∈ ow2 → b ∈ ow) ∧ (∀ b, b ∈ ow1 → b ∉ ow2) ∧
      ∀ (ρ' : Nat → Value) (n : Nat), (∀ i, U i → ρ' i = ρ i) → ρ' n = u → RepO ρ' av hp (.own e sz (xs.set j (.agg (cs.set q (.ref n))))) v ow1 := by
  have hjl := (List.getElem?_eq_some_iff.1 hj).1
  have hql := (List.getElem?_eq_some_iff.1 hq).1
  cases h with
  | leaf _ _ h => cases h
  | own0 => simp at hj
  | own _ _ _ b c cells vals ows hh hs hc hm hx hcells =>
    obtain ⟨vs, ows', hvj, hvn, hoj, hvx⟩ := (hx j _ hj).agg_inv
    have hqx := hvx q _ hq
    obtain ⟨hn1, hn2⟩ := List.nodup_cons.1 hnd
    have hnj : (aP cs.length ows').Nodup := by rw [← hoj]; exact (aI.1 hn2).1 j hjl
    have hinj : ∀ b', b' ∈ (aP cs.length fun q2 => if q2 = q then [] else ows' q2) → b' ∈ ows j := fun b' hb' => by rw [hoj]; exact mB hb' (by simp)
    have hq2 : ∀ b', b' ∈ ows' q → b' ∈ aP xs.length ows := fun b' hb' => mFl.2 ⟨j, hjl, by rw [hoj]; exact mFl.2 ⟨q, hql, hb'⟩⟩
    refine ⟨vs.getD q undef, b :: aP xs.length (fun k => if k = j then (aP cs.length fun q2 => if q2 = q then [] else ows' q2) else ows k), ows' q, hqx, ?_, ?_, (aI.1 hnj).1 q hql, ?_, ?_, ?_, ?_⟩
    · clear hnj hinj hq2
      generalize vs.getD q undef = u0 at hqx ⊢
      generalize ows' q = oo at hqx
      cases hqx with
      | leaf _ _ h => cases h
      | own0 => rfl
      | own => rfl
    · refine List.nodup_cons.2 ⟨fun hb' => hn1 (mB hb' hinj), pZ hn2 hinj (pZ hnj (by simp) List.nodup_nil)⟩
    · intro b' hb'
      rcases List.mem_cons.1 hb' with e1 | e1
      · rw [e1]; exact List.mem_cons_self
      exact List.mem_cons_of_mem _ (mB e1 hinj)
    · exact fun b' hb' => List.mem_cons_of_mem _ (hq2 b' hb')
    · intro b' hb' hb2
      rcases List.mem_cons.1 hb' with e1 | e1
      · rw [e1] at hb2; exact hn1 (hq2 b hb2)
      obtain ⟨k, hk, hbk⟩ := mFl.1 e1
      by_cases ek : k = j
      · rw [if_pos ek] at hbk
        obtain ⟨q2, hq2l, hbq⟩ := mFl.1 hbk
        by_cases eq : q2 = q
        · rw [if_pos eq] at hbq; cases hbq
        rw [if_neg eq] at hbq
        exact (aI.1 hnj).2 q2 q hq2l hql eq b' hbq hb2
      rw [if_neg ek] at hbk
      exact (aI.1 hn2).2 k j hk hjl ek b' hbk (by rw [hoj]; exact mFl.2 ⟨q, hql, hb2⟩)
    intro ρ' n hρ hn
    have hlen : (xs.set j (.agg (cs.set q (.ref n)))).length = xs.length := List.length_set ..
    have := RepO.own (ρ := ρ') (av := av) (hp := hp) e sz (xs.set j (.agg (cs.set q (.ref n)))) b c cells vals (fun k => if k = j then (aP cs.length fun q2 => if q2 = q then [] else ows' q2) else ows k) hh hs (by rw [hlen]; exact hc) hm (fun k x hk => ?_) (by rw [hlen]; exact hcells)
    · rw [hlen] at this; exact this
    by_cases ek : k = j
    · subst ek; rw [gM hj] at hk; cases hk; simp only [if_true]; rw [hvj]
      have hlc : (cs.set q (.ref n)).length = cs.length := List.length_set ..
      have hbc : aC U cs := bG hb hj
      have := RepO.agg (ρ := ρ') (av := av) (hp := hp) (cs.set q (.ref n)) vs (fun q2 => if q2 = q then [] else ows' q2) (by rw [hlc]; exact hvn) (fun q2 y hy => ?_)
      · rw [hlc] at this; exact this
      by_cases eq : q2 = q
      · subst eq; rw [gM hq] at hy; cases hy; simp only [if_true]
        refine .leaf _ _ ?_
        rw [← hn]
        exact .ref n
      rw [mP eq] at hy; simp only [if_neg eq]
      exact (hvx q2 y hy).named hρ (bG hbc hy)
    rw [mP ek] at hk; simp only [if_neg ek]
    exact (hx k x hk).named hρ (bG hb hk)
theorem RepO.join (h : RepO ρ av hp (.own e sz xs) v ow) (hnd : ow.Nodup) (h2 : RepO ρ av hp (.own e' sz' ys) (ρ n) ow2) (hnd2 : ow2.Nodup) (hdis : ∀ b, b ∈ ow → b ∉ ow2)
    (hj : xs[j]? = some (.agg cs)) (hq : cs[q]? = some (.ref n)) :
    ∃ ow1, RepO ρ av hp (.own e sz (xs.set j (.agg (cs.set q (.own e' sz' ys))))) v ow1 ∧ ow1.Nodup ∧ (∀ b, b ∈ ow1 → b ∈ ow ∨ b ∈ ow2) := by
  have hjl := (List.getElem?_eq_some_iff.1 hj).1
  have hql := (List.getElem?_eq_some_iff.1 hq).1
  cases h with
  | leaf _ _ h => cases h
  | own0 => simp at hj
  | own _ _ _ b c cells vals ows hh hs hc hm hx hcells =>
    obtain ⟨vs, ows', hvj, hvn, hoj, hvx⟩ := (hx j _ hj).agg_inv
    have hqx := hvx q _ hq
    obtain ⟨hn1, hn2⟩ := List.nodup_cons.1 hnd
    have hnj : (aP cs.length ows').Nodup := by rw [← hoj]; exact (aI.1 hn2).1 j hjl
    have hold : ∀ q2 b', q2 < cs.length → b' ∈ ows' q2 → b' ∈ aP xs.length ows := fun q2 b' hq2 hb' => mFl.2 ⟨j, hjl, by rw [hoj]; exact mFl.2 ⟨q2, hq2, hb'⟩⟩
    have hd : ∀ b', b' ∈ aP xs.length ows → b' ∉ ow2 := fun b' hb' => hdis b' (List.mem_cons_of_mem _ hb')
    have hin : ∀ b', b' ∈ (aP cs.length fun q2 => if q2 = q then ow2 else ows' q2) → b' ∈ ows j ∨ b' ∈ ow2 := fun b' hb' => by
      obtain ⟨q2, hq2, hb2⟩ := mFl.1 hb'
      split at hb2
      · exact .inr hb2
      exact .inl (by rw [hoj]; exact mFl.2 ⟨q2, hq2, hb2⟩)
    have hin2 : ∀ b', b' ∈ (aP xs.length fun k => if k = j then (aP cs.length fun q2 => if q2 = q then ow2 else ows' q2) else ows k) → b' ∈ aP xs.length ows ∨ b' ∈ ow2 := fun b' hb' => by
      obtain ⟨k, hk, hb2⟩ := mFl.1 hb'
      split at hb2
      · rcases hin b' hb2 with h3 | h3
        · exact .inl (mFl.2 ⟨j, hjl, h3⟩)
        exact .inr h3
      exact .inl (mFl.2 ⟨k, hk, hb2⟩)
    refine ⟨b :: aP xs.length (fun k => if k = j then (aP cs.length fun q2 => if q2 = q then ow2 else ows' q2) else ows k), ?_, ?_, ?_⟩
    · have hlen : (xs.set j (.agg (cs.set q (.own e' sz' ys)))).length = xs.length := List.length_set ..
      have := RepO.own (ρ := ρ) (av := av) (hp := hp) e sz (xs.set j (.agg (cs.set q (.own e' sz' ys)))) b c cells vals (fun k => if k = j then (aP cs.length fun q2 => if q2 = q then ow2 else ows' q2) else ows k) hh hs (by rw [hlen]; exact hc) hm (fun k x hk => ?_) (by rw [hlen]; exact hcells)
      · rw [hlen] at this; exact this
      by_cases ek : k = j
      · subst ek; rw [gM hj] at hk; cases hk; simp only [if_true]; rw [hvj]
        have hlc : (cs.set q (.own e' sz' ys)).length = cs.length := List.length_set ..
        have := RepO.agg (ρ := ρ) (av := av) (hp := hp) (cs.set q (.own e' sz' ys)) vs (fun q2 => if q2 = q then ow2 else ows' q2) (by rw [hlc]; exact hvn) (fun q2 y hy => ?_)
        · rw [hlc] at this; exact this
        by_cases eq : q2 = q
        · subst eq; rw [gM hq] at hy; cases hy; simp only [if_true]
          have hv : vs.getD q2 undef = ρ n := by
            generalize vs.getD q2 undef = u at hqx
            generalize ows' q2 = oo at hqx
            cases hqx with
            | leaf _ _ h => cases h; rfl
          rw [hv]; exact h2
        rw [mP eq] at hy; simp only [if_neg eq]
        exact hvx q2 y hy
      rw [mP ek] at hk; simp only [if_neg ek]
      exact hx k x hk
    · refine List.nodup_cons.2 ⟨fun hb' => ?_, ?_⟩
      · rcases hin2 b hb' with h3 | h3
        · exact hn1 h3
        exact hdis b List.mem_cons_self h3
      rw [aI]
      refine ⟨fun k hk => ?_, fun k l hk hl hne b' hb1 hb2 => ?_⟩
      · split
        · rw [aI]
          refine ⟨fun q2 hq2 => ?_, fun q2 q3 h2l h3l hne b' hb1 hb2 => ?_⟩
          · split
            · exact hnd2
            exact (aI.1 hnj).1 q2 hq2
          split at hb1
          · rename_i e1
            rw [if_neg (fun e2 => hne (e1.trans e2.symm))] at hb2
            exact hd b' (hold q3 b' h3l hb2) hb1
          split at hb2
          · exact hd b' (hold q2 b' h2l hb1) hb2
          exact (aI.1 hnj).2 q2 q3 h2l h3l hne b' hb1 hb2
        exact (aI.1 hn2).1 k hk
      split at hb1
      · rename_i e1
        rw [if_neg (fun e2 => hne (e1.trans e2.symm))] at hb2
        rcases hin b' hb1 with h3 | h3
        · exact (aI.1 hn2).2 j l hjl hl (fun e2 => hne (e1.trans e2)) b' h3 hb2
        exact hd b' (mFl.2 ⟨l, hl, hb2⟩) h3
      split at hb2
      · rename_i e1 e2
        rcases hin b' hb2 with h3 | h3
        · exact (aI.1 hn2).2 k j hk hjl e1 b' hb1 h3
        exact hd b' (mFl.2 ⟨k, hk, hb1⟩) h3
      exact (aI.1 hn2).2 k l hk hl hne b' hb1 hb2
    intro b' hb'
    rcases List.mem_cons.1 hb' with e1 | e1
    · exact .inl (by rw [e1]; exact List.mem_cons_self)
    rcases hin2 b' e1 with h3 | h3
    · exact .inl (List.mem_cons_of_mem _ h3)
    exact .inr h3
theorem rW {U U' : Nat → Prop} {x : AV} (hU : ∀ i, U i → U' i) (h : aC U xs) (hx : x.bel U') : aC U' (xs.set j x) := by
  rw [bLi]; intro y hy
  rcases List.mem_or_eq_of_mem_set hy with h5 | h5
  · exact AV.bel_mono hU y (bLi.1 h y h5)
  rw [h5]; exact hx
theorem RepO.split1 (h : RepO ρ av hp (.own e sz xs) v ow) (hnd : ow.Nodup) (hb : aC U xs)
    (hj : xs[j]? = some (.own e' sz' ys)) :
    ∃ u ow1 ow2, RepO ρ av hp (.own e' sz' ys) u ow2 ∧ u.oneCell' = true ∧ ow1.Nodup ∧ ow2.Nodup ∧ (∀ b, b ∈ ow1 → b ∈ ow) ∧ (∀ b, b ∈ ow2 → b ∈ ow) ∧ (∀ b, b ∈ ow1 → b ∉ ow2) ∧
      ∀ (ρ' : Nat → Value) (n : Nat), (∀ i, U i → ρ' i = ρ i) → ρ' n = u → RepO ρ' av hp (.own e sz (xs.set j (.ref n))) v ow1 := by
  have hjl := (List.getElem?_eq_some_iff.1 hj).1
  cases h with
  | leaf _ _ h => cases h
  | own0 => simp at hj
  | own _ _ _ b c cells vals ows hh hs hc hm hx hcells =>
    have hjx := hx j _ hj
    obtain ⟨hn1, hn2⟩ := List.nodup_cons.1 hnd
    have hin : ∀ b', b' ∈ ows j → b' ∈ aP xs.length ows := fun b' hb' => mFl.2 ⟨j, hjl, hb'⟩
    refine ⟨vals j, b :: aP xs.length (fun k => if k = j then [] else ows k), ows j, hjx, ?_, ?_, (aI.1 hn2).1 j hjl, ?_, ?_, ?_, ?_⟩
    · generalize vals j = u0 at hjx ⊢
      generalize ows j = oo at hjx
      cases hjx with
      | leaf _ _ h => cases h
      | own0 => rfl
      | own => rfl
    · exact List.nodup_cons.2 ⟨fun hb' => hn1 (mB hb' (by simp)), pZ hn2 (by simp) List.nodup_nil⟩
    · intro b' hb'
      rcases List.mem_cons.1 hb' with e1 | e1
      · rw [e1]; exact List.mem_cons_self
      exact List.mem_cons_of_mem _ (mB e1 (by simp))
    · exact fun b' hb' => List.mem_cons_of_mem _ (hin b' hb')
    · intro b' hb' hb2
      rcases List.mem_cons.1 hb' with e1 | e1
      · rw [e1] at hb2; exact hn1 (hin b hb2)
      obtain ⟨k, hk, hbk⟩ := mFl.1 e1
      by_cases ek : k = j
      · rw [if_pos ek] at hbk; cases hbk
      rw [if_neg ek] at hbk
      exact (aI.1 hn2).2 k j hk hjl ek b' hbk hb2
    intro ρ' n hρ hn
    have hlen : (xs.set j (.ref n)).length = xs.length := List.length_set ..
    have := RepO.own (ρ := ρ') (av := av) (hp := hp) e sz (xs.set j (.ref n)) b c cells vals (fun k => if k = j then [] else ows k) hh hs (by rw [hlen]; exact hc) hm (fun k x hk => ?_) (by rw [hlen]; exact hcells)
    · rw [hlen] at this; exact this
    by_cases ek : k = j
    · subst ek; rw [gM hj] at hk; cases hk; simp only [if_true]
      refine .leaf _ _ ?_
      rw [← hn]
      exact .ref n
    rw [mP ek] at hk; simp only [if_neg ek]
    exact (hx k x hk).named hρ (bG hb hk)
theorem RepO.join1 (h : RepO ρ av hp (.own e sz xs) v ow) (hnd : ow.Nodup) (h2 : RepO ρ av hp (.own e' sz' ys) (ρ n) ow2) (hnd2 : ow2.Nodup) (hdis : ∀ b, b ∈ ow → b ∉ ow2)
    (hj : xs[j]? = some (.ref n)) :
    ∃ ow1, RepO ρ av hp (.own e sz (xs.set j (.own e' sz' ys))) v ow1 ∧ ow1.Nodup ∧ (∀ b, b ∈ ow1 → b ∈ ow ∨ b ∈ ow2) := by
  have hjl := (List.getElem?_eq_some_iff.1 hj).1
  cases h with
  | leaf _ _ h => cases h
  | own0 => simp at hj
  | own _ _ _ b c cells vals ows hh hs hc hm hx hcells =>
    have hjx := hx j _ hj
    obtain ⟨hn1, hn2⟩ := List.nodup_cons.1 hnd
    have hd : ∀ b', b' ∈ aP xs.length ows → b' ∉ ow2 := fun b' hb' => hdis b' (List.mem_cons_of_mem _ hb')
    have hin2 : ∀ b', b' ∈ (aP xs.length fun k => if k = j then ow2 else ows k) → b' ∈ aP xs.length ows ∨ b' ∈ ow2 := fun b' hb' => by
      obtain ⟨k, hk, hb2⟩ := mFl.1 hb'
      split at hb2
      · exact .inr hb2
      exact .inl (mFl.2 ⟨k, hk, hb2⟩)
    refine ⟨b :: aP xs.length (fun k => if k = j then ow2 else ows k), ?_, ?_, ?_⟩
    · have hlen : (xs.set j (.own e' sz' ys)).length = xs.length := List.length_set ..
      have := RepO.own (ρ := ρ) (av := av) (hp := hp) e sz (xs.set j (.own e' sz' ys)) b c cells vals (fun k => if k = j then ow2 else ows k) hh hs (by rw [hlen]; exact hc) hm (fun k x hk => ?_) (by rw [hlen]; exact hcells)
      · rw [hlen] at this; exact this
      by_cases ek : k = j
      · subst ek; rw [gM hj] at hk; cases hk; simp only [if_true]
        have hv : vals k = ρ n := by
          generalize vals k = u at hjx
          generalize ows k = oo at hjx
          cases hjx with
          | leaf _ _ h => cases h; rfl
        rw [hv]; exact h2
      rw [mP ek] at hk; simp only [if_neg ek]
      exact hx k x hk
    · refine List.nodup_cons.2 ⟨fun hb' => ?_, ?_⟩
      · rcases hin2 b hb' with h3 | h3
        · exact hn1 h3
        exact hdis b List.mem_cons_self h3
      rw [aI]
      refine ⟨fun k hk => ?_, fun k l hk hl hne b' hb1 hb2 => ?_⟩
      · split
        · exact hnd2
        exact (aI.1 hn2).1 k hk
      split at hb1
      · rename_i e1
        rw [if_neg (fun e2 => hne (e1.trans e2.symm))] at hb2
        exact hd b' (mFl.2 ⟨l, hl, hb2⟩) hb1
      split at hb2
      · exact hd b' (mFl.2 ⟨k, hk, hb1⟩) hb2
      exact (aI.1 hn2).2 k l hk hl hne b' hb1 hb2
    intro b' hb'
    rcases List.mem_cons.1 hb' with e1 | e1
    · exact .inl (by rw [e1]; exact List.mem_cons_self)
    rcases hin2 b' e1 with h3 | h3
    · exact .inl (List.mem_cons_of_mem _ h3)
    exact .inr h3
section
variable {P : Program} {ro : Option Nat} {N n0 : Nat} {Q : AQ} {E : Env} {H : Heap} {nx : Nat}
theorem awp_splitG (xs' : List AV) (hn : nx < 1000) (hi : get H i = some (.row e sz xs)) (hys : aC (UU nx) xs → aC (UU nx) ys) (hxs' : aC (UU nx) xs → aC (UU (nx + 1)) xs')
    (hsp : ∀ {ρ : Nat → Value} {av : Nat → Prop} {hp : Array Obj} {v : Value} {ow : List Nat}, RepO ρ av hp (.own e sz xs) v ow → ow.Nodup → aC (UU nx) xs →
      ∃ u ow1 ow2, RepO ρ av hp (.own e' sz' ys) u ow2 ∧ u.oneCell' = true ∧ ow1.Nodup ∧ ow2.Nodup ∧ (∀ b, b ∈ ow1 → b ∈ ow) ∧ (∀ b, b ∈ ow2 → b ∈ ow) ∧ (∀ b, b ∈ ow1 → b ∉ ow2) ∧
        ∀ (ρ' : Nat → Value), (∀ i, UU nx i → ρ' i = ρ i) → ρ' nx = u → RepO ρ' av hp (.own e sz xs') v ow1)
    (h : AWP P ro N n0 c Q E (put (put H i (.row e sz xs')) nx (.row e' sz' ys)) (nx + 1)) : AWP P ro N n0 c Q E H nx := by
  intro C a w Qc hn0 hR hK
  obtain ⟨h1, hnd⟩ := hR.obj i _ hi
  obtain ⟨hUi, hbx⟩ := hR.objb i _ hi
  have hbx : aC (UU nx) xs := hbx
  have hnU : ¬ UU nx nx := UU_new hn
  have hine : i ≠ nx := fun e => hnU (e ▸ hUi)
  obtain ⟨u, ow1, ow2, k1, k2, k3, k4, k5, k6, k7, k8⟩ := hsp h1 hnd hbx
  obtain ⟨C', hC'⟩ : ∃ C' : Conc, C' = { C with ρ := upd C.ρ nx u, one := upd_one C.one k2, own := upd (upd C.own i ow1) nx ow2 } := ⟨_, rfl⟩
  have hρ : ∀ k, UU nx k → C'.ρ k = C.ρ k := fun k hk => by rw [hC']; exact bO _ _ (fun e => hnU (e ▸ hk))
  have hρn : C'.ρ nx = u := by rw [hC']; exact aZ _ _ _
  have hoi : C'.own i = ow1 := by rw [hC']; show upd (upd C.own i ow1) nx ow2 i = _; rw [bO _ _ hine, aZ]
  have hon : C'.own nx = ow2 := by rw [hC']; exact aZ _ _ _
  have hoo : ∀ k, k ≠ i → k ≠ nx → C'.own k = C.own k := fun k h2 h3 => by rw [hC']; show upd (upd C.own i ow1) nx ow2 k = _; rw [bO _ _ h3, bO _ _ h2]
  have hX : C'.X = C.X := by rw [hC']
  have hB : C'.B = C.B := by rw [hC']
  generalize hH' : put (put H i (.row e sz xs')) nx (.row e' sz' ys) = H' at h
  have hget : ∀ k ob, get H' k = some ob → (k = nx ∧ ob = .row e' sz' ys) ∨ (k = i ∧ ob = .row e sz xs') ∨ (k ≠ i ∧ k ≠ nx ∧ get H k = some ob) := fun k ob hk => by
    rw [← hH', dF] at hk; split at hk
    · rename_i e1; exact .inl ⟨e1.symm, (Option.some.inj hk).symm⟩
    rename_i e1
    rw [dF] at hk; split at hk
    · rename_i e2; exact .inr (.inl ⟨e2.symm, (Option.some.inj hk).symm⟩)
    rename_i e2; exact .inr (.inr ⟨fun e => e2 e.symm, fun e => e1 e.symm, hk⟩)
  have hWs : ∀ k ob b, get H' k = some ob → b ∈ C'.own k → C.W H b := fun k ob b hk hb => by
    rcases hget k ob hk with ⟨rfl, _⟩ | ⟨rfl, _⟩ | ⟨h2, h3, h4⟩
    · rw [hon] at hb; exact ⟨i, _, hi, k6 b hb⟩
    · rw [hoi] at hb; exact ⟨k, _, hi, k5 b hb⟩
    rw [hoo k h2 h3] at hb; exact ⟨k, _, h4, hb⟩
  have hav : ∀ b, C'.avoid H' b → C.avoid H b := fun b hb => by
    rcases hb with hb | ⟨k, ob, hk, hb⟩
    · exact .inl (by rw [← hX]; exact hb)
    exact .inr (hWs k ob b hk hb)
  have hRH : RelH C' H' (UU (nx + 1)) w :=
    { obj := fun k ob hk => by
        rcases hget k ob hk with ⟨rfl, rfl⟩ | ⟨rfl, rfl⟩ | ⟨h2, h3, h4⟩
        · rw [hon, hρn]
          have hby : aC (UU k) ys := hys hbx
          exact ⟨((k1.named hρ hby).mono' (fun b _ hb => hav b hb) (fun _ _ _ _ _ _ => rfl) (fun _ _ => rfl)), k4⟩
        · rw [hoi, hρ k hUi]
          exact ⟨(k8 C'.ρ hρ hρn).mono' (fun b _ hb => hav b hb) (fun _ _ _ _ _ _ => rfl) (fun _ _ => rfl), k3⟩
        rw [hoo k h2 h3, hρ k (hR.objb k ob h4).1]
        exact ((hR.obj k ob h4).named hρ (hR.objb k ob h4).2).mono (fun b _ hb => hav b hb) (fun _ _ _ => rfl) (fun _ _ => rfl)
      apart := fun k l ok ol b hne hk hl hbk hbl => by
        rcases hget k ok hk with ⟨rfl, rfl⟩ | ⟨rfl, rfl⟩ | ⟨h2, h3, h4⟩
        · rw [hon] at hbk
          rcases hget l ol hl with ⟨rfl, rfl⟩ | ⟨rfl, rfl⟩ | ⟨m2, m3, m4⟩
          · exact hne rfl
          · rw [hoi] at hbl; exact k7 b hbl hbk
          rw [hoo l m2 m3] at hbl; exact hR.apart i l _ _ b (fun e => m2 e.symm) hi m4 (k6 b hbk) hbl
        · rw [hoi] at hbk
          rcases hget l ol hl with ⟨rfl, rfl⟩ | ⟨rfl, rfl⟩ | ⟨m2, m3, m4⟩
          · rw [hon] at hbl; exact k7 b hbk hbl
          · exact hne rfl
          rw [hoo l m2 m3] at hbl; exact hR.apart k l _ _ b (fun e => m2 e.symm) hi m4 (k5 b hbk) hbl
        rw [hoo k h2 h3] at hbk
        rcases hget l ol hl with ⟨rfl, rfl⟩ | ⟨rfl, rfl⟩ | ⟨m2, m3, m4⟩
        · rw [hon] at hbl; exact hR.apart k i _ _ b h2 h4 hi hbk (k6 b hbl)
        · rw [hoi] at hbl; exact hR.apart k l _ _ b h2 h4 hi hbk (k5 b hbl)
        rw [hoo l m2 m3] at hbl; exact hR.apart k l _ _ b hne h4 m4 hbk hbl
      xapart := fun k ob b hk hb hx => by
        rw [hX] at hx
        obtain ⟨l, ol, hl, hbl⟩ := hWs k ob b hk hb
        exact hR.xapart l ol b hl hbl hx
      xlt := fun b hb => hR.xlt b (by rw [← hX]; exact hb)
      gl := hR.toRelH.glK (fun b _ hb => hav b hb) (fun _ _ _ _ _ _ => rfl)
      objb := fun k ob hk => by
        rcases hget k ob hk with ⟨rfl, rfl⟩ | ⟨rfl, rfl⟩ | ⟨h2, h3, h4⟩
        · refine ⟨.inl (by omega), ?_⟩
          exact cY (dM (Nat.le_succ _)) ys (hys hbx)
        · refine ⟨dM (Nat.le_succ _) _ hUi, ?_⟩
          show aC (UU (nx + 1)) _
          exact hxs' hbx
        exact ⟨dM (Nat.le_succ _) _ (hR.objb k ob h4).1, AObj.bel_mono (dM (Nat.le_succ _)) _ (hR.objb k ob h4).2⟩ }
  have hs : StepR C H (UU nx) w C' H' w :=
    ⟨rfl, rfl, rfl, Nat.le_refl _, fun _ _ _ => rfl, fun b ⟨k, ob, hk, hb⟩ => .inl (hWs k ob b hk hb), hX, hB, hρ⟩
  have hR' := hR.change hs (dM (Nat.le_succ _)) hRH
  exact h C' a w Qc (by omega) hR' fun e1 E1 H1 nx1 C1 a1 w1 hn1 hR1 hs1 hQ => hK e1 E1 H1 nx1 C1 a1 w1 hn1 hR1 ((hs.fewerNames (dM hn0)).trans (fun _ h => h) hs1) hQ
theorem awp_split (hn : nx < 1000) (hi : get H i = some (.row e sz xs)) (hj : xs[j]? = some (.agg cs)) (hq : cs[q]? = some (.own e' sz' ys))
    (h : AWP P ro N n0 c Q E (put (put H i (.row e sz (xs.set j (.agg (cs.set q (.ref nx)))))) nx (.row e' sz' ys)) (nx + 1)) : AWP P ro N n0 c Q E H nx := by
  refine awp_splitG _ hn hi (fun hb => ?_) (fun hb => ?_) (fun h1 hnd hb => ?_) h
  · have hbc : aC (UU nx) cs := bG hb hj
    exact bG hbc hq
  · have hbc : aC (UU nx) cs := bG hb hj
    refine rW (x := .agg _) (dM (Nat.le_succ _)) hb (?_ : aC _ _)
    exact rW (x := .ref nx) (dM (Nat.le_succ _)) hbc (show UU (nx + 1) nx from .inl (Nat.lt_succ_self _))
  obtain ⟨u, ow1, ow2, k1, k2, k3, k4, k5, k6, k7, k8⟩ := h1.split hnd hb hj hq
  exact ⟨u, ow1, ow2, k1, k2, k3, k4, k5, k6, k7, fun ρ' => k8 ρ' nx⟩
theorem tM (hn : nx < 1000) (hi : get H i = some (.row e sz xs)) (hj : xs[j]? = some (.own e' sz' ys))
    (h : AWP P ro N n0 c Q E (put (put H i (.row e sz (xs.set j (.ref nx)))) nx (.row e' sz' ys)) (nx + 1)) : AWP P ro N n0 c Q E H nx := by
  refine awp_splitG _ hn hi (fun hb => bG hb hj) (fun hb => rW (x := .ref nx) (dM (Nat.le_succ _)) hb (show UU (nx + 1) nx from .inl (Nat.lt_succ_self _))) (fun h1 hnd hb => ?_) h
  obtain ⟨u, ow1, ow2, k1, k2, k3, k4, k5, k6, k7, k8⟩ := h1.split1 hnd hb hj
  exact ⟨u, ow1, ow2, k1, k2, k3, k4, k5, k6, k7, fun ρ' => k8 ρ' nx⟩
theorem rel_joinG {C : Conc} {a : Act} {w : World} (xs' : List AV) (hne : i ≠ n) (hi : get H i = some (.row e sz xs)) (hni : get H n = some (.row e' sz' ys)) (hxs' : aC (UU nx) xs → aC (UU nx) ys → aC (UU nx) xs')
    (hjn : ∀ {ρ : Nat → Value} {av : Nat → Prop} {hp : Array Obj} {v : Value} {ow ow2 : List Nat}, RepO ρ av hp (.own e sz xs) v ow → ow.Nodup → RepO ρ av hp (.own e' sz' ys) (ρ n) ow2 → ow2.Nodup → (∀ b, b ∈ ow → b ∉ ow2) →
      ∃ ow1, RepO ρ av hp (.own e sz xs') v ow1 ∧ ow1.Nodup ∧ (∀ b, b ∈ ow1 → b ∈ ow ∨ b ∈ ow2))
    (hR : Rel C N E H (UU nx) a w) : ∃ C', Rel C' N E (put (put H i (.row e sz xs')) n .dead) (UU nx) a w ∧ StepR C H (UU nx) w C' (put (put H i (.row e sz xs')) n .dead) w := by
  obtain ⟨h1, hnd⟩ := hR.obj i _ hi
  obtain ⟨g1, gnd⟩ := hR.obj n _ hni
  obtain ⟨hUi, hbx⟩ := hR.objb i _ hi
  obtain ⟨hUn, hby⟩ := hR.objb n _ hni
  have hbx : aC (UU nx) xs := hbx
  have hby : aC (UU nx) ys := hby
  obtain ⟨ow1, k1, k2, k3⟩ := hjn h1 hnd g1 gnd (fun b hb hb' => hR.apart i n _ _ b hne hi hni hb hb')
  obtain ⟨C', hC'⟩ : ∃ C' : Conc, C' = { C with own := upd (upd C.own i ow1) n [] } := ⟨_, rfl⟩
  have hρ : C'.ρ = C.ρ := by rw [hC']
  have hoi : C'.own i = ow1 := by rw [hC']; show upd (upd C.own i ow1) n [] i = _; rw [bO _ _ hne, aZ]
  have hon : C'.own n = [] := by rw [hC']; exact aZ _ _ _
  have hoo : ∀ k, k ≠ i → k ≠ n → C'.own k = C.own k := fun k h2 h3 => by rw [hC']; show upd (upd C.own i ow1) n [] k = _; rw [bO _ _ h3, bO _ _ h2]
  have hX : C'.X = C.X := by rw [hC']
  have hB : C'.B = C.B := by rw [hC']
  generalize hH' : put (put H i (.row e sz xs')) n .dead = H'
  have hget : ∀ k ob, get H' k = some ob → (k = n ∧ ob = .dead) ∨ (k = i ∧ ob = .row e sz xs') ∨ (k ≠ i ∧ k ≠ n ∧ get H k = some ob) := fun k ob hk => by
    rw [← hH', dF] at hk; split at hk
    · rename_i e1; exact .inl ⟨e1.symm, (Option.some.inj hk).symm⟩
    rename_i e1
    rw [dF] at hk; split at hk
    · rename_i e2; exact .inr (.inl ⟨e2.symm, (Option.some.inj hk).symm⟩)
    rename_i e2; exact .inr (.inr ⟨fun e => e2 e.symm, fun e => e1 e.symm, hk⟩)
  have hWs : ∀ k ob b, get H' k = some ob → b ∈ C'.own k → C.W H b := fun k ob b hk hb => by
    rcases hget k ob hk with ⟨rfl, _⟩ | ⟨rfl, _⟩ | ⟨h2, h3, h4⟩
    · rw [hon] at hb; cases hb
    · rw [hoi] at hb
      rcases k3 b hb with h5 | h5
      · exact ⟨k, _, hi, h5⟩
      exact ⟨n, _, hni, h5⟩
    rw [hoo k h2 h3] at hb; exact ⟨k, _, h4, hb⟩
  have hav : ∀ b, C'.avoid H' b → C.avoid H b := fun b hb => by
    rcases hb with hb | ⟨k, ob, hk, hb⟩
    · exact .inl (by rw [← hX]; exact hb)
    exact .inr (hWs k ob b hk hb)
  have hap : ∀ l ol b, l ≠ i → l ≠ n → get H l = some ol → b ∈ C.own l → b ∈ ow1 → False := fun l ol b h2 h3 hl hbl hb1 => by
    rcases k3 b hb1 with h5 | h5
    · exact hR.apart l i _ _ b h2 hl hi hbl h5
    exact hR.apart l n _ _ b h3 hl hni hbl h5
  have hRH : RelH C' H' (UU nx) w :=
    { obj := fun k ob hk => by
        rw [hρ]
        rcases hget k ob hk with ⟨rfl, rfl⟩ | ⟨rfl, rfl⟩ | ⟨h2, h3, h4⟩
        · exact hon
        · rw [hoi]
          exact ⟨k1.mono' (fun b _ hb => hav b hb) (fun _ _ _ _ _ _ => rfl) (fun _ _ => rfl), k2⟩
        rw [hoo k h2 h3]
        exact (hR.obj k ob h4).mono (fun b _ hb => hav b hb) (fun _ _ _ => rfl) (fun _ _ => rfl)
      apart := fun k l ok ol b hne' hk hl hbk hbl => by
        rcases hget k ok hk with ⟨rfl, rfl⟩ | ⟨rfl, rfl⟩ | ⟨h2, h3, h4⟩
        · rw [hon] at hbk; cases hbk
        · rw [hoi] at hbk
          rcases hget l ol hl with ⟨rfl, rfl⟩ | ⟨rfl, rfl⟩ | ⟨m2, m3, m4⟩
          · rw [hon] at hbl; cases hbl
          · exact hne' rfl
          rw [hoo l m2 m3] at hbl; exact hap l ol b m2 m3 m4 hbl hbk
        rw [hoo k h2 h3] at hbk
        rcases hget l ol hl with ⟨rfl, rfl⟩ | ⟨rfl, rfl⟩ | ⟨m2, m3, m4⟩
        · rw [hon] at hbl; cases hbl
        · rw [hoi] at hbl; exact hap k ok b h2 h3 h4 hbk hbl
        rw [hoo l m2 m3] at hbl; exact hR.apart k l _ _ b hne' h4 m4 hbk hbl
      xapart := fun k ob b hk hb hx => by
        rw [hX] at hx
        obtain ⟨l, ol, hl, hbl⟩ := hWs k ob b hk hb
        exact hR.xapart l ol b hl hbl hx
      xlt := fun b hb => hR.xlt b (by rw [← hX]; exact hb)
      gl := hR.toRelH.glK (fun b _ hb => hav b hb) (fun _ _ _ _ _ _ => rfl)
      objb := fun k ob hk => by
        rcases hget k ob hk with ⟨rfl, rfl⟩ | ⟨rfl, rfl⟩ | ⟨h2, h3, h4⟩
        · exact ⟨hUn, trivial⟩
        · refine ⟨hUi, ?_⟩
          show aC (UU nx) _
          exact hxs' hbx hby
        exact hR.objb k ob h4 }
  have hs : StepR C H (UU nx) w C' H' w :=
    ⟨rfl, rfl, rfl, Nat.le_refl _, fun _ _ _ => rfl, fun b ⟨k, ob, hk, hb⟩ => .inl (hWs k ob b hk hb), hX, hB, fun k _ => by rw [hρ]⟩
  have hR' := hR.change hs (fun _ h => h) hRH
  exact ⟨C', hR', hs⟩
theorem awp_joinG (xs' : List AV) (hne : i ≠ n) (hi : get H i = some (.row e sz xs)) (hni : get H n = some (.row e' sz' ys)) (hxs' : aC (UU nx) xs → aC (UU nx) ys → aC (UU nx) xs')
    (hjn : ∀ {ρ : Nat → Value} {av : Nat → Prop} {hp : Array Obj} {v : Value} {ow ow2 : List Nat}, RepO ρ av hp (.own e sz xs) v ow → ow.Nodup → RepO ρ av hp (.own e' sz' ys) (ρ n) ow2 → ow2.Nodup → (∀ b, b ∈ ow → b ∉ ow2) →
      ∃ ow1, RepO ρ av hp (.own e sz xs') v ow1 ∧ ow1.Nodup ∧ (∀ b, b ∈ ow1 → b ∈ ow ∨ b ∈ ow2))
    (h : AWP P ro N n0 c Q E (put (put H i (.row e sz xs')) n .dead) nx) : AWP P ro N n0 c Q E H nx := by
  intro C a w Qc hn0 hR hK
  obtain ⟨C', hR', hs⟩ := rel_joinG xs' hne hi hni hxs' hjn hR
  exact h C' a w Qc hn0 hR' fun e1 E1 H1 nx1 C1 a1 w1 hn1 hR1 hs1 hQ => hK e1 E1 H1 nx1 C1 a1 w1 hn1 hR1 ((hs.fewerNames (dM hn0)).trans (fun _ h => h) hs1) hQ
theorem rP {o : Oper} {b0 : Nat} {ds : List (Option Tmp)} {t s e : TypeId} {x : Operand} {n : Int} (hg : o.guard = none) (ho : o.op = .convert t s x) (hN : ∀ d, o.dst = some d → d < N) (hs : P.underlying t = some (.slice e)) (he : P.underlying e = some (.int .u8)) (hd : P.underlying s = some .string)
    (hx : opv E x = some (.ref i)) (hH : get H i = some (.row e 1 [.raw (.int .u8 n)])) :
    bC P ro N ds o b0 E H (tO [x]) [i] (.raw (.string (ByteArray.empty.push (UInt8.ofNat n.toNat)))) [] nx 0 := by
  refine lsO hg fun E' H' U hE hH' _ => ?_
  rw [aU0]
  have hops := oCg hE
  refine aG (by simp [ho, Op.noDefer]) hN fun C a w hR => ?_
  obtain ⟨h1, _⟩ := hR.opv (x := x) (r := .ref i) (by rw [hops x (by simp)]; exact hx)
  have hev : a.eval x = C.ρ i := by generalize a.eval x = v at h1; cases h1; rfl
  obtain ⟨h2, _⟩ := hR.obj i _ ((hH' i (by simp)).trans hH)
  refine ⟨trivial, _, ?_, .raw _⟩
  generalize C.ρ i = v at h2 hev
  generalize C.own i = oo at h2
  cases h2 with
  | leaf _ _ h => cases h
  | own _ _ _ b c cells vals ows hh hsz hc hm hxx hcells =>
    have hv0 : vals 0 = .int .u8 n := by
      have := hxx 0 _ rfl
      generalize vals 0 = u at this
      generalize ows 0 = oo at this
      cases this with
      | leaf _ _ h => cases h; rfl
    obtain ⟨q1, q2⟩ := hcells 0 (by simp)
    have hc0 : cells[0]? = some (.int .u8 n) := by
      have := q2 0 (by omega)
      rw [hv0] at this
      simpa [Value.cells] using this
    have hl := run_loadCells_list (P := P) w ⟨b, 0, none⟩ ([n].map (Value.int .u8)) (fun j v hj => by
      cases j with
      | zero => simp at hj; subst hj; simp [World.cell?, Addr.add, hh, hc0]
      | succ j => simp at hj)
    have hb := run_bytesToString (P := P) w ⟨b, 0, none⟩ 1 c [n] hl
    simp [execOp, ho, hev, run_convert_bytes_string w t s e (some ⟨b, 0, none⟩) 1 c hs he hd, hb]
theorem awp_join (hne : i ≠ n) (hi : get H i = some (.row e sz xs)) (hni : get H n = some (.row e' sz' ys)) (hj : xs[j]? = some (.agg cs)) (hq : cs[q]? = some (.ref n))
    (h : AWP P ro N n0 c Q E (put (put H i (.row e sz (xs.set j (.agg (cs.set q (.own e' sz' ys)))))) n .dead) nx) : AWP P ro N n0 c Q E H nx := by
  refine awp_joinG _ hne hi hni (fun hb hby => ?_) (fun h1 hnd g1 gnd hd => h1.join hnd g1 gnd hd hj hq) h
  have hbc : aC (UU nx) cs := bG hb hj
  refine rW (x := .agg _) (fun _ h => h) hb (?_ : aC _ _)
  exact rW (x := .own e' sz' ys) (fun _ h => h) hbc hby
theorem awp_join1 (hne : i ≠ n) (hi : get H i = some (.row e sz xs)) (hni : get H n = some (.row e' sz' ys)) (hj : xs[j]? = some (.ref n))
    (h : AWP P ro N n0 c Q E (put (put H i (.row e sz (xs.set j (.own e' sz' ys)))) n .dead) nx) : AWP P ro N n0 c Q E H nx :=
  awp_joinG _ hne hi hni (fun hb hby => rW (x := .own e' sz' ys) (fun _ h => h) hb hby) (fun h1 hnd g1 gnd hd => h1.join1 hnd g1 gnd hd hj) h
end
end
section
variable [Globals]
variable {c : Call} {f : Nat} {code : Code} {args xs : List AV} {r0 : AV}
section
variable {P : Program} {ro : Option Nat} {N : Nat} {o : Oper} {E : Env} {H : Heap} {nx b0 : Nat} {ds : List (Option Tmp)}
theorem mF {fn : Func} (bw : List Nat) (hg : o.guard = none) (ho : o.op = .call c) (hc : c.callee = .value (.func f)) (hT : FnT P f fn code)
    (hN : ∀ d, o.dst = some d → d < N) (hM : aB P f args [] 0 r0) (hxs : c.args.toList.map (opv E) = xs.map some) (hargs : xs.map (wF (get H) bw) = args) (hab : aC (UU 0) args) (hfr : r0.noFz = true) :
    bC P ro N ds o b0 E H (tO c.args.toList) bw r0 [] nx 0 := by
  have := lstep_lend (P := P) (ro := ro) (N := N) (o := o) (E := E) (H := H) (nx := nx) (b0 := b0) (ds := ds) (s := []) (nd := []) (H1 := []) (m0 := 0) (n1 := 0) bw 0 hg ho hc hT hN hM rfl hxs (by rw [hargs]; exact (iH args).symm) hab (wL (by simp) (by omega)) (fun i hi p hp => by cases hp) hfr (fun p hp => by cases hp)
  rw [aR, AV.ren_nil] at this; exact this
theorem lend_new {fn : Func} {H1 : Heap} {nw : Nat} (bw : List Nat) (hg : o.guard = none) (ho : o.op = .call c) (hc : c.callee = .value (.func f)) (hT : FnT P f fn code)
    (hN : ∀ d, o.dst = some d → d < N) (hM : aD P f args [] 0 r0 H1 nw) (hk : ∀ i ∈ H1.map (·.1), i < nw) (hw : nw ≤ 1000) (hxs : c.args.toList.map (opv E) = xs.map some) (hargs : xs.map (wF (get H) bw) = args) (hab : aC (UU 0) args) (hfr : r0.noFz = true) (hfo : ∀ p ∈ H1, p.2.noFz = true) :
    bC P ro N ds o b0 E H (tO c.args.toList) bw (r0.ren (shift id 0 nx nw)) (H1.map fun p => (shift id 0 nx nw p.1, p.2.ren (shift id 0 nx nw))) nx nw := by
  have := lstep_lend (P := P) (ro := ro) (N := N) (o := o) (E := E) (H := H) (nx := nx) (b0 := b0) (ds := ds) (s := []) (nd := []) (H1 := H1) (m0 := 0) (n1 := nw) bw nw hg ho hc hT hN hM (Nat.zero_add _).symm hxs (by rw [hargs]; exact (iH args).symm) hab (wL hk hw) (fun i hi p hp => by cases hp) hfr hfo
  exact this
end
end
section
variable [Globals]
mutual
def AV.sub (i : Nat) (y : AV) : AV → AV
  | .ref j => if j = i then y else .ref j
  | .agg cs => .agg (subL i y cs)
  | .tup cs => .tup (subL i y cs)
  | .iface t x => .iface t (AV.sub i y x)
  | .any => .any
  | .raw v => .raw v
  | .sl sz xs => .sl sz xs
  | .fp sz xs j off => .fp sz xs j off
  | .ptr j off => .ptr j off
  | .ep j sz k off => .ep j sz k off
  | .fn f a b => .fn f a b
  | .when c x => .when c x
  | .own e sz xs => .own e sz xs
def subL (i : Nat) (y : AV) : List AV → List AV
  | [] => []
  | x :: xs => AV.sub i y x :: subL i y xs
end
def AObj.sub (i : Nat) (y : AV) : AObj → AObj
  | .cells t cs => .cells t (subL i y cs)
  | o => o
def subE (i : Nat) (y : AV) : Env → Env
  | [] => []
  | (t, x) :: r => (t, AV.sub i y x) :: subE i y r
def nQ (i : Nat) (y : AV) : Heap → Heap
  | [] => []
  | (j, o) :: r => (j, if j = i then .dead else o.sub i y) :: nQ i y r
theorem zT (i : Nat) (y : AV) : ∀ (xs : List AV) (j : Nat), (subL i y xs)[j]? = (xs[j]?).map (AV.sub i y)
  | [], j => rfl
  | x :: xs, 0 => rfl
  | x :: xs, j + 1 => by simpa [subL] using zT i y xs j
theorem nK (i : Nat) (y : AV) : ∀ xs : List AV, (subL i y xs).length = xs.length
  | [] => rfl
  | x :: xs => by simp [subL, nK i y xs]
theorem subE_get (i : Nat) (y : AV) (t : Nat) : ∀ E : Env, get (subE i y E) t = (get E t).map (AV.sub i y)
  | [] => rfl
  | (k, x) :: r => by
    simp only [subE, get]; split
    · rfl
    exact subE_get i y t r
theorem iD (i : Nat) (y : AV) (t : Nat) : ∀ H : Heap, get (nQ i y H) t = (get H t).map fun o => if t = i then .dead else o.sub i y
  | [] => rfl
  | (k, x) :: r => by
    simp only [nQ, get]; split
    · rename_i h; subst h; rfl
    exact iD i y t r
mutual
theorem AV.fz_bel {U : Nat → Prop} : ∀ {x : AV}, x.bel U → x.fz.bel U
  | .any, _ => trivial
  | .raw _, _ => trivial
  | .agg cs, h => by rw [AV.fz]; exact nC (xs := cs) h
  | .tup cs, h => by rw [AV.fz]; exact nC (xs := cs) h
  | .sl _ xs, h => by rw [AV.fz]; exact nC (xs := xs) h
  | .fp _ xs _ _, h => by rw [AV.fz]; exact nC (xs := xs) h
  | .ptr _ _, h => h
  | .ep _ _ _ _, h => h
  | .ref _, h => h
  | .iface _ x, h => by rw [AV.fz]; exact AV.fz_bel (x := x) h
  | .fn _ a b, h => by rw [AV.fz]; exact ⟨nC (xs := a) h.1, nC (xs := b) h.2⟩
  | .when _ x, h => by rw [AV.fz]; exact AV.fz_bel (x := x) h
  | .own _ _ xs, h => by rw [AV.fz]; exact nC (xs := xs) h
theorem nC {U : Nat → Prop} : ∀ {xs : List AV}, aC U xs → aC U (fzL xs)
  | [], _ => trivial
  | x :: xs, h => ⟨AV.fz_bel h.1, nC h.2⟩
end
mutual
theorem AV.sub_bel {U : Nat → Prop} {i : Nat} {y : AV} (hy : y.bel U) : ∀ {x : AV}, x.bel U → (AV.sub i y x).bel U
  | .ref j, h => by
    rw [AV.sub]; split
    · exact hy
    exact h
  | .agg cs, h => by rw [AV.sub]; exact wD hy (xs := cs) h
  | .tup cs, h => by rw [AV.sub]; exact wD hy (xs := cs) h
  | .iface _ x, h => by rw [AV.sub]; exact AV.sub_bel hy (x := x) h
  | .any, h => h
  | .raw _, h => h
  | .sl _ _, h => h
  | .fp _ _ _ _, h => h
  | .ptr _ _, h => h
  | .ep _ _ _ _, h => h
  | .fn _ _ _, h => h
  | .when _ _, h => h
  | .own _ _ _, h => h
theorem wD {U : Nat → Prop} {i : Nat} {y : AV} (hy : y.bel U) : ∀ {xs : List AV}, aC U xs → aC U (subL i y xs)
  | [], _ => trivial
  | x :: xs, h => ⟨AV.sub_bel hy h.1, wD hy h.2⟩
end
theorem Rep.sub {ρ : Nat → Value} {av : Nat → Prop} {hp : Array Obj} {i : Nat} {y : AV} (hy : Rep ρ av hp y (ρ i)) {x : AV} {v : Value} (h : Rep ρ av hp x v) : Rep ρ av hp (AV.sub i y x) v := by
  have aux : ∀ {xs : List AV} {g : Nat → Value}, (∀ (j : Nat) (z : AV), xs[j]? = some z → Rep ρ av hp (AV.sub i y z) (g j)) → ∀ (j : Nat) (z : AV), (subL i y xs)[j]? = some z → Rep ρ av hp z (g j) := fun hh j z hz => by
    rw [zT] at hz
    obtain ⟨u, hu, rfl⟩ := Option.map_eq_some_iff.1 hz
    exact hh j u hu
  induction h with
  | agg cs vs hn _ ih => exact .agg _ vs (by rw [nK]; exact hn) (aux (g := fun j => vs.getD j undef) ih)
  | tup cs vs hn _ ih => exact .tup _ vs (by rw [nK]; exact hn) (aux (g := fun j => vs.getD j undef) ih)
  | ref j =>
    rw [AV.sub]; split
    · rename_i e; subst e; exact hy
    exact .ref j
  | iface t x v _ ih => exact .iface t _ v ih
  | any v => exact .any v
  | raw v => exact .raw v
  | sl0 sz A c hc => exact .sl0 sz A c hc
  | sl sz xs b off c cells t fr vals h0 hc hm hb hh h hcells _ => exact .sl sz xs b off c cells t fr vals h0 hc hm hb hh h hcells
  | fp sz xs j d b off cells t fr vals hb hh h hcells _ => exact .fp sz xs j d b off cells t fr vals hb hh h hcells
  | ptr i off b h => exact .ptr _ off b h
  | ep i sz j off b h => exact .ep _ sz j off b h
  | fn f first cap vs us hn h hn' h' _ _ => exact .fn f _ _ vs us hn h hn' h'
  | when c x v h h' _ => exact .when c x v h h'
section
variable {P : Program} {ro : Option Nat} {N n0 : Nat} {Q : AQ} {E : Env} {H : Heap} {nx : Nat}
theorem aFz {c : Code} (i : Nat) {e sz : Nat} {xs : List AV} (hi : get H i = some (.row e sz xs)) (h : AWP P ro N n0 c Q (subE i (.sl sz (fzL xs)) E) (nQ i (.sl sz (fzL xs)) H) nx) : AWP P ro N n0 c Q E H nx := by
  intro C a w Qc hn hR hK
  let y : AV := .sl sz (fzL xs)
  let C' : Conc := { C with own := fun j => if j = i then [] else C.own j }
  have hW : ∀ b, C'.W (nQ i y H) b → ∃ j o, j ≠ i ∧ get H j = some o ∧ b ∈ C.own j := by
    rintro b ⟨j, o, hj, hb⟩
    have hb' : b ∈ (if j = i then [] else C.own j) := hb
    by_cases hji : j = i
    · rw [if_pos hji] at hb'; cases hb'
    rw [if_neg hji] at hb'
    rw [iD] at hj
    obtain ⟨o', ho', _⟩ := Option.map_eq_some_iff.1 hj
    exact ⟨j, o', hji, ho', hb'⟩
  have hWW : ∀ b, C'.W (nQ i y H) b → C.W H b := fun b hb => by
    obtain ⟨j, o, _, h1, h2⟩ := hW b hb
    exact ⟨j, o, h1, h2⟩
  have hav : ∀ b, C'.avoid (nQ i y H) b → C.avoid H b := fun b hb => hb.imp id (hWW b)
  have hbel := (hR.objb i _ hi).2
  have hyb : y.bel (UU nx) := nC (xs := xs) hbel
  have hy : Rep C.ρ (C'.avoid (nQ i y H)) w.heap y (C.ρ i) := by
    obtain ⟨h1, _⟩ := hR.obj i _ hi
    have h2 : RepO C.ρ (C'.avoid (nQ i y H)) w.heap (.own e sz xs) (C.ρ i) (C.own i) := h1.mono' (fun b _ hb => hav b hb) (fun _ _ _ _ _ _ => rfl) (fun _ _ => rfl)
    refine h2.fz fun b hb hb' => ?_
    rcases hb' with hb' | hb'
    · exact hR.xapart i _ b hi hb hb'
    obtain ⟨j, o, hji, hj, hbj⟩ := hW b hb'
    exact hR.apart i j _ _ b (fun q => hji q.symm) hi hj hb hbj
  have hsub : ∀ {x : AV} {v : Value}, Rep C.ρ (C.avoid H) w.heap x v → Rep C.ρ (C'.avoid (nQ i y H)) w.heap (AV.sub i y x) v := fun hx => Rep.sub hy (hx.mono (fun b _ hb => hav b hb) (fun _ _ _ => rfl))
  have hRH : RelH C' (nQ i y H) (UU nx) w := by
    refine { obj := fun j o hj => ?_, apart := fun j k oj ok b hjk hj hk hbj hbk => ?_, xapart := fun j o b hj hb => ?_, xlt := hR.xlt, objb := fun j o hj => ?_, gl := hR.toRelH.glK (fun b _ hb => hav b hb) (fun _ _ _ _ _ _ => rfl) }
    · rw [iD] at hj
      obtain ⟨o', ho', rfl⟩ := Option.map_eq_some_iff.1 hj
      by_cases hji : j = i
      · rw [if_pos hji]
        show (if j = i then [] else C.own j) = []
        rw [if_pos hji]
      rw [if_neg hji]
      have hown : C'.own j = C.own j := if_neg hji
      rw [hown]
      have h1 := (hR.obj j o' ho').mono' (av' := C'.avoid (nQ i y H)) (hp' := w.heap) (fun b _ hb => hav b hb) (fun _ _ _ _ _ _ => rfl) (fun _ _ => rfl)
      cases o' with
      | cells t cs =>
        obtain ⟨b, vs, e1, e2, e3, e4⟩ := h1
        refine ⟨b, vs, e1, e2, e3, by rw [nK]; exact e4.1, fun k x hk => ?_⟩
        rw [zT] at hk
        obtain ⟨u, hu, rfl⟩ := Option.map_eq_some_iff.1 hk
        exact Rep.sub hy (e4.2 k u hu)
      | _ => exact h1
    · obtain ⟨j', oj', _, h1, h2⟩ := hW b ⟨j, oj, hj, hbj⟩
      have e1 : ∀ l ol, get (nQ i y H) l = some ol → b ∈ C'.own l → ∃ o, get H l = some o ∧ b ∈ C.own l := fun l ol hl hbl => by
        have hb' : b ∈ (if l = i then [] else C.own l) := hbl
        by_cases hli : l = i
        · rw [if_pos hli] at hb'; cases hb'
        rw [if_neg hli] at hb'
        rw [iD] at hl
        obtain ⟨o', ho', _⟩ := Option.map_eq_some_iff.1 hl
        exact ⟨o', ho', hb'⟩
      obtain ⟨o1, p1, p2⟩ := e1 j oj hj hbj
      obtain ⟨o2, p3, p4⟩ := e1 k ok hk hbk
      exact hR.apart j k _ _ b hjk p1 p3 p2 p4
    · have hb' : b ∈ (if j = i then [] else C.own j) := hb
      by_cases hji : j = i
      · rw [if_pos hji] at hb'; cases hb'
      rw [if_neg hji] at hb'
      rw [iD] at hj
      obtain ⟨o', ho', _⟩ := Option.map_eq_some_iff.1 hj
      exact hR.xapart j o' b ho' hb'
    rw [iD] at hj
    obtain ⟨o', ho', rfl⟩ := Option.map_eq_some_iff.1 hj
    obtain ⟨h1, h2⟩ := hR.objb j o' ho'
    refine ⟨h1, ?_⟩
    split
    · trivial
    cases o' with
    | cells t cs => exact wD hyb (xs := cs) h2
    | _ => exact h2
  have hRel : Rel C' N (subE i y E) (nQ i y H) (UU nx) a w :=
    { toRelH := hRH, size := hR.size, hB := hR.hB, nodup := hR.nodup
      marks := fun d hd => by
        obtain ⟨r, h1, h2, h3, h4⟩ := hR.marks d hd
        exact ⟨r, h1, h2, h3, fun q => h4 (hav r q)⟩
      env := fun t x ht => by
        rw [subE_get] at ht
        obtain ⟨u, hu, rfl⟩ := Option.map_eq_some_iff.1 ht
        obtain ⟨h1, h2, h3⟩ := hR.env t u hu
        exact ⟨h1, AV.sub_bel hyb h2, hsub h3⟩ }
  refine h C' a w Qc hn hRel fun e' E' H' nx' C1 a' w' hn' hR' hs hQ => hK e' E' H' nx' C1 a' w' hn' hR' ?_ hQ
  exact { os := hs.os, tape := hs.tape, output := hs.output, size := hs.size, keep := fun k hk hkW => hs.keep k hk (fun q => hkW (hWW k q))
          wr := fun b hb => (hs.wr b hb).imp (hWW b) id
          X := hs.X, B := hs.B, ρ := hs.ρ }
end
attribute [go_sem] AV.sub subL AObj.sub subE nQ
end
section
variable [Globals]
theorem iia (a b : Prop) : (a → b → a ∧ b) = True := by simp; exact fun h1 h2 => ⟨h1, h2⟩
attribute [go_sem] iia
mutual
def AV.frz (h : Nat → Option AObj) : AV → AV
  | .ref i => match h i with
    | some (.row _ sz xs) => .sl sz (fzL xs)
    | _ => .ref i
  | .agg cs => .agg (frzL h cs)
  | .tup cs => .tup (frzL h cs)
  | .any => .any
  | .raw v => .raw v
  | .sl sz xs => .sl sz xs
  | .fp sz xs j off => .fp sz xs j off
  | .ptr j off => .ptr j off
  | .ep j sz k off => .ep j sz k off
  | .iface t x => .iface t x
  | .fn f a b => .fn f a b
  | .when c x => .when c x
  | .own e sz xs => .own e sz xs
def frzL (h : Nat → Option AObj) : List AV → List AV
  | [] => []
  | x :: xs => AV.frz h x :: frzL h xs
end
theorem frzL_get (h : Nat → Option AObj) : ∀ (xs : List AV) (j : Nat), (frzL h xs)[j]? = (xs[j]?).map (AV.frz h)
  | [], j => rfl
  | x :: xs, 0 => rfl
  | x :: xs, j + 1 => by simpa [frzL] using frzL_get h xs j
theorem vK (h : Nat → Option AObj) : ∀ xs : List AV, (frzL h xs).length = xs.length
  | [] => rfl
  | x :: xs => by simp [frzL, vK h xs]
theorem Rep.frz {ρ : Nat → Value} {av : Nat → Prop} {hp : Array Obj} {h : Nat → Option AObj} (hh : ∀ i e sz xs, h i = some (.row e sz xs) → Rep ρ av hp (.sl sz (fzL xs)) (ρ i)) {x : AV} {v : Value} (hr : Rep ρ av hp x v) : Rep ρ av hp (AV.frz h x) v := by
  have aux : ∀ {xs : List AV} {g : Nat → Value}, (∀ (j : Nat) (z : AV), xs[j]? = some z → Rep ρ av hp (AV.frz h z) (g j)) → ∀ (j : Nat) (z : AV), (frzL h xs)[j]? = some z → Rep ρ av hp z (g j) := fun hk j z hz => by
    rw [frzL_get] at hz
    obtain ⟨u, hu, rfl⟩ := Option.map_eq_some_iff.1 hz
    exact hk j u hu
  induction hr with
  | agg cs vs hn _ ih => exact .agg _ vs (by rw [vK]; exact hn) (aux (g := fun j => vs.getD j undef) ih)
  | tup cs vs hn _ ih => exact .tup _ vs (by rw [vK]; exact hn) (aux (g := fun j => vs.getD j undef) ih)
  | ref j =>
    rw [AV.frz]; split
    · rename_i e sz xs hj
      exact hh j e sz xs hj
    exact .ref j
  | any v => exact .any v
  | raw v => exact .raw v
  | iface t x v h _ => exact .iface t x v h
  | sl0 sz A c hc => exact .sl0 sz A c hc
  | sl sz xs b off c cells t fr vals h0 hc hm hb hh' h hcells _ => exact .sl sz xs b off c cells t fr vals h0 hc hm hb hh' h hcells
  | fp sz xs j d b off cells t fr vals hb hh' h hcells _ => exact .fp sz xs j d b off cells t fr vals hb hh' h hcells
  | ptr i off b h => exact .ptr _ off b h
  | ep i sz j off b h => exact .ep _ sz j off b h
  | fn f first cap vs us hn h hn' h' _ _ => exact .fn f _ _ vs us hn h hn' h'
  | when c x v h h' _ => exact .when c x v h h'
theorem bX {P : Program} {f : Nat} {args : List AV} {r0 r1 : AV} {H1 : Heap} {n1 : Nat} (h : aD P f args [] 0 r0 H1 n1) (hr : AV.frz (get H1) r0 = r1) (hb : r1.bel (UU 0)) : aB P f args [] 0 r1 := by
  intro C w vals hR hargs hbel
  refine (h C w vals hR hargs hbel).mono fun e w' ⟨v, r, H', n', C', he, hn, ⟨e1, e2, e3⟩, h1, h2, h3, h4⟩ => ?_
  subst e1; subst e2; subst e3
  have hX : ∀ b, ({ C' with own := fun _ => [] } : Conc).avoid [] b → C'.avoid H' b := fun b hb => by
    rcases hb with hb | ⟨i, o, hi, _⟩
    · exact .inl hb
    cases hi
  have hX' : ∀ b, ({ C' with own := fun _ => [] } : Conc).avoid [] b → C'.X b := fun b hb => by
    rcases hb with hb | ⟨i, o, hi, _⟩
    · exact hb
    cases hi
  refine ⟨v, r1, [], 0, { C' with own := fun _ => [] }, he, Nat.le_refl _, ⟨rfl, rfl, rfl⟩, ?_, ?_, ?_, hb⟩
  · exact { obj := fun i o hi => by cases hi
            apart := fun i j oi oj b _ hi => by cases hi
            xapart := fun i o b hi => by cases hi
            xlt := h1.xlt
            gl := h1.glK (fun b _ hb => hX b hb) (fun _ _ _ _ _ _ => rfl)
            objb := fun i o hi => by cases hi }
  · exact { os := h2.os, tape := h2.tape, output := h2.output, size := h2.size, keep := h2.keep
            wr := fun b ⟨i, o, hi, _⟩ => by cases hi
            X := h2.X, B := h2.B, ρ := h2.ρ }
  rw [← hr]
  refine Rep.frz (fun i e sz xs hi => ?_) (h3.mono (fun b _ hb => hX b hb) (fun _ _ _ => rfl))
  obtain ⟨k1, _⟩ := h1.obj i _ hi
  have k2 : RepO C'.ρ (({ C' with own := fun _ => [] } : Conc).avoid []) w'.heap (.own e sz xs) (C'.ρ i) (C'.own i) := k1.mono' (fun b _ hb => hX b hb) (fun _ _ _ _ _ _ => rfl) (fun _ _ => rfl)
  exact k2.fz fun b hb hb' => h1.xapart i _ b hi hb (hX' b hb')
attribute [go_sem] AV.frz frzL
end
section
variable [Globals]
variable {xs ys args : List AV} {x y : AV} {ρ : Nat → Value} {av : Nat → Prop} {hp : Array Obj} {f : Nat} {nd : Heap}
inductive Le : AV → AV → Prop
  | refl (x : AV) : Le x x
  | nil (sz : Nat) : Le (.raw (.slice none 0 0)) (.sl sz [])
  | agg (xs ys : List AV) (hl : xs.length = ys.length) (h : ∀ (j : Nat) (x y : AV), xs[j]? = some x → ys[j]? = some y → Le x y) : Le (.agg xs) (.agg ys)
  | tup (xs ys : List AV) (hl : xs.length = ys.length) (h : ∀ (j : Nat) (x y : AV), xs[j]? = some x → ys[j]? = some y → Le x y) : Le (.tup xs) (.tup ys)
def LeL (xs ys : List AV) : Prop := xs.length = ys.length ∧ ∀ (j : Nat) (x y : AV), xs[j]? = some x → ys[j]? = some y → Le x y
theorem LeL.nil : LeL [] [] := ⟨rfl, fun j x y h => by simp at h⟩
theorem LeL.cons (h : Le x y) (hr : LeL xs ys) : LeL (x :: xs) (y :: ys) :=
  ⟨by simp [hr.1], fun j u v hu hv => by
    cases j with
    | zero => simp at hu hv; subst hu; subst hv; exact h
    | succ j => exact hr.2 j u v (by simpa using hu) (by simpa using hv)⟩
theorem Le.aggL (h : LeL xs ys) : Le (.agg xs) (.agg ys) := .agg _ _ h.1 h.2
theorem Le.rep (h : Le x y) : ∀ {v : Value}, Rep ρ av hp x v → Rep ρ av hp y v := by
  induction h with
  | refl x => exact fun h => h
  | nil sz => intro v h; cases h; exact .sl0 sz none 0 (Nat.zero_le _)
  | agg xs ys hl _ ih =>
    intro v h
    cases h with
    | agg _ vs hn hr =>
      refine .agg ys vs (hn.trans hl) fun j y hy => ?_
      have hj : j < xs.length := by rw [hl]; exact (List.getElem?_eq_some_iff.1 hy).1
      exact ih j _ y (List.getElem?_eq_getElem hj) hy (hr j _ (List.getElem?_eq_getElem hj))
  | tup xs ys hl _ ih =>
    intro v h
    cases h with
    | tup _ vs hn hr =>
      refine .tup ys vs (hn.trans hl) fun j y hy => ?_
      have hj : j < xs.length := by rw [hl]; exact (List.getElem?_eq_some_iff.1 hy).1
      exact ih j _ y (List.getElem?_eq_getElem hj) hy (hr j _ (List.getElem?_eq_getElem hj))
theorem LeL.rep (h : LeL xs ys) {vs : Array Value} (hr : cF ρ av hp xs vs) : cF ρ av hp ys vs := by
  refine ⟨hr.1.trans h.1, fun j y hy => ?_⟩
  have hj : j < xs.length := by rw [h.1]; exact (List.getElem?_eq_some_iff.1 hy).1
  exact (h.2 j _ y (List.getElem?_eq_getElem hj) hy).rep (hr.2 j _ (List.getElem?_eq_getElem hj))
theorem tW.args_le {P : Program} {n0 : Nat} {R : AV → Heap → Nat → Prop} (h : tW P f args nd n0 R) (hle : LeL xs args) (hb : aC (UU n0) args) : tW P f xs nd n0 R :=
  fun C w vals h1 h2 _ => h C w vals h1 (hle.rep h2) hb
theorem aB.args_le {P : Program} {n0 : Nat} {r : AV} (h : aB P f args nd n0 r) (hle : LeL xs args) (hb : aC (UU n0) args) : aB P f xs nd n0 r := tW.args_le h hle hb
section
variable {P : Program} {ro : Option Nat} {N n0 : Nat} {Q : AQ} {E : Env} {H : Heap} {nx : Nat}
theorem cG {c : Code} (i : Nat) {t : TypeId} {cs ds : List AV} (hi : get H i = some (.cells t cs)) (hle : LeL cs ds) (hb : aC (UU nx) ds) (h : AWP P ro N n0 c Q E (put H i (.cells t ds)) nx) : AWP P ro N n0 c Q E H nx := by
  intro C a w Qc hn hR hK
  have hdom : ∀ j o, get (put H i (.cells t ds)) j = some o → ∃ o', get H j = some o' := fun j o hj => by
    rw [dF] at hj; split at hj
    · rename_i e; subst e; exact ⟨_, hi⟩
    exact ⟨o, hj⟩
  have hdom' : ∀ j o, get H j = some o → ∃ o', get (put H i (.cells t ds)) j = some o' := fun j o hj => by
    rw [dF]; split
    · exact ⟨_, rfl⟩
    exact ⟨o, hj⟩
  have hW : ∀ b, C.W (put H i (.cells t ds)) b → C.W H b := fun b ⟨j, o, hj, hb⟩ => by
    obtain ⟨o', ho'⟩ := hdom j o hj
    exact ⟨j, o', ho', hb⟩
  have hW' : ∀ b, C.W H b → C.W (put H i (.cells t ds)) b := fun b ⟨j, o, hj, hb⟩ => by
    obtain ⟨o', ho'⟩ := hdom' j o hj
    exact ⟨j, o', ho', hb⟩
  have hav : ∀ b, C.avoid (put H i (.cells t ds)) b → C.avoid H b := fun b hb => hb.imp id (hW b)
  have hRel : Rel C N E (put H i (.cells t ds)) (UU nx) a w :=
    { obj := fun j o hj => by
        rw [dF] at hj; split at hj
        · rename_i e
          subst e; cases hj
          obtain ⟨b, vs, e1, e2, e3, e4⟩ := hR.obj i _ hi
          exact ⟨b, vs, e1, e2, e3, hle.rep (e4.mono (fun b _ hb => hav b hb) (fun _ _ _ => rfl))⟩
        exact (hR.obj j o hj).mono (fun b _ hb => hav b hb) (fun _ _ _ => rfl) (fun _ _ => rfl)
      apart := fun j k oj ok b hjk hj hk h1 h2 => by
        obtain ⟨o1, g1⟩ := hdom j oj hj
        obtain ⟨o2, g2⟩ := hdom k ok hk
        exact hR.apart j k o1 o2 b hjk g1 g2 h1 h2
      xapart := fun j o b hj h1 => by
        obtain ⟨o1, g1⟩ := hdom j o hj
        exact hR.xapart j o1 b g1 h1
      xlt := hR.xlt
      gl := hR.toRelH.glK (fun b _ hb => hav b hb) (fun _ _ _ _ _ _ => rfl)
      objb := fun j o hj => by
        rw [dF] at hj; split at hj
        · rename_i e
          subst e; cases hj
          exact ⟨(hR.objb i _ hi).1, hb⟩
        exact hR.objb j o hj
      size := hR.size, hB := hR.hB, nodup := hR.nodup
      marks := fun d hd => by
        obtain ⟨r, h1, h2, h3, h4⟩ := hR.marks d hd
        exact ⟨r, h1, h2, h3, fun q => h4 (hav r q)⟩
      env := fun t x ht => by
        obtain ⟨h1, h2, h3⟩ := hR.env t x ht
        exact ⟨h1, h2, h3.mono (fun b _ hb => hav b hb) (fun _ _ _ => rfl)⟩ }
  refine h C a w Qc hn hRel fun e' E' H' nx' C1 a' w' hn' hR' hs hQ => hK e' E' H' nx' C1 a' w' hn' hR' ?_ hQ
  exact { os := hs.os, tape := hs.tape, output := hs.output, size := hs.size, keep := fun k hk hkW => hs.keep k hk (fun q => hkW (hW k q))
          wr := fun b hb => (hs.wr b hb).imp (hW b) id
          X := hs.X, B := hs.B, ρ := hs.ρ }
end
end
section
variable [Globals]
attribute [go_sem] Nat.reduceAdd Nat.reduceMul Nat.reduceSub Nat.reduceLeDiff Nat.reduceEqDiff Nat.reduceLT rV lW
attribute [push_cast] Bool.or_eq_false_iff Bool.and_eq_true Bool.or_eq_true decide_eq_true_eq decide_eq_false_iff_not
variable {α : Type} {c : Call} {f id i g : Nat} {code y x : Code} {args : List AV} {r0 : AV} {R G q : Prop} {b want : Bool} {H1 : Heap}
section
variable {P : Program} {ro : Option Nat} {N n0 : Nat} {Q : AQ} {E : Env} {H : Heap} {nx b0 : Nat} {o : Oper} {ds : List (Option Tmp)}
theorem cdS {c : Operand} (hc : opv E c = some (.raw (.bool b))) (hf : b = false → AWP P ro N n0 y Q E H nx) (ht : b = true → AWP P ro N n0 x Q E H nx) : AWP P ro N n0 (.cond c x y) Q E H nx := cd hc ht hf
theorem sr {ops : Array Oper} (hd : dstOk N ops.toList = true) (h : ∀ K : AK, (∀ {E H nx}, AWP P ro N n0 y Q E H nx → K E H nx) → rV P ro N (ops.toList.map (·.dst)) ops.toList K E H nx) :
    AWP P ro N n0 (.seq (.region id ops false) y) Q E H nx := sq fun K hK => wg hd (h K hK)
theorem sd {ops : Array Oper} (hm : P.follows .mixedOrders = true) (hd : dstOk N ops.toList = true)
    (h : ∀ K : AK, (∀ {E H nx}, AWP P ro N n0 y Q E H nx → K E H nx) → lW P ro N (ops.toList.map (·.dst)) nx ops.toList [] (drawn (ops.toList.map (·.after.toList)) K) E H nx) :
    AWP P ro N n0 (.seq (.region id ops true) y) Q E H nx := sq fun K hK => nS hm hd (h K hK)
def midQ (n0 : Nat) (Inv : α → Prop) (S : α → Env × Heap) (n1 : Nat) (Q : AQ) : AQ
  | .normal => fun E H nx => ∃ x, Inv x ∧ ∃ s, Told n0 s E H (S x).1 (S x).2 n1
  | e => Q e
theorem awp_mid (Inv : α → Prop) (S : α → Env × Heap) (n1 : Nat) (h : AWP P ro N n0 x (midQ n0 Inv S n1 Q) E H nx) (h2 : ∀ a, Inv a → AWP P ro N n0 y Q (S a).1 (S a).2 n1) : AWP P ro N n0 (.seq x y) Q E H nx :=
  awp_seq (awp_mono h fun e E' H' nx' hq => by
    cases e with
    | normal => obtain ⟨a, h1, s, h3⟩ := hq; exact awp_told s h3 (h2 a h1)
    | _ => exact hq)
theorem vp {l : List Oper} {K : AK} {fn : Func} (hg : o.guard = none) (ho : o.op = .call c) (hc : c.callee = .value (.func f)) (hT : FnT P f fn code)
    (hM : aB P f args [] 0 r0) (hargs : c.args.toList.map (opv E) = args.map some) (hab : aC (UU 0) args) (h : rV P ro N ds l K (aU E o.dst r0) (over H []) (nx + 0)) : uN P ro N ds (o :: l) K E H nx :=
  vC (fun hN => rK hg ho hc hT hN hM hargs hab) (.inl rfl) h
theorem tp {l : List Oper} {acc : List Rec} {K : List Rec → AK} {fn : Func} (hg : o.guard = none) (ho : o.op = .call c) (hc : c.callee = .value (.func f)) (hT : FnT P f fn code)
    (hM : aB P f args [] 0 r0) (hargs : c.args.toList.map (opv E) = args.map some) (hab : aC (UU 0) args)
    (h : lW P ro N ds b0 l (⟨tO c.args.toList, [], o.dst, [], [], []⟩ :: acc) K (aU E o.dst r0) (over H []) (nx + 0)) : VTr P ro N ds b0 (o :: l) acc K E H nx :=
  bQ (fun hN => rK hg ho hc hT hN hM hargs hab) (.inl rfl) h
theorem vpg {l : List Oper} {K : AK} {x : AV} {fn : Func} 
    (hg : o.guard = some (i, want)) (ho : o.op = .call c) (hc : c.callee = .value (.func f)) (hi : (ds[i]?).join = some g) (hE : get E g = some x) (hs : iE x = some (q, b)) (hT : FnT P f fn code)
    (hM : q ∧ b = want → aB P f args [] 0 r0) (hun : unOk (q ∧ b = want) E (tO c.args.toList)) (hargs : q ∧ b = want → c.args.toList.map (opv (unE E (tO c.args.toList))) = args.map some) (hab : aC (UU 0) args) (hr : r0.bel (UU nx))
    (h : rV P ro N ds l K (aU E o.dst (.when (q ∧ b = want) r0)) (over H []) (nx + 0)) : uN P ro N ds (o :: l) K E H nx :=
  vC (fun hN => cH hN hg hi hE hs hun (fun hq => rK rfl ho hc hT hN (hM hq) (hargs hq) hab) hr) (.inl rfl) h
theorem tpg {l : List Oper} {acc : List Rec} {K : List Rec → AK} {x : AV} {fn : Func} 
    (hg : o.guard = some (i, want)) (ho : o.op = .call c) (hc : c.callee = .value (.func f)) (hi : (ds[i]?).join = some g) (hE : get E g = some x) (hs : iE x = some (q, b)) (hT : FnT P f fn code)
    (hM : q ∧ b = want → aB P f args [] 0 r0) (hun : unOk (q ∧ b = want) E (tO c.args.toList)) (hargs : q ∧ b = want → c.args.toList.map (opv (unE E (tO c.args.toList))) = args.map some) (hab : aC (UU 0) args) (hr : r0.bel (UU b0))
    (h : lW P ro N ds b0 l (⟨g :: tO c.args.toList, [], o.dst, [], [], []⟩ :: acc) K (aU E o.dst (.when (q ∧ b = want) r0)) (over H []) (nx + 0)) : VTr P ro N ds b0 (o :: l) acc K E H nx :=
  bQ (fun hN => cH hN hg hi hE hs hun (fun hq => rK rfl ho hc hT hN (hM hq) (hargs hq) hab) hr) (.inl rfl) h
theorem vn {l : List Oper} {K : AK} (nw : Nat) {fn : Func} (hg : o.guard = none) (ho : o.op = .call c) (hc : c.callee = .value (.func f)) (hT : FnT P f fn code)
    (hM : aD P f args [] 0 r0 H1 nw) (hargs : c.args.toList.map (opv E) = args.map some) (hab : aC (UU 0) args) (hk : ∀ i ∈ H1.map (·.1), i < nw) (hw : nw ≤ 900 ∧ nx + nw ≤ 1000)
    (h : rV P ro N ds l K (aU E o.dst (r0.ren (shift (sg []) 0 nx nw))) (over H (H1.map fun p => (shift (sg []) 0 nx nw p.1, p.2.ren (shift (sg []) 0 nx nw)))) (nx + nw)) : uN P ro N ds (o :: l) K E H nx :=
  vC (fun hN => bU (s := []) nw hg ho hc hT hN hM (Nat.zero_add _).symm (by rw [iH]; exact hargs) hab (wL hk (by omega))) (.inr hw.2) h
theorem tn {l : List Oper} {acc : List Rec} {K : List Rec → AK} (nw : Nat) {fn : Func} (hg : o.guard = none) (ho : o.op = .call c) (hc : c.callee = .value (.func f)) (hT : FnT P f fn code)
    (hM : aD P f args [] 0 r0 H1 nw) (hargs : c.args.toList.map (opv E) = args.map some) (hab : aC (UU 0) args) (hk : ∀ i ∈ H1.map (·.1), i < nw) (hw : nw ≤ 900 ∧ nx + nw ≤ 1000)
    (h : lW P ro N ds b0 l (⟨tO c.args.toList, [], o.dst, (H1.map fun p => (shift (sg []) 0 nx nw p.1, p.2.ren (shift (sg []) 0 nx nw))).map (·.1), [], H1.map fun p => (shift (sg []) 0 nx nw p.1, p.2.ren (shift (sg []) 0 nx nw))⟩ :: acc) K (aU E o.dst (r0.ren (shift (sg []) 0 nx nw))) (over H (H1.map fun p => (shift (sg []) 0 nx nw p.1, p.2.ren (shift (sg []) 0 nx nw)))) (nx + nw)) : VTr P ro N ds b0 (o :: l) acc K E H nx :=
  bQ (fun hN => bU (s := []) nw hg ho hc hT hN hM (Nat.zero_add _).symm (by rw [iH]; exact hargs) hab (wL hk (by omega))) (.inr hw.2) h
theorem aj (k : R) (h : R → G := by intro k; refine sr rfl fun _ J => ?_; simp only [go_sem]; exact J k) : G := h k
theorem ja (k : R) (h : R → G := by intro k; simp only [go_sem]; exact k) : G := h k
theorem jt (k : R) (h : R → G := by intro k; (try simp only [go_sem, lQ]); exact k) : G := h k
theorem jr (k : R) (h : R → G := by intro k; (repeat refine ⟨by clear k; first | omega | (intro hg; simp at hg; omega), ?_⟩); exact k) : G := h k
theorem jw {R G A : Prop} (e : A) (k : R) (h : A → R → G := by intro hw k; refine wg rfl ?_; simp only [go_sem, hw]; exact k) : G := h e k
theorem jy {a b : Prop} (k : b) (h : a := by rfl) (i : a ∧ b → G := by exact fun h => h) : G := i ⟨h, k⟩
theorem vq {l : List Oper} {K : AK} {fn : Func} (hf : P.funcs[f]? = some fn)
    (hM : aB P f args [] 0 r0) (k : R) (hg : o.guard = none := by rfl) (ho : o.op = .call c := by rfl) (hc : c.callee = .value (.func f) := by rfl) (hb : fn.body = some code := by rfl) (hn : (fn.name == "runtime.NumGoroutine") = false := by rfl)
    (hargs : c.args.toList.map (opv E) = args.map some := by simp only [go_sem]) (hab : aC (UU 0) args := by simp only [go_sem]) (h : R → rV P ro N ds l K (aU E o.dst r0) (over H []) (nx + 0) := by intro k; simp only [go_sem]; exact k) : uN P ro N ds (o :: l) K E H nx :=
  vC (fun hN => rK hg ho hc ⟨hf, hb, hn⟩ hN hM hargs hab) (.inl rfl) (h k)
theorem vr {l : List Oper} {K : AK} {fn : Func} (hg : o.guard = none) (ho : o.op = .call c) (hc : c.callee = .value (.func f)) (hf : P.funcs[f]? = some fn)
    (hM : aB P f args [] 0 r0) (hargs : c.args.toList.map (opv E) = args.map some) (hab : aC (UU 0) args) (k : R) (hb : fn.body = some code := by rfl) (hn : (fn.name == "runtime.NumGoroutine") = false := by rfl)
    (h : R → rV P ro N ds l K (aU E o.dst r0) (over H []) (nx + 0) := by intro k; simp only [go_sem]; exact k) : uN P ro N ds (o :: l) K E H nx :=
  vC (fun hN => rK hg ho hc ⟨hf, hb, hn⟩ hN hM hargs hab) (.inl rfl) (h k)
theorem vs {l : List Oper} {K : AK} {fn : Func} (hg : o.guard = none) (ho : o.op = .call c) (hc : c.callee = .value (.func f)) (hf : P.funcs[f]? = some fn)
    (hM : aB P f args [] 0 r0) (hargs : c.args.toList.map (opv E) = args.map some) (hab : aC (UU 0) args) (h : rV P ro N ds l K (aU E o.dst r0) (over H []) (nx + 0)) (hb : fn.body = some code := by rfl) (hn : (fn.name == "runtime.NumGoroutine") = false := by rfl) : uN P ro N ds (o :: l) K E H nx :=
  vC (fun hN => rK hg ho hc ⟨hf, hb, hn⟩ hN hM hargs hab) (.inl rfl) h
end
end
section
variable [Globals]
variable {c : Call} {f : Nat} {code : Code} {args xs first cap : List AV} {r0 : AV} {y : Operand}
section
variable {P : Program} {ro : Option Nat} {N n0 : Nat} {Q : AQ} {E : Env} {H : Heap} {nx b0 : Nat} {o : Oper} {ds : List (Option Tmp)}
theorem lstep_fn0 {fn : Func} (hg : o.guard = none) (ho : o.op = .call c) (hc : c.callee = .value y) (hy : opv E y = some (.fn (.func f) first cap))
    (hT : FnT P f fn code) (hN : ∀ d, o.dst = some d → d < N) (hM : aB P f args [] 0 r0) (hxs : c.args.toList.map (opv E) = xs.map some) (hargs : first ++ xs ++ cap = args) (hab : aC (UU 0) args) :
    bC P ro N ds o b0 E H (tO (y :: c.args.toList)) [] r0 [] nx 0 := by
  have := lstep_callFn (P := P) (ro := ro) (N := N) (o := o) (E := E) (H := H) (nx := nx) (b0 := b0) (ds := ds) (nd := []) (H1 := []) (m0 := 0) (n1 := 0) [] 0 hg ho hc hy hT hN hM rfl hxs (by rw [iH]; exact hargs) hab (wL (by simp) (by omega))
  rw [aR, AV.ren_nil] at this; exact this
theorem vf {l : List Oper} {K : AK} {fn : Func} (hg : o.guard = none) (ho : o.op = .call c) (hc : c.callee = .value y) (hy : opv E y = some (.fn (.func f) first cap))
    (hT : FnT P f fn code) (hM : aB P f args [] 0 r0) (hxs : c.args.toList.map (opv E) = xs.map some) (hargs : first ++ xs ++ cap = args) (hab : aC (UU 0) args)
    (h : rV P ro N ds l K (aU E o.dst r0) (over H []) (nx + 0)) : uN P ro N ds (o :: l) K E H nx := vC (fun hN => lstep_fn0 hg ho hc hy hT hN hM hxs hargs hab) (.inl rfl) h
theorem tf {l : List Oper} {acc : List Rec} {K : List Rec → AK} {fn : Func} (hg : o.guard = none) (ho : o.op = .call c) (hc : c.callee = .value y) (hy : opv E y = some (.fn (.func f) first cap))
    (hT : FnT P f fn code) (hM : aB P f args [] 0 r0) (hxs : c.args.toList.map (opv E) = xs.map some) (hargs : first ++ xs ++ cap = args) (hab : aC (UU 0) args)
    (h : lW P ro N ds b0 l (⟨tO (y :: c.args.toList), [], o.dst, [], [], []⟩ :: acc) K (aU E o.dst r0) (over H []) (nx + 0)) : VTr P ro N ds b0 (o :: l) acc K E H nx := bQ (fun hN => lstep_fn0 hg ho hc hy hT hN hM hxs hargs hab) (.inl rfl) h
theorem tfg {l : List Oper} {acc : List Rec} {K : List Rec → AK} {i g : Nat} {want b : Bool} {q : Prop} {x : AV} {fn : Func} 
    (hg : o.guard = some (i, want)) (ho : o.op = .call c) (hc : c.callee = .value y) (hi : (ds[i]?).join = some g) (hE : get E g = some x) (hs : iE x = some (q, b)) (hy : q ∧ b = want → opv (unE E (tO (y :: c.args.toList))) y = some (.fn (.func f) first cap)) (hT : FnT P f fn code)
    (hM : q ∧ b = want → aB P f args [] 0 r0) (hun : unOk (q ∧ b = want) E (tO (y :: c.args.toList))) (hxs : q ∧ b = want → c.args.toList.map (opv (unE E (tO (y :: c.args.toList)))) = xs.map some) (hargs : first ++ xs ++ cap = args) (hab : aC (UU 0) args) (hr : r0.bel (UU b0))
    (h : lW P ro N ds b0 l (⟨g :: tO (y :: c.args.toList), [], o.dst, [], [], []⟩ :: acc) K (aU E o.dst (.when (q ∧ b = want) r0)) (over H []) (nx + 0)) : VTr P ro N ds b0 (o :: l) acc K E H nx :=
  bQ (fun hN => cH hN hg hi hE hs hun (fun hq => lstep_fn0 rfl ho hc (hy hq) hT hN (hM hq) (hxs hq) hargs hab) hr) (.inl rfl) h
theorem tl {l : List Oper} {acc : List Rec} {K : List Rec → AK} (bw : List Nat) {fn : Func} (hg : o.guard = none) (ho : o.op = .call c) (hc : c.callee = .value (.func f)) (hT : FnT P f fn code)
    (hM : aB P f args [] 0 r0) (hxs : c.args.toList.map (opv E) = xs.map some) (hargs : xs.map (wF (get H) bw) = args) (hab : aC (UU 0) args) (hfr : r0.noFz = true)
    (h : lW P ro N ds b0 l (⟨tO c.args.toList, bw, o.dst, [], [], []⟩ :: acc) K (aU E o.dst r0) (over H []) (nx + 0)) : VTr P ro N ds b0 (o :: l) acc K E H nx := bQ (fun hN => mF bw hg ho hc hT hN hM hxs hargs hab hfr) (.inl rfl) h
theorem vg {l : List Oper} {K : AK} (s : List (Nat × Nat)) (nw : Nat) {fn : Func} {nd H1 : Heap} {m0 n1 : Nat} (hg : o.guard = none) (ho : o.op = .call c) (hc : c.callee = .value (.func f)) (hT : FnT P f fn code)
    (hM : aD P f args nd m0 r0 H1 n1) (hn : n1 = m0 + nw) (hargs : c.args.toList.map (opv E) = (aA (sg s) args).map some) (hab : aC (UU m0) args) (hF : FitC H s nd m0 nw H1) (hnw : nw = 0 ∨ nx + nw ≤ 1000)
    (h : rV P ro N ds l K (aU E o.dst (r0.ren (shift (sg s) m0 nx nw))) (over H (H1.map fun p => (shift (sg s) m0 nx nw p.1, p.2.ren (shift (sg s) m0 nx nw)))) (nx + nw)) : uN P ro N ds (o :: l) K E H nx :=
  vC (fun hN => bU s nw hg ho hc hT hN hM hn hargs hab hF) hnw h
theorem mD {H H1 : Heap} {s : List (Nat × Nat)} {g g1 : AObj} (hs : s = [] ∨ ∃ j, s = [(0, j)]) (ho : get H (sg s 0) = some (g.ren (sg s))) (hb : g.bel (UU 1)) : FitC H s [(0, g)] 1 0 [(0, g1)] where
  objs := ⟨ho, .inl (by omega), hb, trivial⟩
  inj := by simp
  cov := fun i hi => by have : i = 0 := by omega
                        subst this; rfl
  sk := fun p hp => by
    rcases hs with rfl | ⟨j, rfl⟩
    · cases hp
    rw [List.mem_singleton.1 hp]; rfl
  dom := fun p hp => by rw [List.mem_singleton.1 hp]; exact .inl rfl
  all := fun p hp => by rw [List.mem_singleton.1 hp]; rfl
  far := by omega
end
end
section
variable [Globals]
variable {T : TypeId} {pr : Bool} {v r : Value} {w : World} {code : Code} {f m0 n1 : Nat} {args : List AV} {nd H1 : Heap} {r0 : AV} {c : Call} {y : Operand}
def qU (P : Program) (t : TypeId) (name : String) : Option (FuncId × Bool) :=
  match P.info? t with
  | some ti => match ti.methods.find? (fun m => m.name == name) with
    | some m => if m.path.size = 0 then m.func else none
    | none => none
  | none => none
def ptrTo (P : Program) (t : TypeId) : Option TypeId := match P.underlying t with
  | some (.pointer e) => some e
  | _ => none
theorem run_method {P : Program} {name : String} {f : FuncId} {k : Nat} (hm : qU P T name = some (f, pr))
    (hr : ∀ nm, (receiverAt T (.val v) pr (some nm)).run P w = .ok r w) : (method (k + 1) T v name).run P w = .ok (f, r) w := by
  unfold qU at hm; split at hm
  · rename_i ti hti
    split at hm
    · rename_i m hfm
      split at hm
      · rename_i hp
        have hp0 : m.path = #[] := Array.eq_empty_of_size_eq_zero hp
        unfold method; simp only [Sem.run_bind, run_typeInfo w hti, Result.andThen_ok, hfm, hp0, List.toList_toArray, follow, Sem.run_pure, hm, hr, Array.isEmpty_empty, if_true]
      cases hm
    cases hm
  cases hm
theorem run_callMethod {P : Program} {name : String} {args : Array Value} {f : FuncId} {fn : Func} (hm : qU P T name = some (f, pr))
    (hr : ∀ nm, (receiverAt T (.val v) pr (some nm)).run P w = .ok r w) (hT : FnT P f fn code) : (callMethod (.iface T v) name args).run P w = .ok (.enter f (#[r] ++ args)) w := by
  unfold callMethod
  have h0 : 0 < Made.depth := by decide
  obtain ⟨k, hk⟩ : ∃ k, P.types.size + Made.depth = k + 1 := ⟨P.types.size + Made.depth - 1, by omega⟩
  simp only [Sem.run_bind, run_program, Result.andThen_ok, hk, run_method hm hr, hT.run]
section
variable {P : Program} {ro : Option Nat} {N n0 : Nat} {Q : AQ} {E : Env} {H : Heap} {nx b0 : Nat} {o : Oper} {ds : List (Option Tmp)}
theorem lstep_enterH {rt : List Nat} (s : List (Nat × Nat)) (nw : Nat) (hg : o.guard = none) (hd : Op.noDefer o.op = true) (hN : ∀ d, o.dst = some d → d < N)
    (hent : ∀ (E' : Env) (H' : Heap) (U : Nat → Prop) (C : Conc) (a : Act) (w : World), (∀ t ∈ rt, get E' t = get E t) → (∀ i ∈ nd.map (fun p => sg s p.1), get H' i = get H i) → Rel C N E' H' U a w → ∃ vals, (execOp a.eval o).run P w = .ok (.enter f vals) w ∧ cF C.ρ (C.avoid H') w.heap (aA (sg s) args) vals)
    (hM : aD P f args nd m0 r0 H1 n1) (hn1 : n1 = m0 + nw) (hab : aC (UU m0) args) (hF : FitC H s nd m0 nw H1) :
    bC P ro N ds o b0 E H rt (nd.map fun p => sg s p.1) (r0.ren (shift (sg s) m0 nx nw)) (H1.map fun p => (shift (sg s) m0 nx nw p.1, p.2.ren (shift (sg s) m0 nx nw))) nx nw := by
  subst hn1
  intro E' H' U hE hH hU hnx C a w next Q hR hK
  have hfit := hF.fit hR.toRelH (fun j hj => hU j (.inr hj)) (fun p hp => hH _ (List.mem_map.2 ⟨p, hp, rfl⟩)) hnx
  have hRc := hR.toRelH.callee hfit
  obtain ⟨vals, hrun, hvals⟩ := hent E' H' U C a w hE hH hR
  have hargsR : cF (callee C H' (sg s) nd).ρ ((callee C H' (sg s) nd).avoid nd) w.heap args vals :=
    (hvals.mono (av' := (callee C H' (sg s) nd).avoid nd) (fun b _ hb => (dV hfit b).1 hb) (fun _ _ _ => rfl)).unren (ρ := C.ρ)
  refine qN hg (wpIn_enter (R := fun v w' => ∃ C1, RelH C1 H1 (UU (m0 + nw)) w' ∧ StepR (callee C H' (sg s) nd) nd (UU m0) w C1 H1 w' ∧ Rep C1.ρ (C1.avoid H1) w'.heap r0 v ∧ r0.bel (UU (m0 + nw))) hd hrun
    ((hM _ w _ hRc hargsR hab).mono fun e w' ⟨v, r, H2, n', C1, he, hn', ⟨hr, hH2, hn2⟩, h1, h2, h3, h4⟩ => ?_) fun v w' ⟨C1, h1, h2, h3, h4⟩ => ?_)
  · subst hr; subst hH2; subst hn2
    exact ⟨v, he, C1, h1, h2, h3, h4⟩
  obtain ⟨k1, k2, k3⟩ := hR.toRelH.back hfit h1 h2
  obtain ⟨k4, k5⟩ := k3 r0 v h4 h3
  have hRel := hR.change k2 (fun i hi => .inl hi) k1
  exact hK _ _ w' (hRel.put hN k4 k5) k2
theorem wpIn_invoke {name : String} (ho : o.op = .call c) (hc : c.callee = .invoke y name) {a : Act} {fn : Func} (hy : a.eval y = .iface T v) (hm : qU P T name = some (f, pr))
    (hr : ∀ nm, (receiverAt T (.val v) pr (some nm)).run P w = .ok r w) (hT : FnT P f fn code) : (execOp a.eval o).run P w = .ok (.enter f (#[r] ++ c.args.map a.eval)) w := by
  have he : (#[Value.iface T v] ++ c.args.map a.eval).extract 1 (#[Value.iface T v] ++ c.args.map a.eval).size = c.args.map a.eval := by
    apply Array.ext'
    simp [List.take_of_length_le]
  simp only [execOp, ho, resolve, hc, hy, Sem.run_bind, Sem.run_pure, Result.andThen_ok, invoke]
  have h0 : (#[Value.iface T v] ++ c.args.map a.eval)[0]? = some (Value.iface T v) := by rw [Array.getElem?_append_left (by simp)]; rfl
  simp only [h0, he, run_callMethod hm hr hT]
theorem tB {name : String} {x : AV} {fn : Func} {xs args : List AV} (s : List (Nat × Nat)) (nw : Nat) (hg : o.guard = none) (ho : o.op = .call c) (hc : c.callee = .invoke y name)
    (hy : opv E y = some (.iface T x)) (hm : qU P T name = some (f, pr)) (hp : ptrTo P T = none ∧ pr = false ∨ (ptrTo P T).isSome = true ∧ pr = true) (hT : FnT P f fn code) (hN : ∀ d, o.dst = some d → d < N) (hM : aD P f args nd m0 r0 H1 n1) (hn1 : n1 = m0 + nw)
    (hxs : c.args.toList.map (opv E) = xs.map some) (hargs : x :: xs = aA (sg s) args) (hab : aC (UU m0) args) (hF : FitC H s nd m0 nw H1) (hund : (P.underlying T).isSome = true) :
    bC P ro N ds o b0 E H (tO (y :: c.args.toList)) (nd.map fun p => sg s p.1) (r0.ren (shift (sg s) m0 nx nw)) (H1.map fun p => (shift (sg s) m0 nx nw p.1, p.2.ren (shift (sg s) m0 nx nw))) nx nw := by
  refine lstep_enterH s nw hg (by simp [ho, Op.noDefer]) hN (fun E' H' U C a w hE hH hR => ?_) hM hn1 hab hF
  have hops := oCg hE
  obtain ⟨h1, _⟩ := hR.opv (x := y) (r := .iface T x) (by rw [hops y (by simp)]; exact hy)
  have hxs' : c.args.toList.map (opv E') = xs.map some := by
    rw [← hxs]
    exact List.map_congr_left fun x hx => hops x (List.mem_cons_of_mem _ hx)
  obtain ⟨h2, _⟩ := sD hR hxs'
  generalize hev : a.eval y = u at h1
  cases h1 with
  | iface _ _ v hv =>
    obtain ⟨d, hd⟩ := Option.isSome_iff_exists.1 hund
    have hrv : ∀ nm, (receiverAt T (.val v) pr (some nm)).run P w = .ok v w := fun nm => by
      unfold receiverAt; rw [Sem.run_bind, run_underlying hd, Result.andThen_ok]
      rcases hp with ⟨hp, rfl⟩ | ⟨hp, rfl⟩
      · cases d with
        | pointer e => unfold ptrTo at hp; rw [hd] at hp; cases hp
        | _ => simp [Place.get]
      unfold ptrTo at hp; rw [hd] at hp
      cases d with
      | pointer e => simp [Place.get]
      | _ => cases hp
    refine ⟨#[v] ++ c.args.map a.eval, wpIn_invoke ho hc hev hm hrv hT, ?_⟩
    rw [← hargs]
    refine ⟨by simp [h2.1]; omega, fun j z hj => ?_⟩
    cases j with
    | zero => simp at hj; subst hj; rw [Array.getD_eq_getD_getElem?, Array.getElem?_append_left (by simp)]; exact hv
    | succ j =>
      have := h2.2 j z (by simpa using hj)
      rw [Array.getD_eq_getD_getElem?, Array.getElem?_append_right (by simp)]
      simpa [Array.getD_eq_getD_getElem?] using this
theorem vO {c : Code} {i j : Nat} {t : TypeId} {cs : List AV} (e sz : Nat) (hi : get H i = some (.cells t cs)) (hj : cs[j]? = some (.raw (.slice none 0 0))) (hn : nx < 1000)
    (h : AWP P ro N n0 c Q E (put (put H i (.cells t (cs.set j (.ref nx)))) nx (.row e sz [])) (nx + 1)) : AWP P ro N n0 c Q E H nx := by
  intro C a w Qc hn0 hR hK
  have hnx : ¬ UU nx nx := fun hu => by rcases hu with hu | hu <;> omega
  have hs := StepR.new (U := UU nx) (w' := w) hR.toRelH rfl rfl rfl (Nat.le_refl _) (fun _ _ => rfl) hnx (v := .slice none 0 0) (own := []) rfl (by simp) (.row e sz [])
  have hH := RelH.new (U := UU nx) (w' := w) hR.toRelH rfl rfl rfl (Nat.le_refl _) (fun _ _ => rfl) hnx (v := .slice none 0 0) (own := []) rfl (by simp) (o := .row e sz []) ⟨.own0 e sz, List.nodup_nil⟩ trivial
  have hR' := hR.change hs (fun _ h => .inl h) hH
  have hU : (fun j => UU nx j ∨ j = nx) = UU (nx + 1) := by rw [← eB, wK]
  rw [hU] at hR' hH
  have hin : i ≠ nx := fun e' => hnx (e' ▸ (hR.objb i _ hi).1)
  have hi2 : get (put H nx (.row e sz [])) i = some (.cells t cs) := by rw [dF, if_neg (fun e' => hin e'.symm)]; exact hi
  have hle : ∀ (m : Nat) (o' : AObj), get (put (put H i (.cells t (cs.set j (.ref nx)))) nx (.row e sz [])) m = some o' → (m = i ∧ o' = .cells t (cs.set j (.ref nx))) ∨ (m ≠ i ∧ get (put H nx (.row e sz [])) m = some o') := fun m o' hm => by
    rw [dF] at hm; rw [dF]; split at hm
    · rename_i e1
      subst e1
      exact .inr ⟨fun e2 => hin e2.symm, by rw [if_pos rfl]; exact hm⟩
    rename_i e1
    rw [dF] at hm; split at hm
    · rename_i e2
      exact .inl ⟨e2.symm, (Option.some.inj hm).symm⟩
    rename_i e2
    exact .inr ⟨fun e3 => e2 e3.symm, by rw [if_neg e1]; exact hm⟩
  let C2 := C.new nx (.slice none 0 0) [] rfl
  have hdom : ∀ m o', get (put (put H i (.cells t (cs.set j (.ref nx)))) nx (.row e sz [])) m = some o' → ∃ o'', get (put H nx (.row e sz [])) m = some o'' := fun m o' hm => by
    rcases hle m o' hm with ⟨rfl, _⟩ | ⟨_, h2⟩
    · exact ⟨_, hi2⟩
    exact ⟨_, h2⟩
  have hW : ∀ b, C2.W (put (put H i (.cells t (cs.set j (.ref nx)))) nx (.row e sz [])) b → C2.W (put H nx (.row e sz [])) b := fun b ⟨m, o', hm, hb⟩ => by
    obtain ⟨o'', h2⟩ := hdom m o' hm
    exact ⟨m, o'', h2, hb⟩
  have hav : ∀ b, C2.avoid (put (put H i (.cells t (cs.set j (.ref nx)))) nx (.row e sz [])) b → C2.avoid (put H nx (.row e sz [])) b := fun b hb => hb.imp id (hW b)
  have hnew : ∀ av hp, Rep C2.ρ av hp (.ref nx) (.slice none 0 0) := fun av hp => by
    have : Rep C2.ρ av hp (.ref nx) (C2.ρ nx) := .ref nx
    rwa [show C2.ρ nx = .slice none 0 0 from aZ _ _ _] at this
  have hRel : Rel C2 N E (put (put H i (.cells t (cs.set j (.ref nx)))) nx (.row e sz [])) (UU (nx + 1)) a w :=
    { obj := fun m o' hm => by
        rcases hle m o' hm with ⟨rfl, rfl⟩ | ⟨_, h2⟩
        · obtain ⟨b, vs, e1, e2, e3, e4⟩ := hH.obj m _ hi2
          refine ⟨b, vs, e1, e2, e3, by rw [List.length_set]; exact e4.1, fun q z hq => ?_⟩
          rw [List.getElem?_set] at hq; split at hq
          · rename_i ejq
            subst ejq; split at hq
            · cases hq
              have h9 := e4.2 j _ hj
              generalize vs.getD j undef = u at h9
              cases h9
              exact hnew _ _
            cases hq
          exact (e4.2 q z hq).mono (fun b _ hb => hav b hb) (fun _ _ _ => rfl)
        exact (hH.obj m o' h2).mono (fun b _ hb => hav b hb) (fun _ _ _ => rfl) (fun _ _ => rfl)
      apart := fun m k om ok b hmk hm hk h1 h2 => by
        obtain ⟨o1, g1⟩ := hdom m om hm
        obtain ⟨o2, g2⟩ := hdom k ok hk
        exact hH.apart m k o1 o2 b hmk g1 g2 h1 h2
      xapart := fun m o' b hm h1 => by
        obtain ⟨o1, g1⟩ := hdom m o' hm
        exact hH.xapart m o1 b g1 h1
      xlt := hH.xlt
      objb := fun m o' hm => by
        rcases hle m o' hm with ⟨rfl, rfl⟩ | ⟨_, h2⟩
        · refine ⟨(hH.objb m _ hi2).1, ?_⟩
          show aC _ _
          refine bLi.2 fun z hz => ?_
          rcases List.mem_or_eq_of_mem_set hz with h1 | h1
          · exact bLi.1 (hH.objb m _ hi2).2 z h1
          rw [h1]; exact .inl (by omega)
        exact hH.objb m o' h2
      gl := hH.glK (fun b _ hb => hav b hb) (fun _ _ _ _ _ _ => rfl)
      size := hR'.size, hB := hR'.hB, nodup := hR'.nodup
      marks := fun d hd => by
        obtain ⟨r, h1, h2, h3, h4⟩ := hR'.marks d hd
        exact ⟨r, h1, h2, h3, fun q => h4 (hav r q)⟩
      env := fun t' x' ht' => by
        obtain ⟨h1, h2, h3⟩ := hR'.env t' x' ht'
        exact ⟨h1, h2, h3.mono (fun b _ hb => hav b hb) (fun _ _ _ => rfl)⟩ }
  refine h C2 a w Qc (by omega) hRel fun e' E' H' nx' C' a' w' hn' hR3 hs3 hQ => hK e' E' H' nx' C' a' w' hn' hR3 ?_ hQ
  refine ((hs.fewerNames (dM hn0)).trans (fun _ h => h) ?_)
  exact { os := hs3.os, tape := hs3.tape, output := hs3.output, size := hs3.size, keep := fun k hk hkW => hs3.keep k hk (fun q => hkW (hW k q))
          wr := fun b hb => (hs3.wr b hb).imp (hW b) id
          X := hs3.X, B := hs3.B, ρ := hs3.ρ }
end
end
section
variable [Globals]
theorem fit2 {H H1 : Heap} {s : List (Nat × Nat)} {g0 g1 : AObj} {nw : Nat} (hs : s = [] ∨ ∃ i j, i ≠ j ∧ s = [(0, i), (1, j)]) (h0 : get H (sg s 0) = some (g0.ren (sg s))) (h1 : get H (sg s 1) = some (g1.ren (sg s))) (b0 : g0.bel (UU 2)) (b1 : g1.bel (UU 2))
    (hk : ∀ i ∈ H1.map (·.1), i < 2 + nw) (ha : (get H1 0).isSome = true ∧ (get H1 1).isSome = true) (hf : nw ≤ 900) : FitC H s [(0, g0), (1, g1)] 2 nw H1 where
  objs := ⟨h0, .inl (by omega), b0, h1, .inl (by omega), b1, trivial⟩
  inj := by
    rcases hs with rfl | ⟨i, j, hij, rfl⟩
    · simp [sg, Abs.get]
    simpa [sg, Abs.get] using hij
  cov := fun i hi => by
    have : i = 0 ∨ i = 1 := by omega
    rcases this with rfl | rfl <;> rfl
  sk := fun p hp => by
    rcases hs with rfl | ⟨i, j, hij, rfl⟩
    · cases hp
    simp only [List.mem_cons, List.not_mem_nil, or_false] at hp
    rcases hp with rfl | rfl <;> rfl
  dom := fun p hp => by
    have := hk p.1 (List.mem_map.2 ⟨p, hp, rfl⟩)
    by_cases h : p.1 < 2
    · left
      have : p.1 = 0 ∨ p.1 = 1 := by omega
      rcases this with h | h <;> rw [h] <;> rfl
    exact .inr ⟨by omega, this⟩
  all := fun p hp => by
    simp only [List.mem_cons, List.not_mem_nil, or_false] at hp
    rcases hp with rfl | rfl
    · exact ha.1
    exact ha.2
  far := by omega
section
variable {P : Program} {ro : Option Nat} {N n0 : Nat} {E : Env} {H : Heap} {nx b0 : Nat} {o : Oper} {ds : List (Option Tmp)}
end
end
end Go.Abs
end
section
open Go Go.RowKit
namespace Go.Abs
section
variable [Globals]
theorem gR {P : Program} {f : Nat} {args : List AV} {nd : Heap} {n0 : Nat} {r : AV} (hb : r.bel (UU n0))
    (h : ∀ (C : Conc) (w : World) (vals : Array Value), RelH C nd (UU n0) w → cF C.ρ (C.avoid nd) w.heap args vals → Calls P f vals w fun e w' => ∃ v, e = .returned v ∧ Rep C.ρ (C.avoid nd) w'.heap r v ∧ Below w.heap.size w w') : aB P f args nd n0 r := by
  intro C w vals hR hv hab
  refine (h C w vals hR hv).mono fun e w' ⟨v, he, hr, hB⟩ => ⟨v, r, nd, n0, C, he, Nat.le_refl _, ⟨rfl, rfl, rfl⟩, hR.grow hB.size hB.block, StepR.grow hB.os hB.tape hB.output hB.size hB.block, hr, hb⟩
theorem below_grow (w : World) (k : Nat) (os : Array Obj) : RowKit.Below w.heap.size w (Sort.grow (w.drewN k) os) :=
  ⟨rfl, rfl, rfl, by simp [Sort.grow, World.drewN], fun j hj => by
    show ((w.drewN k).heap ++ os)[j]? = _
    show (w.heap ++ os)[j]? = _
    rw [Array.getElem?_append_left hj]⟩
end
section
variable [Globals]
variable {ρ : Nat → Value} {av : Nat → Prop} {hp : Array Obj} {e : Nat}
def byteAV (b : UInt8) : AV := .raw (.int .u8 (b.toNat : Int))
theorem flat_none (n : Nat) {f : Nat → List Nat} (h : ∀ j, j < n → f j = []) : aP n f = [] := by
  refine List.eq_nil_iff_forall_not_mem.2 fun b hb => ?_
  obtain ⟨j, hj, hbj⟩ := mFl.1 hb
  rw [h j hj] at hbj; cases hbj
theorem bytes_in {l : List UInt8} {v : Value} {own : List Nat} (h : RepO ρ av hp (.own e 1 (l.map byteAV)) v own) :
    (l = [] ∧ v = .slice none 0 0 ∧ own = []) ∨ ∃ b c cells, v = .slice (some ⟨b, 0, none⟩) l.length c ∧ own = [b] ∧ hp[b]? = some (.cells cells e (0, 0)) ∧ cells.size = c ∧ l.length ≤ c ∧ c ≤ maxLen ∧ cells.toList.take l.length = Lib.byteCells l := by
  rcases h.row_inv with ⟨h1, h2, h3⟩ | ⟨b, c, cells, vals, ows, hv, ho, hh, hcs, hc, hm, hrep, hca⟩
  · exact .inl ⟨List.map_eq_nil_iff.1 h1, h2, h3⟩
  right
  rw [List.length_map] at hv ho hc hca
  have key : ∀ j x, l[j]? = some x → vals j = .int .u8 (x.toNat : Int) ∧ ows j = [] := fun j x hj => by
    have h9 := hrep j (byteAV x) (by rw [List.getElem?_map, hj]; rfl)
    unfold byteAV at h9
    generalize vals j = u at h9
    generalize ows j = w at h9
    cases h9 with
    | leaf _ _ h10 => cases h10; exact ⟨rfl, rfl⟩
  refine ⟨b, c, cells, hv, by rw [ho, flat_none l.length fun j hj => (key j _ (List.getElem?_eq_getElem hj)).2], hh, by rw [hcs, Nat.mul_one], hc, hm, ?_⟩
  have h8 := hca.take (by rw [hcs]; exact Nat.mul_le_mul_right _ hc)
  rw [Nat.mul_one] at h8; rw [h8]
  refine List.ext_getElem? fun j => ?_
  by_cases hj : j < l.length
  · have h7 := lN (vals := vals) hj (Nat.zero_lt_one)
    rw [Nat.mul_one, Nat.add_zero] at h7; rw [h7, (key j _ (List.getElem?_eq_getElem hj)).1]
    simp [Lib.byteCells, List.getElem?_eq_getElem hj, Value.cells]
  rw [List.getElem?_eq_none (by rw [cA]; omega), List.getElem?_eq_none (by rw [Lib.byteCells_length]; omega)]
theorem bytes_out {e b c : Nat} {cells : Array Value} {l : List UInt8} (hh : hp[b]? = some (.cells cells e (0, 0))) (hcs : cells.size = c) (hc : l.length ≤ c) (hm : c ≤ maxLen) (ht : cells.toList.take l.length = Lib.byteCells l) :
    RepO ρ av hp (.own e 1 (l.map byteAV)) (.slice (some ⟨b, 0, none⟩) l.length c) [b] := by
  have h := RepO.own (ρ := ρ) (av := av) e 1 (l.map byteAV) b c cells (fun j => .int .u8 ((l.getD j 0).toNat : Int)) (fun _ => []) hh (by rw [hcs, Nat.mul_one]) (by rw [List.length_map]; exact hc) hm (fun j x hj => by
    rw [List.getElem?_map] at hj
    obtain ⟨y, hy, rfl⟩ := Option.map_eq_some_iff.1 hj
    rw [List.getD_eq_getElem?_getD, hy]
    exact .leaf _ _ (.raw _)) (fun j hj => by
    rw [List.length_map] at hj
    refine ⟨rfl, fun k hk => ?_⟩
    have hk0 : k = 0 := by omega
    subst hk0
    have h1 : (cells.toList.take l.length)[j]? = cells[j]? := by rw [List.getElem?_take, if_pos hj, Array.getElem?_toList]
    rw [ht] at h1; rw [Nat.zero_add, Nat.mul_one, Nat.add_zero, ← h1]
    simp [Lib.byteCells, List.getElem?_eq_getElem hj, Value.cells, List.getD_eq_getElem?_getD])
  rw [List.length_map, flat_none l.length fun _ _ => rfl] at h; exact h
theorem wS (U : Nat → Prop) (l : List UInt8) : aC U (l.map byteAV) := by
  rw [bLi]; intro x hx; obtain ⟨k, _, rfl⟩ := List.mem_map.1 hx; trivial
theorem bytes_ren (σ : Nat → Nat) (l : List UInt8) : aA σ (l.map byteAV) = l.map byteAV := cO σ (wS _ l)
section
variable {P : Program} {ro : Option Nat} {N n0 : Nat} {E : Env} {H : Heap} {nx b0 : Nat} {o : Oper} {ds : List (Option Tmp)}
theorem opT_appStr {U : Nat → Prop} {c : Call} {x y : Operand} {t u e : TypeId} {l : List UInt8} {k1 : List Nat} {s : ByteArray} (ho : o.op = .call c) (hc : c.callee = .builtin .append) (hargs : c.args = #[x, y]) (hts : c.argTypes = #[t, u]) (hN : ∀ d, o.dst = some d → d < N)
    (ht : P.underlying t = some (.slice e)) (hu : P.underlying u = some .string) (hi : ∃ i, P.info? e = some i ∧ i.zero = some (.int .u8 0) ∧ i.size = 1 ∧ i.bytes = 1) (h1 : App1 E H x e 1 (l.map byteAV) k1) (hy : opv E y = some (.raw (.string s)))
    (hlen : l.length + s.size ≤ 140737488355328) (hnx : ¬ U nx) : OpT P ro N o E H U (aU E o.dst (.ref nx)) (over H ((nx, .row e 1 ((l ++ s.data.toList).map byteAV)) :: cP k1)) (fun j => U j ∨ j = nx) := by
  intro C a w next Q hR hK
  obtain ⟨i, hi1, hi2, hi3, hi4⟩ := hi
  obtain ⟨own1, r1, r2, r3, r4, r5⟩ := h1.rep hR
  obtain ⟨q1, _⟩ := hR.opv hy
  have hyv : a.eval y = .string s := by
    generalize a.eval y = v at q1
    cases q1; rfl
  have hown : w.ownsRow 0 e 1 (a.eval x) l.length (Lib.byteCells l) ∧ (∀ b, (a.eval x).ownBlock = some b → b ∈ own1) := by
    rcases bytes_in r1 with ⟨rfl, hv, ho'⟩ | ⟨b, c', cells, hv, ho', hh, hcs, hc', hm, htk⟩
    · exact ⟨⟨rfl, .inl ⟨hv, rfl⟩⟩, fun b hb => by rw [hv] at hb; simp [Value.ownBlock] at hb⟩
    refine ⟨⟨by simp [Lib.byteCells], .inr ⟨b, c', cells, hv, Nat.zero_le _, hh, hc', hm, by omega, by rw [Nat.mul_one]; exact htk⟩⟩, fun b' hb => ?_⟩
    rw [hv] at hb
    simp only [Value.ownBlock, Option.some.injEq] at hb
    subst hb
    rw [ho']; exact List.mem_cons_self
  have hmax : maxLen = 9223372036854775807 := rfl
  obtain ⟨v', w', hrun, hor, hg, _⟩ := Lib.run_append_own_string (P := P) w 0 t u o.type e i ht hu hi1 hi2 hi3 hi4 (a.eval x) l.length (Lib.byteCells l) hown.1 s (by omega) hlen (Nat.zero_le _)
  have hexec : (execOp a.eval o).run P w = .ok (.value v') w' := by
    simp [execOp, ho, resolve, hc, hargs, hts, invoke, builtin, hyv, hrun]
  have hll : (l ++ s.data.toList).length = l.length + s.size := by rw [List.length_append, Array.length_toList]; rfl
  have hbc : Lib.byteCells l ++ Lib.strCells s = Lib.byteCells (l ++ s.data.toList) := by rw [Lib.byteCells_append, Lib.strCells_eq]
  have hblk : ∀ g n' c', v' = .slice (some ⟨g, 0, none⟩) n' c' → g ∈ own1 ∨ w.heap.size ≤ g := fun g n' c' hv' => by
    rcases bytes_in r1 with ⟨rfl, hv, ho'⟩ | ⟨b, c', cells, hv, ho', hh, hcs, hc', hm, htk⟩
    · right
      obtain ⟨v2, w2, hrun2, hor2, _, _⟩ := Lib.run_append_own_string (P := P) w w.heap.size t u o.type e i ht hu hi1 hi2 hi3 hi4 (a.eval x) 0 [] ⟨rfl, .inl ⟨hv, rfl⟩⟩ s (by simp at hlen ⊢; omega) (by simpa using hlen) (Nat.le_refl _)
      rw [hrun] at hrun2; cases hrun2
      rcases hor2.2 with ⟨h9, _⟩ | ⟨g2, _, _, h9, hge, _⟩
      · rw [hv'] at h9; cases h9
      rw [hv'] at h9; cases h9; exact hge
    by_cases hroom : l.length + s.size ≤ c'
    · have hr := Lib.run_append_room_string (P := P) w t u o.type e i ht hu hi1 hi3 b l.length c' cells hh s hroom (by omega)
      rw [← hv, hrun] at hr; cases hr
      cases hv'
      left; rw [ho']; exact List.mem_cons_self
    have holds : ∀ j q, (Lib.byteCells l)[j]? = some q → w.cell? ((⟨b, 0, none⟩ : Addr).add j) = some q := by
      have := hown.1.cells (g := b) (by rw [hv]; rfl)
      exact this
    have hr := Lib.run_append_grow_string (P := P) w t u o.type e i (.int .u8 0) ht hu hi1 hi2 ⟨b, 0, none⟩ l.length c' (Lib.byteCells l) (by rw [hi3]; simp [Lib.byteCells]) holds s (by omega) (by omega) (by rw [hi4]; exact growslice_fits (by omega) (by omega))
    rw [← hv, hrun] at hr; cases hr
    cases hv'
    exact .inr (Nat.le_refl _)
  have hrep : ∃ own', (∀ b, b ∈ own' → b ∈ own1 ∨ w.heap.size ≤ b) ∧ own'.Nodup ∧ v'.oneCell' = true ∧ ∀ av' : Nat → Prop, RepO C.ρ av' w'.heap (.own e 1 ((l ++ s.data.toList).map byteAV)) v' own' := by
    obtain ⟨hl2, hcase⟩ := hor
    rcases hcase with ⟨hv', hn0⟩ | ⟨g, cap, cur, hv', _, hg', hle, hcap, hcs, htk⟩
    · refine ⟨[], fun b hb => (by cases hb), List.nodup_nil, by rw [hv']; rfl, fun av' => ?_⟩
      have : l ++ s.data.toList = [] := List.eq_nil_of_length_eq_zero (by omega)
      rw [this, hv']; exact .own0 e 1
    refine ⟨[g], fun b hb => by rw [List.mem_singleton.1 hb]; exact hblk g _ _ hv', by simp, by rw [hv']; rfl, fun av' => ?_⟩
    rw [hv', ← hll]
    exact bytes_out hg' (by omega) (by omega) hcap (by rw [hll, ← hbc]; rw [Nat.mul_one] at htk; exact htk)
  obtain ⟨own', g1, g2, g3, g4⟩ := hrep
  obtain ⟨k, hs'⟩ := Rel.out (nx := nx) (k := k1) (ob := .row e 1 ((l ++ s.data.toList).map byteAV)) hR g3 hnx r4 hg.os hg.tape hg.output hg.size
    (fun b hb hn => hg.block b hb fun e' => by
      obtain ⟨i', hi', hbi⟩ := (r3 b).1 (hown.2 b e'.symm)
      exact hn i' hi' hbi)
    (own := own') (fun b hb => by
      rcases g1 b hb with h | h
      · obtain ⟨i', hi', hbi⟩ := (r3 b).1 h
        exact .inl ⟨i', hi', hbi⟩
      exact .inr h)
    (wS _ _) (fun av' hav => ⟨g4 av', g2⟩)
  refine jI (by simp [ho, Op.noDefer]) hexec (hK _ _ _ (k.put hN ?_ (Or.inr rfl)) hs')
  have : Rep (C.out nx v' own' k1 g3).ρ ((C.out nx v' own' k1 g3).avoid (over H ((nx, AObj.row e 1 ((l ++ s.data.toList).map byteAV)) :: cP k1))) w'.heap (.ref nx) ((C.out nx v' own' k1 g3).ρ nx) := .ref nx
  rwa [show (C.out nx v' own' k1 g3).ρ nx = v' from aZ _ _ _] at this
end
end
section
variable [Globals]
variable {x y : Operand} {e i t u src dst : Nat} {c : Call} {ty : TypeId} {s : ByteArray} {cs : List AV}
section
variable {P : Program} {ro : Option Nat} {N n0 : Nat} {E : Env} {H : Heap} {nx b0 : Nat} {o : Oper} {ds : List (Option Tmp)}
theorem zN {l : List UInt8} (hg : o.guard = none) (ho : o.op = .call c) (hc : c.callee = .builtin .append) (hargs : c.args = #[x, y]) (hts : c.argTypes = #[t, u]) (hN : ∀ d, o.dst = some d → d < N)
    (ht : P.underlying t = some (.slice e)) (hu : P.underlying u = some .string) (hi : ∃ i, P.info? e = some i ∧ i.zero = some (.int .u8 0) ∧ i.size = 1 ∧ i.bytes = 1) (hx : opv E x = some (.ref i)) (hH : get H i = some (.row e 1 (l.map byteAV))) (hy : opv E y = some (.raw (.string s)))
    (hlen : l.length + s.size ≤ 140737488355328) : bC P ro N ds o b0 E H (tO [x, y]) [i] (.ref nx) [(nx, .row e 1 ((l ++ s.data.toList).map byteAV)), (i, .dead)] nx 1 := by
  refine lsO hg fun E' H' U hE hH' hnx => ?_
  rw [eB]
  have hops := oCg hE
  exact opT_appStr ho hc hargs hts hN ht hu hi (.row i _ (by rw [hops x (by simp)]; exact hx) ((hH' i (by simp)).trans hH)) (by rw [hops y (by simp)]; exact hy) hlen (hnx nx (Nat.le_refl _) (by omega))
theorem lstep_appStr0 (hg : o.guard = none) (ho : o.op = .call c) (hc : c.callee = .builtin .append) (hargs : c.args = #[x, y]) (hts : c.argTypes = #[t, u]) (hN : ∀ d, o.dst = some d → d < N)
    (ht : P.underlying t = some (.slice e)) (hu : P.underlying u = some .string) (hi : ∃ i, P.info? e = some i ∧ i.zero = some (.int .u8 0) ∧ i.size = 1 ∧ i.bytes = 1) (hx : opv E x = some (.raw (.slice none 0 0))) (hy : opv E y = some (.raw (.string s)))
    (hlen : s.size ≤ 140737488355328) : bC P ro N ds o b0 E H (tO [x, y]) [] (.ref nx) [(nx, .row e 1 (s.data.toList.map byteAV))] nx 1 := by
  refine lsO hg fun E' H' U hE hH' hnx => ?_
  rw [eB]
  have hops := oCg hE
  exact opT_appStr (l := []) ho hc hargs hts hN ht hu hi (.nil (by rw [hops x (by simp)]; exact hx)) (by rw [hops y (by simp)]; exact hy) (by simpa using hlen) (hnx nx (Nat.le_refl _) (by omega))
theorem Rel.bytes {C : Conc} {U : Nat → Prop} {a : Act} {w : World} {l : List UInt8} (hR : Rel C N E H U a w) (hi : get H i = some (.row e 1 (l.map byteAV))) (h0 : l ≠ []) :
    ∃ b c cells, C.ρ i = .slice (some ⟨b, 0, none⟩) l.length c ∧ C.own i = [b] ∧ w.heap[b]? = some (.cells cells e (0, 0)) ∧ cells.size = c ∧ l.length ≤ c ∧ c ≤ maxLen ∧ cells.toList.take l.length = Lib.byteCells l := by
  obtain ⟨h1, _⟩ := hR.obj i _ hi
  rcases bytes_in h1 with ⟨h2, _⟩ | h2
  · exact absurd h2 h0
  exact h2
theorem uF {l : List UInt8} (hg : o.guard = none) (ho : o.op = .call c) (hc : c.callee = .builtin .unsafeSliceData) (hargs : c.args = #[x]) (hN : ∀ d, o.dst = some d → d < N)
    (hx : opv E x = some (.ref i)) (hH : get H i = some (.row e 1 (l.map byteAV))) (h0 : l ≠ []) (hb : UU b0 i) : bC P ro N ds o b0 E H (tO [x]) [i] (.ep i 1 0 0) [] nx 0 := by
  refine lsO hg fun E' H' U hE hH' hnx => ?_
  rw [aU0]
  have hops := oCg hE
  refine aG (by simp [ho, Op.noDefer]) hN fun C a w hR => ?_
  obtain ⟨h1, h2⟩ := hR.opv (x := x) (r := .ref i) (by rw [hops x (by simp)]; exact hx)
  have hi' := (hH' i (by simp)).trans hH
  obtain ⟨b, c', cells, hv, _, hh, hcs, hc', _, _⟩ := Rel.bytes hR hi' h0
  have hl := List.length_pos_iff.2 h0
  refine ⟨h2, .pointer (some ⟨b, 0, none⟩), ?_, ?_⟩
  · have hev : a.eval x = .slice (some ⟨b, 0, none⟩) l.length c' := by
      generalize a.eval x = v at h1
      cases h1; exact hv
    have hr := Lib.run_unsafeSliceData_row (P := P) w c.argTypes o.type ⟨b, 0, none⟩ l.length c' (by omega)
    simp [execOp, ho, resolve, hc, hargs, invoke, builtin, hev, hr]
  · have := Rep.ep (ρ := C.ρ) (av := C.avoid H') (hp := w.heap) i 1 0 0 b (by rw [hv]; rfl)
    exact this
theorem freeze_heap (w : World) (a : Addr) (n k : Nat) (h : k ≠ a.block) : (w.freeze a n).heap[k]? = w.heap[k]? := by
  unfold World.freeze; split
  · rfl
  show (w.heap.modify a.block _)[k]? = _
  rw [Array.getElem?_modify, if_neg (fun e => h e.symm)]
theorem freeze_size (w : World) (a : Addr) (n : Nat) : (w.freeze a n).heap.size = w.heap.size := by
  unfold World.freeze; split
  · rfl
  simp
theorem freeze_os (w : World) (a : Addr) (n : Nat) : (w.freeze a n).os = w.os ∧ (w.freeze a n).tape = w.tape ∧ (w.freeze a n).output = w.output := by
  unfold World.freeze
  split <;> exact ⟨rfl, rfl, rfl⟩
theorem lstep_unsafeStr {pt it i e : Nat} {l : List UInt8} (hg : o.guard = none) (ho : o.op = .call c) (hc : c.callee = .builtin .unsafeString) (hargs : c.args = #[x, y]) (hts : c.argTypes = #[pt, it]) (hN : ∀ d, o.dst = some d → d < N)
    (hp : P.underlying pt = some (.pointer e)) (hce : P.cellsOf e = 1) (hx : opv E x = some (.ep i 1 0 0)) (hy : opv E y = some (.raw (.int .i64 (l.length : Int)))) (hH : get H i = some (.row e 1 (l.map byteAV))) (h0 : l ≠ []) :
    bC P ro N ds o b0 E H (tO [x, y]) [i] (.raw (.string ⟨l.toArray⟩)) [(nx, .dead), (i, .dead)] nx 1 := by
  refine lsO hg fun E' H' U hE hH' hnx => ?_
  rw [eB]
  have hops := oCg hE
  intro C a w next Q hR hK
  obtain ⟨h1, _⟩ := hR.opv (x := x) (r := .ep i 1 0 0) (by rw [hops x (by simp)]; exact hx)
  obtain ⟨h2, _⟩ := hR.opv (x := y) (by rw [hops y (by simp)]; exact hy)
  have hi' := (hH' i (by simp)).trans hH
  obtain ⟨b, c', cells, hv, hown, hh, hcs, hc', hcm, htk⟩ := Rel.bytes hR hi' h0
  have hev : a.eval x = .pointer (some ⟨b, 0, none⟩) := by
    generalize a.eval x = v at h1
    cases h1 with
    | ep _ _ _ _ b' hb =>
      rw [hv] at hb
      cases hb; rfl
  have hey : a.eval y = .int .i64 (l.length : Int) := by
    generalize a.eval y = v at h2
    cases h2; rfl
  have hmax : maxLen = 9223372036854775807 := rfl
  have hor : w.ownsRow 0 e 1 (C.ρ i) l.length (Lib.byteCells l) := ⟨by simp [Lib.byteCells], .inr ⟨b, c', cells, hv, Nat.zero_le _, hh, hc', hcm, by omega, by rw [Nat.mul_one]; exact htk⟩⟩
  have hr := Lib.run_unsafeString_row (P := P) w pt it o.type e hp hce b cells.size (by simp [World.shape?, hh]) l h0 (by omega) (by omega) (fun j z hz => hor.cells (g := b) (by rw [hv]; rfl) j _ (by simp [Lib.byteCells, hz]))
  have hexec : (execOp a.eval o).run P w = .ok (.value (.string ⟨l.toArray⟩)) (w.freeze ⟨b, 0, none⟩ l.length) := by
    simp [execOp, ho, resolve, hc, hargs, hts, invoke, builtin, hev, hey, hr]
  obtain ⟨f1, f2, f3⟩ := freeze_os w ⟨b, 0, none⟩ l.length
  obtain ⟨k, hs'⟩ := Rel.out (nx := nx) (v := .int .i64 0) (own := []) (k := [i]) (ob := .dead) hR rfl (hnx nx (Nat.le_refl _) (by omega)) (fun j hj => by rw [List.mem_singleton.1 hj]; exact ⟨_, hi'⟩) f1 f2 f3 (by rw [freeze_size]; exact Nat.le_refl _)
    (fun b' hb' hn => freeze_heap w _ _ b' fun e' => hn i (by simp) (by rw [hown]; subst e'; exact List.mem_cons_self)) (fun b' hb' => by cases hb') trivial (fun _ _ => rfl)
  exact jI (by simp [ho, Op.noDefer]) hexec (hK _ _ _ (k.put hN (.raw _) trivial) hs')
theorem vV {j : TypeInfo} (hg : o.guard = none) (ho : o.op = .convert src dst x) (hN : ∀ d, o.dst = some d → d < N) (hs : P.underlying src = some (.pointer t)) (hd : P.underlying dst = some .unsafePointer) (ht : P.info? t = some j) (hj : j.size ≠ 0)
    (hx : opv E x = some (.ptr i 0)) (hH : get H i = some (.cells e cs)) (hcs : 0 < cs.length) : bC P ro N ds o b0 E H (tO [x]) [i] (.ptr i 0) [] nx 0 := by
  refine lsO hg fun E' H' U hE hH' hnx => ?_
  rw [aU0]
  have hops := oCg hE
  refine aG (by simp [ho, Op.noDefer]) hN fun C a w hR => ?_
  obtain ⟨h1, h2⟩ := hR.opv (x := x) (r := .ptr i 0) (by rw [hops x (by simp)]; exact hx)
  obtain ⟨b, vs, hv, _, hh, hrep⟩ := hR.obj i _ ((hH' i (by simp)).trans hH)
  have hev : a.eval x = .pointer (some ⟨b, 0, none⟩) := by
    generalize a.eval x = v at h1
    cases h1 with
    | ptr _ _ b' hb => rw [hv] at hb; cases hb; rfl
  have hr := Lib.run_to_unsafe (P := P) w (e := e) (cells := vs.size) ⟨b, 0, none⟩ hs hd ht hj (by simp [World.shape?, hh]) (by rw [hrep.1]; exact hcs)
  refine ⟨h2, .pointer (some ⟨b, 0, none⟩), by simp only [execOp, ho, hev, Sem.run_bind, hr, Result.andThen_ok, Sem.run_pure], ?_⟩
  have := Rep.ptr (ρ := C.ρ) (av := C.avoid H') (hp := w.heap) i 0 b (by rw [hv]; rfl)
  exact this
theorem sC {j : TypeInfo} (hg : o.guard = none) (ho : o.op = .convert src dst x) (hN : ∀ d, o.dst = some d → d < N) (hs : P.underlying src = some .unsafePointer) (hd : P.underlying dst = some (.pointer u)) (hu : P.info? u = some j)
    (hx : opv E x = some (.ptr i 0)) (hH : get H i = some (.cells e cs)) (hl : liesAt P P.depth e (cs.length / P.cellsOf e) 0 u 1 = true) : bC P ro N ds o b0 E H (tO [x]) [i] (.ptr i 0) [] nx 0 := by
  refine lsO hg fun E' H' U hE hH' hnx => ?_
  rw [aU0]
  have hops := oCg hE
  refine aG (by simp [ho, Op.noDefer]) hN fun C a w hR => ?_
  obtain ⟨h1, h2⟩ := hR.opv (x := x) (r := .ptr i 0) (by rw [hops x (by simp)]; exact hx)
  obtain ⟨b, vs, hv, _, hh, hrep⟩ := hR.obj i _ ((hH' i (by simp)).trans hH)
  have hev : a.eval x = .pointer (some ⟨b, 0, none⟩) := by
    generalize a.eval x = v at h1
    cases h1 with
    | ptr _ _ b' hb => rw [hv] at hb; cases hb; rfl
  have hr := Lib.run_from_unsafe (P := P) w (e := e) (cells := vs.size) ⟨b, 0, none⟩ hs hd hu (by simp [World.shape?, hh]) (by rw [hrep.1]; exact hl)
  refine ⟨h2, .pointer (some ⟨b, 0, none⟩), by simp only [execOp, ho, hev, Sem.run_bind, hr, Result.andThen_ok, Sem.run_pure], ?_⟩
  have := Rep.ptr (ρ := C.ρ) (av := C.avoid H') (hp := w.heap) i 0 b (by rw [hv]; rfl)
  exact this
theorem vY {f : Nat} {fn : Func} {r : AV} (hg : o.guard = none) (ho : o.op = .call c) (hc : c.callee = .value (.func f)) (hargs : c.args = #[x]) (hN : ∀ d, o.dst = some d → d < N)
    (hf : P.funcs[f]? = some fn) (hname : (fn.name == "runtime.NumGoroutine") = false) (hb : fn.body.isNone = true) (hn : Extern.findNext fn = none) (he : Extern.find fn = some Extern.AbiNoEscape.same) (hx : opv E x = some r) : bC P ro N ds o b0 E H (tO [x]) [] r [] nx 0 := by
  refine lsO hg fun E' H' U hE hH' hnx => ?_
  rw [aU0]
  have hops := oCg hE
  refine aG (by simp [ho, Op.noDefer]) hN fun C a w hR => ?_
  obtain ⟨h1, h2⟩ := hR.opv (x := x) (r := r) (by rw [hops x (by simp)]; exact hx)
  have hr := run_callFunc_extern hf hname hb hn he #[a.eval x] w
  rw [Lib.run_noEscape, Result.andThen_ok] at hr
  have h3 : a.eval (.func f) = .func (.func f) #[] #[] := rfl
  refine ⟨h2, _, ?_, h1⟩
  simp [execOp, ho, resolve, hc, hargs, invoke, Deferred.ofValue, h3, hr]
theorem uW (op : BinOp) (t : TypeId) (x y : Operand) (p : Option Addr) (v : Value) : eqGuard op t x y (.pointer p) v = pure () := by
  unfold eqGuard
  split <;> rfl
theorem lstep_nilEq (hg : o.guard = none) (ho : o.op = .binOp .eql t x (.const (.pointer none)) ty) (hN : ∀ d, o.dst = some d → d < N) (ht : P.underlying t = some (.pointer e)) (hx : opv E x = some (.raw (.pointer none))) : bC P ro N ds o b0 E H (tO [x]) [] (.raw (.bool true)) [] nx 0 := by
  refine lsO hg fun E' H' U hE hH' hnx => ?_
  rw [aU0]
  have hops := oCg hE
  refine aG (by simp [ho, Op.noDefer]) hN fun C a w hR => ?_
  obtain ⟨h1, h2⟩ := hR.opv (x := x) (by rw [hops x (by simp)]; exact hx)
  have hev : a.eval x = .pointer none := by
    generalize a.eval x = v at h1
    cases h1; rfl
  have h : ∀ d : Nat, (Op.equalIn (d + 1) t (.pointer none) (.pointer none)).run P w = .ok true w := fun d => by simp [Op.equalIn, run_underlying ht]
  have hc : a.eval (.const (.pointer none)) = .pointer none := rfl
  have hr : (binOp .eql t (.pointer none) (.pointer none)).run P w = .ok (.bool true) w := by simp [binOp, Op.equal, Op.maxDepth, h 9999]
  refine ⟨trivial, .bool true, ?_, .raw _⟩
  simp only [execOp, ho, hev, hc, uW, Sem.run_bind, hr, Result.andThen_ok, Sem.run_pure]
theorem lstep_nilEqP (hg : o.guard = none) (ho : o.op = .binOp .eql t x (.const (.pointer none)) ty) (hN : ∀ d, o.dst = some d → d < N) (ht : P.underlying t = some (.pointer e)) (hx : opv E x = some (.ptr i 0)) : bC P ro N ds o b0 E H (tO [x]) [] (.raw (.bool false)) [] nx 0 := by
  refine lsO hg fun E' H' U hE hH' hnx => ?_
  rw [aU0]
  have hops := oCg hE
  refine aG (by simp [ho, Op.noDefer]) hN fun C a w hR => ?_
  obtain ⟨h1, h2⟩ := hR.opv (x := x) (by rw [hops x (by simp)]; exact hx)
  obtain ⟨b, hev⟩ : ∃ b, a.eval x = .pointer (some ⟨b, 0, none⟩) := by
    generalize a.eval x = v at h1
    cases h1 with
    | ptr _ _ b' hb => exact ⟨b', rfl⟩
  have h : ∀ d : Nat, (Op.equalIn (d + 1) t (.pointer (some ⟨b, 0, none⟩)) (.pointer none)).run P w = .ok false w := fun d => by simp [Op.equalIn, run_underlying ht]
  have hc : a.eval (.const (.pointer none)) = .pointer none := rfl
  have hr : (binOp .eql t (.pointer (some ⟨b, 0, none⟩)) (.pointer none)).run P w = .ok (.bool false) w := by simp [binOp, Op.equal, Op.maxDepth, h 9999]
  refine ⟨trivial, .bool false, ?_, .raw _⟩
  simp only [execOp, ho, hev, hc, uW, Sem.run_bind, hr, Result.andThen_ok, Sem.run_pure]
theorem lstep_selfNe {j : TypeInfo} (hg : o.guard = none) (ho : o.op = .binOp .neq t x y ty) (hN : ∀ d, o.dst = some d → d < N) (ht : P.underlying t = some (.pointer e)) (hte : P.info? e = some j) (hx : opv E x = some (.ptr i 0)) (hy : opv E y = some (.ptr i 0)) : bC P ro N ds o b0 E H (tO [x, y]) [] (.raw (.bool false)) [] nx 0 := by
  refine lsO hg fun E' H' U hE hH' hnx => ?_
  rw [aU0]
  have hops := oCg hE
  refine aG (by simp [ho, Op.noDefer]) hN fun C a w hR => ?_
  obtain ⟨h1, h2⟩ := hR.opv (x := x) (by rw [hops x (by simp)]; exact hx)
  obtain ⟨h3, _⟩ := hR.opv (x := y) (by rw [hops y (by simp)]; exact hy)
  obtain ⟨b, hb, hev⟩ : ∃ b, blk (C.ρ i) = some b ∧ a.eval x = .pointer (some ⟨b, 0, none⟩) := by
    generalize a.eval x = v at h1
    cases h1 with
    | ptr _ _ b' hb => exact ⟨b', hb, rfl⟩
  have hey : a.eval y = .pointer (some ⟨b, 0, none⟩) := by
    generalize a.eval y = v at h3
    cases h3 with
    | ptr _ _ b' hb' => rw [hb] at hb'; cases hb'; rfl
  have hr := Lib.run_neq_ptr_same (P := P) w ⟨b, 0, none⟩ ht hte
  refine ⟨trivial, .bool false, ?_, .raw _⟩
  simp only [execOp, ho, hev, hey, uW, Sem.run_bind, hr, Result.andThen_ok, Sem.run_pure]
end
end
section
variable [Globals]
section
variable {P : Program} {ro : Option Nat} {N n0 : Nat} {E : Env} {H : Heap} {nx b0 : Nat} {o : Oper} {ds : List (Option Tmp)}
theorem dI {t el len sz i off : Nat} {x y : Operand} {k : IntKind} {n : Int} (hg : o.guard = none) (ho : o.op = .indexAddr t x y) (hN : ∀ d, o.dst = some d → d < N) (ht : P.underlying t = some (.array len el)) (hi : (P.info? el).map (·.size) = some sz)
    (hx : opv E x = some (.ptr i off)) (hy : opv E y = some (.raw (.int k n))) (h0 : 0 ≤ n) (h1 : n < len) : bC P ro N ds o b0 E H (tO [x, y]) [] (.ptr i (off + n.toNat * sz)) [] nx 0 := by
  refine lsO hg fun E' H' U hE hH' hnx => ?_
  rw [aU0]
  have hops := oCg hE
  refine aG (by simp [ho, Op.noDefer]) hN fun C a w hR => ?_
  obtain ⟨r1, r2⟩ := hR.opv (x := x) (by rw [hops x (by simp)]; exact hx)
  obtain ⟨q1, _⟩ := hR.opv (x := y) (by rw [hops y (by simp)]; exact hy)
  obtain ⟨j, hj, hs⟩ := Option.map_eq_some_iff.1 hi
  have hyv : a.eval y = .int k n := by
    generalize a.eval y = v at q1
    cases q1; rfl
  obtain ⟨b, hb, hxv⟩ : ∃ b, blk (C.ρ i) = some b ∧ a.eval x = .pointer (some ⟨b, off, none⟩) := by
    generalize a.eval x = v at r1
    cases r1 with
    | ptr _ _ b' hb => exact ⟨b', hb, rfl⟩
  refine ⟨r2, .pointer (some ⟨b, off + n.toNat * sz, none⟩), ?_, .ptr i _ b hb⟩
  have hr : (Instr.indexAt t (.pointer (some ⟨b, off, none⟩)) (.int k n)).run P w = .ok (.pointer (some ⟨b, off + n.toNat * sz, none⟩)) w := by
    simp [Instr.indexAt, run_underlying ht, Instr.sureAddr, asIntOf, h0, h1, sizeOf, typeInfo, hj, hs, pX]
  simp only [execOp, ho, hxv, hyv, Sem.run_bind, hr, Result.andThen_ok, Sem.run_pure]
end
end
section
variable [Globals]
section
variable {P : Program} {ro : Option Nat} {N n0 : Nat} {E : Env} {H : Heap} {nx b0 : Nat} {o : Oper} {ds : List (Option Tmp)}
theorem recell {C : Conc} {U : Nat → Prop} {a : Act} {w : World} {i t : Nat} {cs ds : List AV} (hR : Rel C N E H U a w) (hi : get H i = some (.cells t cs)) (hle : ∀ vs, cF C.ρ (C.avoid H) w.heap cs vs → cF C.ρ (C.avoid H) w.heap ds vs) (hb : aC U ds) :
    Rel C N E (put H i (.cells t ds)) U a w ∧ ∀ {C0 : Conc} {H0 : Heap} {U0 : Nat → Prop} {w0 : World}, StepR C0 H0 U0 w0 C H w → StepR C0 H0 U0 w0 C (put H i (.cells t ds)) w := by
  have hdom : ∀ j o, get (put H i (.cells t ds)) j = some o → ∃ o', get H j = some o' := fun j o hj => by
    rw [dF] at hj; split at hj
    · rename_i e; subst e; exact ⟨_, hi⟩
    exact ⟨o, hj⟩
  have hW : ∀ b, C.W (put H i (.cells t ds)) b → C.W H b := fun b ⟨j, o, hj, hb⟩ => by
    obtain ⟨o', ho'⟩ := hdom j o hj
    exact ⟨j, o', ho', hb⟩
  have hav : ∀ b, C.avoid (put H i (.cells t ds)) b → C.avoid H b := fun b hb => hb.imp id (hW b)
  have hRel : Rel C N E (put H i (.cells t ds)) U a w :=
    { obj := fun j o hj => by
        rw [dF] at hj; split at hj
        · rename_i e
          subst e; cases hj
          obtain ⟨b, vs, e1, e2, e3, e4⟩ := hR.obj i _ hi
          exact ⟨b, vs, e1, e2, e3, (hle vs e4).mono (fun b _ hb => hav b hb) (fun _ _ _ => rfl)⟩
        exact (hR.obj j o hj).mono (fun b _ hb => hav b hb) (fun _ _ _ => rfl) (fun _ _ => rfl)
      apart := fun j k oj ok b hjk hj hk h1 h2 => by
        obtain ⟨o1, g1⟩ := hdom j oj hj
        obtain ⟨o2, g2⟩ := hdom k ok hk
        exact hR.apart j k o1 o2 b hjk g1 g2 h1 h2
      xapart := fun j o b hj h1 => by
        obtain ⟨o1, g1⟩ := hdom j o hj
        exact hR.xapart j o1 b g1 h1
      xlt := hR.xlt
      gl := hR.toRelH.glK (fun b _ hb => hav b hb) (fun _ _ _ _ _ _ => rfl)
      objb := fun j o hj => by
        rw [dF] at hj; split at hj
        · rename_i e
          subst e; cases hj
          exact ⟨(hR.objb i _ hi).1, hb⟩
        exact hR.objb j o hj
      size := hR.size, hB := hR.hB, nodup := hR.nodup
      marks := fun d hd => by
        obtain ⟨r, h1, h2, h3, h4⟩ := hR.marks d hd
        exact ⟨r, h1, h2, h3, fun q => h4 (hav r q)⟩
      env := fun t x ht => by
        obtain ⟨h1, h2, h3⟩ := hR.env t x ht
        exact ⟨h1, h2, h3.mono (fun b _ hb => hav b hb) (fun _ _ _ => rfl)⟩ }
  refine ⟨hRel, fun {C0 H0 U0 w0} hs => ?_⟩
  exact { os := hs.os, tape := hs.tape, output := hs.output, size := hs.size, keep := hs.keep, wr := fun b hb => hs.wr b (hW b hb), X := hs.X, B := hs.B, ρ := hs.ρ }
theorem lstep_unsafeKeep {c : Call} {x y : Operand} {pt it i e m t0 jj : Nat} {cs : List AV} {l : List UInt8} (hg : o.guard = none) (ho : o.op = .call c) (hc : c.callee = .builtin .unsafeString) (hargs : c.args = #[x, y]) (hts : c.argTypes = #[pt, it]) (hN : ∀ d, o.dst = some d → d < N)
    (hp : P.underlying pt = some (.pointer e)) (hce : P.cellsOf e = 1) (hx : opv E x = some (.ep i 1 0 0)) (hy : opv E y = some (.raw (.int .i64 (l.length : Int)))) (hH : get H i = some (.row e 1 (l.map byteAV))) (h0 : l ≠ [])
    (hm : get H m = some (.cells t0 cs)) (hj : cs[jj]? = some (.ref i)) (hmi : m ≠ i) :
    bC P ro N ds o b0 E H (tO [x, y]) [i, m] (.raw (.string ⟨l.toArray⟩)) [(nx, .dead), (i, .dead), (m, .cells t0 (cs.set jj (.sl 1 (l.map byteAV))))] nx 1 := by
  refine lsO hg fun E' H' U hE hH' hnx => ?_
  rw [eB]
  have hops := oCg hE
  intro C a w next Q hR hK
  have hnx' := hnx nx (Nat.le_refl _) (by omega)
  obtain ⟨h1, _⟩ := hR.opv (x := x) (r := .ep i 1 0 0) (by rw [hops x (by simp)]; exact hx)
  obtain ⟨h2, _⟩ := hR.opv (x := y) (by rw [hops y (by simp)]; exact hy)
  have hi' := (hH' i (by simp)).trans hH
  have hm' := (hH' m (by simp)).trans hm
  obtain ⟨b, c', cells, hv, hown, hh, hcs, hc', hcm, htk⟩ := Rel.bytes hR hi' h0
  have hev : a.eval x = .pointer (some ⟨b, 0, none⟩) := by
    generalize a.eval x = v at h1
    cases h1 with
    | ep _ _ _ _ b' hb =>
      rw [hv] at hb
      cases hb; rfl
  have hey : a.eval y = .int .i64 (l.length : Int) := by
    generalize a.eval y = v at h2
    cases h2; rfl
  have hone : (Value.int IntKind.i64 0).oneCell' = true := rfl
  have hmax : maxLen = 9223372036854775807 := rfl
  have hor : w.ownsRow 0 e 1 (C.ρ i) l.length (Lib.byteCells l) := ⟨by simp [Lib.byteCells], .inr ⟨b, c', cells, hv, Nat.zero_le _, hh, hc', hcm, by omega, by rw [Nat.mul_one]; exact htk⟩⟩
  have hr := Lib.run_unsafeString_row (P := P) w pt it o.type e hp hce b cells.size (by simp [World.shape?, hh]) l h0 (by omega) (by omega) (fun j z hz => hor.cells (g := b) (by rw [hv]; rfl) j _ (by simp [Lib.byteCells, hz]))
  have hexec : (execOp a.eval o).run P w = .ok (.value (.string ⟨l.toArray⟩)) (w.freeze ⟨b, 0, none⟩ l.length) := by
    simp [execOp, ho, resolve, hc, hargs, hts, invoke, builtin, hev, hey, hr]
  obtain ⟨f1, f2, f3⟩ := freeze_os w ⟨b, 0, none⟩ l.length
  have hlp := List.length_pos_iff.2 h0
  have hfr : ∃ fr, (w.freeze ⟨b, 0, none⟩ l.length).heap[b]? = some (.cells cells e fr) := by
    unfold World.freeze; rw [if_neg (by omega)]
    refine ⟨(0, 0 + l.length), ?_⟩
    show (w.heap.modify b _)[b]? = _
    rw [Array.getElem?_modify, if_pos rfl, hh]; rfl
  obtain ⟨fr, hfr⟩ := hfr
  obtain ⟨k, hs'⟩ := Rel.out (nx := nx) (v := .int .i64 0) (own := []) (k := [i]) (ob := .dead) hR hone hnx' (fun j hj => by rw [List.mem_singleton.1 hj]; exact ⟨_, hi'⟩) f1 f2 f3 (by rw [freeze_size]; exact Nat.le_refl _)
    (fun b' hb' hn => freeze_heap w _ _ b' fun e' => hn i (by simp) (by rw [hown]; subst e'; exact List.mem_cons_self)) (fun b' hb' => by cases hb') trivial (fun _ _ => rfl)
  have hUi : U i := (hR.objb i _ hi').1
  have hUm : U m := (hR.objb m _ hm').1
  have hin : i ≠ nx := fun e' => hnx' (e' ▸ hUi)
  have hmn : m ≠ nx := fun e' => hnx' (e' ▸ hUm)
  have hg1 : get (over H' ((nx, AObj.dead) :: cP [i])) m = some (.cells t0 cs) := by
    rw [bB]
    show (match get [(nx, AObj.dead), (i, AObj.dead)] m with | some o => some o | none => get H' m) = _
    simp only [Abs.get, if_neg (Ne.symm hmn), if_neg (Ne.symm hmi)]
    exact hm'
  have hav : ¬ (C.out nx (.int .i64 0) [] [i] hone).avoid (over H' ((nx, AObj.dead) :: cP [i])) b := by
    have hbi : b ∈ C.own i := by rw [hown]; exact List.mem_cons_self
    rintro (hX | ⟨j, oj, hj', hbj⟩)
    · exact hR.xapart i _ b hi' hbi hX
    by_cases e1 : j = nx
    · subst e1; rw [qM] at hbj; cases hbj
    by_cases e2 : j ∈ [i]
    · rw [iR e1 e2] at hbj; cases hbj
    rw [jW e1 e2] at hbj
    have hgj : get H' j = some oj := by
      rw [bB] at hj'
      have : get ((nx, AObj.dead) :: cP [i]) j = none := by
        show get [(nx, AObj.dead), (i, AObj.dead)] j = none
        simp only [Abs.get, if_neg (Ne.symm e1), if_neg (fun e' : i = j => e2 (by rw [e']; simp))]
      rw [this] at hj'
      exact hj'
    exact hR.apart i j _ oj b (fun e' => e2 (by rw [e']; simp)) hi' hgj hbi hbj
  have hρ : (C.out nx (.int .i64 0) [] [i] hone).ρ i = C.ρ i := bO _ _ hin
  obtain ⟨k2, hs2⟩ := recell k hg1 (ds := cs.set jj (.sl 1 (l.map byteAV))) (fun vs hvs => by
    refine ⟨by rw [List.length_set]; exact hvs.1, fun q z hq => ?_⟩
    rw [List.getElem?_set] at hq; split at hq
    · rename_i ejq
      subst ejq; split at hq
      · cases hq
        have h9 := hvs.2 jj _ hj
        generalize vs.getD jj undef = u at h9
        cases h9; rw [hρ, hv]
        have h10 := Rep.sl (ρ := (C.out nx (.int .i64 0) [] [i] hone).ρ) (av := (C.out nx (.int .i64 0) [] [i] hone).avoid (over H' ((nx, AObj.dead) :: cP [i]))) (hp := (w.freeze ⟨b, 0, none⟩ l.length).heap) 1 (l.map byteAV) b 0 c' cells e fr (fun j => .int .u8 ((l.getD j 0).toNat : Int)) (by rw [List.length_map]; exact hlp) (by rw [List.length_map]; exact hc') hcm hav hfr
          (fun j z hz => by
            rw [List.getElem?_map] at hz
            obtain ⟨y', hy', rfl⟩ := Option.map_eq_some_iff.1 hz
            rw [List.getD_eq_getElem?_getD, hy']
            exact .raw _)
          (fun j hjl => by
            rw [List.length_map] at hjl
            refine ⟨rfl, fun q hq => ?_⟩
            have hq0 : q = 0 := by omega
            subst hq0
            have h11 : (cells.toList.take l.length)[j]? = cells[j]? := by rw [List.getElem?_take, if_pos hjl, Array.getElem?_toList]
            rw [htk] at h11; rw [Nat.zero_add, Nat.mul_one, Nat.add_zero, ← h11]
            simp [Lib.byteCells, List.getElem?_eq_getElem hjl, Value.cells, List.getD_eq_getElem?_getD])
        rw [List.length_map] at h10; exact h10
      cases hq
    exact hvs.2 q z hq) (by
    have hbl := (hR.objb m _ hm').2
    show aC _ _
    refine bLi.2 fun z hz => ?_
    rcases List.mem_or_eq_of_mem_set hz with h | h
    · exact AV.bel_mono (fun j hj => .inl hj) z (bLi.1 hbl z h)
    rw [h]; exact wS _ _)
  have hext : ∀ q, get (over H' [(nx, AObj.dead), (i, AObj.dead), (m, .cells t0 (cs.set jj (.sl 1 (l.map byteAV))))]) q = get (put (over H' ((nx, AObj.dead) :: cP [i])) m (.cells t0 (cs.set jj (.sl 1 (l.map byteAV))))) q := fun q => by
    rw [dF, bB, bB]
    show (match get [(nx, AObj.dead), (i, AObj.dead), (m, .cells t0 (cs.set jj (.sl 1 (l.map byteAV))))] q with | some o => some o | none => get H' q) = if m = q then _ else (match get [(nx, AObj.dead), (i, AObj.dead)] q with | some o => some o | none => get H' q)
    by_cases e1 : nx = q
    · subst e1; simp only [Abs.get, if_true, if_neg hmn]
    by_cases e2 : i = q
    · subst e2; simp only [Abs.get, if_true, if_neg e1, if_neg hmi]
    by_cases e3 : m = q
    · subst e3; simp only [Abs.get, if_true, if_neg e1, if_neg e2]
    simp only [Abs.get, if_neg e1, if_neg e2, if_neg e3]
  exact jI (by simp [ho, Op.noDefer]) hexec (hK _ _ _ (((k2.ext hext)).put hN (.raw _) trivial) ((hs2 hs').ext hext))
end
end
end Go.Abs
end
section
open Go
namespace Go.Abs
section
variable [Globals]
variable {P : Program} {ro : Option Nat} {N : Nat} {E : Env} {H : Heap} {nx : Nat}
theorem jV {ds : List (Option Tmp)} {l : List Oper} {K : AK} (i : Nat) {e sz : Nat} {xs : List AV} (hi : get H i = some (.row e sz xs)) (h : uN P ro N ds l K (subE i (.sl sz (fzL xs)) E) (nQ i (.sl sz (fzL xs)) H) nx) : uN P ro N ds l K E H nx := by
  intro ops n1 Q C a w hd hb hn hR hK
  let y : AV := .sl sz (fzL xs)
  let C' : Conc := { C with own := fun j => if j = i then [] else C.own j }
  have hW : ∀ b, C'.W (nQ i y H) b → ∃ j o, j ≠ i ∧ get H j = some o ∧ b ∈ C.own j := by
    rintro b ⟨j, o, hj, hb⟩
    have hb' : b ∈ (if j = i then [] else C.own j) := hb
    by_cases hji : j = i
    · rw [if_pos hji] at hb'; cases hb'
    rw [if_neg hji] at hb'
    rw [iD] at hj
    obtain ⟨o', ho', _⟩ := Option.map_eq_some_iff.1 hj
    exact ⟨j, o', hji, ho', hb'⟩
  have hWW : ∀ b, C'.W (nQ i y H) b → C.W H b := fun b hb => by
    obtain ⟨j, o, _, h1, h2⟩ := hW b hb
    exact ⟨j, o, h1, h2⟩
  have hav : ∀ b, C'.avoid (nQ i y H) b → C.avoid H b := fun b hb => hb.imp id (hWW b)
  have hbel := (hR.objb i _ hi).2
  have hyb : y.bel (UU nx) := nC (xs := xs) hbel
  have hy : Rep C.ρ (C'.avoid (nQ i y H)) w.heap y (C.ρ i) := by
    obtain ⟨h1, _⟩ := hR.obj i _ hi
    have h2 : RepO C.ρ (C'.avoid (nQ i y H)) w.heap (.own e sz xs) (C.ρ i) (C.own i) := h1.mono' (fun b _ hb => hav b hb) (fun _ _ _ _ _ _ => rfl) (fun _ _ => rfl)
    refine h2.fz fun b hb hb' => ?_
    rcases hb' with hb' | hb'
    · exact hR.xapart i _ b hi hb hb'
    obtain ⟨j, o, hji, hj, hbj⟩ := hW b hb'
    exact hR.apart i j _ _ b (fun q => hji q.symm) hi hj hb hbj
  have hsub : ∀ {x : AV} {v : Value}, Rep C.ρ (C.avoid H) w.heap x v → Rep C.ρ (C'.avoid (nQ i y H)) w.heap (AV.sub i y x) v := fun hx => Rep.sub hy (hx.mono (fun b _ hb => hav b hb) (fun _ _ _ => rfl))
  have hRH : RelH C' (nQ i y H) (UU nx) w := by
    refine { obj := fun j o hj => ?_, apart := fun j k oj ok b hjk hj hk hbj hbk => ?_, xapart := fun j o b hj hb => ?_, xlt := hR.xlt, objb := fun j o hj => ?_, gl := hR.toRelH.glK (fun b _ hb => hav b hb) (fun _ _ _ _ _ _ => rfl) }
    · rw [iD] at hj
      obtain ⟨o', ho', rfl⟩ := Option.map_eq_some_iff.1 hj
      by_cases hji : j = i
      · rw [if_pos hji]
        show (if j = i then [] else C.own j) = []
        rw [if_pos hji]
      rw [if_neg hji]
      have hown : C'.own j = C.own j := if_neg hji
      rw [hown]
      have h1 := (hR.obj j o' ho').mono' (av' := C'.avoid (nQ i y H)) (hp' := w.heap) (fun b _ hb => hav b hb) (fun _ _ _ _ _ _ => rfl) (fun _ _ => rfl)
      cases o' with
      | cells t cs =>
        obtain ⟨b, vs, e1, e2, e3, e4⟩ := h1
        refine ⟨b, vs, e1, e2, e3, by rw [nK]; exact e4.1, fun k x hk => ?_⟩
        rw [zT] at hk
        obtain ⟨u, hu, rfl⟩ := Option.map_eq_some_iff.1 hk
        exact Rep.sub hy (e4.2 k u hu)
      | _ => exact h1
    · obtain ⟨j', oj', _, h1, h2⟩ := hW b ⟨j, oj, hj, hbj⟩
      have e1 : ∀ l ol, get (nQ i y H) l = some ol → b ∈ C'.own l → ∃ o, get H l = some o ∧ b ∈ C.own l := fun l ol hl hbl => by
        have hb' : b ∈ (if l = i then [] else C.own l) := hbl
        by_cases hli : l = i
        · rw [if_pos hli] at hb'; cases hb'
        rw [if_neg hli] at hb'
        rw [iD] at hl
        obtain ⟨o', ho', _⟩ := Option.map_eq_some_iff.1 hl
        exact ⟨o', ho', hb'⟩
      obtain ⟨o1, p1, p2⟩ := e1 j oj hj hbj
      obtain ⟨o2, p3, p4⟩ := e1 k ok hk hbk
      exact hR.apart j k _ _ b hjk p1 p3 p2 p4
    · have hb' : b ∈ (if j = i then [] else C.own j) := hb
      by_cases hji : j = i
      · rw [if_pos hji] at hb'; cases hb'
      rw [if_neg hji] at hb'
      rw [iD] at hj
      obtain ⟨o', ho', _⟩ := Option.map_eq_some_iff.1 hj
      exact hR.xapart j o' b ho' hb'
    rw [iD] at hj
    obtain ⟨o', ho', rfl⟩ := Option.map_eq_some_iff.1 hj
    obtain ⟨h1, h2⟩ := hR.objb j o' ho'
    refine ⟨h1, ?_⟩
    split
    · trivial
    cases o' with
    | cells t cs => exact wD hyb (xs := cs) h2
    | _ => exact h2
  have hRel : Rel C' N (subE i y E) (nQ i y H) (UU nx) a w :=
    { toRelH := hRH, size := hR.size, hB := hR.hB, nodup := hR.nodup
      marks := fun d hd => by
        obtain ⟨r, h1, h2, h3, h4⟩ := hR.marks d hd
        exact ⟨r, h1, h2, h3, fun q => h4 (hav r q)⟩
      env := fun t x ht => by
        rw [subE_get] at ht
        obtain ⟨u, hu, rfl⟩ := Option.map_eq_some_iff.1 ht
        obtain ⟨h1, h2, h3⟩ := hR.env t u hu
        exact ⟨h1, AV.sub_bel hyb h2, hsub h3⟩ }
  refine h ops n1 Q C' a w hd hb hn hRel fun E' H' nx' C1 a' w' hn' hR' hs hQ => hK E' H' nx' C1 a' w' hn' hR' ?_ hQ
  exact { os := hs.os, tape := hs.tape, output := hs.output, size := hs.size, keep := fun k hk hkW => hs.keep k hk (fun q => hkW (hWW k q))
          wr := fun b hb => (hs.wr b hb).imp (hWW b) id
          X := hs.X, B := hs.B, ρ := hs.ρ }
end
section
variable [Globals]
section
variable {P : Program} {ro : Option Nat} {N n0 : Nat} {Q : AQ} {E : Env} {H : Heap} {nx : Nat}
theorem awp_cellRow {c : Code} {i q t : Nat} (e sz : Nat) (hi : get H i = some (.cells t [.raw (.slice none 0 0)])) (hq : get E q = some (.ptr i 0)) (hn : nx < 1000)
    (h : AWP P ro N n0 c Q ((q, .ep nx 1 0 0) :: E) (over H ((nx, .row t 1 [.own e sz []]) :: cP [i])) (nx + 1)) : AWP P ro N n0 c Q E H nx := by
  intro C a w Qc hn0 hR hK
  have hnx : ¬ UU nx nx := fun hu => by rcases hu with hu | hu <;> omega
  obtain ⟨b, vs, hv, ho, hh, hl, hr⟩ := hR.obj i _ hi
  obtain ⟨y, rfl⟩ : ∃ y, vs = #[y] := by
    match vs, hl with
    | ⟨[y]⟩, _ => exact ⟨y, rfl⟩
  have hy : y = .slice none 0 0 := by
    have := hr 0 _ rfl
    generalize hz : (#[y] : Array Value).getD 0 undef = z at this
    have hz' : z = y := by rw [← hz]; rfl
    cases this; exact hz'.symm
  subst hy
  obtain ⟨h1, _, h3⟩ := hR.env q _ hq
  have hvq : a.tmps.getD q undef = .pointer (some ⟨b, 0, none⟩) := by
    generalize a.tmps.getD q undef = z at h3
    cases h3 with
    | ptr _ _ b' hb => rw [hv] at hb; cases hb; rfl
  have hrow : ∀ av' : Nat → Prop, cC C.ρ av' w.heap [b] (.row t 1 [.own e sz []]) (.slice (some ⟨b, 0, none⟩) 1 1) := fun av' => by
    refine ⟨?_, List.nodup_cons.2 ⟨by simp, List.nodup_nil⟩⟩
    have := RepO.own (ρ := C.ρ) (av := av') (hp := w.heap) t 1 [.own e sz []] b 1 #[.slice none 0 0] (fun _ => .slice none 0 0) (fun _ => []) hh rfl (Nat.le_refl _) (by decide) (fun j x hj => by
      match j, hj with
      | 0, hj => cases hj; exact .own0 e sz
      | j + 1, hj => simp at hj) (fun j hj => by
      have hj1 : j < 1 := hj
      have hj0 : j = 0 := by omega
      subst hj0
      refine ⟨rfl, fun k hk => ?_⟩
      have hk0 : k = 0 := by omega
      subst hk0
      rfl)
    exact this
  obtain ⟨k, hs⟩ := Rel.out (nx := nx) (v := .slice (some ⟨b, 0, none⟩) 1 1) (own := [b]) (k := [i]) (ob := .row t 1 [.own e sz []]) (w' := w) hR rfl hnx (fun j hj => by rw [List.mem_singleton.1 hj]; exact ⟨_, hi⟩) rfl rfl rfl (Nat.le_refl _) (fun _ _ _ => rfl)
    (fun b' hb' => .inl ⟨i, List.mem_singleton.2 rfl, by rw [ho]; exact hb'⟩) ⟨trivial, trivial⟩ (fun av' _ => hrow av')
  have hU : (fun j => UU nx j ∨ j = nx) = UU (nx + 1) := by rw [← eB, wK]
  rw [hU] at k
  generalize hC' : C.out nx (.slice (some ⟨b, 0, none⟩) 1 1) [b] [i] rfl = C' at k hs
  have hρ : C'.ρ nx = .slice (some ⟨b, 0, none⟩) 1 1 := by rw [← hC']; exact aZ _ _ _
  have hR2 : Rel C' N ((q, .ep nx 1 0 0) :: E) (over H ((nx, .row t 1 [.own e sz []]) :: cP [i])) (UU (nx + 1)) a w :=
    { toRelH := k.toRelH, size := k.size, hB := k.hB, nodup := k.nodup, marks := k.marks
      env := fun t' x' ht' => by
        rw [aO] at ht'
        split at ht'
        · rename_i e'
          subst e'
          cases ht'
          refine ⟨h1, .inl (by omega), ?_⟩
          rw [hvq]
          exact .ep nx 1 0 0 b (by rw [hρ]; rfl)
        exact k.env t' x' ht' }
  exact h _ a w Qc (by omega) hR2 fun e' E' H' nx' C'' a' w' hn' hR3 hs3 hQ => hK e' E' H' nx' C'' a' w' hn' hR3 ((hs.fewerNames (dM hn0)).trans (fun _ h => h) hs3) hQ
end
end
end Go.Abs
end
section
open Go Go.RowKit
namespace Go.Abs
section
variable [Globals]
theorem gives_newRow {P : Program} {f e sz : Nat} {args : List AV}
    (h : ∀ (C : Conc) (w : World) (vals : Array Value), RelH C [] (UU 0) w → cF C.ρ (C.avoid []) w.heap args vals → Calls P f vals w fun en w' => ∃ v own, en = .returned v ∧ v.oneCell' = true ∧ Below w.heap.size w w' ∧
      (∀ b, b ∈ own → w.heap.size ≤ b) ∧ own.Nodup ∧ ∀ (ρ : Nat → Value) (av : Nat → Prop), RepO ρ av w'.heap (.own e sz []) v own) : aD P f args [] 0 (.ref 0) [(0, .row e sz [])] 1 := by
  intro C w vals hR hv hab
  refine (h C w vals hR hv).mono fun en w' ⟨v, own, he, h1, hB, hown, hnd, hrep⟩ => ?_
  have hnx : ¬ UU 0 0 := UU_new (by decide)
  have hs := StepR.new (U := UU 0) hR hB.os hB.tape hB.output hB.size hB.block hnx h1 hown (.row e sz [])
  have hH := RelH.new (U := UU 0) hR hB.os hB.tape hB.output hB.size hB.block hnx h1 hown (o := .row e sz []) ⟨hrep _ _, hnd⟩ trivial
  have hU : (fun j => UU 0 j ∨ j = 0) = UU 1 := by rw [← eB, wK]
  rw [hU] at hH
  refine ⟨v, .ref 0, [(0, .row e sz [])], 1, C.new 0 v own h1, he, by omega, ⟨rfl, rfl, rfl⟩, hH, hs, ?_, .inl (by omega)⟩
  have : Rep (C.new 0 v own h1).ρ ((C.new 0 v own h1).avoid [(0, .row e sz [])]) w'.heap (.ref 0) ((C.new 0 v own h1).ρ 0) := .ref 0
  have e0 : (C.new 0 v own h1).ρ 0 = v := by show upd C.ρ 0 v 0 = v; exact aZ _ _ _
  rwa [e0] at this
end
end Go.Abs
end
section
open Go
namespace Go.Abs
section
variable [Globals]
section
variable {P : Program} {ro : Option Nat} {N n0 : Nat} {E : Env} {H : Heap} {nx : Nat}
end
end
end Go.Abs
end
section
namespace Go.Plain
section
variable {a b x y z i j m : Nat} {σ τ : Nat → Nat}
def swp (σ : Nat → Nat) (i j : Nat) : Nat → Nat := fun k => if k = i then σ j else if k = j then σ i else σ k
def rot (σ : Nat → Nat) (a m b : Nat) : Nat → Nat := fun k => if a ≤ k ∧ k < a + (b - m) then σ (k + (m - a)) else if a + (b - m) ≤ k ∧ k < b then σ (k - (b - m)) else σ k
def cM (a b : Nat) (σ σ' : Nat → Nat) : Prop :=
  ∃ p q : Nat → Nat, (∀ k, σ' k = σ (p k)) ∧ (∀ k, p (q k) = k) ∧ (∀ k, q (p k) = k) ∧ (∀ k, a ≤ k → k < b → a ≤ p k ∧ p k < b) ∧ (∀ k, (k < a ∨ b ≤ k) → p k = k)
theorem cM.refl (a b : Nat) (σ : Nat → Nat) : cM a b σ σ := ⟨id, id, fun _ => rfl, fun _ => rfl, fun _ => rfl, fun _ h1 h2 => ⟨h1, h2⟩, fun _ _ => rfl⟩
theorem cM.trans {σ τ υ : Nat → Nat} (h : cM a b σ τ) (h' : cM a b τ υ) : cM a b σ υ := by
  obtain ⟨p, q, h1, h2, h3, h4, h5⟩ := h
  obtain ⟨p', q', k1, k2, k3, k4, k5⟩ := h'
  refine ⟨fun k => p (p' k), fun k => q' (q k), fun k => by rw [k1, h1], fun k => by simp only [k2, h2], fun k => by simp only [h3, k3], fun k ha hb => ?_, fun k hk => by simp only [k5 k hk, h5 k hk]⟩
  have := k4 k ha hb
  exact h4 _ this.1 this.2
theorem cM.wide {a b a' b' : Nat} (h : cM a b σ τ) (ha : a' ≤ a) (hb : b ≤ b') : cM a' b' σ τ := by
  obtain ⟨p, q, h1, h2, h3, h4, h5⟩ := h
  refine ⟨p, q, h1, h2, h3, fun k h6 h7 => ?_, fun k hk => h5 k (by omega)⟩
  by_cases hk : k < a ∨ b ≤ k
  · rw [h5 k hk]; exact ⟨h6, h7⟩
  have := h4 k (by omega) (by omega)
  omega
theorem cM.all (h : cM a b σ τ) {φ : Nat → Prop} (hφ : ∀ k, a ≤ k → k < b → φ (σ k)) : ∀ k, a ≤ k → k < b → φ (τ k) := by
  obtain ⟨p, q, h1, h2, h3, h4, h5⟩ := h
  intro k ha hb; rw [h1]
  exact hφ _ (h4 k ha hb).1 (h4 k ha hb).2
theorem cM.out (h : cM a b σ τ) {k : Nat} (hk : k < a ∨ b ≤ k) : τ k = σ k := by
  obtain ⟨p, q, h1, h2, h3, h4, h5⟩ := h
  rw [h1, h5 k hk]
theorem cM.swp (σ : Nat → Nat) (hi : a ≤ i ∧ i < b) (hj : a ≤ j ∧ j < b) : cM a b σ (swp σ i j) := by
  refine ⟨fun k => if k = i then j else if k = j then i else k, fun k => if k = i then j else if k = j then i else k, fun k => ?_, fun k => ?_, fun k => ?_, fun k h1 h2 => ?_, fun k hk => ?_⟩
  · unfold Plain.swp
    by_cases h1 : k = i
    · simp [h1]
    by_cases h2 : k = j
    · subst h2; simp only [if_neg h1, if_true]
    simp [h1, h2]
  · simp only
    split <;> split <;> (try split) <;> omega
  · simp only
    split <;> split <;> (try split) <;> omega
  · simp only
    split <;> (try split) <;> omega
  simp only
  split <;> (try split) <;> omega
theorem cM.rot (σ : Nat → Nat) (h1 : a ≤ m) (h2 : m ≤ b) : cM a b σ (rot σ a m b) := by
  refine ⟨fun k => if a ≤ k ∧ k < a + (b - m) then k + (m - a) else if a + (b - m) ≤ k ∧ k < b then k - (b - m) else k, fun k => if a ≤ k ∧ k < m then k + (b - m) else if m ≤ k ∧ k < b then k - (m - a) else k, fun k => ?_, fun k => ?_, fun k => ?_, fun k h3 h4 => ?_, fun k hk => ?_⟩
  · unfold Plain.rot
    simp only
    split
    · rfl
    split <;> rfl
  · simp only
    split <;> split <;> (try split) <;> (try split) <;> omega
  · simp only
    split <;> split <;> (try split) <;> (try split) <;> omega
  · simp only
    split <;> (try split) <;> omega
  simp only
  split <;> (try split) <;> omega
section
variable (l : Nat → Nat → Bool)
def bK (x y : Nat) : Prop := l x y = true ∨ (l y x = false ∧ x < y)
structure Orders : Prop where
  irrefl : ∀ x, l x x = false
  trans : ∀ x y z, l x y = true → l y z = true → l x z = true
  neg : ∀ x y z, l x y = false → l y z = false → l x z = false
variable {l}
theorem Orders.asymm (h : Orders l) (h1 : l x y = true) : l y x = false := by
  cases h2 : l y x with
  | false => rfl
  | true => have := h.trans x y x h1 h2; rw [h.irrefl] at this; cases this
theorem bK.trans (h : Orders l) (h1 : bK l x y) (h2 : bK l y z) : bK l x z := by
  rcases h1 with h1 | ⟨h1, h1'⟩ <;> rcases h2 with h2 | ⟨h2, h2'⟩
  · exact .inl (h.trans _ _ _ h1 h2)
  · left
    cases hxz : l x z with
    | true => rfl
    | false =>
      have h3 := h.neg x z y hxz h2
      rw [h1] at h3; cases h3
  · left
    cases hxz : l x z with
    | true => rfl
    | false =>
      have h3 := h.neg y x z h1 hxz
      rw [h2] at h3; cases h3
  exact .inr ⟨h.neg _ _ _ h2 h1, by omega⟩
theorem bK.irrefl (h : Orders l) : ¬ bK l x x := by
  rintro (h1 | ⟨_, h1⟩)
  · rw [h.irrefl] at h1; cases h1
  omega
variable (l)
def Sor (σ : Nat → Nat) (a b : Nat) : Prop := ∀ i j, a ≤ i → i < j → j < b → bK l (σ i) (σ j)
def xA (a : Nat) : Nat → (Nat → Nat) → (Nat → Nat)
  | 0, σ => σ
  | j + 1, σ => if a < j + 1 ∧ l (σ (j + 1)) (σ j) = true then xA a j (swp σ (j + 1) j) else σ
def vZ (a : Nat) : Nat → Nat → (Nat → Nat) → (Nat → Nat)
  | 0, _, σ => σ
  | c + 1, i, σ => vZ a c (i + 1) (xA l a i σ)
def eO (σ : Nat → Nat) (a b : Nat) : Nat → Nat := vZ l a (b - (a + 1)) (a + 1) σ
variable {l}
theorem sink_ok (ho : Orders l) (a i b : Nat) (hib : i < b) : ∀ (j : Nat) (σ : Nat → Nat), a ≤ j → j ≤ i → Sor l σ a j → (∀ u v, a ≤ u → u < j → j < v → v ≤ i → bK l (σ u) (σ v)) → (∀ u v, j < u → u < v → v ≤ i → bK l (σ u) (σ v)) →
    (∀ v, j < v → v ≤ i → bK l (σ j) (σ v)) → (∀ u, a ≤ u → u < j → σ u < σ j) → cM a b σ (xA l a j σ) ∧ Sor l (xA l a j σ) a (i + 1)
  | 0, σ, haj, hji, h1, h2, h3, h4, h5 => by
    refine ⟨.refl a b σ, fun u v hu huv hv => ?_⟩
    by_cases e : u = 0
    · subst e; exact h4 v huv (by omega)
    exact h3 u v (by omega) huv (by omega)
  | j + 1, σ, haj, hji, h1, h2, h3, h4, h5 => by
    unfold xA; split
    · rename_i hc
      have s0 : ∀ k, swp σ (j + 1) j k = if k = j + 1 then σ j else if k = j then σ (j + 1) else σ k := fun _ => rfl
      have hs := sink_ok ho a i b hib j (swp σ (j + 1) j) (by omega) (by omega) (fun u v hu huv hv => ?_) (fun u v hu huj hjv hv => ?_) (fun u v hu huv hv => ?_) (fun v hv hvi => ?_) (fun u hu huj => ?_)
      · exact ⟨(cM.swp σ (by omega) (by omega)).trans hs.1, hs.2⟩
      · simp only [s0, if_neg (show u ≠ j + 1 by omega), if_neg (show u ≠ j by omega), if_neg (show v ≠ j + 1 by omega), if_neg (show v ≠ j by omega)]
        exact h1 u v hu huv (by omega)
      · simp only [s0, if_neg (show u ≠ j + 1 by omega), if_neg (show u ≠ j by omega), if_neg (show v ≠ j by omega)]; split
        · exact h1 u j hu (by omega) (by omega)
        exact h2 u v hu (by omega) (by omega) (by omega)
      · simp only [s0, if_neg (show u ≠ j by omega), if_neg (show v ≠ j by omega), if_neg (show v ≠ j + 1 by omega)]; split
        · exact h2 j v (by omega) (by omega) (by omega) (by omega)
        exact h3 u v (by omega) huv hv
      · simp only [s0, if_neg (show j ≠ j + 1 by omega), if_true, if_neg (show v ≠ j by omega)]; split
        · exact .inl hc.2
        exact h4 v (by omega) hvi
      simp only [s0, if_neg (show u ≠ j + 1 by omega), if_neg (show u ≠ j by omega), if_neg (show j ≠ j + 1 by omega), if_true]
      exact h5 u hu (by omega)
    rename_i hc
    refine ⟨.refl a b σ, fun u v hu huv hv => ?_⟩
    rcases Nat.lt_trichotomy v (j + 1) with hv1 | hv1 | hv1
    · exact h1 u v hu huv hv1
    · subst hv1
      by_cases ha : a = j + 1
      · omega
      have hl : l (σ (j + 1)) (σ j) = false := by
        cases hx : l (σ (j + 1)) (σ j) with
        | false => rfl
        | true => exact absurd ⟨by omega, hx⟩ hc
      have hjj : bK l (σ j) (σ (j + 1)) := .inr ⟨hl, h5 j (by omega) (by omega)⟩
      by_cases e : u = j
      · subst e; exact hjj
      exact (h1 u j hu (by omega) (by omega)).trans ho hjj
    rcases Nat.lt_trichotomy u (j + 1) with hu1 | hu1 | hu1
    · exact h2 u v hu hu1 hv1 (by omega)
    · subst hu1; exact h4 v hv1 (by omega)
    exact h3 u v hu1 huv (by omega)
theorem insGo_ok (ho : Orders l) (a b : Nat) : ∀ (c i : Nat) (σ : Nat → Nat), a < i → i + c = b → Sor l σ a i → (∀ u v, a ≤ u → u < v → i ≤ v → v < b → σ u < σ v) → cM a b σ (vZ l a c i σ) ∧ Sor l (vZ l a c i σ) a b
  | 0, i, σ, ha, hb, h1, h2 => ⟨.refl a b σ, (show i = b by omega) ▸ h1⟩
  | c + 1, i, σ, ha, hb, h1, h2 => by
    unfold vZ
    obtain ⟨k1, k2⟩ := sink_ok ho a i (i + 1) (by omega) i σ (by omega) (Nat.le_refl _) h1 (fun u v _ _ h3 h4 => by omega) (fun u v h3 h4 h5 => by omega) (fun v h3 h4 => by omega) (fun u hu hui => h2 u i hu hui (Nat.le_refl _) (by omega))
    have hr := insGo_ok ho a b c (i + 1) (xA l a i σ) (by omega) (by omega) k2 (fun u v hu huv hiv hv => by
      rw [k1.out (k := v) (by omega)]
      by_cases hu1 : u < i + 1
      · exact k1.all (φ := fun x => x < σ v) (fun k hk1 hk2 => h2 k v hk1 (by omega) (by omega) hv) u hu hu1
      rw [k1.out (k := u) (by omega)]
      exact h2 u v hu huv (by omega) hv)
    exact ⟨(k1.wide (Nat.le_refl _) (by omega)).trans hr.1, hr.2⟩
theorem insertS_ok (ho : Orders l) (hab : a < b) (h : ∀ u v, a ≤ u → u < v → v < b → σ u < σ v) : cM a b σ (eO l σ a b) ∧ Sor l (eO l σ a b) a b :=
  insGo_ok ho a b _ (a + 1) σ (by omega) (by omega) (fun u v h1 h2 h3 => by omega) (fun u v h1 h2 h3 h4 => h u v h1 h2 h4)
def eR (t : Nat → Bool) : Nat → Nat → Nat → Nat
  | 0, s, _ => s
  | f + 1, s, r => if s < r then (if t ((s + r) / 2) = true then eR t f s ((s + r) / 2) else eR t f ((s + r) / 2 + 1) r) else s
theorem bsGo_ok (t : Nat → Bool) (s0 r0 : Nat) : ∀ (f s r : Nat), r - s ≤ f → s ≤ r → s0 ≤ s → r ≤ r0 → (s = s0 ∨ t (s - 1) = false) → (r = r0 ∨ t r = true) →
    s0 ≤ eR t f s r ∧ eR t f s r ≤ r0 ∧ (eR t f s r = s0 ∨ t (eR t f s r - 1) = false) ∧ (eR t f s r = r0 ∨ t (eR t f s r) = true)
  | 0, s, r, hf, hsr, h0, h1, h2, h3 => by
    have : s = r := by omega
    subst this
    exact ⟨h0, h1, h2, h3⟩
  | f + 1, s, r, hf, hsr, h0, h1, h2, h3 => by
    unfold eR; split
    · split
      · rename_i ht
        exact bsGo_ok t s0 r0 f s _ (by omega) (by omega) h0 (by omega) h2 (.inr ht)
      rename_i ht
      exact bsGo_ok t s0 r0 f _ r (by omega) (by omega) (by omega) h1 (.inr (by simpa using ht)) h3
    have : s = r := by omega
    subst this
    exact ⟨h0, h1, h2, h3⟩
theorem bs_ok (t : Nat → Bool) {f s r : Nat} (hf : r - s ≤ f) (hsr : s ≤ r) : s ≤ eR t f s r ∧ eR t f s r ≤ r ∧ (eR t f s r = s ∨ t (eR t f s r - 1) = false) ∧ (eR t f s r = r ∨ t (eR t f s r) = true) :=
  bsGo_ok t s r f s r hf hsr (Nat.le_refl _) (Nat.le_refl _) (.inl rfl) (.inl rfl)
variable (l)
def gI (σ : Nat → Nat) (a m b : Nat) : Nat :=
  eR (fun c => l (σ ((a + b) / 2 + m - 1 - c)) (σ c)) b (if (a + b) / 2 < m then (a + b) / 2 + m - b else a) (if (a + b) / 2 < m then (a + b) / 2 else m)
def iW : Nat → (Nat → Nat) → Nat → Nat → Nat → (Nat → Nat)
  | 0, σ, _, _, _ => σ
  | f + 1, σ, a, m, b =>
    if m - a = 1 then rot σ a m (eR (fun h => !l (σ h) (σ a)) b m b)
    else if b - m = 1 then rot σ (eR (fun h => l (σ m) (σ h)) m a m) m b
    else
      let mid := (a + b) / 2
      let st := gI l σ a m b
      let en := mid + m - st
      let σ1 := if st < m ∧ m < en then rot σ st m en else σ
      let σ2 := if a < st ∧ st < mid then iW f σ1 a st mid else σ1
      if mid < en ∧ en < b then iW f σ2 mid en b else σ2
variable {l}
theorem symCut_ok (h1 : a < m) (h2 : m < b) : a ≤ gI l σ a m b ∧ gI l σ a m b ≤ m ∧ gI l σ a m b ≤ (a + b) / 2 ∧ m ≤ (a + b) / 2 + m - gI l σ a m b ∧ (a + b) / 2 + m - gI l σ a m b ≤ b ∧
    (a < gI l σ a m b → (a + b) / 2 + m - gI l σ a m b < b → l (σ ((a + b) / 2 + m - gI l σ a m b)) (σ (gI l σ a m b - 1)) = false) ∧
    (gI l σ a m b < m → m < (a + b) / 2 + m - gI l σ a m b → l (σ ((a + b) / 2 + m - gI l σ a m b - 1)) (σ (gI l σ a m b)) = true) := by
  have hs : gI l σ a m b = eR (fun c => l (σ ((a + b) / 2 + m - 1 - c)) (σ c)) b (if (a + b) / 2 < m then (a + b) / 2 + m - b else a) (if (a + b) / 2 < m then (a + b) / 2 else m) := rfl
  have hb := bs_ok (fun c => l (σ ((a + b) / 2 + m - 1 - c)) (σ c)) (f := b) (s := if (a + b) / 2 < m then (a + b) / 2 + m - b else a) (r := if (a + b) / 2 < m then (a + b) / 2 else m) (by split <;> omega) (by split <;> omega)
  rw [← hs] at hb
  generalize gI l σ a m b = c at hb ⊢
  obtain ⟨b1, b2, b3, b4⟩ := hb
  have b1' : a ≤ c := by split at b1 <;> omega
  have b2' : c ≤ m ∧ c ≤ (a + b) / 2 := by split at b2 <;> omega
  refine ⟨b1', b2'.1, b2'.2, by omega, by split at b1 <;> omega, fun h3 h4 => ?_, fun h3 h4 => ?_⟩
  · rcases b3 with b3 | b3
    · split at b3 <;> omega
    have e : (a + b) / 2 + m - 1 - (c - 1) = (a + b) / 2 + m - c := by omega
    simp only [e] at b3
    exact b3
  rcases b4 with b4 | b4
  · split at b4 <;> omega
  have e : (a + b) / 2 + m - 1 - c = (a + b) / 2 + m - c - 1 := by omega
  simp only [e] at b4
  exact b4
theorem Sor.le (h : Sor l σ a b) (hi : a ≤ i) (hij : i ≤ j) (hj : j < b) : σ i = σ j ∨ bK l (σ i) (σ j) := by
  by_cases e : i = j
  · subst e; exact .inl rfl
  exact .inr (h i j hi (by omega) hj)
theorem bK.l1 (ho : Orders l) (h1 : x = y ∨ bK l x y) (h2 : bK l y z) : bK l x z := by
  rcases h1 with h1 | h1
  · rw [h1]; exact h2
  exact h1.trans ho h2
theorem bK.l2 (ho : Orders l) (h1 : bK l x y) (h2 : y = z ∨ bK l y z) : bK l x z := by
  rcases h2 with h2 | h2
  · rw [← h2]; exact h1
  exact h1.trans ho h2
theorem symM_ok (ho : Orders l) : ∀ (f : Nat) (σ : Nat → Nat) (a m b : Nat), b - a ≤ f → a < m → m < b → Sor l σ a m → Sor l σ m b → (∀ i j, a ≤ i → i < m → m ≤ j → j < b → σ i < σ j) → cM a b σ (iW l f σ a m b) ∧ Sor l (iW l f σ a m b) a b
  | 0, σ, a, m, b, hf, h1, h2, _, _, _ => by omega
  | f + 1, σ, a, m, b, hf, h1, h2, hL, hR, hX => by
    unfold iW; split
    · rename_i hma
      have hm : m = a + 1 := by omega
      obtain ⟨b1, b2, b3, b4⟩ := bs_ok (fun h => !l (σ h) (σ a)) (f := b) (s := m) (r := b) (by omega) (by omega)
      generalize eR (fun h => !l (σ h) (σ a)) b m b = e at b1 b2 b3 b4
      refine ⟨(cM.rot σ (by omega) b1).wide (Nat.le_refl _) b2, ?_⟩
      have lo : ∀ j, m ≤ j → j < e → bK l (σ j) (σ a) := fun j hj1 hj2 => by
        have h9 : l (σ (e - 1)) (σ a) = true := by
          rcases b3 with b3 | b3
          · omega
          simpa using b3
        exact bK.l1 ho (hR.le hj1 (by omega) (by omega)) (.inl h9)
      have hi : ∀ j, e ≤ j → j < b → bK l (σ a) (σ j) := fun j hj1 hj2 => by
        have h9 : l (σ e) (σ a) = false := by
          rcases b4 with b4 | b4
          · omega
          simpa using b4
        exact bK.l2 ho (.inr ⟨h9, hX a e (Nat.le_refl _) h1 b1 (by omega)⟩) (hR.le b1 hj1 hj2)
      intro i j hi1 hij hjb; unfold rot; subst hm
      have q1 : ∀ k, a ≤ k → k < e - 1 → (a ≤ k ∧ k < a + (e - (a + 1))) := fun k _ _ => by omega
      rcases Nat.lt_trichotomy j (e - 1) with hj | hj | hj
      · rw [if_pos (q1 i hi1 (by omega)), if_pos (q1 j (by omega) hj)]
        exact hR _ _ (by omega) (by omega) (by omega)
      · rw [if_pos (q1 i hi1 (by omega)), if_neg (by omega), if_pos (by omega)]
        have : j - (e - (a + 1)) = a := by omega
        rw [this]
        exact lo _ (by omega) (by omega)
      rw [if_neg (show ¬ (a ≤ j ∧ j < a + (e - (a + 1))) by omega), if_neg (show ¬ (a + (e - (a + 1)) ≤ j ∧ j < e) by omega)]
      rcases Nat.lt_trichotomy i (e - 1) with hi2 | hi2 | hi2
      · rw [if_pos (q1 i hi1 hi2)]
        exact hR _ _ (by omega) (by omega) hjb
      · rw [if_neg (by omega), if_pos (by omega)]
        have : i - (e - (a + 1)) = a := by omega
        rw [this]
        exact hi _ (by omega) hjb
      rw [if_neg (by omega), if_neg (by omega)]
      exact hR _ _ (by omega) hij hjb
    split
    · rename_i hn hbm
      have hb : b = m + 1 := by omega
      obtain ⟨b1, b2, b3, b4⟩ := bs_ok (fun h => l (σ m) (σ h)) (f := m) (s := a) (r := m) (by omega) (by omega)
      generalize eR (fun h => l (σ m) (σ h)) m a m = e at b1 b2 b3 b4
      refine ⟨(cM.rot σ b2 (by omega)).wide b1 (Nat.le_refl _), ?_⟩
      have lo : ∀ j, a ≤ j → j < e → bK l (σ j) (σ m) := fun j hj1 hj2 => by
        have h9 : l (σ m) (σ (e - 1)) = false := by
          rcases b3 with b3 | b3
          · omega
          exact b3
        exact bK.l1 ho (hL.le hj1 (show j ≤ e - 1 by omega) (by omega)) (.inr ⟨h9, hX (e - 1) m (by omega) (by omega) (Nat.le_refl _) h2⟩)
      have hi : ∀ j, e ≤ j → j < m → bK l (σ m) (σ j) := fun j hj1 hj2 => by
        have h9 : l (σ m) (σ e) = true := by
          rcases b4 with b4 | b4
          · omega
          exact b4
        exact bK.l2 ho (.inl h9) (hL.le b1 hj1 hj2)
      intro i j hi1 hij hjb; unfold rot; subst hb
      rcases Nat.lt_trichotomy i e with hi2 | hi2 | hi2
      · rw [if_neg (show ¬ (e ≤ i ∧ i < e + (m + 1 - m)) by omega), if_neg (show ¬ (e + (m + 1 - m) ≤ i ∧ i < m + 1) by omega)]
        rcases Nat.lt_trichotomy j e with hj2 | hj2 | hj2
        · rw [if_neg (by omega), if_neg (by omega)]; exact hL _ _ hi1 hij (by omega)
        · rw [if_pos (by omega)]
          have : j + (m - e) = m := by omega
          rw [this]; exact lo _ hi1 hi2
        rw [if_neg (by omega), if_pos (by omega)]; exact hL _ _ hi1 (by omega) (by omega)
      · rw [if_pos (show e ≤ i ∧ i < e + (m + 1 - m) by omega), if_neg (by omega), if_pos (by omega)]
        have : i + (m - e) = m := by omega
        rw [this]; exact hi _ (by omega) (by omega)
      rw [if_neg (show ¬ (e ≤ i ∧ i < e + (m + 1 - m)) by omega), if_pos (show e + (m + 1 - m) ≤ i ∧ i < m + 1 by omega), if_neg (by omega), if_pos (by omega)]
      exact hL _ _ (by omega) (by omega) (by omega)
    rename_i hn1 hn2
    obtain ⟨c1, c2, c3, c4, c5, c6, c7⟩ := symCut_ok (l := l) (σ := σ) h1 h2
    generalize gI l σ a m b = st at c1 c2 c3 c4 c5 c6 c7
    simp only
    generalize hen : (a + b) / 2 + m - st = en at c4 c5 c6 c7
    generalize hmid : (a + b) / 2 = mid at c3 hen
    have hstep : st + (en - m) = mid := by omega
    have e1 : ∀ k, (if st < m ∧ m < en then rot σ st m en else σ) k = if st ≤ k ∧ k < mid then σ (k + (m - st)) else if mid ≤ k ∧ k < en then σ (k - (en - m)) else σ k := fun k => by
      split
      · unfold rot; rw [hstep]
      rename_i hc
      by_cases hs : st = m
      · subst hs; split
        · rw [Nat.sub_self, Nat.add_zero]
        split
        · omega
        rfl
      have : en = m := by omega
      subst this; split
      · omega
      split
      · rw [Nat.sub_self, Nat.sub_zero]
      rfl
    have r1 : cM a b σ (if st < m ∧ m < en then rot σ st m en else σ) := by
      split
      · exact (cM.rot σ c2 c4).wide c1 c5
      exact .refl a b σ
    generalize (if st < m ∧ m < en then rot σ st m en else σ) = σ1 at e1 r1
    have x1 : ∀ i j, a ≤ i → i < mid → mid ≤ j → j < b → bK l (σ1 i) (σ1 j) := by
      intro i j hi1 hi2 hj1 hj2; rw [e1 i, e1 j, if_neg (show ¬ (st ≤ j ∧ j < mid) by omega)]
      by_cases hi3 : st ≤ i
      · rw [if_pos ⟨hi3, hi2⟩]
        by_cases hj3 : j < en
        · rw [if_pos ⟨hj1, hj3⟩]
          have h9 := c7 (by omega) (by omega)
          exact bK.l1 ho (hR.le (by omega) (show i + (m - st) ≤ en - 1 by omega) (by omega)) (bK.l2 ho (.inl h9) (hL.le c1 (show st ≤ j - (en - m) by omega) (by omega)))
        rw [if_neg (by omega)]
        exact hR _ _ (by omega) (by omega) hj2
      rw [if_neg (by omega), if_neg (show ¬ (mid ≤ i ∧ i < en) by omega)]
      by_cases hj3 : j < en
      · rw [if_pos ⟨hj1, hj3⟩]
        exact hL _ _ hi1 (by omega) (by omega)
      rw [if_neg (by omega)]
      have h9 := c6 (by omega) (by omega)
      exact bK.l1 ho (hL.le hi1 (show i ≤ st - 1 by omega) (by omega)) (bK.l2 ho (.inr ⟨h9, hX _ _ (by omega) (by omega) c4 (by omega)⟩) (hR.le c4 (show en ≤ j by omega) hj2))
    have s1 : Sor l σ1 a st := fun i j hi hij hj => by
      rw [e1 i, e1 j, if_neg (by omega), if_neg (by omega), if_neg (by omega), if_neg (by omega)]
      exact hL i j hi hij (by omega)
    have s2 : Sor l σ1 st mid := fun i j hi hij hj => by
      rw [e1 i, e1 j, if_pos ⟨hi, by omega⟩, if_pos ⟨by omega, hj⟩]
      exact hR _ _ (by omega) (by omega) (by omega)
    have s3 : Sor l σ1 mid en := fun i j hi hij hj => by
      rw [e1 i, e1 j, if_neg (by omega), if_pos ⟨hi, by omega⟩, if_neg (by omega), if_pos ⟨by omega, hj⟩]
      exact hL _ _ (by omega) (by omega) (by omega)
    have s4 : Sor l σ1 en b := fun i j hi hij hj => by
      rw [e1 i, e1 j, if_neg (by omega), if_neg (by omega), if_neg (by omega), if_neg (by omega)]
      exact hR i j (by omega) hij hj
    have x2 : ∀ i j, a ≤ i → i < st → st ≤ j → j < mid → σ1 i < σ1 j := fun i j hi hi2 hj hj2 => by
      rw [e1 i, e1 j, if_neg (by omega), if_neg (by omega), if_pos ⟨hj, hj2⟩]
      exact hX _ _ hi (by omega) (by omega) (by omega)
    have x3 : ∀ i j, mid ≤ i → i < en → en ≤ j → j < b → σ1 i < σ1 j := fun i j hi hi2 hj hj2 => by
      rw [e1 i, e1 j, if_neg (by omega), if_pos ⟨hi, hi2⟩, if_neg (by omega), if_neg (by omega)]
      exact hX _ _ (by omega) (by omega) (by omega) hj2
    have L : cM a mid σ1 (if a < st ∧ st < mid then iW l f σ1 a st mid else σ1) ∧ Sor l (if a < st ∧ st < mid then iW l f σ1 a st mid else σ1) a mid := by
      split
      · rename_i hc
        exact symM_ok ho f σ1 a st mid (by omega) hc.1 hc.2 s1 s2 x2
      refine ⟨.refl _ _ _, ?_⟩
      by_cases hc : a = st
      · rw [hc]; exact s2
      have : st = mid := by omega
      rw [← this]; exact s1
    generalize (if a < st ∧ st < mid then iW l f σ1 a st mid else σ1) = σ2 at L
    have out2 : ∀ k, mid ≤ k → σ2 k = σ1 k := fun k hk => L.1.out (.inr hk)
    have R : cM mid b σ2 (if mid < en ∧ en < b then iW l f σ2 mid en b else σ2) ∧ Sor l (if mid < en ∧ en < b then iW l f σ2 mid en b else σ2) mid b := by
      have t3 : Sor l σ2 mid en := fun i j hi hij hj => by rw [out2 i hi, out2 j (by omega)]; exact s3 i j hi hij hj
      have t4 : Sor l σ2 en b := fun i j hi hij hj => by rw [out2 i (by omega), out2 j (by omega)]; exact s4 i j hi hij hj
      split
      · rename_i hc
        exact symM_ok ho f σ2 mid en b (by omega) hc.1 hc.2 t3 t4 fun i j hi hi2 hj hj2 => by rw [out2 i hi, out2 j (by omega)]; exact x3 i j hi hi2 hj hj2
      refine ⟨.refl _ _ _, ?_⟩
      by_cases hc : mid = en
      · rw [hc]; exact t4
      have : en = b := by omega
      rw [← this]; exact t3
    generalize (if mid < en ∧ en < b then iW l f σ2 mid en b else σ2) = σ3 at R
    refine ⟨(r1.trans (L.1.wide (Nat.le_refl _) (by omega))).trans (R.1.wide (by omega) (Nat.le_refl _)), fun i j hi hij hj => ?_⟩
    by_cases hj2 : j < mid
    · rw [R.1.out (.inl hj2), R.1.out (.inl (by omega))]
      exact L.2 i j hi hij hj2
    by_cases hi2 : mid ≤ i
    · exact R.2 i j hi2 hij hj
    rw [R.1.out (k := i) (.inl (by omega))]
    refine R.1.all (φ := fun x => bK l (σ2 i) x) (fun k hk1 hk2 => ?_) j (by omega) hj
    rw [out2 k hk1]
    exact L.1.all (φ := fun x => bK l x (σ1 k)) (fun k' hk1' hk2' => x1 k' k hk1' hk2' hk1 hk2) i hi (by omega)
end
end
section
variable {σ : Nat → Nat} {a b : Nat}
section
variable (l : Nat → Nat → Bool)
def jR (n bs : Nat) : Nat → (Nat → Nat) → Nat → (Nat → Nat) × Nat
  | 0, σ, a => (σ, a)
  | f + 1, σ, a => if a + bs ≤ n then jR n bs f (eO l σ a (a + bs)) (a + bs) else (σ, a)
def lY (n bs : Nat) : Nat → (Nat → Nat) → Nat → (Nat → Nat) × Nat
  | 0, σ, a => (σ, a)
  | f + 1, σ, a => if a + 2 * bs ≤ n then lY n bs f (iW l n σ a (a + bs) (a + 2 * bs)) (a + 2 * bs) else (σ, a)
def mK (n bs : Nat) (p : (Nat → Nat) × Nat) : Nat → Nat := if p.2 + bs < n then iW l n p.1 p.2 (p.2 + bs) n else p.1
def lH (n : Nat) : Nat → Nat → (Nat → Nat) → (Nat → Nat)
  | 0, _, σ => σ
  | f + 1, bs, σ => if bs < n then lH n f (2 * bs) (mK l n bs (lY l n bs n σ 0)) else σ
def stab (n : Nat) : Nat → Nat := lH l n n 20 (eO l (jR l n 20 n id 0).1 (jR l n 20 n id 0).2 n)
def Bl (σ : Nat → Nat) (c d : Nat) : Prop := Sor l σ c d ∧ ∀ k, c ≤ k → k < d → c ≤ σ k ∧ σ k < d
variable {l}
theorem Bl.out {σ τ : Nat → Nat} {c d a b : Nat} (h : Bl l σ c d) (hr : cM a b σ τ) (hd : d ≤ a ∨ b ≤ c) : Bl l τ c d :=
  ⟨fun i j hi hij hj => by rw [hr.out (by omega), hr.out (by omega)]; exact h.1 i j hi hij hj, fun k h1 h2 => by rw [hr.out (by omega)]; exact h.2 k h1 h2⟩
theorem Bl.merge (ho : Orders l) {a m b f : Nat} (hf : b - a ≤ f) (h1 : a < m) (h2 : m < b) (hl : Bl l σ a m) (hr : Bl l σ m b) : cM a b σ (iW l f σ a m b) ∧ Bl l (iW l f σ a m b) a b := by
  obtain ⟨k1, k2⟩ := symM_ok ho f σ a m b hf h1 h2 hl.1 hr.1 fun i j h3 h4 h5 h6 => by
    have := (hl.2 i h3 h4).2
    have := (hr.2 j h5 h6).1
    omega
  refine ⟨k1, k2, fun k hk1 hk2 => k1.all (φ := fun x => a ≤ x ∧ x < b) (fun k h3 h4 => ?_) k hk1 hk2⟩
  by_cases hm : k < m
  · have := hl.2 k h3 hm; omega
  have := hr.2 k (by omega) h4; omega
theorem Bl.insert (ho : Orders l) (hab : a ≤ b) (h : ∀ k, a ≤ k → k < b → σ k = k) : cM a b σ (eO l σ a b) ∧ Bl l (eO l σ a b) a b := by
  by_cases e : a = b
  · subst e
    have : eO l σ a a = σ := by unfold eO; rw [show a - (a + 1) = 0 by omega]; rfl
    rw [this]
    exact ⟨.refl _ _ _, fun i j h1 h2 h3 => by omega, fun k h1 h2 => by omega⟩
  obtain ⟨k1, k2⟩ := insertS_ok ho (σ := σ) (a := a) (b := b) (by omega) (fun u v h1 h2 h3 => by rw [h u h1 (by omega), h v (by omega) h3]; exact h2)
  exact ⟨k1, k2, k1.all (φ := fun x => a ≤ x ∧ x < b) fun k h1 h2 => by rw [h k h1 h2]; exact ⟨h1, h2⟩⟩
theorem blkGo_ok (ho : Orders l) (n bs : Nat) (hbs : 0 < bs) : ∀ (f : Nat) (σ : Nat → Nat) (q : Nat), n ≤ f + q * bs → q * bs ≤ n → cM 0 n id σ → (∀ k, q * bs ≤ k → σ k = k) → (∀ r, r < q → Bl l σ (r * bs) (r * bs + bs)) →
    ∃ q', (jR l n bs f σ (q * bs)).2 = q' * bs ∧ q' * bs ≤ n ∧ n < q' * bs + bs ∧ cM 0 n id (jR l n bs f σ (q * bs)).1 ∧ (∀ k, q' * bs ≤ k → (jR l n bs f σ (q * bs)).1 k = k) ∧ ∀ r, r < q' → Bl l (jR l n bs f σ (q * bs)).1 (r * bs) (r * bs + bs)
  | 0, σ, q, hf, hq, h1, h2, h3 => ⟨q, rfl, hq, by omega, h1, h2, h3⟩
  | f + 1, σ, q, hf, hq, h1, h2, h3 => by
    unfold jR; split
    · rename_i hc
      obtain ⟨k1, k2⟩ := Bl.insert ho (σ := σ) (a := q * bs) (b := q * bs + bs) (by omega) (fun k hk1 _ => h2 k hk1)
      have e : q * bs + bs = (q + 1) * bs := by rw [Nat.succ_mul]
      rw [e] at k1 k2 hc ⊢
      refine blkGo_ok ho n bs hbs f _ (q + 1) (by rw [← e]; omega) hc (h1.trans (k1.wide (Nat.zero_le _) hc)) (fun k hk => by rw [k1.out (.inr hk)]; exact h2 k (by omega)) fun r hr => ?_
      by_cases hrq : r = q
      · subst hrq; rw [e]; exact k2
      have : (r + 1) * bs ≤ q * bs := Nat.mul_le_mul_right bs (by omega)
      rw [Nat.succ_mul] at this
      exact (h3 r (by omega)).out k1 (.inl (by omega))
    rename_i hc
    exact ⟨q, rfl, hq, by omega, h1, h2, h3⟩
def Bls (l : Nat → Nat → Bool) (n bs : Nat) (σ : Nat → Nat) : Prop := cM 0 n id σ ∧ ∀ r, r * bs < n → Bl l σ (r * bs) (min (r * bs + bs) n)
theorem first_ok (ho : Orders l) (n bs : Nat) (hbs : 0 < bs) : Bls l n bs (eO l (jR l n bs n id 0).1 (jR l n bs n id 0).2 n) := by
  obtain ⟨q, e1, e2, e3, e4, e5, e6⟩ := blkGo_ok ho n bs hbs n id 0 (by omega) (by omega) (.refl _ _ _) (fun _ _ => rfl) (fun r hr => by omega)
  rw [Nat.zero_mul] at e1 e4 e5 e6
  rw [e1]
  obtain ⟨k1, k2⟩ := Bl.insert ho (σ := (jR l n bs n id 0).1) e2 (fun k hk _ => e5 k hk)
  refine ⟨e4.trans (k1.wide (Nat.zero_le _) (Nat.le_refl _)), fun r hr => ?_⟩
  by_cases hrq : r < q
  · have : (r + 1) * bs ≤ q * bs := Nat.mul_le_mul_right bs hrq
    rw [Nat.succ_mul] at this; rw [Nat.min_eq_left (by omega)]
    exact (e6 r hrq).out k1 (.inl (by omega))
  have hq : r = q := by
    rcases Nat.lt_or_ge q r with h | h
    · have : (q + 1) * bs ≤ r * bs := Nat.mul_le_mul_right bs h
      rw [Nat.succ_mul] at this; omega
    omega
  subst hq; rw [Nat.min_eq_right (by omega)]; exact k2
theorem mrgGo_ok (ho : Orders l) (n bs : Nat) (hbs : 0 < bs) : ∀ (f : Nat) (σ : Nat → Nat) (q : Nat), n ≤ f + q * (2 * bs) → q * (2 * bs) ≤ n → cM 0 n id σ → (∀ r, r < q → Bl l σ (r * (2 * bs)) (r * (2 * bs) + 2 * bs)) →
    (∀ r, 2 * q ≤ r → r * bs < n → Bl l σ (r * bs) (min (r * bs + bs) n)) → Bls l n (2 * bs) (mK l n bs (lY l n bs f σ (q * (2 * bs))))
  | 0, σ, q, hf, hq, h1, h2, h3 => by
    refine ⟨?_, ?_⟩
    · unfold mK lY
      simp only
      rw [if_neg (by omega)]; exact h1
    intro r hr; unfold mK lY
    simp only
    rw [if_neg (by omega)]
    have hrq : r < q := by
      rcases Nat.lt_or_ge r q with h | h
      · exact h
      have := Nat.mul_le_mul_right (2 * bs) h; omega
    have : (r + 1) * (2 * bs) ≤ q * (2 * bs) := Nat.mul_le_mul_right _ hrq
    rw [Nat.succ_mul] at this; rw [Nat.min_eq_left (by omega)]
    exact h2 r hrq
  | f + 1, σ, q, hf, hq, h1, h2, h3 => by
    have e1 : (2 * q) * bs = q * (2 * bs) := by rw [Nat.mul_comm 2 q, Nat.mul_assoc]
    have e2 : (2 * q + 1) * bs = q * (2 * bs) + bs := by rw [Nat.succ_mul, e1]
    have e3 : q * (2 * bs) + 2 * bs = (q + 1) * (2 * bs) := (Nat.succ_mul q (2 * bs)).symm
    unfold lY; split
    · rename_i hc
      have b1 := h3 (2 * q) (Nat.le_refl _) (by omega)
      have b2 := h3 (2 * q + 1) (by omega) (by omega)
      rw [e1, Nat.min_eq_left (by omega)] at b1; rw [e2, Nat.min_eq_left (by omega), show q * (2 * bs) + bs + bs = q * (2 * bs) + 2 * bs by omega] at b2
      obtain ⟨k1, k2⟩ := Bl.merge ho (f := n) (by omega) (by omega) (by omega) b1 b2
      rw [e3] at k1 k2 hc ⊢
      refine mrgGo_ok ho n bs hbs f _ (q + 1) (by rw [← e3]; omega) hc (h1.trans (k1.wide (Nat.zero_le _) hc)) (fun r hr => ?_) fun r hr hrn => ?_
      · by_cases hrq : r = q
        · subst hrq; rw [e3]; exact k2
        have : (r + 1) * (2 * bs) ≤ q * (2 * bs) := Nat.mul_le_mul_right _ (by omega)
        rw [Nat.succ_mul] at this
        exact (h2 r (by omega)).out k1 (.inl (by omega))
      have : (2 * (q + 1)) * bs ≤ r * bs := Nat.mul_le_mul_right bs hr
      rw [show (2 * (q + 1)) * bs = (q + 1) * (2 * bs) by rw [Nat.mul_comm 2, Nat.mul_assoc]] at this
      exact (h3 r (by omega) hrn).out k1 (.inr this)
    rename_i hc
    have last : ∀ r, r * (2 * bs) < n → r < q ∨ r = q := fun r hr => by
      rcases Nat.lt_or_ge q r with h | h
      · have : (q + 1) * (2 * bs) ≤ r * (2 * bs) := Nat.mul_le_mul_right _ h
        rw [Nat.succ_mul] at this; omega
      omega
    have low : ∀ r, r < q → r * (2 * bs) + 2 * bs ≤ q * (2 * bs) := fun r hr => by
      have : (r + 1) * (2 * bs) ≤ q * (2 * bs) := Nat.mul_le_mul_right _ hr
      rw [Nat.succ_mul] at this; exact this
    unfold mK
    simp only
    split
    · rename_i hd
      have b1 := h3 (2 * q) (Nat.le_refl _) (by omega)
      have b2 := h3 (2 * q + 1) (by omega) (by omega)
      rw [e1, Nat.min_eq_left (by omega)] at b1; rw [e2, Nat.min_eq_right (by omega)] at b2
      obtain ⟨k1, k2⟩ := Bl.merge ho (f := n) (by omega) (by omega) (by omega) b1 b2
      refine ⟨h1.trans (k1.wide (Nat.zero_le _) (Nat.le_refl _)), fun r hr => ?_⟩
      rcases last r hr with hrq | hrq
      · have := low r hrq
        rw [Nat.min_eq_left (by omega)]
        exact (h2 r hrq).out k1 (.inl this)
      subst hrq; rw [Nat.min_eq_right (by omega)]; exact k2
    rename_i hd
    refine ⟨h1, fun r hr => ?_⟩
    rcases last r hr with hrq | hrq
    · have := low r hrq
      rw [Nat.min_eq_left (by omega)]
      exact h2 r hrq
    subst hrq
    have b1 := h3 (2 * r) (Nat.le_refl _) (by omega)
    rw [e1, Nat.min_eq_right (by omega)] at b1; rw [Nat.min_eq_right (by omega)]; exact b1
theorem stabGo_ok (ho : Orders l) (n : Nat) : ∀ (f bs : Nat) (σ : Nat → Nat), 0 < bs → n ≤ f + bs → Bls l n bs σ → cM 0 n id (lH l n f bs σ) ∧ Sor l (lH l n f bs σ) 0 n
  | 0, bs, σ, hbs, hf, h => by
    unfold lH
    refine ⟨h.1, fun i j hi hij hj => ?_⟩
    have := (h.2 0 (by omega)).1
    rw [Nat.zero_mul, Nat.min_eq_right (by omega)] at this
    exact this i j hi hij hj
  | f + 1, bs, σ, hbs, hf, h => by
    unfold lH; split
    · have := mrgGo_ok ho n bs hbs n σ 0 (by omega) (by omega) h.1 (fun r hr => by omega) (fun r _ hr => h.2 r hr)
      rw [Nat.zero_mul] at this
      exact stabGo_ok ho n f (2 * bs) _ (by omega) (by omega) this
    refine ⟨h.1, fun i j hi hij hj => ?_⟩
    have := (h.2 0 (by omega)).1
    rw [Nat.zero_mul, Nat.min_eq_right (by omega)] at this
    exact this i j hi hij hj
theorem stab_ok (ho : Orders l) (n : Nat) : cM 0 n id (stab l n) ∧ Sor l (stab l n) 0 n :=
  stabGo_ok ho n n 20 _ (by omega) (by omega) (first_ok ho n 20 (by omega))
end
section
variable {α : Type} (lt : α → α → Bool)
def pos (ls : List α) (e : α) : Nat → Nat
  | 0 => 0
  | k + 1 => match ls[k]? with
    | some x => if lt e x = true then pos ls e k else k + 1
    | none => k + 1
def put (ls : List α) (e : α) : List α := ls.take (pos lt ls e ls.length) ++ e :: ls.drop (pos lt ls e ls.length)
variable {lt}
theorem pos_le (ls : List α) (e : α) : ∀ k, pos lt ls e k ≤ k
  | 0 => Nat.le_refl _
  | k + 1 => by
    unfold pos; split
    · split
      · have := pos_le ls e k; omega
      omega
    omega
theorem pos_hi (ls : List α) (e : α) : ∀ k j x, pos lt ls e k ≤ j → j < k → ls[j]? = some x → lt e x = true
  | 0, j, x, h1, h2, h3 => by omega
  | k + 1, j, x, h1, h2, h3 => by
    unfold pos at h1; split at h1
    · rename_i y hy
      split at h1
      · rename_i hl
        by_cases e' : j = k
        · subst e'; rw [hy] at h3; cases h3; exact hl
        exact pos_hi ls e k j x h1 (by omega) h3
      omega
    omega
theorem pos_lo (ls : List α) (e : α) : ∀ k x, k ≤ ls.length → 0 < pos lt ls e k → ls[pos lt ls e k - 1]? = some x → lt e x = false
  | 0, x, hk, h1, h2 => by unfold pos at h1; omega
  | k + 1, x, hk, h1, h2 => by
    have hk' : ls[k]? = some ls[k] := List.getElem?_eq_getElem (by omega)
    unfold pos at h1 h2
    simp only [hk'] at h1 h2
    by_cases hl : lt e ls[k] = true
    · rw [if_pos hl] at h1 h2
      exact pos_lo ls e k x (by omega) h1 h2
    rw [if_neg hl, Nat.add_sub_cancel, hk'] at h2; cases h2
    simpa using hl
theorem pos_map {β : Type} (f : β → α) (ls : List β) (e : β) : ∀ k, pos lt (ls.map f) (f e) k = pos (fun x y => lt (f x) (f y)) ls e k
  | 0 => rfl
  | k + 1 => by
    unfold pos; rw [List.getElem?_map]
    cases ls[k]? with
    | none => rfl
    | some x => simp only [Option.map_some]; rw [pos_map f ls e k]
theorem put_map {β : Type} (f : β → α) (ls : List β) (e : β) : put lt (ls.map f) (f e) = (put (fun x y => lt (f x) (f y)) ls e).map f := by
  unfold put; rw [List.length_map, pos_map]
  simp [List.map_take, List.map_drop]
theorem fold_map {β : Type} (f : β → α) : ∀ (r ls : List β), (r.map f).foldl (put lt) (ls.map f) = (r.foldl (put (fun x y => lt (f x) (f y))) ls).map f
  | [], ls => rfl
  | e :: r, ls => by
    rw [List.map_cons, List.foldl_cons, List.foldl_cons, put_map]
    exact fold_map f r _
end
variable {l : Nat → Nat → Bool}
theorem put_ok (ho : Orders l) {ls : List Nat} {e : Nat} (h : ls.Pairwise (bK l)) (hx : ∀ x ∈ ls, x < e) : (put l ls e).Pairwise (bK l) ∧ (put l ls e).Perm (e :: ls) := by
  have hp := pos_le (lt := l) ls e ls.length
  have hhi := pos_hi (lt := l) ls e ls.length
  have hlo := fun x => pos_lo (lt := l) ls e ls.length x (Nat.le_refl _)
  unfold put
  generalize pos l ls e ls.length = p at hp hhi hlo
  have hsplit : ls = ls.take p ++ ls.drop p := (List.take_append_drop p ls).symm
  have hd : ∀ x ∈ ls.drop p, bK l e x := fun x hxd => by
    obtain ⟨i, hi⟩ := List.getElem?_of_mem hxd
    rw [List.getElem?_drop] at hi
    exact .inl (hhi (p + i) x (by omega) (List.getElem?_eq_some_iff.1 hi).1 hi)
  have ht : ∀ x ∈ ls.take p, bK l x e := fun x hxt => by
    obtain ⟨i, hi⟩ := List.getElem?_of_mem hxt
    rw [List.getElem?_take] at hi; split at hi
    · rename_i hip
      have h1 : ls[p - 1]? = some ls[p - 1] := List.getElem?_eq_getElem (by omega)
      have h2 : bK l ls[p - 1] e := .inr ⟨hlo _ (by omega) h1, hx _ (List.getElem_mem _)⟩
      by_cases e' : i = p - 1
      · subst e'; rw [h1] at hi; cases hi; exact h2
      have h3 := List.pairwise_iff_getElem.1 h i (p - 1) (by omega) (by omega) (by omega)
      have : ls[i] = x := by rw [List.getElem?_eq_getElem (by omega)] at hi; exact Option.some.inj hi
      rw [← this]
      exact h3.trans ho h2
    cases hi
  refine ⟨?_, ?_⟩
  · rw [hsplit, List.pairwise_append] at h; rw [List.pairwise_append]
    refine ⟨h.1, List.pairwise_cons.2 ⟨hd, h.2.1⟩, fun x hx1 y hy => ?_⟩
    rcases List.mem_cons.1 hy with hy | hy
    · rw [hy]; exact ht x hx1
    exact h.2.2 x hx1 y hy
  refine List.perm_middle.trans ?_
  rw [List.take_append_drop]
theorem fold_ok (ho : Orders l) : ∀ n, ((List.range n).foldl (put l) []).Pairwise (bK l) ∧ ((List.range n).foldl (put l) []).Perm (List.range n)
  | 0 => ⟨List.Pairwise.nil, .refl _⟩
  | n + 1 => by
    obtain ⟨h1, h2⟩ := fold_ok ho n
    rw [List.range_succ, List.foldl_append]
    obtain ⟨k1, k2⟩ := put_ok ho (e := n) h1 (fun x hx => List.mem_range.1 (h2.mem_iff.1 hx))
    refine ⟨k1, k2.trans ?_⟩
    exact (List.Perm.cons n h2).trans (List.perm_append_singleton n _).symm
theorem stab_fold (ho : Orders l) (n : Nat) : (List.range n).map (stab l n) = (List.range n).foldl (put l) [] := by
  obtain ⟨h1, h2⟩ := stab_ok ho n
  obtain ⟨h3, h4⟩ := fold_ok ho n
  have hpw : ((List.range n).map (stab l n)).Pairwise (bK l) := by
    rw [List.pairwise_map]
    exact List.pairwise_iff_getElem.2 fun i j hi hj hij => by simp at hi hj ⊢; exact h2 i j (Nat.zero_le _) hij hj
  have hnd : ∀ {ls : List Nat}, ls.Pairwise (bK l) → ls.Nodup := fun {ls} h => h.imp fun {a b} hab e => by subst e; exact bK.irrefl ho hab
  refine List.Perm.eq_of_pairwise (le := bK l) (fun a b _ _ h5 h6 => absurd (h5.trans ho h6) (bK.irrefl ho)) hpw h3 ?_
  refine (List.perm_ext_iff_of_nodup (hnd hpw) (hnd h3)).2 fun x => ?_
  rw [h4.mem_iff, List.mem_map, List.mem_range]
  obtain ⟨p, q, e1, e2, e3, e4, e5⟩ := h1
  constructor
  · rintro ⟨k, hk, rfl⟩
    rw [e1]
    exact (e4 k (Nat.zero_le _) (List.mem_range.1 hk)).2
  intro hx
  refine ⟨q x, List.mem_range.2 ?_, by rw [e1, e2]; rfl⟩
  rcases Nat.lt_or_ge (q x) n with h | h
  · exact h
  have := e5 (q x) (.inr h)
  rw [e2] at this; omega
theorem stab_list {α : Type} {lt : α → α → Bool} (d : Nat → α) (ls : List α) (hd : ∀ i, i < ls.length → ls[i]? = some (d i)) (ho : Orders fun i j => lt (d i) (d j)) :
    (List.range ls.length).map (fun i => d (stab (fun i j => lt (d i) (d j)) ls.length i)) = ls.foldl (put lt) [] := by
  have e1 : ls = (List.range ls.length).map d := by
    refine List.ext_getElem? fun i => ?_
    rw [List.getElem?_map]
    by_cases h : i < ls.length
    · rw [hd i h, List.getElem?_range h]; rfl
    rw [List.getElem?_eq_none (by omega), List.getElem?_eq_none (by simp; omega)]; rfl
  have e2 := fold_map (lt := lt) d (List.range ls.length) []
  rw [← e1, List.map_nil] at e2; rw [e2, ← stab_fold ho, List.map_map]; rfl
end
section
structure WO {α : Type} (lt : α → α → Bool) (D : α → Prop) : Prop where
  irrefl : ∀ x, D x → lt x x = false
  trans : ∀ x y z, D x → D y → D z → lt x y = true → lt y z = true → lt x z = true
  neg : ∀ x y z, D x → D y → D z → lt x y = false → lt y z = false → lt x z = false
theorem WO.asymm {α : Type} {lt : α → α → Bool} {D : α → Prop} (h : WO lt D) {x y : α} (hx : D x) (hy : D y) (h1 : lt x y = true) : lt y x = false := by
  cases h2 : lt y x with
  | false => rfl
  | true => have := h.trans x y x hx hy hx h1 h2; rw [h.irrefl x hx] at this; cases this
theorem WO.orders {α : Type} {lt : α → α → Bool} (h : WO lt fun _ => True) (d : Nat → α) : Orders fun i j => lt (d i) (d j) :=
  ⟨fun x => h.irrefl _ trivial, fun x y z => h.trans _ _ _ trivial trivial trivial, fun x y z => h.neg _ _ _ trivial trivial trivial⟩
theorem rearr_perm {n : Nat} {p : Nat → Nat} (h : cM 0 n id p) : ((List.range n).map p).Perm (List.range n) := by
  obtain ⟨u, q, e1, e2, e3, e4, e5⟩ := h
  have hp : ∀ k, p k = u k := fun k => e1 k
  have hnd : ((List.range n).map p).Nodup := by
    rw [List.nodup_iff_pairwise_ne, List.pairwise_map]
    refine List.pairwise_iff_getElem.2 fun i j hi hj hij e => ?_
    simp only [List.getElem_range, hp] at e
    have := congrArg q e
    rw [e3, e3] at this; omega
  refine (List.perm_ext_iff_of_nodup hnd List.nodup_range).2 fun x => ?_
  rw [List.mem_map, List.mem_range]
  constructor
  · rintro ⟨k, hk, rfl⟩
    rw [hp]
    exact (e4 k (Nat.zero_le _) (List.mem_range.1 hk)).2
  intro hx
  refine ⟨q x, List.mem_range.2 ?_, by rw [hp, e2]⟩
  rcases Nat.lt_or_ge (q x) n with h | h
  · exact h
  have := e5 (q x) (.inr h)
  rw [e2] at this; omega
section
variable {α : Type}
def swpA (h : Nat → α) (i j : Nat) : Nat → α := fun k => if k = i then h j else if k = j then h i else h k
def yA (n : Nat) (h h' : Nat → α) : Prop := ((List.range n).map h').Perm ((List.range n).map h) ∧ ∀ k, n ≤ k → h' k = h k
theorem yA.refl (n : Nat) (h : Nat → α) : yA n h h := ⟨.refl _, fun _ _ => rfl⟩
theorem yA.trans {n : Nat} {h h' h'' : Nat → α} (a : yA n h h') (b : yA n h' h'') : yA n h h'' := ⟨b.1.trans a.1, fun k hk => (b.2 k hk).trans (a.2 k hk)⟩
theorem yA.all {n : Nat} {h h' : Nat → α} (a : yA n h h') {φ : α → Prop} (hφ : ∀ k, k < n → φ (h k)) : ∀ k, k < n → φ (h' k) := fun k hk => by
  have h1 : h' k ∈ (List.range n).map h' := List.mem_map.2 ⟨k, List.mem_range.2 hk, rfl⟩
  obtain ⟨j, hj, e⟩ := List.mem_map.1 (a.1.mem_iff.1 h1)
  rw [← e]
  exact hφ j (List.mem_range.1 hj)
theorem yA.swp {n i j : Nat} (h : Nat → α) (hi : i < n) (hj : j < n) : yA n h (swpA h i j) := by
  refine ⟨?_, fun k hk => by unfold swpA; rw [if_neg (by omega), if_neg (by omega)]⟩
  have h1 := (rearr_perm (cM.swp (a := 0) (b := n) id ⟨Nat.zero_le _, hi⟩ ⟨Nat.zero_le _, hj⟩)).map h
  rw [List.map_map] at h1
  have e : (h ∘ Plain.swp id i j) = swpA h i j := by
    funext k
    simp only [Function.comp, Plain.swp, swpA, id]; split
    · rfl
    split <;> rfl
  rw [e] at h1; exact h1
variable (less : α → α → Bool)
def kid (h : Nat → α) (n i : Nat) : Nat := if 2 * i + 2 < n ∧ less (h (2 * i + 2)) (h (2 * i + 1)) = true then 2 * i + 2 else 2 * i + 1
def downGo (n : Nat) : Nat → (Nat → α) → Nat → (Nat → α) × Nat
  | 0, h, i => (h, i)
  | f + 1, h, i => if 2 * i + 1 < n then (if less (h (kid less h n i)) (h i) = true then downGo n f (swpA h i (kid less h n i)) (kid less h n i) else (h, i)) else (h, i)
variable {less}
variable (less)
def initGo (n : Nat) : Nat → (Nat → α) → (Nat → α)
  | 0, h => h
  | i + 1, h => initGo n i (downGo less n n h i).1
variable {less}
end
section
variable {ε : Type} (lt : ε → ε → Bool)
def hless (a b : List ε × Nat) : Bool := match a.1, b.1 with
  | x :: _, y :: _ => lt x y || (!lt y x && decide (a.2 < b.2))
  | _, _ => false
variable {lt}
def flatH (n : Nat) (g : Nat → List ε × Nat) : List ε := ((List.range n).map g).flatMap (·.1)
def updA {α : Type} (g : Nat → α) (i : Nat) (x : α) : Nat → α := fun k => if k = i then x else g k
variable (lt)
def shed (g : Nat → List ε × Nat) : Nat → List ε × Nat := updA g 0 ((g 0).1.tail, (g 0).2)
def mergeGo : Nat → (Nat → List ε × Nat) → Nat → List ε → List ε
  | 0, _, _, all => all
  | f + 1, g, n, all => match n, (g 0).1 with
    | m + 1, e :: r => if r.length = 0 then mergeGo f (downGo (hless lt) m m (swpA (shed g) 0 m) 0).1 m (all ++ [e]) else mergeGo f (downGo (hless lt) (m + 1) (m + 1) (shed g) 0).1 (m + 1) (all ++ [e])
    | _, _ => all
def headsOf (lists : List (List ε)) : List (List ε × Nat) := (lists.zipIdx.filter fun p => !p.1.isEmpty)
def mergeAll (lists : List (List ε)) : List ε :=
  let hs := (headsOf lists).map fun p => (p.1.foldl (put lt) [], p.2)
  mergeGo lt (hs.flatMap (·.1)).length (initGo (hless lt) hs.length (hs.length / 2) fun k => hs.getD k ([], 0)) hs.length []
variable {lt}
def leB (lt : ε → ε → Bool) (x y : ε) : Prop := lt y x = false
theorem put_sorted (ho : WO lt fun _ => True) (ls : List ε) : (ls.foldl (put lt) []).Pairwise (leB lt) ∧ (ls.foldl (put lt) []).Perm ls := by
  cases ls with
  | nil => exact ⟨List.Pairwise.nil, .refl _⟩
  | cons a r =>
    generalize hls : a :: r = ls
    let d : Nat → ε := fun i => ls.getD i a
    have hd : ∀ i, i < ls.length → ls[i]? = some (d i) := fun i hi => by simp [d, List.getD_eq_getElem?_getD, List.getElem?_eq_getElem hi]
    have hod := ho.orders d
    obtain ⟨h1, h2⟩ := stab_ok hod ls.length
    rw [← stab_list d ls hd hod]
    refine ⟨?_, ?_⟩
    · rw [List.pairwise_map]
      refine List.pairwise_iff_getElem.2 fun i j hi hj hij => ?_
      simp at hi hj ⊢
      rcases h2 i j (Nat.zero_le _) hij hj with h3 | h3
      · exact hod.asymm h3
      exact h3.1
    have h3 := (rearr_perm h1).map d
    rw [List.map_map] at h3
    have e1 : (List.range ls.length).map d = ls := by
      refine List.ext_getElem? fun i => ?_
      rw [List.getElem?_map]
      by_cases h : i < ls.length
      · rw [hd i h, List.getElem?_range h]; rfl
      rw [List.getElem?_eq_none (by simp; omega), List.getElem?_eq_none (by omega)]; rfl
    rw [e1] at h3; exact h3
end
end
end Go.Plain
end
section
open Go Go.Abs Go.Proofs
namespace Go.Proofs.S
noncomputable instance : Globals where
  on := fun g => g = 0 ∨ g = 1 ∨ g = 2
  G0 := fun g o => (g = 0 → ∃ t fr, o = .cells ((Lib.pow10Tab.map fun z => Value.int .u64 z).toArray) t fr) ∧ (g = 1 ∨ g = 2 → ∃ te pe t fr, o = .cells #[.iface te pe] t fr) ∧ ∃ c t fr, o = .cells c t fr
  cells := fun g o h => h.2.2
theorem F0 : vI Tryz.prog 1 = some (1, false) ∧
 zC Tryz.prog 1 = some [Value.nilFunc] ∧
 zE Tryz.prog 1 = some (.raw Value.nilFunc) ∧
 Tryz.prog.concrete 1 = true ∧
 vI Tryz.prog 2 = some (1, false) ∧
 zC Tryz.prog 2 = some [(Value.int IntKind.i64 0)] ∧
 zE Tryz.prog 2 = some (.raw (Value.int IntKind.i64 0)) ∧
 Tryz.prog.concrete 2 = true ∧
 vI Tryz.prog 3 = some (1, false) ∧
 zC Tryz.prog 3 = some [(Value.int IntKind.i64 0)] ∧
 zE Tryz.prog 3 = some (.raw (Value.int IntKind.i64 0)) ∧
 Tryz.prog.concrete 3 = true ∧
 vI Tryz.prog 4 = some (1, false) ∧
 zC Tryz.prog 4 = some [(Value.bool false)] ∧
 zE Tryz.prog 4 = some (.raw (Value.bool false)) ∧
 Tryz.prog.concrete 4 = true ∧
 vI Tryz.prog 5 = some (1, false) ∧
 zC Tryz.prog 5 = some [(Value.int IntKind.u8 0)] ∧
 zE Tryz.prog 5 = some (.raw (Value.int IntKind.u8 0)) ∧
 Tryz.prog.concrete 5 = true ∧
 vI Tryz.prog 7 = some (4, true) ∧
 zC Tryz.prog 7 = some [(Value.int IntKind.i64 0), (Value.int IntKind.i64 0), (Value.bool false), (Value.int IntKind.u8 0)] ∧
 zE Tryz.prog 7 = some (.agg [.raw (Value.int IntKind.i64 0), .raw (Value.int IntKind.i64 0), .raw (Value.bool false), .raw (Value.int IntKind.u8 0)]) ∧
 fI Tryz.prog 7 0 = some (0, some 1, some false) ∧
 fI Tryz.prog 7 1 = some (1, some 1, some false) ∧
 fI Tryz.prog 7 2 = some (2, some 1, some false) ∧
 fI Tryz.prog 7 3 = some (3, some 1, some false) ∧
 aV Tryz.prog 7 = some [(0, 1), (1, 1), (2, 1), (3, 1)] ∧
 Tryz.prog.concrete 7 = true ∧
 vI Tryz.prog 8 = some (4, true) ∧
 zC Tryz.prog 8 = some [(Value.int IntKind.i64 0), (Value.int IntKind.i64 0), (Value.bool false), (Value.int IntKind.u8 0)] ∧
 zE Tryz.prog 8 = some (.agg [.raw (Value.int IntKind.i64 0), .raw (Value.int IntKind.i64 0), .raw (Value.bool false), .raw (Value.int IntKind.u8 0)]) ∧
 fI Tryz.prog 8 0 = some (0, some 1, some false) ∧
 fI Tryz.prog 8 1 = some (1, some 1, some false) ∧
 fI Tryz.prog 8 2 = some (2, some 1, some false) ∧
 fI Tryz.prog 8 3 = some (3, some 1, some false) ∧
 aV Tryz.prog 8 = some [(0, 1), (1, 1), (2, 1), (3, 1)] ∧
 Tryz.prog.concrete 8 = true ∧
 vI Tryz.prog 9 = some (1, false) ∧
 zC Tryz.prog 9 = some [(Value.string ⟨#[]⟩)] ∧
 zE Tryz.prog 9 = some (.raw (Value.string ⟨#[]⟩)) ∧
 isStr Tryz.prog 9 = true ∧
 Tryz.prog.concrete 9 = true ∧
 vI Tryz.prog 10 = some (1, false) ∧
 zC Tryz.prog 10 = some [(Value.string ⟨#[]⟩)] ∧
 zE Tryz.prog 10 = some (.raw (Value.string ⟨#[]⟩)) ∧
 isStr Tryz.prog 10 = true ∧
 Tryz.prog.concrete 10 = true ∧
 vI Tryz.prog 15 = some (1, false) ∧
 zC Tryz.prog 15 = some [(Value.pointer none)] ∧
 zE Tryz.prog 15 = some (.raw (Value.pointer none)) ∧
 Tryz.prog.concrete 15 = true ∧
 vI Tryz.prog 16 = some (1, false) ∧
 zC Tryz.prog 16 = some [(Value.pointer none)] ∧
 zE Tryz.prog 16 = some (.raw (Value.pointer none)) ∧
 Tryz.prog.concrete 16 = true ∧
 vI Tryz.prog 20 = some (1, false) ∧
 zC Tryz.prog 20 = some [Value.nilIface] ∧
 zE Tryz.prog 20 = some (.raw Value.nilIface) ∧
 isIf Tryz.prog 20 = true ∧
 vI Tryz.prog 21 = some (1, false) ∧
 zC Tryz.prog 21 = some [(Value.int IntKind.i32 0)] ∧
 zE Tryz.prog 21 = some (.raw (Value.int IntKind.i32 0)) ∧
 Tryz.prog.concrete 21 = true ∧
 vI Tryz.prog 22 = some (1, false) ∧
 zC Tryz.prog 22 = some [(Value.slice none 0 0)] ∧
 zE Tryz.prog 22 = some (.raw (Value.slice none 0 0)) ∧
 cZ Tryz.prog 22 = some (60, some (5, 56)) ∧
 wE Tryz.prog 22 = true ∧
 Tryz.prog.concrete 22 = true ∧
 vI Tryz.prog 23 = some (1, false) ∧
 zC Tryz.prog 23 = some [(Value.slice none 0 0)] ∧
 zE Tryz.prog 23 = some (.raw (Value.slice none 0 0)) ∧
 cZ Tryz.prog 23 = some (129, some (1, 24)) ∧
 wE Tryz.prog 23 = true ∧
 Tryz.prog.concrete 23 = true ∧
 vI Tryz.prog 24 = some (1, false) ∧
 zC Tryz.prog 24 = some [(Value.slice none 0 0)] ∧
 zE Tryz.prog 24 = some (.raw (Value.slice none 0 0)) ∧
 cZ Tryz.prog 24 = some (3, some (1, 8)) ∧
 wE Tryz.prog 24 = true ∧
 Tryz.prog.concrete 24 = true ∧
 vI Tryz.prog 26 = some (4, true) ∧
 zC Tryz.prog 26 = some [(Value.int IntKind.i64 0), (Value.slice none 0 0), (Value.slice none 0 0), (Value.slice none 0 0)] ∧
 zE Tryz.prog 26 = some (.agg [.raw (Value.int IntKind.i64 0), .raw (Value.slice none 0 0), .raw (Value.slice none 0 0), .raw (Value.slice none 0 0)]) ∧
 fI Tryz.prog 26 0 = some (0, some 1, some false) ∧
 fI Tryz.prog 26 1 = some (1, some 1, some false) ∧
 fI Tryz.prog 26 2 = some (2, some 1, some false) ∧
 fI Tryz.prog 26 3 = some (3, some 1, some false) ∧
 aV Tryz.prog 26 = some [(0, 1), (1, 1), (2, 1), (3, 1)] ∧
 Tryz.prog.concrete 26 = true ∧
 vI Tryz.prog 28 = some (4, true) ∧
 zC Tryz.prog 28 = some [(Value.string ⟨#[]⟩), (Value.int IntKind.i64 0), (Value.slice none 0 0), (Value.int IntKind.i64 0)] ∧
 zE Tryz.prog 28 = some (.agg [.raw (Value.string ⟨#[]⟩), .raw (Value.int IntKind.i64 0), .raw (Value.slice none 0 0), .raw (Value.int IntKind.i64 0)]) ∧
 fI Tryz.prog 28 0 = some (0, some 1, some false) ∧
 fI Tryz.prog 28 1 = some (1, some 1, some false) ∧
 fI Tryz.prog 28 2 = some (2, some 1, some false) ∧
 fI Tryz.prog 28 3 = some (3, some 1, some false) ∧
 aV Tryz.prog 28 = some [(0, 1), (1, 1), (2, 1), (3, 1)] ∧
 Tryz.prog.concrete 28 = true := by
 and_intros <;> kernel_rfl
theorem F1 : vI Tryz.prog 30 = some (9, true) ∧
 zC Tryz.prog 30 = some [(Value.bool false), (Value.int IntKind.i64 0), (Value.slice none 0 0), (Value.slice none 0 0), (Value.slice none 0 0), (Value.string ⟨#[]⟩), (Value.int IntKind.i64 0), (Value.slice none 0 0), (Value.int IntKind.i64 0)] ∧
 zE Tryz.prog 30 = some (.agg [.raw (Value.bool false), .raw (Value.int IntKind.i64 0), .raw (Value.slice none 0 0), .raw (Value.slice none 0 0), .raw (Value.slice none 0 0), .raw (Value.string ⟨#[]⟩), .raw (Value.int IntKind.i64 0), .raw (Value.slice none 0 0), .raw (Value.int IntKind.i64 0)]) ∧
 fI Tryz.prog 30 0 = some (0, some 1, some false) ∧
 fI Tryz.prog 30 1 = some (1, some 4, some true) ∧
 fI Tryz.prog 30 2 = some (5, some 4, some true) ∧
 aV Tryz.prog 30 = some [(0, 1), (1, 4), (5, 4)] ∧
 Tryz.prog.concrete 30 = true ∧
 vI Tryz.prog 31 = some (1, false) ∧
 zC Tryz.prog 31 = some [Value.nilFunc] ∧
 zE Tryz.prog 31 = some (.raw Value.nilFunc) ∧
 Tryz.prog.concrete 31 = true ∧
 vI Tryz.prog 32 = some (1, false) ∧
 zC Tryz.prog 32 = some [Value.nilFunc] ∧
 zE Tryz.prog 32 = some (.raw Value.nilFunc) ∧
 Tryz.prog.concrete 32 = true ∧
 vI Tryz.prog 33 = some (1, false) ∧
 zC Tryz.prog 33 = some [(Value.slice none 0 0)] ∧
 zE Tryz.prog 33 = some (.raw (Value.slice none 0 0)) ∧
 cZ Tryz.prog 33 = some (65, some (5, 56)) ∧
 wE Tryz.prog 33 = true ∧
 Tryz.prog.concrete 33 = true ∧
 vI Tryz.prog 34 = some (1, false) ∧
 zC Tryz.prog 34 = some [(Value.slice none 0 0)] ∧
 zE Tryz.prog 34 = some (.raw (Value.slice none 0 0)) ∧
 cZ Tryz.prog 34 = some (107, some (1, 24)) ∧
 wE Tryz.prog 34 = true ∧
 Tryz.prog.concrete 34 = true ∧
 vI Tryz.prog 36 = some (4, true) ∧
 zC Tryz.prog 36 = some [(Value.int IntKind.i64 0), (Value.slice none 0 0), (Value.slice none 0 0), (Value.slice none 0 0)] ∧
 zE Tryz.prog 36 = some (.agg [.raw (Value.int IntKind.i64 0), .raw (Value.slice none 0 0), .raw (Value.slice none 0 0), .raw (Value.slice none 0 0)]) ∧
 fI Tryz.prog 36 0 = some (0, some 1, some false) ∧
 fI Tryz.prog 36 1 = some (1, some 1, some false) ∧
 fI Tryz.prog 36 2 = some (2, some 1, some false) ∧
 fI Tryz.prog 36 3 = some (3, some 1, some false) ∧
 aV Tryz.prog 36 = some [(0, 1), (1, 1), (2, 1), (3, 1)] ∧
 Tryz.prog.concrete 36 = true ∧
 vI Tryz.prog 38 = some (4, true) ∧
 zC Tryz.prog 38 = some [(Value.string ⟨#[]⟩), (Value.int IntKind.i64 0), (Value.slice none 0 0), (Value.int IntKind.i64 0)] ∧
 zE Tryz.prog 38 = some (.agg [.raw (Value.string ⟨#[]⟩), .raw (Value.int IntKind.i64 0), .raw (Value.slice none 0 0), .raw (Value.int IntKind.i64 0)]) ∧
 fI Tryz.prog 38 0 = some (0, some 1, some false) ∧
 fI Tryz.prog 38 1 = some (1, some 1, some false) ∧
 fI Tryz.prog 38 2 = some (2, some 1, some false) ∧
 fI Tryz.prog 38 3 = some (3, some 1, some false) ∧
 aV Tryz.prog 38 = some [(0, 1), (1, 1), (2, 1), (3, 1)] ∧
 Tryz.prog.concrete 38 = true ∧
 vI Tryz.prog 40 = some (9, true) ∧
 zC Tryz.prog 40 = some [(Value.bool false), (Value.int IntKind.i64 0), (Value.slice none 0 0), (Value.slice none 0 0), (Value.slice none 0 0), (Value.string ⟨#[]⟩), (Value.int IntKind.i64 0), (Value.slice none 0 0), (Value.int IntKind.i64 0)] ∧
 zE Tryz.prog 40 = some (.agg [.raw (Value.bool false), .raw (Value.int IntKind.i64 0), .raw (Value.slice none 0 0), .raw (Value.slice none 0 0), .raw (Value.slice none 0 0), .raw (Value.string ⟨#[]⟩), .raw (Value.int IntKind.i64 0), .raw (Value.slice none 0 0), .raw (Value.int IntKind.i64 0)]) ∧
 fI Tryz.prog 40 0 = some (0, some 1, some false) ∧
 fI Tryz.prog 40 1 = some (1, some 4, some true) ∧
 fI Tryz.prog 40 2 = some (5, some 4, some true) ∧
 aV Tryz.prog 40 = some [(0, 1), (1, 4), (5, 4)] ∧
 Tryz.prog.concrete 40 = true ∧
 vI Tryz.prog 48 = some (1, false) ∧
 zC Tryz.prog 48 = some [Value.nilFunc] ∧
 zE Tryz.prog 48 = some (.raw Value.nilFunc) ∧
 Tryz.prog.concrete 48 = true ∧
 vI Tryz.prog 50 = some (1, false) ∧
 zC Tryz.prog 50 = some [Value.nilFunc] ∧
 zE Tryz.prog 50 = some (.raw Value.nilFunc) ∧
 Tryz.prog.concrete 50 = true ∧
 vI Tryz.prog 60 = some (5, true) ∧
 zC Tryz.prog 60 = some [(Value.string ⟨#[]⟩), (Value.int IntKind.i64 0), (Value.int IntKind.i64 0), (Value.string ⟨#[]⟩), (Value.int IntKind.i64 0)] ∧
 zE Tryz.prog 60 = some (.agg [.raw (Value.string ⟨#[]⟩), .raw (Value.int IntKind.i64 0), .raw (Value.int IntKind.i64 0), .raw (Value.string ⟨#[]⟩), .raw (Value.int IntKind.i64 0)]) ∧
 fI Tryz.prog 60 0 = some (0, some 1, some false) ∧
 fI Tryz.prog 60 1 = some (1, some 1, some false) ∧
 fI Tryz.prog 60 2 = some (2, some 1, some false) ∧
 fI Tryz.prog 60 3 = some (3, some 1, some false) ∧
 fI Tryz.prog 60 4 = some (4, some 1, some false) ∧
 aV Tryz.prog 60 = some [(0, 1), (1, 1), (2, 1), (3, 1), (4, 1)] ∧
 Tryz.prog.concrete 60 = true ∧
 vI Tryz.prog 64 = some (1, false) ∧
 zC Tryz.prog 64 = some [Value.nilFunc] ∧
 zE Tryz.prog 64 = some (.raw Value.nilFunc) ∧
 Tryz.prog.concrete 64 = true ∧
 vI Tryz.prog 65 = some (5, true) ∧
 zC Tryz.prog 65 = some [(Value.string ⟨#[]⟩), (Value.int IntKind.i64 0), (Value.int IntKind.i64 0), (Value.string ⟨#[]⟩), (Value.int IntKind.i64 0)] ∧
 zE Tryz.prog 65 = some (.agg [.raw (Value.string ⟨#[]⟩), .raw (Value.int IntKind.i64 0), .raw (Value.int IntKind.i64 0), .raw (Value.string ⟨#[]⟩), .raw (Value.int IntKind.i64 0)]) ∧
 fI Tryz.prog 65 0 = some (0, some 1, some false) ∧
 fI Tryz.prog 65 1 = some (1, some 1, some false) ∧
 fI Tryz.prog 65 2 = some (2, some 1, some false) ∧
 fI Tryz.prog 65 3 = some (3, some 1, some false) ∧
 fI Tryz.prog 65 4 = some (4, some 1, some false) ∧
 aV Tryz.prog 65 = some [(0, 1), (1, 1), (2, 1), (3, 1), (4, 1)] ∧
 Tryz.prog.concrete 65 = true ∧
 vI Tryz.prog 74 = some (1, false) ∧
 zC Tryz.prog 74 = some [(Value.slice none 0 0)] ∧
 zE Tryz.prog 74 = some (.raw (Value.slice none 0 0)) ∧
 cZ Tryz.prog 74 = some (105, some (1, 16)) ∧
 wE Tryz.prog 74 = true ∧
 Tryz.prog.concrete 74 = true ∧
 vI Tryz.prog 83 = some (2, true) ∧
 zC Tryz.prog 83 = some [(Value.slice none 0 0), (Value.int IntKind.i64 0)] ∧
 zE Tryz.prog 83 = some (.agg [.raw (Value.slice none 0 0), .raw (Value.int IntKind.i64 0)]) ∧
 fI Tryz.prog 83 0 = some (0, some 1, some false) ∧
 fI Tryz.prog 83 1 = some (1, some 1, some false) ∧
 aV Tryz.prog 83 = some [(0, 1), (1, 1)] ∧
 Tryz.prog.concrete 83 = true ∧
 vI Tryz.prog 96 = some (1, true) := by
 and_intros <;> kernel_rfl
theorem F2 : zC Tryz.prog 96 = some [(Value.string ⟨#[]⟩)] ∧
 zE Tryz.prog 96 = some (.agg [.raw (Value.string ⟨#[]⟩)]) ∧
 fI Tryz.prog 96 0 = some (0, some 1, some false) ∧
 aV Tryz.prog 96 = some [(0, 1)] ∧
 Tryz.prog.concrete 96 = true ∧
 vI Tryz.prog 100 = some (1, false) ∧
 zC Tryz.prog 100 = some [(Value.slice none 0 0)] ∧
 zE Tryz.prog 100 = some (.raw (Value.slice none 0 0)) ∧
 cZ Tryz.prog 100 = some (5, some (1, 1)) ∧
 wE Tryz.prog 100 = true ∧
 Tryz.prog.concrete 100 = true ∧
 vI Tryz.prog 103 = some (0, true) ∧
 zC Tryz.prog 103 = some [] ∧
 zE Tryz.prog 103 = some (.agg []) ∧
 aV Tryz.prog 103 = some [] ∧
 Tryz.prog.concrete 103 = true ∧
 vI Tryz.prog 105 = some (1, false) ∧
 zC Tryz.prog 105 = some [Value.nilIface] ∧
 zE Tryz.prog 105 = some (.raw Value.nilIface) ∧
 isIf Tryz.prog 105 = true ∧
 vI Tryz.prog 107 = some (1, false) ∧
 zC Tryz.prog 107 = some [(Value.slice none 0 0)] ∧
 zE Tryz.prog 107 = some (.raw (Value.slice none 0 0)) ∧
 cZ Tryz.prog 107 = some (109, some (2, 32)) ∧
 wE Tryz.prog 107 = true ∧
 Tryz.prog.concrete 107 = true ∧
 vI Tryz.prog 109 = some (2, true) ∧
 zC Tryz.prog 109 = some [(Value.slice none 0 0), (Value.int IntKind.i64 0)] ∧
 zE Tryz.prog 109 = some (.agg [.raw (Value.slice none 0 0), .raw (Value.int IntKind.i64 0)]) ∧
 fI Tryz.prog 109 0 = some (0, some 1, some false) ∧
 fI Tryz.prog 109 1 = some (1, some 1, some false) ∧
 aV Tryz.prog 109 = some [(0, 1), (1, 1)] ∧
 Tryz.prog.concrete 109 = true ∧
 vI Tryz.prog 112 = some (3, true) ∧
 zC Tryz.prog 112 = some [(Value.slice none 0 0), (Value.slice none 0 0), (Value.slice none 0 0)] ∧
 zE Tryz.prog 112 = some (.agg [.raw (Value.slice none 0 0), .raw (Value.slice none 0 0), .raw (Value.slice none 0 0)]) ∧
 Tryz.prog.concrete 112 = true ∧
 vI Tryz.prog 121 = some (1, false) ∧
 zC Tryz.prog 121 = some [(Value.slice none 0 0)] ∧
 zE Tryz.prog 121 = some (.raw (Value.slice none 0 0)) ∧
 cZ Tryz.prog 121 = some (33, some (1, 24)) ∧
 wE Tryz.prog 121 = true ∧
 Tryz.prog.concrete 121 = true ∧
 vI Tryz.prog 129 = some (1, false) ∧
 zC Tryz.prog 129 = some [(Value.slice none 0 0)] ∧
 zE Tryz.prog 129 = some (.raw (Value.slice none 0 0)) ∧
 cZ Tryz.prog 129 = some (173, some (2, 32)) ∧
 wE Tryz.prog 129 = true ∧
 Tryz.prog.concrete 129 = true ∧
 vI Tryz.prog 142 = some (1, false) ∧
 zC Tryz.prog 142 = some [(Value.pointer none)] ∧
 zE Tryz.prog 142 = some (.raw (Value.pointer none)) ∧
 Tryz.prog.concrete 142 = true ∧
 vI Tryz.prog 144 = some (2, true) ∧
 zC Tryz.prog 144 = some [(Value.pointer none), (Value.slice none 0 0)] ∧
 zE Tryz.prog 144 = some (.agg [.raw (Value.pointer none), .raw (Value.slice none 0 0)]) ∧
 fI Tryz.prog 144 0 = some (0, some 1, some false) ∧
 fI Tryz.prog 144 1 = some (1, some 1, some false) ∧
 aV Tryz.prog 144 = some [(0, 1), (1, 1)] ∧
 Tryz.prog.concrete 144 = true ∧
 vI Tryz.prog 146 = some (1, false) ∧
 zC Tryz.prog 146 = some [Value.nilIface] ∧
 zE Tryz.prog 146 = some (.raw Value.nilIface) ∧
 isIf Tryz.prog 146 = true ∧
 vI Tryz.prog 151 = some (1, false) ∧
 zC Tryz.prog 151 = some [Value.nilFunc] ∧
 zE Tryz.prog 151 = some (.raw Value.nilFunc) ∧
 Tryz.prog.concrete 151 = true ∧
 vI Tryz.prog 159 = some (1, false) ∧
 zC Tryz.prog 159 = some [Value.nilFunc] ∧
 zE Tryz.prog 159 = some (.raw Value.nilFunc) ∧
 Tryz.prog.concrete 159 = true ∧
 vI Tryz.prog 161 = some (1, false) ∧
 zC Tryz.prog 161 = some [(Value.slice none 0 0)] ∧
 zE Tryz.prog 161 = some (.raw (Value.slice none 0 0)) ∧
 cZ Tryz.prog 161 = some (165, some (2, 32)) ∧
 wE Tryz.prog 161 = true ∧
 Tryz.prog.concrete 161 = true ∧
 vI Tryz.prog 163 = some (1, false) ∧
 zC Tryz.prog 163 = some [Value.nilFunc] ∧
 zE Tryz.prog 163 = some (.raw Value.nilFunc) ∧
 Tryz.prog.concrete 163 = true ∧
 vI Tryz.prog 165 = some (2, true) ∧
 zC Tryz.prog 165 = some [(Value.slice none 0 0), (Value.int IntKind.i64 0)] ∧
 zE Tryz.prog 165 = some (.agg [.raw (Value.slice none 0 0), .raw (Value.int IntKind.i64 0)]) ∧
 fI Tryz.prog 165 0 = some (0, some 1, some false) ∧
 fI Tryz.prog 165 1 = some (1, some 1, some false) ∧
 aV Tryz.prog 165 = some [(0, 1), (1, 1)] ∧
 Tryz.prog.concrete 165 = true ∧
 vI Tryz.prog 167 = some (1, false) ∧
 zC Tryz.prog 167 = some [(Value.pointer none)] ∧
 zE Tryz.prog 167 = some (.raw (Value.pointer none)) ∧
 Tryz.prog.concrete 167 = true ∧
 vI Tryz.prog 173 = some (2, true) ∧
 zC Tryz.prog 173 = some [(Value.slice none 0 0), (Value.int IntKind.i64 0)] ∧
 zE Tryz.prog 173 = some (.agg [.raw (Value.slice none 0 0), .raw (Value.int IntKind.i64 0)]) ∧
 fI Tryz.prog 173 0 = some (0, some 1, some false) ∧
 fI Tryz.prog 173 1 = some (1, some 1, some false) ∧
 aV Tryz.prog 173 = some [(0, 1), (1, 1)] ∧
 Tryz.prog.concrete 173 = true := by
 and_intros <;> kernel_rfl
theorem F3 : vI Tryz.prog 176 = some (1, false) ∧
 zC Tryz.prog 176 = some [Value.nilFunc] ∧
 zE Tryz.prog 176 = some (.raw Value.nilFunc) ∧
 Tryz.prog.concrete 176 = true ∧
 vI Tryz.prog 187 = some (2, true) ∧
 zC Tryz.prog 187 = some [(Value.string ⟨#[]⟩), (Value.int IntKind.i64 0)] ∧
 zE Tryz.prog 187 = some (.agg [.raw (Value.string ⟨#[]⟩), .raw (Value.int IntKind.i64 0)]) ∧
 fI Tryz.prog 187 0 = some (0, some 1, some false) ∧
 fI Tryz.prog 187 1 = some (1, some 1, some false) ∧
 aV Tryz.prog 187 = some [(0, 1), (1, 1)] ∧
 Tryz.prog.concrete 187 = true ∧
 vI Tryz.prog 190 = some (1, false) ∧
 zC Tryz.prog 190 = some [(Value.pointer none)] ∧
 zE Tryz.prog 190 = some (.raw (Value.pointer none)) ∧
 Tryz.prog.concrete 190 = true ∧
 vI Tryz.prog 201 = some (1, false) ∧
 zC Tryz.prog 201 = some [(Value.int IntKind.u64 0)] ∧
 zE Tryz.prog 201 = some (.raw (Value.int IntKind.u64 0)) ∧
 Tryz.prog.concrete 201 = true ∧
 vI Tryz.prog 206 = some (1, false) ∧
 zC Tryz.prog 206 = some [Value.nilIface] ∧
 zE Tryz.prog 206 = some (.raw Value.nilIface) ∧
 isIf Tryz.prog 206 = true ∧
 vI Tryz.prog 218 = some (1, false) ∧
 zC Tryz.prog 218 = some [(Value.map none)] ∧
 zE Tryz.prog 218 = some (.raw (Value.map none)) ∧
 Tryz.prog.concrete 218 = true ∧
 vI Tryz.prog 219 = some (1, false) ∧
 zC Tryz.prog 219 = some [(Value.pointer none)] ∧
 zE Tryz.prog 219 = some (.raw (Value.pointer none)) ∧
 Tryz.prog.concrete 219 = true ∧
 vI Tryz.prog 226 = some (1, false) ∧
 zC Tryz.prog 226 = some [(Value.pointer none)] ∧
 zE Tryz.prog 226 = some (.raw (Value.pointer none)) ∧
 Tryz.prog.concrete 226 = true ∧
 vI Tryz.prog 243 = some (4, true) ∧
 zC Tryz.prog 243 = some [(Value.int IntKind.i64 0), (Value.int IntKind.i64 0), (Value.int IntKind.i64 0), (Value.int IntKind.i64 0)] ∧
 zE Tryz.prog 243 = some (.agg [.raw (Value.int IntKind.i64 0), .raw (Value.int IntKind.i64 0), .raw (Value.int IntKind.i64 0), .raw (Value.int IntKind.i64 0)]) ∧
 Tryz.prog.concrete 243 = true ∧
 vI Tryz.prog 244 = some (24, true) ∧
 Tryz.prog.concrete 244 = true ∧
 vI Tryz.prog 245 = some (1, false) ∧
 zC Tryz.prog 245 = some [(Value.int IntKind.u64 0)] ∧
 zE Tryz.prog 245 = some (.raw (Value.int IntKind.u64 0)) ∧
 Tryz.prog.concrete 245 = true ∧
 vI Tryz.prog 254 = some (20, true) ∧
 Tryz.prog.concrete 254 = true ∧
 vI Tryz.prog 255 = some (1, false) ∧
 zC Tryz.prog 255 = some [(Value.int IntKind.u32 0)] ∧
 zE Tryz.prog 255 = some (.raw (Value.int IntKind.u32 0)) ∧
 Tryz.prog.concrete 255 = true ∧
 vI Tryz.prog 256 = some (65, true) ∧
 Tryz.prog.concrete 256 = true ∧
 vI Tryz.prog 258 = some (1, false) ∧
 zC Tryz.prog 258 = some [(Value.int IntKind.i64 0)] ∧
 zE Tryz.prog 258 = some (.raw (Value.int IntKind.i64 0)) ∧
 Tryz.prog.concrete 258 = true ∧
 vI Tryz.prog 261 = some (1, false) ∧
 zC Tryz.prog 261 = some [(Value.pointer none)] ∧
 zE Tryz.prog 261 = some (.raw (Value.pointer none)) ∧
 Tryz.prog.concrete 261 = true ∧
 vI Tryz.prog 269 = some (3, true) ∧
 zC Tryz.prog 269 = some [(Value.string ⟨#[]⟩), (Value.string ⟨#[]⟩), Value.nilIface] ∧
 zE Tryz.prog 269 = some (.agg [.raw (Value.string ⟨#[]⟩), .raw (Value.string ⟨#[]⟩), .raw Value.nilIface]) ∧
 fI Tryz.prog 269 0 = some (0, some 1, some false) ∧
 fI Tryz.prog 269 1 = some (1, some 1, some false) ∧
 fI Tryz.prog 269 2 = some (2, some 1, some false) ∧
 aV Tryz.prog 269 = some [(0, 1), (1, 1), (2, 1)] ∧
 Tryz.prog.concrete 269 = true ∧
 vI Tryz.prog 271 = some (32, true) ∧
 Tryz.prog.concrete 271 = true ∧
 vI Tryz.prog 272 = some (64, true) ∧
 Tryz.prog.concrete 272 = true ∧
 vI Tryz.prog 274 = some (1, false) ∧
 zC Tryz.prog 274 = some [(Value.pointer none)] ∧
 zE Tryz.prog 274 = some (.raw (Value.pointer none)) ∧
 Tryz.prog.concrete 274 = true ∧
 vI Tryz.prog 276 = some (1, true) ∧
 zC Tryz.prog 276 = some [(Value.string ⟨#[]⟩)] ∧
 zE Tryz.prog 276 = some (.agg [.raw (Value.string ⟨#[]⟩)]) ∧
 fI Tryz.prog 276 0 = some (0, some 1, some false) ∧
 aV Tryz.prog 276 = some [(0, 1)] ∧
 Tryz.prog.concrete 276 = true ∧
 eC Tryz.prog 2 = some .i64 ∧
 eC Tryz.prog 3 = some .i64 ∧
 isBo Tryz.prog 4 = true ∧
 eC Tryz.prog 5 = some .u8 ∧
 eC Tryz.prog 21 = some .i32 ∧
 eC Tryz.prog 201 = some .u64 ∧
 iY Tryz.prog 218 = some (9, 3) := by
 and_intros <;> kernel_rfl
theorem F4 : eC Tryz.prog 245 = some .u64 ∧
 eC Tryz.prog 255 = some .u32 ∧
 eC Tryz.prog 258 = some .i64 := by
 and_intros <;> kernel_rfl
attribute [go_sem] F0 F1 F2 F3 F4
theorem mixed : Tryz.prog.follows .mixedOrders = true := by kernel_rfl
noncomputable abbrev P := Tryz.prog
structure Entry where
  key : ByteArray
  seq : Int
  kind : Int
  text : ByteArray
  n : Int
deriving DecidableEq
structure Run where
  ents : List Entry
  mask : Int
deriving DecidableEq
structure Tree where
  seq : Int
  mem : List Entry
  levels : List (List Run)
  snaps : List Int
deriving DecidableEq
structure Disk where
  log : ByteArray
  safe : Int
  levels : List (List Run)
  seq : Int
deriving DecidableEq
structure Store where
  up : Bool
  tree : Tree
  disk : Disk
deriving DecidableEq
def inA (n : Int) : AV := .raw (.int .i64 n)
def enA (e : Entry) : AV := .agg [.raw (.string e.key), .raw (.int .i64 e.seq), .raw (.int .i64 e.kind), .raw (.string e.text), .raw (.int .i64 e.n)]
def rA (r : Run) : AV := .agg [.sl 5 (r.ents.map enA), .raw (.int .i64 r.mask)]
def runOwn (r : Run) : AV := .agg [.own 65 5 (r.ents.map enA), .raw (.int .i64 r.mask)]
def rsA (rs : List Run) : AV := .sl 2 (rs.map rA)
def rsO (rs : List Run) : AV := .own 109 2 (rs.map runOwn)
def trA (t : Tree) : AV := .agg [.raw (.int .i64 t.seq), .sl 5 (t.mem.map enA), .sl 1 (t.levels.map rsA), .sl 1 (t.snaps.map inA)]
def dkA (d : Disk) : AV := .agg [.raw (.string d.log), .raw (.int .i64 d.safe), .sl 1 (d.levels.map rsA), .raw (.int .i64 d.seq)]
def stA (s : Store) : AV := .agg [.raw (.bool s.up), .raw (.int .i64 s.tree.seq), .sl 5 (s.tree.mem.map enA), .sl 1 (s.tree.levels.map rsA), .sl 1 (s.tree.snaps.map inA), .raw (.string s.disk.log), .raw (.int .i64 s.disk.safe), .sl 1 (s.disk.levels.map rsA), .raw (.int .i64 s.disk.seq)]
theorem nD {α : Type} {f : α → AV} (h : ∀ U a, (f a).bel U) (U : Nat → Prop) (ls : List α) : aC U (ls.map f) := by
  rw [bLi]; intro x hx; obtain ⟨l, _, rfl⟩ := List.mem_map.1 hx; exact h U l
theorem eN (U : Nat → Prop) (e : Entry) : (enA e).bel U := ⟨trivial, trivial, trivial, trivial, trivial, trivial⟩
theorem enB (U : Nat → Prop) (ls : List Entry) : aC U (ls.map enA) := nD eN U ls
theorem bE (U : Nat → Prop) (ls : List Int) : aC U (ls.map inA) := nD (f := inA) (fun _ _ => trivial) U ls
theorem runAV_b (U : Nat → Prop) (r : Run) : (rA r).bel U := ⟨enB _ _, trivial, trivial⟩
theorem runOwn_b (U : Nat → Prop) (r : Run) : (runOwn r).bel U := ⟨enB _ _, trivial, trivial⟩
theorem mN (U : Nat → Prop) (ls : List Run) : aC U (ls.map rA) := nD runAV_b U ls
theorem qI (U : Nat → Prop) (ls : List Run) : aC U (ls.map runOwn) := nD runOwn_b U ls
theorem aF (U : Nat → Prop) (ls : List (List Run)) : aC U (ls.map rsA) := nD mN U ls
theorem eH (U : Nat → Prop) (ls : List (List Run)) : aC U (ls.map rsO) := nD qI U ls
theorem dX (σ : Nat → Nat) (ls : List Entry) : aA σ (ls.map enA) = ls.map enA := cO σ (enB _ ls)
theorem eW (σ : Nat → Nat) (ls : List Int) : aA σ (ls.map inA) = ls.map inA := cO σ (bE _ ls)
theorem runAV_ren (σ : Nat → Nat) (ls : List Run) : aA σ (ls.map rA) = ls.map rA := cO σ (mN _ ls)
theorem yI (σ : Nat → Nat) (ls : List Run) : aA σ (ls.map runOwn) = ls.map runOwn := cO σ (qI _ ls)
theorem yM (σ : Nat → Nat) (ls : List (List Run)) : aA σ (ls.map rsA) = ls.map rsA := cO σ (aF _ ls)
theorem bH (σ : Nat → Nat) (ls : List (List Run)) : aA σ (ls.map rsO) = ls.map rsO := cO σ (eH _ ls)
theorem entAV_elem (ls : List Entry) : (ls.map enA).all AV.elem = true := by
  rw [List.all_map, List.all_eq_true]; intro l _; rfl
theorem intAV_elem (ls : List Int) : (ls.map inA).all AV.elem = true := by
  rw [List.all_map, List.all_eq_true]; intro l _; rfl
theorem runAV_elem (ls : List Run) : (ls.map rA).all AV.elem = true := by
  rw [List.all_map, List.all_eq_true]; intro l _; rfl
theorem runsAV_elem (ls : List (List Run)) : (ls.map rsA).all AV.elem = true := by
  rw [List.all_map, List.all_eq_true]; intro l _; rfl
theorem dH (ls : List Entry) : fzL (ls.map enA) = ls.map enA := by rw [qW]; rfl
theorem gA (ls : List Int) : fzL (ls.map inA) = ls.map inA := by rw [qW]; rfl
theorem runAV_fz1 (r : Run) : (rA r).fz = rA r := by simp [rA, AV.fz, fzL, dH]
theorem runOwn_fz1 (r : Run) : (runOwn r).fz = rA r := by simp [rA, runOwn, AV.fz, fzL, dH]
theorem runAV_fz (ls : List Run) : fzL (ls.map rA) = ls.map rA := by rw [qW]; exact List.map_congr_left fun r _ => runAV_fz1 r
theorem sQ (ls : List Run) : fzL (ls.map runOwn) = ls.map rA := by rw [qW]; exact List.map_congr_left fun r _ => runOwn_fz1 r
theorem runsAV_fz (ls : List (List Run)) : fzL (ls.map rsA) = ls.map rsA := by rw [qW]; exact List.map_congr_left fun r _ => by simp [rsA, AV.fz, runAV_fz]
theorem dA (ls : List (List Run)) : fzL (ls.map rsO) = ls.map rsA := by rw [qW]; exact List.map_congr_left fun r _ => by simp [rsA, rsO, AV.fz, sQ]
attribute [go_sem] enB bE mN qI aF eH dX eW runAV_ren yI yM bH entAV_elem intAV_elem runAV_elem runsAV_elem dH gA runAV_fz sQ runsAV_fz dA
theorem qF {α : Type} {xs : List α} {i : Nat} {x : α} (h : xs[i]? = some x) : xs.drop i = x :: xs.drop (i + 1) := by
  obtain ⟨hlt, he⟩ := List.getElem?_eq_some_iff.1 h
  rw [List.drop_eq_getElem_cons hlt, he]
theorem ix {α : Type} {xs : List α} {i : Nat} (h : i < xs.length) : ∃ x, xs[i]? = some x ∧ xs.drop i = x :: xs.drop (i + 1) ∧ x ∈ xs :=
  ⟨xs[i], List.getElem?_eq_getElem h, qF (List.getElem?_eq_getElem h), List.getElem_mem h⟩
theorem wiS (i : Nat) (h : (i : Int) < 9223372036854775807) : IntKind.i64.wrap ((i : Int) + 1) = ((i + 1 : Nat) : Int) := by rw [IntKind.wrap_i64]; omega
abbrev w64 := @IntKind.wrap_i64
def hP (e : Entry) (left : Int) : Int := if left - (e.key.size : Int) < 0 then -1 else if left - e.key.size - (e.text.size : Int) < 0 then -1 else left - e.key.size - e.text.size
def nO {α : Type} (f : α → Int → Int) : List α → Int → Int
  | [], n => n
  | x :: r, n => if f x n < 0 then -1 else nO f r (f x n)
def szL {α : Type} (f : α → Int → Int) (ls : List α) (left : Int) : Int := if left - (ls.length : Int) < 0 then -1 else nO f ls (left - ls.length)
abbrev szEntryS := szL hP
def nU (r : Run) (left : Int) : Int := if szEntryS r.ents left < 0 then -1 else szEntryS r.ents left
abbrev szRunS := szL nU
abbrev szRunSS := szL szRunS
def tR (ls : List Int) (left : Int) : Int := if left - (ls.length : Int) < 0 then -1 else left - ls.length
def eD (t : Tree) (left : Int) : Int := if szEntryS t.mem left < 0 then -1 else if szRunSS t.levels (szEntryS t.mem left) < 0 then -1 else tR t.snaps (szRunSS t.levels (szEntryS t.mem left))
def pU (d : Disk) (left : Int) : Int := if left - (d.log.size : Int) < 0 then -1 else szRunSS d.levels (left - d.log.size)
def lL (s : Store) (left : Int) : Int := if eD s.tree left < 0 then -1 else pU s.disk (eD s.tree left)
def Lq (x n : Int) : Prop := x ≤ n ∧ -1 ≤ x
theorem szGo_le {α : Type} {f : α → Int → Int} (hf : ∀ x n, 0 ≤ n → Lq (f x n) n) : ∀ (ls : List α) (n : Int), 0 ≤ n → Lq (nO f ls n) n
  | [], n, h => ⟨Int.le_refl _, by simp only [nO]; omega⟩
  | x :: r, n, h => by
    unfold nO
    have h1 := hf x n h
    unfold Lq at *
    split
    · omega
    have := szGo_le hf r (f x n) (by omega); unfold Lq at this; omega
theorem szL_le {α : Type} {f : α → Int → Int} (hf : ∀ x n, 0 ≤ n → Lq (f x n) n) (ls : List α) (n : Int) (h : 0 ≤ n) : Lq (szL f ls n) n := by
  unfold szL; split
  · unfold Lq; omega
  have := szGo_le hf ls (n - ls.length) (by omega); unfold Lq at *; omega
theorem qA (e : Entry) (n : Int) (h : 0 ≤ n) : Lq (hP e n) n := by unfold hP Lq; split <;> (try split) <;> omega
theorem qX (ls : List Entry) (n : Int) (h : 0 ≤ n) : Lq (szEntryS ls n) n := szL_le qA ls n h
theorem zS (r : Run) (n : Int) (h : 0 ≤ n) : Lq (nU r n) n := by
  have := qX r.ents n h
  unfold nU Lq at *
  split <;> omega
theorem wO (ls : List Run) (n : Int) (h : 0 ≤ n) : Lq (szRunS ls n) n := szL_le zS ls n h
theorem pT (ls : List (List Run)) (n : Int) (h : 0 ≤ n) : Lq (szRunSS ls n) n := szL_le wO ls n h
theorem szIntS_le (ls : List Int) (n : Int) (h : 0 ≤ n) : Lq (tR ls n) n := by unfold tR Lq; split <;> omega
theorem szTree_le (t : Tree) (n : Int) (h : 0 ≤ n) : Lq (eD t n) n := by
  have h1 := qX t.mem n h
  unfold eD; split
  · unfold Lq at *; omega
  have h2 := pT t.levels (szEntryS t.mem n) (by unfold Lq at *; omega)
  split
  · unfold Lq at *; omega
  have h3 := szIntS_le t.snaps (szRunSS t.levels (szEntryS t.mem n)) (by unfold Lq at *; omega)
  unfold Lq at *; omega
theorem szDisk_le (d : Disk) (n : Int) (h : 0 ≤ n) : Lq (pU d n) n := by
  unfold pU; split
  · unfold Lq; omega
  have h2 := pT d.levels (n - d.log.size) (by omega)
  unfold Lq at *; omega
def mEnt (e : Entry) : Prop := e.key.size ≤ 9223372036854775807 ∧ e.text.size ≤ 9223372036854775807
def mEnts (ls : List Entry) : Prop := ls.length ≤ 9223372036854775807 ∧ ∀ e ∈ ls, mEnt e
def mRuns (ls : List Run) : Prop := ls.length ≤ 9223372036854775807 ∧ ∀ r ∈ ls, mEnts r.ents
def mLvs (ls : List (List Run)) : Prop := ls.length ≤ 9223372036854775807 ∧ ∀ r ∈ ls, mRuns r
theorem w_laws_szEntry (e : Entry) (left : Int) (h0 : 0 ≤ left) (h1 : left ≤ 1048576) (hz : mEnt e) : aB P 26 [enA e, .raw (.int .i64 left)] [] 0 (.raw (.int .i64 (hP e left))) := by
 refine pq 20 [.tmp 4] Tryz.func26 ?_
 simp only [enA]
 obtain ⟨hz1, hz2⟩ := hz
 have hw : IntKind.i64.wrap (left - (e.key.size : Int)) = left - e.key.size := by rw [w64]; omega
 refine aj ?_; refine sr rfl fun _ k2 => ?_; simp only [go_sem, hw]
 refine k2 (sq fun _ k3 => (aj ?_))
 refine cd rfl (fun hc1 => ?_) fun hc1 => ?_
 · have n1 : left - (e.key.size : Int) < 0 := by simpa using hc1
   refine aj (wR ?_)
   refine fO ?_ trivial; simp only [go_sem, hP, n1]
 have n1 : ¬ (left - (e.key.size : Int) < 0) := by simpa using hc1
 refine wk (k3 ?_)
 have hw2 : IntKind.i64.wrap (left - (e.key.size : Int) - e.text.size) = left - e.key.size - e.text.size := by rw [w64]; omega
 refine sr rfl fun _ k6 => ?_; simp only [go_sem, hw2]
 refine k6 (sq fun _ k7 => (aj ?_))
 refine cd rfl (fun hc2 => ?_) fun hc2 => ?_
 · have n2 : left - (e.key.size : Int) - e.text.size < 0 := by simpa using hc2
   refine aj (wR ?_)
   refine fO ?_ trivial; simp only [go_sem, hP, n1, n2]
 have n2 : ¬ (left - (e.key.size : Int) - e.text.size < 0) := by simpa using hc2
 refine wk (k7 (aj (wR ?_)))
 refine fO ?_ trivial; simp only [go_sem, hP, n1, n2]
theorem tT (ls : List Entry) (left : Int) (h0 : 0 ≤ left) (h1 : left ≤ 1048576) (hz : mEnts ls) : aB P 8 [.sl 5 (ls.map enA), .raw (.int .i64 left)] [] 0 (.raw (.int .i64 (szL hP ls left))) := by
 refine pq 27 [.tmp 4] Tryz.func8 ?_
 obtain ⟨hlen, hz⟩ := hz
 have hw0 : IntKind.i64.wrap (left - (ls.length : Int)) = left - ls.length := by rw [w64]; omega
 refine aj ?_; refine sr rfl fun _ k2 => ?_; simp only [go_sem, hw0]
 refine k2 (sq fun _ k3 => (aj ?_))
 refine cd rfl (fun hc1 => ?_) fun hc1 => ?_
 · have n1 : left - (ls.length : Int) < 0 := by simpa using hc1
   refine aj (wR ?_)
   refine fO ?_ trivial; simp only [go_sem, szL, n1]
 have n1 : ¬ (left - (ls.length : Int) < 0) := by simpa using hc1
 refine wk (k3 (sq fun _ k6 => (aj (wb ?_))))
 refine wl (α := Nat × Int) (fun x => x.1 ≤ ls.length ∧ 0 ≤ x.2 ∧ x.2 ≤ 1048576 ∧ nO hP (ls.drop x.1) x.2 = nO hP ls (left - ls.length)) (fun x => ls.length - x.1) (fun x => ([(0, .sl 5 (ls.map enA)), (1, .raw (.int .i64 x.2)), (5, .raw (.int .i64 (x.1 : Int)))], [])) 0 (0, left - ls.length) ⟨Nat.zero_le _, by omega, by simp only; omega, by simp⟩ [] ?_ ?_
 · simp only [go_sem, Int.natCast_zero] <;> simp
 rintro ⟨i, n⟩ ⟨hi, hn0, hn1, hfold⟩
 simp only at hi hn0 hn1 hfold ⊢
 refine sq fun _ k8 => aj ?_
 refine cdS rfl (fun hc2 => ?_) fun hc2 => ?_
 · have hge : ls.length ≤ i := Nat.not_lt.1 (by simpa using hc2)
   refine we (jt (k6 ?_))
   refine aj (wR ?_)
   rw [List.drop_eq_nil_of_le hge, nO] at hfold; refine fO ?_ trivial; simp only [go_sem, szL, if_neg n1, ← hfold]
 have hlt : i < ls.length := (by simpa using hc2); obtain ⟨l, hl, hdrop, hml⟩ := ix hlt
 refine wk (k8 (sq fun _ k10 => (wb (sr rfl fun _ k11 => ?_))))
 simp only [go_sem, hl, enA]; refine jr ?_
 refine vr rfl rfl rfl Tryz.func26 (w_laws_szEntry l n hn0 hn1 (hz l hml)) rfl (by simp only [go_sem, enA]) ?_
 refine jr (k11 ?_)
 refine aj ?_
 refine cd rfl (fun hc3 => ?_) fun hc3 => ?_
 · have n3 : hP l n < 0 := by simpa using hc3
   refine aj (wR ?_)
   simp only [go_sem, lQ]; rw [hdrop, nO, if_pos n3] at hfold; refine fO ?_ trivial; simp only [go_sem, szL, if_neg n1, ← hfold]
 have n3 : ¬ (hP l n < 0) := by simpa using hc3
 refine wk (jt (k10 ?_))
 refine jw (wiS i (by omega)) ?_
 refine jt ?_
 refine ⟨(i + 1, hP l n), ⟨by omega, by simp only; omega, by have := (qA l n hn0).1; simp only; omega, by rw [hdrop, nO, if_neg n3] at hfold; exact hfold⟩, by omega, [], ?_⟩
 simp only [go_sem] <;> simp
theorem w_laws_szRun (r : Run) (left : Int) (h0 : 0 ≤ left) (h1 : left ≤ 1048576) (hz : mEnts r.ents) : aB P 148 [rA r, .raw (.int .i64 left)] [] 0 (.raw (.int .i64 (nU r left))) := by
 refine pq 12 [.tmp 4] Tryz.func148 ?_
 simp only [rA]; refine aj ?_
 refine sr rfl fun _ k2 => ja ?_
 refine vr rfl rfl rfl Tryz.func8 (tT r.ents left h0 h1 hz) rfl (by simp only [go_sem]) (k2 ?_)
 refine sq fun _ k3 => aj ?_
 refine cd rfl (fun hc1 => ?_) fun hc1 => ?_
 · have n1 : szEntryS r.ents left < 0 := by simpa using hc1
   refine aj (wR ?_)
   refine fO ?_ trivial; simp only [go_sem, nU, n1]
 have n1 : ¬ (szEntryS r.ents left < 0) := by simpa using hc1
 refine wk (k3 (aj (wR ?_)))
 refine fO ?_ trivial; simp only [go_sem, nU, n1]
theorem w_laws_szRunS (ls : List Run) (left : Int) (h0 : 0 ≤ left) (h1 : left ≤ 1048576) (hz : mRuns ls) : aB P 95 [.sl 2 (ls.map rA), .raw (.int .i64 left)] [] 0 (.raw (.int .i64 (szL nU ls left))) := by
 refine pq 27 [.tmp 4] Tryz.func95 ?_
 obtain ⟨hlen, hz⟩ := hz
 have hw0 : IntKind.i64.wrap (left - (ls.length : Int)) = left - ls.length := by rw [w64]; omega
 refine aj ?_; refine sr rfl fun _ k2 => ?_; simp only [go_sem, hw0]
 refine k2 (sq fun _ k3 => (aj ?_))
 refine cd rfl (fun hc1 => ?_) fun hc1 => ?_
 · have n1 : left - (ls.length : Int) < 0 := by simpa using hc1
   refine aj (wR ?_)
   refine fO ?_ trivial; simp only [go_sem, szL, n1]
 have n1 : ¬ (left - (ls.length : Int) < 0) := by simpa using hc1
 refine wk (k3 (sq fun _ k6 => (aj (wb ?_))))
 refine wl (α := Nat × Int) (fun x => x.1 ≤ ls.length ∧ 0 ≤ x.2 ∧ x.2 ≤ 1048576 ∧ nO nU (ls.drop x.1) x.2 = nO nU ls (left - ls.length)) (fun x => ls.length - x.1) (fun x => ([(0, .sl 2 (ls.map rA)), (1, .raw (.int .i64 x.2)), (5, .raw (.int .i64 (x.1 : Int)))], [])) 0 (0, left - ls.length) ⟨Nat.zero_le _, by omega, by simp only; omega, by simp⟩ [] ?_ ?_
 · simp only [go_sem, Int.natCast_zero] <;> simp
 rintro ⟨i, n⟩ ⟨hi, hn0, hn1, hfold⟩
 simp only at hi hn0 hn1 hfold ⊢
 refine sq fun _ k8 => aj ?_
 refine cdS rfl (fun hc2 => ?_) fun hc2 => ?_
 · have hge : ls.length ≤ i := Nat.not_lt.1 (by simpa using hc2)
   refine we (jt (k6 ?_))
   refine aj (wR ?_)
   rw [List.drop_eq_nil_of_le hge, nO] at hfold; refine fO ?_ trivial; simp only [go_sem, szL, if_neg n1, ← hfold]
 have hlt : i < ls.length := (by simpa using hc2); obtain ⟨l, hl, hdrop, hml⟩ := ix hlt
 refine wk (k8 (sq fun _ k10 => (wb (sr rfl fun _ k11 => ?_))))
 simp only [go_sem, hl, rA]; refine jr ?_
 refine vr rfl rfl rfl Tryz.func148 (w_laws_szRun l n hn0 hn1 (hz l hml)) rfl (by simp only [go_sem, rA]) ?_
 refine jr (k11 ?_)
 refine aj ?_
 refine cd rfl (fun hc3 => ?_) fun hc3 => ?_
 · have n3 : nU l n < 0 := by simpa using hc3
   refine aj (wR ?_)
   simp only [go_sem, lQ]; rw [hdrop, nO, if_pos n3] at hfold; refine fO ?_ trivial; simp only [go_sem, szL, if_neg n1, ← hfold]
 have n3 : ¬ (nU l n < 0) := by simpa using hc3
 refine wk (jt (k10 ?_))
 refine jw (wiS i (by omega)) ?_
 refine jt ?_
 refine ⟨(i + 1, nU l n), ⟨by omega, by simp only; omega, by have := (zS l n hn0).1; simp only; omega, by rw [hdrop, nO, if_neg n3] at hfold; exact hfold⟩, by omega, [], ?_⟩
 simp only [go_sem] <;> simp
theorem uQ (ls : List (List Run)) (left : Int) (h0 : 0 ≤ left) (h1 : left ≤ 1048576) (hz : mLvs ls) : aB P 56 [.sl 1 (ls.map rsA), .raw (.int .i64 left)] [] 0 (.raw (.int .i64 (szL szRunS ls left))) := by
 refine pq 27 [.tmp 4] Tryz.func56 ?_
 obtain ⟨hlen, hz⟩ := hz
 have hw0 : IntKind.i64.wrap (left - (ls.length : Int)) = left - ls.length := by rw [w64]; omega
 refine aj ?_; refine sr rfl fun _ k2 => ?_; simp only [go_sem, hw0]
 refine k2 (sq fun _ k3 => (aj ?_))
 refine cd rfl (fun hc1 => ?_) fun hc1 => ?_
 · have n1 : left - (ls.length : Int) < 0 := by simpa using hc1
   refine aj (wR ?_)
   refine fO ?_ trivial; simp only [go_sem, szL, n1]
 have n1 : ¬ (left - (ls.length : Int) < 0) := by simpa using hc1
 refine wk (k3 (sq fun _ k6 => (aj (wb ?_))))
 refine wl (α := Nat × Int) (fun x => x.1 ≤ ls.length ∧ 0 ≤ x.2 ∧ x.2 ≤ 1048576 ∧ nO szRunS (ls.drop x.1) x.2 = nO szRunS ls (left - ls.length)) (fun x => ls.length - x.1) (fun x => ([(0, .sl 1 (ls.map rsA)), (1, .raw (.int .i64 x.2)), (5, .raw (.int .i64 (x.1 : Int)))], [])) 0 (0, left - ls.length) ⟨Nat.zero_le _, by omega, by simp only; omega, by simp⟩ [] ?_ ?_
 · simp only [go_sem, Int.natCast_zero] <;> simp
 rintro ⟨i, n⟩ ⟨hi, hn0, hn1, hfold⟩
 simp only at hi hn0 hn1 hfold ⊢
 refine sq fun _ k8 => aj ?_
 refine cdS rfl (fun hc2 => ?_) fun hc2 => ?_
 · have hge : ls.length ≤ i := Nat.not_lt.1 (by simpa using hc2)
   refine we (jt (k6 ?_))
   refine aj (wR ?_)
   rw [List.drop_eq_nil_of_le hge, nO] at hfold; refine fO ?_ trivial; simp only [go_sem, szL, if_neg n1, ← hfold]
 have hlt : i < ls.length := (by simpa using hc2); obtain ⟨l, hl, hdrop, hml⟩ := ix hlt
 refine wk (k8 (sq fun _ k10 => (wb (sr rfl fun _ k11 => ?_))))
 simp only [go_sem, hl, rsA]; refine jr ?_
 refine vr rfl rfl rfl Tryz.func95 (w_laws_szRunS l n hn0 hn1 (hz l hml)) rfl (by simp only [go_sem, rsA]) ?_
 refine jr (k11 ?_)
 refine aj ?_
 refine cd rfl (fun hc3 => ?_) fun hc3 => ?_
 · have n3 : szRunS l n < 0 := by simpa using hc3
   refine aj (wR ?_)
   simp only [go_sem, lQ]; rw [hdrop, nO, if_pos n3] at hfold; refine fO ?_ trivial; simp only [go_sem, szL, if_neg n1, ← hfold]
 have n3 : ¬ (szRunS l n < 0) := by simpa using hc3
 refine wk (jt (k10 ?_))
 refine jw (wiS i (by omega)) ?_
 refine jt ?_
 refine ⟨(i + 1, szRunS l n), ⟨by omega, by simp only; omega, by have := (wO l n hn0).1; simp only; omega, by rw [hdrop, nO, if_neg n3] at hfold; exact hfold⟩, by omega, [], ?_⟩
 simp only [go_sem] <;> simp
theorem w_laws_szIntS (ls : List Int) (left : Int) (h0 : 0 ≤ left) (h1 : left ≤ 1048576) (hz : ls.length ≤ 9223372036854775807) : aB P 57 [.sl 1 (ls.map inA), .raw (.int .i64 left)] [] 0 (.raw (.int .i64 (tR ls left))) := by
 refine pq 12 [.tmp 4] Tryz.func57 ?_
 have hw0 : IntKind.i64.wrap (left - (ls.length : Int)) = left - ls.length := by rw [w64]; omega
 refine aj ?_; refine sr rfl fun _ k2 => ?_; simp only [go_sem, hw0]
 refine k2 (sq fun _ k3 => (aj ?_))
 refine cd rfl (fun hc1 => ?_) fun hc1 => ?_
 · have n1 : left - (ls.length : Int) < 0 := by simpa using hc1
   refine aj (wR ?_)
   refine fO ?_ trivial; simp only [go_sem, tR, n1]
 have n1 : ¬ (left - (ls.length : Int) < 0) := by simpa using hc1
 refine wk (k3 (aj (wR ?_)))
 refine fO ?_ trivial; simp only [go_sem, tR, n1]
theorem w_laws_szTree (t : Tree) (left : Int) (h0 : 0 ≤ left) (h1 : left ≤ 1048576) (hz1 : mEnts t.mem) (hz2 : mLvs t.levels) (hz3 : t.snaps.length ≤ 9223372036854775807) : aB P 24 [trA t, .raw (.int .i64 left)] [] 0 (.raw (.int .i64 (eD t left))) := by
 refine pq 24 [.tmp 4] Tryz.func24 ?_
 simp only [trA]
 have b1 := qX t.mem left h0
 refine aj ?_
 refine sr rfl fun _ k2 => ja ?_
 refine vr rfl rfl rfl Tryz.func8 (tT t.mem left h0 h1 hz1) rfl (by simp only [go_sem]) (k2 ?_)
 refine sq fun _ k3 => aj ?_
 refine cd rfl (fun hc1 => ?_) fun hc1 => ?_
 · have n1 : szEntryS t.mem left < 0 := by simpa using hc1
   refine aj (wR ?_)
   refine fO ?_ trivial; simp only [go_sem, eD, n1]
 have n1 : ¬ (szEntryS t.mem left < 0) := by simpa using hc1
 refine wk (k3 ?_)
 have b2 := pT t.levels (szEntryS t.mem left) (by omega)
 refine sr rfl fun _ k6 => ja ?_
 refine vr rfl rfl rfl Tryz.func56 (uQ t.levels (szEntryS t.mem left) (by omega) (by unfold Lq at b1; omega) hz2) rfl (by simp only [go_sem]) (k6 ?_)
 refine sq fun _ k7 => aj ?_
 refine cd rfl (fun hc2 => ?_) fun hc2 => ?_
 · have n2 : szRunSS t.levels (szEntryS t.mem left) < 0 := by simpa using hc2
   refine aj (wR ?_)
   refine fO ?_ trivial; simp only [go_sem, eD, n1, n2]
 have n2 : ¬ (szRunSS t.levels (szEntryS t.mem left) < 0) := by simpa using hc2
 refine wk (k7 (sr rfl fun _ k10 => (ja ?_)))
 refine vr rfl rfl rfl Tryz.func57 (w_laws_szIntS t.snaps (szRunSS t.levels (szEntryS t.mem left)) (by omega) (by unfold Lq at b1 b2; omega) hz3) rfl (by simp only [go_sem]) (k10 ?_)
 refine sq fun _ k11 => aj ?_
 refine cdS rfl (fun hc3 => ?_) fun hc3 => ?_
 · have n3 : ¬ (tR t.snaps (szRunSS t.levels (szEntryS t.mem left)) < 0) := by simpa using hc3
   refine wk (k11 (aj (wR ?_)))
   refine fO ?_ trivial; simp only [go_sem, eD, n1, n2]
 have n3 : tR t.snaps (szRunSS t.levels (szEntryS t.mem left)) < 0 := by simpa using hc3
 refine aj (wR ?_)
 have b3 : eD t left = -1 := by
   have := szIntS_le t.snaps (szRunSS t.levels (szEntryS t.mem left)) (by omega)
   rw [eD, if_neg n1, if_neg n2]; unfold Lq at this; omega
 refine fO ?_ trivial; simp only [go_sem, b3]
theorem w_laws_szDisk (d : Disk) (left : Int) (h0 : 0 ≤ left) (h1 : left ≤ 1048576) (hz1 : d.log.size ≤ 9223372036854775807) (hz2 : mLvs d.levels) : aB P 25 [dkA d, .raw (.int .i64 left)] [] 0 (.raw (.int .i64 (pU d left))) := by
 refine pq 19 [.tmp 4] Tryz.func25 ?_
 simp only [dkA]
 have hw0 : IntKind.i64.wrap (left - (d.log.size : Int)) = left - d.log.size := by rw [w64]; omega
 refine aj ?_; refine sr rfl fun _ k2 => ?_; simp only [go_sem, hw0]
 refine k2 (sq fun _ k3 => (aj ?_))
 refine cd rfl (fun hc1 => ?_) fun hc1 => ?_
 · have n1 : left - (d.log.size : Int) < 0 := by simpa using hc1
   refine aj (wR ?_)
   refine fO ?_ trivial; simp only [go_sem, pU, n1]
 have n1 : ¬ (left - (d.log.size : Int) < 0) := by simpa using hc1
 refine wk (k3 (sr rfl fun _ k6 => (ja ?_)))
 refine vr rfl rfl rfl Tryz.func56 (uQ d.levels (left - d.log.size) (by omega) (by omega) hz2) rfl (by simp only [go_sem]) (k6 ?_)
 refine sq fun _ k7 => aj ?_
 refine cdS rfl (fun hc2 => ?_) fun hc2 => ?_
 · have n2 : ¬ (szRunSS d.levels (left - d.log.size) < 0) := by simpa using hc2
   refine wk (k7 (aj (wR ?_)))
   refine fO ?_ trivial; simp only [go_sem, pU, n1]
 have n2 : szRunSS d.levels (left - d.log.size) < 0 := by simpa using hc2
 refine aj (wR ?_)
 have b3 : pU d left = -1 := by
   have := pT d.levels (left - d.log.size) (by omega)
   rw [pU, if_neg n1]; unfold Lq at this; omega
 refine fO ?_ trivial; simp only [go_sem, b3]
theorem w_laws_szStore (s : Store) (left : Int) (h0 : 0 ≤ left) (h1 : left ≤ 1048576) (hz1 : mEnts s.tree.mem) (hz2 : mLvs s.tree.levels) (hz3 : s.tree.snaps.length ≤ 9223372036854775807) (hz4 : s.disk.log.size ≤ 9223372036854775807) (hz5 : mLvs s.disk.levels) : aB P 7 [stA s, .raw (.int .i64 left)] [] 0 (.raw (.int .i64 (lL s left))) := by
 refine pq 18 [.tmp 4] Tryz.func7 ?_
 simp only [stA]
 have b1 := szTree_le s.tree left h0
 refine aj ?_
 refine sr rfl fun _ k2 => ja ?_
 refine vr rfl rfl rfl Tryz.func24 (w_laws_szTree s.tree left h0 h1 hz1 hz2 hz3) (by simp only [go_sem, trA]) (by simp only [go_sem, trA]) (k2 ?_)
 refine sq fun _ k3 => aj ?_
 refine cd rfl (fun hc1 => ?_) fun hc1 => ?_
 · have n1 : eD s.tree left < 0 := by simpa using hc1
   refine aj (wR ?_)
   refine fO ?_ trivial; simp only [go_sem, lL, n1]
 have n1 : ¬ (eD s.tree left < 0) := by simpa using hc1
 refine wk (k3 (sr rfl fun _ k6 => (ja ?_)))
 refine vr rfl rfl rfl Tryz.func25 (w_laws_szDisk s.disk (eD s.tree left) (by omega) (by unfold Lq at b1; omega) hz4 hz5) (by simp only [go_sem, dkA]) (by simp only [go_sem, dkA]) (k6 ?_)
 refine sq fun _ k7 => aj ?_
 refine cdS rfl (fun hc2 => ?_) fun hc2 => ?_
 · have n2 : ¬ (pU s.disk (eD s.tree left) < 0) := by simpa using hc2
   refine wk (k7 (aj (wR ?_)))
   refine fO ?_ trivial; simp only [go_sem, lL, n1]
 have n2 : pU s.disk (eD s.tree left) < 0 := by simpa using hc2
 refine aj (wR ?_)
 have b3 : lL s left = -1 := by
   have := szDisk_le s.disk (eD s.tree left) (by omega)
   rw [lL, if_neg n1]; unfold Lq at this; omega
 refine fO ?_ trivial; simp only [go_sem, b3]
end Go.Proofs.S
end
