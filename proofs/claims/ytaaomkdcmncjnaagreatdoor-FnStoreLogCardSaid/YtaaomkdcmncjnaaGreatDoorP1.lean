/-
  The abstract layer, the walks and the plain laws that the claim leans on, part 1 of 7 (working texts Abs1 to Abs10). It proves lemmas alone; no condition of its own.
-/
import Derived.OrdersIn
import Derived.Below
import Derived.Maps.AppendAt
import Derived.RangeFuncLeaves
import Derived.RangeFuncRecord
import Derived.Laws.NewBlocks
import Derived.Tactics
import Derived.TacticsIn
import Derived.Laws.CopyRow
import Derived.Laws.Slices
import Derived.Laws.StructEq
import Derived.Laws.Build
import Derived.Laws.MakeOwn
import Derived.Laws.OwnMore
import Derived.Deep.OwnRows
import Derived.WalkKit
set_option linter.all false
section
namespace Go.Abs
section
abbrev oD (o : Oper) (N : Nat) : Prop := ∀ d, o.dst = some d -> d < N
def og {p : Prop} (h : p := by omega) : p := h
def oS {p : Prop} (h : p := by simp) : p := h
def dg {p : Prop} (h : p := by decide) : p := h
def oG {p : Prop} (h : p := by simp only [go_sem]) : p := h
abbrev A0 := @Nat.le_refl
abbrev A1 := @List.getElem?_eq_getElem
abbrev A2 := @List.length_append
abbrev A3 := @List.mem_cons_self
abbrev A4 := @List.mem_cons_of_mem
abbrev A5 := @Nat.zero_le
abbrev A6 := @List.length_map
abbrev A7 := @List.mem_append
abbrev A8 := @List.mem_cons
abbrev A9 := @List.mem_map
abbrev B0 := @List.length_take
abbrev B1 := @List.length_drop
abbrev B2 := @List.getElem?_eq_some_iff
abbrev B3 := @Option.map_eq_some_iff
abbrev B4 := @List.getElem?_map
abbrev B5 := @Array.getD_eq_getD_getElem?
abbrev B6 := @List.mem_singleton
abbrev B7 := @Bool.and_eq_true
abbrev B8 := @ByteArray.size_append
abbrev B9 := @Option.some.injEq
abbrev C3 := @Nat.zero_add
abbrev C4 := @List.length_cons
abbrev C5 := @Bool.false_eq_true
abbrev C6 := @List.getElem?_range
abbrev C7 := @List.nodup_cons
abbrev C8 := @List.all_eq_true
abbrev C9 := @List.getElem_mem
abbrev D0 := @List.length_set
abbrev D1 := @List.mem_of_mem_take
abbrev D2 := @List.mem_of_mem_drop
abbrev D3 := @List.mem_map_of_mem
abbrev D4 := @Array.getElem?_eq_getElem
abbrev D5 := @List.map_append
abbrev D6 := @Bool.or_eq_true
abbrev D7 := @List.length_range
abbrev D8 := @Array.getElem?_toList
abbrev D9 := @Nat.mul_le_mul_right
abbrev E3 := @List.getElem?_eq_none
abbrev E4 := @List.mem_of_getElem?
abbrev E5 := @List.nodup_nil
abbrev E6 := @List.drop_eq_nil_of_le
abbrev E7 := @List.getD_eq_getElem?_getD
abbrev E8 := @List.map_congr_left
abbrev E9 := @List.map_take
abbrev F4 := @List.take_length
abbrev F5 := @List.take_add_one
abbrev F6 := @Nat.le_trans
abbrev F7 := @List.length_pos_iff
abbrev F8 := @List.append_assoc
abbrev F9 := @List.getElem?_set
abbrev G1 := @List.getElem?_take
abbrev G2 := @List.getElem?_of_mem
abbrev G3 := @List.pairwise_iff_getElem
abbrev G4 := @List.exists_cons_of_ne_nil
abbrev G5 := @List.map_drop
abbrev G6 := @List.getElem?_append_left
abbrev G7 := @List.getElem?_append_right
abbrev G8 := @List.eq_nil_of_length_eq_zero
abbrev G9 := @Option.bind_eq_some_iff
abbrev H3 := @Array.getElem?_setIfInBounds
abbrev H4 := @List.getElem?_drop
abbrev H5 := @Int.tdiv_eq_ediv_of_nonneg
abbrev H6 := @List.length_reverse
abbrev H7 := @Nat.not_lt_zero
abbrev H8 := @List.sublist_flatten_of_mem
open Go
inductive AV where
  | any
  | raw (v : Value)
  | agg (cs : List AV)
  | tup (vs : List AV)
  | sl (sz : Nat) (xs : List AV)
  | fp (sz : Nat) (xs : List AV) (j off : Nat)
  | ptr (i off : Nat)
  | ep (i sz j off : Nat)
  | ref (i : Nat)
  | iface (t : TypeId) (x : AV)
  | fn (f : Fn) (first cap : List AV)
  | when (c : Prop) (x : AV)
  | own (e sz : Nat) (xs : List AV)
instance : Inhabited AV := ⟨.any⟩
inductive AObj where
  | dead
  | cells (t : TypeId) (cs : List AV)
  | row (e sz : Nat) (xs : List AV)
  | map (kt et : TypeId) (m : List (Value × AV))
  | mapS (kt et : TypeId) (m : List (Value × AV)) (k : Value) (st : Nat)
  | other (b : Nat) (o : Obj)
  | loop (l : Nat) (rec : Loop) (No : Nat) (Eo : List (Nat × AV))
  | pool (e0 e sz : Nat) (Q : AV -> Prop) (L : Nat) (lv more : List Nat)
instance : Inhabited AObj := ⟨.dead⟩
mutual
def AV.bel (U : Nat -> Prop) : AV -> Prop
  | .any => True
  | .raw _ => True
  | .agg cs => aI U cs
  | .tup cs => aI U cs
  | .sl _ xs => aI U xs
  | .fp _ xs _ _ => aI U xs
  | .ptr i _ => U i
  | .ep i _ _ _ => U i
  | .ref i => U i
  | .iface _ x => x.bel U
  | .fn _ a b => aI U a /\ aI U b
  | .when _ x => x.bel U
  | .own _ _ xs => aI U xs
def aI (U : Nat -> Prop) : List AV -> Prop
  | [] => True
  | x :: xs => x.bel U /\ aI U xs
end
def bLi {U : Nat -> Prop} : ∀ {xs : List AV}, aI U xs ↔ ∀ x ∈ xs, x.bel U
  | [] => by simp [aI]
  | x :: xs => by simp [aI, bLi (xs := xs)]
def bG {U : Nat -> Prop} {xs : List AV} (h : aI U xs) {j : Nat} {x : AV} (hj : xs[j]? = some x) : x.bel U :=
  bLi.1 h x (E4 hj)
mutual
theorem AV.bel_mono {U U' : Nat -> Prop} (h : ∀ i, U i -> U' i) : ∀ x : AV, x.bel U -> x.bel U'
  | .any, _ => trivial
  | .raw _, _ => trivial
  | .agg cs, hx => eU h cs hx
  | .tup cs, hx => eU h cs hx
  | .sl _ xs, hx => eU h xs hx
  | .fp _ xs _ _, hx => eU h xs hx
  | .ptr _ _, hx => h _ hx
  | .ep _ _ _ _, hx => h _ hx
  | .ref _, hx => h _ hx
  | .iface _ x, hx => AV.bel_mono h x hx
  | .fn _ a b, hx => ⟨eU h a hx.1, eU h b hx.2⟩
  | .when _ x, hx => AV.bel_mono h x hx
  | .own _ _ xs, hx => eU h xs hx
theorem eU {U U' : Nat -> Prop} (h : ∀ i, U i -> U' i) : ∀ xs : List AV, aI U xs -> aI U' xs
  | [], _ => trivial
  | x :: xs, hx => ⟨AV.bel_mono h x hx.1, eU h xs hx.2⟩
end
def AObj.bel (U : Nat -> Prop) : AObj -> Prop
  | .dead => True
  | .cells _ cs => aI U cs
  | .row _ _ xs => aI U xs
  | .map _ _ m => aI U (m.map (·.2))
  | .mapS _ _ m _ st => aI U (m.map (·.2)) /\ U st
  | .other _ _ => True
  | .loop _ _ _ Eo => aI U (Eo.map (·.2))
  | .pool _ _ _ _ _ lv more => (∀ i, i ∈ lv -> U i) /\ ∀ i, i ∈ more -> U i
def AObj.bel_mono {U U' : Nat -> Prop} (h : ∀ i, U i -> U' i) (o : AObj) (ho : o.bel U) : o.bel U' := by
  cases o <;> first | trivial | exact eU h _ ho | exact ⟨eU h _ ho.1, h _ ho.2⟩ | exact ⟨fun i hi => h i (ho.1 i hi), fun i hi => h i (ho.2 i hi)⟩
def blk : Value -> Option Nat
  | .pointer (some a) => some a.block
  | .slice (some a) _ _ => some a.block
  | .map r => r
  | _ => none
def lH (cells : Array Value) (off sz n : Nat) (vals : Nat -> Value) : Prop :=
  ∀ j, j < n -> (vals j).cells.size = sz /\ ∀ k, k < sz -> cells[off + j * sz + k]? = (vals j).cells[k]?
inductive Rep (ρ : Nat -> Value) (av : Nat -> Prop) (hp : Array Obj) : AV -> Value -> Prop
  | any (v : Value) : Rep ρ av hp .any v
  | raw (v : Value) : Rep ρ av hp (.raw v) v
  | agg (cs : List AV) (vs : Array Value) (hn : vs.size = cs.length) (h : ∀ (j : Nat) (x : AV), cs[j]? = some x -> Rep ρ av hp x (vs.getD j undef)) : Rep ρ av hp (.agg cs) (.agg vs)
  | tup (cs : List AV) (vs : Array Value) (hn : vs.size = cs.length) (h : ∀ (j : Nat) (x : AV), cs[j]? = some x -> Rep ρ av hp x (vs.getD j undef)) : Rep ρ av hp (.tup cs) (.tuple vs)
  | sl0 (sz : Nat) (A : Option Addr) (c : Nat) (hc : c <= maxLen) : Rep ρ av hp (.sl sz []) (.slice A 0 c)
  | sl (sz : Nat) (xs : List AV) (b off c : Nat) (cells : Array Value) (t : TypeId) (fr : Nat × Nat) (vals : Nat -> Value) (h0 : 0 < xs.length) (hc : xs.length <= c) (hm : c <= maxLen) (hb : ¬ av b)
      (hh : hp[b]? = some (.cells cells t fr)) (h : ∀ (j : Nat) (x : AV), xs[j]? = some x -> Rep ρ av hp x (vals j)) (hcells : lH cells off sz xs.length vals) :
      Rep ρ av hp (.sl sz xs) (.slice (some ⟨b, off, none⟩) xs.length c)
  | fp (sz : Nat) (xs : List AV) (j d : Nat) (b off : Nat) (cells : Array Value) (t : TypeId) (fr : Nat × Nat) (vals : Nat -> Value) (hb : ¬ av b)
      (hh : hp[b]? = some (.cells cells t fr)) (h : ∀ (j : Nat) (x : AV), xs[j]? = some x -> Rep ρ av hp x (vals j)) (hcells : lH cells off sz xs.length vals) :
      Rep ρ av hp (.fp sz xs j d) (.pointer (some ⟨b, off + j * sz + d, none⟩))
  | ptr (i off b : Nat) (h : blk (ρ i) = some b) : Rep ρ av hp (.ptr i off) (.pointer (some ⟨b, off, none⟩))
  | ep (i sz j off b : Nat) (h : blk (ρ i) = some b) : Rep ρ av hp (.ep i sz j off) (.pointer (some ⟨b, j * sz + off, none⟩))
  | ref (i : Nat) : Rep ρ av hp (.ref i) (ρ i)
  | iface (t : TypeId) (x : AV) (v : Value) (h : Rep ρ av hp x v) : Rep ρ av hp (.iface t x) (.iface t v)
  | fn (f : Fn) (first cap : List AV) (vs us : Array Value) (hn : vs.size = first.length) (h : ∀ (j : Nat) (x : AV), first[j]? = some x -> Rep ρ av hp x (vs.getD j undef))
      (hn' : us.size = cap.length) (h' : ∀ (j : Nat) (x : AV), cap[j]? = some x -> Rep ρ av hp x (us.getD j undef)) : Rep ρ av hp (.fn f first cap) (.func f vs us)
  | when (c : Prop) (x : AV) (v : Value) (h : c -> Rep ρ av hp x v) (h' : ¬ c -> v = .tuple #[]) : Rep ρ av hp (.when c x) v
def eB (ρ : Nat -> Value) (av : Nat -> Prop) (hp : Array Obj) (cs : List AV) (vs : Array Value) : Prop :=
  vs.size = cs.length /\ ∀ (j : Nat) (x : AV), cs[j]? = some x -> Rep ρ av hp x (vs.getD j undef)
def ltB {hp : Array Obj} {b : Nat} {o : Obj} (h : hp[b]? = some o) : b < hp.size := (Array.getElem?_eq_some_iff.1 h).1
def Rep.mono' {ρ : Nat -> Value} {av av' : Nat -> Prop} {hp hp' : Array Obj} (hav : ∀ b, b < hp.size -> av' b -> av b) (heq : ∀ b cells t fr, hp[b]? = some (.cells cells t fr) -> ¬ av b -> hp'[b]? = hp[b]?)
    {x : AV} {v : Value} (h : Rep ρ av hp x v) : Rep ρ av' hp' x v := by
  induction h with
  | any v => exact .any v
  | raw v => exact .raw v
  | agg cs vs hn _ ih => exact .agg cs vs hn ih
  | tup cs vs hn _ ih => exact .tup cs vs hn ih
  | sl0 sz A c hc => exact .sl0 sz A c hc
  | sl sz xs b off c cells t fr vals h0 hc hm hb hh _ hcells ih =>
    have hlt := ltB hh
    exact .sl sz xs b off c cells t fr vals h0 hc hm (fun q => hb (hav b hlt q)) ((heq b _ _ _ hh hb).trans hh) ih hcells
  | fp sz xs j d b off cells t fr vals hb hh _ hcells ih =>
    have hlt := ltB hh
    exact .fp sz xs j d b off cells t fr vals (fun q => hb (hav b hlt q)) ((heq b _ _ _ hh hb).trans hh) ih hcells
  | ptr i off b h => exact .ptr i off b h
  | ep i sz j off b h => exact .ep i sz j off b h
  | ref i => exact .ref i
  | iface t x v _ ih => exact .iface t x v ih
  | fn f first cap vs us hn _ hn' _ ih ih' => exact .fn f first cap vs us hn ih hn' ih'
  | when c x v _ h' ih => exact .when c x v ih h'
def Rep.mono {ρ : Nat -> Value} {av av' : Nat -> Prop} {hp hp' : Array Obj} (hav : ∀ b, b < hp.size -> av' b -> av b) (heq : ∀ b, b < hp.size -> ¬ av b -> hp'[b]? = hp[b]?)
    {x : AV} {v : Value} (h : Rep ρ av hp x v) : Rep ρ av' hp' x v := h.mono' hav (fun b _ _ _ hb hn => heq b (ltB hb) hn)
def Rep.named {ρ ρ' : Nat -> Value} {av : Nat -> Prop} {hp : Array Obj} {U : Nat -> Prop} (hρ : ∀ i, U i -> ρ' i = ρ i) {x : AV} {v : Value} (h : Rep ρ av hp x v) (hx : x.bel U) : Rep ρ' av hp x v := by
  induction h with
  | any v => exact .any v
  | raw v => exact .raw v
  | agg cs vs hn _ ih => exact .agg cs vs hn fun j x hj => ih j x hj (bG (by simpa [AV.bel] using hx) hj)
  | tup cs vs hn _ ih => exact .tup cs vs hn fun j x hj => ih j x hj (bG (by simpa [AV.bel] using hx) hj)
  | sl0 sz A c hc => exact .sl0 sz A c hc
  | sl sz xs b off c cells t fr vals h0 hc hm hb hh _ hcells ih => exact .sl sz xs b off c cells t fr vals h0 hc hm hb hh (fun j x hj => ih j x hj (bG (by simpa [AV.bel] using hx) hj)) hcells
  | fp sz xs j d b off cells t fr vals hb hh _ hcells ih => exact .fp sz xs j d b off cells t fr vals hb hh (fun j x hj => ih j x hj (bG (by simpa [AV.bel] using hx) hj)) hcells
  | ptr i off b h => exact .ptr i off b (by rw [hρ i (by simpa [AV.bel] using hx)]; exact h)
  | ep i sz j off b h => exact .ep i sz j off b (by rw [hρ i (by simpa [AV.bel] using hx)]; exact h)
  | ref i => rw [<- hρ i (by simpa [AV.bel] using hx)]; exact .ref i
  | iface t x v _ ih => exact .iface t x v (ih (by simpa [AV.bel] using hx))
  | fn f first cap vs us hn _ hn' _ ih ih' =>
    have hx' : aI U first /\ aI U cap := by simpa [AV.bel] using hx
    exact .fn f first cap vs us hn (fun j x hj => ih j x hj (bG hx'.1 hj)) hn' (fun j x hj => ih' j x hj (bG hx'.2 hj))
  | when c x v _ h' ih => exact .when c x v (fun hc => ih hc (by simpa [AV.bel] using hx)) h'
def bA (n : Nat) (f : Nat -> List Nat) : List Nat := (List.range n).flatMap f
def mFl {n : Nat} {f : Nat -> List Nat} {b : Nat} : b ∈ bA n f ↔ ∃ j, j < n /\ b ∈ f j := by simp [bA]
inductive RepO (ρ : Nat -> Value) (av : Nat -> Prop) (hp : Array Obj) : AV -> Value -> List Nat -> Prop
  | leaf (x : AV) (v : Value) (h : Rep ρ av hp x v) : RepO ρ av hp x v []
  | agg (cs : List AV) (vs : Array Value) (ows : Nat -> List Nat) (hn : vs.size = cs.length) (h : ∀ (j : Nat) (x : AV), cs[j]? = some x -> RepO ρ av hp x (vs.getD j undef) (ows j)) : RepO ρ av hp (.agg cs) (.agg vs) (bA cs.length ows)
  | own0 (e sz : Nat) : RepO ρ av hp (.own e sz []) (.slice none 0 0) []
  | own (e sz : Nat) (xs : List AV) (b c : Nat) (cells : Array Value) (vals : Nat -> Value) (ows : Nat -> List Nat) (hh : hp[b]? = some (.cells cells e (0, 0))) (hs : cells.size = c * sz) (hc : xs.length <= c) (hm : c <= maxLen)
      (h : ∀ (j : Nat) (x : AV), xs[j]? = some x -> RepO ρ av hp x (vals j) (ows j)) (hcells : lH cells 0 sz xs.length vals) : RepO ρ av hp (.own e sz xs) (.slice (some ⟨b, 0, none⟩) xs.length c) (b :: bA xs.length ows)
def RepO.mono' {ρ : Nat -> Value} {av av' : Nat -> Prop} {hp hp' : Array Obj} (hav : ∀ b, b < hp.size -> av' b -> av b) (heq : ∀ b cells t fr, hp[b]? = some (.cells cells t fr) -> ¬ av b -> hp'[b]? = hp[b]?)
    {x : AV} {v : Value} {own : List Nat} (h : RepO ρ av hp x v own) (hown : ∀ b, b ∈ own -> hp'[b]? = hp[b]?) : RepO ρ av' hp' x v own := by
  induction h with
  | leaf x v h => exact .leaf x v (h.mono' hav heq)
  | agg cs vs ows hn _ ih => exact .agg cs vs ows hn fun j x hj => ih j x hj fun b hb => hown b (mFl.2 ⟨j, (B2.1 hj).1, hb⟩)
  | own0 e sz => exact .own0 e sz
  | own e sz xs b c cells vals ows hh hs hc hm _ hcells ih =>
    exact .own e sz xs b c cells vals ows ((hown b oS).trans hh) hs hc hm (fun j x hj => ih j x hj fun b' hb => hown b' (A4 _ (mFl.2 ⟨j, (B2.1 hj).1, hb⟩))) hcells
def RepO.named {ρ ρ' : Nat -> Value} {av : Nat -> Prop} {hp : Array Obj} {U : Nat -> Prop} (hρ : ∀ i, U i -> ρ' i = ρ i) {x : AV} {v : Value} {own : List Nat} (h : RepO ρ av hp x v own) (hx : x.bel U) : RepO ρ' av hp x v own := by
  induction h with
  | leaf x v h => exact .leaf x v (h.named hρ hx)
  | agg cs vs ows hn _ ih => exact .agg cs vs ows hn fun j x hj => ih j x hj (bG (by simpa [AV.bel] using hx) hj)
  | own0 e sz => exact .own0 e sz
  | own e sz xs b c cells vals ows hh hs hc hm _ hcells ih => exact .own e sz xs b c cells vals ows hh hs hc hm (fun j x hj => ih j x hj (bG (by simpa [AV.bel] using hx) hj)) hcells
def RepO.own_lt {ρ : Nat -> Value} {av : Nat -> Prop} {hp : Array Obj} {x : AV} {v : Value} {own : List Nat} (h : RepO ρ av hp x v own) : ∀ b, b ∈ own -> b < hp.size := by
  induction h with
  | leaf x v h => intro b hb; cases hb
  | agg cs vs ows hn hx ih =>
    intro b hb
    obtain ⟨j, hj, hb⟩ := mFl.1 hb
    exact ih j _ (A1 hj) b hb
  | own0 e sz => intro b hb; cases hb
  | own e sz xs b c cells vals ows hh hs hc hm _ hcells ih =>
    intro b' hb
    rcases A8.1 hb with rfl | hb
    . exact ltB hh
    obtain ⟨j, hj, hb⟩ := mFl.1 hb
    exact ih j _ (A1 hj) b' hb
def gR (ρ : Nat -> Value) (av : Nat -> Prop) (hp : Array Obj) (e sz : Nat) (Q : AV -> Prop) (L : Nat) (bs : List Nat) (v : Value) : Prop :=
  v = .slice none 0 0 ∨ ∃ b n c cells vals, v = .slice (some ⟨b, 0, none⟩) n c /\ b ∈ bs /\ n <= L /\ n <= c /\ c <= maxLen /\ hp[b]? = some (.cells cells e (0, 0)) /\ cells.size = c * sz /\ lH cells 0 sz n vals /\
    ∀ j, j < n -> ∃ x, Q x /\ x.bel (fun _ => False) /\ Rep ρ av hp x (vals j)
def gR.mono' {ρ : Nat -> Value} {av av' : Nat -> Prop} {hp hp' : Array Obj} {e sz : Nat} {Q : AV -> Prop} {L : Nat} {bs : List Nat} {v : Value} (hav : ∀ b, b < hp.size -> av' b -> av b) (heq : ∀ b cells t fr, hp[b]? = some (.cells cells t fr) -> ¬ av b -> hp'[b]? = hp[b]?)
    (h : gR ρ av hp e sz Q L bs v) (hown : ∀ b, b ∈ bs -> hp'[b]? = hp[b]?) : gR ρ av' hp' e sz Q L bs v := by
  rcases h with h | ⟨b, n, c, cells, vals, h1, h2, h3, h4, h5, h6, h7, h8, h9⟩
  . exact .inl h
  refine .inr ⟨b, n, c, cells, vals, h1, h2, h3, h4, h5, (hown b h2).trans h6, h7, h8, fun j hj => ?_⟩
  obtain ⟨x, hx, hb, hr⟩ := h9 j hj
  exact ⟨x, hx, hb, hr.mono' hav heq⟩
def gR.named {ρ ρ' : Nat -> Value} {av : Nat -> Prop} {hp : Array Obj} {e sz : Nat} {Q : AV -> Prop} {L : Nat} {bs : List Nat} {v : Value} (h : gR ρ av hp e sz Q L bs v) : gR ρ' av hp e sz Q L bs v := by
  rcases h with h | ⟨b, n, c, cells, vals, h1, h2, h3, h4, h5, h6, h7, h8, h9⟩
  . exact .inl h
  refine .inr ⟨b, n, c, cells, vals, h1, h2, h3, h4, h5, h6, h7, h8, fun j hj => ?_⟩
  obtain ⟨x, hx, hb, hr⟩ := h9 j hj
  exact ⟨x, hx, hb, hr.named (U := fun _ => False) (fun _ h => h.elim) hb⟩
def cR (ρ : Nat -> Value) (av : Nat -> Prop) (hp : Array Obj) (own : List Nat) : AObj -> Value -> Prop
  | .dead, _ => own = []
  | .cells t cs, v => ∃ b vs, v = .pointer (some ⟨b, 0, none⟩) /\ own = [b] /\ hp[b]? = some (.cells vs t (0, 0)) /\ eB ρ av hp cs vs
  | .row e sz xs, v => RepO ρ av hp (.own e sz xs) v own /\ own.Nodup
  | .map _ _ m, v => ∃ b es clock, v = .map (some b) /\ own = [b] /\ hp[b]? = some (.map es clock) /\ es.size = m.length /\ es.size < maxLen /\
        (∀ (j : Nat) (k : Value) (x : AV), m[j]? = some (k, x) -> ∃ e, es[j]? = some e /\ e.key = k /\ Rep ρ av hp x e.val) /\
        (∀ (j : Nat) (e : MapEntry), es[j]? = some e -> e.born < clock /\ ∀ (i : Nat) (d : MapEntry), es[i]? = some d -> d.born = e.born -> i = j)
  | .mapS _ _ m k st, v => ∃ b es clock, v = .map (some b) /\ own = [b] /\ hp[b]? = some (.map es clock) /\ es.size = m.length /\ es.size < maxLen /\
        (∀ (j : Nat) (k : Value) (x : AV), m[j]? = some (k, x) -> ∃ e, es[j]? = some e /\ e.key = k /\ Rep ρ av hp x e.val) /\
        (∀ (j : Nat) (e : MapEntry), es[j]? = some e -> e.born < clock /\ ∀ (i : Nat) (d : MapEntry), es[i]? = some d -> d.born = e.born -> i = j) /\
        ∃ (q : Nat) (e : MapEntry), es[q]? = some e /\ e.key = k /\ ρ st = .int .i64 (e.born : Int)
  | .other b o, v => v = .pointer (some ⟨b, 0, none⟩) /\ own = [b] /\ hp[b]? = some o
  | .loop l rec No Eo, v => v = .pointer (some ⟨l, 0, none⟩) /\ own = [l] /\ hp[l]? = some (.loop rec) /\ rec.tmps.size = No /\ ∀ (j t : Nat) (x : AV), Eo[j]? = some (t, x) -> t < No /\ Rep ρ av hp x (rec.tmps.getD t undef)
  | .pool e0 e sz Q L lv more, v => ∃ b0 c0 cells0 bs, v = .slice (some ⟨b0, 0, none⟩) lv.length c0 /\ own = b0 :: bs /\ own.Nodup /\ hp[b0]? = some (.cells cells0 e0 (0, 0)) /\ cells0.size = c0 /\ lv.length <= c0 /\ c0 <= maxLen /\ (∀ b, b ∈ bs -> ∃ o, hp[b]? = some o) /\
      (∀ (j i : Nat), lv[j]? = some i -> cells0[j]? = some (ρ i)) /\ (∀ i, i ∈ lv -> gR ρ av hp e sz Q L bs (ρ i)) /\ ∀ i, i ∈ more -> gR ρ av hp e sz Q L bs (ρ i)
def eB.mono' {ρ : Nat -> Value} {av av' : Nat -> Prop} {hp hp' : Array Obj} (hav : ∀ b, b < hp.size -> av' b -> av b) (heq : ∀ b cells t fr, hp[b]? = some (.cells cells t fr) -> ¬ av b -> hp'[b]? = hp[b]?)
    {cs : List AV} {vs : Array Value} (h : eB ρ av hp cs vs) : eB ρ av' hp' cs vs := ⟨h.1, fun j x hj => (h.2 j x hj).mono' hav heq⟩
def eB.mono {ρ : Nat -> Value} {av av' : Nat -> Prop} {hp hp' : Array Obj} (hav : ∀ b, b < hp.size -> av' b -> av b) (heq : ∀ b, b < hp.size -> ¬ av b -> hp'[b]? = hp[b]?)
    {cs : List AV} {vs : Array Value} (h : eB ρ av hp cs vs) : eB ρ av' hp' cs vs := ⟨h.1, fun j x hj => (h.2 j x hj).mono hav heq⟩
def eB.named {ρ ρ' : Nat -> Value} {av : Nat -> Prop} {hp : Array Obj} {U : Nat -> Prop} (hρ : ∀ i, U i -> ρ' i = ρ i) {cs : List AV} {vs : Array Value} (h : eB ρ av hp cs vs) (hx : aI U cs) : eB ρ' av hp cs vs :=
  ⟨h.1, fun j x hj => (h.2 j x hj).named hρ (bG hx hj)⟩
def cR.mono' {ρ : Nat -> Value} {av av' : Nat -> Prop} {hp hp' : Array Obj} (hav : ∀ b, b < hp.size -> av' b -> av b) (heq : ∀ b cells t fr, hp[b]? = some (.cells cells t fr) -> ¬ av b -> hp'[b]? = hp[b]?)
    {own : List Nat} {o : AObj} {v : Value} (h : cR ρ av hp own o v) (hown : ∀ b, b ∈ own -> hp'[b]? = hp[b]?) : cR ρ av' hp' own o v := by
  cases o with
  | dead => exact h
  | cells t cs =>
    obtain ⟨b, vs, rfl, rfl, hb, hr⟩ := h
    exact ⟨b, vs, rfl, rfl, (hown b oS).trans hb, hr.mono' hav heq⟩
  | row e sz xs =>
    exact ⟨h.1.mono' hav heq hown, h.2⟩
  | map kt et m =>
    obtain ⟨b, es, clock, rfl, rfl, hb, h1, h2, h3, h4⟩ := h
    refine ⟨b, es, clock, rfl, rfl, (hown b oS).trans hb, h1, h2, fun j k x hj => ?_, h4⟩
    obtain ⟨e, he, hk, hr⟩ := h3 j k x hj
    exact ⟨e, he, hk, hr.mono' hav heq⟩
  | mapS kt et m k st =>
    obtain ⟨b, es, clock, rfl, rfl, hb, h1, h2, h3, h4, h5⟩ := h
    refine ⟨b, es, clock, rfl, rfl, (hown b oS).trans hb, h1, h2, fun j k x hj => ?_, h4, h5⟩
    obtain ⟨e, he, hk, hr⟩ := h3 j k x hj
    exact ⟨e, he, hk, hr.mono' hav heq⟩
  | other b o =>
    obtain ⟨rfl, rfl, hb⟩ := h
    exact ⟨rfl, rfl, (hown b oS).trans hb⟩
  | loop l rec No Eo =>
    obtain ⟨rfl, rfl, hb, hs, hr⟩ := h
    exact ⟨rfl, rfl, (hown l oS).trans hb, hs, fun j t x hj => ⟨(hr j t x hj).1, (hr j t x hj).2.mono' hav heq⟩⟩
  | pool e0 e sz Q L lv more =>
    obtain ⟨b0, c0, cells0, bs, h1, rfl, h2, h3, h4, h5, h6, h7, h8, h9, h10⟩ := h
    have hbs : ∀ b, b ∈ bs -> hp'[b]? = hp[b]? := fun b hb => hown b (A4 _ hb)
    exact ⟨b0, c0, cells0, bs, h1, rfl, h2, (hown b0 oS).trans h3, h4, h5, h6, fun b hb => by rw [hbs b hb]; exact h7 b hb, h8, fun i hi => (h9 i hi).mono' hav heq hbs, fun i hi => (h10 i hi).mono' hav heq hbs⟩
def cR.mono {ρ : Nat -> Value} {av av' : Nat -> Prop} {hp hp' : Array Obj} (hav : ∀ b, b < hp.size -> av' b -> av b) (heq : ∀ b, b < hp.size -> ¬ av b -> hp'[b]? = hp[b]?)
    {own : List Nat} {o : AObj} {v : Value} (h : cR ρ av hp own o v) (hown : ∀ b, b ∈ own -> hp'[b]? = hp[b]?) : cR ρ av' hp' own o v :=
  h.mono' hav (fun b _ _ _ hb hn => heq b (ltB hb) hn) hown
def cR.named {ρ ρ' : Nat -> Value} {av : Nat -> Prop} {hp : Array Obj} {U : Nat -> Prop} (hρ : ∀ i, U i -> ρ' i = ρ i) {own : List Nat} {o : AObj} {v : Value} (h : cR ρ av hp own o v) (ho : o.bel U) : cR ρ' av hp own o v := by
  cases o with
  | dead => exact h
  | cells t cs =>
    obtain ⟨b, vs, rfl, rfl, hb, hr⟩ := h
    exact ⟨b, vs, rfl, rfl, hb, hr.named hρ ho⟩
  | row e sz xs =>
    exact ⟨h.1.named hρ ho, h.2⟩
  | map kt et m =>
    obtain ⟨b, es, clock, rfl, rfl, hb, h1, h2, h3, h4⟩ := h
    refine ⟨b, es, clock, rfl, rfl, hb, h1, h2, fun j k x hj => ?_, h4⟩
    obtain ⟨e, he, hk, hr⟩ := h3 j k x hj
    exact ⟨e, he, hk, hr.named hρ (bG ho (j := j) (by simp [hj]))⟩
  | mapS kt et m k st =>
    obtain ⟨b, es, clock, rfl, rfl, hb, h1, h2, h3, h4, q, e, h5, h6, h7⟩ := h
    refine ⟨b, es, clock, rfl, rfl, hb, h1, h2, fun j k x hj => ?_, h4, q, e, h5, h6, (hρ st ho.2).trans h7⟩
    obtain ⟨e, he, hk, hr⟩ := h3 j k x hj
    exact ⟨e, he, hk, hr.named hρ (bG ho.1 (j := j) (by simp [hj]))⟩
  | other b o => exact h
  | loop l rec No Eo =>
    obtain ⟨h1, h2, hb, hs, hr⟩ := h
    exact ⟨h1, h2, hb, hs, fun j t x hj => ⟨(hr j t x hj).1, (hr j t x hj).2.named hρ (bG ho (j := j) (by simp [hj]))⟩⟩
  | pool e0 e sz Q L lv more =>
    obtain ⟨b0, c0, cells0, bs, h1, h0, h2, h3, h4, h5, h6, h7, h8, h9, h10⟩ := h
    exact ⟨b0, c0, cells0, bs, h1, h0, h2, h3, h4, h5, h6, h7, fun j i hj => by rw [hρ i (ho.1 i (E4 hj))]; exact h8 j i hj, fun i hi => by rw [hρ i (ho.1 i hi)]; exact (h9 i hi).named, fun i hi => by rw [hρ i (ho.2 i hi)]; exact (h10 i hi).named⟩
def cR.own_lt {ρ : Nat -> Value} {av : Nat -> Prop} {hp : Array Obj} {own : List Nat} {o : AObj} {v : Value} (h : cR ρ av hp own o v) : ∀ b, b ∈ own -> b < hp.size := by
  intro b hb
  cases o with
  | dead => rw [h] at hb; cases hb
  | cells t cs => obtain ⟨b', vs, rfl, rfl, h', _⟩ := h; simp at hb; subst hb; exact ltB h'
  | row e sz xs => exact h.1.own_lt b hb
  | map kt et m => obtain ⟨b', es, clock, rfl, rfl, h', _⟩ := h; simp at hb; subst hb; exact ltB h'
  | mapS kt et m k st => obtain ⟨b', es, clock, rfl, rfl, h', _⟩ := h; simp at hb; subst hb; exact ltB h'
  | other b' o => obtain ⟨rfl, rfl, h'⟩ := h; simp at hb; subst hb; exact ltB h'
  | loop l rec No Eo => obtain ⟨rfl, rfl, h', _⟩ := h; simp at hb; subst hb; exact ltB h'
  | pool e0 e sz Q L lv more =>
    obtain ⟨b0, c0, cells0, bs, h1, rfl, h2, h3, h4, h5, h6, h7, _⟩ := h
    rcases A8.1 hb with rfl | hb
    . exact ltB h3
    obtain ⟨o, ho⟩ := h7 b hb; exact ltB ho
def get {α : Type} : List (Nat × α) -> Nat -> Option α
  | [], _ => none
  | (k, x) :: r, n => if k = n then some x else get r n
def put {α : Type} : List (Nat × α) -> Nat -> α -> List (Nat × α)
  | [], n, y => [(n, y)]
  | (k, x) :: r, n, y => if k = n then (n, y) :: r else (k, x) :: put r n y
def dU {α : Type} (n m : Nat) (y : α) : ∀ l : List (Nat × α), get (put l n y) m = if n = m then some y else get l m
  | [] => rfl
  | (k, x) :: r => by
    unfold put
    by_cases h : k = n
    . subst h; simp only [if_true, get]
      split <;> rfl
    simp only [h, if_false, get]
    by_cases hkm : k = m
    . subst hkm; rw [if_neg (fun e : n = k => h e.symm)]
      simp [get]
    simp only [hkm, if_false]
    exact dU n m y r
abbrev Env := List (Nat × AV)
abbrev Heap := List (Nat × AObj)
def aU (E : Env) (d : Option Nat) (x : AV) : Env := match d with | some d => (d, x) :: E | none => E
structure Conc where
  ρ : Nat -> Value
  one : ∀ i, (ρ i).oneCell' = true
  own : Nat -> List Nat
  X : Nat -> Prop
  B : Nat
def Conc.W (C : Conc) (H : Heap) (b : Nat) : Prop := ∃ i o, get H i = some o /\ b ∈ C.own i
def Conc.avoid (C : Conc) (H : Heap) (b : Nat) : Prop := C.X b ∨ C.W H b
class Globals where
  on : Nat -> Prop
  G0 : Nat -> Obj -> Prop
  cells : ∀ g o, G0 g o -> ∃ c t fr, o = .cells c t fr
variable [Globals]
structure RelH (C : Conc) (H : Heap) (U : Nat -> Prop) (w : World) : Prop where
  obj : ∀ i o, get H i = some o -> cR C.ρ (C.avoid H) w.heap (C.own i) o (C.ρ i)
  apart : ∀ i j oi oj b, i ≠ j -> get H i = some oi -> get H j = some oj -> b ∈ C.own i -> b ∈ C.own j -> False
  xapart : ∀ i o b, get H i = some o -> b ∈ C.own i -> ¬ C.X b
  xlt : ∀ b, C.X b -> b < w.heap.size
  objb : ∀ i o, get H i = some o -> U i /\ o.bel U
  gl : ∀ g, Globals.on g -> ∃ o, w.heap[g]? = some o /\ Globals.G0 g o /\ ¬ C.avoid H g
def RelH.glK {C C' : Conc} {H H' : Heap} {U : Nat -> Prop} {w w' : World} (h : RelH C H U w) (hav : ∀ b, b < w.heap.size -> C'.avoid H' b -> C.avoid H b)
    (heq : ∀ b cells t fr, w.heap[b]? = some (.cells cells t fr) -> ¬ C.avoid H b -> w'.heap[b]? = w.heap[b]?) (g : Nat) (hg : Globals.on g) : ∃ o, w'.heap[g]? = some o /\ Globals.G0 g o /\ ¬ C'.avoid H' g := by
  obtain ⟨o, h1, h2, h3⟩ := h.gl g hg
  obtain ⟨c, t, fr, rfl⟩ := Globals.cells g o h2
  exact ⟨_, (heq g c t fr h1 h3).trans h1, h2, fun q => h3 (hav g (ltB h1) q)⟩
structure Rel (C : Conc) (N : Nat) (E : Env) (H : Heap) (U : Nat -> Prop) (a : Act) (w : World) : Prop extends RelH C H U w where
  size : a.tmps.size = N
  hB : C.B <= w.heap.size
  nodup : a.defers.Nodup
  marks : ∀ d, d ∈ a.defers -> ∃ r, d = { target := .collected r, args := #[] } /\ C.B <= r /\ w.heap[r]? = some (.deferred (some [])) /\ ¬ C.avoid H r
  env : ∀ t x, get E t = some x -> t < N /\ x.bel U /\ Rep C.ρ (C.avoid H) w.heap x (a.tmps.getD t undef)
structure StepR (C : Conc) (H : Heap) (U : Nat -> Prop) (w : World) (C' : Conc) (H' : Heap) (w' : World) : Prop where
  os : w'.os = w.os
  tape : w'.tape = w.tape
  output : w'.output = w.output
  size : w.heap.size <= w'.heap.size
  keep : ∀ k, k < w.heap.size -> ¬ C.W H k -> w'.heap[k]? = w.heap[k]?
  wr : ∀ b, C'.W H' b -> C.W H b ∨ w.heap.size <= b
  X : C'.X = C.X
  B : C'.B = C.B
  ρ : ∀ i, U i -> C'.ρ i = C.ρ i
def StepR.refl (C : Conc) (H : Heap) (U : Nat -> Prop) (w : World) : StepR C H U w C H w :=
  ⟨rfl, rfl, rfl, A0 _, fun _ _ _ => rfl, fun _ h => .inl h, rfl, rfl, fun _ _ => rfl⟩
def StepR.trans {C C₁ C₂ : Conc} {H H₁ H₂ : Heap} {U U₁ : Nat -> Prop} {w w₁ w₂ : World} (hU : ∀ i, U i -> U₁ i) (h : StepR C H U w C₁ H₁ w₁) (k : StepR C₁ H₁ U₁ w₁ C₂ H₂ w₂) : StepR C H U w C₂ H₂ w₂ where
  os := k.os.trans h.os
  tape := k.tape.trans h.tape
  output := k.output.trans h.output
  size := F6 h.size k.size
  keep := fun q hq hW => by
    have h1 := h.keep q hq hW
    have h2 : ¬ C₁.W H₁ q := fun hw => by rcases h.wr q hw with h' | h'; exact hW h'; omega
    exact (k.keep q (Nat.lt_of_lt_of_le hq h.size) h2).trans h1
  wr := fun b hb => by
    rcases k.wr b hb with h' | h'
    . exact h.wr b h'
    exact .inr (F6 h.size h')
  X := k.X.trans h.X
  B := k.B.trans h.B
  ρ := fun i hi => (k.ρ i (hU i hi)).trans (h.ρ i hi)
end
end Go.Abs
end
section
open Go
namespace Go.Abs
section
variable [Globals]
variable {α : Type} {w' : World} {i n : Nat} {v : Value} {o o' : AObj} {C' : Conc} {H' : Heap} {own : List Nat} {U' : Nat -> Prop} {x : AV} {y : α}
def FW (ro : Option Nat) : Fence := { Fence.wide with round := ro }
section
variable {C : Conc} {N : Nat} {E : Env} {H : Heap} {U : Nat -> Prop} {a : Act} {w : World}
def bJe {vs : Array Value} {d t : Nat} (hd : d < vs.size) : (vs.setIfInBounds d v).getD t undef = if d = t then v else vs.getD t undef := by
  by_cases h : d = t
  . subst h; simp [hd]
  simp [h, B5, H3]
def Rel.put (h : Rel C N E H U a w) {dst : Option Nat} {r : AV} (hd : ∀ d, dst = some d -> d < N) (hr : Rep C.ρ (C.avoid H) w.heap r v) (hb : r.bel U) :
    Rel C N (aU E dst r) H U (a.put dst v) w := by
  cases dst with
  | none => exact h
  | some d =>
    have hd := hd d rfl
    refine { toRelH := h.toRelH, size := by simp [Act.put, h.size], hB := h.hB, nodup := h.nodup, marks := h.marks, env := fun t x ht => ?_ }
    simp only [aU, Abs.get] at ht
    have hs : d < a.tmps.size := by rw [h.size]; exact hd
    show t < N /\ x.bel U /\ Rep C.ρ (C.avoid H) w.heap x ((a.tmps.setIfInBounds d v).getD t undef)
    rw [bJe hs]
    by_cases e : d = t
    . simp only [e, if_true] at ht ⊢
      cases ht
      exact ⟨e ▸ hd, hb, hr⟩
    simp only [e, if_false] at ht ⊢
    exact h.env t x ht
def RelH.heap_eq (h : RelH C H U w) (e : w'.heap = w.heap) : RelH C H U w' where
  obj := by rw [e]; exact h.obj
  apart := h.apart
  xapart := h.xapart
  xlt := by rw [e]; exact h.xlt
  objb := h.objb
  gl := by rw [e]; exact h.gl
def Rel.heap_eq (h : Rel C N E H U a w) (e : w'.heap = w.heap) : Rel C N E H U a w' :=
  { toRelH := h.toRelH.heap_eq e, size := h.size, hB := by rw [e]; exact h.hB, nodup := h.nodup, marks := by rw [e]; exact h.marks, env := by rw [e]; exact h.env }
def Rel.fewer (h : Rel C N E H U a w) {E' : Env} (hE : ∀ t x, get E' t = some x -> get E t = some x) : Rel C N E' H U a w :=
  { toRelH := h.toRelH, size := h.size, hB := h.hB, nodup := h.nodup, marks := h.marks, env := fun t x ht => h.env t x (hE t x ht) }
def RelH.change (h : RelH C H U w) (hs : StepR C H U w C' H' w') (hU : ∀ i, U i -> U' i)
    (hobj : ∀ i o, get H' i = some o -> (U i /\ get H i = some o /\ C'.own i = C.own i /\ ∀ b, b ∈ C.own i -> w'.heap[b]? = w.heap[b]?) ∨
      (cR C'.ρ (C'.avoid H') w'.heap (C'.own i) o (C'.ρ i) /\ U' i /\ o.bel U'))
    (hap : ∀ i j oi oj b, i ≠ j -> get H' i = some oi -> get H' j = some oj -> b ∈ C'.own i -> b ∈ C'.own j -> False) : RelH C' H' U' w' := by
  have hav : ∀ b, b < w.heap.size -> C'.avoid H' b -> C.avoid H b := fun b hb hq => by
    rcases hq with hq | hq
    . exact .inl (by rw [<- hs.X]; exact hq)
    rcases hs.wr b hq with h1 | h1
    . exact .inr h1
    omega
  have heq : ∀ b, b < w.heap.size -> ¬ C.avoid H b -> w'.heap[b]? = w.heap[b]? := fun b hb hn => hs.keep b hb (fun q => hn (.inr q))
  refine { obj := fun i o hi => ?_, apart := hap, xapart := fun i o b hi hb hx => ?_, xlt := fun b hx => ?_, objb := fun i o hi => ?_, gl := h.glK hav fun b _ _ _ hb hn => heq b (ltB hb) hn }
  . rcases hobj i o hi with ⟨hu, h1, h2, h3⟩ | ⟨h1, _⟩
    . rw [h2, hs.ρ i hu]
      exact ((h.obj i o h1).mono hav heq h3).named hs.ρ (h.objb i o h1).2
    exact h1
  . rw [hs.X] at hx
    rcases hs.wr b ⟨i, o, hi, hb⟩ with ⟨j, o', hj, hb'⟩ | h1
    . exact h.xapart j o' b hj hb' hx
    have := h.xlt b hx; omega
  . rw [hs.X] at hx
    exact Nat.lt_of_lt_of_le (h.xlt b hx) hs.size
  rcases hobj i o hi with ⟨hu, h1, _⟩ | ⟨_, h1⟩
  . exact ⟨hU i hu, AObj.bel_mono hU o (h.objb i o h1).2⟩
  exact h1
def Rep.step (h : RelH C H U w) (hs : StepR C H U w C' H' w') (hx : x.bel U) (hr : Rep C.ρ (C.avoid H) w.heap x v) : Rep C'.ρ (C'.avoid H') w'.heap x v := by
  refine (hr.mono (fun b hb hq => ?_) (fun b hb hn => hs.keep b hb (fun q => hn (.inr q)))).named hs.ρ hx
  rcases hq with hq | hq
  . exact .inl (by rw [<- hs.X]; exact hq)
  rcases hs.wr b hq with h1 | h1
  . exact .inr h1
  omega
def Rel.change (h : Rel C N E H U a w) (hs : StepR C H U w C' H' w') (hU : ∀ i, U i -> U' i) (hH : RelH C' H' U' w') : Rel C' N E H' U' a w' := by
  refine { toRelH := hH, size := h.size, hB := (by rw [hs.B]; exact F6 h.hB hs.size), nodup := h.nodup, marks := fun d hd => ?_, env := fun t x ht => ?_ }
  . obtain ⟨r, h1, h2, h3, h4⟩ := h.marks d hd
    have hlt := ltB h3
    refine ⟨r, h1, by rw [hs.B]; exact h2, (hs.keep r hlt (fun q => h4 (.inr q))).trans h3, fun q => h4 ?_⟩
    rcases q with q | q
    . exact .inl (by rw [<- hs.X]; exact q)
    rcases hs.wr r q with h5 | h5
    . exact .inr h5
    omega
  obtain ⟨h1, h2, h3⟩ := h.env t x ht
  exact ⟨h1, AV.bel_mono hU x h2, h3.step h.toRelH hs h2⟩
def upd (f : Nat -> α) (i : Nat) (x : α) : Nat -> α := fun j => if j = i then x else f j
def cY (f : Nat -> α) (i : Nat) (x : α) : upd f i x i = x := by simp [upd]
def bT (f : Nat -> α) {i j : Nat} (x : α) (h : j ≠ i) : upd f i x j = f j := by simp [upd, h]
def aJb {f : Nat -> Value} (h : ∀ j, (f j).oneCell' = true) (hv : v.oneCell' = true) (j : Nat) : (upd f i v j).oneCell' = true := by
  unfold upd; split
  . exact hv
  exact h j
def Conc.new (C : Conc) (i : Nat) (v : Value) (own : List Nat) (hv : v.oneCell' = true) : Conc := { C with ρ := upd C.ρ i v, one := aJb C.one hv, own := upd C.own i own }
def eX {l : List (Nat × α)} {n m : Nat} (h : m ≠ n) : get (put l n y) m = get l m := by rw [dU, if_neg (fun e => h e.symm)]
def aBx {l : List (Nat × α)} : get (put l n y) n = some y := by rw [dU, if_pos rfl]
def StepR.new (h : RelH C H U w) (ho : w'.os = w.os) (ht : w'.tape = w.tape) (hout : w'.output = w.output) (hsz : w.heap.size <= w'.heap.size)
    (hk : ∀ k, k < w.heap.size -> w'.heap[k]? = w.heap[k]?) (hi : ¬ U i) (hv : v.oneCell' = true) (hown : ∀ b, b ∈ own -> w.heap.size <= b) (o : AObj) :
    StepR C H U w (C.new i v own hv) (Abs.put H i o) w' where
  os := ho
  tape := ht
  output := hout
  size := hsz
  keep := fun k hk' _ => hk k hk'
  wr := fun b ⟨j, oj, hj, hb⟩ => by
    by_cases e : j = i
    . subst e
      exact .inr (hown b (by simpa [Conc.new, cY] using hb))
    rw [eX e] at hj
    exact .inl ⟨j, oj, hj, by simpa [Conc.new, bT _ _ e] using hb⟩
  X := rfl
  B := rfl
  ρ := fun j hj => bT _ _ (fun e => hi (e ▸ hj))
def RelH.new (h : RelH C H U w) (ho : w'.os = w.os) (ht : w'.tape = w.tape) (hout : w'.output = w.output) (hsz : w.heap.size <= w'.heap.size)
    (hk : ∀ k, k < w.heap.size -> w'.heap[k]? = w.heap[k]?) (hi : ¬ U i) (hv : v.oneCell' = true) (hown : ∀ b, b ∈ own -> w.heap.size <= b) 
    (hr : cR (upd C.ρ i v) ((C.new i v own hv).avoid (Abs.put H i o)) w'.heap own o v) (hb : o.bel (fun j => U j ∨ j = i)) :
    RelH (C.new i v own hv) (Abs.put H i o) (fun j => U j ∨ j = i) w' := by
  refine h.change (StepR.new h ho ht hout hsz hk hi hv hown o) (fun j hj => .inl hj) (fun j oj hj => ?_) (fun j k oj ok b hne hj hk' hbj hbk => ?_)
  . by_cases e : j = i
    . subst e; rw [aBx] at hj; cases hj
      refine .inr ⟨?_, .inr rfl, hb⟩
      simpa [Conc.new, cY] using hr
    rw [eX e] at hj
    refine .inl ⟨(h.objb j oj hj).1, hj, by simp [Conc.new, bT _ _ e], fun b hb' => hk b ((h.obj j oj hj).own_lt b hb')⟩
  by_cases e : j = i
  . subst e
    have hk2 : k ≠ j := fun e' => hne e'.symm
    rw [eX hk2] at hk'
    have h1 := hown b (by simpa [Conc.new, cY] using hbj)
    have h2 := (h.obj k ok hk').own_lt b (by simpa [Conc.new, bT _ _ hk2] using hbk)
    omega
  rw [eX e] at hj
  by_cases e' : k = i
  . subst e'
    have h1 := hown b (by simpa [Conc.new, cY] using hbk)
    have h2 := (h.obj j oj hj).own_lt b (by simpa [Conc.new, bT _ _ e] using hbj)
    omega
  rw [eX e'] at hk'
  exact h.apart j k oj ok b hne hj hk' (by simpa [Conc.new, bT _ _ e] using hbj) (by simpa [Conc.new, bT _ _ e'] using hbk)
def Rep.behind_new (h : RelH C H U w) (ho : w'.os = w.os) (ht : w'.tape = w.tape) (hout : w'.output = w.output) (hsz : w.heap.size <= w'.heap.size)
    (hk : ∀ k, k < w.heap.size -> w'.heap[k]? = w.heap[k]?) (hi : ¬ U i) (hv : v.oneCell' = true) (hown : ∀ b, b ∈ own -> w.heap.size <= b) (o : AObj) {u : Value} (hx : x.bel U)
    (hr : Rep C.ρ (C.avoid H) w.heap x u) : Rep (upd C.ρ i v) ((C.new i v own hv).avoid (Abs.put H i o)) w'.heap x u :=
  hr.step h (StepR.new h ho ht hout hsz hk hi hv hown o) hx
def StepR.inPlace (h : RelH C H U w) (ho : w'.os = w.os) (ht : w'.tape = w.tape) (hout : w'.output = w.output) (hsz : w'.heap.size = w.heap.size)
    (hi : get H i = some o) (hk : ∀ k, k ∉ C.own i -> w'.heap[k]? = w.heap[k]?) : StepR C H U w C (Abs.put H i o') w' where
  os := ho
  tape := ht
  output := hout
  size := by omega
  keep := fun k _ hW => hk k (fun hb => hW ⟨i, o, hi, hb⟩)
  wr := fun b ⟨j, oj, hj, hb⟩ => by
    by_cases e : j = i
    . subst e; exact .inl ⟨j, o, hi, hb⟩
    rw [eX e] at hj; exact .inl ⟨j, oj, hj, hb⟩
  X := rfl
  B := rfl
  ρ := fun _ _ => rfl
def bRh (C : Conc) {H : Heap} (hi : get H i = some o) (b : Nat) : C.W (Abs.put H i o') b ↔ C.W H b := by
  constructor
  . rintro ⟨j, oj, hj, hb⟩
    by_cases e : j = i
    . subst e; exact ⟨j, o, hi, hb⟩
    rw [eX e] at hj; exact ⟨j, oj, hj, hb⟩
  rintro ⟨j, oj, hj, hb⟩
  by_cases e : j = i
  . subst e; exact ⟨j, o', aBx, hb⟩
  exact ⟨j, oj, by rw [eX e]; exact hj, hb⟩
def bGs (C : Conc) {H : Heap} (hi : get H i = some o) : C.avoid (Abs.put H i o') = C.avoid H := by
  funext b
  exact propext (or_congr Iff.rfl (bRh C hi b))
def RelH.inPlace (h : RelH C H U w) (ho : w'.os = w.os) (ht : w'.tape = w.tape) (hout : w'.output = w.output) (hsz : w'.heap.size = w.heap.size)
    (hi : get H i = some o) (hk : ∀ k, k ∉ C.own i -> w'.heap[k]? = w.heap[k]?) (hr : cR C.ρ (C.avoid H) w'.heap (C.own i) o' (C.ρ i)) (hb : o'.bel U) : RelH C (Abs.put H i o') U w' := by
  refine h.change (StepR.inPlace h ho ht hout hsz hi hk) (fun _ hj => hj) (fun j oj hj => ?_) (fun j k oj ok b hne hj hk' hbj hbk => ?_)
  . by_cases e : j = i
    . subst e; rw [aBx] at hj; cases hj
      exact .inr ⟨by rw [bGs C hi]; exact hr, (h.objb j o hi).1, hb⟩
    rw [eX e] at hj
    exact .inl ⟨(h.objb j oj hj).1, hj, rfl, fun b hb' => hk b (fun hb2 => h.apart j i oj o b e hj hi hb' hb2)⟩
  have aux : ∀ q oq, get (Abs.put H i o') q = some oq -> ∃ oq', get H q = some oq' := fun q oq hq => by
    by_cases e : q = i
    . subst e; exact ⟨o, hi⟩
    rw [eX e] at hq; exact ⟨oq, hq⟩
  obtain ⟨oj', hj'⟩ := aux j oj hj
  obtain ⟨ok', hk2⟩ := aux k ok hk'
  exact h.apart j k oj' ok' b hne hj' hk2 hbj hbk
end
end
section
variable [Globals]
variable {r : AV} {n f : Nat} {args : Array Value} {x : Operand}
def bQz (ro : Option Nat) (f : FuncId) : (FW ro).fn f := trivial
def Op.noDefer : Op -> Bool
  | .defer _ => false
  | _ => true
section
variable {P : Program} {ro : Option Nat} {N : Nat} {o : Oper} {a : Act} {w w' : World} {next : Act -> World -> Prop} {Q : Exit -> Act -> World -> Prop}
def sZ (hd : Op.noDefer o.op = true) : Oper.semAt (FW ro).round a.eval o = execOp a.eval o :=
  Oper.semAt_eq _ _ _ (fun c hc => by rw [hc] at hd; cases hd)
def eW {v : Value} (hd : Op.noDefer o.op = true) (hr : (execOp a.eval o).run P w = .ok (.value v) w') (h : next (a.put o.dst v) w') : o.wpIn (FW ro) 0 P a w next Q :=
  ⟨fun _ _ => trivial, by rw [sZ hd, hr]; exact h⟩
def rJ (hd : Op.noDefer o.op = true) (hr : (execOp a.eval o).run P w = .ok .skip w') (h : next (a.put o.dst undef) w') : o.wpIn (FW ro) 0 P a w next Q :=
  ⟨fun _ _ => trivial, by rw [sZ hd, hr]; exact h⟩
def aMs {R : Ending -> World -> Prop} (h : Calls P f args w R) : CallsIn (FW ro) n P f args w R :=
  ⟨trivial, fun cs _ => let ⟨e, w', fr, r, s, x⟩ := h cs; ⟨e, w', fr, r, by
    cases ro with
    | none => exact comesIn_wide.2 s
    | some l => exact (show ComesIn (Machine.fenced P Fence.wide) P _ _ e from comesIn_wide.2 s), x⟩⟩
def bLg {R : Ending -> World -> Prop} (h : CallsIn (FW none) n P f args w R) : Calls P f args w R := callsIn_wide.1 h
end
def OpT (P : Program) (ro : Option Nat) (N : Nat) (o : Oper) (E : Env) (H : Heap) (U : Nat -> Prop) (E' : Env) (H' : Heap) (U' : Nat -> Prop) : Prop :=
  ∀ (C : Conc) (a : Act) (w : World) (next : Act -> World -> Prop) (Q : Exit -> Act -> World -> Prop), Rel C N E H U a w ->
    (∀ C' a' w', Rel C' N E' H' U' a' w' -> StepR C H U w C' H' w' -> next a' w') -> o.wpIn (FW ro) 0 P a w next Q
def opv (E : Env) : Operand -> Option AV
  | .tmp t => get E t
  | .const v => some (.raw v)
  | .global g => some (.raw (.pointer (some ⟨g, 0, none⟩)))
  | .func f => some (.fn (.func f) [] [])
section
variable {P : Program} {ro : Option Nat} {N : Nat} {o : Oper} {E : Env} {H : Heap} {U : Nat -> Prop} {C : Conc} {a : Act} {w : World}
def Rel.opv (h : Rel C N E H U a w) (hx : opv E x = some r) : Rep C.ρ (C.avoid H) w.heap r (a.eval x) /\ r.bel U := by
  cases x with
  | tmp t =>
    obtain ⟨_, h2, h3⟩ := h.env t r hx
    exact ⟨h3, h2⟩
  | const v => simp only [Abs.opv, B9] at hx; subst hx; exact ⟨.raw v, trivial⟩
  | global g => simp only [Abs.opv, B9] at hx; subst hx; exact ⟨.raw _, trivial⟩
  | func f =>
    simp only [Abs.opv, B9] at hx
    subst hx
    exact ⟨.fn _ _ _ _ _ rfl (fun j x hj => by simp at hj) rfl (fun j x hj => by simp at hj), trivial, trivial⟩
def aT (hd : Op.noDefer o.op = true) (hN : oD o N)
    (h : ∀ C a w, Rel C N E H U a w -> r.bel U /\ ∃ v, (execOp a.eval o).run P w = .ok (.value v) w /\ Rep C.ρ (C.avoid H) w.heap r v) : OpT P ro N o E H U (aU E o.dst r) H U := by
  intro C a w next Q hR hK
  obtain ⟨hb, v, hrun, hr⟩ := h C a w hR
  exact eW hd hrun (hK C _ w (hR.put hN hr hb) (StepR.refl C H U w))
def aIx {nw : Nat} {ob : AObj} (hd : Op.noDefer o.op = true) (hN : oD o N) (hnw : ¬ U nw) (hob : ob.bel U) (hrb : r.bel (fun j => U j ∨ j = nw))
    (h : ∀ C a w, Rel C N E H U a w -> ∃ v ro' val own, val.oneCell' = true /\ (execOp a.eval o).run P w = .ok (.value v) (w.alloc ro') /\ (∀ b, b ∈ own -> w.heap.size <= b) /\
      (∀ (ρ : Nat -> Value) (av : Nat -> Prop), (∀ x u, x.bel U -> Rep C.ρ (C.avoid H) w.heap x u -> Rep ρ av (w.alloc ro').heap x u) -> cR ρ av (w.alloc ro').heap own ob val /\ (ρ nw = val -> Rep ρ av (w.alloc ro').heap r v))) :
    OpT P ro N o E H U (aU E o.dst r) (put H nw ob) (fun j => U j ∨ j = nw) := by
  intro C a w next Q hR hK
  obtain ⟨v, ro', val, own, hval, hrun, hown, hrep⟩ := h C a w hR
  have hk : ∀ k, k < w.heap.size -> (w.alloc ro').heap[k]? = w.heap[k]? := fun k hk => RowKit.Below.heap_alloc w ro' k hk
  have hsz : w.heap.size <= (w.alloc ro').heap.size := by simp
  have hold : ∀ x u, x.bel U -> Rep C.ρ (C.avoid H) w.heap x u -> Rep (upd C.ρ nw val) ((C.new nw val own hval).avoid (put H nw ob)) (w.alloc ro').heap x u :=
    fun x u hx hr => Rep.behind_new (w' := w.alloc ro') hR.toRelH rfl rfl rfl hsz hk hnw hval hown ob hx hr
  obtain ⟨h1, h2⟩ := hrep _ _ hold
  have hs := StepR.new (U := U) (w' := w.alloc ro') hR.toRelH rfl rfl rfl hsz hk hnw (v := val) hval hown ob
  have hH := RelH.new (w' := w.alloc ro') hR.toRelH rfl rfl rfl hsz hk hnw hval hown h1 (AObj.bel_mono (fun _ hj => .inl hj) ob hob)
  have hR' : Rel (C.new nw val own hval) N E (put H nw ob) (fun j => U j ∨ j = nw) a (w.alloc ro') := hR.change hs (fun _ hj => .inl hj) hH
  exact eW hd hrun (hK _ _ _ (hR'.put hN (h2 (cY _ _ _)) hrb) hs)
def aZk (ho : o.op = .move x ∨ o.op = .assign x) (hx : opv E x = some r) (hN : oD o N) : OpT P ro N o E H U (aU E o.dst r) H U := by
  refine aT (by rcases ho with ho | ho <;> simp [ho, Op.noDefer]) hN fun C a w hR => ?_
  obtain ⟨h1, h2⟩ := hR.opv hx
  exact ⟨h2, _, by rcases ho with ho | ho <;> simp [execOp, ho], h1⟩
end
end
section
variable [Globals]
variable {α : Type} {off sz i b n j esz : Nat} {ag : Bool} {av : Nat -> Prop} {hp : Array Obj} {v u : Value} {t tt t0 : TypeId} {r x el : AV} {ρ : Nat -> Value} {cs ys xs : List AV} {w : World} {cells : Array Value} {C : Conc} {ow : List Nat}
def AV.sc : AV -> Bool
  | .raw v => v.oneCell'
  | .any | .agg _ | .tup _ | .when _ _ | .own _ _ _ => false
  | _ => true
def Rep.sc (h : Rep ρ av hp x v) (hone : ∀ i, (ρ i).oneCell' = true) (hx : x.sc = true) : v.oneCell' = true := by
  cases h <;> first | (simp [AV.sc] at hx; done) | rfl | exact hone _ | simpa [AV.sc] using hx
def dF (h : v.oneCell' = true) : v.cells = #[v] := by cases v <;> first | rfl | (simp [Value.oneCell'] at h)
def eH (x : AV) (off n : Nat) (ag : Bool) : Option AV :=
  match x with
  | .agg cs => if ag then (if off + n <= cs.length then some (.agg ((cs.drop off).take n)) else none) else (if n = 1 then cs[off]? else none)
  | x => if ag then none else if off = 0 /\ n = 1 /\ x.sc = true then some x else none
def iX (v : Value) (off n : Nat) (ag : Bool) : Value :=
  if ag then .agg ((List.range n).map fun k => v.cells.getD (off + k) undef).toArray else v.cells.getD off undef
def pF {U : Nat -> Prop} (h : Rep ρ av hp x v) (hone : ∀ i, (ρ i).oneCell' = true) (hx : x.bel U) (hr : eH x off n ag = some r) :
    Rep ρ av hp r (iX v off n ag) /\ r.bel U /\ off + n <= v.cells.size := by
  cases x with
  | agg cs =>
    cases h with
    | agg _ vs hn hrep =>
      cases ag with
      | true =>
        simp only [eH, if_true] at hr
        split at hr
        . rename_i hle
          cases hr
          refine ⟨?_, ?_, by show off + n <= vs.size; omega⟩
          . refine .agg _ _ (by simp; omega) fun j y hj => ?_
            have hjn : j < n := by
              rcases Nat.lt_or_ge j n with h1 | h1
              . exact h1
              simp [G1, show ¬ j < n by omega] at hj
            rw [G1, if_pos hjn, H4] at hj
            have h2 := hrep _ y hj
            simpa [B5, hjn, Value.cells] using h2
          show aI U _
          rw [bLi]; intro y hy
          have : y ∈ cs := D2 (D1 hy)
          exact bLi.1 hx y this
        cases hr
      | false =>
        simp only [eH, if_false, C5] at hr
        split at hr
        . rename_i hn1
          subst hn1
          refine ⟨by simpa [iX, Value.cells] using hrep _ r hr, bG hx hr, ?_⟩
          have := (B2.1 hr).1
          show off + 1 <= vs.size
          omega
        cases hr
  | _ =>
    cases ag with
    | true => simp [eH] at hr
    | false =>
      simp only [eH, if_false, C5] at hr
      split at hr
      . rename_i hc
        obtain ⟨rfl, rfl, hsc⟩ := hc
        cases hr
        have h1 := dF (h.sc hone hsc)
        refine ⟨by simpa [iX, h1] using h, hx, by simp [h1]⟩
      cases hr
def bQd : TypeDesc -> Bool
  | .struct _ | .array _ _ => true
  | _ => false
structure VarT (P : Program) (t : TypeId) (sz : Nat) (ag : Bool) : Prop where
  info : (P.info? t).map (·.size) = some sz
  und : (P.underlying t).map bQd = some ag
def VarT.run_size {P : Program} (h : VarT P t sz ag) (w : World) : (sizeOf t).run P w = .ok sz w := by
  obtain ⟨i, hi, hs⟩ := B3.1 h.info
  simp [sizeOf, typeInfo, hi, hs]
def VarT.run_agg {P : Program} (h : VarT P t sz ag) (w : World) : (isAgg t).run P w = .ok ag w := by
  obtain ⟨d, hd, ha⟩ := B3.1 h.und
  unfold isAgg; rw [Sem.run_bind, run_underlying hd w, <- ha]
  cases d <;> rfl
def jV (b o n : Nat) : (⟨b, o, none⟩ : Addr).add n = ⟨b, o + n, none⟩ := by unfold Addr.add; split <;> simp_all
def mX {P : Program} (h : VarT P t sz ag) {fr : Nat × Nat} (hg : w.heap[b]? = some (.cells cells tt fr))
    {o : Nat} (hc : ∀ k, k < sz -> cells[off + k]? = v.cells[o + k]?) (hle : o + sz <= v.cells.size) (h1 : ag = false -> 0 < sz) :
    (loadVar t ⟨b, off, none⟩).run P w = .ok (iX v o sz ag) w := by
  have hcell : ∀ k, k < sz -> w.cell? (⟨b, off + k, none⟩ : Addr) = some (v.cells.getD (o + k) undef) := fun k hk => by
    rw [cell_of_row w b (off + k) cells tt fr hg, hc k hk]
    simp [B5, D4 (show o + k < v.cells.size by omega)]
  unfold loadVar; rw [Sem.run_bind, h.run_agg w]
  cases ag with
  | true =>
    have hl := run_loadCells (P := P) w ⟨b, off, none⟩ sz (fun k => v.cells.getD (o + k) undef) (fun k hk => by rw [jV]; exact hcell k hk)
    simp [Sem.run_bind, h.run_size w, hl, iX]
  | false =>
    have := hcell 0 (h1 rfl)
    simp at this
    simp [this, iX]
section
variable {P : Program} {ro : Option Nat} {N : Nat} {o : Oper} {E : Env} {H : Heap} {U : Nat -> Prop}
def nV (h : eH x off n ag = some r) (ha : ag = false) : n = 1 := by
  subst ha
  cases x <;> simp [eH] at h <;> first | exact h.1.1 | exact h.1.2.1 | omega
def aNe {x : Operand} (ho : o.op = .load t x) (hN : oD o N) (hv : VarT P t sz ag)
    (hx : opv E x = some (.ptr i off)) (hH : get H i = some (.cells t0 cs)) (hr : eH (.agg cs) off sz ag = some r) : OpT P ro N o E H U (aU E o.dst r) H U := by
  refine aT (by simp [ho, Op.noDefer]) hN fun C a w hR => ?_
  obtain ⟨h1, _⟩ := hR.opv hx
  obtain ⟨b, vs, hval, _, hb, hrep⟩ := hR.obj i _ hH
  obtain ⟨hr1, hr2, hr3⟩ := pF (v := .agg vs) (.agg cs vs hrep.1 hrep.2) C.one (U := U) (hR.objb i _ hH).2 hr
  have hev : a.eval x = .pointer (some ⟨b, off, none⟩) := by
    generalize a.eval x = u at h1
    cases h1 with
    | ptr _ _ b' hb' => rw [hval] at hb'; simp [blk] at hb'; rw [<- hb']
  refine ⟨hr2, _, ?_, hr1⟩
  have := mX (P := P) (w := w) hv hb (v := .agg vs) (o := off) (off := off) (fun k _ => rfl) hr3 (fun e => by rw [nV hr e]; omega)
  simp [execOp, ho, hev, Instr.loadAt, Instr.sureAddr, this]
def aBi (h : Rep C.ρ av hp (.ptr i off) u) (hb : blk (C.ρ i) = some b) : u = .pointer (some ⟨b, off, none⟩) := by
  cases h with
  | ptr _ _ b' hb' => rw [hb] at hb'; cases hb'; rfl
def yZ (h : Rep C.ρ av hp (.ep i sz j off) u) (hb : blk (C.ρ i) = some b) : u = .pointer (some ⟨b, j * sz + off, none⟩) := by
  cases h with
  | ep _ _ _ _ b' hb' => rw [hb] at hb'; cases hb'; rfl
mutual
def AV.free : AV -> Bool
  | .own _ _ _ => false
  | .agg cs => aWu cs
  | _ => true
def aWu : List AV -> Bool
  | [] => true
  | x :: xs => x.free && aWu xs
end
def aFw : ∀ {xs : List AV}, aWu xs = true -> ∀ {j : Nat} {x : AV}, xs[j]? = some x -> x.free = true
  | [], _, j, x, h => by simp at h
  | y :: ys, hf, j, x, h => by
    simp only [aWu, B7] at hf
    cases j with
    | zero => simp at h; subst h; exact hf.1
    | succ j => exact aFw hf.2 (by simpa using h)
def RepO.free (h : RepO ρ av hp x v ow) (hx : x.free = true) : Rep ρ av hp x v := by
  induction h with
  | leaf x v h => exact h
  | agg cs vs ows hn _ ih => exact .agg cs vs hn fun j x hj => ih j x hj (aFw (by simpa [AV.free] using hx) hj)
  | own0 e sz => simp [AV.free] at hx
  | own e sz xs b c cells vals ows hh hs hc hm _ hcells ih => simp [AV.free] at hx
def aZe {U : Nat -> Prop} (h : RepO ρ av hp x v ow) (hone : ∀ i, (ρ i).oneCell' = true) (hx : x.bel U) (hr : eH x off n ag = some r) (hf : r.free = true) :
    Rep ρ av hp r (iX v off n ag) /\ r.bel U /\ off + n <= v.cells.size := by
  cases h with
  | leaf _ _ h => exact pF h hone hx hr
  | agg cs vs ows hn hrep =>
    cases ag with
    | true =>
      simp only [eH, if_true] at hr
      split at hr
      . rename_i hle
        cases hr
        refine ⟨?_, ?_, by show off + n <= vs.size; omega⟩
        . refine .agg _ _ (by simp; omega) fun j y hj => ?_
          have hfy := aFw (by simpa [AV.free] using hf) hj
          have hjn : j < n := by
            rcases Nat.lt_or_ge j n with h1 | h1
            . exact h1
            simp [G1, show ¬ j < n by omega] at hj
          rw [G1, if_pos hjn, H4] at hj
          have h2 := (hrep _ y hj).free hfy
          simpa [B5, hjn, Value.cells] using h2
        show aI U _
        rw [bLi]; intro y hy
        have : y ∈ cs := D2 (D1 hy)
        exact bLi.1 hx y this
      cases hr
    | false =>
      simp only [eH, if_false, C5] at hr
      split at hr
      . rename_i hn1
        subst hn1
        refine ⟨by simpa [iX, Value.cells] using (hrep _ r hr).free hf, bG hx hr, ?_⟩
        have := (B2.1 hr).1
        show off + 1 <= vs.size
        omega
      cases hr
  | own0 e sz => cases ag <;> simp [eH, AV.sc] at hr
  | own e sz xs b c cells vals ows => cases ag <;> simp [eH, AV.sc] at hr
def aTx {t e : TypeId} {x : Operand} (ho : o.op = .load t x) (hN : oD o N) (hv : VarT P t sz ag)
    (hx : opv E x = some (.ep i esz j off)) (hH : get H i = some (.row e esz xs)) (hj : xs[j]? = some el) (hr : eH el off sz ag = some r) (hf : r.free = true) : OpT P ro N o E H U (aU E o.dst r) H U := by
  refine aT (by simp [ho, Op.noDefer]) hN fun C a w hR => ?_
  obtain ⟨h1, _⟩ := hR.opv hx
  have hlt := (B2.1 hj).1
  obtain ⟨hO, _⟩ := hR.obj i _ hH
  have hbel := (hR.objb i _ hH).2
  generalize hval : C.ρ i = vv at hO
  generalize C.own i = oo at hO
  cases hO with
  | leaf _ _ h => cases h
  | own0 => simp at hj
  | own _ _ _ b c cells vals ows hb hs hc hm hrep hcells =>
    obtain ⟨hs, hk⟩ := hcells j hlt
    obtain ⟨hr1, hr2, hr3⟩ := aZe (hrep j el hj) C.one (U := U) (bG hbel hj) hr hf
    have hev := yZ h1 (b := b) (by rw [hval]; rfl)
    refine ⟨hr2, _, ?_, hr1⟩
    have := mX (P := P) (w := w) hv hb (v := vals j) (o := off) (off := j * esz + off) (fun k hk' => by
      have := hk (off + k) og
      rwa [C3, <- Nat.add_assoc] at this) hr3 (fun e => by rw [nV hr e]; omega)
    simp [execOp, ho, hev, Instr.loadAt, Instr.sureAddr, this]
def aZi {x : Operand} (ho : o.op = .load t x) (hN : oD o N) (hv : VarT P t sz ag)
    (hx : opv E x = some (.fp esz xs j off)) (hj : xs[j]? = some el) (hr : eH el off sz ag = some r) : OpT P ro N o E H U (aU E o.dst r) H U := by
  refine aT (by simp [ho, Op.noDefer]) hN fun C a w hR => ?_
  obtain ⟨h1, h2⟩ := hR.opv hx
  have hlt := (B2.1 hj).1
  generalize hev : a.eval x = u at h1
  cases h1 with
  | fp _ _ _ _ b off0 cells tt fr vals _ hb hrep hcells =>
    obtain ⟨hs, hk⟩ := hcells j hlt
    obtain ⟨hr1, hr2, hr3⟩ := pF (hrep j el hj) C.one (U := U) (bG h2 hj) hr
    refine ⟨hr2, _, ?_, hr1⟩
    have := mX (P := P) (w := w) hv hb (v := vals j) (o := off) (off := off0 + j * esz + off) (fun k hk' => by
      have := hk (off + k) og
      rwa [<- Nat.add_assoc] at this) hr3 (fun e => by rw [nV hr e]; omega)
    simp [execOp, ho, hev, Instr.loadAt, Instr.sureAddr, this]
def vT (x : AV) : Option (List AV) :=
  match x with
  | .agg cs => if cs.all AV.sc then some cs else none
  | x => if x.sc then some [x] else none
def uZ {U : Nat -> Prop} (h : Rep ρ av hp x v) (hone : ∀ i, (ρ i).oneCell' = true) (hx : x.bel U) (hy : vT x = some ys) :
    eB ρ av hp ys v.cells /\ aI U ys /\ ∀ u ∈ v.cells.toList, u.oneCell' = true := by
  cases x with
  | agg cs =>
    cases h with
    | agg _ vs hn hrep =>
      simp only [vT] at hy
      split at hy
      . rename_i hall
        cases hy
        refine ⟨⟨hn, hrep⟩, hx, fun u hu => ?_⟩
        obtain ⟨k, hk⟩ := G2 hu
        have hk' : vs[k]? = some u := by rw [<- D8]; exact hk
        have hlt := (Array.getElem?_eq_some_iff.1 hk').1
        have hc : ys[k]? = some (ys[k]'og) := A1 og
        have h1 := hrep k _ hc
        rw [B5, hk'] at h1
        exact h1.sc hone (C8.1 hall _ (E4 hc))
      cases hy
  | _ =>
    simp only [vT] at hy
    split at hy
    . rename_i hsc
      cases hy
      have h1 := h.sc hone hsc
      rw [dF h1]
      refine ⟨⟨rfl, fun j y hj => ?_⟩, ⟨hx, trivial⟩, fun u hu => by simp at hu; subst hu; exact h1⟩
      cases j with
      | zero => simp at hj; subst hj; simpa using h
      | succ j => simp at hj
    cases hy
def bM (cs : List α) (off : Nat) (ys : List α) : List α := cs.take off ++ ys ++ cs.drop (off + ys.length)
def lA (cs : List α) (off : Nat) (ys : List α) (hle : off + ys.length <= cs.length) (k : Nat) :
    (bM cs off ys)[k]? = if k < off then cs[k]? else if k < off + ys.length then ys[k - off]? else cs[k]? := by
  unfold bM
  have hl : (cs.take off).length = off := by simp; omega
  by_cases h1 : k < off
  . rw [if_pos h1, F8, G6 og, G1, if_pos h1]
  rw [if_neg h1, F8, G7 og, hl]
  by_cases h2 : k < off + ys.length
  . rw [if_pos h2, G6 og]
  rw [if_neg h2, G7 og, H4]
  congr 1
  omega
def iM (cs : List α) (off : Nat) (ys : List α) (hle : off + ys.length <= cs.length) : (bM cs off ys).length = cs.length := by
  simp [bM]; omega
def aGx {vs us : Array Value} (h : eB ρ av hp cs vs) (hy : eB ρ av hp ys us) (hle : off + ys.length <= cs.length) :
    eB ρ av hp (bM cs off ys) (bM vs.toList off us.toList).toArray := by
  have hul : us.toList.length = ys.length := by simp [hy.1]
  have hvl : vs.toList.length = cs.length := by simp [h.1]
  refine ⟨by rw [iM _ _ _ hle]; show (bM _ _ _).toArray.size = _; rw [List.size_toArray, iM _ _ _ og, hvl], fun j x hj => ?_⟩
  rw [lA _ _ _ hle] at hj
  have hg : ∀ k, (bM vs.toList off us.toList).toArray[k]? = if k < off then vs[k]? else if k < off + ys.length then us[k - off]? else vs[k]? := fun k => by
    rw [List.getElem?_toArray, lA _ _ _ og, hul]
    simp
  rw [B5, hg]
  by_cases h1 : j < off
  . simp only [h1, if_true] at hj ⊢
    simpa [B5] using h.2 j x hj
  by_cases h2 : j < off + ys.length
  . simp only [h1, h2, if_true, if_false] at hj ⊢
    simpa [B5] using hy.2 _ x hj
  simp only [h1, h2, if_false] at hj ⊢
  simpa [B5] using h.2 j x hj
def aHc {U : Nat -> Prop} (h : aI U cs) (hy : aI U ys) : aI U (bM cs off ys) := by
  rw [bLi] at h hy ⊢
  intro x hx
  simp only [bM, A7] at hx
  rcases hx with (hx | hx) | hx
  . exact h x (D1 hx)
  . exact hy x hx
  exact h x (D2 hx)
def vF (h : VarT P t sz ag) (hg : w.heap[b]? = some (.cells cells tt (0, 0))) (hs : v.cells.size = sz)
    (h1 : ∀ u ∈ v.cells.toList, u.oneCell' = true) (hle : off + sz <= cells.size) :
    (storeVar t ⟨b, off, none⟩ v).run P w = .ok () (w.setRow b (bM cells.toList off v.cells.toList).toArray) := by
  have hst := run_storeCells_at P b off tt v.cells.toList 0 cells w hg (by simp; omega) h1
  unfold storeVar; rw [Sem.run_bind, h.run_size w]; simp only [Result.andThen_ok]; rw [if_neg (by simpa using hs)]
  simpa [bM] using hst
def aIa {x y : Operand} (ho : o.op = .store t x y) (hN : oD o N) (hv : VarT P t sz ag)
    (hx : opv E x = some (.ptr i off)) (hH : get H i = some (.cells t0 cs)) (hy : opv E y = some r) (hys : vT r = some ys) (hsz : ys.length = sz) (hle : off + sz <= cs.length) :
    OpT P ro N o E H U (aU E o.dst (.raw undef)) (put H i (.cells t0 (bM cs off ys))) U := by
  intro C a w next Q hR hK
  obtain ⟨h1, _⟩ := hR.opv hx
  obtain ⟨h2, h2b⟩ := hR.opv hy
  obtain ⟨b, vs, hval, hown, hb, hrep⟩ := hR.obj i _ hH
  obtain ⟨hy1, hy2, hy3⟩ := uZ h2 C.one h2b hys
  have hev := aBi h1 (b := b) (by rw [hval]; rfl)
  have hrun := vF (P := P) (w := w) hv hb (v := a.eval y) (off := off) (by rw [hy1.1]; exact hsz) hy3 (by rw [hrep.1]; exact hle)
  refine rJ (by simp [ho, Op.noDefer]) (w' := w.setRow b (bM vs.toList off (a.eval y).cells.toList).toArray) (by simp [execOp, ho, hev, Instr.storeAt, Instr.sureAddr, hrun]) ?_
  have hk : ∀ k, k ∉ C.own i -> (w.setRow b (bM vs.toList off (a.eval y).cells.toList).toArray).heap[k]? = w.heap[k]? := fun k hk => setRow_other w b k _ (fun e => hk (by rw [hown, e]; simp))
  have hs := StepR.inPlace (o' := .cells t0 (bM cs off ys)) hR.toRelH (w' := w.setRow b (bM vs.toList off (a.eval y).cells.toList).toArray) rfl rfl rfl oS hH hk
  have hav : ∀ k, k < w.heap.size -> ¬ C.avoid H k -> (w.setRow b (bM vs.toList off (a.eval y).cells.toList).toArray).heap[k]? = w.heap[k]? := fun k _ hn => hk k (fun hb' => hn (.inr ⟨i, _, hH, hb'⟩))
  have hRH := hR.toRelH.inPlace (w' := w.setRow b (bM vs.toList off (a.eval y).cells.toList).toArray) rfl rfl rfl oS hH (o' := .cells t0 (bM cs off ys)) hk
    ⟨b, _, hval, hown, setRow_heap w b vs _ t0 (0, 0) hb, (aGx hrep hy1 og).mono (fun _ _ h => h) hav⟩ (aHc (hR.objb i _ hH).2 hy2)
  have hR' := hR.change hs (fun _ h => h) hRH
  exact hK C _ _ (hR'.put hN (.raw _) trivial) hs
end
end
section
variable [Globals]
variable {t e t' : TypeId} {x y : Operand} {sz by' j off i : Nat} {k : IntKind} {n : Int} {ag : Bool} {p r : AV} {xs : List AV} {v : Value}
def fI (P : Program) (t : TypeId) (j : Nat) : Option (Nat × Option Nat × Option Bool) :=
  match P.underlying t with
  | some (.struct fs) => (fs[j]?).map fun f => (f.offset, (P.info? f.type).map (·.size), (P.underlying f.type).map bQd)
  | _ => none
def yV {P : Program} (h : fI P t j = some (off, some sz, some ag)) :
    ∃ fs f, P.underlying t = some (.struct fs) /\ fs[j]? = some f /\ f.offset = off /\ VarT P f.type sz ag := by
  unfold fI at h; split at h
  . rename_i fs hu
    obtain ⟨f, hf, he⟩ := B3.1 h
    simp only [Prod.mk.injEq] at he
    exact ⟨fs, f, hu, hf, he.1, he.2.1, he.2.2⟩
  cases h
section
variable {P : Program} {ro : Option Nat} {N : Nat} {o : Oper} {E : Env} {H : Heap} {U : Nat -> Prop}
def yE (h : fI P t j = some (off, some sz, some ag)) (h0 : 0 < sz) (b q : Nat) (w : World) :
    (Instr.fieldAt t (.pointer (some ⟨b, q, none⟩)) j).run P w = .ok (.pointer (some ⟨b, q + off, none⟩)) w := by
  obtain ⟨fs, f, hu, hf, ho, hv⟩ := yV h
  have hne : ¬ sz = 0 := by omega
  simp [Instr.fieldAt, run_underlying hu, hf, Instr.sureAddr, fieldPlace, hv.run_size w, hne, jV, ho]
def bAk (x : AV) (off : Nat) : Option AV :=
  match x with
  | .ptr i q => some (.ptr i (q + off))
  | .ep i sz j q => some (.ep i sz j (q + off))
  | .fp sz xs j q => some (.fp sz xs j (q + off))
  | _ => none
def aOx (ho : o.op = .fieldAddr t x j) (hN : oD o N) (hf : fI P t j = some (off, some sz, some ag)) (h0 : 0 < sz)
    (hx : opv E x = some p) (hr : bAk p off = some r) : OpT P ro N o E H U (aU E o.dst r) H U := by
  refine aT (by simp [ho, Op.noDefer]) hN fun C a w hR => ?_
  obtain ⟨h1, h2⟩ := hR.opv hx
  generalize hev : a.eval x = u at h1
  cases p with
  | fp sz' xs' j' q =>
    simp only [bAk, B9] at hr
    subst hr
    cases h1 with
    | fp _ _ _ _ b off0 cells tt fr vals hnb hb hrep hcells =>
      have hrun := yE hf h0 b (off0 + j' * sz' + q) w
      rw [Nat.add_assoc (off0 + j' * sz')] at hrun
      exact ⟨h2, _, by simp only [execOp, ho, hev, Sem.run_bind, hrun, Result.andThen_ok, Sem.run_pure], .fp _ _ _ _ b off0 cells tt fr vals hnb hb hrep hcells⟩
  | ptr i' q =>
    simp only [bAk, B9] at hr
    subst hr
    cases h1 with
    | ptr _ _ b hb => exact ⟨h2, _, by simp [execOp, ho, hev, yE hf h0], .ptr _ _ b hb⟩
  | ep i' sz' j' q =>
    simp only [bAk, B9] at hr
    subst hr
    cases h1 with
    | ep _ _ _ _ b hb =>
      have hrun := yE hf h0 b (j' * sz' + q) w
      rw [Nat.add_assoc] at hrun
      exact ⟨h2, _, by simp only [execOp, ho, hev, Sem.run_bind, hrun, Result.andThen_ok, Sem.run_pure], .ep _ _ _ _ b hb⟩
  | _ => simp [bAk] at hr
def cL (P : Program) (t : TypeId) : Option (TypeId × Option (Nat × Nat)) :=
  match P.underlying t with
  | some (.slice e) => some (e, (P.info? e).map fun i => (i.size, i.bytes))
  | _ => none
def gN {P : Program} (h : cL P t = some (e, some (sz, by'))) : P.underlying t = some (.slice e) /\ ∃ i, P.info? e = some i /\ i.size = sz /\ i.bytes = by' := by
  unfold cL at h; split at h
  . rename_i e' hu
    simp only [B9, Prod.mk.injEq] at h
    obtain ⟨rfl, h⟩ := h
    obtain ⟨i, hi, he⟩ := B3.1 h
    simp only [Prod.mk.injEq] at he
    exact ⟨hu, i, hi, he.1, he.2⟩
  cases h
def sD (h : cL P t = some (e, some (sz, by'))) (b off len cap : Nat) (k : IntKind) (n : Int) (h0 : 0 <= n) (h1 : n < len) (w : World) :
    (Instr.indexAt t (.slice (some ⟨b, off, none⟩) len cap) (.int k n)).run P w = .ok (.pointer (some ⟨b, off + n.toNat * sz, none⟩)) w := by
  obtain ⟨hu, i, hi, hs, _⟩ := gN h
  simp [Instr.indexAt, asIntOf, run_underlying hu, h0, h1, sizeOf, typeInfo, hi, hs, jV]
def aGk (ho : o.op = .indexAddr t x y) (hN : oD o N) (hs : cL P t = some (e, some (sz, by')))
    (hx : opv E x = some (.sl sz xs)) (hy : opv E y = some (.raw (.int k n))) (h0 : 0 <= n) (h1 : n < xs.length) : OpT P ro N o E H U (aU E o.dst (.fp sz xs n.toNat 0)) H U := by
  refine aT (by simp [ho, Op.noDefer]) hN fun C a w hR => ?_
  obtain ⟨h2, h3⟩ := hR.opv hx
  obtain ⟨h4, _⟩ := hR.opv hy
  generalize hev : a.eval x = u at h2
  generalize hey : a.eval y = u' at h4
  cases h4
  cases h2 with
  | sl0 => simp at h1; omega
  | sl _ _ b off c cells tt fr vals h0' hc hm hnb hb hrep hcells =>
    exact ⟨h3, _, by simp [execOp, ho, hev, hey, sD hs b off _ c k n h0 h1], .fp _ _ _ _ b off cells tt fr vals hnb hb hrep hcells⟩
def aDu {t e e' : TypeId} (ho : o.op = .indexAddr t x y) (hN : oD o N) (hs : cL P t = some (e, some (sz, by')))
    (hx : opv E x = some (.ref i)) (hH : get H i = some (.row e' sz xs)) (hy : opv E y = some (.raw (.int k n))) (h0 : 0 <= n) (h1 : n < xs.length) : OpT P ro N o E H U (aU E o.dst (.ep i sz n.toNat 0)) H U := by
  refine aT (by simp [ho, Op.noDefer]) hN fun C a w hR => ?_
  obtain ⟨h2, h3⟩ := hR.opv hx
  obtain ⟨h4, _⟩ := hR.opv hy
  generalize hev : a.eval x = u at h2
  generalize hey : a.eval y = u' at h4
  cases h4; cases h2
  obtain ⟨hO, _⟩ := hR.obj i _ hH
  generalize hval : C.ρ i = vv at hO
  generalize C.own i = oo at hO
  cases hO with
  | leaf _ _ h => cases h
  | own0 => simp at h1; omega
  | own _ _ _ b c cells vals ows hb hs' hc hm hrep hcells =>
    rw [hval] at hev
    have hrun := sD hs b 0 _ c k n h0 h1 w
    rw [C3] at hrun
    exact ⟨h3, _, by simp [execOp, ho, hev, hey, hrun], .ep _ _ _ _ b (by rw [hval]; rfl)⟩
def aS (s : ByteArray) (k : Nat) : Int := ((s.data.toList.getD k 0).toNat : Int)
def aOp {s : ByteArray} (ho : o.op = .index t x y) (hN : oD o N) (ht : P.underlying t = some .string)
    (hx : opv E x = some (.raw (.string s))) (hy : opv E y = some (.raw (.int k n))) (h0 : 0 <= n) (h1 : n < s.size) : OpT P ro N o E H U (aU E o.dst (.raw (.int .u8 (aS s n.toNat)))) H U := by
  refine aT (by simp [ho, Op.noDefer]) hN fun C a w hR => ?_
  obtain ⟨h2, _⟩ := hR.opv hx
  obtain ⟨h4, _⟩ := hR.opv hy
  generalize hev : a.eval x = u at h2
  generalize hey : a.eval y = u' at h4
  cases h4; cases h2
  have hb : s[n.toNat]? = some (s[n.toNat]'og) := getElem?_pos s n.toNat og
  have hd : (s[n.toNat]'og) = s.data.toList.getD n.toNat 0 := by
    have hlt : n.toNat < s.data.size := by show n.toNat < s.size; omega
    rw [E7, D8, D4 hlt]; rfl
  refine ⟨trivial, _, ?_, .raw _⟩
  simp [execOp, ho, hev, hey, Instr.index, asIntOf, run_underlying ht, h0, hb, aS, hd]
def aSb (ho : o.op = .nilCheck x) (hN : oD o N) (hx : opv E x = some p) (hp : ∀ (ρ : Nat -> Value) (av : Nat -> Prop) (hp : Array Obj) (v : Value), Rep ρ av hp p v -> ∃ a, v = .pointer (some a)) :
    OpT P ro N o E H U (aU E o.dst p) H U := by
  refine aT (by simp [ho, Op.noDefer]) hN fun C a w hR => ?_
  obtain ⟨h1, h2⟩ := hR.opv hx
  obtain ⟨ad, had⟩ := hp _ _ _ _ h1
  exact ⟨h2, _, by simp [execOp, ho, had], h1⟩
def bDq : AV -> Bool
  | .ptr .. | .ep .. | .fp .. => true
  | _ => false
def bGt (h : bDq p = true) (ρ : Nat -> Value) (av : Nat -> Prop) (hp : Array Obj) (v : Value) (hr : Rep ρ av hp p v) : ∃ a, v = .pointer (some a) := by
  cases hr <;> first | (simp [bDq] at h; done) | exact ⟨_, rfl⟩
def aXl {vs : List AV} (ho : o.op = .extract x i) (hN : oD o N) (hx : opv E x = some (.tup vs)) (hr : vs[i]? = some r) : OpT P ro N o E H U (aU E o.dst r) H U := by
  refine aT (by simp [ho, Op.noDefer]) hN fun C a w hR => ?_
  obtain ⟨h1, h2⟩ := hR.opv hx
  generalize hev : a.eval x = u at h1
  cases h1 with
  | tup _ us hn hrep =>
    have hlt := (B2.1 hr).1
    have h3 := hrep i r hr
    have hu : us[i]? = some (us.getD i undef) := by simp [show i < us.size by omega]
    exact ⟨bG h2 hr, _, by simp only [execOp, ho, hev, Instr.extract, hu, Sem.run_bind, Sem.run_pure, Result.andThen_ok], h3⟩
def aEq (ho : o.op = .makeInterface t x) (hN : oD o N) (ht : P.concrete t = true) (hx : opv E x = some r) : OpT P ro N o E H U (aU E o.dst (.iface t r)) H U := by
  refine aT (by simp [ho, Op.noDefer]) hN fun C a w hR => ?_
  obtain ⟨h1, h2⟩ := hR.opv hx
  exact ⟨h2, _, by simp only [execOp, ho, Sem.run_bind, run_makeInterface w t (a.eval x) ht, Result.andThen_ok, Sem.run_pure], .iface _ _ _ h1⟩
def bOn {b : Bool} (ho : o.op = .unOp .not t x) (hN : oD o N) (hx : opv E x = some (.raw (.bool b))) : OpT P ro N o E H U (aU E o.dst (.raw (.bool (!b)))) H U := by
  refine aT (by simp [ho, Op.noDefer]) hN fun C a w hR => ?_
  obtain ⟨h1, _⟩ := hR.opv hx
  generalize hev : a.eval x = u at h1
  cases h1
  exact ⟨trivial, _, by simp [execOp, ho, hev, Op.unary], .raw _⟩
def bOb (ho : o.op = .unOp .neg t x) (hN : oD o N) (hx : opv E x = some (.raw (.int k n))) : OpT P ro N o E H U (aU E o.dst (.raw (.int k (k.wrap (-n))))) H U := by
  refine aT (by simp [ho, Op.noDefer]) hN fun C a w hR => ?_
  obtain ⟨h1, _⟩ := hR.opv hx
  generalize hev : a.eval x = u at h1
  cases h1
  exact ⟨trivial, _, by simp [execOp, ho, hev, Op.unary, Op.intArith], .raw _⟩
def bMu (n m : Int) : (n == m) = decide (n = m) := rfl
def iop (op : BinOp) (k : IntKind) (x y : Int) : Option Value :=
  match op with
  | .add => some (.int k (k.wrap (x + y)))
  | .sub => some (.int k (k.wrap (x - y)))
  | .mul => some (.int k (k.wrap (x * y)))
  | .quo => if y = 0 then none else some (.int k (k.wrap (x.tdiv y)))
  | .rem => if y = 0 then none else some (.int k (x.tmod y))
  | .eql => some (.bool (decide (x = y)))
  | .neq => some (.bool (!decide (x = y)))
  | .lss => some (.bool (decide (x < y)))
  | .leq => some (.bool (decide (x <= y)))
  | .gtr => some (.bool (decide (y < x)))
  | .geq => some (.bool (decide (y <= x)))
  | .xor => some (.int k (k.wrap (BitVec.ofInt k.bits x ^^^ BitVec.ofInt k.bits y).toNat))
  | .or => some (.int k (k.wrap (BitVec.ofInt k.bits x ||| BitVec.ofInt k.bits y).toNat))
  | .and => some (.int k (k.wrap (BitVec.ofInt k.bits x &&& BitVec.ofInt k.bits y).toNat))
  | _ => none
def bOq {op : BinOp} {n m : Int} (ho : o.op = .binOp op t x y t') (hN : oD o N) (hx : opv E x = some (.raw (.int k n))) (hy : opv E y = some (.raw (.int k m)))
    (hv : iop op k n m = some v) : OpT P ro N o E H U (aU E o.dst (.raw v)) H U := by
  refine aT (by simp [ho, Op.noDefer]) hN fun C a w hR => ?_
  obtain ⟨h1, _⟩ := hR.opv hx
  obtain ⟨h2, _⟩ := hR.opv hy
  generalize hev : a.eval x = u at h1
  generalize hey : a.eval y = u' at h2
  cases h1; cases h2
  refine ⟨trivial, _, ?_, .raw _⟩
  have hg : (eqGuard op t x y (.int k n) (.int k m)) = pure () := eqGuard_at_int ..
  cases op <;> simp only [iop, B9, reduceCtorEq] at hv
  case quo =>
    split at hv
    . cases hv
    rename_i hne
    cases hv
    simp [execOp, ho, hev, hey, hg, binOp, Op.intDiv, hne]
  case rem =>
    split at hv
    . cases hv
    rename_i hne
    cases hv
    simp [execOp, ho, hev, hey, hg, binOp, Op.intDiv, hne]
  all_goals
    subst hv
    first
      | (simp [execOp, ho, hev, hey, hg, binOp, Op.intArith]; done)
      | (simp [execOp, ho, hev, hey, hg, binOp, Op.intBits]; done)
      | (simp [execOp, ho, hev, hey, hg, binOp, Op.intCmp]; done)
      | (simp [execOp, ho, hev, hey, hg, binOp, Op.intCmp, bne]; done)
      | (simp [execOp, ho, hev, hey, hg, binOp, Op.intCmp, bne, bMu])
def sop (op : BinOp) (a b : ByteArray) : Option Value :=
  match op with
  | .add => if a.size + b.size <= 9223372036854775807 then some (.string (a ++ b)) else none
  | .eql => some (.bool (a.toList == b.toList))
  | .neq => some (.bool (!(a.toList == b.toList)))
  | .lss => some (.bool (Op.bytesLess a.toList b.toList))
  | .leq => some (.bool (Op.bytesLess a.toList b.toList || a.toList == b.toList))
  | .gtr => some (.bool (!(Op.bytesLess a.toList b.toList || a.toList == b.toList)))
  | .geq => some (.bool (!Op.bytesLess a.toList b.toList))
  | _ => none
def bDt {op : BinOp} {n m : ByteArray} (ho : o.op = .binOp op t x y t') (hN : oD o N) (hx : opv E x = some (.raw (.string n))) (hy : opv E y = some (.raw (.string m)))
    (hv : sop op n m = some v) : OpT P ro N o E H U (aU E o.dst (.raw v)) H U := by
  refine aT (by simp [ho, Op.noDefer]) hN fun C a w hR => ?_
  obtain ⟨h1, _⟩ := hR.opv hx
  obtain ⟨h2, _⟩ := hR.opv hy
  generalize hev : a.eval x = u at h1
  generalize hey : a.eval y = u' at h2
  cases h1; cases h2
  refine ⟨trivial, _, ?_, .raw _⟩
  have hg : (eqGuard op t x y (.string n) (.string m)) = pure () := eqGuard_at_string ..
  cases op <;> simp only [sop, B9, reduceCtorEq] at hv
  case add =>
    split at hv
    . rename_i hle
      cases hv
      have hn : ¬ (9223372036854775807 < (n.size : Int) + (m.size : Int)) := by omega
      simp [execOp, ho, hev, hey, hg, binOp, Op.stringOp, hn]
    cases hv
  all_goals
    subst hv
    simp [execOp, ho, hev, hey, hg, binOp, Op.stringOp]
end
end
section
variable [Globals]
variable {t : TypeId} {zs : List Value} {nw : Nat}
def zC (P : Program) (t : TypeId) : Option (List Value) := ((P.info? t).bind (·.zero)).map fun z => z.cells.toList
def uN {P : Program} (h : zC P t = some zs) : ∃ i z, P.info? t = some i /\ i.zero = some z /\ z.cells = zs.toArray := by
  obtain ⟨z, hz, he⟩ := B3.1 h
  obtain ⟨i, hi, hz'⟩ := G9.1 hz
  exact ⟨i, z, hi, hz', by rw [<- he]⟩
def aNd (ρ : Nat -> Value) (av : Nat -> Prop) (hp : Array Obj) (zs : List Value) : eB ρ av hp (zs.map .raw) zs.toArray := by
  refine ⟨by simp, fun j x hj => ?_⟩
  rw [B4] at hj
  obtain ⟨z, hz, rfl⟩ := B3.1 hj
  rw [B5, List.getElem?_toArray, hz]
  exact .raw z
def aLt (U : Nat -> Prop) (zs : List Value) : aI U (zs.map .raw) := by
  rw [bLi]; intro x hx
  obtain ⟨z, _, rfl⟩ := A9.1 hx
  trivial
section
variable {P : Program} {ro : Option Nat} {N : Nat} {o : Oper} {E : Env} {H : Heap} {U : Nat -> Prop}
def bFe (ho : o.op = .alloc t) (hN : oD o N) (hz : zC P t = some zs) (hnw : ¬ U nw) :
    OpT P ro N o E H U (aU E o.dst (.ptr nw 0)) (put H nw (.cells t (zs.map .raw))) (fun j => U j ∨ j = nw) := by
  obtain ⟨i, z, hi, hzz, hc⟩ := uN hz
  refine aIx (by simp [ho, Op.noDefer]) hN hnw (aLt U zs) (Or.inr rfl) fun C a w hR => ?_
  refine ⟨.pointer (some ⟨w.heap.size, 0, none⟩), .cells zs.toArray t, .pointer (some ⟨w.heap.size, 0, none⟩), [w.heap.size], rfl, by simp [execOp, ho, Instr.alloc, zeroValue, typeInfo, hi, hzz, newVar, newRow, hc], by simp, fun ρ av hold => ⟨?_, fun e => .ptr _ _ _ (by rw [e]; rfl)⟩⟩
  exact ⟨w.heap.size, zs.toArray, rfl, rfl, heap_alloc_new w _, aNd _ _ _ zs⟩
def eB.map {ρ ρ' : Nat -> Value} {av av' : Nat -> Prop} {hp hp' : Array Obj} {U : Nat -> Prop} {cs : List AV} {vs : Array Value} (h : eB ρ av hp cs vs) (hb : aI U cs) (hm : ∀ x u, x.bel U -> Rep ρ av hp x u -> Rep ρ' av' hp' x u) : eB ρ' av' hp' cs vs :=
  ⟨h.1, fun j x hj => hm x _ (bG hb hj) (h.2 j x hj)⟩
def bOc {x : Operand} {p : AV} {ys : List AV} (ho : o.op = .box t x) (hN : oD o N) (hx : opv E x = some p) (hy : vT p = some ys) (hnw : ¬ U nw) :
    OpT P ro N o E H U (aU E o.dst (.ptr nw 0)) (put H nw (.cells t ys)) (fun j => U j ∨ j = nw) := by
  by_cases hb : aI U ys
  . refine aIx (by simp [ho, Op.noDefer]) hN hnw hb (Or.inr rfl) fun C a w hR => ?_
    obtain ⟨h1, h2⟩ := hR.opv hx
    obtain ⟨h3, h4, _⟩ := uZ h1 C.one h2 hy
    refine ⟨.pointer (some ⟨w.heap.size, 0, none⟩), .cells (a.eval x).cells t, .pointer (some ⟨w.heap.size, 0, none⟩), [w.heap.size], rfl, by simp [execOp, ho, Instr.box, newVar, newRow], by simp, fun ρ av hold => ⟨?_, fun e => .ptr _ _ _ (by rw [e]; rfl)⟩⟩
    exact ⟨w.heap.size, _, rfl, rfl, heap_alloc_new w _, h3.map h4 hold⟩
  intro C a w next Q hR hK
  obtain ⟨h1, h2⟩ := hR.opv hx
  exact absurd (uZ h1 C.one h2 hy).2.1 hb
def aFf (off : Nat) : ∀ (vs : List Value) (j : Nat) (cs : Array Value), off + j + vs.length <= cs.size ->
    (vs.zipIdx j).foldl (fun cs (p : Value × Nat) => cs.setIfInBounds (off + p.2) p.1) cs = (bM cs.toList (off + j) vs).toArray
  | [], j, cs, _ => by simp [bM]
  | v :: vs, j, cs, h => by
    simp only [List.zipIdx_cons, List.foldl_cons]; rw [aFf off vs (j + 1) _ (by simp at h ⊢; omega)]
    congr 1
    apply List.ext_getElem?
    intro k
    simp only [C4] at h
    rw [lA _ _ _ (by simp; omega), lA _ _ _ (by simp; omega)]; simp only [Array.toList_setIfInBounds, F9, C4]
    by_cases h1 : k < off + j
    . simp [h1, show k < off + (j + 1) by omega, show ¬ off + j = k by omega]
    by_cases h2 : k = off + j
    . subst h2
      simp
      exact (by omega : off + j < cs.size)
    have : k - (off + j) = (k - (off + (j + 1))) + 1 := by omega
    by_cases h3 : k < off + (j + 1) + vs.length
    . simp [h1, show ¬ k < off + (j + 1) by omega, h3, show k < off + j + (vs.length + 1) by omega, this]
    simp [h1, show ¬ k < off + (j + 1) by omega, h3, show ¬ k < off + j + (vs.length + 1) by omega, show ¬ off + j = k by omega]
def aCm (fld : Nat -> Option (Nat × Nat)) : List AV -> List (Nat × AV) -> Option (List AV)
  | cs, [] => some cs
  | cs, (i, x) :: r =>
    match fld i, vT x with
    | some (off, sz), some ys => if ys.length = sz /\ off + sz <= cs.length then aCm fld (bM cs off ys) r else none
    | _, _ => none
def aXs {ρ : Nat -> Value} {av : Nat -> Prop} {hp : Array Obj} {U : Nat -> Prop} (hone : ∀ i, (ρ i).oneCell' = true) (fld : Nat -> Option (Nat × Nat)) : ∀ (ps : List (Nat × AV)) (us : List (Nat × Value)) (cs rs : List AV) (vs : Array Value), eB ρ av hp cs vs -> aI U cs ->
    us.length = ps.length -> (∀ (j i : Nat) (x : AV), ps[j]? = some (i, x) -> ∃ u, us[j]? = some (i, u) /\ Rep ρ av hp x u /\ x.bel U) -> aCm fld cs ps = some rs -> ∃ vs', Instr.fill fld vs us = some vs' /\ eB ρ av hp rs vs' /\ aI U rs
  | [], us, cs, rs, vs, hr, hb, hl, _, h => by
    have : us = [] := G8 hl
    subst this
    simp only [aCm, B9] at h
    subst h
    exact ⟨vs, rfl, hr, hb⟩
  | (i, x) :: r, [], cs, rs, vs, _, _, hl, _, _ => by simp at hl
  | (i, x) :: r, (i', u) :: us, cs, rs, vs, hr, hb, hl, hp', h => by
    obtain ⟨u', hu, hx, hxb⟩ := hp' 0 i x rfl
    simp only [List.getElem?_cons_zero, B9, Prod.mk.injEq] at hu
    obtain ⟨rfl, rfl⟩ := hu
    simp only [aCm] at h
    split at h
    . rename_i off sz ys hf hys
      split at h
      . rename_i hc
        obtain ⟨hy1, hy2, hy3⟩ := uZ hx hone hxb hys
        have hvs : u.cells.size = sz := by rw [hy1.1]; exact hc.1
        have hle : off + u.cells.toList.length <= vs.size := by simp [hvs, hr.1]; omega
        obtain ⟨vs', h1, h2, h3⟩ := aXs hone fld r us _ rs _ (aGx hr hy1 og) (aHc hb hy2) (by simpa using hl) (fun j i y hj => by simpa using hp' (j + 1) i y (by simpa using hj)) h
        refine ⟨vs', ?_, h2, h3⟩
        simp only [Instr.fill, hf]
        have hfold := aFf off u.cells.toList 0 vs (by simpa using hle)
        rw [if_neg (by simp [hvs]; simp [hvs] at hle; omega)]
        have : u.cells.zipIdx.foldl (fun cs (p : Value × Nat) => cs.setIfInBounds (off + p.2) p.1) vs = (bM vs.toList off u.cells.toList).toArray := by
          rw [<- Array.foldl_toList, Array.toList_zipIdx]
          simpa using hfold
        rw [<- h1, <- this]
      cases h
    cases h
def vZ (P : Program) (t : TypeId) : Option (List (Nat × Option Nat)) :=
  match P.underlying t with
  | some (.struct fs) => some (fs.toList.map fun f => (f.offset, (P.info? f.type).map (·.size)))
  | _ => none
def aZw {fs : List Field} {tab : List (Nat × Nat)} (h : fs.map (fun f => (f.offset, (P.info? f.type).map (·.size))) = tab.map fun p => (p.1, some p.2)) (w : World) :
    (fs.mapM (fun f => (do pure (f.offset, <- sizeOf f.type) : Sem (Nat × Nat)))).run P w = .ok tab w := by
  induction fs generalizing tab with
  | nil => cases tab with
    | nil => rfl
    | cons _ _ => simp at h
  | cons f fs ih => cases tab with
    | nil => simp at h
    | cons p tab =>
      simp only [List.map_cons, List.cons.injEq, Prod.mk.injEq] at h
      obtain ⟨⟨h1, h2⟩, h3⟩ := h
      obtain ⟨i, hi, hs⟩ := B3.1 h2
      have h9 : (sizeOf f.type).run P w = .ok p.2 w := by simp [sizeOf, typeInfo, hi, hs]
      simp only [List.mapM_cons, Sem.run_bind, h9, Result.andThen_ok, Sem.run_pure, ih h3, h1]
def qS (E : Env) : List (Nat × Operand) -> Option (List (Nat × AV))
  | [] => some []
  | (i, x) :: r => match opv E x, qS E r with
    | some v, some vs => some ((i, v) :: vs)
    | _, _ => none
def aDr {C : Conc} {a : Act} {w : World} (hR : Rel C N E H U a w) : ∀ (ps : List (Nat × Operand)) (vs : List (Nat × AV)), qS E ps = some vs -> vs.length = ps.length /\
    ∀ (j i : Nat) (x : AV), vs[j]? = some (i, x) -> ∃ u, (ps.map fun p => (p.1, a.eval p.2))[j]? = some (i, u) /\ Rep C.ρ (C.avoid H) w.heap x u /\ x.bel U
  | [], vs, h => by simp only [qS, B9] at h; subst h; exact ⟨rfl, fun j i x hj => by simp at hj⟩
  | (i, x) :: r, vs, h => by
    simp only [qS] at h
    split at h
    . rename_i v us hv hus
      cases h
      obtain ⟨h1, h2⟩ := aDr hR r us hus
      refine ⟨by simp [h1], fun j i' y hj => ?_⟩
      cases j with
      | zero =>
        simp only [List.getElem?_cons_zero, B9, Prod.mk.injEq] at hj
        obtain ⟨rfl, rfl⟩ := hj
        obtain ⟨h3, h4⟩ := hR.opv hv
        exact ⟨_, rfl, h3, h4⟩
      | succ j => exact h2 j i' y hj
    cases h
def bGm {dA : Array (Nat × Operand)} {tab : List (Nat × Nat)} {ps : List (Nat × AV)} {rs : List AV} (ho : o.op = .build t dA) (hN : oD o N)
    (ht : vZ P t = some (tab.map fun p => (p.1, some p.2))) (hz : zC P t = some zs) (hps : qS E dA.toList = some ps) (hr : aCm (fun i => tab[i]?) (zs.map .raw) ps = some rs) :
    OpT P ro N o E H U (aU E o.dst (.agg rs)) H U := by
  obtain ⟨i, z, hi, hzz, hc⟩ := uN hz
  refine aT (by simp [ho, Op.noDefer]) hN fun C a w hR => ?_
  obtain ⟨h1, h2⟩ := aDr hR _ _ hps
  obtain ⟨vs', h3, h4, h5⟩ := aXs C.one (fun i => tab[i]?) ps (dA.toList.map fun p => (p.1, a.eval p.2)) _ rs zs.toArray (aNd C.ρ (C.avoid H) w.heap zs) (aLt U zs) (by simp [h1]) h2 hr
  refine ⟨h5, _, ?_, .agg _ _ h4.1 h4.2⟩
  unfold vZ at ht; split at ht
  . rename_i fs hu
    simp only [B9] at ht
    have hpl : (fs.mapM (fun f => (do pure (f.offset, <- sizeOf f.type) : Sem (Nat × Nat)))).run P w = .ok tab.toArray w := by
      have h6 := aZw (P := P) ht w
      rw [<- Array.toList_mapM] at h6; rw [Sem.run_map] at h6
      generalize hg : (Array.mapM (fun f => (do pure (f.offset, <- sizeOf f.type) : Sem (Nat × Nat))) fs).run P w = q at h6 ⊢
      cases q with
      | ok x w2 => simp only [Result.andThen_ok, Result.ok.injEq] at h6; obtain ⟨h7, rfl⟩ := h6; rw [<- h7]
      | halt x w2 => simp [Result.andThen] at h6
    have hmap : (dA.map fun (i, x) => (i, a.eval x)).toList = dA.toList.map fun p => (p.1, a.eval p.2) := by simp
    have hfill : Instr.fill (fun i => tab.toArray[i]?) z.cells (dA.map fun (i, x) => (i, a.eval x)).toList = some vs' := by rw [hc, hmap]; simpa using h3
    simp only [execOp, ho, Instr.build, Sem.run_bind, zeroValue, typeInfo, run_program, Result.andThen_ok, hi, hzz, Sem.run_pure, run_underlying hu, hpl, hfill]
  cases ht
end
end
section
variable [Globals]
variable {sz n k by' : Nat} {ρ vals : Nat -> Value} {av : Nat -> Prop} {v u : Value} {hp : Array Obj} {xs : List AV} {x : AV} {ow : List Nat} {t ty e : TypeId}
def RepO.row_inv {e sz : Nat} {own : List Nat} (h : RepO ρ av hp (.own e sz xs) v own) :
    (xs = [] /\ v = .slice none 0 0 /\ own = []) ∨ ∃ b c cells vals ows, v = .slice (some ⟨b, 0, none⟩) xs.length c /\ own = b :: bA xs.length ows /\ hp[b]? = some (.cells cells e (0, 0)) /\ cells.size = c * sz /\ xs.length <= c /\ c <= maxLen /\
      (∀ (j : Nat) (x : AV), xs[j]? = some x -> RepO ρ av hp x (vals j) (ows j)) /\ lH cells 0 sz xs.length vals := by
  cases h with
  | leaf _ _ h => cases h
  | own0 => exact .inl ⟨rfl, rfl, rfl⟩
  | own _ _ _ b c cells vals ows hh hs hc hm h hcells => exact .inr ⟨b, c, cells, vals, ows, rfl, rfl, hh, hs, hc, hm, h, hcells⟩
def jW (sz n : Nat) (vals : Nat -> Value) : List Value := (List.range (n * sz)).map fun q => (vals (q / sz)).cells.getD (q % sz) undef
def nH {j k : Nat} (hj : j < n) (hk : k < sz) : (jW sz n vals)[j * sz + k]? = some ((vals j).cells.getD k undef) := by
  have h1 : j * sz + k < n * sz := by
    calc j * sz + k < j * sz + sz := by omega
      _ = (j + 1) * sz := by rw [Nat.add_mul, Nat.one_mul]
      _ <= n * sz := D9 _ hj
  have h0 : 0 < sz := by omega
  unfold jW; rw [B4, C6 h1]; simp only [Option.map_some, B9]; rw [Nat.add_comm, Nat.add_mul_div_right _ _ h0, Nat.div_eq_of_lt hk, C3, Nat.add_mul_mod_self_right, Nat.mod_eq_of_lt hk]
def cU : (jW sz n vals).length = n * sz := by simp [jW]
def aTt (h : u ∈ jW sz n vals) : ∃ j k, j < n /\ k < sz /\ u = (vals j).cells.getD k undef := by
  unfold jW at h
  obtain ⟨q, hq, rfl⟩ := A9.1 h
  have hq' := List.mem_range.1 hq
  have h0 : 0 < sz := by
    rcases Nat.eq_zero_or_pos sz with h | h
    . subst h; simp at hq'
    exact h
  exact ⟨q / sz, q % sz, (Nat.div_lt_iff_lt_mul h0).2 hq', Nat.mod_lt _ h0, rfl⟩
def lH.take {cells : Array Value} (h : lH cells 0 sz n vals) (hs : n * sz <= cells.size) : cells.toList.take (n * sz) = jW sz n vals := by
  apply List.ext_getElem?
  intro q
  by_cases hq : q < n * sz
  . have h0 : 0 < sz := by
      rcases Nat.eq_zero_or_pos sz with h | h
      . subst h; simp at hq
      exact h
    have hj : q / sz < n := (Nat.div_lt_iff_lt_mul h0).2 hq
    have hk : q % sz < sz := Nat.mod_lt _ h0
    have hq2 : q / sz * sz + q % sz = q := by rw [Nat.mul_comm]; exact Nat.div_add_mod q sz
    obtain ⟨h1, h2⟩ := h _ hj
    have h3 := h2 _ hk
    rw [C3, hq2] at h3; rw [G1, if_pos hq, D8, h3, <- hq2, nH hj hk, hq2]; rw [B5, D4 og]; rfl
  . rw [E3 (by simp; omega), E3 (by rw [cU]; omega)]
def AV.scO : AV -> Bool
  | .own _ _ _ => true
  | x => x.sc
def AV.elem : AV -> Bool
  | .agg cs => cs.all AV.scO
  | x => x.scO
def RepO.scO (h : RepO ρ av hp x v ow) (hone : ∀ i, (ρ i).oneCell' = true) (hx : x.scO = true) : v.oneCell' = true := by
  cases h with
  | leaf _ _ h =>
    cases x <;> first | exact h.sc hone hx | cases h
  | agg => simp [AV.scO, AV.sc] at hx
  | own0 => rfl
  | own => rfl
def RepO.elem (h : RepO ρ av hp x v ow) (hone : ∀ i, (ρ i).oneCell' = true) (hx : x.elem = true) (hk : k < v.cells.size) : (v.cells.getD k undef).oneCell' = true := by
  have single : ∀ {y : AV}, RepO ρ av hp y v ow -> y.scO = true -> (v.cells.getD k undef).oneCell' = true := fun hy hs => by
    have h1 := hy.scO hone hs
    rw [dF h1] at hk ⊢
    simp only [List.size_toArray, C4, List.length_nil] at hk
    have : k = 0 := by omega
    subst this; exact h1
  cases x with
  | agg cs =>
    have hall := C8.1 (show cs.all AV.scO = true from hx)
    have key : ∀ (vs : Array Value) (ows : Nat -> List Nat), vs.size = cs.length -> (∀ (j : Nat) (x : AV), cs[j]? = some x -> RepO ρ av hp x (vs.getD j undef) (ows j)) -> v = .agg vs -> (v.cells.getD k undef).oneCell' = true := fun vs ows hn hr he => by
      subst he
      have hk' : k < cs.length := by rw [<- hn]; exact hk
      have := (hr k _ (A1 hk')).scO hone (hall _ (C9 hk'))
      exact this
    cases h with
    | leaf _ _ h =>
      cases h with
      | agg _ vs hn hr => exact key vs (fun _ => []) hn (fun j x hj => .leaf _ _ (hr j x hj)) rfl
    | agg _ vs ows hn hr => exact key vs ows hn hr rfl
  | _ => exact single h hx
def nO {α : Type} (n : Nat) (f g : Nat -> α) : Nat -> α := fun j => if j < n then f j else g (j - n)
def aCi {α β : Type} {f g : α -> List β} : ∀ {l : List α}, (∀ a ∈ l, f a = g a) -> l.flatMap f = l.flatMap g
  | [], _ => rfl
  | a :: l, h => by
    rw [List.flatMap_cons, List.flatMap_cons, h a A3, aCi fun b hb => h b (A4 _ hb)]
def vP (n m : Nat) (f g : Nat -> List Nat) : bA (n + m) (nO n f g) = bA n f ++ bA m g := by
  unfold bA; rw [List.range_add, List.flatMap_append, List.flatMap_map]
  congr 1
  . exact aCi fun j hj => by simp [nO, List.mem_range.1 hj]
  exact aCi fun j _ => by simp [nO, show ¬ n + j < n by omega]
structure News (ρ : Nat -> Value) (av : Nat -> Prop) (w : World) (sz : Nat) (ys : List AV) (v : Value) (vals : Nat -> Value) (ows : Nat -> List Nat) : Prop where
  val : (ys = [] /\ ∃ c, v = .slice none 0 c) ∨ ∃ a c, v = .slice (some a) ys.length c /\ ∀ j k, j < ys.length -> k < sz -> w.cell? (a.add (j * sz + k)) = some ((vals j).cells.getD k undef)
  size : ∀ j, j < ys.length -> (vals j).cells.size = sz
  rep : ∀ (j : Nat) (x : AV), ys[j]? = some x -> RepO ρ av w.heap x (vals j) (ows j)
section
variable {P : Program} {w : World}
def wU (hs : cL P t = some (e, some (sz, by'))) {n c c' : Nat} {A : Option Addr} (hc : n <= c) : (Builtin.append_ #[t, t] ty #[.slice A n c, .slice none 0 c']).run P w = .ok (.slice A n c) w := by
  obtain ⟨hu, i, hi, hsz, _⟩ := gN hs
  simp [Builtin.append_, run_underlying hu, sizeOf, typeInfo, hi, Builtin.lenOf, Builtin.firstCells, hc]
  cases A <;> simp [storeCells]
def aMh {zs : List Value} (hs : cL P t = some (e, some (sz, by'))) (hz : zC P e = some zs) (hzl : zs.length = sz) (h0 : 0 < sz) (hone : ∀ i, (ρ i).oneCell' = true)
    {xs ys : List AV} {own1 : List Nat} {qF : Nat -> Value} {ows2 : Nat -> List Nat} (hx : RepO ρ av w.heap (.own e sz xs) v own1) (hnd : own1.Nodup) (hown1 : ∀ b, b ∈ own1 -> av b) (hy : News ρ av w sz ys u qF ows2) (hel : ys.all AV.elem = true)
    (hfl : ∀ b, b ∈ bA ys.length ows2 -> some b ≠ v.ownBlock) (hlen : xs.length + ys.length <= maxLen) (hby : (xs.length + ys.length) * by' <= 140737488355328) :
    ∃ v' w' own', (Builtin.append_ #[t, t] ty #[v, u]).run P w = .ok v' w' /\ w.grownBy w' v.ownBlock /\ (∀ b, v.ownBlock = some b -> b ∈ own1) /\ v'.oneCell' = true /\
      (∀ av' : Nat -> Prop, (∀ b, b < w.heap.size -> av' b -> av b) -> RepO ρ av' w'.heap (.own e sz (xs ++ ys)) v' own') /\ (∀ b, b ∈ own' -> (b ∈ own1 ∨ b ∈ bA ys.length ows2) ∨ b = w.heap.size) /\
      ((bA ys.length ows2).Nodup -> (∀ b, b ∈ own1 -> b ∈ bA ys.length ows2 -> False) -> own'.Nodup) := by
  have hob : ∀ b, v.ownBlock = some b -> b ∈ own1 := fun b hb => by
    rcases hx.row_inv with ⟨_, rfl, _⟩ | ⟨b', c, cells, vals, ows, rfl, rfl, _⟩
    . simp [Value.ownBlock] at hb
    simp only [Value.ownBlock, B9] at hb
    subst hb
    exact A3
  rcases hy.val with ⟨hys, c', rfl⟩ | ⟨a, c, rfl, hcells⟩
  ·
    subst hys
    refine ⟨v, w, own1, ?_, ⟨rfl, rfl, rfl, A0 _, fun _ _ _ => rfl⟩, hob, ?_, fun av' hav => ?_, fun b hb => .inl (.inl hb), fun _ _ => hnd⟩
    . rcases hx.row_inv with ⟨rfl, rfl, rfl⟩ | ⟨b', c, cells, vals, ows, rfl, rfl, _, _, hc, _⟩
      . exact wU hs (A0 _)
      exact wU hs hc
    . rcases hx.row_inv with ⟨rfl, rfl, rfl⟩ | ⟨b', c, cells, vals, ows, rfl, rfl, _⟩ <;> rfl
    rw [List.append_nil]
    exact hx.mono' hav (fun _ _ _ _ _ _ => rfl) (fun _ _ => rfl)
  obtain ⟨hu, i, hi, hisz, hiby⟩ := gN hs
  obtain ⟨i', z, hi', hzz, hzc⟩ := uN hz
  rw [hi] at hi'
  cases hi'
  have hrow : ∃ vals ows, w.ownsRow 0 e sz v xs.length (jW sz xs.length vals) /\ (∀ j, j < xs.length -> (vals j).cells.size = sz) /\ (∀ (j : Nat) (x : AV), xs[j]? = some x -> RepO ρ av w.heap x (vals j) (ows j)) /\
      (∀ b, b ∈ bA xs.length ows -> b ∈ own1 /\ some b ≠ v.ownBlock) /\ (bA xs.length ows).Nodup := by
    rcases hx.row_inv with ⟨rfl, rfl, rfl⟩ | ⟨b', c', cells, vals, ows, rfl, rfl, hh, hcs, hc, hm, hrep, hca⟩
    . exact ⟨fun _ => undef, fun _ => [], ⟨by simp [cU], .inl ⟨rfl, rfl⟩⟩, fun j hj => by simp at hj, fun j x hj => by simp at hj, fun b hb => by simp [bA] at hb, by simp [bA]⟩
    obtain ⟨hn1, hn2⟩ := C7.1 hnd
    refine ⟨vals, ows, ⟨cU, .inr ⟨b', c', cells, rfl, A5 _, hh, hc, hm, hcs, hca.take (by rw [hcs]; exact D9 _ hc)⟩⟩, fun j hj => (hca j hj).1, hrep, fun b hb => ⟨A4 _ hb, fun e => ?_⟩, hn2⟩
    simp only [Value.ownBlock, B9] at e
    subst e
    exact hn1 hb
  obtain ⟨vals, ows, hor, hsz1, hrep1, hfl1, hnd1⟩ := hrow
  have hnews : ∀ q u, (jW sz ys.length qF)[q]? = some u -> w.cell? (a.add q) = some u := fun q u hq => by
    have hql := (B2.1 hq).1
    rw [cU] at hql
    have hj : q / sz < ys.length := (Nat.div_lt_iff_lt_mul h0).2 hql
    have hk : q % sz < sz := Nat.mod_lt _ h0
    have hq2 : q / sz * sz + q % sz = q := by rw [Nat.mul_comm]; exact Nat.div_add_mod q sz
    have h1 := hcells _ _ hj hk
    rw [hq2] at h1; rw [h1, <- hq, <- hq2, nH hj hk, hq2]
  have hone1 : ∀ u ∈ jW sz ys.length qF, u.oneCell' = true := fun u hu' => by
    obtain ⟨j, k, hj, hk, rfl⟩ := aTt hu'
    exact (hy.rep j _ (A1 hj)).elem hone (C8.1 hel _ (C9 hj)) (by rw [hy.size j hj]; exact hk)
  obtain ⟨v', w', hr, h2, h3, h4, h5⟩ := run_append_own_at (P := P) w 0 t ty e i z sz by' hu hi hzz hisz hiby (by rw [hzc]; simpa using hzl) h0 v xs.length _ hor a ys.length c (jW sz ys.length qF) cU hnews hone1 hlen hby (A5 _)
  have hkeep : ∀ b, b < w.heap.size -> some b ≠ v.ownBlock -> w'.heap[b]? = w.heap[b]? := fun b hb hn => h3.block b hb hn
  have trans : ∀ (av' : Nat -> Prop), (∀ b, b < w.heap.size -> av' b -> av b) -> ∀ {x : AV} {u : Value} {ow : List Nat}, RepO ρ av w.heap x u ow -> (∀ b, b ∈ ow -> some b ≠ v.ownBlock) -> RepO ρ av' w'.heap x u ow := fun av' hav x u ow hr hn =>
    hr.mono' hav (fun b cells t fr hb hnb => hkeep b (ltB hb) fun e => hnb (hown1 b (hob b e.symm))) (fun b hb => hkeep b (hr.own_lt b hb) (hn b hb))
  obtain ⟨hl2, hcase⟩ := h2
  rcases hcase with ⟨hv', hnm⟩ | ⟨g, cap, cur, hv', _, hg, hle, hcap, hcs, htake⟩
  . have hx0 : xs = [] := G8 og
    have hy0 : ys = [] := G8 og
    subst hx0; subst hy0
    refine ⟨v', w', [], hr, h3, hob, by rw [hv']; rfl, fun av' hav => by rw [hv']; exact .own0 e sz, (fun b hb => by cases hb), fun _ _ => E5⟩
  refine ⟨v', w', g :: bA (xs.length + ys.length) (nO xs.length ows ows2), hr, h3, hob, by rw [hv']; rfl, fun av' hav => ?_, fun b hb => ?_, fun hn2 hdis => ?_⟩
  . have hgl : (xs ++ ys).length = xs.length + ys.length := A2
    have hcellsAt : lH cur 0 sz (xs ++ ys).length (nO xs.length vals qF) := fun j hj => by
      rw [hgl] at hj
      have hsize : (nO xs.length vals qF j).cells.size = sz := by
        unfold nO; split
        . exact hsz1 j (by assumption)
        exact hy.size _ og
      refine ⟨hsize, fun k hk => ?_⟩
      have hlt : j * sz + k < (xs.length + ys.length) * sz := by
        calc j * sz + k < j * sz + sz := by omega
          _ = (j + 1) * sz := by rw [Nat.add_mul, Nat.one_mul]
          _ <= (xs.length + ys.length) * sz := D9 _ hj
      have h6 : (cur.toList.take ((xs.length + ys.length) * sz))[j * sz + k]? = cur[j * sz + k]? := by rw [G1, if_pos hlt, D8]
      rw [C3, <- h6, htake]
      have hval : ∀ (f : Nat -> Value) (q : Nat), (f q).cells.size = sz -> some ((f q).cells.getD k undef) = (f q).cells[k]? := fun f q hq => by
        rw [B5, D4 og]; rfl
      by_cases hjx : j < xs.length
      . rw [G6 (by rw [cU]; calc j * sz + k < j * sz + sz := by omega
            _ = (j + 1) * sz := by rw [Nat.add_mul, Nat.one_mul]
            _ <= xs.length * sz := D9 _ hjx), nH hjx hk]
        rw [hval vals j (hsz1 j hjx)]
        simp [nO, hjx]
      rw [G7 (by rw [cU]; calc xs.length * sz <= j * sz := D9 _ og
          _ <= j * sz + k := by omega), cU]
      have h7 : j * sz + k - xs.length * sz = (j - xs.length) * sz + k := by
        rw [Nat.sub_mul]
        have : xs.length * sz <= j * sz := D9 _ og
        omega
      rw [h7, nH og hk, hval qF (j - xs.length) (hy.size _ og)]
      simp [nO, hjx]
    have := RepO.own (ρ := ρ) (av := av') (hp := w'.heap) e sz (xs ++ ys) g cap cur (nO xs.length vals qF) (nO xs.length ows ows2) hg hcs (by rw [hgl]; exact hle) hcap (fun j x hj => by
      by_cases hjx : j < xs.length
      . rw [G6 hjx] at hj
        have h8 := trans av' hav (hrep1 j x hj) fun b hb => (hfl1 b (mFl.2 ⟨j, hjx, hb⟩)).2
        simpa [nO, hjx] using h8
      rw [G7 og] at hj
      have hjl := (B2.1 hj).1
      have h8 := trans av' hav (hy.rep _ x hj) fun b hb => hfl b (mFl.2 ⟨_, hjl, hb⟩)
      simpa [nO, hjx] using h8) hcellsAt
    rw [hgl] at this; rw [hv']; exact this
  . rcases A8.1 hb with rfl | hb
    . rw [hv'] at h5
      simp only [Value.ownBlock, B9] at h5
      rcases h5 with h5 | h5
      . exact .inl (.inl (hob b h5.symm))
      exact .inr h5
    rw [vP] at hb
    rcases A7.1 hb with hb | hb
    . exact .inl (.inl (hfl1 b hb).1)
    exact .inl (.inr hb)
  rw [vP]
  refine C7.2 ⟨fun hb => ?_, ?_⟩
  . have hlt : g ∈ bA xs.length ows ∨ g ∈ bA ys.length ows2 := A7.1 hb
    have hgs : g < w.heap.size := by
      rcases hlt with h | h
      . exact hx.own_lt g (hfl1 g h).1
      obtain ⟨j, hj, hb'⟩ := mFl.1 h
      exact (hy.rep j _ (A1 hj)).own_lt g hb'
    rw [hv'] at h5
    simp only [Value.ownBlock, B9] at h5
    rcases h5 with h5 | h5
    . rcases hlt with h | h
      . exact (hfl1 g h).2 h5
      exact hfl g h h5
    omega
  refine List.nodup_append.2 ⟨hnd1, hn2, fun b hb b' hb' e => ?_⟩
  subst e
  exact hdis b (hfl1 b hb).1 hb'
end
end
section
variable [Globals]
variable {k own : List Nat} {nx sz i e : Nat} {v : Value} {x y : Operand} {xs ys : List AV}
def over (H : Heap) : Heap -> Heap
  | [] => H
  | (i, o) :: r => put (over H r) i o
def cJ (m : Nat) (H : Heap) : ∀ ps : Heap, get (over H ps) m = match get ps m with | some o => some o | none => get H m
  | [] => rfl
  | (i, o) :: r => by
    unfold over; rw [dU, cJ m H r]
    by_cases h : i = m
    . simp [h, Abs.get]
    simp [h, Abs.get]
def cA (k : List Nat) : Heap := k.map fun i => (i, .dead)
def aGe {m : Nat} : get (cA k) m = if m ∈ k then some .dead else none := by
  induction k with
  | nil => rfl
  | cons a k ih =>
    show get ((a, AObj.dead) :: cA k) m = _
    unfold Abs.get
    by_cases h : a = m
    . simp [h]
    rw [if_neg h, ih]
    simp [show ¬ m = a from fun e => h e.symm]
section
variable {P : Program} {ro : Option Nat} {N : Nat} {o : Oper} {E : Env} {H : Heap} {U : Nat -> Prop} {C : Conc} {a : Act} {w : World}
open Classical in
noncomputable def Conc.out (C : Conc) (nx : Nat) (v : Value) (own : List Nat) (k : List Nat) (hv : v.oneCell' = true) : Conc :=
  { C with ρ := upd C.ρ nx v, one := aJb C.one hv, own := fun i => if i = nx then own else if i ∈ k then [] else C.own i }
def rU {hv : v.oneCell' = true} : (C.out nx v own k hv).own nx = own := by simp [Conc.out]
def lD {hv : v.oneCell' = true} (h : i ≠ nx) (hi : i ∈ k) : (C.out nx v own k hv).own i = [] := by simp [Conc.out, h, hi]
def mM {hv : v.oneCell' = true} (h : i ≠ nx) (hi : i ∉ k) : (C.out nx v own k hv).own i = C.own i := by simp [Conc.out, h, hi]
def Rel.out (hR : Rel C N E H U a w) {w' : World} {ob : AObj} (hv : v.oneCell' = true) (hnx : ¬ U nx) (hk : ∀ i ∈ k, ∃ o, get H i = some o)
    (ho : w'.os = w.os) (ht : w'.tape = w.tape) (hout : w'.output = w.output) (hsz : w.heap.size <= w'.heap.size) (hkeep : ∀ b, b < w.heap.size -> (∀ i ∈ k, b ∉ C.own i) -> w'.heap[b]? = w.heap[b]?)
    (hown : ∀ b, b ∈ own -> (∃ i ∈ k, b ∈ C.own i) ∨ w.heap.size <= b) (hb : ob.bel U)
    (hrep : ∀ av' : Nat -> Prop, (∀ b, b < w.heap.size -> av' b -> C.avoid H b) -> cR C.ρ av' w'.heap own ob v) :
    Rel (C.out nx v own k hv) N E (over H ((nx, ob) :: cA k)) (fun j => U j ∨ j = nx) a w' /\ StepR C H U w (C.out nx v own k hv) (over H ((nx, ob) :: cA k)) w' := by
  have hcase : ∀ i o', get (over H ((nx, ob) :: cA k)) i = some o' -> (i = nx /\ o' = ob) ∨ (i ≠ nx /\ i ∈ k /\ o' = .dead) ∨ (i ≠ nx /\ i ∉ k /\ get H i = some o') := fun i o' hi => by
    rw [cJ, show get ((nx, ob) :: cA k) i = if nx = i then some ob else get (cA k) i from rfl] at hi
    by_cases e : nx = i
    . rw [if_pos e] at hi; cases hi
      exact .inl ⟨e.symm, rfl⟩
    rw [if_neg e, aGe] at hi
    by_cases hm : i ∈ k
    . rw [if_pos hm] at hi; cases hi
      exact .inr (.inl ⟨fun e' => e e'.symm, hm, rfl⟩)
    rw [if_neg hm] at hi
    exact .inr (.inr ⟨fun e' => e e'.symm, hm, hi⟩)
  have hkW : ∀ i ∈ k, ∀ b, b ∈ C.own i -> C.W H b := fun i hi b hb => let ⟨o', ho'⟩ := hk i hi; ⟨i, o', ho', hb⟩
  have hs : StepR C H U w (C.out nx v own k hv) (over H ((nx, ob) :: cA k)) w' :=
    { os := ho, tape := ht, output := hout, size := hsz
      keep := fun b hb hn => hkeep b hb fun i hi hbi => hn (hkW i hi b hbi)
      wr := fun b ⟨i, o', hi, hb'⟩ => by
        rcases hcase i o' hi with ⟨rfl, _⟩ | ⟨h1, h2, _⟩ | ⟨h1, h2, h3⟩
        . rw [rU] at hb'
          rcases hown b hb' with ⟨i', hi', hb2⟩ | h
          . exact .inl (hkW i' hi' b hb2)
          exact .inr h
        . rw [lD h1 h2] at hb'; cases hb'
        rw [mM h1 h2] at hb'; exact .inl ⟨i, o', h3, hb'⟩
      X := rfl, B := rfl
      ρ := fun i hi => bT _ _ (fun e => hnx (e ▸ hi)) }
  have hav : ∀ b, b < w.heap.size -> (C.out nx v own k hv).avoid (over H ((nx, ob) :: cA k)) b -> C.avoid H b := fun b hb hq => by
    rcases hq with hq | hq
    . exact .inl hq
    rcases hs.wr b hq with h | h
    . exact .inr h
    omega
  have hRH : RelH (C.out nx v own k hv) (over H ((nx, ob) :: cA k)) (fun j => U j ∨ j = nx) w' := by
    refine hR.toRelH.change hs (fun i hi => .inl hi) (fun i o' hi => ?_) (fun i j oi oj b hne hi hj hbi hbj => ?_)
    . rcases hcase i o' hi with ⟨rfl, rfl⟩ | ⟨h1, h2, rfl⟩ | ⟨h1, h2, h3⟩
      . refine .inr ⟨?_, .inr rfl, AObj.bel_mono (fun _ h => .inl h) _ hb⟩
        rw [rU]
        have h4 := (hrep _ hav).named (ρ' := (C.out i v own k hv).ρ) (U := U) (fun j hj => bT _ _ (fun e => hnx (e ▸ hj))) hb
        have h5 : (C.out i v own k hv).ρ i = v := cY _ _ _
        rw [h5]; exact h4
      . obtain ⟨o2, ho2⟩ := hk i h2
        exact .inr ⟨lD h1 h2, .inl (hR.objb i o2 ho2).1, trivial⟩
      refine .inl ⟨(hR.objb i o' h3).1, h3, mM h1 h2, fun b hb' => hkeep b ((hR.obj i o' h3).own_lt b hb') fun i' hi' hb2 => ?_⟩
      obtain ⟨o2, ho2⟩ := hk i' hi'
      exact hR.apart i i' o' o2 b (fun e => h2 (e ▸ hi')) h3 ho2 hb' hb2
    rcases hcase i oi hi with ⟨rfl, _⟩ | ⟨h1, h2, _⟩ | ⟨h1, h2, h3⟩
    . rw [rU] at hbi
      rcases hcase j oj hj with ⟨rfl, _⟩ | ⟨h1, h2, _⟩ | ⟨h1, h2, h3⟩
      . exact hne rfl
      . rw [lD h1 h2] at hbj; cases hbj
      rw [mM h1 h2] at hbj
      rcases hown b hbi with ⟨i', hi', hb2⟩ | h
      . obtain ⟨o2, ho2⟩ := hk i' hi'
        exact hR.apart j i' oj o2 b (fun e => h2 (e ▸ hi')) h3 ho2 hbj hb2
      have := (hR.obj j oj h3).own_lt b hbj; omega
    . rw [lD h1 h2] at hbi; cases hbi
    rw [mM h1 h2] at hbi
    rcases hcase j oj hj with ⟨rfl, _⟩ | ⟨h1', h2', _⟩ | ⟨h1', h2', h3'⟩
    . rw [rU] at hbj
      rcases hown b hbj with ⟨i', hi', hb2⟩ | h
      . obtain ⟨o2, ho2⟩ := hk i' hi'
        exact hR.apart i i' oi o2 b (fun e => h2 (e ▸ hi')) h3 ho2 hbi hb2
      have := (hR.obj i oi h3).own_lt b hbi; omega
    . rw [lD h1' h2'] at hbj; cases hbj
    rw [mM h1' h2'] at hbj
    exact hR.apart i j oi oj b hne h3 h3' hbi hbj
  exact ⟨hR.change hs (fun i hi => .inl hi) hRH, hs⟩
inductive App1 (E : Env) (H : Heap) (x : Operand) (e sz : Nat) : List AV -> List Nat -> Prop
  | nil (h : opv E x = some (.raw (.slice none 0 0))) : App1 E H x e sz [] []
  | row (i : Nat) (xs : List AV) (h : opv E x = some (.ref i)) (hH : get H i = some (.row e sz xs)) : App1 E H x e sz xs [i]
inductive App2 (E : Env) (H : Heap) (y : Operand) (e sz : Nat) : List AV -> List Nat -> Prop
  | nil (h : opv E y = some (.raw (.slice none 0 0))) : App2 E H y e sz [] []
  | sl (ys : List AV) (h : opv E y = some (.sl sz ys)) : App2 E H y e sz ys []
  | row (j : Nat) (ys : List AV) (h : opv E y = some (.ref j)) (hH : get H j = some (.row e sz ys)) : App2 E H y e sz ys [j]
def App1.rep (h : App1 E H x e sz xs k) (hR : Rel C N E H U a w) : ∃ own1, RepO C.ρ (C.avoid H) w.heap (.own e sz xs) (a.eval x) own1 /\ own1.Nodup /\ (∀ b, b ∈ own1 ↔ ∃ i ∈ k, b ∈ C.own i) /\ (∀ i ∈ k, ∃ o, get H i = some o) /\ aI U xs := by
  cases h with
  | nil h =>
    obtain ⟨h1, _⟩ := hR.opv h
    generalize a.eval x = v at h1
    cases h1
    exact ⟨[], .own0 e sz, E5, by simp, by simp, trivial⟩
  | row i _ h hH =>
    obtain ⟨h1, _⟩ := hR.opv h
    generalize a.eval x = v at h1
    cases h1
    obtain ⟨h2, h3⟩ := hR.obj i _ hH
    exact ⟨C.own i, h2, h3, by simp, by simp [hH], (hR.objb i _ hH).2⟩
def App2.rep (h : App2 E H y e sz ys k) (hR : Rel C N E H U a w) : ∃ vals ows, News C.ρ (C.avoid H) w sz ys (a.eval y) vals ows /\ (bA ys.length ows).Nodup /\ (∀ b, b ∈ bA ys.length ows -> ∃ j ∈ k, b ∈ C.own j) /\ (∀ i ∈ k, ∃ o, get H i = some o) /\ aI U ys := by
  have hflat0 : ∀ n, bA n (fun _ => []) = [] := fun n => by simp [bA]
  cases h with
  | nil h =>
    obtain ⟨h1, _⟩ := hR.opv h
    generalize a.eval y = v at h1
    cases h1
    exact ⟨fun _ => undef, fun _ => [], ⟨.inl ⟨rfl, 0, rfl⟩, fun j hj => by simp at hj, fun j x hj => by simp at hj⟩, by rw [hflat0]; exact E5, by rw [hflat0]; simp, by simp, trivial⟩
  | sl _ h =>
    obtain ⟨h1, hb⟩ := hR.opv h
    generalize a.eval y = v at h1
    cases h1 with
    | sl0 _ A c hc =>
      refine ⟨fun _ => undef, fun _ => [], ⟨?_, fun j hj => by simp at hj, fun j x hj => by simp at hj⟩, by rw [hflat0]; exact E5, by rw [hflat0]; simp, by simp, trivial⟩
      cases A with
      | none => exact .inl ⟨rfl, c, rfl⟩
      | some ad => exact .inr ⟨ad, c, rfl, fun j k hj => by simp at hj⟩
    | sl _ _ b off c cells t fr vals h0 hc hm hnb hh hrep hcells =>
      refine ⟨vals, fun _ => [], ⟨.inr ⟨⟨b, off, none⟩, c, rfl, fun j k hj hk => ?_⟩, fun j hj => (hcells j hj).1, fun j x hj => .leaf _ _ (hrep j x hj)⟩, by rw [hflat0]; exact E5, by rw [hflat0]; simp, by simp, hb⟩
      rw [jV, cell_of_row w b _ cells t fr hh, <- Nat.add_assoc, (hcells j hj).2 k hk, B5, D4 (by rw [(hcells j hj).1]; exact hk)]
      rfl
  | row j _ h hH =>
    obtain ⟨h1, _⟩ := hR.opv h
    generalize a.eval y = v at h1
    cases h1
    obtain ⟨h2, h3⟩ := hR.obj j _ hH
    rcases h2.row_inv with ⟨rfl, hv, ho⟩ | ⟨b, c, cells, vals, ows, hv, ho, hh, hcs, hc, hm, hrep, hcells⟩
    . rw [hv]
      exact ⟨fun _ => undef, fun _ => [], ⟨.inl ⟨rfl, 0, rfl⟩, fun j hj => by simp at hj, fun j x hj => by simp at hj⟩, by rw [hflat0]; exact E5, by rw [hflat0]; simp, by simp [hH], trivial⟩
    rw [hv]; rw [ho] at h3
    refine ⟨vals, ows, ⟨.inr ⟨⟨b, 0, none⟩, c, rfl, fun j k hj hk => ?_⟩, fun j hj => (hcells j hj).1, hrep⟩, (C7.1 h3).2, fun b' hb' => ⟨j, by simp, by rw [ho]; exact A4 _ hb'⟩, by simp [hH], (hR.objb j _ hH).2⟩
    rw [jV, cell_of_row w b _ cells e (0, 0) hh, <- Nat.add_assoc, (hcells j hj).2 k hk, B5, D4 (by rw [(hcells j hj).1]; exact hk)]
    rfl
def aZp {c : Call} {t e : TypeId} {sz by' nx : Nat} {zs : List Value} {k1 k2 : List Nat} (ho : o.op = .call c) (hc : c.callee = .builtin .append) (hargs : c.args = #[x, y]) (hts : c.argTypes = #[t, t]) (hN : oD o N)
    (hs : cL P t = some (e, some (sz, by'))) (hz : zC P e = some zs) (hzl : zs.length = sz) (h0 : 0 < sz) (h1 : App1 E H x e sz xs k1) (h2 : App2 E H y e sz ys k2) (hdis : ∀ i ∈ k1, i ∉ k2) (hel : ys.all AV.elem = true)
    (hlen : xs.length + ys.length <= maxLen) (hby : (xs.length + ys.length) * by' <= 140737488355328) (hnx : ¬ U nx) :
    OpT P ro N o E H U (aU E o.dst (.ref nx)) (over H ((nx, .row e sz (xs ++ ys)) :: cA (k1 ++ k2))) (fun j => U j ∨ j = nx) := by
  intro C a w next Q hR hK
  obtain ⟨own1, r1, r2, r3, r4, r5⟩ := h1.rep hR
  obtain ⟨vals, ows, s1, s2, s3, s4, s5⟩ := h2.rep hR
  have hapart : ∀ b, b ∈ own1 -> b ∈ bA ys.length ows -> False := fun b hb hb' => by
    obtain ⟨i, hi, hbi⟩ := (r3 b).1 hb
    obtain ⟨j, hj, hbj⟩ := s3 b hb'
    obtain ⟨oi, hoi⟩ := r4 i hi
    obtain ⟨oj, hoj⟩ := s4 j hj
    exact hR.apart i j oi oj b (fun e => hdis i hi (e ▸ hj)) hoi hoj hbi hbj
  obtain ⟨v', w', own', hrun, hg, hob, hv, hrep, hown, hnd⟩ := aMh (P := P) (w := w) (ty := o.type) hs hz hzl h0 C.one r1 r2 (fun b hb => by obtain ⟨i, hi, hbi⟩ := (r3 b).1 hb; obtain ⟨oi, hoi⟩ := r4 i hi; exact .inr ⟨i, oi, hoi, hbi⟩) s1 hel
    (fun b hb e => by
      have : b ∈ own1 := by
        rcases r1.row_inv with ⟨_, hv, _⟩ | ⟨b', c', cells, vals', ows', hv, ho', _⟩
        . rw [hv] at e; simp [Value.ownBlock] at e
        rw [hv] at e; simp only [Value.ownBlock, B9] at e; rw [ho', e]; exact A3
      exact hapart b this hb) hlen hby
  have hexec : (execOp a.eval o).run P w = .ok (.value v') w' := by
    simp [execOp, ho, resolve, hc, hargs, hts, invoke, builtin, hrun]
  obtain ⟨k, hs'⟩ := Rel.out (nx := nx) (k := k1 ++ k2) (ob := .row e sz (xs ++ ys)) hR hv hnx (fun i hi => by rcases A7.1 hi with h | h; exact r4 i h; exact s4 i h) hg.os hg.tape hg.output hg.size
    (fun b hb hn => hg.block b hb fun e => by
      have hb1 := hob b e.symm
      obtain ⟨i, hi, hbi⟩ := (r3 b).1 hb1
      exact hn i (A7.2 (.inl hi)) hbi)
    (own := own') (fun b hb => by
      rcases hown b hb with (h | h) | h
      . obtain ⟨i, hi, hbi⟩ := (r3 b).1 h
        exact .inl ⟨i, A7.2 (.inl hi), hbi⟩
      . obtain ⟨j, hj, hbj⟩ := s3 b h
        exact .inl ⟨j, A7.2 (.inr hj), hbj⟩
      exact .inr og)
    (by show aI U (xs ++ ys); rw [bLi] at r5 s5 ⊢; intro z hz; rcases A7.1 hz with h | h; exact r5 z h; exact s5 z h)
    (fun av' hav => ⟨hrep av' hav, hnd s2 hapart⟩)
  refine eW (by simp [ho, Op.noDefer]) hexec (hK _ _ _ (k.put hN ?_ (Or.inr rfl)) hs')
  have : Rep (C.out nx v' own' (k1 ++ k2) hv).ρ ((C.out nx v' own' (k1 ++ k2) hv).avoid (over H ((nx, AObj.row e sz (xs ++ ys)) :: cA (k1 ++ k2)))) w'.heap (.ref nx) ((C.out nx v' own' (k1 ++ k2) hv).ρ nx) := .ref nx
  rwa [show (C.out nx v' own' (k1 ++ k2) hv).ρ nx = v' from cY _ _ _] at this
end
end
section
variable [Globals]
variable {x : AV} {v : Value}
def iE (h : Nat -> Option AObj) : AV -> AV × List Nat
  | .ref k => match h k with
    | some (.row e sz xs) => (.own e sz xs, [k])
    | _ => (.ref k, [])
  | x => (x, [])
def dT (h : Nat -> Option AObj) : List AV -> List AV × List Nat
  | [] => ([], [])
  | x :: r => ((iE h x).1 :: (dT h r).1, (iE h x).2 ++ (dT h r).2)
def gB (h : Nat -> Option AObj) : AV -> AV × List Nat
  | .agg cs => (.agg (dT h cs).1, (dT h cs).2)
  | x => iE h x
def bH (h : Nat -> Option AObj) : List AV -> List AV × List Nat
  | [] => ([], [])
  | x :: r => ((gB h x).1 :: (bH h r).1, (gB h x).2 ++ (bH h r).2)
section
variable {P : Program} {ro : Option Nat} {N : Nat} {o : Oper} {E : Env} {H : Heap} {U : Nat -> Prop} {C : Conc} {a : Act} {w : World}
def vK (C : Conc) (k : List Nat) (ow : List Nat) : Prop := (∀ b, b ∈ ow -> ∃ i ∈ k, b ∈ C.own i) /\ (k.Nodup -> ow.Nodup)
def aHm (hR : RelH C H U w) (h : Rep C.ρ (C.avoid H) w.heap x v) (hb : x.bel U) : ∃ ow, RepO C.ρ (C.avoid H) w.heap (iE (get H) x).1 v ow /\ vK C (iE (get H) x).2 ow /\ (∀ i ∈ (iE (get H) x).2, ∃ o, get H i = some o) /\ (iE (get H) x).1.bel U := by
  have plain : ∃ ow, RepO C.ρ (C.avoid H) w.heap x v ow /\ vK C [] ow /\ (∀ i ∈ ([] : List Nat), ∃ o, get H i = some o) /\ x.bel U := ⟨[], .leaf _ _ h, ⟨by simp, fun _ => E5⟩, by simp, hb⟩
  cases x with
  | ref k =>
    cases hk : get H k with
    | none => simp only [iE, hk]; exact plain
    | some ob =>
      cases ob with
      | row e sz xs =>
        simp only [iE, hk]; cases h
        obtain ⟨h1, h2⟩ := hR.obj k _ hk
        exact ⟨C.own k, h1, ⟨fun b hb => ⟨k, A3, hb⟩, fun _ => h2⟩, fun i hi => by simp at hi; subst hi; exact ⟨_, hk⟩, (hR.objb k _ hk).2⟩
      | _ => simp only [iE, hk]; exact plain
  | _ => exact plain
def aBd (hR : RelH C H U w) {k k' : List Nat} {ow ow' : List Nat} (h : vK C k ow) (h' : vK C k' ow') (hk : ∀ i ∈ k, ∃ o, get H i = some o) (hk' : ∀ i ∈ k', ∃ o, get H i = some o) (hn : (k ++ k').Nodup) : ∀ b, b ∈ ow -> b ∈ ow' -> False := fun b hb hb' => by
  obtain ⟨i, hi, hbi⟩ := h.1 b hb
  obtain ⟨j, hj, hbj⟩ := h'.1 b hb'
  obtain ⟨oi, hoi⟩ := hk i hi
  obtain ⟨oj, hoj⟩ := hk' j hj
  exact hR.apart i j oi oj b (fun e => (List.nodup_append.1 hn).2.2 i hi j hj e) hoi hoj hbi hbj
def aHd (h : Nat -> Option AObj) : ∀ cs : List AV, (dT h cs).1.length = cs.length
  | [] => rfl
  | x :: r => by simp [dT, aHd h r]
def aHh (hR : RelH C H U w) : ∀ (cs : List AV) (f : Nat -> Value), (∀ (j : Nat) (x : AV), cs[j]? = some x -> Rep C.ρ (C.avoid H) w.heap x (f j)) -> aI U cs -> ∃ ows : Nat -> List Nat,
    (∀ (j : Nat) (x : AV), (dT (get H) cs).1[j]? = some x -> RepO C.ρ (C.avoid H) w.heap x (f j) (ows j)) /\ vK C (dT (get H) cs).2 (bA cs.length ows) /\ (∀ i ∈ (dT (get H) cs).2, ∃ o, get H i = some o) /\ aI U (dT (get H) cs).1
  | [], f, _, _ => ⟨fun _ => [], fun j x hj => by simp [dT] at hj, ⟨by simp [bA], fun _ => by simp [bA]⟩, by simp [dT], trivial⟩
  | x :: r, f, h, hb => by
    obtain ⟨ow, h1, h2, h3, h4⟩ := aHm hR (h 0 x rfl) hb.1
    obtain ⟨ows, k1, k2, k3, k4⟩ := aHh hR r (fun j => f (j + 1)) (fun j y hj => h (j + 1) y (by simpa using hj)) hb.2
    have hfl : bA (r.length + 1) (nO 1 (fun _ => ow) ows) = ow ++ bA r.length ows := by
      rw [Nat.add_comm, vP]
      congr 1
      simp [bA]
    refine ⟨nO 1 (fun _ => ow) ows, fun j y hj => ?_, ?_, fun i hi => ?_, ⟨h4, k4⟩⟩
    . cases j with
      | zero => simp [dT] at hj; subst hj; exact h1
      | succ j => simpa [nO] using k1 j y (by simpa [dT] using hj)
    . show vK C ((iE (get H) x).2 ++ (dT (get H) r).2) (bA (r.length + 1) _)
      rw [hfl]
      refine ⟨fun b hb => ?_, fun hn => ?_⟩
      . rcases A7.1 hb with h | h
        . obtain ⟨i, hi, hbi⟩ := h2.1 b h; exact ⟨i, A7.2 (.inl hi), hbi⟩
        obtain ⟨i, hi, hbi⟩ := k2.1 b h; exact ⟨i, A7.2 (.inr hi), hbi⟩
      have := List.nodup_append.1 hn
      exact List.nodup_append.2 ⟨h2.2 this.1, k2.2 this.2.1, fun b hb b' hb' e => aBd hR h2 k2 h3 k3 hn b hb (e ▸ hb')⟩
    rcases A7.1 hi with h | h
    . exact h3 i h
    exact k3 i h
def aMg (hR : RelH C H U w) (h : Rep C.ρ (C.avoid H) w.heap x v) (hb : x.bel U) : ∃ ow, RepO C.ρ (C.avoid H) w.heap (gB (get H) x).1 v ow /\ vK C (gB (get H) x).2 ow /\ (∀ i ∈ (gB (get H) x).2, ∃ o, get H i = some o) /\ (gB (get H) x).1.bel U := by
  cases x with
  | agg cs =>
    cases h with
    | agg _ vs hn hr =>
      obtain ⟨ows, h1, h2, h3, h4⟩ := aHh hR cs _ hr hb
      have hl := aHd (get H) cs
      have := RepO.agg (ρ := C.ρ) (av := C.avoid H) (hp := w.heap) (dT (get H) cs).1 vs ows (by rw [hl]; exact hn) h1
      rw [hl] at this
      exact ⟨_, this, h2, h3, h4⟩
  | _ => exact aHm hR h hb
def aHl (h : Nat -> Option AObj) : ∀ cs : List AV, (bH h cs).1.length = cs.length
  | [] => rfl
  | x :: r => by simp [bH, aHl h r]
def aGw (hR : RelH C H U w) : ∀ (cs : List AV) (f : Nat -> Value), (∀ (j : Nat) (x : AV), cs[j]? = some x -> Rep C.ρ (C.avoid H) w.heap x (f j)) -> aI U cs -> ∃ ows : Nat -> List Nat,
    (∀ (j : Nat) (x : AV), (bH (get H) cs).1[j]? = some x -> RepO C.ρ (C.avoid H) w.heap x (f j) (ows j)) /\ vK C (bH (get H) cs).2 (bA cs.length ows) /\ (∀ i ∈ (bH (get H) cs).2, ∃ o, get H i = some o) /\ aI U (bH (get H) cs).1
  | [], f, _, _ => ⟨fun _ => [], fun j x hj => by simp [bH] at hj, ⟨by simp [bA], fun _ => by simp [bA]⟩, by simp [bH], trivial⟩
  | x :: r, f, h, hb => by
    obtain ⟨ow, h1, h2, h3, h4⟩ := aMg hR (h 0 x rfl) hb.1
    obtain ⟨ows, k1, k2, k3, k4⟩ := aGw hR r (fun j => f (j + 1)) (fun j y hj => h (j + 1) y (by simpa using hj)) hb.2
    have hfl : bA (r.length + 1) (nO 1 (fun _ => ow) ows) = ow ++ bA r.length ows := by
      rw [Nat.add_comm, vP]
      congr 1
      simp [bA]
    refine ⟨nO 1 (fun _ => ow) ows, fun j y hj => ?_, ?_, fun i hi => ?_, ⟨h4, k4⟩⟩
    . cases j with
      | zero => simp [bH] at hj; subst hj; exact h1
      | succ j => simpa [nO] using k1 j y (by simpa [bH] using hj)
    . show vK C ((gB (get H) x).2 ++ (bH (get H) r).2) (bA (r.length + 1) _)
      rw [hfl]
      refine ⟨fun b hb => ?_, fun hn => ?_⟩
      . rcases A7.1 hb with h | h
        . obtain ⟨i, hi, hbi⟩ := h2.1 b h; exact ⟨i, A7.2 (.inl hi), hbi⟩
        obtain ⟨i, hi, hbi⟩ := k2.1 b h; exact ⟨i, A7.2 (.inr hi), hbi⟩
      have := List.nodup_append.1 hn
      exact List.nodup_append.2 ⟨h2.2 this.1, k2.2 this.2.1, fun b hb b' hb' e => aBd hR h2 k2 h3 k3 hn b hb (e ▸ hb')⟩
    rcases A7.1 hi with h | h
    . exact h3 i h
    exact k3 i h
def aQc : Nat -> List Operand -> List (Nat × Operand)
  | _, [] => []
  | k, x :: r => (k, x) :: aQc (k + 1) r
def aRi : Nat -> List Value -> List (Nat × Value)
  | _, [] => []
  | k, x :: r => (k, x) :: aRi (k + 1) r
def aQy {a : Act} : ∀ (xs : List Operand) (k : Nat), ((aQc k xs).map fun p => (p.1, a.eval p.2)) = aRi k (xs.map a.eval)
  | [], _ => rfl
  | x :: r, k => by simp [aQc, aRi, aQy r (k + 1)]
def aRk {sz n : Nat} {vals : Nat -> Value} : ∀ (r : List Value) (j : Nat) (cs : Array Value), j + r.length = n -> cs.size = n * sz -> (∀ v ∈ r, v.cells.size = sz) -> lH cs 0 sz j vals -> (∀ (q : Nat) (v : Value), r[q]? = some v -> vals (j + q) = v) ->
    ∃ cs', Instr.fill (fun i => some (i * sz, sz)) cs (aRi j r) = some cs' /\ cs'.size = n * sz /\ lH cs' 0 sz n vals
  | [], j, cs, hn, hs, _, hc, _ => ⟨cs, rfl, hs, by simp at hn; subst hn; exact hc⟩
  | v :: r, j, cs, hn, hs, hv, hc, hvals => by
    have hvs := hv v A3
    have hle : j * sz + sz <= cs.size := by
      rw [hs]
      calc j * sz + sz = (j + 1) * sz := by rw [Nat.add_mul, Nat.one_mul]
        _ <= n * sz := D9 _ (by simp at hn; omega)
    have hfold := aFf (j * sz) v.cells.toList 0 cs (by simp [hvs]; omega)
    have hspl : ∀ q, (bM cs.toList (j * sz) v.cells.toList).toArray[q]? = if q < j * sz then cs[q]? else if q < j * sz + sz then v.cells[q - j * sz]? else cs[q]? := fun q => by
      rw [List.getElem?_toArray, lA _ _ _ (by simp [hvs]; omega)]
      simp [hvs]
    have hval0 : vals j = v := by simpa using hvals 0 v rfl
    obtain ⟨cs', h1, h2, h3⟩ := aRk (sz := sz) (n := n) (vals := vals) r (j + 1) (bM cs.toList (j * sz) v.cells.toList).toArray (by simp at hn; omega) (by rw [List.size_toArray, iM _ _ _ (by simp [hvs]; omega)]; simpa using hs)
      (fun u hu => hv u (A4 _ hu)) (fun q hq => by
        rcases Nat.lt_or_ge q j with h | h
        . obtain ⟨h4, h5⟩ := hc q h
          refine ⟨h4, fun k hk => ?_⟩
          have hlt : 0 + q * sz + k < j * sz := by
            calc 0 + q * sz + k < q * sz + sz := by omega
              _ = (q + 1) * sz := by rw [Nat.add_mul, Nat.one_mul]
              _ <= j * sz := D9 _ h
          rw [hspl, if_pos hlt]
          exact h5 k hk
        have : q = j := by omega
        subst this; rw [hval0]
        refine ⟨hvs, fun k hk => ?_⟩
        rw [hspl, if_neg og, if_pos og]
        congr 1
        omega) (fun q u hq => by have := hvals (q + 1) u (by simpa using hq); rwa [show j + 1 + q = j + (q + 1) by omega])
    refine ⟨cs', ?_, h2, h3⟩
    simp only [aRi, Instr.fill]
    rw [if_neg (by simp [hvs]; omega)]
    have : v.cells.zipIdx.foldl (fun cs (p : Value × Nat) => cs.setIfInBounds (j * sz + p.2) p.1) cs = (bM cs.toList (j * sz) v.cells.toList).toArray := by
      rw [<- Array.foldl_toList, Array.toList_zipIdx]
      simpa using hfold
    rw [<- h1, <- this]
def AV.width : AV -> Nat
  | .agg cs => cs.length
  | _ => 1
def AV.solid : AV -> Bool
  | .agg _ => true
  | x => x.sc
def Rep.width {ρ : Nat -> Value} {av : Nat -> Prop} {hp : Array Obj} (h : Rep ρ av hp x v) (hone : ∀ i, (ρ i).oneCell' = true) (hx : x.solid = true) : v.cells.size = x.width := by
  cases x with
  | agg cs => cases h with | agg _ vs hn _ => exact hn
  | _ => rw [dF (h.sc hone hx)]; rfl
def AV.fitsEl (sz : Nat) (x : AV) : Bool := decide (x.width = sz) && x.solid
def aKx {t e : TypeId} {sz by' nx len : Nat} {dA : Array (Nat × Operand)} {zs : List Value} {xs : List Operand} {ps : List AV} (ho : o.op = .buildSlice t len dA) (hN : oD o N) (hs : cL P t = some (e, some (sz, by')))
    (hz : zC P e = some zs) (hp : dA.toList = aQc 0 xs) (hl : xs.length = len) (hps : xs.map (opv E) = ps.map some) (hfit : ps.all (AV.fitsEl sz) = true) (h0 : 0 < sz) (hbig : len * sz <= 16777216) (hk : (bH (get H) ps).2.Nodup) (hnx : ¬ U nx) :
    OpT P ro N o E H U (aU E o.dst (.ref nx)) (over H ((nx, .row e sz (bH (get H) ps).1) :: cA (bH (get H) ps).2)) (fun j => U j ∨ j = nx) := by
  intro C a w next Q hR hK
  obtain ⟨hu, i, hi, hisz, hiby⟩ := gN hs
  obtain ⟨i', z, hi', hzz, hzc⟩ := uN hz
  rw [hi] at hi'
  cases hi'
  have hlen : xs.length = ps.length := by have := congrArg List.length hps; simpa using this
  have hget : ∀ (j : Nat) (p : AV), ps[j]? = some p -> ∃ x, xs[j]? = some x /\ opv E x = some p := fun j p hj => by
    have h1 : (xs.map (opv E))[j]? = some (some p) := by rw [hps, B4, hj]; rfl
    rw [B4] at h1
    obtain ⟨x, hx, hxp⟩ := B3.1 h1
    exact ⟨x, hx, hxp⟩
  let f : Nat -> Value := fun j => (xs.map a.eval).getD j undef
  have hf : ∀ (j : Nat) (p : AV), ps[j]? = some p -> Rep C.ρ (C.avoid H) w.heap p (f j) /\ p.bel U := fun j p hj => by
    obtain ⟨x, hx, hxp⟩ := hget j p hj
    have := hR.opv hxp
    simpa [f, E7, hx] using this
  obtain ⟨ows, a1, a2, a3, a4⟩ := aGw hR.toRelH ps f (fun j x hj => (hf j x hj).1) (bLi.2 fun x hx => by obtain ⟨j, hj⟩ := G2 hx; exact (hf j x hj).2)
  have hwid : ∀ v ∈ xs.map a.eval, v.cells.size = sz := fun v hv => by
    obtain ⟨j, hj⟩ := G2 hv
    have hjl := (B2.1 hj).1
    rw [A6] at hjl
    have hpj : ps[j]? = some (ps[j]'og) := A1 og
    have h1 := (hf j _ hpj).1
    have h2 := C8.1 hfit _ (E4 hpj)
    have hfj : f j = v := by simp only [f, E7, hj]; rfl
    rw [hfj] at h1
    generalize ps[j]'og = p at h1 h2
    unfold AV.fitsEl at h2
    simp only [B7, decide_eq_true_eq] at h2
    rw [<- h2.1]
    exact h1.width C.one h2.2
  have hmade : lH (madeCells z.cells (len * sz)) 0 sz 0 f := fun j hj => by omega
  obtain ⟨cs', b1, b2, b3⟩ := aRk (sz := sz) (n := len) (vals := f) (xs.map a.eval) 0 ((Array.range (len * sz)).map fun x => (if len * sz = 0 then #[] else z.cells)[x % (if len * sz = 0 then #[] else z.cells).size]!) (by simp [hl]) oS hwid (fun j hj => by omega) (fun q v hq => by simp only [f, E7, C3, hq]; rfl)
  have hmap : (dA.map fun (i, x) => (i, a.eval x)).toList = aRi 0 (xs.map a.eval) := by rw [<- aQy, <- hp]; simp
  have hrun : (execOp a.eval o).run P w = .ok (.value (.slice (some ⟨w.heap.size, 0, none⟩) len len)) (w.alloc (.cells cs' e)) := by
    have hsize : (sizeOf e).run P w = .ok sz w := by simp [sizeOf, typeInfo, hi, hisz]
    have hb : (Instr.buildSlice t len (dA.map fun (i, x) => (i, a.eval x))).run P w = .ok (.slice (some ⟨w.heap.size, 0, none⟩) len len) (w.alloc (.cells cs' e)) := by
      unfold Instr.buildSlice; rw [Sem.run_bind, run_underlying hu]; simp only [Result.andThen_ok]; rw [Sem.run_bind, hsize]; simp only [Result.andThen_ok]; rw [if_neg og]
      by_cases hc0 : len * sz = 0
      . rw [if_pos hc0, Sem.run_bind, Sem.run_pure]; simp only [Result.andThen_ok]
        simp only [if_pos hc0] at b1
        rw [hmap, b1]
        simp [newRow]
      rw [if_neg hc0]
      simp only [if_neg hc0] at b1
      have hzv : (zeroValue e).run P w = .ok z w := by simp [zeroValue, typeInfo, hi, hzz]
      simp only [Sem.run_bind, hzv, Result.andThen_ok, Sem.run_pure]; rw [hmap, b1]
      simp [newRow]
    simp [execOp, ho, hb]
  have hgrow : ∀ b, b < w.heap.size -> (w.alloc (.cells cs' e)).heap[b]? = w.heap[b]? := fun b hb => RowKit.Below.heap_alloc w _ b hb
  have hlenmax : len <= maxLen := by
    have : len <= len * sz := Nat.le_mul_of_pos_right _ h0
    simp only [maxLen]; omega
  obtain ⟨k, hs'⟩ := Rel.out (nx := nx) (k := (bH (get H) ps).2) (ob := .row e sz (bH (get H) ps).1) (v := .slice (some ⟨w.heap.size, 0, none⟩) len len) (w' := w.alloc (.cells cs' e)) hR rfl hnx a3 rfl rfl rfl oS (fun b hb _ => hgrow b hb)
    (own := w.heap.size :: bA ps.length ows) (fun b hb => by
      rcases A8.1 hb with h | h
      . exact .inr og
      exact .inl (a2.1 b h)) a4 (fun av' hav => by
    have hfl : (bH (get H) ps).1.length = len := by rw [aHl]; omega
    have hold : ∀ b, b ∈ bA ps.length ows -> b < w.heap.size := fun b hb => by
      obtain ⟨i, hi, hbi⟩ := a2.1 b hb
      obtain ⟨oi, hoi⟩ := a3 i hi
      exact (hR.obj i oi hoi).own_lt b hbi
    refine ⟨?_, C7.2 ⟨fun hb => by have := hold _ hb; omega, a2.2 hk⟩⟩
    have := RepO.own (ρ := C.ρ) (av := av') (hp := (w.alloc (.cells cs' e)).heap) e sz (bH (get H) ps).1 w.heap.size len cs' f ows (heap_alloc_new w _) b2 og hlenmax
      (fun j x hj => (a1 j x hj).mono' hav (fun b _ _ _ hb _ => hgrow b (ltB hb)) (fun b hb => hgrow b (hold b (mFl.2 ⟨j, by have := (B2.1 hj).1; omega, hb⟩)))) (by rw [hfl]; exact b3)
    rw [hfl] at this; rw [show ps.length = len by omega]
    exact this)
  refine eW (by simp [ho, Op.noDefer]) hrun (hK _ _ _ (k.put hN ?_ (Or.inr rfl)) hs')
  have : Rep (C.out nx (.slice (some ⟨w.heap.size, 0, none⟩) len len) (w.heap.size :: bA ps.length ows) (bH (get H) ps).2 rfl).ρ ((C.out nx (.slice (some ⟨w.heap.size, 0, none⟩) len len) (w.heap.size :: bA ps.length ows) (bH (get H) ps).2 rfl).avoid (over H ((nx, AObj.row e sz (bH (get H) ps).1) :: cA (bH (get H) ps).2)))
    (w.alloc (.cells cs' e)).heap (.ref nx) ((C.out nx (.slice (some ⟨w.heap.size, 0, none⟩) len len) (w.heap.size :: bA ps.length ows) (bH (get H) ps).2 rfl).ρ nx) := .ref nx
  rwa [show (C.out nx (.slice (some ⟨w.heap.size, 0, none⟩) len len) (w.heap.size :: bA ps.length ows) (bH (get H) ps).2 rfl).ρ nx = _ from cY _ _ _] at this
end
end
section
variable [Globals]
variable {e t : TypeId} {x y : Operand} {i : Nat}
def zE (P : Program) (e : TypeId) : Option AV :=
  match (P.info? e).bind (·.zero) with
  | some (.agg vs) => some (.agg (vs.toList.map .raw))
  | some v => if v.oneCell' = true then some (.raw v) else none
  | none => none
def aHu {P : Program} {x : AV} (h : zE P e = some x) : ∃ i z, P.info? e = some i /\ i.zero = some z /\ z.cells.size = x.width /\ (∀ ρ av hp, Rep ρ av hp x z) /\ ∀ U, x.bel U := by
  unfold zE at h; split at h
  . rename_i vs hz
    cases h
    obtain ⟨i, hi, hz⟩ := G9.1 hz
    refine ⟨i, _, hi, hz, by simp [AV.width, Value.cells], fun ρ av hp => ?_, fun U => aLt U _⟩
    have := aNd ρ av hp vs.toList
    exact .agg _ _ (by simpa using this.1) (by simpa using this.2)
  . rename_i v hne hz
    split at h
    . rename_i h1
      cases h
      obtain ⟨i, hi, hz⟩ := G9.1 hz
      exact ⟨i, _, hi, hz, by rw [dF h1]; rfl, fun ρ av hp => .raw _, fun U => trivial⟩
    cases h
  cases h
section
variable {P : Program} {ro : Option Nat} {N : Nat} {o : Oper} {E : Env} {H : Heap} {U : Nat -> Prop}
def aOm {sz by' nx : Nat} {k k' : IntKind} {n m : Int} {zel : AV} (ho : o.op = .makeSlice t x y) (hN : oD o N) (hs : cL P t = some (e, some (sz, by'))) (hz : zE P e = some zel) (hzw : zel.width = sz) (h0 : 0 < sz)
    (hx : opv E x = some (.raw (.int k n))) (hy : opv E y = some (.raw (.int k' m))) (hn : 0 <= n) (hnm : n <= m) (hby : (by' : Int) * m <= 281474976710656) (hm : m.toNat <= maxLen) (hnx : ¬ U nx) :
    OpT P ro N o E H U (aU E o.dst (.ref nx)) (put H nx (.row e sz (List.replicate n.toNat zel))) (fun j => U j ∨ j = nx) := by
  obtain ⟨hu, i, hi, hisz, hiby⟩ := gN hs
  obtain ⟨i', z, hi', hzz, hzc, hzr, hzb⟩ := aHu hz
  rw [hi] at hi'
  cases hi'
  have hbel : aI U (List.replicate n.toNat zel) := bLi.2 fun x hx => by rw [List.eq_of_mem_replicate hx]; exact hzb U
  refine aIx (by simp [ho, Op.noDefer]) hN hnx hbel (Or.inr rfl) fun C a w hR => ?_
  obtain ⟨h1, _⟩ := hR.opv hx
  obtain ⟨h2, _⟩ := hR.opv hy
  generalize hev : a.eval x = u at h1
  generalize hey : a.eval y = u' at h2
  cases h1; cases h2
  have hrun := run_make (P := P) w t e i z hu hi hzz k k' n m hn hnm (by rw [hiby]; exact hby) (by simp only [maxLen] at hm; omega)
  refine ⟨.slice (some ⟨w.heap.size, 0, none⟩) n.toNat m.toNat, .cells (madeCells z.cells (m.toNat * i.size)) e, .slice (some ⟨w.heap.size, 0, none⟩) n.toNat m.toNat, [w.heap.size], rfl, by simp [execOp, ho, hev, hey, hrun], by simp, fun ρ av hold => ⟨⟨?_, by simp⟩, fun e => ?_⟩⟩
  . have hzs : z.cells.size = sz := hzc.trans hzw
    have := RepO.own (ρ := ρ) (av := av) (hp := (w.alloc (.cells (madeCells z.cells (m.toNat * i.size)) e)).heap) e sz (List.replicate n.toNat zel) w.heap.size m.toNat _ (fun _ => z) (fun _ => []) (heap_alloc_new w _) (by rw [size_madeCells, hisz]) (by simp; omega) hm
      (fun j x hj => .leaf _ _ (by rw [List.eq_of_mem_replicate (E4 hj)]; exact hzr _ _ _)) (fun j hj => ⟨hzs, fun k hk => by
        rw [List.length_replicate] at hj
        have hlt : j * sz + k < m.toNat * sz := by
          calc j * sz + k < j * sz + sz := by omega
            _ = (j + 1) * sz := by rw [Nat.add_mul, Nat.one_mul]
            _ <= m.toNat * sz := D9 _ og
        have hmod : (j * sz + k) % sz = k := by rw [Nat.add_comm, Nat.add_mul_mod_self_right, Nat.mod_eq_of_lt hk]
        unfold madeCells; rw [hisz, C3, Array.getElem?_map, Array.getElem?_range, if_pos hlt]; simp only [Option.map_some, hzs, hmod]
        rw [getElem!_pos z.cells k og, D4 og]⟩)
    rw [List.length_replicate] at this
    have hfl : bA n.toNat (fun _ => []) = [] := by simp [bA]
    rw [hfl] at this; exact this
  rw [<- e]; exact .ref _
def Rel.again {C : Conc} {a : Act} {w : World} (hR : Rel C N E H U a w) {w' : World} {own k : List Nat} {ob ob' : AObj} (hi : get H i = some ob) (hik : i ∉ k) (hk : ∀ i ∈ k, ∃ o, get H i = some o)
    (ho : w'.os = w.os) (ht : w'.tape = w.tape) (hout : w'.output = w.output) (hsz : w.heap.size <= w'.heap.size) (hkeep : ∀ b, b < w.heap.size -> b ∉ C.own i -> w'.heap[b]? = w.heap[b]?)
    (hown : ∀ b, b ∈ own -> b ∈ C.own i ∨ (∃ i ∈ k, b ∈ C.own i)) (hb : ob'.bel U)
    (hrep : ∀ av' : Nat -> Prop, (∀ b, b < w.heap.size -> av' b -> C.avoid H b) -> cR C.ρ av' w'.heap own ob' (C.ρ i)) :
    ∃ C', C'.ρ = C.ρ /\ Rel C' N E (over H ((i, ob') :: cA k)) U a w' /\ StepR C H U w C' (over H ((i, ob') :: cA k)) w' := by
  classical
  let C' : Conc := { C with own := fun j => if j = i then own else if j ∈ k then [] else C.own j }
  have own_i : C'.own i = own := by simp [C']
  have own_k : ∀ j, j ≠ i -> j ∈ k -> C'.own j = [] := fun j h1 h2 => by simp [C', h1, h2]
  have own_o : ∀ j, j ≠ i -> j ∉ k -> C'.own j = C.own j := fun j h1 h2 => by simp [C', h1, h2]
  have hcase : ∀ j o', get (over H ((i, ob') :: cA k)) j = some o' -> (j = i /\ o' = ob') ∨ (j ≠ i /\ j ∈ k /\ o' = .dead) ∨ (j ≠ i /\ j ∉ k /\ get H j = some o') := fun j o' hj => by
    rw [cJ, show get ((i, ob') :: cA k) j = if i = j then some ob' else get (cA k) j from rfl] at hj
    by_cases e : i = j
    . rw [if_pos e] at hj; cases hj
      exact .inl ⟨e.symm, rfl⟩
    rw [if_neg e, aGe] at hj
    by_cases hm : j ∈ k
    . rw [if_pos hm] at hj; cases hj
      exact .inr (.inl ⟨fun e' => e e'.symm, hm, rfl⟩)
    rw [if_neg hm] at hj
    exact .inr (.inr ⟨fun e' => e e'.symm, hm, hj⟩)
  have hkW : ∀ j ∈ k, ∀ b, b ∈ C.own j -> C.W H b := fun j hj b hb => let ⟨o', ho'⟩ := hk j hj; ⟨j, o', ho', hb⟩
  have hs : StepR C H U w C' (over H ((i, ob') :: cA k)) w' :=
    { os := ho, tape := ht, output := hout, size := hsz
      keep := fun b hb hn => hkeep b hb fun hbi => hn ⟨i, ob, hi, hbi⟩
      wr := fun b ⟨j, o', hj, hb'⟩ => by
        rcases hcase j o' hj with ⟨rfl, _⟩ | ⟨h1, h2, _⟩ | ⟨h1, h2, h3⟩
        . rw [own_i] at hb'
          rcases hown b hb' with h | ⟨q, hq, hb2⟩
          . exact .inl ⟨j, ob, hi, h⟩
          exact .inl (hkW q hq b hb2)
        . rw [own_k j h1 h2] at hb'; cases hb'
        rw [own_o j h1 h2] at hb'; exact .inl ⟨j, o', h3, hb'⟩
      X := rfl, B := rfl, ρ := fun _ _ => rfl }
  have hav : ∀ b, b < w.heap.size -> C'.avoid (over H ((i, ob') :: cA k)) b -> C.avoid H b := fun b hb hq => by
    rcases hq with hq | hq
    . exact .inl hq
    rcases hs.wr b hq with h | h
    . exact .inr h
    omega
  have hRH : RelH C' (over H ((i, ob') :: cA k)) U w' := by
    refine hR.toRelH.change hs (fun _ h => h) (fun j o' hj => ?_) (fun p q op oq b hne hp hq hbp hbq => ?_)
    . rcases hcase j o' hj with ⟨rfl, rfl⟩ | ⟨h1, h2, rfl⟩ | ⟨h1, h2, h3⟩
      . exact .inr ⟨by rw [own_i]; exact hrep _ hav, (hR.objb j ob hi).1, hb⟩
      . obtain ⟨o2, ho2⟩ := hk j h2
        exact .inr ⟨own_k j h1 h2, (hR.objb j o2 ho2).1, trivial⟩
      exact .inl ⟨(hR.objb j o' h3).1, h3, own_o j h1 h2, fun b hb' => hkeep b ((hR.obj j o' h3).own_lt b hb') fun hbi => hR.apart j i o' ob b h1 h3 hi hb' hbi⟩
    have key : ∀ p q op oq, p ≠ q -> get (over H ((i, ob') :: cA k)) p = some op -> get (over H ((i, ob') :: cA k)) q = some oq -> p = i -> b ∈ C'.own p -> b ∈ C'.own q -> False := fun p q op oq hne hp hq e hbp hbq => by
      subst e; rw [own_i] at hbp
      rcases hcase q oq hq with ⟨h1, _⟩ | ⟨h1, h2, _⟩ | ⟨h1, h2, h3⟩
      . exact hne h1.symm
      . rw [own_k q h1 h2] at hbq; cases hbq
      rw [own_o q h1 h2] at hbq
      rcases hown b hbp with h | ⟨r, hr, hb2⟩
      . exact hR.apart q p oq ob b h1 h3 hi hbq h
      obtain ⟨o2, ho2⟩ := hk r hr
      exact hR.apart q r oq o2 b (fun e => h2 (e ▸ hr)) h3 ho2 hbq hb2
    rcases hcase p op hp with ⟨h1, _⟩ | ⟨h1, h2, _⟩ | ⟨h1, h2, h3⟩
    . exact key p q op oq hne hp hq h1 hbp hbq
    . rw [own_k p h1 h2] at hbp; cases hbp
    rcases hcase q oq hq with ⟨h1', _⟩ | ⟨h1', h2', _⟩ | ⟨h1', h2', h3'⟩
    . exact key q p oq op hne.symm hq hp h1' hbq hbp
    . rw [own_k q h1' h2'] at hbq; cases hbq
    rw [own_o p h1 h2] at hbp; rw [own_o q h1' h2'] at hbq
    exact hR.apart p q op oq b hne h3 h3' hbp hbq
  exact ⟨C', rfl, hR.change hs (fun _ h => h) hRH, hs⟩
def aV {f : Nat -> List Nat} : ∀ {n : Nat}, (bA n f).Nodup ↔ (∀ j, j < n -> (f j).Nodup) /\ ∀ i j, i < n -> j < n -> i ≠ j -> ∀ b, b ∈ f i -> b ∈ f j -> False
  | 0 => by simp [bA]
  | n + 1 => by
    have hfl : bA (n + 1) f = bA n f ++ f n := by simp [bA, List.range_succ, List.flatMap_append]
    rw [hfl, List.nodup_append, aV (n := n)]
    constructor
    . rintro ⟨⟨h1, h2⟩, h3, h4⟩
      refine ⟨fun j hj => ?_, fun i j hi hj hne b hb hb' => ?_⟩
      . by_cases e : j = n
        . subst e; exact h3
        exact h1 j og
      by_cases e : i = n
      . subst e
        exact h4 b (mFl.2 ⟨j, og, hb'⟩) b hb rfl
      by_cases e' : j = n
      . subst e'
        exact h4 b (mFl.2 ⟨i, og, hb⟩) b hb' rfl
      exact h2 i j og og hne b hb hb'
    rintro ⟨h1, h2⟩
    refine ⟨⟨fun j hj => h1 j og, fun i j hi hj => h2 i j og og⟩, h1 n og, fun b hb b' hb' e => ?_⟩
    subst e
    obtain ⟨j, hj, hbj⟩ := mFl.1 hb
    exact h2 j n og og og b hbj hb'
def AV.notAgg : AV -> Bool
  | .agg _ => false
  | _ => true
def bCh (el : AV) (off esz sz : Nat) (y : AV) : Option AV :=
  if off = 0 /\ sz = esz then some y else
  match el with
  | .agg cs => if sz = 1 /\ off < cs.length /\ y.notAgg = true then some (.agg (cs.set off y)) else none
  | _ => none
def RepO.agg_inv {ρ : Nat -> Value} {av : Nat -> Prop} {hp : Array Obj} {cs : List AV} {v : Value} {ow : List Nat} (h : RepO ρ av hp (.agg cs) v ow) : ∃ vs ows, v = .agg vs /\ vs.size = cs.length /\ ow = bA cs.length ows /\ ∀ (j : Nat) (x : AV), cs[j]? = some x -> RepO ρ av hp x (vs.getD j undef) (ows j) := by
  cases h with
  | leaf _ _ h =>
    cases h with
    | agg _ vs hn hr => exact ⟨vs, fun _ => [], rfl, hn, by simp [bA], fun j x hj => .leaf _ _ (hr j x hj)⟩
  | agg _ vs ows hn hr => exact ⟨vs, ows, rfl, hn, rfl, hr⟩
def aOi {i esz j off sz : Nat} {ag : Bool} {xs : List AV} {el p el' : AV} (ho : o.op = .store t x y) (hN : oD o N) (hv : VarT P t sz ag)
    (hx : opv E x = some (.ep i esz j off)) (hH : get H i = some (.row e esz xs)) (hj : xs[j]? = some el) (hy : opv E y = some p) (hps : p.solid = true) (hpe : p.elem = true) (hpw : p.width = sz) (hle : off + sz <= esz)
    (hel : bCh el off esz sz (gB (get H) p).1 = some el') (hk : (gB (get H) p).2.Nodup) (hik : i ∉ (gB (get H) p).2) :
    OpT P ro N o E H U (aU E o.dst (.raw undef)) (over H ((i, .row e esz (xs.set j el')) :: cA (gB (get H) p).2)) U := by
  intro C a w next Q hR hK
  obtain ⟨h1, _⟩ := hR.opv hx
  obtain ⟨h2, h2b⟩ := hR.opv hy
  obtain ⟨owp, q1, q2, q3, q4⟩ := aMg hR.toRelH h2 h2b
  have hlt := (B2.1 hj).1
  obtain ⟨hO, hnd⟩ := hR.obj i _ hH
  have hbelx := (hR.objb i _ hH).2
  rcases hO.row_inv with ⟨rfl, _⟩ | ⟨b, c, cells, vals, ows, hval, hown, hb, hcs, hc, hm, hrep, hcells⟩
  . simp at hj
  have hev := yZ h1 (b := b) (by rw [hval]; rfl)
  have hpsz : (a.eval y).cells.size = sz := by rw [h2.width C.one hps]; exact hpw
  have hp1 : ∀ u ∈ (a.eval y).cells.toList, u.oneCell' = true := fun u hu => by
    obtain ⟨k, hk'⟩ := G2 hu
    rw [D8] at hk'
    have hkl := (Array.getElem?_eq_some_iff.1 hk').1
    have := (RepO.leaf _ _ h2).elem C.one hpe hkl
    rw [B5, hk'] at this; exact this
  have hroom : j * esz + off + sz <= cells.size := by
    rw [hcs]
    calc j * esz + off + sz <= j * esz + esz := by omega
      _ = (j + 1) * esz := by rw [Nat.add_mul, Nat.one_mul]
      _ <= c * esz := D9 _ og
  have hrun := vF (P := P) (w := w) hv hb (v := a.eval y) (off := j * esz + off) hpsz hp1 hroom
  generalize hcells' : (bM cells.toList (j * esz + off) (a.eval y).cells.toList).toArray = cells' at hrun
  have hc'size : cells'.size = c * esz := by rw [<- hcells', List.size_toArray, iM _ _ _ (by simp [hpsz]; omega)]; simpa using hcs
  have hget : ∀ q, cells'[q]? = if q < j * esz + off then cells[q]? else if q < j * esz + off + sz then (a.eval y).cells[q - (j * esz + off)]? else cells[q]? := fun q => by
    rw [<- hcells', List.getElem?_toArray, lA _ _ _ (by simp [hpsz]; omega)]
    simp [hpsz]
  have hother : ∀ k, k ≠ b -> (w.setRow b cells').heap[k]? = w.heap[k]? := fun k hk => setRow_other w b k _ hk
  have hnew : ∃ v' ow', RepO C.ρ (C.avoid H) w.heap el' v' ow' /\ v'.cells.size = esz /\ (∀ k, k < esz -> cells'[j * esz + k]? = v'.cells[k]?) /\ (∀ q, q ∈ ow' -> q ∈ ows j ∨ q ∈ owp) /\ ((ows j).Nodup -> owp.Nodup -> (∀ q, q ∈ ows j -> q ∈ owp -> False) -> ow'.Nodup) /\ el'.bel U := by
    unfold bCh at hel; split at hel
    . rename_i hcond
      obtain ⟨rfl, rfl⟩ := hcond
      cases hel
      refine ⟨a.eval y, owp, q1, hpsz, fun k hk => ?_, fun q hq => .inr hq, fun _ h _ => h, q4⟩
      rw [hget, if_neg og, if_pos og]
      congr 1
      omega
    rename_i hcond
    split at hel
    . rename_i cs
      split at hel
      . rename_i hc2
        obtain ⟨rfl, hoff, hna⟩ := hc2
        cases hel
        obtain ⟨vs, owc, hvs, hvl, howc, hparts⟩ := (hrep j _ hj).agg_inv
        obtain ⟨hsz, hck⟩ := hcells j hlt
        rw [hvs] at hsz hck
        have hsz' : vs.size = esz := hsz
        have hpc : ∃ u, (a.eval y).cells[0]? = some u /\ (a.eval y).cells.size = 1 := ⟨_, D4 og, hpsz⟩
        obtain ⟨u, hu, hu1⟩ := hpc
        have habs : RepO C.ρ (C.avoid H) w.heap (gB (get H) p).1 u owp := by
          cases p with
          | agg pcs => simp [gB, AV.notAgg] at hna
          | _ =>
            have hone := h2.sc C.one hps
            rw [dF hone] at hu
            simp only [List.getElem?_toArray, List.getElem?_cons_zero, B9] at hu
            rw [<- hu]; exact q1
        refine ⟨.agg (vs.setIfInBounds off u), bA cs.length (fun k => if k = off then owp else owc k), ?_, by simpa [Value.cells] using hsz', fun k hk => ?_, fun q hq => ?_, fun n1 n2 n3 => ?_, ?_⟩
        . have := RepO.agg (ρ := C.ρ) (av := C.avoid H) (hp := w.heap) (cs.set off (gB (get H) p).1) (vs.setIfInBounds off u) (fun k => if k = off then owp else owc k) (by simpa using hvl) (fun k x hk => by
            rw [F9] at hk; rw [B5, H3]
            by_cases e : off = k
            . subst e; rw [if_pos rfl, if_pos hoff] at hk; cases hk; simp only [if_true, show off < vs.size by omega, Option.getD_some]; exact habs
            rw [if_neg e] at hk; rw [if_neg e, if_neg (fun e' => e e'.symm), <- B5]
            exact hparts k x hk)
          rw [D0] at this; exact this
        . rw [hget]; simp only [Value.cells]; rw [H3]
          by_cases e : off = k
          . subst e
            rw [if_neg og, if_pos og, if_pos rfl, if_pos og, show j * esz + off - (j * esz + off) = 0 by omega]; exact hu
          have h9 := hck k hk
          rw [C3] at h9; rw [if_neg e]; split
          . exact h9
          rw [if_neg og]; exact h9
        . obtain ⟨k, hk, hq⟩ := mFl.1 hq
          split at hq
          . exact .inr hq
          exact .inl (by rw [howc]; exact mFl.2 ⟨k, hk, hq⟩)
        . rw [howc, aV] at n1; rw [aV]
          refine ⟨fun k hk => ?_, fun p q hp hq hne d hd hd' => ?_⟩
          . split
            . exact n2
            exact n1.1 k hk
          rw [howc] at n3; split at hd
          . split at hd'
            . omega
            exact n3 d (mFl.2 ⟨q, hq, hd'⟩) hd
          split at hd'
          . exact n3 d (mFl.2 ⟨p, hp, hd⟩) hd'
          exact n1.2 p q hp hq hne d hd hd'
        show aI U _
        rw [bLi]; intro z hz
        rcases List.mem_or_eq_of_mem_set hz with h | h
        . exact bLi.1 (bG hbelx hj) z h
        rw [h]; exact q4
      cases hel
    cases hel
  obtain ⟨v', ow', n1, n2, n3, n4, n5, n6⟩ := hnew
  rw [hown] at hnd
  obtain ⟨hnd1, hnd2⟩ := C7.1 hnd
  have hkdis : ∀ d, d ∈ owp -> d ∈ C.own i -> False := fun d hd hd' => by
    obtain ⟨k, hk', hdk⟩ := q2.1 d hd
    obtain ⟨ok, hok⟩ := q3 k hk'
    exact hR.apart i k _ ok d (fun e => hik (e ▸ hk')) hH hok hd' hdk
  have hfj : ∀ d, d ∈ ows j -> d ∈ C.own i := fun d hd => by rw [hown]; exact A4 _ (mFl.2 ⟨j, hlt, hd⟩)
  obtain ⟨C', hCρ, k1, k2⟩ := Rel.again (ob' := .row e esz (xs.set j el')) (k := (gB (get H) p).2) (own := b :: bA xs.length (fun q => if q = j then ow' else ows q)) (w' := w.setRow b cells') hR hH hik q3 rfl rfl rfl oS
    (fun d _ hd => hother d (fun e => hd (by rw [hown, e]; exact A3))) (fun d hd => by
      rcases A8.1 hd with rfl | hd
      . exact .inl (by rw [hown]; exact A3)
      obtain ⟨q, hq, hd⟩ := mFl.1 hd
      split at hd
      . rcases n4 d hd with h | h
        . exact .inl (hfj d h)
        exact .inr (q2.1 d h)
      exact .inl (by rw [hown]; exact A4 _ (mFl.2 ⟨q, hq, hd⟩)))
    (by show aI U _; rw [bLi]; intro z hz; rcases List.mem_or_eq_of_mem_set hz with h | h; exact bLi.1 hbelx z h; rw [h]; exact n6)
    (fun av' hav => by
      have hheap : ∀ d, d ≠ b -> (w.setRow b cells').heap[d]? = w.heap[d]? := hother
      have trans : ∀ {x : AV} {u : Value} {ow : List Nat}, RepO C.ρ (C.avoid H) w.heap x u ow -> (∀ d, d ∈ ow -> d ≠ b) -> RepO C.ρ av' (w.setRow b cells').heap x u ow := fun hr hn =>
        hr.mono' hav (fun d _ _ _ hd hnd => hheap d fun e => hnd (.inr ⟨i, _, hH, by rw [hown, e]; exact A3⟩)) (fun d hd => hheap d (hn d hd))
      refine ⟨?_, C7.2 ⟨fun hd => ?_, ?_⟩⟩
      . have := RepO.own (ρ := C.ρ) (av := av') (hp := (w.setRow b cells').heap) e esz (xs.set j el') b c cells' (fun q => if q = j then v' else vals q) (fun q => if q = j then ow' else ows q) (setRow_heap w b cells _ e (0, 0) hb) hc'size (by simpa using hc) hm
          (fun q x hq => by
            rw [F9] at hq
            by_cases e' : j = q
            . subst e'
              rw [if_pos rfl, if_pos hlt] at hq; cases hq; simp only [if_true]
              exact trans n1 fun d hd e => by
                rcases n4 d hd with h | h
                . exact hnd1 (e ▸ mFl.2 ⟨j, hlt, h⟩)
                exact hkdis d h (by rw [hown, e]; exact A3)
            rw [if_neg e'] at hq; simp only [if_neg (fun e => e' e.symm : ¬ q = j)]
            exact trans (hrep q x hq) fun d hd e => hnd1 (e ▸ mFl.2 ⟨q, (B2.1 hq).1, hd⟩))
          (fun q hq => by
            rw [D0] at hq
            by_cases e' : q = j
            . subst e'
              simp only [if_true]
              exact ⟨n2, fun k hk => by rw [C3]; exact n3 k hk⟩
            simp only [if_neg e']
            obtain ⟨h5, h6⟩ := hcells q hq
            refine ⟨h5, fun k hk => ?_⟩
            rw [<- h6 k hk, hget]; split
            . rfl
            rename_i hge
            rw [if_neg]; intro hlt2
            rcases Nat.lt_or_ge q j with h | h
            . have : q * esz + esz <= j * esz := by
                calc q * esz + esz = (q + 1) * esz := by rw [Nat.add_mul, Nat.one_mul]
                  _ <= j * esz := D9 _ h
              omega
            . have : j * esz + esz <= q * esz := by
                calc j * esz + esz = (j + 1) * esz := by rw [Nat.add_mul, Nat.one_mul]
                  _ <= q * esz := D9 _ og
              omega)
        rw [D0] at this; rw [hval]; exact this
      . obtain ⟨q, hq, hd⟩ := mFl.1 hd
        split at hd
        . rcases n4 b hd with h | h
          . exact hnd1 (mFl.2 ⟨j, hlt, h⟩)
          exact hkdis b h (by rw [hown]; exact A3)
        exact hnd1 (mFl.2 ⟨q, hq, hd⟩)
      rw [aV] at hnd2 ⊢
      have hcross : ∀ q d, q < xs.length -> q ≠ j -> d ∈ ow' -> d ∈ ows q -> False := fun q d hq hne hd hd' => by
        rcases n4 d hd with h | h
        . exact hnd2.2 j q hlt hq (fun e => hne e.symm) d h hd'
        exact hkdis d h (by rw [hown]; exact A4 _ (mFl.2 ⟨q, hq, hd'⟩))
      refine ⟨fun q hq => ?_, fun p q hp hq hne d hd hd' => ?_⟩
      . split
        . exact n5 (hnd2.1 j hlt) (q2.2 hk) (fun d h h' => hkdis d h' (hfj d h))
        exact hnd2.1 q hq
      split at hd
      . split at hd'
        . omega
        exact hcross q d hq (by assumption) hd hd'
      split at hd'
      . exact hcross p d hp (by assumption) hd' hd
      exact hnd2.2 p q hp hq hne d hd hd')
  refine rJ (by simp [ho, Op.noDefer]) (by simp [execOp, ho, hev, Instr.storeAt, Instr.sureAddr, hrun]) (hK _ _ _ (k1.put hN (.raw _) trivial) k2)
end
end
section
variable [Globals]
variable {t : TypeId} {x : Operand} {p : AV} {b : Bool}
def aGq (P : Program) (t : TypeId) : Bool := match P.underlying t with | some .string => true | _ => false
def aBs (P : Program) (t : TypeId) : Bool := match P.underlying t with | some (.slice _) => true | _ => false
def aWx (P : Program) (t : TypeId) : Bool := match P.underlying t with | some (.interface _) => true | _ => false
def aBl {P : Program} (h : aGq P t = true) : P.underlying t = some .string := by
  unfold aGq at h; split at h
  . assumption
  cases h
def bGn {P : Program} (h : aBs P t = true) : ∃ e, P.underlying t = some (.slice e) := by
  unfold aBs at h; split at h
  . exact ⟨_, by assumption⟩
  cases h
def bAq (P : Program) (t : TypeId) : AV -> Option Nat
  | .raw (.string s) => if aGq P t = true then some s.size else none
  | .raw (.slice none 0 0) => if aBs P t = true then some 0 else none
  | .sl _ xs => if aBs P t = true then some xs.length else none
  | _ => none
def aMr (P : Program) (t : TypeId) (x : AV) (h : Nat -> Option AObj) : Option Nat :=
  match x with
  | .ref i => match h i with
    | some (.row _ _ xs) => if aBs P t = true then some xs.length else none
    | _ => none
  | x => bAq P t x
section
variable {P : Program} {ro : Option Nat} {N : Nat} {o : Oper} {E : Env} {H : Heap} {U : Nat -> Prop}
def bMp {c : Call} {n : Nat} (ho : o.op = .call c) (hc : c.callee = .builtin .len) (hargs : c.args = #[x]) (hts : c.argTypes = #[t]) (hN : oD o N)
    (hx : opv E x = some p) (hn : aMr P t p (get H) = some n) : OpT P ro N o E H U (aU E o.dst (.raw (.int .i64 n))) H U := by
  refine aT (by simp [ho, Op.noDefer]) hN fun C a w hR => ?_
  obtain ⟨h1, h2⟩ := hR.opv hx
  refine ⟨trivial, _, ?_, .raw _⟩
  have hslice : ∀ A m cc, aBs P t = true -> (Builtin.len_ #[t] o.type #[.slice A m cc]).run P w = .ok (.int .i64 m) w := fun A m cc h => by
    obtain ⟨e, hu⟩ := bGn h
    simp [Builtin.len_, run_underlying hu, goInt]
  have hl : (Builtin.len_ #[t] o.type #[a.eval x]).run P w = .ok (.int .i64 n) w := by
    generalize a.eval x = v at h1
    unfold aMr at hn; split at hn
    . rename_i i
      split at hn
      . rename_i hH
        split at hn
        . rename_i hs
          cases hn; cases h1
          obtain ⟨h3, _⟩ := hR.obj i _ hH
          rcases h3.row_inv with ⟨rfl, hv, _⟩ | ⟨b, cc, cells, vals, ows, hv, _⟩
          . rw [hv]; exact hslice _ _ _ hs
          rw [hv]; exact hslice _ _ _ hs
        cases hn
      cases hn
    unfold bAq at hn; split at hn
    . split at hn
      . rename_i hs
        cases hn; cases h1
        simp [Builtin.len_, run_underlying (aBl hs), goInt]
      cases hn
    . split at hn
      . rename_i hs
        cases hn; cases h1
        exact hslice _ _ _ hs
      cases hn
    . split at hn
      . rename_i hs
        cases hn
        cases h1 with
        | sl0 => exact hslice _ _ _ hs
        | sl => exact hslice _ _ _ hs
      cases hn
    cases hn
  simp [execOp, ho, resolve, hc, hargs, hts, invoke, builtin, hl]
def aUo (op : BinOp) (isNil : Bool) : Option Bool :=
  match op with
  | .eql => some isNil
  | .neq => some (!isNil)
  | _ => none
def bDe : AV -> Option Bool
  | .iface _ _ => some false
  | .raw .nilIface => some true
  | _ => none
def aOa {v : Value} {w : World} (ht : aWx P t = true) (hv : (v = .nilIface /\ b = true) ∨ (∃ d u, v = .iface d u /\ b = false)) : (Op.equal t v .nilIface).run P w = .ok b w := by
  unfold aWx at ht; split at ht
  . rename_i ms hu
    unfold Op.equal; rw [show Op.maxDepth = (Op.maxDepth - 1) + 1 from rfl, Op.equalIn, Sem.run_bind, run_underlying hu]
    rcases hv with ⟨rfl, rfl⟩ | ⟨d, u, rfl, rfl⟩ <;> rfl
  cases ht
def aTk {op : BinOp} {t t' : TypeId} {b r : Bool} (ho : o.op = .binOp op t x (.const .nilIface) t') (hN : oD o N) (ht : aWx P t = true) (hx : opv E x = some p) (hp : bDe p = some b) (hr : aUo op b = some r) :
    OpT P ro N o E H U (aU E o.dst (.raw (.bool r))) H U := by
  refine aT (by simp [ho, Op.noDefer]) hN fun C a w hR => ?_
  obtain ⟨h1, _⟩ := hR.opv hx
  generalize hev : a.eval x = u at h1
  have hey : a.eval (.const .nilIface) = .nilIface := rfl
  have hu : (u = .nilIface /\ b = true) ∨ (∃ d z, u = .iface d z /\ b = false) := by
    unfold bDe at hp; split at hp
    . cases hp; cases h1; exact .inr ⟨_, _, rfl, rfl⟩
    . cases hp; cases h1; exact .inl ⟨rfl, rfl⟩
    cases hp
  have heq := aOa (P := P) (w := w) ht hu
  have hgd : eqGuard op t x (.const .nilIface) u .nilIface = pure () := by
    rcases hu with ⟨rfl, _⟩ | ⟨d, z, rfl, _⟩
    . exact eqGuard_nil_constR ..
    exact eqGuard_at_iface ..
  refine ⟨trivial, .bool r, ?_, .raw _⟩
  have hb : (binOp op t u .nilIface).run P w = .ok (.bool r) w := by
    cases op <;> simp only [aUo, B9, reduceCtorEq] at hr
    . subst hr
      rcases hu with ⟨rfl, hb⟩ | ⟨d, z, rfl, hb⟩ <;> simp only [binOp, Sem.run_bind, heq, Result.andThen_ok, Sem.run_pure]
    subst hr
    rcases hu with ⟨rfl, hb⟩ | ⟨d, z, rfl, hb⟩ <;> simp only [binOp, Sem.run_bind, heq, Result.andThen_ok, Sem.run_pure]
  simp only [execOp, ho, hev, hey, hgd, Sem.run_bind, Sem.run_pure, Result.andThen_ok, hb]
def aTw {t e : TypeId} {lo hi : Option Operand} {sz by' : Nat} {xs : List AV} {l h : Int} (ho : o.op = .slice t x lo hi none) (hN : oD o N) (hs : cL P t = some (e, some (sz, by'))) (hx : opv E x = some (.sl sz xs))
    (hlo : (lo = none /\ l = 0) ∨ ∃ y k, lo = some y /\ opv E y = some (.raw (.int k l))) (hhi : (hi = none /\ h = xs.length) ∨ ∃ y k, hi = some y /\ opv E y = some (.raw (.int k h))) (h0 : 0 <= l) (h1 : l <= h) (h2 : h <= xs.length) :
    OpT P ro N o E H U (aU E o.dst (.sl sz ((xs.take h.toNat).drop l.toNat))) H U := by
  refine aT (by simp [ho, Op.noDefer]) hN fun C a w hR => ?_
  obtain ⟨r1, r2⟩ := hR.opv hx
  obtain ⟨hu, i, hi', hisz, _⟩ := gN hs
  have hbel : aI U ((xs.take h.toNat).drop l.toNat) := bLi.2 fun z hz => bLi.1 r2 z (D1 (D2 hz))
  have hloV : lo.map a.eval = none /\ l = 0 ∨ ∃ k, lo.map a.eval = some (.int k l) := by
    rcases hlo with ⟨rfl, rfl⟩ | ⟨y, k, rfl, hy⟩
    . exact .inl ⟨rfl, rfl⟩
    obtain ⟨q1, _⟩ := hR.opv hy
    right
    refine ⟨k, ?_⟩
    simp only [Option.map_some]
    generalize a.eval y = v at q1
    cases q1; rfl
  have hhiV : hi.map a.eval = none /\ h = xs.length ∨ ∃ k, hi.map a.eval = some (.int k h) := by
    rcases hhi with ⟨rfl, rfl⟩ | ⟨y, k, rfl, hy⟩
    . exact .inl ⟨rfl, rfl⟩
    obtain ⟨q1, _⟩ := hR.opv hy
    right
    refine ⟨k, ?_⟩
    simp only [Option.map_some]
    generalize a.eval y = v at q1
    cases q1; rfl
  have hrun : ∀ A c, xs.length <= c -> (Instr.slice t (.slice A xs.length c) (lo.map a.eval) (hi.map a.eval) none).run P w = .ok (.slice (if c = l.toNat then A else A.map (·.add (l.toNat * sz))) (h.toNat - l.toNat) (c - l.toNat)) w := fun A c hc => by
    have hb : (Instr.sliceBounds true xs.length c (lo.map a.eval) (hi.map a.eval) none).run P w = .ok (l.toNat, h.toNat, c) w := by
      have hh : h <= c := by omega
      rcases hhiV with ⟨e1, e2⟩ | ⟨k, e1⟩
      . rcases hloV with ⟨e3, e4⟩ | ⟨k', e3⟩
        . subst e4; rw [e1, e3]; simp [Instr.sliceBounds, e2]
        rw [e1, e3]; simp [Instr.sliceBounds, Instr.sliceBound, asIntOf, h0, show l <= xs.length by omega, e2]
      rcases hloV with ⟨e3, e4⟩ | ⟨k', e3⟩
      . subst e4; rw [e1, e3]; simp [Instr.sliceBounds, Instr.sliceBound, asIntOf, show (0:Int) <= h by omega, hh]
      have h5 : l <= ((h.toNat : Nat) : Int) := by omega
      rw [e1, e3]; simp only [Instr.sliceBounds, Instr.sliceBound, asIntOf, Sem.run_bind, Sem.run_pure, Result.andThen_ok, if_pos (show 0 <= h /\ h <= (c : Int) from ⟨og, hh⟩), if_pos (show 0 <= l /\ l <= ((h.toNat : Nat) : Int) from ⟨h0, h5⟩)]
    simp [Instr.slice, run_underlying hu, hb, sizeOf, typeInfo, hi', hisz]
  have hex : ∀ (v v' : Value), a.eval x = v -> (Instr.slice t v (lo.map a.eval) (hi.map a.eval) none).run P w = .ok v' w -> (execOp a.eval o).run P w = .ok (.value v') w := fun v v' q1 q2 => by
    simp [execOp, ho, q1, Instr.sliceAt, run_underlying hu, q2]
  have hlen : ((xs.take h.toNat).drop l.toNat).length = h.toNat - l.toNat := by simp; omega
  generalize hev : a.eval x = v at r1
  cases r1 with
  | sl0 _ A c hc =>
    have := hrun A c (A5 _)
    refine ⟨hbel, _, hex _ _ hev this, ?_⟩
    have h9 : h.toNat - l.toNat = 0 := by simp at h2; omega
    rw [h9]; simp only [List.take_nil, List.drop_nil]
    exact .sl0 _ _ _ og
  | sl _ _ b off c cells tt fr vals hp hc hm hnb hh hrep hcells =>
    have := hrun (some ⟨b, off, none⟩) c hc
    refine ⟨hbel, _, hex _ _ hev this, ?_⟩
    by_cases h9 : h.toNat - l.toNat = 0
    . rw [h9, G8 (hlen.trans h9)]
      exact .sl0 _ _ _ og
    have hadd : (if c = l.toNat then (some ⟨b, off, none⟩ : Option Addr) else (some ⟨b, off, none⟩ : Option Addr).map (·.add (l.toNat * sz))) = some ⟨b, off + l.toNat * sz, none⟩ := by
      rw [if_neg og]
      simp [jV]
    rw [hadd]
    have := Rep.sl (ρ := C.ρ) (av := C.avoid H) (hp := w.heap) sz ((xs.take h.toNat).drop l.toNat) b (off + l.toNat * sz) (c - l.toNat) cells tt fr (fun j => vals (l.toNat + j)) og og og hnb hh
      (fun j z hj => by
        rw [H4, G1] at hj; split at hj
        . exact hrep _ z hj
        cases hj)
      (fun j hj => by
        obtain ⟨q1, q2⟩ := hcells (l.toNat + j) og
        refine ⟨q1, fun k hk => ?_⟩
        rw [<- q2 k hk, Nat.add_mul]
        congr 1
        omega)
    rw [hlen] at this; exact this
end
end
section
variable [Globals]
variable {t : TypeId} {k : IntKind} {x : Operand}
def mC (P : Program) (t : TypeId) : Option (TypeId × TypeId) :=
  match P.underlying t with
  | some (.map k e) => some (k, e)
  | _ => none
def rI {P : Program} {t k e : TypeId} (h : mC P t = some (k, e)) : P.underlying t = some (.map k e) := by
  unfold mC at h; split at h
  . cases h; assumption
  cases h
def gE (P : Program) (t : TypeId) : Option IntKind :=
  match P.underlying t with
  | some (.int k) => some k
  | _ => none
def aCu {P : Program} (h : gE P t = some k) : P.underlying t = some (.int k) := by
  unfold gE at h; split at h
  . cases h; assumption
  cases h
section
variable {P : Program} {ro : Option Nat} {N : Nat} {o : Oper} {E : Env} {H : Heap} {U : Nat -> Prop}
def aVs {t kt et : TypeId} {nw : Nat} (ho : o.op = .makeMap t none) (hN : oD o N) (hm : mC P t = some (kt, et)) (hnw : ¬ U nw) :
    OpT P ro N o E H U (aU E o.dst (.ref nw)) (put H nw (.map kt et [])) (fun j => U j ∨ j = nw) := by
  refine aIx (by simp [ho, Op.noDefer]) hN hnw trivial (Or.inr rfl) fun C a w hR => ?_
  refine ⟨.map (some w.heap.size), .map #[] 0, .map (some w.heap.size), [w.heap.size], rfl, ?_, by simp, fun ρ av hold => ⟨?_, fun e => by rw [<- e]; exact .ref _⟩⟩
  . simp [execOp, ho, Instr.makeMap, run_underlying (rI hm)]
  exact ⟨w.heap.size, #[], 0, rfl, rfl, heap_alloc_new w _, rfl, by simp [maxLen], fun j k x hj => by simp at hj, fun j e hj => by simp at hj⟩
def uD {C : Conc} {a : Act} {w : World} (hR : Rel C N E H U a w) {xs : Array Operand} {ps : List AV} (h : xs.toList.map (opv E) = ps.map some) : eB C.ρ (C.avoid H) w.heap ps (xs.map a.eval) /\ aI U ps := by
  have hlen : xs.size = ps.length := by have := congrArg List.length h; simpa using this
  have hget : ∀ (j : Nat) (p : AV), ps[j]? = some p -> ∃ x, xs[j]? = some x /\ opv E x = some p := fun j p hj => by
    have h1 : (xs.toList.map (opv E))[j]? = some (some p) := by rw [h, B4, hj]; rfl
    rw [B4, D8] at h1
    obtain ⟨x, hx, hxp⟩ := B3.1 h1
    exact ⟨x, hx, hxp⟩
  refine ⟨⟨by simpa using hlen, fun j p hj => ?_⟩, bLi.2 fun p hp => ?_⟩
  . obtain ⟨x, hx, hxp⟩ := hget j p hj
    have := (hR.opv hxp).1
    simpa [B5, hx] using this
  obtain ⟨j, hj⟩ := G2 hp
  obtain ⟨x, _, hxp⟩ := hget j p hj
  exact (hR.opv hxp).2
def aUe {f : Fn} {first cap : Array Operand} {as bs : List AV} (ho : o.op = .makeFunc f first cap) (hN : oD o N) (ha : first.toList.map (opv E) = as.map some) (hb : cap.toList.map (opv E) = bs.map some) :
    OpT P ro N o E H U (aU E o.dst (.fn f as bs)) H U := by
  refine aT (by simp [ho, Op.noDefer]) hN fun C a w hR => ?_
  obtain ⟨h1, h2⟩ := uD hR ha
  obtain ⟨h3, h4⟩ := uD hR hb
  exact ⟨⟨h2, h4⟩, _, by simp [execOp, ho, Instr.makeFunc], .fn _ _ _ _ _ h1.1 h1.2 h3.1 h3.2⟩
def aWv {s t : TypeId} {k k' : IntKind} {n : Int} (ho : o.op = .convert s t x) (hN : oD o N) (hs : (gE P s).isSome = true) (ht : gE P t = some k') (hx : opv E x = some (.raw (.int k n))) :
    OpT P ro N o E H U (aU E o.dst (.raw (.int k' (k'.wrap n)))) H U := by
  refine aT (by simp [ho, Op.noDefer]) hN fun C a w hR => ?_
  obtain ⟨h1, _⟩ := hR.opv hx
  generalize hev : a.eval x = u at h1
  cases h1
  obtain ⟨ks, hks⟩ := Option.isSome_iff_exists.1 hs
  refine ⟨trivial, _, ?_, .raw _⟩
  simp [execOp, ho, hev, convert, run_underlying (aCu ht), run_underlying (aCu hks), Conv.intToInt]
def bFw {j off sz : Nat} {ag : Bool} {p r : AV} (ho : o.op = .field t x j) (hN : oD o N) (hf : fI P t j = some (off, some sz, some ag)) (hx : opv E x = some p) (hp : p.notAgg = false) (hr : eH p off sz ag = some r) :
    OpT P ro N o E H U (aU E o.dst r) H U := by
  refine aT (by simp [ho, Op.noDefer]) hN fun C a w hR => ?_
  obtain ⟨h1, h2⟩ := hR.opv hx
  obtain ⟨q1, q2, q3⟩ := pF h1 C.one h2 hr
  obtain ⟨fs, f, hu, hfj, hoff, hv⟩ := yV hf
  refine ⟨q2, _, ?_, q1⟩
  have hagg : ∃ vs, a.eval x = .agg vs := by
    cases p with
    | agg cs => generalize a.eval x = v at h1; cases h1; exact ⟨_, rfl⟩
    | _ => simp [AV.notAgg] at hp
  obtain ⟨vs, hvs⟩ := hagg
  rw [hvs] at q3
  have q3' : off + sz <= vs.size := q3
  have hpart : (part f.type vs f.offset).run P w = .ok (iX (.agg vs) off sz ag) w := by
    unfold part; rw [Sem.run_bind, hv.run_agg w, hoff]
    cases ag with
    | true =>
      simp only [Result.andThen_ok, if_true, Sem.run_bind, hv.run_size w, Sem.run_pure, iX, Value.cells]
      congr 2
      apply Array.ext
      . simp; omega
      intro q h1 h2
      simp at h1 h2
      simp [B5, show off + q < vs.size by omega]
    | false =>
      have hsz : sz = 1 := nV hr rfl
      have hlt : off < vs.size := by omega
      simp [iX, Value.cells, D4 hlt, B5]
  rw [hvs]; simp only [execOp, ho, hvs, Instr.field, Sem.run_bind, run_underlying hu, Result.andThen_ok, hfj, asAgg, Sem.run_pure, hpart]
end
end
section
variable [Globals]
variable {t t' : TypeId} {x y : Operand} {v : Value}
def bJz (P : Program) (t : TypeId) : Bool := match P.underlying t with | some .bool => true | _ => false
def bEz {P : Program} (h : bJz P t = true) : P.underlying t = some .bool := by
  unfold bJz at h; split at h
  . assumption
  cases h
def bNi (op : BinOp) (k : IntKind) (n m : Int) : Option Value :=
  match op with
  | .shl => some (.int k (k.wrap (n * 2 ^ min m.toNat k.bits)))
  | .shr => some (.int k (n.fdiv (2 ^ min m.toNat k.bits)))
  | _ => none
def bop (op : BinOp) (x y : Bool) : Option Bool :=
  match op with
  | .eql => some (x == y)
  | .neq => some (!(x == y))
  | _ => none
def bNw (a b : ByteArray) : ByteArray := if (Op.bytesLess a.toList b.toList || a.toList == b.toList) = true then a else b
def aSh (a b : ByteArray) : ByteArray := if (!Op.bytesLess a.toList b.toList) = true then a else b
def bMz (b : Builtin) (x y : AV) : Option Value :=
  match b, x, y with
  | .min, .raw (.int k n), .raw (.int _ m) => some (.int k (min n m))
  | .max, .raw (.int k n), .raw (.int _ m) => some (.int k (max n m))
  | .min, .raw (.string n), .raw (.string m) => some (.string (bNw n m))
  | .max, .raw (.string n), .raw (.string m) => some (.string (aSh n m))
  | _, _, _ => none
section
variable {P : Program} {ro : Option Nat} {N : Nat} {o : Oper} {E : Env} {H : Heap} {U : Nat -> Prop}
def bIx {op : BinOp} {k k' : IntKind} {n m : Int} (ho : o.op = .binOp op t x y t') (hN : oD o N) (hx : opv E x = some (.raw (.int k n))) (hy : opv E y = some (.raw (.int k' m)))
    (hm : 0 <= m) (hv : bNi op k n m = some v) : OpT P ro N o E H U (aU E o.dst (.raw v)) H U := by
  refine aT (by simp [ho, Op.noDefer]) hN fun C a w hR => ?_
  obtain ⟨h1, _⟩ := hR.opv hx
  obtain ⟨h2, _⟩ := hR.opv hy
  generalize hev : a.eval x = u at h1
  generalize hey : a.eval y = u' at h2
  cases h1; cases h2
  refine ⟨trivial, _, ?_, .raw _⟩
  have hg : (eqGuard op t x y (.int k n) (.int k' m)) = pure () := eqGuard_at_int ..
  have hn : ¬ m < 0 := by omega
  cases op <;> simp only [bNi, B9, reduceCtorEq] at hv
  all_goals
    subst hv
    simp [execOp, ho, hev, hey, hg, binOp, Op.shift, hn]
def bOi {op : BinOp} {n m b : Bool} (ho : o.op = .binOp op t x y t') (hN : oD o N) (ht : bJz P t = true) (hx : opv E x = some (.raw (.bool n))) (hy : opv E y = some (.raw (.bool m)))
    (hv : bop op n m = some b) : OpT P ro N o E H U (aU E o.dst (.raw (.bool b))) H U := by
  refine aT (by simp [ho, Op.noDefer]) hN fun C a w hR => ?_
  obtain ⟨h1, _⟩ := hR.opv hx
  obtain ⟨h2, _⟩ := hR.opv hy
  generalize hev : a.eval x = u at h1
  generalize hey : a.eval y = u' at h2
  cases h1; cases h2
  refine ⟨trivial, _, ?_, .raw _⟩
  have hg : (eqGuard op t x y (.bool n) (.bool m)) = pure () := by unfold eqGuard; split <;> rfl
  have he : (Op.equal t (.bool n) (.bool m)).run P w = .ok (n == m) w := by
    have e1 : Op.equal t (.bool n) (.bool m) = Op.equalIn (Op.maxDepth - 1 + 1) t (.bool n) (.bool m) := rfl
    rw [e1]; unfold Op.equalIn; simp only [Sem.run_bind, run_underlying (bEz ht), Result.andThen_ok, Sem.run_pure]
  cases op <;> simp only [bop, B9, reduceCtorEq] at hv
  all_goals
    subst hv
    simp [execOp, ho, hev, hey, hg, binOp, he]
def bIc {c : Call} {b : Builtin} {p q : AV} (ho : o.op = .call c) (hc : c.callee = .builtin b) (hargs : c.args = #[x, y]) (hN : oD o N)
    (hx : opv E x = some p) (hy : opv E y = some q) (hv : bMz b p q = some v) : OpT P ro N o E H U (aU E o.dst (.raw v)) H U := by
  refine aT (by simp [ho, Op.noDefer]) hN fun C a w hR => ?_
  obtain ⟨h1, _⟩ := hR.opv hx
  obtain ⟨h2, _⟩ := hR.opv hy
  refine ⟨trivial, _, ?_, .raw _⟩
  have hi : ∀ (n m : Int), (if m < n then m else n) = min n m := fun n m => by split <;> omega
  have hj : ∀ (n m : Int), (if n < m then m else n) = max n m := fun n m => by split <;> omega
  generalize hev : a.eval x = u at h1
  generalize hey : a.eval y = u' at h2
  unfold bMz at hv; split at hv
  . cases h1; cases h2; cases hv
    simp [execOp, ho, resolve, hc, hargs, invoke, builtin, Builtin.min_, Builtin.min2, hev, hey, hi]
  . cases h1; cases h2; cases hv
    simp [execOp, ho, resolve, hc, hargs, invoke, builtin, Builtin.max_, Builtin.max2, hev, hey, hj]
  . cases h1; cases h2; cases hv
    simp [execOp, ho, resolve, hc, hargs, invoke, builtin, Builtin.min_, Builtin.min2, hev, hey, Op.stringOp, bNw, asBool]
  . cases h1; cases h2; cases hv
    simp [execOp, ho, resolve, hc, hargs, invoke, builtin, Builtin.max_, Builtin.max2, hev, hey, Op.stringOp, aSh, asBool]
  cases hv
def aOh {lo hi : Option Operand} {s : ByteArray} {l h : Int} (ho : o.op = .slice t x lo hi none) (hN : oD o N) (hs : aGq P t = true) (hx : opv E x = some (.raw (.string s)))
    (hlo : (lo = none /\ l = 0) ∨ ∃ y k, lo = some y /\ opv E y = some (.raw (.int k l))) (hhi : (hi = none /\ h = s.size) ∨ ∃ y k, hi = some y /\ opv E y = some (.raw (.int k h))) (h0 : 0 <= l) (h1 : l <= h) (h2 : h <= s.size) :
    OpT P ro N o E H U (aU E o.dst (.raw (.string (s.extract l.toNat h.toNat)))) H U := by
  refine aT (by simp [ho, Op.noDefer]) hN fun C a w hR => ?_
  obtain ⟨r1, _⟩ := hR.opv hx
  have hu := aBl hs
  have hloV : lo.map a.eval = none /\ l = 0 ∨ ∃ k, lo.map a.eval = some (.int k l) := by
    rcases hlo with ⟨rfl, rfl⟩ | ⟨y, k, rfl, hy⟩
    . exact .inl ⟨rfl, rfl⟩
    obtain ⟨q1, _⟩ := hR.opv hy
    right
    refine ⟨k, ?_⟩
    simp only [Option.map_some]
    generalize a.eval y = v at q1
    cases q1; rfl
  have hhiV : hi.map a.eval = none /\ h = s.size ∨ ∃ k, hi.map a.eval = some (.int k h) := by
    rcases hhi with ⟨rfl, rfl⟩ | ⟨y, k, rfl, hy⟩
    . exact .inl ⟨rfl, rfl⟩
    obtain ⟨q1, _⟩ := hR.opv hy
    right
    refine ⟨k, ?_⟩
    simp only [Option.map_some]
    generalize a.eval y = v at q1
    cases q1; rfl
  have hb : (Instr.sliceBounds false s.size s.size (lo.map a.eval) (hi.map a.eval) none).run P w = .ok (l.toNat, h.toNat, s.size) w := by
    rcases hhiV with ⟨e1, e2⟩ | ⟨k, e1⟩
    . rcases hloV with ⟨e3, e4⟩ | ⟨k', e3⟩
      . subst e4; rw [e1, e3]; simp [Instr.sliceBounds, e2]
      rw [e1, e3]; simp [Instr.sliceBounds, Instr.sliceBound, asIntOf, h0, show l <= s.size by omega, e2]
    rcases hloV with ⟨e3, e4⟩ | ⟨k', e3⟩
    . subst e4; rw [e1, e3]; simp [Instr.sliceBounds, Instr.sliceBound, asIntOf, show (0:Int) <= h by omega, h2]
    have h5 : l <= ((h.toNat : Nat) : Int) := by omega
    rw [e1, e3]; simp only [Instr.sliceBounds, Instr.sliceBound, asIntOf, Sem.run_bind, Sem.run_pure, Result.andThen_ok, if_pos (show 0 <= h /\ h <= (s.size : Int) from ⟨og, h2⟩), if_pos (show 0 <= l /\ l <= ((h.toNat : Nat) : Int) from ⟨h0, h5⟩)]
  generalize hev : a.eval x = v at r1
  cases r1
  refine ⟨trivial, _, ?_, .raw _⟩
  simp [execOp, ho, hev, Instr.sliceAt, Instr.slice, run_underlying hu, hb]
end
end
section
variable [Globals]
variable {σ : Nat -> Nat} {ρ : Nat -> Value} {av U : Nat -> Prop} {hp : Array Obj} {v : Value} {x y : AV} {xs : List AV} {o : AObj} {ow own : List Nat} {vs : Array Value}
mutual
def AV.ren (σ : Nat -> Nat) : AV -> AV
  | .any => .any
  | .raw v => .raw v
  | .agg cs => .agg (aB σ cs)
  | .tup cs => .tup (aB σ cs)
  | .sl sz xs => .sl sz (aB σ xs)
  | .fp sz xs j off => .fp sz (aB σ xs) j off
  | .ptr i off => .ptr (σ i) off
  | .ep i sz j off => .ep (σ i) sz j off
  | .ref i => .ref (σ i)
  | .iface t x => .iface t (x.ren σ)
  | .fn f a b => .fn f (aB σ a) (aB σ b)
  | .when c x => .when c (x.ren σ)
  | .own e sz xs => .own e sz (aB σ xs)
def aB (σ : Nat -> Nat) : List AV -> List AV
  | [] => []
  | x :: xs => x.ren σ :: aB σ xs
end
def zO (σ : Nat -> Nat) : ∀ xs : List AV, aB σ xs = xs.map (AV.ren σ)
  | [] => rfl
  | x :: xs => by rw [aB, zO σ xs]; rfl
def qD (σ : Nat -> Nat) (xs : List AV) (j : Nat) : (aB σ xs)[j]? = (xs[j]?).map (AV.ren σ) := by rw [zO, B4]
def rnl (σ : Nat -> Nat) (xs : List AV) : (aB σ xs).length = xs.length := by rw [zO, A6]
mutual
theorem AV.ren_congr {σ τ : Nat -> Nat} {U : Nat -> Prop} (h : ∀ i, U i -> σ i = τ i) : ∀ x : AV, x.bel U -> x.ren σ = x.ren τ
  | .any, _ => rfl
  | .raw _, _ => rfl
  | .agg cs, hx => by rw [AV.ren, AV.ren, eJ h cs hx]
  | .tup cs, hx => by rw [AV.ren, AV.ren, eJ h cs hx]
  | .sl _ xs, hx => by rw [AV.ren, AV.ren, eJ h xs hx]
  | .fp _ xs _ _, hx => by rw [AV.ren, AV.ren, eJ h xs hx]
  | .ptr i _, hx => by rw [AV.ren, AV.ren, h i hx]
  | .ep i _ _ _, hx => by rw [AV.ren, AV.ren, h i hx]
  | .ref i, hx => by rw [AV.ren, AV.ren, h i hx]
  | .iface _ x, hx => by rw [AV.ren, AV.ren, AV.ren_congr h x hx]
  | .fn _ a b, hx => by rw [AV.ren, AV.ren, eJ h a hx.1, eJ h b hx.2]
  | .when _ x, hx => by rw [AV.ren, AV.ren, AV.ren_congr h x hx]
  | .own _ _ xs, hx => by rw [AV.ren, AV.ren, eJ h xs hx]
theorem eJ {σ τ : Nat -> Nat} {U : Nat -> Prop} (h : ∀ i, U i -> σ i = τ i) : ∀ xs : List AV, aI U xs -> aB σ xs = aB τ xs
  | [], _ => rfl
  | x :: xs, hx => by rw [aB, aB, AV.ren_congr h x hx.1, eJ h xs hx.2]
end
mutual
theorem AV.ren_id : ∀ x : AV, x.ren id = x
  | .any => rfl
  | .raw _ => rfl
  | .agg cs => by rw [AV.ren, lB]
  | .tup cs => by rw [AV.ren, lB]
  | .sl _ xs => by rw [AV.ren, lB]
  | .fp _ xs _ _ => by rw [AV.ren, lB]
  | .ptr i _ => rfl
  | .ep i _ _ _ => rfl
  | .ref i => rfl
  | .iface _ x => by rw [AV.ren, AV.ren_id]
  | .fn _ a b => by rw [AV.ren, lB, lB]
  | .when _ x => by rw [AV.ren, AV.ren_id]
  | .own _ _ xs => by rw [AV.ren, lB]
theorem lB : ∀ xs : List AV, aB id xs = xs
  | [] => rfl
  | x :: xs => by rw [aB, AV.ren_id, lB]
end
def AV.ren_closed (σ : Nat -> Nat) (h : x.bel fun _ => False) : x.ren σ = x :=
  (AV.ren_congr (τ := id) (fun _ h => h.elim) x h).trans (AV.ren_id x)
def dJ (σ : Nat -> Nat) (h : aI (fun _ => False) xs) : aB σ xs = xs :=
  (eJ (τ := id) (fun _ h => h.elim) xs h).trans (lB xs)
mutual
theorem AV.bel_ren {U : Nat -> Prop} {σ : Nat -> Nat} : ∀ {x : AV}, (x.ren σ).bel U ↔ x.bel fun i => U (σ i)
  | .any => Iff.rfl
  | .raw _ => Iff.rfl
  | .agg cs => by rw [AV.ren]; exact gZ
  | .tup cs => by rw [AV.ren]; exact gZ
  | .sl _ xs => by rw [AV.ren]; exact gZ
  | .fp _ xs _ _ => by rw [AV.ren]; exact gZ
  | .ptr _ _ => Iff.rfl
  | .ep _ _ _ _ => Iff.rfl
  | .ref _ => Iff.rfl
  | .iface _ x => by rw [AV.ren]; exact AV.bel_ren
  | .fn _ a b => by rw [AV.ren]; exact and_congr gZ gZ
  | .when _ x => by rw [AV.ren]; exact AV.bel_ren
  | .own _ _ xs => by rw [AV.ren]; exact gZ
theorem gZ {U : Nat -> Prop} {σ : Nat -> Nat} : ∀ {xs : List AV}, aI U (aB σ xs) ↔ aI (fun i => U (σ i)) xs
  | [] => Iff.rfl
  | x :: xs => by rw [aB]; exact and_congr AV.bel_ren gZ
end
def Rep.ren (h : Rep (fun i => ρ (σ i)) av hp x v) : Rep ρ av hp (x.ren σ) v := by
  have aux : ∀ {xs : List AV} {g : Nat -> Value}, (∀ (j : Nat) (y : AV), xs[j]? = some y -> Rep ρ av hp (y.ren σ) (g j)) -> ∀ (j : Nat) (y : AV), (aB σ xs)[j]? = some y -> Rep ρ av hp y (g j) := fun hh j y hy => by
    rw [qD] at hy
    obtain ⟨z, hz, rfl⟩ := B3.1 hy
    exact hh j z hz
  induction h with
  | any v => exact .any v
  | raw v => exact .raw v
  | agg cs vs hn _ ih => exact .agg _ vs (by rw [rnl]; exact hn) (aux ih)
  | tup cs vs hn _ ih => exact .tup _ vs (by rw [rnl]; exact hn) (aux ih)
  | sl0 sz A c hc => exact .sl0 sz A c hc
  | sl sz xs b off c cells t fr vals h0 hc hm hb hh _ hcells ih =>
    have := Rep.sl sz (aB σ xs) b off c cells t fr vals (by rw [rnl]; exact h0) (by rw [rnl]; exact hc) hm hb hh (aux ih) (by rw [rnl]; exact hcells)
    rw [rnl] at this; exact this
  | fp sz xs j d b off cells t fr vals hb hh _ hcells ih => exact .fp sz _ j d b off cells t fr vals hb hh (aux ih) (by rw [rnl]; exact hcells)
  | ptr i off b h => exact .ptr _ off b h
  | ep i sz j off b h => exact .ep _ sz j off b h
  | ref i => exact .ref _
  | iface t x v _ ih => exact .iface t _ v ih
  | fn f first cap vs us hn _ hn' _ ih ih' => exact .fn f _ _ vs us (by rw [rnl]; exact hn) (aux ih) (by rw [rnl]; exact hn') (aux ih')
  | when c x v _ h' ih => exact .when c _ v ih h'
def Rep.unren (h : Rep ρ av hp y v) : ∀ x : AV, y = x.ren σ -> Rep (fun i => ρ (σ i)) av hp x v := by
  have aux : ∀ {ys xs : List AV} {g : Nat -> Value}, ys = aB σ xs -> (∀ (j : Nat) (y : AV), ys[j]? = some y -> ∀ x : AV, y = x.ren σ -> Rep (fun i => ρ (σ i)) av hp x (g j)) -> ∀ (j : Nat) (x : AV), xs[j]? = some x -> Rep (fun i => ρ (σ i)) av hp x (g j) := fun he hh j x hx => by
    subst he
    exact hh j (x.ren σ) (by rw [qD, hx]; rfl) x rfl
  induction h with
  | any v => intro x hx; cases x <;> simp [AV.ren] at hx; exact .any v
  | raw v => intro x hx; cases x <;> simp [AV.ren] at hx; subst hx; exact .raw v
  | agg cs vs hn _ ih => intro x hx; cases x <;> simp [AV.ren] at hx; exact .agg _ vs (by rw [hn, hx, rnl]) (aux hx ih)
  | tup cs vs hn _ ih => intro x hx; cases x <;> simp [AV.ren] at hx; exact .tup _ vs (by rw [hn, hx, rnl]) (aux hx ih)
  | sl0 sz A c hc =>
    intro x hx
    cases x <;> simp [AV.ren] at hx
    rename_i sz' xs
    obtain ⟨rfl, hx⟩ := hx
    cases xs with
    | nil => exact .sl0 _ A c hc
    | cons _ _ => simp [aB] at hx
  | sl sz xs b off c cells t fr vals h0 hc hm hb hh _ hcells ih =>
    intro x hx
    cases x <;> simp [AV.ren] at hx
    rename_i sz' xs'
    obtain ⟨rfl, hx⟩ := hx
    have hl : xs.length = xs'.length := by rw [hx, rnl]
    have := Rep.sl (ρ := fun i => ρ (σ i)) (av := av) (hp := hp) sz xs' b off c cells t fr vals og og hm hb hh (aux hx ih) (by rw [<- hl]; exact hcells)
    rw [hl]; exact this
  | fp sz xs j d b off cells t fr vals hb hh _ hcells ih =>
    intro x hx
    cases x <;> simp [AV.ren] at hx
    rename_i sz' xs' j' d'
    obtain ⟨rfl, hx, rfl, rfl⟩ := hx
    have hl : xs.length = xs'.length := by rw [hx, rnl]
    exact .fp sz xs' j d b off cells t fr vals hb hh (aux hx ih) (by rw [<- hl]; exact hcells)
  | ptr i off b h => intro x hx; cases x <;> simp [AV.ren] at hx; obtain ⟨rfl, rfl⟩ := hx; exact .ptr _ _ b h
  | ep i sz j off b h => intro x hx; cases x <;> simp [AV.ren] at hx; obtain ⟨rfl, rfl, rfl, rfl⟩ := hx; exact .ep _ _ _ _ b h
  | ref i =>
    intro x hx
    cases x <;> simp [AV.ren] at hx
    subst hx
    exact Rep.ref (ρ := fun i => ρ (σ i)) _
  | iface t x v _ ih => intro x' hx; cases x' <;> simp [AV.ren] at hx; obtain ⟨rfl, hx⟩ := hx; exact .iface _ _ v (ih _ hx)
  | fn f first cap vs us hn _ hn' _ ih ih' =>
    intro x hx
    cases x <;> simp [AV.ren] at hx
    obtain ⟨rfl, h1, h2⟩ := hx
    exact .fn _ _ _ vs us (by rw [hn, h1, rnl]) (aux h1 ih) (by rw [hn', h2, rnl]) (aux h2 ih')
  | when c x v _ h' ih => intro x' hx; cases x' <;> simp [AV.ren] at hx; obtain ⟨hcc, hx⟩ := hx; exact .when _ _ v (fun hc => ih (hcc.2 hc) _ hx) (fun hc => h' (fun q => hc (hcc.1 q)))
def RepO.ren (h : RepO (fun i => ρ (σ i)) av hp x v ow) : RepO ρ av hp (x.ren σ) v ow := by
  have aux : ∀ {xs : List AV} {g : Nat -> Value} {ows : Nat -> List Nat}, (∀ (j : Nat) (y : AV), xs[j]? = some y -> RepO ρ av hp (y.ren σ) (g j) (ows j)) -> ∀ (j : Nat) (y : AV), (aB σ xs)[j]? = some y -> RepO ρ av hp y (g j) (ows j) := fun hh j y hy => by
    rw [qD] at hy
    obtain ⟨z, hz, rfl⟩ := B3.1 hy
    exact hh j z hz
  induction h with
  | leaf x v h => exact .leaf _ v h.ren
  | agg cs vs ows hn _ ih =>
    have := RepO.agg (aB σ cs) vs ows (by rw [rnl]; exact hn) (aux (g := fun j => vs.getD j undef) ih)
    rw [rnl] at this; exact this
  | own0 e sz => exact .own0 e sz
  | own e sz xs b c cells vals ows hh hs hc hm _ hcells ih =>
    have := RepO.own e sz (aB σ xs) b c cells vals ows hh hs (by rw [rnl]; exact hc) hm (aux ih) (by rw [rnl]; exact hcells)
    rw [rnl] at this; exact this
def RepO.unren (h : RepO ρ av hp y v ow) : ∀ x : AV, y = x.ren σ -> RepO (fun i => ρ (σ i)) av hp x v ow := by
  have aux : ∀ {ys xs : List AV} {g : Nat -> Value} {ows : Nat -> List Nat}, ys = aB σ xs -> (∀ (j : Nat) (y : AV), ys[j]? = some y -> ∀ x : AV, y = x.ren σ -> RepO (fun i => ρ (σ i)) av hp x (g j) (ows j)) ->
      ∀ (j : Nat) (x : AV), xs[j]? = some x -> RepO (fun i => ρ (σ i)) av hp x (g j) (ows j) := fun he hh j x hx => by
    subst he
    exact hh j (x.ren σ) (by rw [qD, hx]; rfl) x rfl
  induction h with
  | leaf y v h => intro x hx; exact .leaf x v (h.unren x hx)
  | agg cs vs ows hn _ ih =>
    intro x hx
    cases x <;> simp [AV.ren] at hx
    rename_i cs'
    have hl : cs.length = cs'.length := by rw [hx, rnl]
    have := RepO.agg (ρ := fun i => ρ (σ i)) (av := av) (hp := hp) cs' vs ows og (aux (g := fun j => vs.getD j undef) hx ih)
    rw [hl]; exact this
  | own0 e sz =>
    intro x hx
    cases x <;> simp [AV.ren] at hx
    rename_i e' sz' xs
    obtain ⟨rfl, rfl, hx⟩ := hx
    cases xs with
    | nil => exact .own0 _ _
    | cons _ _ => simp [aB] at hx
  | own e sz xs b c cells vals ows hh hs hc hm _ hcells ih =>
    intro x hx
    cases x <;> simp [AV.ren] at hx
    rename_i e' sz' xs'
    obtain ⟨rfl, rfl, hx⟩ := hx
    have hl : xs.length = xs'.length := by rw [hx, rnl]
    have := RepO.own (ρ := fun i => ρ (σ i)) (av := av) (hp := hp) e sz xs' b c cells vals ows hh hs og hm (aux hx ih) (by rw [<- hl]; exact hcells)
    rw [hl]; exact this
def AObj.ren (σ : Nat -> Nat) : AObj -> AObj
  | .dead => .dead
  | .cells t cs => .cells t (aB σ cs)
  | .row e sz xs => .row e sz (aB σ xs)
  | .map kt et m => .map kt et (m.map fun p => (p.1, p.2.ren σ))
  | .mapS kt et m k st => .mapS kt et (m.map fun p => (p.1, p.2.ren σ)) k (σ st)
  | .other b o => .other b o
  | .loop l rec No Eo => .loop l rec No (Eo.map fun p => (p.1, p.2.ren σ))
  | .pool e0 e sz Q L lv more => .pool e0 e sz Q L (lv.map σ) (more.map σ)
def AObj.ren_congr {σ τ : Nat -> Nat} (h : ∀ i, U i -> σ i = τ i) (o : AObj) (ho : o.bel U) : o.ren σ = o.ren τ := by
  cases o with
  | dead => rfl
  | cells t cs => rw [AObj.ren, AObj.ren, eJ h cs ho]
  | row e sz xs => rw [AObj.ren, AObj.ren, eJ h xs ho]
  | map kt et m =>
    rw [AObj.ren, AObj.ren]
    congr 1
    apply E8; intro p hp
    have : p.2.bel U := bLi.1 ho _ (D3 hp)
    rw [AV.ren_congr h _ this]
  | mapS kt et m k st =>
    rw [AObj.ren, AObj.ren, h st ho.2]
    congr 1
    apply E8; intro p hp
    have : p.2.bel U := bLi.1 ho.1 _ (D3 hp)
    rw [AV.ren_congr h _ this]
  | other b o => rfl
  | loop l rec No Eo =>
    rw [AObj.ren, AObj.ren]
    congr 1
    apply E8; intro p hp
    have : p.2.bel U := bLi.1 ho _ (D3 hp)
    rw [AV.ren_congr h _ this]
  | pool e0 e sz Q L lv more =>
    rw [AObj.ren, AObj.ren, E8 fun i hi => h i (ho.1 i hi), E8 fun i hi => h i (ho.2 i hi)]
def AObj.bel_ren : (o.ren σ).bel U ↔ o.bel fun i => U (σ i) := by
  cases o with
  | dead => exact Iff.rfl
  | cells t cs => exact gZ
  | row e sz xs => exact gZ
  | map kt et m =>
    have : ((m.map fun p => (p.1, p.2.ren σ)).map fun x => x.2) = aB σ (m.map fun x => x.2) := by rw [zO]; simp
    show aI U _ ↔ aI _ _
    rw [this]; exact gZ
  | mapS kt et m k st =>
    have : ((m.map fun p => (p.1, p.2.ren σ)).map fun x => x.2) = aB σ (m.map fun x => x.2) := by rw [zO]; simp
    show aI U _ /\ U (σ st) ↔ aI _ _ /\ U (σ st)
    rw [this]
    exact and_congr gZ Iff.rfl
  | other b o => exact Iff.rfl
  | loop l rec No m =>
    have : ((m.map fun p => (p.1, p.2.ren σ)).map fun x => x.2) = aB σ (m.map fun x => x.2) := by rw [zO]; simp
    show aI U _ ↔ aI _ _
    rw [this]; exact gZ
  | pool e0 e sz Q L lv more => simp [AObj.ren, AObj.bel]
def eB.ren (h : eB (fun i => ρ (σ i)) av hp xs vs) : eB ρ av hp (aB σ xs) vs :=
  ⟨by rw [rnl]; exact h.1, fun j y hy => by
    rw [qD] at hy
    obtain ⟨z, hz, rfl⟩ := B3.1 hy
    exact (h.2 j z hz).ren⟩
def eB.unren (h : eB ρ av hp (aB σ xs) vs) : eB (fun i => ρ (σ i)) av hp xs vs :=
  ⟨by rw [h.1, rnl], fun j x hx => (h.2 j (x.ren σ) (by rw [qD, hx]; rfl)).unren x rfl⟩
def cR.ren (h : cR (fun i => ρ (σ i)) av hp own o v) : cR ρ av hp own (o.ren σ) v := by
  cases o with
  | dead => exact h
  | cells t cs => obtain ⟨b, vs, h1, h2, h3, h4⟩ := h; exact ⟨b, vs, h1, h2, h3, h4.ren⟩
  | row e sz xs => exact ⟨h.1.ren, h.2⟩
  | map kt et m =>
    obtain ⟨b, es, clock, h1, h2, h3, h4, h5, h6, h7⟩ := h
    refine ⟨b, es, clock, h1, h2, h3, by simpa using h4, h5, fun j k x hj => ?_, h7⟩
    rw [B4] at hj
    obtain ⟨⟨k', z⟩, hz, he⟩ := B3.1 hj
    simp only [Prod.mk.injEq] at he
    obtain ⟨rfl, rfl⟩ := he
    obtain ⟨e, he, hk, hr⟩ := h6 j _ z hz
    exact ⟨e, he, hk, hr.ren⟩
  | mapS kt et m k st =>
    obtain ⟨b, es, clock, h1, h2, h3, h4, h5, h6, h7⟩ := h
    refine ⟨b, es, clock, h1, h2, h3, by simpa using h4, h5, fun j k x hj => ?_, h7⟩
    rw [B4] at hj
    obtain ⟨⟨k', z⟩, hz, he⟩ := B3.1 hj
    simp only [Prod.mk.injEq] at he
    obtain ⟨rfl, rfl⟩ := he
    obtain ⟨e, he, hk, hr⟩ := h6 j _ z hz
    exact ⟨e, he, hk, hr.ren⟩
  | other b o => exact h
  | loop l rec No Eo =>
    obtain ⟨h1, h2, h3, h4, h5⟩ := h
    refine ⟨h1, h2, h3, h4, fun j t x hj => ?_⟩
    rw [B4] at hj
    obtain ⟨⟨t', z⟩, hz, he⟩ := B3.1 hj
    simp only [Prod.mk.injEq] at he
    obtain ⟨rfl, rfl⟩ := he
    exact ⟨(h5 j _ z hz).1, (h5 j _ z hz).2.ren⟩
  | pool e0 e sz Q L lv more =>
    obtain ⟨b0, c0, cells0, bs, h1, h0, h2, h3, h4, h5, h6, h7, h8, h9, h10⟩ := h
    refine ⟨b0, c0, cells0, bs, by rw [A6]; exact h1, h0, h2, h3, h4, by rw [A6]; exact h5, h6, h7, fun j i hj => ?_, fun i hi => ?_, fun i hi => ?_⟩
    . rw [B4] at hj
      obtain ⟨i', hi', rfl⟩ := B3.1 hj
      exact h8 j i' hi'
    . obtain ⟨i', hi', rfl⟩ := A9.1 hi
      exact (h9 i' hi').named
    obtain ⟨i', hi', rfl⟩ := A9.1 hi
    exact (h10 i' hi').named
def cR.unren (h : cR ρ av hp own (o.ren σ) v) : cR (fun i => ρ (σ i)) av hp own o v := by
  cases o with
  | dead => exact h
  | cells t cs => obtain ⟨b, vs, h1, h2, h3, h4⟩ := h; exact ⟨b, vs, h1, h2, h3, h4.unren⟩
  | row e sz xs => exact ⟨h.1.unren _ rfl, h.2⟩
  | map kt et m =>
    obtain ⟨b, es, clock, h1, h2, h3, h4, h5, h6, h7⟩ := h
    refine ⟨b, es, clock, h1, h2, h3, by simpa using h4, h5, fun j k x hj => ?_, h7⟩
    obtain ⟨e, he, hk, hr⟩ := h6 j k (x.ren σ) (by rw [B4, hj]; rfl)
    exact ⟨e, he, hk, hr.unren x rfl⟩
  | mapS kt et m k st =>
    obtain ⟨b, es, clock, h1, h2, h3, h4, h5, h6, h7⟩ := h
    refine ⟨b, es, clock, h1, h2, h3, by simpa using h4, h5, fun j k x hj => ?_, h7⟩
    obtain ⟨e, he, hk, hr⟩ := h6 j k (x.ren σ) (by rw [B4, hj]; rfl)
    exact ⟨e, he, hk, hr.unren x rfl⟩
  | other b o => exact h
  | loop l rec No Eo =>
    obtain ⟨h1, h2, h3, h4, h5⟩ := h
    refine ⟨h1, h2, h3, h4, fun j t x hj => ?_⟩
    have := h5 j t (x.ren σ) (by rw [B4, hj]; rfl)
    exact ⟨this.1, this.2.unren x rfl⟩
  | pool e0 e sz Q L lv more =>
    obtain ⟨b0, c0, cells0, bs, h1, h0, h2, h3, h4, h5, h6, h7, h8, h9, h10⟩ := h
    rw [A6] at h1 h5
    exact ⟨b0, c0, cells0, bs, h1, h0, h2, h3, h4, h5, h6, h7, fun j i hj => h8 j (σ i) (by rw [B4, hj]; rfl), fun i hi => (h9 (σ i) (D3 hi)).named, fun i hi => (h10 (σ i) (D3 hi)).named⟩
end
section
variable [Globals]
variable {C C' : Conc} {w w' : World} {c x y : Code} {σ : Nat -> Nat} {H1 H' : Heap} {U U1 : Nat -> Prop} {n : Nat} {E1 : Env}
def UU (n : Nat) : Nat -> Prop := fun i => i < n ∨ 1000 <= i
def eD {n m : Nat} (h : n <= m) (i : Nat) (hi : UU n i) : UU m i := hi.imp (fun h' => Nat.lt_of_lt_of_le h' h) id
def bPq (h : n < 1000) : ¬ UU n n := fun hi => by rcases hi with hi | hi <;> omega
abbrev AQ := Exit -> Env -> Heap -> Nat -> Prop
abbrev AK := Env -> Heap -> Nat -> Prop
def AWP (P : Program) (ro : Option Nat) (N n0 : Nat) (c : Code) (Q : AQ) (E : Env) (H : Heap) (nx : Nat) : Prop :=
  ∀ (C : Conc) (a : Act) (w : World) (Qc : Exit -> Act -> World -> Prop), n0 <= nx -> Rel C N E H (UU nx) a w ->
    (∀ (e : Exit) (E' : Env) (H' : Heap) (nx' : Nat) (C' : Conc) (a' : Act) (w' : World), n0 <= nx' -> Rel C' N E' H' (UU nx') a' w' -> StepR C H (UU n0) w C' H' w' -> Q e E' H' nx' -> Qc e a' w') ->
    c.wpIn (FW ro) 0 P Qc a w
def bHy (K : AK) (Q : AQ) : AQ
  | .normal => K
  | e => Q e
def bLl (id : Nat) (Q : AQ) : AQ
  | .exit id' => fun E H nx => if id' = id then Q .normal E H nx else Q (.exit id') E H nx
  | e => Q e
def StepR.fewerNames {H H' : Heap} {U U' : Nat -> Prop} (h : StepR C H U w C' H' w') (hU : ∀ i, U' i -> U i) : StepR C H U' w C' H' w' :=
  { h with ρ := fun i hi => h.ρ i (hU i hi) }
section
variable {P : Program} {ro : Option Nat} {N n0 : Nat} {Q : AQ} {E : Env} {H : Heap} {nx : Nat}
def aEt {Q' : AQ} (h : AWP P ro N n0 c Q E H nx) (hq : ∀ e E H nx, Q e E H nx -> Q' e E H nx) : AWP P ro N n0 c Q' E H nx :=
  fun C a w Qc hn hR hK => h C a w Qc hn hR fun e E' H' nx' C' a' w' hn' hR' hs hQ => hK e E' H' nx' C' a' w' hn' hR' hs (hq _ _ _ _ hQ)
def wk (h : Q .normal E H nx) : AWP P ro N n0 .skip Q E H nx :=
  fun C a w Qc hn hR hK => wpIn_skip (hK _ _ _ _ C _ _ hn hR (StepR.refl C H _ w) h)
def we {id : Nat} (h : Q (.exit id) E H nx) : AWP P ro N n0 (.exit id) Q E H nx :=
  fun C a w Qc hn hR hK => wpIn_exit (hK _ _ _ _ C _ _ hn hR (StepR.refl C H _ w) h)
def wR (h : Q .ret E H nx) : AWP P ro N n0 .ret Q E H nx :=
  fun C a w Qc hn hR hK => wpIn_ret (hK _ _ _ _ C _ _ hn hR (StepR.refl C H _ w) h)
def bCm (h : AWP P ro N n0 x (bHy (AWP P ro N n0 y Q) Q) E H nx) : AWP P ro N n0 (.seq x y) Q E H nx := by
  intro C a w Qc hn hR hK
  refine wpIn_seq (h C a w _ hn hR fun e E' H' nx' C' a' w' hn' hR' hs hQ => ?_)
  cases e with
  | normal => exact hQ C' a' w' Qc hn' hR' fun e E2 H2 nx2 C2 a2 w2 hn2 hR2 hs2 hQ2 => hK e E2 H2 nx2 C2 a2 w2 hn2 hR2 (hs.trans (fun _ h => h) hs2) hQ2
  | _ => exact hK _ E' H' nx' C' a' w' hn' hR' hs hQ
def aA (h : ∀ {K : AK}, (∀ {E H nx}, AWP P ro N n0 y Q E H nx -> K E H nx) -> AWP P ro N n0 x (bHy K Q) E H nx) : AWP P ro N n0 (.seq x y) Q E H nx :=
  bCm (h fun h => h)
def cd {c : Operand} {b : Bool} (hc : opv E c = some (.raw (.bool b))) (ht : b = true -> AWP P ro N n0 x Q E H nx) (hf : b = false -> AWP P ro N n0 y Q E H nx) : AWP P ro N n0 (.cond c x y) Q E H nx := by
  intro C a w Qc hn hR hK
  obtain ⟨h1, _⟩ := hR.opv hc
  have hv : a.eval c = .bool b := by generalize a.eval c = v at h1; cases h1; rfl
  cases b with
  | true => exact wpIn_cond_true hv (ht rfl C a w Qc hn hR hK)
  | false => exact wpIn_cond_false hv (hf rfl C a w Qc hn hR hK)
def wb {id : Nat} (h : AWP P ro N n0 c (bLl id Q) E H nx) : AWP P ro N n0 (.block id c) Q E H nx := by
  intro C a w Qc hn hR hK
  refine wpIn_block (h C a w _ hn hR fun e E' H' nx' C' a' w' hn' hR' hs hQ => ?_)
  cases e with
  | exit id' =>
    simp only [Exit.inBlock]
    simp only [bLl] at hQ
    split
    . rename_i he
      rw [if_pos he] at hQ
      exact hK _ E' H' nx' C' a' w' hn' hR' hs hQ
    rename_i he
    rw [if_neg he] at hQ
    exact hK _ E' H' nx' C' a' w' hn' hR' hs hQ
  | _ => exact hK _ E' H' nx' C' a' w' hn' hR' hs hQ
def bQo (I : Nat -> AK) (m : Nat) (Q : AQ) : AQ
  | .normal => fun E H nx => ∃ m', m' < m /\ I m' E H nx
  | e => Q e
def bEa {p : Nat -> Prop} (h : ∃ m, p m) : ∃ m, p m /\ ∀ k, p k -> m <= k := by
  obtain ⟨m, hm⟩ := h
  induction m using Nat.strongRecOn with
  | _ m ih =>
    by_cases hk : ∃ k, k < m /\ p k
    . obtain ⟨k, h1, h2⟩ := hk
      exact ih k h1 h2
    exact ⟨m, hm, fun k hp => by
      rcases Nat.lt_or_ge k m with h1 | h1
      . exact absurd ⟨k, h1, hp⟩ hk
      exact h1⟩
def bKn (I : Nat -> AK) (m0 : Nat) (h0 : I m0 E H nx) (h : ∀ m E H nx, n0 <= nx -> I m E H nx -> AWP P ro N n0 c (bQo I m Q) E H nx) : AWP P ro N n0 (.loop c) Q E H nx := by
  intro C a w Qc hn hR hK
  let J : Nat -> Act -> World -> Prop := fun m a' w' => ∃ E' H' nx' C', n0 <= nx' /\ Rel C' N E' H' (UU nx') a' w' /\ StepR C H (UU n0) w C' H' w' /\ I m E' H' nx'
  classical
  refine wpIn_loop (fun a' w' => ∃ m, J m a' w') (fun a' w' => if hj : ∃ m, J m a' w' then Classical.choose (bEa hj) else 0) ⟨m0, E, H, nx, C, hn, hR, StepR.refl C H _ w, h0⟩ fun a1 w1 hj => ?_
  have hf := (Classical.choose_spec (bEa hj)).1
  simp only [dif_pos hj]
  generalize Classical.choose (bEa hj) = m at hf
  obtain ⟨E1, H1, nx1, C1, hn1, hR1, hs1, hI1⟩ := hf
  refine h m E1 H1 nx1 hn1 hI1 C1 a1 w1 _ hn1 hR1 fun e E2 H2 nx2 C2 a2 w2 hn2 hR2 hs2 hQ2 => ?_
  have hs3 := hs1.trans (fun _ h => h) hs2
  cases e with
  | normal =>
    obtain ⟨m', hm', hI'⟩ := hQ2
    have hj2 : ∃ m, J m a2 w2 := ⟨m', E2, H2, nx2, C2, hn2, hR2, hs3, hI'⟩
    refine ⟨hj2, ?_⟩
    rw [dif_pos hj2]
    exact Nat.lt_of_le_of_lt ((Classical.choose_spec (bEa hj2)).2 _ ⟨E2, H2, nx2, C2, hn2, hR2, hs3, hI'⟩) hm'
  | _ => exact hK _ E2 H2 nx2 C2 a2 w2 hn2 hR2 hs3 hQ2
def Conc.ren (C : Conc) (σ : Nat -> Nat) : Conc := { C with ρ := fun i => C.ρ (σ i), one := fun i => C.one (σ i), own := fun i => C.own (σ i) }
def RelH.ren (h : RelH C H U w) (hH : ∀ i o, get H1 i = some o -> get H (σ i) = some (o.ren σ) /\ U1 i /\ o.bel U1)
    (hσ : ∀ i j oi oj, get H1 i = some oi -> get H1 j = some oj -> σ i = σ j -> i = j) : RelH (C.ren σ) H1 U1 w := by
  have hav : ∀ b, (C.ren σ).avoid H1 b -> C.avoid H b := fun b hb => hb.imp id (fun ⟨i, o, hi, hb⟩ => ⟨σ i, _, (hH i o hi).1, hb⟩)
  exact {
    obj := fun i o hi => ((h.obj (σ i) _ (hH i o hi).1).mono (av' := (C.ren σ).avoid H1) (fun b _ => hav b) (fun _ _ _ => rfl) (fun _ _ => rfl)).unren (ρ := C.ρ)
    apart := fun i j oi oj b hne hi hj hb hb' => h.apart (σ i) (σ j) _ _ b (fun e => hne (hσ i j oi oj hi hj e)) (hH i oi hi).1 (hH j oj hj).1 hb hb'
    xapart := fun i o b hi hb => h.xapart (σ i) _ b (hH i o hi).1 hb
    xlt := h.xlt
    gl := h.glK (fun b _ => hav b) (fun _ _ _ _ _ _ => rfl)
    objb := fun i o hi => (hH i o hi).2 }
def Rel.ren {a : Act} (h : Rel C N E H U a w) (hH : ∀ i o, get H1 i = some o -> get H (σ i) = some (o.ren σ) /\ U1 i /\ o.bel U1)
    (hσ : ∀ i j oi oj, get H1 i = some oi -> get H1 j = some oj -> σ i = σ j -> i = j) (hE : ∀ t x, get E1 t = some x -> get E t = some (x.ren σ) /\ x.bel U1) : Rel (C.ren σ) N E1 H1 U1 a w := by
  have hav : ∀ b, (C.ren σ).avoid H1 b -> C.avoid H b := fun b hb => hb.imp id (fun ⟨i, o, hi, hb⟩ => ⟨σ i, _, (hH i o hi).1, hb⟩)
  exact { toRelH := h.toRelH.ren hH hσ, size := h.size, hB := h.hB, nodup := h.nodup
          marks := fun d hd => by obtain ⟨r, h1, h2, h3, h4⟩ := h.marks d hd; exact ⟨r, h1, h2, h3, fun q => h4 (hav r q)⟩
          env := fun t x ht => by
            obtain ⟨h1, h2⟩ := hE t x ht
            obtain ⟨h3, _, h4⟩ := h.env t _ h1
            exact ⟨h3, h2, (h4.mono (av' := (C.ren σ).avoid H1) (fun b _ => hav b) (fun _ _ _ => rfl)).unren (ρ := C.ρ) x rfl⟩ }
def StepR.ren_left {U0 : Nat -> Prop} (h : StepR (C.ren σ) H1 U0 w C' H' w') (hH : ∀ i o, get H1 i = some o -> ∃ o', get H (σ i) = some o') (hσ : ∀ i, U0 i -> σ i = i) :
    StepR C H U0 w C' H' w' := by
  have hW : ∀ b, (C.ren σ).W H1 b -> C.W H b := fun b ⟨i, o, hi, hb⟩ => let ⟨o', h'⟩ := hH i o hi; ⟨σ i, o', h', hb⟩
  exact { os := h.os, tape := h.tape, output := h.output, size := h.size, keep := fun k hk hn => h.keep k hk (fun q => hn (hW k q)), wr := fun b hb => (h.wr b hb).imp (hW b) id, X := h.X, B := h.B
          ρ := fun i hi => (h.ρ i hi).trans (congrArg C.ρ (hσ i hi)) }
def sg (s : List (Nat × Nat)) : Nat -> Nat := fun i => (get s i).getD i
def aYh (σ : Nat -> Nat) (n1 : Nat) (E : Env) : Env -> Prop
  | [] => True
  | (t, x) :: r => get E t = some (x.ren σ) /\ x.bel (UU n1) /\ aYh σ n1 E r
def qV (σ : Nat -> Nat) (n1 : Nat) (H : Heap) : Heap -> Prop
  | [] => True
  | (i, o) :: r => get H (σ i) = some (o.ren σ) /\ UU n1 i /\ o.bel (UU n1) /\ qV σ n1 H r
def dS {α : Type} : ∀ {l : List (Nat × α)} {n : Nat} {x : α}, get l n = some x -> (n, x) ∈ l
  | [], _, _, h => by cases h
  | (k, y) :: r, n, x, h => by
    unfold Abs.get at h; split at h
    . rename_i e; subst e; cases h; exact A3
    exact A4 _ (dS h)
def aQw {σ : Nat -> Nat} {n1 : Nat} {E : Env} : ∀ {E1 : Env}, aYh σ n1 E E1 -> ∀ t x, (t, x) ∈ E1 -> get E t = some (x.ren σ) /\ x.bel (UU n1)
  | [], _, _, _, h => by cases h
  | (t, x) :: r, h, t', x', h' => by
    rcases A8.1 h' with e | e
    . cases e; exact ⟨h.1, h.2.1⟩
    exact aQw h.2.2 t' x' e
def mH {σ : Nat -> Nat} {n1 : Nat} {H : Heap} : ∀ {H1 : Heap}, qV σ n1 H H1 -> ∀ i o, (i, o) ∈ H1 -> get H (σ i) = some (o.ren σ) /\ UU n1 i /\ o.bel (UU n1)
  | [], _, _, _, h => by cases h
  | (t, x) :: r, h, t', x', h' => by
    rcases A8.1 h' with e | e
    . cases e; exact ⟨h.1, h.2.1, h.2.2.1⟩
    exact mH h.2.2.2 t' x' e
def vB {α : Type} {H1 : List (Nat × α)} (h : (H1.map fun p => σ p.1).Nodup) : ∀ i j oi oj, get H1 i = some oi -> get H1 j = some oj -> σ i = σ j -> i = j := by
  induction H1 with
  | nil => intro i j oi oj hi; cases hi
  | cons p r ih =>
    obtain ⟨k, x⟩ := p
    simp only [List.map_cons, C7] at h
    intro i j oi oj hi hj e; unfold Abs.get at hi hj
    by_cases h1 : k = i
    . by_cases h2 : k = j
      . omega
      rw [if_neg h2] at hj; subst h1
      exact absurd (A9.2 ⟨_, dS hj, e.symm⟩) h.1
    rw [if_neg h1] at hi
    by_cases h2 : k = j
    . subst h2
      exact absurd (A9.2 ⟨_, dS hi, e⟩) h.1
    rw [if_neg h2] at hj
    exact ih h.2 i j oi oj hi hj e
def bMd {n1 : Nat} (s : List (Nat × Nat)) (hn : n0 <= n1) (hE : aYh (sg s) n1 E E1) (hH : qV (sg s) n1 H H1) (hi : (H1.map fun p => sg s p.1).Nodup)
    (hs : ∀ p ∈ s, n0 <= p.1 /\ p.1 < 1000) (h : AWP P ro N n0 c Q E1 H1 n1) : AWP P ro N n0 c Q E H nx := by
  have hσ : ∀ i, UU n0 i -> sg s i = i := fun i hu => by
    unfold sg
    cases hg : get s i with
    | none => rfl
    | some j =>
      have := hs _ (dS hg)
      rcases hu with hu | hu <;> simp at this <;> omega
  intro C a w Qc _ hR hK
  refine h (C.ren (sg s)) a w Qc hn (hR.ren (fun i o hi' => mH hH i o (dS hi')) (vB hi) (fun t x ht => aQw hE t x (dS ht))) fun e E' H' nx' C' a' w' hn' hR' hs' hQ => ?_
  exact hK e E' H' nx' C' a' w' hn' hR' (hs'.ren_left (fun i o hi' => ⟨_, (mH hH i o (dS hi')).1⟩) hσ) hQ
end
end
section
variable [Globals]
variable {f n0 : Nat} {xs args : List AV} {c : Code} {nd : Heap}
structure FnT (P : Program) (f : Nat) (fn : Func) (c : Code) : Prop where
  at' : P.funcs[f]? = some fn
  body : fn.body = some c
  name : (fn.name == "runtime.NumGoroutine") = false
def FnT.run {P : Program} {fn : Func} (h : FnT P f fn c) (args : Array Value) (w : World) : (callFunc f args).run P w = .ok (.enter f args) w := by
  have := h.name
  simp only [beq_eq_false_iff_ne, ne_eq] at this
  simp [callFunc, Sem.run_bind, h.at', this, h.body]
def uE (P : Program) (f : Nat) (args : List AV) (nd : Heap) (n0 : Nat) (R : AV -> Heap -> Nat -> Prop) : Prop :=
  ∀ (C : Conc) (w : World) (vals : Array Value), RelH C nd (UU n0) w -> eB C.ρ (C.avoid nd) w.heap args vals -> aI (UU n0) args ->
    Calls P f vals w fun e w' => ∃ v r H' n' C', e = .returned v /\ n0 <= n' /\ R r H' n' /\ RelH C' H' (UU n') w' /\ StepR C nd (UU n0) w C' H' w' /\ Rep C'.ρ (C'.avoid H') w'.heap r v /\ r.bel (UU n')
def uE.mono {P : Program} {R R' : AV -> Heap -> Nat -> Prop} (h : uE P f args nd n0 R) (hR : ∀ r H n, R r H n -> R' r H n) : uE P f args nd n0 R' :=
  fun C w vals h1 h2 h3 => (h C w vals h1 h2 h3).mono fun e w' ⟨v, r, H', n', C', a1, a2, a3, a4⟩ => ⟨v, r, H', n', C', a1, a2, hR _ _ _ a3, a4⟩
def aK (P : Program) (f : Nat) (args : List AV) (nd : Heap) (n0 : Nat) (r : AV) : Prop := uE P f args nd n0 fun r' H' n' => r' = r /\ H' = nd /\ n' = n0
def vI (P : Program) (t : TypeId) : Option (Nat × Bool) :=
  match (P.info? t).map (·.size), (P.underlying t).map bQd with
  | some sz, some ag => some (sz, ag)
  | _, _ => none
def gM {P : Program} {t : TypeId} {sz : Nat} {ag : Bool} (h : vI P t = some (sz, ag)) : VarT P t sz ag := by
  unfold vI at h; split at h
  . rename_i h1 h2
    cases h
    exact ⟨h1, h2⟩
  cases h
def uL (P : Program) (E : Env) (H : Heap) : List ResultVar -> Option (List AV)
  | [] => some []
  | .tmp t :: r => match get E t, uL P E H r with
    | some x, some xs => some (x :: xs)
    | _, _ => none
  | .cell t ty :: r => match get E t, vI P ty with
    | some (.ptr i off), some (sz, ag) => match get H i with
      | some (.cells _ cs) => match eH (.agg cs) off sz ag, uL P E H r with
        | some x, some xs => some (x :: xs)
        | _, _ => none
      | _ => none
    | _, _ => none
def qW : List AV -> AV
  | [x] => x
  | xs => .tup xs
def aFl (tmps : Array Value) : ResultVar -> Sem Value
  | .tmp t => pure (tmps.getD t undef)
  | .cell a t => do loadVar t (<- asAddr (tmps.getD a undef))
section
variable {P : Program} {N : Nat} {E : Env} {H : Heap} {U : Nat -> Prop} {C : Conc} {a : Act} {w : World}
def aLg (hR : Rel C N E H U a w) : ∀ (rs : List ResultVar) (xs : List AV), uL P E H rs = some xs -> ∃ vs : List Value, (rs.mapM (aFl a.tmps)).run P w = .ok vs w /\ eB C.ρ (C.avoid H) w.heap xs vs.toArray /\ aI U xs
  | [], xs, h => by simp only [uL, B9] at h; subst h; exact ⟨[], rfl, ⟨rfl, fun j x hj => by simp at hj⟩, trivial⟩
  | .tmp t :: r, xs, h => by
    simp only [uL] at h
    split at h
    . rename_i x ys hx hys
      cases h
      obtain ⟨vs, h1, h2, h3⟩ := aLg hR r ys hys
      obtain ⟨_, h4, h5⟩ := hR.env t x hx
      refine ⟨a.tmps.getD t undef :: vs, ?_, ⟨by simp [<- h2.1], fun j y hj => ?_⟩, ⟨h4, h3⟩⟩
      . simp only [List.mapM_cons, aFl, Sem.run_bind, Sem.run_pure, Result.andThen_ok, h1]
      cases j with
      | zero => simp at hj; subst hj; simpa using h5
      | succ j => simpa [B5] using h2.2 j y (by simpa using hj)
    cases h
  | .cell t ty :: r, xs, h => by
    simp only [uL] at h
    split at h
    . rename_i i off sz ag ht hv
      split at h
      . rename_i t0 cs hH
        split at h
        . rename_i x ys hx hys
          cases h
          obtain ⟨vs, h1, h2, h3⟩ := aLg hR r ys hys
          obtain ⟨_, _, h5⟩ := hR.env t _ ht
          obtain ⟨b, us, hval, _, hb, hrep⟩ := hR.obj i _ hH
          obtain ⟨hr1, hr2, hr3⟩ := pF (v := .agg us) (.agg cs us hrep.1 hrep.2) C.one (U := U) (hR.objb i _ hH).2 hx
          have hev := aBi h5 (b := b) (by rw [hval]; rfl)
          have hl := mX (P := P) (w := w) (gM hv) hb (v := .agg us) (o := off) (off := off) (fun k _ => rfl) hr3 (fun e => by rw [nV hx e]; omega)
          refine ⟨iX (.agg us) off sz ag :: vs, ?_, ⟨by simp [<- h2.1], fun j y hj => ?_⟩, ⟨hr2, h3⟩⟩
          . simp only [List.mapM_cons, aFl, hev, asAddr, Sem.run_bind, Sem.run_pure, Result.andThen_ok, hl, h1]
          cases j with
          | zero => simp at hj; subst hj; simpa using hr1
          | succ j => simpa [B5] using h2.2 j y (by simpa using hj)
        cases h
      cases h
    cases h
def bIm {ρ : Nat -> Value} {av : Nat -> Prop} {hp : Array Obj} {vs : Array Value} (h : eB ρ av hp xs vs) : Rep ρ av hp (qW xs) (if h : vs.size = 1 then vs[0] else .tuple vs) := by
  match xs, h with
  | [x], h =>
    have h1 : vs.size = 1 := h.1
    rw [dif_pos h1]
    have := h.2 0 x rfl
    simpa [B5, h1, qW] using this
  | [], h =>
    have h1 : ¬ vs.size = 1 := by rw [h.1]; simp
    rw [dif_neg h1]
    exact .tup _ _ h.1 h.2
  | x :: y :: r, h =>
    have h1 : ¬ vs.size = 1 := by rw [h.1]; simp
    rw [dif_neg h1]
    exact .tup _ _ h.1 h.2
def bLk (h : aI U xs) : (qW xs).bel U := by
  match xs, h with
  | [x], h => exact h.1
  | [], h => exact h
  | x :: y :: r, h => exact h
def aVc (hR : Rel C N E H U a w) {fn : Func} (h : uL P E H fn.results.toList = some xs) : ∃ v, (results fn a.tmps).run P w = .ok v w /\ Rep C.ρ (C.avoid H) w.heap (qW xs) v /\ (qW xs).bel U := by
  obtain ⟨vs, h1, h2, h3⟩ := aLg hR _ xs h
  refine ⟨if h : vs.toArray.size = 1 then vs.toArray[0] else .tuple vs.toArray, ?_, bIm h2, bLk h3⟩
  have hm : (fn.results.mapM (aFl a.tmps)).run P w = .ok vs.toArray w := by
    rw [<- Array.toList_mapM] at h1; rw [Sem.run_map] at h1
    generalize hg : (fn.results.mapM (aFl a.tmps)).run P w = q at h1 ⊢
    cases q with
    | ok x w2 => simp only [Result.andThen_ok, Result.ok.injEq] at h1; obtain ⟨h7, rfl⟩ := h1; rw [<- h7]
    | halt x w2 => simp [Result.andThen] at h1
  have he : results fn a.tmps = (do let vs <- fn.results.mapM (aFl a.tmps); pure (if h : vs.size = 1 then vs[0] else .tuple vs)) := by
    unfold results
    congr 1
  rw [he, Sem.run_bind, hm]; rfl
structure Marked (B : Nat) (w w' : World) : Prop where
  os : w'.os = w.os
  tape : w'.tape = w.tape
  output : w'.output = w.output
  size : w'.heap.size = w.heap.size
  keep : ∀ b, b < B -> w'.heap[b]? = w.heap[b]?
def Rel.unmark {tmps : Array Value} {d : Deferred} {ds : List Deferred} (hR : Rel C N E H U { tmps := tmps, defers := d :: ds } w) : ∃ r, d.target = .collected r /\ (Instr.takeDeferred r).run P w = .ok [] (w.putObj r (.deferred none)) /\ C.B <= r /\
    Rel C N E H U { tmps := tmps, defers := ds } (w.putObj r (.deferred none)) := by
  obtain ⟨r, hd, hB, hh, hav⟩ := hR.marks d A3
  refine ⟨r, by rw [hd], run_takeDeferred hh, hB, ?_⟩
  have hlt := ltB hh
  have hother : ∀ k, k ≠ r -> (w.putObj r (.deferred none)).heap[k]? = w.heap[k]? := fun k hk => by
    show (w.heap.setIfInBounds r _)[k]? = _
    rw [H3, if_neg (fun e => hk e.symm)]
  have hsz : (w.putObj r (.deferred none)).heap.size = w.heap.size := by show (w.heap.setIfInBounds r _).size = _; simp
  have heq : ∀ b cells t fr, w.heap[b]? = some (.cells cells t fr) -> ¬ C.avoid H b -> (w.putObj r (.deferred none)).heap[b]? = w.heap[b]? := fun b cells t fr hb _ => hother b (fun e => by rw [e, hh] at hb; cases hb)
  exact {
    obj := fun i o hi => (hR.obj i o hi).mono' (fun _ _ h => h) heq (fun b hb => hother b (fun e => hav (.inr ⟨i, o, hi, e ▸ hb⟩)))
    apart := hR.apart
    xapart := hR.xapart
    xlt := fun b hb => by rw [hsz]; exact hR.xlt b hb
    gl := hR.toRelH.glK (fun _ _ h => h) heq
    objb := hR.objb
    size := hR.size
    hB := by rw [hsz]; exact hR.hB
    nodup := (C7.1 hR.nodup).2
    marks := fun d' hd' => by
      obtain ⟨r', h1, h2, h3, h4⟩ := hR.marks d' (A4 _ hd')
      refine ⟨r', h1, h2, ?_, h4⟩
      rw [hother r' (fun e => ?_)]
      . exact h3
      subst e
      exact (C7.1 hR.nodup).1 (by rw [hd, <- h1]; exact hd')
    env := fun t x ht => by
      obtain ⟨h1, h2, h3⟩ := hR.env t x ht
      exact ⟨h1, h2, h3.mono' (fun _ _ h => h) heq⟩ }
def aDl {F : Fence} {n : Nat} {fn : Func} {tmps : Array Value} {R : Ending -> World -> Prop} : ∀ (ds : List Deferred) (w : World), Rel C N E H U { tmps := tmps, defers := ds } w ->
    (∀ w', Rel C N E H U { tmps := tmps, defers := [] } w' -> Marked C.B w w' -> ∃ v, (results fn tmps).run P w' = .ok v w' /\ R (.returned v) w') -> LeavesInM F n P fn tmps R ds .returning w
  | [], w, hR, hk => hk w hR ⟨rfl, rfl, rfl, rfl, fun _ _ => rfl⟩
  | d :: ds, w, hR, hk => by
    obtain ⟨r, h1, h2, h3, h4⟩ := hR.unmark (P := P)
    refine ⟨fun h => (by cases h), .inl ⟨r, _, h1, h2, aDl ds _ h4 fun w' hw' hm => hk w' hw' ⟨hm.os, hm.tape, hm.output, ?_, fun b hb => ?_⟩⟩⟩
    . rw [hm.size]; show (w.heap.setIfInBounds r _).size = _; simp
    rw [hm.keep b hb]
    show (w.heap.setIfInBounds r _)[b]? = _
    rw [H3, if_neg og]
def eE : Nat -> List AV -> Env
  | _, [] => []
  | k, x :: xs => (k, x) :: eE (k + 1) xs
def aRw : ∀ (xs : List AV) (k t : Nat) (x : AV), get (eE k xs) t = some x -> k <= t /\ xs[t - k]? = some x
  | [], _, _, _, h => by cases h
  | y :: ys, k, t, x, h => by
    unfold eE Abs.get at h; split at h
    . rename_i e; subst e; cases h; exact ⟨A0 _, by simp⟩
    obtain ⟨h1, h2⟩ := aRw ys (k + 1) t x h
    refine ⟨og, ?_⟩
    rw [show t - k = (t - (k + 1)) + 1 by omega, List.getElem?_cons_succ]; exact h2
def bRr (P : Program) (vs : List ResultVar) (R : AV -> Heap -> Nat -> Prop) : AQ := fun e E H nx =>
  match e with
  | .ret => ∃ rs, uL P E H vs = some rs /\ R (qW rs) H nx
  | .normal => ∃ rs, uL P E H vs = some rs /\ R (qW rs) H nx
  | _ => False
def aRy {fn : Func} {R : AV -> Heap -> Nat -> Prop} {vs : List ResultVar} (hf : FnT P f fn c) (hN : fn.ntmps = N) (hv : fn.results.toList = vs) (hl : args.length <= N)
    (h : AWP P none N n0 c (bRr P vs R) (eE 0 args) nd n0) : uE P f args nd n0 R := by
  subst hv; intro C w vals hRH hargs hb
  let C₁ : Conc := { C with B := w.heap.size }
  refine bLg (n := 0) (callsIn_of_wp_marks hf.at' hf.body (bQz none f) ?_ rfl)
  have hsz : vals.size = args.length := hargs.1
  have hget : ∀ t, t < vals.size -> (vals ++ Array.replicate (fn.ntmps - vals.size) undef).getD t undef = vals.getD t undef := fun t ht => by
    simp [B5, Array.getElem?_append, ht]
  have hR0 : Rel C₁ N (eE 0 args) nd (UU n0) { tmps := vals ++ Array.replicate (fn.ntmps - vals.size) undef, defers := [] } w :=
    { obj := hRH.obj, apart := hRH.apart, xapart := hRH.xapart, xlt := hRH.xlt, objb := hRH.objb, gl := hRH.gl
      size := by simp; omega
      hB := A0 _
      nodup := E5
      marks := fun d hd => by cases hd
      env := fun t x ht => by
        obtain ⟨_, h2⟩ := aRw args 0 t x ht
        rw [Nat.sub_zero] at h2
        have hlt := (B2.1 h2).1
        refine ⟨og, bG hb h2, ?_⟩
        show Rep C.ρ (C.avoid nd) w.heap x ((vals ++ Array.replicate (fn.ntmps - vals.size) undef).getD t undef)
        rw [hget t og]
        exact hargs.2 t x h2 }
  have key : ∀ (E' : Env) (H' : Heap) (nx' : Nat) (C' : Conc) (a' : Act) (w' : World), n0 <= nx' -> Rel C' N E' H' (UU nx') a' w' -> StepR C₁ nd (UU n0) w C' H' w' -> (∃ rs, uL P E' H' fn.results.toList = some rs /\ R (qW rs) H' nx') ->
      LeavesInM (FW none) 0 P fn a'.tmps (fun e w' => ∃ v r H' n' C', e = .returned v /\ n0 <= n' /\ R r H' n' /\ RelH C' H' (UU n') w' /\ StepR C nd (UU n0) w C' H' w' /\ Rep C'.ρ (C'.avoid H') w'.heap r v /\ r.bel (UU n')) a'.defers .returning w' := by
    intro E' H' nx' C' a' w' hn' hR' hs ⟨rs, hrs, hRR⟩
    refine aDl a'.defers w' hR' fun w2 hR2 hm => ?_
    obtain ⟨v, h1, h2, h3⟩ := aVc (P := P) hR2 hrs
    have hB : C'.B = w.heap.size := hs.B
    refine ⟨v, h1, v, qW rs, H', nx', { C' with B := C.B }, rfl, hn', hRR, ?_, ?_, h2, h3⟩
    . exact { obj := hR2.obj, apart := hR2.apart, xapart := hR2.xapart, xlt := hR2.xlt, objb := hR2.objb, gl := hR2.gl }
    exact { os := hm.os.trans hs.os, tape := hm.tape.trans hs.tape, output := hm.output.trans hs.output
            size := by have := hs.size; rw [hm.size]; exact this
            keep := fun k hk hn => (hm.keep k og).trans (hs.keep k hk hn)
            wr := hs.wr, X := hs.X, B := rfl, ρ := hs.ρ }
  refine h C₁ _ w _ (A0 _) hR0 fun e E' H' nx' C' a' w' hn' hR' hs hQ => ?_
  cases e with
  | normal => exact key E' H' nx' C' a' w' hn' hR' hs hQ
  | ret => exact key E' H' nx' C' a' w' hn' hR' hs hQ
  | _ => exact hQ.elim
end
end
section
variable [Globals]
variable {p x y : AV} {t : TypeId} {op : Op} {nx e sz : Nat}
structure Ev where
  ok : Prop
  val : AV
  ps : Heap
  nw : Nat
def yA : List AV -> List Nat
  | [] => []
  | .ref i :: r => i :: yA r
  | _ :: r => yA r
def nL : AV -> List Nat
  | .ptr i _ => [i]
  | .ep i _ _ _ => [i]
  | .ref i => [i]
  | .agg cs => yA cs
  | _ => []
abbrev Look := Nat -> Option AObj
def jB : AV -> Option (Prop × Bool)
  | .raw (.bool b) => some (True, b)
  | .when c (.raw (.bool b)) => some (c, b)
  | _ => none
def pk (b p q : Bool) : Bool := if b then p else q
def bMm (b q : Bool) : pk b true q = (b || q) := by cases b <;> rfl
def bLe (b p : Bool) : pk b p false = (b && p) := by cases b <;> simp [pk]
def bBk (c x y : AV) : Option Ev :=
  match c, jB x, jB y with
  | .raw (.bool b), some (c1, p), some (c2, q) => some ⟨(b = true -> c1) /\ (b = false -> c2), .raw (.bool (pk b p q)), [], 0⟩
  | _, _, _ => none
def aFk (P : Program) (t : TypeId) (p : AV) (h : Look) : Option Ev :=
  match vI P t with
  | some (sz, ag) =>
    match p with
    | .ptr i off => match h i with
      | some (.cells _ cs) => (eH (.agg cs) off sz ag).map fun r => ⟨True, r, [], 0⟩
      | _ => none
    | .ep i esz j off => match h i with
      | some (.row _ esz' xs) => if esz = esz' then (match xs[j]? with
        | some el => match eH el off sz ag with
          | some r => if r.free = true then some ⟨True, r, [], 0⟩ else none
          | none => none
        | none => none) else none
      | _ => none
    | .fp esz xs j off => match xs[j]? with
      | some el => (eH el off sz ag).map fun r => ⟨True, r, [], 0⟩
      | none => none
    | _ => none
  | none => none
def zH (P : Program) (t : TypeId) (p y : AV) (h : Look) : Option Ev :=
  match vI P t, vT y with
  | some (sz, _), some ys =>
    match p with
    | .ptr i off => match h i with
      | some (.cells t0 cs) => if ys.length = sz /\ off + sz <= cs.length then some ⟨True, .raw undef, [(i, .cells t0 (bM cs off ys))], 0⟩ else none
      | _ => none
    | .ep i esz j off => match h i with
      | some (.row e esz' xs) => if esz' = esz /\ y.solid = true /\ y.elem = true /\ y.width = sz /\ off + sz <= esz /\ (gB h y).2.Nodup /\ i ∉ (gB h y).2 then (match xs[j]? with
        | some el => (bCh el off esz sz (gB h y).1).map fun el' => ⟨True, .raw undef, (i, .row e esz (xs.set j el')) :: cA (gB h y).2, 0⟩
        | none => none) else none
      | _ => none
    | _ => none
  | _, _ => none
def aTl (P : Program) (t : TypeId) (p : AV) (j : Nat) : Option Ev :=
  match fI P t j with
  | some (off, some sz, some _) => if 0 < sz then (bAk p off).map fun r => ⟨True, r, [], 0⟩ else none
  | _ => none
def mP (P : Program) (t : TypeId) (x y : AV) (h : Look) : Option Ev :=
  match cL P t, y with
  | some (_, some (sz, _)), .raw (.int _ n) =>
    match x with
    | .sl sz' xs => if sz' = sz then some ⟨0 <= n /\ n < xs.length, .fp sz xs n.toNat 0, [], 0⟩ else none
    | .ref i => match h i with
      | some (.row _ sz' xs) => if sz' = sz then some ⟨0 <= n /\ n < xs.length, .ep i sz n.toNat 0, [], 0⟩ else none
      | _ => none
    | _ => none
  | _, _ => none
def aSq (P : Program) (t : TypeId) (x y : AV) : Option Ev :=
  match x, y with
  | .raw (.string s), .raw (.int _ n) => if aGq P t = true then some ⟨0 <= n /\ n < s.size, .raw (.int .u8 (aS s n.toNat)), [], 0⟩ else none
  | _, _ => none
def bPz (op : UnOp) (x : AV) : Option Ev :=
  match op, x with
  | .not, .raw (.bool b) => some ⟨True, .raw (.bool (!b)), [], 0⟩
  | .neg, .raw (.int k n) => some ⟨True, .raw (.int k (k.wrap (-n))), [], 0⟩
  | _, _ => none
def bHa (P : Program) (op : BinOp) (t : TypeId) (x y : AV) : Option Ev :=
  match x, y with
  | .raw (.int k n), .raw (.int k' m) => match bNi op k n m with
    | some v => some ⟨0 <= m, .raw v, [], 0⟩
    | none => if k = k' then (iop op k n m).map fun v => ⟨True, .raw v, [], 0⟩ else none
  | .raw (.bool n), .raw (.bool m) => if bJz P t = true then (bop op n m).map fun v => ⟨True, .raw (.bool v), [], 0⟩ else none
  | .raw (.string n), .raw (.string m) => match op with
    | .add => some ⟨n.size + m.size <= 9223372036854775807, .raw (.string (n ++ m)), [], 0⟩
    | op => (sop op n m).map fun v => ⟨True, .raw v, [], 0⟩
  | _, _ => none
def bHn (P : Program) (op : BinOp) (t : TypeId) (x : AV) : Option Ev :=
  match bDe x with
  | some b => match aUo op b with
    | some r => if aWx P t = true then some ⟨True, .raw (.bool r), [], 0⟩ else none
    | none => none
  | none => none
def cX (P : Program) (t : TypeId) : Option (List (Nat × Nat)) := (vZ P t).bind fun l => l.mapM fun p => p.2.map fun n => (p.1, n)
def aAf : ∀ (l : List (Nat × Option Nat)) (tab : List (Nat × Nat)), (l.mapM fun p => p.2.map fun n => (p.1, n)) = some tab -> l = tab.map fun p => (p.1, some p.2)
  | [], tab, h => by simp at h; subst h; rfl
  | (a, none) :: l, tab, h => by simp at h
  | (a, some n) :: l, tab, h => by
    simp only [List.mapM_cons, Option.map_some, Option.pure_def, Option.bind_eq_bind, Option.bind_some] at h
    obtain ⟨r, hr, h⟩ := G9.1 h
    cases h; rw [List.map_cons, <- aAf l r hr]
def aLm {P : Program} {tab : List (Nat × Nat)} (h : cX P t = some tab) : vZ P t = some (tab.map fun p => (p.1, some p.2)) := by
  obtain ⟨l, hl, h⟩ := G9.1 h
  rw [hl, aAf l tab h]
def aUj (e : Operand -> Option AV) : List (Nat × Operand) -> Option (List (Nat × AV))
  | [] => some []
  | (i, x) :: r => match e x, aUj e r with
    | some v, some vs => some ((i, v) :: vs)
    | _, _ => none
def bBz (E : Env) : ∀ l, aUj (opv E) l = qS E l
  | [] => rfl
  | (i, x) :: r => by
    rw [aUj, qS, bBz E r]
    all_goals (cases opv E x <;> cases qS E r <;> rfl)
def aEn (e : Operand -> Option AV) : List (Nat × Operand) -> Option (List AV)
  | [] => some []
  | (_, x) :: r => match e x, aEn e r with
    | some v, some vs => some (v :: vs)
    | _, _ => none
def aKd : Nat -> List (Nat × Operand) -> Bool
  | _, [] => true
  | k, (i, _) :: r => i == k && aKd (k + 1) r
def aGv : ∀ (l : List (Nat × Operand)) (k : Nat), aKd k l = true -> l = aQc k (l.map (·.2))
  | [], _, _ => rfl
  | (i, x) :: r, k, h => by
    simp only [aKd, B7, beq_iff_eq] at h
    rw [List.map_cons, aQc, <- aGv r (k + 1) h.2, h.1]
def aQn {e : Operand -> Option AV} : ∀ (l : List (Nat × Operand)) (vs : List AV), aEn e l = some vs -> (l.map (·.2)).map e = vs.map some
  | [], vs, h => by simp only [aEn, B9] at h; subst h; rfl
  | (i, x) :: r, vs, h => by
    simp only [aEn] at h
    split at h
    . rename_i v us hv hus
      cases h
      simp [hv, aQn r us hus]
    cases h
def aUh (P : Program) (t : TypeId) (ps : List (Nat × AV)) : Option Ev :=
  match cX P t, zC P t with
  | some tab, some zs => (aCm (fun i => tab[i]?) (zs.map .raw) ps).map fun rs => ⟨True, .agg rs, [], 0⟩
  | _, _ => none
def rK (P : Program) (t : TypeId) (len : Nat) (dA : List (Nat × Operand)) (ps : List AV) (h : Look) (nx : Nat) : Option Ev :=
  match cL P t with
  | some (e, some (sz, _)) => match zC P e with
    | some _ => if aKd 0 dA = true /\ dA.length = len /\ ps.all (AV.fitsEl sz) = true /\ 0 < sz /\ len * sz <= 16777216 /\ (bH h ps).2.Nodup then
        some ⟨True, .ref nx, (nx, .row e sz (bH h ps).1) :: cA (bH h ps).2, 1⟩ else none
    | none => none
  | _ => none
def xF (P : Program) (t : TypeId) (x y : AV) (nx : Nat) : Option Ev :=
  match cL P t, x, y with
  | some (e, some (sz, by')), .raw (.int _ n), .raw (.int _ m) => match zE P e with
    | some zel => if zel.width = sz /\ 0 < sz then some ⟨0 <= n /\ n <= m /\ (by' : Int) * m <= 281474976710656 /\ m.toNat <= maxLen, .ref nx, [(nx, .row e sz (List.replicate n.toNat zel))], 1⟩ else none
    | none => none
  | _, _, _ => none
def xX (d : Int) : Option (Option AV) -> Option Int
  | none => some d
  | some (some (.raw (.int _ n))) => some n
  | _ => none
def aJt (P : Program) (t : TypeId) (x : AV) (lo hi : Option (Option AV)) : Option Ev :=
  match cL P t, x with
  | some (_, some (sz, _)), .sl sz' xs => match xX 0 lo, xX xs.length hi with
    | some l, some h => if sz' = sz then some ⟨0 <= l /\ l <= h /\ h <= xs.length, .sl sz ((xs.take h.toNat).drop l.toNat), [], 0⟩ else none
    | _, _ => none
  | _, _ => none
def aSr (P : Program) (t : TypeId) (x : AV) (lo hi : Option (Option AV)) : Option Ev :=
  match x with
  | .raw (.string s) => if aGq P t = true then (match xX 0 lo, xX s.size hi with
    | some l, some h => some ⟨0 <= l /\ l <= h /\ h <= s.size, .raw (.string (s.extract l.toNat h.toNat)), [], 0⟩
    | _, _ => none) else none
  | x => aJt P t x lo hi
def aCa (e sz i : Nat) (h : Look) : Option (List AV × List Nat) :=
  match h i with
  | some (.row e' sz' xs) => if e' = e /\ sz' = sz then some (xs, [i]) else none
  | _ => none
def bBg (sz : Nat) : AV -> Option (List AV × List Nat)
  | .raw (.slice none 0 0) => some ([], [])
  | _ => none
def aSx (sz : Nat) : AV -> Option (List AV × List Nat)
  | .raw (.slice none 0 0) => some ([], [])
  | .sl sz' ys => if sz' = sz then some (ys, []) else none
  | _ => none
def bGo (e sz : Nat) (h : Look) (x : AV) : Option (List AV × List Nat) :=
  match x with
  | .ref i => aCa e sz i h
  | x => bBg sz x
def bFh (e sz : Nat) (h : Look) (x : AV) : Option (List AV × List Nat) :=
  match x with
  | .ref i => aCa e sz i h
  | x => aSx sz x
def aCx (P : Program) (t : TypeId) (x y : AV) (h : Look) (nx : Nat) : Option Ev :=
  match cL P t with
  | some (e, some (sz, by')) => match zC P e, bGo e sz h x, bFh e sz h y with
    | some zs, some (xs, k1), some (ys, k2) => if zs.length = sz /\ 0 < sz /\ (∀ i ∈ k1, i ∉ k2) then
        some ⟨ys.all AV.elem = true /\ xs.length + ys.length <= maxLen /\ (xs.length + ys.length) * by' <= 140737488355328, .ref nx, (nx, .row e sz (xs ++ ys)) :: cA (k1 ++ k2), 1⟩ else none
    | _, _, _ => none
  | _ => none
def aSd (P : Program) (e : Operand -> Option AV) (h : Look) (nx : Nat) (c : Call) : Option Ev :=
  match c.callee, c.args.toList, c.argTypes.toList with
  | .builtin .len, [x], [t] => match e x with
    | some p => (aMr P t p h).map fun (n : Nat) => ⟨True, .raw (.int .i64 (n : Int)), [], 0⟩
    | none => none
  | .builtin .append, [x, y], [t, t'] => match e x, e y with
    | some p, some q => if t' = t then aCx P t p q h nx else none
    | _, _ => none
  | .builtin b, [x, y], _ => match e x, e y with
    | some p, some q => (bMz b p q).map fun v => ⟨True, .raw v, [], 0⟩
    | _, _ => none
  | _, _, _ => none
def aNf (e : Operand -> Option AV) : List Operand -> Option (List AV)
  | [] => some []
  | x :: r => match e x, aNf e r with
    | some v, some vs => some (v :: vs)
    | _, _ => none
def aGi {e : Operand -> Option AV} : ∀ (l : List Operand) (vs : List AV), aNf e l = some vs -> l.map e = vs.map some
  | [], vs, h => by simp only [aNf, B9] at h; subst h; rfl
  | x :: r, vs, h => by
    simp only [aNf] at h
    split at h
    . rename_i v us hv hus
      cases h
      simp [hv, aGi r us hus]
    cases h
def aBo {e e' : Operand -> Option AV} : ∀ {l : List Operand}, (∀ x ∈ l, e x = e' x) -> aNf e l = aNf e' l
  | [], _ => rfl
  | x :: r, h => by rw [aNf, aNf, h x A3, aBo fun y hy => h y (A4 _ hy)]
def wG (P : Program) (e : Operand -> Option AV) (h : Look) (nx : Nat) : Op -> Option Ev
  | .move x => (e x).map fun r => ⟨True, r, [], 0⟩
  | .assign x => (e x).map fun r => ⟨True, r, [], 0⟩
  | .pick c x y => match e c, e x, e y with
    | some c', some x', some y' => bBk c' x' y'
    | _, _, _ => none
  | .load t x => match e x with
    | some p => aFk P t p h
    | none => none
  | .store t x y => match e x, e y with
    | some p, some v => zH P t p v h
    | _, _ => none
  | .fieldAddr t x j => match e x with
    | some p => aTl P t p j
    | none => none
  | .indexAddr t x y => match e x, e y with
    | some p, some v => mP P t p v h
    | _, _ => none
  | .index t x y => match e x, e y with
    | some p, some v => aSq P t p v
    | _, _ => none
  | .nilCheck x => match e x with
    | some p => if bDq p = true then some ⟨True, p, [], 0⟩ else none
    | none => none
  | .extract x i => match e x with
    | some (.tup vs) => (vs[i]?).map fun r => ⟨True, r, [], 0⟩
    | _ => none
  | .makeInterface t x => match e x with
    | some p => if P.concrete t = true then some ⟨True, .iface t p, [], 0⟩ else none
    | none => none
  | .unOp op _ x => match e x with
    | some p => bPz op p
    | none => none
  | .binOp op t x y _ => match y with
    | .const .nilIface => match e x with
      | some p => bHn P op t p
      | none => none
    | y => match e x, e y with
      | some p, some v => bHa P op t p v
      | _, _ => none
  | .alloc t => match zC P t with
    | some zs => some ⟨True, .ptr nx 0, [(nx, .cells t (zs.map .raw))], 1⟩
    | none => none
  | .box t x => match e x with
    | some p => (vT p).map fun ys => ⟨True, .ptr nx 0, [(nx, .cells t ys)], 1⟩
    | none => none
  | .build t dA => match aUj e dA.toList with
    | some ps => aUh P t ps
    | none => none
  | .buildSlice t len dA => match aEn e dA.toList with
    | some ps => rK P t len dA.toList ps h nx
    | none => none
  | .makeSlice t x y => match e x, e y with
    | some p, some v => xF P t p v nx
    | _, _ => none
  | .slice t x lo hi mx => match e x, mx with
    | some p, none => aSr P t p (lo.map e) (hi.map e)
    | _, _ => none
  | .call c => aSd P e h nx c
  | .makeMap t r => match r, mC P t with
    | none, some (kt, et) => some ⟨True, .ref nx, [(nx, .map kt et [])], 1⟩
    | _, _ => none
  | .makeFunc f first cap => match aNf e first.toList, aNf e cap.toList with
    | some as, some bs => some ⟨True, .fn f as bs, [], 0⟩
    | _, _ => none
  | .convert s t x => match e x with
    | some (.raw (.int _ n)) => if (gE P s).isSome = true then (gE P t).map fun k => ⟨True, .raw (.int k (k.wrap n)), [], 0⟩ else none
    | _ => none
  | .field t x j => match e x, fI P t j with
    | some p, some (off, some sz, some ag) => if p.notAgg = false then (eH p off sz ag).map fun r => ⟨True, r, [], 0⟩ else none
    | _, _ => none
  | _ => none
def sR (U : Nat -> Prop) (nx nw : Nat) : Nat -> Prop := fun j => U j ∨ (nx <= j /\ j < nx + nw)
def aU0 (U : Nat -> Prop) (nx : Nat) : sR U nx 0 = U := by
  funext j
  exact propext ⟨fun h => h.elim id (fun h => by omega), .inl⟩
def gO (U : Nat -> Prop) (nx : Nat) : sR U nx 1 = fun j => U j ∨ j = nx := by
  funext j
  exact propext ⟨fun h => h.imp id (fun h => by omega), fun h => h.imp id (fun h => by omega)⟩
def aDh (n nw : Nat) : sR (UU n) n nw = UU (n + nw) := by
  funext j
  refine propext ⟨?_, ?_⟩
  . rintro ((h | h) | h)
    . exact .inl og
    . exact .inr h
    exact .inl og
  rintro (h | h)
  . rcases Nat.lt_or_ge j n with h1 | h1
    . exact .inl (.inl h1)
    exact .inr ⟨h1, h⟩
  exact .inl (.inr h)
section
variable {P : Program} {ro : Option Nat} {N : Nat} {o : Oper} {E : Env} {H : Heap} {U : Nat -> Prop}
def aGh {ρ : Nat -> Value} {av : Nat -> Prop} {hp : Array Obj} {c : Prop} {p : Bool} {v : Value} (h : jB x = some (c, p)) (hr : Rep ρ av hp x v) (hc : c) : v = .bool p := by
  cases x with
  | raw u =>
    cases hr
    cases v <;> simp [jB] at h
    rw [h.2]
  | when c' y =>
    cases hr with
    | when _ _ _ hh _ =>
      cases y <;> simp [jB] at h
      rename_i u
      cases u <;> simp [jB] at h
      have := hh (by rw [h.1]; exact hc)
      cases this; rw [h.2]
  | _ => simp [jB] at h
def bGa {c x y : Operand} {b p q : Bool} {c1 c2 : Prop} {x' y' : AV} (ho : o.op = .pick c x y) (hN : oD o N) (hc : opv E c = some (.raw (.bool b))) (hx : opv E x = some x') (hy : opv E y = some y')
    (h1 : jB x' = some (c1, p)) (h2 : jB y' = some (c2, q)) (k1 : b = true -> c1) (k2 : b = false -> c2) : OpT P ro N o E H U (aU E o.dst (.raw (.bool (pk b p q)))) H U := by
  refine aT (by simp [ho, Op.noDefer]) hN fun C a w hR => ?_
  obtain ⟨r1, _⟩ := hR.opv hx
  obtain ⟨r2, _⟩ := hR.opv hy
  obtain ⟨r3, _⟩ := hR.opv hc
  have hv : a.eval c = .bool b := by generalize a.eval c = v at r3; cases r3; rfl
  refine ⟨trivial, .bool (pk b p q), ?_, .raw _⟩
  cases b with
  | true =>
    have := aGh h1 r1 (k1 rfl)
    simp [execOp, ho, hv, asBool, this, pk]
  | false =>
    have := aGh h2 r2 (k2 rfl)
    simp [execOp, ho, hv, asBool, this, pk]
def bAb {r : Ev} (ho : o.op = op) (hN : oD o N) (h : wG P (opv E) (get H) nx op = some r) (hok : r.ok) (hnx : r.nw ≠ 0 -> ¬ U nx) :
    (r.nw = 0 ∨ r.nw = 1) /\ OpT P ro N o E H U (aU E o.dst r.val) (over H r.ps) (sR U nx r.nw) := by
  cases op <;> simp only [wG, reduceCtorEq] at h
  case move x => obtain ⟨p, hp, rfl⟩ := B3.1 h; exact ⟨.inl rfl, by rw [aU0]; exact aZk (.inl ho) hp hN⟩
  case assign x => obtain ⟨p, hp, rfl⟩ := B3.1 h; exact ⟨.inl rfl, by rw [aU0]; exact aZk (.inr ho) hp hN⟩
  case pick c x y =>
    split at h
    . rename_i c' x' y' hc hx hy
      unfold bBk at h; split at h
      . rename_i b c1 p c2 q hs1 hs2
        cases h
        exact ⟨.inl rfl, by rw [aU0]; exact bGa ho hN hc hx hy hs1 hs2 hok.1 hok.2⟩
      cases h
    cases h
  case load t x =>
    split at h
    . rename_i p hx
      unfold aFk at h; split at h
      . rename_i sz ag hv
        split at h
        . split at h
          . rename_i hH
            obtain ⟨r', hr, rfl⟩ := B3.1 h
            exact ⟨.inl rfl, by rw [aU0]; exact aNe ho hN (gM hv) hx hH hr⟩
          cases h
        . split at h
          . rename_i hH
            split at h
            . rename_i he
              subst he; split at h
              . rename_i hj
                split at h
                . rename_i hr
                  split at h
                  . rename_i hf
                    cases h
                    exact ⟨.inl rfl, by rw [aU0]; exact aTx ho hN (gM hv) hx hH hj hr hf⟩
                  cases h
                cases h
              cases h
            cases h
          cases h
        . split at h
          . rename_i hj
            obtain ⟨r', hr, rfl⟩ := B3.1 h
            exact ⟨.inl rfl, by rw [aU0]; exact aZi ho hN (gM hv) hx hj hr⟩
          cases h
        cases h
      cases h
    cases h
  case store t x y =>
    split at h
    . rename_i p v hx hy
      unfold zH at h; split at h
      . rename_i sz ag ys hv hys
        split at h
        . split at h
          . rename_i hH
            split at h
            . rename_i hc
              cases h
              exact ⟨.inl rfl, by rw [aU0]; exact aIa ho hN (gM hv) hx hH hy hys hc.1 hc.2⟩
            cases h
          cases h
        . split at h
          . rename_i hH
            split at h
            . rename_i hc
              obtain ⟨rfl, hc1, hc2, hc3, hc4, hc5, hc6⟩ := hc
              split at h
              . rename_i hj
                obtain ⟨el', hel, rfl⟩ := B3.1 h
                exact ⟨.inl rfl, by rw [aU0]; exact aOi ho hN (gM hv) hx hH hj hy hc1 hc2 hc3 hc4 hel hc5 hc6⟩
              cases h
            cases h
          cases h
        cases h
      cases h
    cases h
  case fieldAddr t x j =>
    split at h
    . rename_i p hx
      unfold aTl at h; split at h
      . rename_i off sz ag hf
        split at h
        . rename_i h0
          obtain ⟨r', hr, rfl⟩ := B3.1 h
          exact ⟨.inl rfl, by rw [aU0]; exact aOx ho hN hf h0 hx hr⟩
        cases h
      cases h
    cases h
  case indexAddr t x y =>
    split at h
    . rename_i p v hx hy
      unfold mP at h; split at h
      . rename_i et sz by' k n hs
        split at h
        . split at h
          . rename_i he
            subst he; cases h
            exact ⟨.inl rfl, by rw [aU0]; exact aGk ho hN hs hx hy hok.1 hok.2⟩
          cases h
        . split at h
          . rename_i hH
            split at h
            . rename_i he
              subst he; cases h
              exact ⟨.inl rfl, by rw [aU0]; exact aDu ho hN hs hx hH hy hok.1 hok.2⟩
            cases h
          cases h
        cases h
      cases h
    cases h
  case index t x y =>
    split at h
    . rename_i p v hx hy
      unfold aSq at h; split at h
      . split at h
        . rename_i hs
          cases h
          have ht := aBl hs
          exact ⟨.inl rfl, by rw [aU0]; exact aOp ho hN ht hx hy hok.1 hok.2⟩
        cases h
      cases h
    cases h
  case nilCheck x =>
    split at h
    . rename_i p hx
      split at h
      . rename_i hp
        cases h
        exact ⟨.inl rfl, by rw [aU0]; exact aSb ho hN hx (bGt hp)⟩
      cases h
    cases h
  case extract x i =>
    split at h
    . rename_i vs hx
      obtain ⟨r', hr, rfl⟩ := B3.1 h
      exact ⟨.inl rfl, by rw [aU0]; exact aXl ho hN hx hr⟩
    cases h
  case makeInterface t x =>
    split at h
    . rename_i p hx
      split at h
      . rename_i ht
        cases h
        exact ⟨.inl rfl, by rw [aU0]; exact aEq ho hN ht hx⟩
      cases h
    cases h
  case unOp op t x =>
    split at h
    . rename_i p hx
      unfold bPz at h; split at h
      . cases h; exact ⟨.inl rfl, by rw [aU0]; exact bOn ho hN hx⟩
      . cases h; exact ⟨.inl rfl, by rw [aU0]; exact bOb ho hN hx⟩
      cases h
    cases h
  case binOp op t x y t' =>
    split at h
    . split at h
      . rename_i p hx
        unfold bHn at h; split at h
        . rename_i b hp
          split at h
          . rename_i r' hr
            split at h
            . rename_i ht
              cases h
              exact ⟨.inl rfl, by rw [aU0]; exact aTk ho hN ht hx hp hr⟩
            cases h
          cases h
        cases h
      cases h
    split at h
    . rename_i p v hx hy
      unfold bHa at h; split at h
      . split at h
        . rename_i v' hv
          cases h
          exact ⟨.inl rfl, by rw [aU0]; exact bIx ho hN hx hy hok hv⟩
        split at h
        . rename_i hk
          subst hk
          obtain ⟨v', hv, rfl⟩ := B3.1 h
          exact ⟨.inl rfl, by rw [aU0]; exact bOq ho hN hx hy hv⟩
        cases h
      . split at h
        . rename_i hb
          obtain ⟨v', hv, rfl⟩ := B3.1 h
          exact ⟨.inl rfl, by rw [aU0]; exact bOi ho hN hb hx hy hv⟩
        cases h
      . split at h
        . cases h
          exact ⟨.inl rfl, by rw [aU0]; exact bDt ho hN hx hy (by simp only [sop]; rw [if_pos hok])⟩
        obtain ⟨v', hv, rfl⟩ := B3.1 h
        exact ⟨.inl rfl, by rw [aU0]; exact bDt ho hN hx hy hv⟩
      cases h
    cases h
  case alloc t =>
    split at h
    . rename_i zs hz
      cases h
      exact ⟨.inr rfl, by rw [gO]; exact bFe ho hN hz (hnx oS)⟩
    cases h
  case box t x =>
    split at h
    . rename_i p hx
      obtain ⟨ys, hy, rfl⟩ := B3.1 h
      exact ⟨.inr rfl, by rw [gO]; exact bOc ho hN hx hy (hnx oS)⟩
    cases h
  case build t dA =>
    split at h
    . rename_i ps hps
      rw [bBz] at hps; unfold aUh at h; split at h
      . rename_i tab zs ht hz
        obtain ⟨rs, hr, rfl⟩ := B3.1 h
        exact ⟨.inl rfl, by rw [aU0]; exact bGm ho hN (aLm ht) hz hps hr⟩
      cases h
    cases h
  case buildSlice t len dA =>
    split at h
    . rename_i ps hps
      unfold rK at h; split at h
      . rename_i e sz by' hs
        split at h
        . rename_i zs hz
          split at h
          . rename_i hc
            obtain ⟨h1, h2, h3, h4, h5, h6⟩ := hc
            cases h
            exact ⟨.inr rfl, by rw [gO]; exact aKx ho hN hs hz (aGv _ _ h1) (by simpa using h2) (aQn _ _ hps) h3 h4 h5 h6 (hnx oS)⟩
          cases h
        cases h
      cases h
    cases h
  case makeSlice t x y =>
    split at h
    . rename_i p v hx hy
      unfold xF at h; split at h
      . rename_i e sz by' k n k' m hs
        split at h
        . rename_i zel hz
          split at h
          . rename_i hc
            cases h
            exact ⟨.inr rfl, by rw [gO]; exact aOm ho hN hs hz hc.1 hc.2 hx hy hok.1 hok.2.1 hok.2.2.1 hok.2.2.2 (hnx oS)⟩
          cases h
        cases h
      cases h
    cases h
  case slice t x lo hi mx =>
    split at h
    . rename_i p hx
      have bound : ∀ (d : Int) (b : Option Operand) (n : Int), xX d (b.map (opv E)) = some n -> (b = none /\ n = d) ∨ ∃ y k, b = some y /\ opv E y = some (.raw (.int k n)) := fun d b n hb => by
        cases b with
        | none => simp only [Option.map_none, xX, B9] at hb; exact .inl ⟨rfl, hb.symm⟩
        | some y =>
          simp only [Option.map_some] at hb
          unfold xX at hb; split at hb
          . rename_i hq; cases hq
          . rename_i k n' hq
            cases hb
            exact .inr ⟨y, _, rfl, by simpa using hq⟩
          cases hb
      unfold aSr at h; split at h
      . rename_i s
        split at h
        . rename_i hst
          split at h
          . rename_i l hh hl hhi
            cases h
            refine ⟨.inl rfl, ?_⟩
            rw [aU0]
            exact aOh ho hN hst hx (bound _ _ _ hl) (bound _ _ _ hhi) hok.1 hok.2.1 hok.2.2
          cases h
        cases h
      unfold aJt at h; split at h
      . rename_i e sz by' sz' xs hs hno
        split at h
        . rename_i l hh hl hhi
          split at h
          . rename_i hc
            subst hc; cases h
            refine ⟨.inl rfl, ?_⟩
            rw [aU0]
            exact aTw ho hN hs hx (bound _ _ _ hl) (bound _ _ _ hhi) hok.1 hok.2.1 hok.2.2
          cases h
        cases h
      cases h
    cases h
  case call c =>
    unfold aSd at h; split at h
    . rename_i x t hc ha ht
      split at h
      . rename_i p hx
        obtain ⟨n, hn, rfl⟩ := B3.1 h
        exact ⟨.inl rfl, by rw [aU0]; exact bMp ho hc (by rw [<- ha]) (by rw [<- ht]) hN hx hn⟩
      cases h
    . rename_i x y t t' hc ha ht
      split at h
      . rename_i p q hx hy
        split at h
        . rename_i htt
          subst htt; unfold aCx at h; split at h
          . rename_i e sz by' hs
            split at h
            . rename_i zs xs k1 ys k2 hz h1 h2
              split at h
              . rename_i hcc
                cases h
                have a1 : App1 E H x e sz xs k1 := by
                  unfold bGo at h1; split at h1
                  . unfold aCa at h1; split at h1
                    . rename_i hH
                      split at h1
                      . rename_i hq; obtain ⟨rfl, rfl⟩ := hq; cases h1; exact .row _ _ hx hH
                      cases h1
                    cases h1
                  unfold bBg at h1; split at h1
                  . cases h1; exact .nil hx
                  cases h1
                have a2 : App2 E H y e sz ys k2 := by
                  unfold bFh at h2; split at h2
                  . unfold aCa at h2; split at h2
                    . rename_i hH
                      split at h2
                      . rename_i hq; obtain ⟨rfl, rfl⟩ := hq; cases h2; exact .row _ _ hy hH
                      cases h2
                    cases h2
                  unfold aSx at h2; split at h2
                  . cases h2; exact .nil hy
                  . split at h2
                    . rename_i hq; subst hq; cases h2; exact .sl _ hy
                    cases h2
                  cases h2
                exact ⟨.inr rfl, by rw [gO]; exact aZp ho hc (by rw [<- ha]) (by rw [<- ht]) hN hs hz hcc.1 hcc.2.1 a1 a2 hcc.2.2 hok.1 hok.2.1 hok.2.2 (hnx oS)⟩
              cases h
            cases h
          cases h
        cases h
      cases h
    . rename_i b x y _ hc ha _
      split at h
      . rename_i p q hx hy
        obtain ⟨v', hv, rfl⟩ := B3.1 h
        exact ⟨.inl rfl, by rw [aU0]; exact bIc ho hc (by rw [<- ha]) hN hx hy hv⟩
      cases h
    cases h
  case makeMap t r =>
    split at h
    . rename_i kt et hm
      cases h
      exact ⟨.inr rfl, by rw [gO]; exact aVs ho hN hm (hnx oS)⟩
    cases h
  case makeFunc f first cap =>
    split at h
    . rename_i as bs ha hb
      cases h
      exact ⟨.inl rfl, by rw [aU0]; exact aUe ho hN (aGi _ _ ha) (aGi _ _ hb)⟩
    cases h
  case convert s t x =>
    split at h
    . rename_i k n hx
      split at h
      . rename_i hs
        obtain ⟨k', hk, rfl⟩ := B3.1 h
        exact ⟨.inl rfl, by rw [aU0]; exact aWv ho hN hs hk hx⟩
      cases h
    cases h
  case field t x j =>
    split at h
    . rename_i p off sz ag hx hf
      split at h
      . rename_i hp
        obtain ⟨r', hr, rfl⟩ := B3.1 h
        exact ⟨.inl rfl, by rw [aU0]; exact bFw ho hN hf hx hp hr⟩
      cases h
    cases h
def jG : Op -> List Operand
  | .move x | .assign x | .box _ x | .load _ x | .nilCheck x | .unOp _ _ x | .makeInterface _ x | .fieldAddr _ x _ | .extract x _ | .convert _ _ x | .field _ x _ => [x]
  | .makeFunc _ a b => a.toList ++ b.toList
  | .pick c a b => [c, a, b]
  | .store _ a v | .binOp _ _ a v _ | .indexAddr _ a v | .index _ a v | .makeSlice _ a v => [a, v]
  | .build _ ps => ps.toList.map (·.2)
  | .buildSlice _ _ ps => ps.toList.map (·.2)
  | .slice _ x lo hi _ => x :: (lo.toList ++ hi.toList)
  | .call c => c.args.toList
  | _ => []
def aCe {i : Nat} : ∀ {cs : List AV}, .ref i ∈ cs -> i ∈ yA cs
  | x :: r, h => by
    rcases A8.1 h with e | e
    . subst e; exact A3
    cases x <;> simp only [yA] <;> first | exact A4 _ (aCe e) | exact aCe e
def aAb {h h' : Look} (hh : ∀ i, x = .ref i -> h i = h' i) : iE h x = iE h' x := by
  cases x with
  | ref i => unfold iE; simp only [hh i rfl]
  | _ => rfl
def aBc {h h' : Look} : ∀ {cs : List AV}, (∀ i ∈ yA cs, h i = h' i) -> dT h cs = dT h' cs
  | [], _ => rfl
  | x :: r, hh => by
    rw [dT, dT, aAb fun i hi => hh i (aCe (by rw [hi]; exact A3)), aBc fun i hi => hh i (by cases x <;> simp only [yA] <;> first | exact A4 _ hi | exact hi)]
def aDk {h h' : Look} (hh : ∀ i ∈ nL x, h i = h' i) : gB h x = gB h' x := by
  cases x with
  | agg cs => simp only [gB, aBc hh]
  | ref i => exact aAb (x := .ref i) fun j hj => hh j (by injection hj with e; subst e; exact B6.2 rfl)
  | _ => rfl
def aAy {h h' : Look} : ∀ {ps : List AV}, (∀ p ∈ ps, ∀ i ∈ nL p, h i = h' i) -> bH h ps = bH h' ps
  | [], _ => rfl
  | x :: r, hh => by rw [bH, bH, aDk (hh x A3), aAy fun p hp => hh p (A4 _ hp)]
def aSk {h h' : Look} (hh : ∀ i ∈ nL p, h i = h' i) : aFk P t p h = aFk P t p h' := by
  cases p <;> simp only [aFk] <;> simp only [nL, B6, forall_eq] at hh <;> rw [hh]
def aOf {h h' : Look} (hh : ∀ i ∈ nL p, h i = h' i) (hy : ∀ i ∈ nL y, h i = h' i) : zH P t p y h = zH P t p y h' := by
  have hab := aDk hy
  cases p <;> simp only [zH] <;> simp only [nL, B6, forall_eq] at hh <;> rw [hh]
  rw [hab]
def aEs {h h' : Look} (hh : ∀ i ∈ nL p, h i = h' i) : mP P t p y h = mP P t p y h' := by
  cases p <;> simp only [mP] <;> simp only [nL, B6, forall_eq] at hh <;> rw [hh]
def aWj {h h' : Look} (hh : ∀ i ∈ nL p, h i = h' i) : aMr P t p h = aMr P t p h' := by
  cases p <;> first | rfl | skip
  simp only [nL, B6, forall_eq] at hh
  simp only [aMr, hh]
def bBo {h h' : Look} (hh : ∀ i ∈ nL p, h i = h' i) : bGo e sz h p = bGo e sz h' p := by
  cases p <;> first | rfl | skip
  simp only [nL, B6, forall_eq] at hh
  simp only [bGo, aCa, hh]
def bBc {h h' : Look} (hh : ∀ i ∈ nL p, h i = h' i) : bFh e sz h p = bFh e sz h' p := by
  cases p <;> first | rfl | skip
  simp only [nL, B6, forall_eq] at hh
  simp only [bFh, aCa, hh]
def aKk {e e' : Operand -> Option AV} : ∀ {l : List (Nat × Operand)}, (∀ x ∈ l.map (·.2), e x = e' x) -> aUj e l = aUj e' l
  | [], _ => rfl
  | (i, x) :: r, h => by
    rw [aUj, aUj, h x oS, aKk fun y hy => h y (by simp only [List.map_cons]; exact A4 _ hy)]
def aLk {e e' : Operand -> Option AV} : ∀ {l : List (Nat × Operand)}, (∀ x ∈ l.map (·.2), e x = e' x) -> aEn e l = aEn e' l
  | [], _ => rfl
  | (i, x) :: r, h => by
    rw [aEn, aEn, h x oS, aLk fun y hy => h y (by simp only [List.map_cons]; exact A4 _ hy)]
def aYq {e : Operand -> Option AV} : ∀ {l : List (Nat × Operand)} {vs : List AV}, aEn e l = some vs -> ∀ v ∈ vs, ∃ x ∈ l.map (·.2), e x = some v
  | [], vs, h, v, hv => by simp only [aEn, B9] at h; subst h; cases hv
  | (i, x) :: r, vs, h, v, hv => by
    simp only [aEn] at h
    split at h
    . rename_i u us hu hus
      cases h
      rcases A8.1 hv with e' | e'
      . subst e'; exact ⟨x, by simp, hu⟩
      obtain ⟨y, hy, hyv⟩ := aYq hus v e'
      exact ⟨y, by simp only [List.map_cons]; exact A4 _ hy, hyv⟩
    cases h
def aZq {e e' : Operand -> Option AV} {h h' : Look} (he : ∀ x ∈ jG op, e x = e' x) (hh : ∀ x ∈ jG op, ∀ p, e x = some p -> ∀ i ∈ nL p, h i = h' i) : wG P e h nx op = wG P e' h' nx op := by
  cases op
  case build t dA => simp only [wG]; rw [aKk he]
  case buildSlice t len dA =>
    simp only [wG]; rw [<- aLk he]
    cases hp : aEn e dA.toList with
    | none => rfl
    | some ps =>
      simp only [rK]; rw [aAy fun p hpm i hi => by obtain ⟨x, hx, hxp⟩ := aYq hp p hpm; exact hh x hx p hxp i hi]
  case slice t x lo hi mx =>
    simp only [wG]
    rw [he x (by simp [jG])]
    have h1 : lo.map e = lo.map e' := by
      cases lo with
      | none => rfl
      | some y => simp only [Option.map_some]; rw [he y (by simp [jG])]
    have h2 : hi.map e = hi.map e' := by
      cases hi with
      | none => rfl
      | some y => simp only [Option.map_some]; rw [he y (by simp [jG])]
    rw [h1, h2]
  case call c =>
    simp only [wG, aSd]
    simp only [jG] at he hh
    generalize c.args.toList = as at he hh
    generalize c.argTypes.toList = ts
    generalize c.callee = cl
    split
    . rename_i x t
      rw [<- he x oS]
      cases hx : e x with
      | none => rfl
      | some p => simp only [aWj (hh x oS p hx)]
    . rename_i x y t t'
      rw [<- he x oS, <- he y oS]
      cases hx : e x with
      | none => rfl
      | some p =>
        cases hy : e y with
        | none => rfl
        | some q => simp only [aCx, bBo (hh x oS p hx), bBc (hh y oS q hy)]
    . rename_i b x y _
      rw [<- he x oS, <- he y oS]
    rfl
  case makeFunc f first cap =>
    simp only [wG]
    rw [aBo fun x hx => he x (by simp only [jG]; exact A7.2 (.inl hx)), aBo fun x hx => he x (by simp only [jG]; exact A7.2 (.inr hx))]
  all_goals simp only [jG, A8, List.not_mem_nil, or_false, forall_eq_or_imp, forall_eq] at he hh
  all_goals simp only [wG]
  case move x => rw [he]
  case assign x => rw [he]
  case pick c x y => rw [he.1, he.2.1, he.2.2]
  case load t x =>
    rw [<- he]
    cases hx : e x with
    | none => rfl
    | some p => exact aSk (hh p hx)
  case store t x y =>
    rw [<- he.1, <- he.2]
    cases hx : e x with
    | none => rfl
    | some p =>
      cases hy : e y with
      | none => rfl
      | some v => exact aOf (hh.1 p hx) (hh.2 v hy)
  case fieldAddr t x j => rw [he]
  case indexAddr t x y =>
    rw [<- he.1, <- he.2]
    cases hx : e x with
    | none => rfl
    | some p =>
      cases hy : e y with
      | none => rfl
      | some v => exact aEs (hh.1 p hx)
  case index t x y => rw [he.1, he.2]
  case makeSlice t x y => rw [he.1, he.2]
  case nilCheck x => rw [he]
  case extract x i => rw [he]
  case makeInterface t x => rw [he]
  case unOp op t x => rw [he]
  case binOp op t x y t' =>
    rw [he.1]; split
    . rfl
    rw [he.2]
  case box t x => rw [he]
  case convert s t x => rw [he]
  case field t x j => rw [he]
end
end
end Go.Abs
end
