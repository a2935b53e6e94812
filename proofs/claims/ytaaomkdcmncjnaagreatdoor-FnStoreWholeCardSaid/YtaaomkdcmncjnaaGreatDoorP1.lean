/-
  The abstract layer, the walks and the plain laws that the claim leans on, part 1 of 6 (working texts Abs1 to Abs10). It proves lemmas alone; no condition of its own.
-/
import Derived.OrdersIn
import Derived.Below
import Derived.Maps.AppendAt
import Derived.RangeFuncLeaves
import Derived.RangeFuncRecord
import Derived.Laws.NewBlocks
import Derived.Tactics
import Derived.TacticsIn
import Derived.Laws.CopyRow
import Derived.Laws.Slices
import Derived.Laws.StructEq
import Derived.Laws.Build
import Derived.Laws.MakeOwn
import Derived.Laws.OwnMore
import Derived.Deep.OwnRows
import Derived.WalkKit
set_option linter.all false
section
namespace Go.Abs
section
abbrev oD (o : Oper) (N : Nat) : Prop := ∀ d, o.dst = some d -> d < N
def og {p : Prop} (h : p := by omega) : p := h
def oS {p : Prop} (h : p := by simp) : p := h
def dg {p : Prop} (h : p := by decide) : p := h
def oG {p : Prop} (h : p := by simp only [go_sem]) : p := h
abbrev A0 := @Nat.le_refl
abbrev A1 := @List.getElem?_eq_getElem
abbrev A2 := @List.mem_cons_self
abbrev A3 := @Nat.zero_le
abbrev A4 := @List.length_append
abbrev A5 := @List.mem_cons_of_mem
abbrev A6 := @List.mem_append
abbrev A7 := @List.mem_cons
abbrev A8 := @List.length_map
abbrev A9 := @List.mem_map
abbrev B0 := @Option.map_eq_some_iff
abbrev B1 := @List.length_drop
abbrev B2 := @List.getElem?_eq_some_iff
abbrev B3 := @List.length_take
abbrev B4 := @List.mem_singleton
abbrev B5 := @List.getElem?_map
abbrev B6 := @Array.getD_eq_getD_getElem?
abbrev B7 := @Bool.and_eq_true
abbrev B8 := @ByteArray.size_append
abbrev B9 := @Option.some.injEq
abbrev C3 := @Nat.zero_add
abbrev C4 := @Bool.false_eq_true
abbrev C5 := @List.length_cons
abbrev C6 := @List.nodup_cons
abbrev C7 := @List.all_eq_true
abbrev C8 := @List.getElem_mem
abbrev C9 := @List.mem_of_mem_take
abbrev D0 := @List.mem_of_mem_drop
abbrev D1 := @List.length_set
abbrev D2 := @List.mem_map_of_mem
abbrev D3 := @Array.getElem?_eq_getElem
abbrev D4 := @Bool.or_eq_true
abbrev D5 := @Array.getElem?_toList
abbrev D6 := @Nat.mul_le_mul_right
abbrev D7 := @List.getElem?_range
abbrev D8 := @List.nodup_nil
abbrev D9 := @List.map_append
abbrev E3 := @List.map_take
abbrev E4 := @List.mem_of_getElem?
abbrev E5 := @List.drop_eq_nil_of_le
abbrev E6 := @List.map_congr_left
abbrev E7 := @List.getD_eq_getElem?_getD
abbrev E8 := @List.length_pos_iff
abbrev E9 := @List.take_length
abbrev F4 := @Nat.le_trans
abbrev F5 := @List.append_assoc
abbrev F6 := @List.getElem?_eq_none
abbrev F7 := @List.getElem?_take
abbrev F8 := @List.getElem?_of_mem
abbrev F9 := @List.pairwise_iff_getElem
abbrev G1 := @List.map_drop
abbrev G2 := @List.take_add_one
abbrev G3 := @List.getElem?_append_left
abbrev G4 := @List.getElem?_append_right
abbrev G5 := @List.getElem?_set
abbrev G6 := @List.eq_nil_of_length_eq_zero
abbrev G7 := @Option.bind_eq_some_iff
abbrev G8 := @Array.getElem?_setIfInBounds
abbrev G9 := @List.length_range
abbrev H3 := @List.exists_cons_of_ne_nil
abbrev H4 := @List.getElem?_drop
abbrev H5 := @List.length_reverse
abbrev H6 := @Int.tdiv_eq_ediv_of_nonneg
abbrev H7 := @Nat.not_lt_zero
abbrev H8 := @List.sublist_flatten_of_mem
open Go
inductive AV where
  | any
  | raw (v : Value)
  | agg (cs : List AV)
  | tup (vs : List AV)
  | sl (sz : Nat) (xs : List AV)
  | fp (sz : Nat) (xs : List AV) (j off : Nat)
  | ptr (i off : Nat)
  | ep (i sz j off : Nat)
  | ref (i : Nat)
  | iface (t : TypeId) (x : AV)
  | fn (f : Fn) (first cap : List AV)
  | when (c : Prop) (x : AV)
  | own (e sz : Nat) (xs : List AV)
instance : Inhabited AV := ⟨.any⟩
inductive AObj where
  | dead
  | cells (t : TypeId) (cs : List AV)
  | row (e sz : Nat) (xs : List AV)
  | map (kt et : TypeId) (m : List (Value × AV))
  | mapS (kt et : TypeId) (m : List (Value × AV)) (k : Value) (st : Nat)
  | other (b : Nat) (o : Obj)
  | loop (l : Nat) (rec : Loop) (No : Nat) (Eo : List (Nat × AV))
  | pool (e0 e sz : Nat) (Q : AV -> Prop) (L : Nat) (lv more : List Nat)
instance : Inhabited AObj := ⟨.dead⟩
mutual
def AV.bel (U : Nat -> Prop) : AV -> Prop
  | .any => True
  | .raw _ => True
  | .agg cs => aK U cs
  | .tup cs => aK U cs
  | .sl _ xs => aK U xs
  | .fp _ xs _ _ => aK U xs
  | .ptr i _ => U i
  | .ep i _ _ _ => U i
  | .ref i => U i
  | .iface _ x => x.bel U
  | .fn _ a b => aK U a /\ aK U b
  | .when _ x => x.bel U
  | .own _ _ xs => aK U xs
def aK (U : Nat -> Prop) : List AV -> Prop
  | [] => True
  | x :: xs => x.bel U /\ aK U xs
end
def bLi {U : Nat -> Prop} : ∀ {xs : List AV}, aK U xs ↔ ∀ x ∈ xs, x.bel U
  | [] => by simp [aK]
  | x :: xs => by simp [aK, bLi (xs := xs)]
def bG {U : Nat -> Prop} {xs : List AV} (h : aK U xs) {j : Nat} {x : AV} (hj : xs[j]? = some x) : x.bel U :=
  bLi.1 h x (E4 hj)
mutual
theorem AV.bel_mono {U U' : Nat -> Prop} (h : ∀ i, U i -> U' i) : ∀ x : AV, x.bel U -> x.bel U'
  | .any, _ => trivial
  | .raw _, _ => trivial
  | .agg cs, hx => eU h cs hx
  | .tup cs, hx => eU h cs hx
  | .sl _ xs, hx => eU h xs hx
  | .fp _ xs _ _, hx => eU h xs hx
  | .ptr _ _, hx => h _ hx
  | .ep _ _ _ _, hx => h _ hx
  | .ref _, hx => h _ hx
  | .iface _ x, hx => AV.bel_mono h x hx
  | .fn _ a b, hx => ⟨eU h a hx.1, eU h b hx.2⟩
  | .when _ x, hx => AV.bel_mono h x hx
  | .own _ _ xs, hx => eU h xs hx
theorem eU {U U' : Nat -> Prop} (h : ∀ i, U i -> U' i) : ∀ xs : List AV, aK U xs -> aK U' xs
  | [], _ => trivial
  | x :: xs, hx => ⟨AV.bel_mono h x hx.1, eU h xs hx.2⟩
end
def AObj.bel (U : Nat -> Prop) : AObj -> Prop
  | .dead => True
  | .cells _ cs => aK U cs
  | .row _ _ xs => aK U xs
  | .map _ _ m => aK U (m.map (·.2))
  | .mapS _ _ m _ st => aK U (m.map (·.2)) /\ U st
  | .other _ _ => True
  | .loop _ _ _ Eo => aK U (Eo.map (·.2))
  | .pool _ _ _ _ _ lv more => (∀ i, i ∈ lv -> U i) /\ ∀ i, i ∈ more -> U i
def AObj.bel_mono {U U' : Nat -> Prop} (h : ∀ i, U i -> U' i) (o : AObj) (ho : o.bel U) : o.bel U' := by
  cases o <;> first | trivial | exact eU h _ ho | exact ⟨eU h _ ho.1, h _ ho.2⟩ | exact ⟨fun i hi => h i (ho.1 i hi), fun i hi => h i (ho.2 i hi)⟩
def blk : Value -> Option Nat
  | .pointer (some a) => some a.block
  | .slice (some a) _ _ => some a.block
  | .map r => r
  | _ => none
def lG (cells : Array Value) (off sz n : Nat) (vals : Nat -> Value) : Prop :=
  ∀ j, j < n -> (vals j).cells.size = sz /\ ∀ k, k < sz -> cells[off + j * sz + k]? = (vals j).cells[k]?
inductive Rep (ρ : Nat -> Value) (av : Nat -> Prop) (hp : Array Obj) : AV -> Value -> Prop
  | any (v : Value) : Rep ρ av hp .any v
  | raw (v : Value) : Rep ρ av hp (.raw v) v
  | agg (cs : List AV) (vs : Array Value) (hn : vs.size = cs.length) (h : ∀ (j : Nat) (x : AV), cs[j]? = some x -> Rep ρ av hp x (vs.getD j undef)) : Rep ρ av hp (.agg cs) (.agg vs)
  | tup (cs : List AV) (vs : Array Value) (hn : vs.size = cs.length) (h : ∀ (j : Nat) (x : AV), cs[j]? = some x -> Rep ρ av hp x (vs.getD j undef)) : Rep ρ av hp (.tup cs) (.tuple vs)
  | sl0 (sz : Nat) (A : Option Addr) (c : Nat) (hc : c <= maxLen) : Rep ρ av hp (.sl sz []) (.slice A 0 c)
  | sl (sz : Nat) (xs : List AV) (b off c : Nat) (cells : Array Value) (t : TypeId) (fr : Nat × Nat) (vals : Nat -> Value) (h0 : 0 < xs.length) (hc : xs.length <= c) (hm : c <= maxLen) (hb : ¬ av b)
      (hh : hp[b]? = some (.cells cells t fr)) (h : ∀ (j : Nat) (x : AV), xs[j]? = some x -> Rep ρ av hp x (vals j)) (hcells : lG cells off sz xs.length vals) :
      Rep ρ av hp (.sl sz xs) (.slice (some ⟨b, off, none⟩) xs.length c)
  | fp (sz : Nat) (xs : List AV) (j d : Nat) (b off : Nat) (cells : Array Value) (t : TypeId) (fr : Nat × Nat) (vals : Nat -> Value) (hb : ¬ av b)
      (hh : hp[b]? = some (.cells cells t fr)) (h : ∀ (j : Nat) (x : AV), xs[j]? = some x -> Rep ρ av hp x (vals j)) (hcells : lG cells off sz xs.length vals) :
      Rep ρ av hp (.fp sz xs j d) (.pointer (some ⟨b, off + j * sz + d, none⟩))
  | ptr (i off b : Nat) (h : blk (ρ i) = some b) : Rep ρ av hp (.ptr i off) (.pointer (some ⟨b, off, none⟩))
  | ep (i sz j off b : Nat) (h : blk (ρ i) = some b) : Rep ρ av hp (.ep i sz j off) (.pointer (some ⟨b, j * sz + off, none⟩))
  | ref (i : Nat) : Rep ρ av hp (.ref i) (ρ i)
  | iface (t : TypeId) (x : AV) (v : Value) (h : Rep ρ av hp x v) : Rep ρ av hp (.iface t x) (.iface t v)
  | fn (f : Fn) (first cap : List AV) (vs us : Array Value) (hn : vs.size = first.length) (h : ∀ (j : Nat) (x : AV), first[j]? = some x -> Rep ρ av hp x (vs.getD j undef))
      (hn' : us.size = cap.length) (h' : ∀ (j : Nat) (x : AV), cap[j]? = some x -> Rep ρ av hp x (us.getD j undef)) : Rep ρ av hp (.fn f first cap) (.func f vs us)
  | when (c : Prop) (x : AV) (v : Value) (h : c -> Rep ρ av hp x v) (h' : ¬ c -> v = .tuple #[]) : Rep ρ av hp (.when c x) v
def eG (ρ : Nat -> Value) (av : Nat -> Prop) (hp : Array Obj) (cs : List AV) (vs : Array Value) : Prop :=
  vs.size = cs.length /\ ∀ (j : Nat) (x : AV), cs[j]? = some x -> Rep ρ av hp x (vs.getD j undef)
def ltB {hp : Array Obj} {b : Nat} {o : Obj} (h : hp[b]? = some o) : b < hp.size := (Array.getElem?_eq_some_iff.1 h).1
def Rep.mono' {ρ : Nat -> Value} {av av' : Nat -> Prop} {hp hp' : Array Obj} (hav : ∀ b, b < hp.size -> av' b -> av b) (heq : ∀ b cells t fr, hp[b]? = some (.cells cells t fr) -> ¬ av b -> hp'[b]? = hp[b]?)
    {x : AV} {v : Value} (h : Rep ρ av hp x v) : Rep ρ av' hp' x v := by
  induction h with
  | any v => exact .any v
  | raw v => exact .raw v
  | agg cs vs hn _ ih => exact .agg cs vs hn ih
  | tup cs vs hn _ ih => exact .tup cs vs hn ih
  | sl0 sz A c hc => exact .sl0 sz A c hc
  | sl sz xs b off c cells t fr vals h0 hc hm hb hh _ hcells ih =>
    have hlt := ltB hh
    exact .sl sz xs b off c cells t fr vals h0 hc hm (fun q => hb (hav b hlt q)) ((heq b _ _ _ hh hb).trans hh) ih hcells
  | fp sz xs j d b off cells t fr vals hb hh _ hcells ih =>
    have hlt := ltB hh
    exact .fp sz xs j d b off cells t fr vals (fun q => hb (hav b hlt q)) ((heq b _ _ _ hh hb).trans hh) ih hcells
  | ptr i off b h => exact .ptr i off b h
  | ep i sz j off b h => exact .ep i sz j off b h
  | ref i => exact .ref i
  | iface t x v _ ih => exact .iface t x v ih
  | fn f first cap vs us hn _ hn' _ ih ih' => exact .fn f first cap vs us hn ih hn' ih'
  | when c x v _ h' ih => exact .when c x v ih h'
def Rep.mono {ρ : Nat -> Value} {av av' : Nat -> Prop} {hp hp' : Array Obj} (hav : ∀ b, b < hp.size -> av' b -> av b) (heq : ∀ b, b < hp.size -> ¬ av b -> hp'[b]? = hp[b]?)
    {x : AV} {v : Value} (h : Rep ρ av hp x v) : Rep ρ av' hp' x v := h.mono' hav (fun b _ _ _ hb hn => heq b (ltB hb) hn)
def Rep.named {ρ ρ' : Nat -> Value} {av : Nat -> Prop} {hp : Array Obj} {U : Nat -> Prop} (hρ : ∀ i, U i -> ρ' i = ρ i) {x : AV} {v : Value} (h : Rep ρ av hp x v) (hx : x.bel U) : Rep ρ' av hp x v := by
  induction h with
  | any v => exact .any v
  | raw v => exact .raw v
  | agg cs vs hn _ ih => exact .agg cs vs hn fun j x hj => ih j x hj (bG (by simpa [AV.bel] using hx) hj)
  | tup cs vs hn _ ih => exact .tup cs vs hn fun j x hj => ih j x hj (bG (by simpa [AV.bel] using hx) hj)
  | sl0 sz A c hc => exact .sl0 sz A c hc
  | sl sz xs b off c cells t fr vals h0 hc hm hb hh _ hcells ih => exact .sl sz xs b off c cells t fr vals h0 hc hm hb hh (fun j x hj => ih j x hj (bG (by simpa [AV.bel] using hx) hj)) hcells
  | fp sz xs j d b off cells t fr vals hb hh _ hcells ih => exact .fp sz xs j d b off cells t fr vals hb hh (fun j x hj => ih j x hj (bG (by simpa [AV.bel] using hx) hj)) hcells
  | ptr i off b h => exact .ptr i off b (by rw [hρ i (by simpa [AV.bel] using hx)]; exact h)
  | ep i sz j off b h => exact .ep i sz j off b (by rw [hρ i (by simpa [AV.bel] using hx)]; exact h)
  | ref i => rw [<- hρ i (by simpa [AV.bel] using hx)]; exact .ref i
  | iface t x v _ ih => exact .iface t x v (ih (by simpa [AV.bel] using hx))
  | fn f first cap vs us hn _ hn' _ ih ih' =>
    have hx' : aK U first /\ aK U cap := by simpa [AV.bel] using hx
    exact .fn f first cap vs us hn (fun j x hj => ih j x hj (bG hx'.1 hj)) hn' (fun j x hj => ih' j x hj (bG hx'.2 hj))
  | when c x v _ h' ih => exact .when c x v (fun hc => ih hc (by simpa [AV.bel] using hx)) h'
def bB (n : Nat) (f : Nat -> List Nat) : List Nat := (List.range n).flatMap f
def mFl {n : Nat} {f : Nat -> List Nat} {b : Nat} : b ∈ bB n f ↔ ∃ j, j < n /\ b ∈ f j := by simp [bB]
inductive RepO (ρ : Nat -> Value) (av : Nat -> Prop) (hp : Array Obj) : AV -> Value -> List Nat -> Prop
  | leaf (x : AV) (v : Value) (h : Rep ρ av hp x v) : RepO ρ av hp x v []
  | agg (cs : List AV) (vs : Array Value) (ows : Nat -> List Nat) (hn : vs.size = cs.length) (h : ∀ (j : Nat) (x : AV), cs[j]? = some x -> RepO ρ av hp x (vs.getD j undef) (ows j)) : RepO ρ av hp (.agg cs) (.agg vs) (bB cs.length ows)
  | own0 (e sz : Nat) : RepO ρ av hp (.own e sz []) (.slice none 0 0) []
  | own (e sz : Nat) (xs : List AV) (b c : Nat) (cells : Array Value) (vals : Nat -> Value) (ows : Nat -> List Nat) (hh : hp[b]? = some (.cells cells e (0, 0))) (hs : cells.size = c * sz) (hc : xs.length <= c) (hm : c <= maxLen)
      (h : ∀ (j : Nat) (x : AV), xs[j]? = some x -> RepO ρ av hp x (vals j) (ows j)) (hcells : lG cells 0 sz xs.length vals) : RepO ρ av hp (.own e sz xs) (.slice (some ⟨b, 0, none⟩) xs.length c) (b :: bB xs.length ows)
def RepO.mono' {ρ : Nat -> Value} {av av' : Nat -> Prop} {hp hp' : Array Obj} (hav : ∀ b, b < hp.size -> av' b -> av b) (heq : ∀ b cells t fr, hp[b]? = some (.cells cells t fr) -> ¬ av b -> hp'[b]? = hp[b]?)
    {x : AV} {v : Value} {own : List Nat} (h : RepO ρ av hp x v own) (hown : ∀ b, b ∈ own -> hp'[b]? = hp[b]?) : RepO ρ av' hp' x v own := by
  induction h with
  | leaf x v h => exact .leaf x v (h.mono' hav heq)
  | agg cs vs ows hn _ ih => exact .agg cs vs ows hn fun j x hj => ih j x hj fun b hb => hown b (mFl.2 ⟨j, (B2.1 hj).1, hb⟩)
  | own0 e sz => exact .own0 e sz
  | own e sz xs b c cells vals ows hh hs hc hm _ hcells ih =>
    exact .own e sz xs b c cells vals ows ((hown b oS).trans hh) hs hc hm (fun j x hj => ih j x hj fun b' hb => hown b' (A5 _ (mFl.2 ⟨j, (B2.1 hj).1, hb⟩))) hcells
def RepO.named {ρ ρ' : Nat -> Value} {av : Nat -> Prop} {hp : Array Obj} {U : Nat -> Prop} (hρ : ∀ i, U i -> ρ' i = ρ i) {x : AV} {v : Value} {own : List Nat} (h : RepO ρ av hp x v own) (hx : x.bel U) : RepO ρ' av hp x v own := by
  induction h with
  | leaf x v h => exact .leaf x v (h.named hρ hx)
  | agg cs vs ows hn _ ih => exact .agg cs vs ows hn fun j x hj => ih j x hj (bG (by simpa [AV.bel] using hx) hj)
  | own0 e sz => exact .own0 e sz
  | own e sz xs b c cells vals ows hh hs hc hm _ hcells ih => exact .own e sz xs b c cells vals ows hh hs hc hm (fun j x hj => ih j x hj (bG (by simpa [AV.bel] using hx) hj)) hcells
def RepO.own_lt {ρ : Nat -> Value} {av : Nat -> Prop} {hp : Array Obj} {x : AV} {v : Value} {own : List Nat} (h : RepO ρ av hp x v own) : ∀ b, b ∈ own -> b < hp.size := by
  induction h with
  | leaf x v h => intro b hb; cases hb
  | agg cs vs ows hn hx ih =>
    intro b hb
    obtain ⟨j, hj, hb⟩ := mFl.1 hb
    exact ih j _ (A1 hj) b hb
  | own0 e sz => intro b hb; cases hb
  | own e sz xs b c cells vals ows hh hs hc hm _ hcells ih =>
    intro b' hb
    rcases A7.1 hb with rfl | hb
    . exact ltB hh
    obtain ⟨j, hj, hb⟩ := mFl.1 hb
    exact ih j _ (A1 hj) b' hb
def gQ (ρ : Nat -> Value) (av : Nat -> Prop) (hp : Array Obj) (e sz : Nat) (Q : AV -> Prop) (L : Nat) (bs : List Nat) (v : Value) : Prop :=
  v = .slice none 0 0 ∨ ∃ b n c cells vals, v = .slice (some ⟨b, 0, none⟩) n c /\ b ∈ bs /\ n <= L /\ n <= c /\ c <= maxLen /\ hp[b]? = some (.cells cells e (0, 0)) /\ cells.size = c * sz /\ lG cells 0 sz n vals /\
    ∀ j, j < n -> ∃ x, Q x /\ x.bel (fun _ => False) /\ Rep ρ av hp x (vals j)
def gQ.mono' {ρ : Nat -> Value} {av av' : Nat -> Prop} {hp hp' : Array Obj} {e sz : Nat} {Q : AV -> Prop} {L : Nat} {bs : List Nat} {v : Value} (hav : ∀ b, b < hp.size -> av' b -> av b) (heq : ∀ b cells t fr, hp[b]? = some (.cells cells t fr) -> ¬ av b -> hp'[b]? = hp[b]?)
    (h : gQ ρ av hp e sz Q L bs v) (hown : ∀ b, b ∈ bs -> hp'[b]? = hp[b]?) : gQ ρ av' hp' e sz Q L bs v := by
  rcases h with h | ⟨b, n, c, cells, vals, h1, h2, h3, h4, h5, h6, h7, h8, h9⟩
  . exact .inl h
  refine .inr ⟨b, n, c, cells, vals, h1, h2, h3, h4, h5, (hown b h2).trans h6, h7, h8, fun j hj => ?_⟩
  obtain ⟨x, hx, hb, hr⟩ := h9 j hj
  exact ⟨x, hx, hb, hr.mono' hav heq⟩
def gQ.named {ρ ρ' : Nat -> Value} {av : Nat -> Prop} {hp : Array Obj} {e sz : Nat} {Q : AV -> Prop} {L : Nat} {bs : List Nat} {v : Value} (h : gQ ρ av hp e sz Q L bs v) : gQ ρ' av hp e sz Q L bs v := by
  rcases h with h | ⟨b, n, c, cells, vals, h1, h2, h3, h4, h5, h6, h7, h8, h9⟩
  . exact .inl h
  refine .inr ⟨b, n, c, cells, vals, h1, h2, h3, h4, h5, h6, h7, h8, fun j hj => ?_⟩
  obtain ⟨x, hx, hb, hr⟩ := h9 j hj
  exact ⟨x, hx, hb, hr.named (U := fun _ => False) (fun _ h => h.elim) hb⟩
def cS (ρ : Nat -> Value) (av : Nat -> Prop) (hp : Array Obj) (own : List Nat) : AObj -> Value -> Prop
  | .dead, _ => own = []
  | .cells t cs, v => ∃ b vs, v = .pointer (some ⟨b, 0, none⟩) /\ own = [b] /\ hp[b]? = some (.cells vs t (0, 0)) /\ eG ρ av hp cs vs
  | .row e sz xs, v => RepO ρ av hp (.own e sz xs) v own /\ own.Nodup
  | .map _ _ m, v => ∃ b es clock, v = .map (some b) /\ own = [b] /\ hp[b]? = some (.map es clock) /\ es.size = m.length /\ es.size < maxLen /\
        (∀ (j : Nat) (k : Value) (x : AV), m[j]? = some (k, x) -> ∃ e, es[j]? = some e /\ e.key = k /\ Rep ρ av hp x e.val) /\
        (∀ (j : Nat) (e : MapEntry), es[j]? = some e -> e.born < clock /\ ∀ (i : Nat) (d : MapEntry), es[i]? = some d -> d.born = e.born -> i = j)
  | .mapS _ _ m k st, v => ∃ b es clock, v = .map (some b) /\ own = [b] /\ hp[b]? = some (.map es clock) /\ es.size = m.length /\ es.size < maxLen /\
        (∀ (j : Nat) (k : Value) (x : AV), m[j]? = some (k, x) -> ∃ e, es[j]? = some e /\ e.key = k /\ Rep ρ av hp x e.val) /\
        (∀ (j : Nat) (e : MapEntry), es[j]? = some e -> e.born < clock /\ ∀ (i : Nat) (d : MapEntry), es[i]? = some d -> d.born = e.born -> i = j) /\
        ∃ (q : Nat) (e : MapEntry), es[q]? = some e /\ e.key = k /\ ρ st = .int .i64 (e.born : Int)
  | .other b o, v => v = .pointer (some ⟨b, 0, none⟩) /\ own = [b] /\ hp[b]? = some o
  | .loop l rec No Eo, v => v = .pointer (some ⟨l, 0, none⟩) /\ own = [l] /\ hp[l]? = some (.loop rec) /\ rec.tmps.size = No /\ ∀ (j t : Nat) (x : AV), Eo[j]? = some (t, x) -> t < No /\ Rep ρ av hp x (rec.tmps.getD t undef)
  | .pool e0 e sz Q L lv more, v => ∃ b0 c0 cells0 bs, v = .slice (some ⟨b0, 0, none⟩) lv.length c0 /\ own = b0 :: bs /\ own.Nodup /\ hp[b0]? = some (.cells cells0 e0 (0, 0)) /\ cells0.size = c0 /\ lv.length <= c0 /\ c0 <= maxLen /\ (∀ b, b ∈ bs -> ∃ o, hp[b]? = some o) /\
      (∀ (j i : Nat), lv[j]? = some i -> cells0[j]? = some (ρ i)) /\ (∀ i, i ∈ lv -> gQ ρ av hp e sz Q L bs (ρ i)) /\ ∀ i, i ∈ more -> gQ ρ av hp e sz Q L bs (ρ i)
def eG.mono' {ρ : Nat -> Value} {av av' : Nat -> Prop} {hp hp' : Array Obj} (hav : ∀ b, b < hp.size -> av' b -> av b) (heq : ∀ b cells t fr, hp[b]? = some (.cells cells t fr) -> ¬ av b -> hp'[b]? = hp[b]?)
    {cs : List AV} {vs : Array Value} (h : eG ρ av hp cs vs) : eG ρ av' hp' cs vs := ⟨h.1, fun j x hj => (h.2 j x hj).mono' hav heq⟩
def eG.mono {ρ : Nat -> Value} {av av' : Nat -> Prop} {hp hp' : Array Obj} (hav : ∀ b, b < hp.size -> av' b -> av b) (heq : ∀ b, b < hp.size -> ¬ av b -> hp'[b]? = hp[b]?)
    {cs : List AV} {vs : Array Value} (h : eG ρ av hp cs vs) : eG ρ av' hp' cs vs := ⟨h.1, fun j x hj => (h.2 j x hj).mono hav heq⟩
def eG.named {ρ ρ' : Nat -> Value} {av : Nat -> Prop} {hp : Array Obj} {U : Nat -> Prop} (hρ : ∀ i, U i -> ρ' i = ρ i) {cs : List AV} {vs : Array Value} (h : eG ρ av hp cs vs) (hx : aK U cs) : eG ρ' av hp cs vs :=
  ⟨h.1, fun j x hj => (h.2 j x hj).named hρ (bG hx hj)⟩
def cS.mono' {ρ : Nat -> Value} {av av' : Nat -> Prop} {hp hp' : Array Obj} (hav : ∀ b, b < hp.size -> av' b -> av b) (heq : ∀ b cells t fr, hp[b]? = some (.cells cells t fr) -> ¬ av b -> hp'[b]? = hp[b]?)
    {own : List Nat} {o : AObj} {v : Value} (h : cS ρ av hp own o v) (hown : ∀ b, b ∈ own -> hp'[b]? = hp[b]?) : cS ρ av' hp' own o v := by
  cases o with
  | dead => exact h
  | cells t cs =>
    obtain ⟨b, vs, rfl, rfl, hb, hr⟩ := h
    exact ⟨b, vs, rfl, rfl, (hown b oS).trans hb, hr.mono' hav heq⟩
  | row e sz xs =>
    exact ⟨h.1.mono' hav heq hown, h.2⟩
  | map kt et m =>
    obtain ⟨b, es, clock, rfl, rfl, hb, h1, h2, h3, h4⟩ := h
    refine ⟨b, es, clock, rfl, rfl, (hown b oS).trans hb, h1, h2, fun j k x hj => ?_, h4⟩
    obtain ⟨e, he, hk, hr⟩ := h3 j k x hj
    exact ⟨e, he, hk, hr.mono' hav heq⟩
  | mapS kt et m k st =>
    obtain ⟨b, es, clock, rfl, rfl, hb, h1, h2, h3, h4, h5⟩ := h
    refine ⟨b, es, clock, rfl, rfl, (hown b oS).trans hb, h1, h2, fun j k x hj => ?_, h4, h5⟩
    obtain ⟨e, he, hk, hr⟩ := h3 j k x hj
    exact ⟨e, he, hk, hr.mono' hav heq⟩
  | other b o =>
    obtain ⟨rfl, rfl, hb⟩ := h
    exact ⟨rfl, rfl, (hown b oS).trans hb⟩
  | loop l rec No Eo =>
    obtain ⟨rfl, rfl, hb, hs, hr⟩ := h
    exact ⟨rfl, rfl, (hown l oS).trans hb, hs, fun j t x hj => ⟨(hr j t x hj).1, (hr j t x hj).2.mono' hav heq⟩⟩
  | pool e0 e sz Q L lv more =>
    obtain ⟨b0, c0, cells0, bs, h1, rfl, h2, h3, h4, h5, h6, h7, h8, h9, h10⟩ := h
    have hbs : ∀ b, b ∈ bs -> hp'[b]? = hp[b]? := fun b hb => hown b (A5 _ hb)
    exact ⟨b0, c0, cells0, bs, h1, rfl, h2, (hown b0 oS).trans h3, h4, h5, h6, fun b hb => by rw [hbs b hb]; exact h7 b hb, h8, fun i hi => (h9 i hi).mono' hav heq hbs, fun i hi => (h10 i hi).mono' hav heq hbs⟩
def cS.mono {ρ : Nat -> Value} {av av' : Nat -> Prop} {hp hp' : Array Obj} (hav : ∀ b, b < hp.size -> av' b -> av b) (heq : ∀ b, b < hp.size -> ¬ av b -> hp'[b]? = hp[b]?)
    {own : List Nat} {o : AObj} {v : Value} (h : cS ρ av hp own o v) (hown : ∀ b, b ∈ own -> hp'[b]? = hp[b]?) : cS ρ av' hp' own o v :=
  h.mono' hav (fun b _ _ _ hb hn => heq b (ltB hb) hn) hown
def cS.named {ρ ρ' : Nat -> Value} {av : Nat -> Prop} {hp : Array Obj} {U : Nat -> Prop} (hρ : ∀ i, U i -> ρ' i = ρ i) {own : List Nat} {o : AObj} {v : Value} (h : cS ρ av hp own o v) (ho : o.bel U) : cS ρ' av hp own o v := by
  cases o with
  | dead => exact h
  | cells t cs =>
    obtain ⟨b, vs, rfl, rfl, hb, hr⟩ := h
    exact ⟨b, vs, rfl, rfl, hb, hr.named hρ ho⟩
  | row e sz xs =>
    exact ⟨h.1.named hρ ho, h.2⟩
  | map kt et m =>
    obtain ⟨b, es, clock, rfl, rfl, hb, h1, h2, h3, h4⟩ := h
    refine ⟨b, es, clock, rfl, rfl, hb, h1, h2, fun j k x hj => ?_, h4⟩
    obtain ⟨e, he, hk, hr⟩ := h3 j k x hj
    exact ⟨e, he, hk, hr.named hρ (bG ho (j := j) (by simp [hj]))⟩
  | mapS kt et m k st =>
    obtain ⟨b, es, clock, rfl, rfl, hb, h1, h2, h3, h4, q, e, h5, h6, h7⟩ := h
    refine ⟨b, es, clock, rfl, rfl, hb, h1, h2, fun j k x hj => ?_, h4, q, e, h5, h6, (hρ st ho.2).trans h7⟩
    obtain ⟨e, he, hk, hr⟩ := h3 j k x hj
    exact ⟨e, he, hk, hr.named hρ (bG ho.1 (j := j) (by simp [hj]))⟩
  | other b o => exact h
  | loop l rec No Eo =>
    obtain ⟨h1, h2, hb, hs, hr⟩ := h
    exact ⟨h1, h2, hb, hs, fun j t x hj => ⟨(hr j t x hj).1, (hr j t x hj).2.named hρ (bG ho (j := j) (by simp [hj]))⟩⟩
  | pool e0 e sz Q L lv more =>
    obtain ⟨b0, c0, cells0, bs, h1, h0, h2, h3, h4, h5, h6, h7, h8, h9, h10⟩ := h
    exact ⟨b0, c0, cells0, bs, h1, h0, h2, h3, h4, h5, h6, h7, fun j i hj => by rw [hρ i (ho.1 i (E4 hj))]; exact h8 j i hj, fun i hi => by rw [hρ i (ho.1 i hi)]; exact (h9 i hi).named, fun i hi => by rw [hρ i (ho.2 i hi)]; exact (h10 i hi).named⟩
def cS.own_lt {ρ : Nat -> Value} {av : Nat -> Prop} {hp : Array Obj} {own : List Nat} {o : AObj} {v : Value} (h : cS ρ av hp own o v) : ∀ b, b ∈ own -> b < hp.size := by
  intro b hb
  cases o with
  | dead => rw [h] at hb; cases hb
  | cells t cs => obtain ⟨b', vs, rfl, rfl, h', _⟩ := h; simp at hb; subst hb; exact ltB h'
  | row e sz xs => exact h.1.own_lt b hb
  | map kt et m => obtain ⟨b', es, clock, rfl, rfl, h', _⟩ := h; simp at hb; subst hb; exact ltB h'
  | mapS kt et m k st => obtain ⟨b', es, clock, rfl, rfl, h', _⟩ := h; simp at hb; subst hb; exact ltB h'
  | other b' o => obtain ⟨rfl, rfl, h'⟩ := h; simp at hb; subst hb; exact ltB h'
  | loop l rec No Eo => obtain ⟨rfl, rfl, h', _⟩ := h; simp at hb; subst hb; exact ltB h'
  | pool e0 e sz Q L lv more =>
    obtain ⟨b0, c0, cells0, bs, h1, rfl, h2, h3, h4, h5, h6, h7, _⟩ := h
    rcases A7.1 hb with rfl | hb
    . exact ltB h3
    obtain ⟨o, ho⟩ := h7 b hb; exact ltB ho
def get {α : Type} : List (Nat × α) -> Nat -> Option α
  | [], _ => none
  | (k, x) :: r, n => if k = n then some x else get r n
def put {α : Type} : List (Nat × α) -> Nat -> α -> List (Nat × α)
  | [], n, y => [(n, y)]
  | (k, x) :: r, n, y => if k = n then (n, y) :: r else (k, x) :: put r n y
def dV {α : Type} (n m : Nat) (y : α) : ∀ l : List (Nat × α), get (put l n y) m = if n = m then some y else get l m
  | [] => rfl
  | (k, x) :: r => by
    unfold put
    by_cases h : k = n
    . subst h; simp only [if_true, get]
      split <;> rfl
    simp only [h, if_false, get]
    by_cases hkm : k = m
    . subst hkm; rw [if_neg (fun e : n = k => h e.symm)]
      simp [get]
    simp only [hkm, if_false]
    exact dV n m y r
abbrev Env := List (Nat × AV)
abbrev Heap := List (Nat × AObj)
def aX (E : Env) (d : Option Nat) (x : AV) : Env := match d with | some d => (d, x) :: E | none => E
structure Conc where
  ρ : Nat -> Value
  one : ∀ i, (ρ i).oneCell' = true
  own : Nat -> List Nat
  X : Nat -> Prop
  B : Nat
def Conc.W (C : Conc) (H : Heap) (b : Nat) : Prop := ∃ i o, get H i = some o /\ b ∈ C.own i
def Conc.avoid (C : Conc) (H : Heap) (b : Nat) : Prop := C.X b ∨ C.W H b
class Globals where
  on : Nat -> Prop
  G0 : Nat -> Obj -> Prop
  cells : ∀ g o, G0 g o -> ∃ c t fr, o = .cells c t fr
variable [Globals]
structure RelH (C : Conc) (H : Heap) (U : Nat -> Prop) (w : World) : Prop where
  obj : ∀ i o, get H i = some o -> cS C.ρ (C.avoid H) w.heap (C.own i) o (C.ρ i)
  apart : ∀ i j oi oj b, i ≠ j -> get H i = some oi -> get H j = some oj -> b ∈ C.own i -> b ∈ C.own j -> False
  xapart : ∀ i o b, get H i = some o -> b ∈ C.own i -> ¬ C.X b
  xlt : ∀ b, C.X b -> b < w.heap.size
  objb : ∀ i o, get H i = some o -> U i /\ o.bel U
  gl : ∀ g, Globals.on g -> ∃ o, w.heap[g]? = some o /\ Globals.G0 g o /\ ¬ C.avoid H g
def RelH.glK {C C' : Conc} {H H' : Heap} {U : Nat -> Prop} {w w' : World} (h : RelH C H U w) (hav : ∀ b, b < w.heap.size -> C'.avoid H' b -> C.avoid H b)
    (heq : ∀ b cells t fr, w.heap[b]? = some (.cells cells t fr) -> ¬ C.avoid H b -> w'.heap[b]? = w.heap[b]?) (g : Nat) (hg : Globals.on g) : ∃ o, w'.heap[g]? = some o /\ Globals.G0 g o /\ ¬ C'.avoid H' g := by
  obtain ⟨o, h1, h2, h3⟩ := h.gl g hg
  obtain ⟨c, t, fr, rfl⟩ := Globals.cells g o h2
  exact ⟨_, (heq g c t fr h1 h3).trans h1, h2, fun q => h3 (hav g (ltB h1) q)⟩
structure Rel (C : Conc) (N : Nat) (E : Env) (H : Heap) (U : Nat -> Prop) (a : Act) (w : World) : Prop extends RelH C H U w where
  size : a.tmps.size = N
  hB : C.B <= w.heap.size
  nodup : a.defers.Nodup
  marks : ∀ d, d ∈ a.defers -> ∃ r, d = { target := .collected r, args := #[] } /\ C.B <= r /\ w.heap[r]? = some (.deferred (some [])) /\ ¬ C.avoid H r
  env : ∀ t x, get E t = some x -> t < N /\ x.bel U /\ Rep C.ρ (C.avoid H) w.heap x (a.tmps.getD t undef)
structure StepR (C : Conc) (H : Heap) (U : Nat -> Prop) (w : World) (C' : Conc) (H' : Heap) (w' : World) : Prop where
  os : w'.os = w.os
  tape : w'.tape = w.tape
  output : w'.output = w.output
  size : w.heap.size <= w'.heap.size
  keep : ∀ k, k < w.heap.size -> ¬ C.W H k -> w'.heap[k]? = w.heap[k]?
  wr : ∀ b, C'.W H' b -> C.W H b ∨ w.heap.size <= b
  X : C'.X = C.X
  B : C'.B = C.B
  ρ : ∀ i, U i -> C'.ρ i = C.ρ i
def StepR.refl (C : Conc) (H : Heap) (U : Nat -> Prop) (w : World) : StepR C H U w C H w :=
  ⟨rfl, rfl, rfl, A0 _, fun _ _ _ => rfl, fun _ h => .inl h, rfl, rfl, fun _ _ => rfl⟩
def StepR.trans {C C₁ C₂ : Conc} {H H₁ H₂ : Heap} {U U₁ : Nat -> Prop} {w w₁ w₂ : World} (hU : ∀ i, U i -> U₁ i) (h : StepR C H U w C₁ H₁ w₁) (k : StepR C₁ H₁ U₁ w₁ C₂ H₂ w₂) : StepR C H U w C₂ H₂ w₂ where
  os := k.os.trans h.os
  tape := k.tape.trans h.tape
  output := k.output.trans h.output
  size := F4 h.size k.size
  keep := fun q hq hW => by
    have h1 := h.keep q hq hW
    have h2 : ¬ C₁.W H₁ q := fun hw => by rcases h.wr q hw with h' | h'; exact hW h'; omega
    exact (k.keep q (Nat.lt_of_lt_of_le hq h.size) h2).trans h1
  wr := fun b hb => by
    rcases k.wr b hb with h' | h'
    . exact h.wr b h'
    exact .inr (F4 h.size h')
  X := k.X.trans h.X
  B := k.B.trans h.B
  ρ := fun i hi => (k.ρ i (hU i hi)).trans (h.ρ i hi)
end
end Go.Abs
end
section
open Go
namespace Go.Abs
section
variable [Globals]
variable {α : Type} {w' : World} {i n : Nat} {v : Value} {o o' : AObj} {C' : Conc} {H' : Heap} {own : List Nat} {U' : Nat -> Prop} {x : AV} {y : α}
def FW (ro : Option Nat) : Fence := { Fence.wide with round := ro }
section
variable {C : Conc} {N : Nat} {E : Env} {H : Heap} {U : Nat -> Prop} {a : Act} {w : World}
def bIh {vs : Array Value} {d t : Nat} (hd : d < vs.size) : (vs.setIfInBounds d v).getD t undef = if d = t then v else vs.getD t undef := by
  by_cases h : d = t
  . subst h; simp [hd]
  simp [h, B6, G8]
def Rel.put (h : Rel C N E H U a w) {dst : Option Nat} {r : AV} (hd : ∀ d, dst = some d -> d < N) (hr : Rep C.ρ (C.avoid H) w.heap r v) (hb : r.bel U) :
    Rel C N (aX E dst r) H U (a.put dst v) w := by
  cases dst with
  | none => exact h
  | some d =>
    have hd := hd d rfl
    refine { toRelH := h.toRelH, size := by simp [Act.put, h.size], hB := h.hB, nodup := h.nodup, marks := h.marks, env := fun t x ht => ?_ }
    simp only [aX, Abs.get] at ht
    have hs : d < a.tmps.size := by rw [h.size]; exact hd
    show t < N /\ x.bel U /\ Rep C.ρ (C.avoid H) w.heap x ((a.tmps.setIfInBounds d v).getD t undef)
    rw [bIh hs]
    by_cases e : d = t
    . simp only [e, if_true] at ht ⊢
      cases ht
      exact ⟨e ▸ hd, hb, hr⟩
    simp only [e, if_false] at ht ⊢
    exact h.env t x ht
def RelH.heap_eq (h : RelH C H U w) (e : w'.heap = w.heap) : RelH C H U w' where
  obj := by rw [e]; exact h.obj
  apart := h.apart
  xapart := h.xapart
  xlt := by rw [e]; exact h.xlt
  objb := h.objb
  gl := by rw [e]; exact h.gl
def Rel.heap_eq (h : Rel C N E H U a w) (e : w'.heap = w.heap) : Rel C N E H U a w' :=
  { toRelH := h.toRelH.heap_eq e, size := h.size, hB := by rw [e]; exact h.hB, nodup := h.nodup, marks := by rw [e]; exact h.marks, env := by rw [e]; exact h.env }
def Rel.fewer (h : Rel C N E H U a w) {E' : Env} (hE : ∀ t x, get E' t = some x -> get E t = some x) : Rel C N E' H U a w :=
  { toRelH := h.toRelH, size := h.size, hB := h.hB, nodup := h.nodup, marks := h.marks, env := fun t x ht => h.env t x (hE t x ht) }
def RelH.change (h : RelH C H U w) (hs : StepR C H U w C' H' w') (hU : ∀ i, U i -> U' i)
    (hobj : ∀ i o, get H' i = some o -> (U i /\ get H i = some o /\ C'.own i = C.own i /\ ∀ b, b ∈ C.own i -> w'.heap[b]? = w.heap[b]?) ∨
      (cS C'.ρ (C'.avoid H') w'.heap (C'.own i) o (C'.ρ i) /\ U' i /\ o.bel U'))
    (hap : ∀ i j oi oj b, i ≠ j -> get H' i = some oi -> get H' j = some oj -> b ∈ C'.own i -> b ∈ C'.own j -> False) : RelH C' H' U' w' := by
  have hav : ∀ b, b < w.heap.size -> C'.avoid H' b -> C.avoid H b := fun b hb hq => by
    rcases hq with hq | hq
    . exact .inl (by rw [<- hs.X]; exact hq)
    rcases hs.wr b hq with h1 | h1
    . exact .inr h1
    omega
  have heq : ∀ b, b < w.heap.size -> ¬ C.avoid H b -> w'.heap[b]? = w.heap[b]? := fun b hb hn => hs.keep b hb (fun q => hn (.inr q))
  refine { obj := fun i o hi => ?_, apart := hap, xapart := fun i o b hi hb hx => ?_, xlt := fun b hx => ?_, objb := fun i o hi => ?_, gl := h.glK hav fun b _ _ _ hb hn => heq b (ltB hb) hn }
  . rcases hobj i o hi with ⟨hu, h1, h2, h3⟩ | ⟨h1, _⟩
    . rw [h2, hs.ρ i hu]
      exact ((h.obj i o h1).mono hav heq h3).named hs.ρ (h.objb i o h1).2
    exact h1
  . rw [hs.X] at hx
    rcases hs.wr b ⟨i, o, hi, hb⟩ with ⟨j, o', hj, hb'⟩ | h1
    . exact h.xapart j o' b hj hb' hx
    have := h.xlt b hx; omega
  . rw [hs.X] at hx
    exact Nat.lt_of_lt_of_le (h.xlt b hx) hs.size
  rcases hobj i o hi with ⟨hu, h1, _⟩ | ⟨_, h1⟩
  . exact ⟨hU i hu, AObj.bel_mono hU o (h.objb i o h1).2⟩
  exact h1
def Rep.step (h : RelH C H U w) (hs : StepR C H U w C' H' w') (hx : x.bel U) (hr : Rep C.ρ (C.avoid H) w.heap x v) : Rep C'.ρ (C'.avoid H') w'.heap x v := by
  refine (hr.mono (fun b hb hq => ?_) (fun b hb hn => hs.keep b hb (fun q => hn (.inr q)))).named hs.ρ hx
  rcases hq with hq | hq
  . exact .inl (by rw [<- hs.X]; exact hq)
  rcases hs.wr b hq with h1 | h1
  . exact .inr h1
  omega
def Rel.change (h : Rel C N E H U a w) (hs : StepR C H U w C' H' w') (hU : ∀ i, U i -> U' i) (hH : RelH C' H' U' w') : Rel C' N E H' U' a w' := by
  refine { toRelH := hH, size := h.size, hB := (by rw [hs.B]; exact F4 h.hB hs.size), nodup := h.nodup, marks := fun d hd => ?_, env := fun t x ht => ?_ }
  . obtain ⟨r, h1, h2, h3, h4⟩ := h.marks d hd
    have hlt := ltB h3
    refine ⟨r, h1, by rw [hs.B]; exact h2, (hs.keep r hlt (fun q => h4 (.inr q))).trans h3, fun q => h4 ?_⟩
    rcases q with q | q
    . exact .inl (by rw [<- hs.X]; exact q)
    rcases hs.wr r q with h5 | h5
    . exact .inr h5
    omega
  obtain ⟨h1, h2, h3⟩ := h.env t x ht
  exact ⟨h1, AV.bel_mono hU x h2, h3.step h.toRelH hs h2⟩
def upd (f : Nat -> α) (i : Nat) (x : α) : Nat -> α := fun j => if j = i then x else f j
def dD (f : Nat -> α) (i : Nat) (x : α) : upd f i x i = x := by simp [upd]
def bX (f : Nat -> α) {i j : Nat} (x : α) (h : j ≠ i) : upd f i x j = f j := by simp [upd, h]
def aIx {f : Nat -> Value} (h : ∀ j, (f j).oneCell' = true) (hv : v.oneCell' = true) (j : Nat) : (upd f i v j).oneCell' = true := by
  unfold upd; split
  . exact hv
  exact h j
def Conc.new (C : Conc) (i : Nat) (v : Value) (own : List Nat) (hv : v.oneCell' = true) : Conc := { C with ρ := upd C.ρ i v, one := aIx C.one hv, own := upd C.own i own }
def eX {l : List (Nat × α)} {n m : Nat} (h : m ≠ n) : get (put l n y) m = get l m := by rw [dV, if_neg (fun e => h e.symm)]
def aBr {l : List (Nat × α)} : get (put l n y) n = some y := by rw [dV, if_pos rfl]
def StepR.new (h : RelH C H U w) (ho : w'.os = w.os) (ht : w'.tape = w.tape) (hout : w'.output = w.output) (hsz : w.heap.size <= w'.heap.size)
    (hk : ∀ k, k < w.heap.size -> w'.heap[k]? = w.heap[k]?) (hi : ¬ U i) (hv : v.oneCell' = true) (hown : ∀ b, b ∈ own -> w.heap.size <= b) (o : AObj) :
    StepR C H U w (C.new i v own hv) (Abs.put H i o) w' where
  os := ho
  tape := ht
  output := hout
  size := hsz
  keep := fun k hk' _ => hk k hk'
  wr := fun b ⟨j, oj, hj, hb⟩ => by
    by_cases e : j = i
    . subst e
      exact .inr (hown b (by simpa [Conc.new, dD] using hb))
    rw [eX e] at hj
    exact .inl ⟨j, oj, hj, by simpa [Conc.new, bX _ _ e] using hb⟩
  X := rfl
  B := rfl
  ρ := fun j hj => bX _ _ (fun e => hi (e ▸ hj))
def RelH.new (h : RelH C H U w) (ho : w'.os = w.os) (ht : w'.tape = w.tape) (hout : w'.output = w.output) (hsz : w.heap.size <= w'.heap.size)
    (hk : ∀ k, k < w.heap.size -> w'.heap[k]? = w.heap[k]?) (hi : ¬ U i) (hv : v.oneCell' = true) (hown : ∀ b, b ∈ own -> w.heap.size <= b) 
    (hr : cS (upd C.ρ i v) ((C.new i v own hv).avoid (Abs.put H i o)) w'.heap own o v) (hb : o.bel (fun j => U j ∨ j = i)) :
    RelH (C.new i v own hv) (Abs.put H i o) (fun j => U j ∨ j = i) w' := by
  refine h.change (StepR.new h ho ht hout hsz hk hi hv hown o) (fun j hj => .inl hj) (fun j oj hj => ?_) (fun j k oj ok b hne hj hk' hbj hbk => ?_)
  . by_cases e : j = i
    . subst e; rw [aBr] at hj; cases hj
      refine .inr ⟨?_, .inr rfl, hb⟩
      simpa [Conc.new, dD] using hr
    rw [eX e] at hj
    refine .inl ⟨(h.objb j oj hj).1, hj, by simp [Conc.new, bX _ _ e], fun b hb' => hk b ((h.obj j oj hj).own_lt b hb')⟩
  by_cases e : j = i
  . subst e
    have hk2 : k ≠ j := fun e' => hne e'.symm
    rw [eX hk2] at hk'
    have h1 := hown b (by simpa [Conc.new, dD] using hbj)
    have h2 := (h.obj k ok hk').own_lt b (by simpa [Conc.new, bX _ _ hk2] using hbk)
    omega
  rw [eX e] at hj
  by_cases e' : k = i
  . subst e'
    have h1 := hown b (by simpa [Conc.new, dD] using hbk)
    have h2 := (h.obj j oj hj).own_lt b (by simpa [Conc.new, bX _ _ e] using hbj)
    omega
  rw [eX e'] at hk'
  exact h.apart j k oj ok b hne hj hk' (by simpa [Conc.new, bX _ _ e] using hbj) (by simpa [Conc.new, bX _ _ e'] using hbk)
def Rep.behind_new (h : RelH C H U w) (ho : w'.os = w.os) (ht : w'.tape = w.tape) (hout : w'.output = w.output) (hsz : w.heap.size <= w'.heap.size)
    (hk : ∀ k, k < w.heap.size -> w'.heap[k]? = w.heap[k]?) (hi : ¬ U i) (hv : v.oneCell' = true) (hown : ∀ b, b ∈ own -> w.heap.size <= b) (o : AObj) {u : Value} (hx : x.bel U)
    (hr : Rep C.ρ (C.avoid H) w.heap x u) : Rep (upd C.ρ i v) ((C.new i v own hv).avoid (Abs.put H i o)) w'.heap x u :=
  hr.step h (StepR.new h ho ht hout hsz hk hi hv hown o) hx
def StepR.inPlace (h : RelH C H U w) (ho : w'.os = w.os) (ht : w'.tape = w.tape) (hout : w'.output = w.output) (hsz : w'.heap.size = w.heap.size)
    (hi : get H i = some o) (hk : ∀ k, k ∉ C.own i -> w'.heap[k]? = w.heap[k]?) : StepR C H U w C (Abs.put H i o') w' where
  os := ho
  tape := ht
  output := hout
  size := by omega
  keep := fun k _ hW => hk k (fun hb => hW ⟨i, o, hi, hb⟩)
  wr := fun b ⟨j, oj, hj, hb⟩ => by
    by_cases e : j = i
    . subst e; exact .inl ⟨j, o, hi, hb⟩
    rw [eX e] at hj; exact .inl ⟨j, oj, hj, hb⟩
  X := rfl
  B := rfl
  ρ := fun _ _ => rfl
def bPy (C : Conc) {H : Heap} (hi : get H i = some o) (b : Nat) : C.W (Abs.put H i o') b ↔ C.W H b := by
  constructor
  . rintro ⟨j, oj, hj, hb⟩
    by_cases e : j = i
    . subst e; exact ⟨j, o, hi, hb⟩
    rw [eX e] at hj; exact ⟨j, oj, hj, hb⟩
  rintro ⟨j, oj, hj, hb⟩
  by_cases e : j = i
  . subst e; exact ⟨j, o', aBr, hb⟩
  exact ⟨j, oj, by rw [eX e]; exact hj, hb⟩
def bFx (C : Conc) {H : Heap} (hi : get H i = some o) : C.avoid (Abs.put H i o') = C.avoid H := by
  funext b
  exact propext (or_congr Iff.rfl (bPy C hi b))
def RelH.inPlace (h : RelH C H U w) (ho : w'.os = w.os) (ht : w'.tape = w.tape) (hout : w'.output = w.output) (hsz : w'.heap.size = w.heap.size)
    (hi : get H i = some o) (hk : ∀ k, k ∉ C.own i -> w'.heap[k]? = w.heap[k]?) (hr : cS C.ρ (C.avoid H) w'.heap (C.own i) o' (C.ρ i)) (hb : o'.bel U) : RelH C (Abs.put H i o') U w' := by
  refine h.change (StepR.inPlace h ho ht hout hsz hi hk) (fun _ hj => hj) (fun j oj hj => ?_) (fun j k oj ok b hne hj hk' hbj hbk => ?_)
  . by_cases e : j = i
    . subst e; rw [aBr] at hj; cases hj
      exact .inr ⟨by rw [bFx C hi]; exact hr, (h.objb j o hi).1, hb⟩
    rw [eX e] at hj
    exact .inl ⟨(h.objb j oj hj).1, hj, rfl, fun b hb' => hk b (fun hb2 => h.apart j i oj o b e hj hi hb' hb2)⟩
  have aux : ∀ q oq, get (Abs.put H i o') q = some oq -> ∃ oq', get H q = some oq' := fun q oq hq => by
    by_cases e : q = i
    . subst e; exact ⟨o, hi⟩
    rw [eX e] at hq; exact ⟨oq, hq⟩
  obtain ⟨oj', hj'⟩ := aux j oj hj
  obtain ⟨ok', hk2⟩ := aux k ok hk'
  exact h.apart j k oj' ok' b hne hj' hk2 hbj hbk
end
end
section
variable [Globals]
variable {r : AV} {n f : Nat} {args : Array Value} {x : Operand}
def bPq (ro : Option Nat) (f : FuncId) : (FW ro).fn f := trivial
def Op.noDefer : Op -> Bool
  | .defer _ => false
  | _ => true
section
variable {P : Program} {ro : Option Nat} {N : Nat} {o : Oper} {a : Act} {w w' : World} {next : Act -> World -> Prop} {Q : Exit -> Act -> World -> Prop}
def sT (hd : Op.noDefer o.op = true) : Oper.semAt (FW ro).round a.eval o = execOp a.eval o :=
  Oper.semAt_eq _ _ _ (fun c hc => by rw [hc] at hd; cases hd)
def eW {v : Value} (hd : Op.noDefer o.op = true) (hr : (execOp a.eval o).run P w = .ok (.value v) w') (h : next (a.put o.dst v) w') : o.wpIn (FW ro) 0 P a w next Q :=
  ⟨fun _ _ => trivial, by rw [sT hd, hr]; exact h⟩
def rG (hd : Op.noDefer o.op = true) (hr : (execOp a.eval o).run P w = .ok .skip w') (h : next (a.put o.dst undef) w') : o.wpIn (FW ro) 0 P a w next Q :=
  ⟨fun _ _ => trivial, by rw [sT hd, hr]; exact h⟩
def aMo {R : Ending -> World -> Prop} (h : Calls P f args w R) : CallsIn (FW ro) n P f args w R :=
  ⟨trivial, fun cs _ => let ⟨e, w', fr, r, s, x⟩ := h cs; ⟨e, w', fr, r, by
    cases ro with
    | none => exact comesIn_wide.2 s
    | some l => exact (show ComesIn (Machine.fenced P Fence.wide) P _ _ e from comesIn_wide.2 s), x⟩⟩
def bKh {R : Ending -> World -> Prop} (h : CallsIn (FW none) n P f args w R) : Calls P f args w R := callsIn_wide.1 h
end
def OpT (P : Program) (ro : Option Nat) (N : Nat) (o : Oper) (E : Env) (H : Heap) (U : Nat -> Prop) (E' : Env) (H' : Heap) (U' : Nat -> Prop) : Prop :=
  ∀ (C : Conc) (a : Act) (w : World) (next : Act -> World -> Prop) (Q : Exit -> Act -> World -> Prop), Rel C N E H U a w ->
    (∀ C' a' w', Rel C' N E' H' U' a' w' -> StepR C H U w C' H' w' -> next a' w') -> o.wpIn (FW ro) 0 P a w next Q
def opv (E : Env) : Operand -> Option AV
  | .tmp t => get E t
  | .const v => some (.raw v)
  | .global g => some (.raw (.pointer (some ⟨g, 0, none⟩)))
  | .func f => some (.fn (.func f) [] [])
section
variable {P : Program} {ro : Option Nat} {N : Nat} {o : Oper} {E : Env} {H : Heap} {U : Nat -> Prop} {C : Conc} {a : Act} {w : World}
def Rel.opv (h : Rel C N E H U a w) (hx : opv E x = some r) : Rep C.ρ (C.avoid H) w.heap r (a.eval x) /\ r.bel U := by
  cases x with
  | tmp t =>
    obtain ⟨_, h2, h3⟩ := h.env t r hx
    exact ⟨h3, h2⟩
  | const v => simp only [Abs.opv, B9] at hx; subst hx; exact ⟨.raw v, trivial⟩
  | global g => simp only [Abs.opv, B9] at hx; subst hx; exact ⟨.raw _, trivial⟩
  | func f =>
    simp only [Abs.opv, B9] at hx
    subst hx
    exact ⟨.fn _ _ _ _ _ rfl (fun j x hj => by simp at hj) rfl (fun j x hj => by simp at hj), trivial, trivial⟩
def aT (hd : Op.noDefer o.op = true) (hN : oD o N)
    (h : ∀ C a w, Rel C N E H U a w -> r.bel U /\ ∃ v, (execOp a.eval o).run P w = .ok (.value v) w /\ Rep C.ρ (C.avoid H) w.heap r v) : OpT P ro N o E H U (aX E o.dst r) H U := by
  intro C a w next Q hR hK
  obtain ⟨hb, v, hrun, hr⟩ := h C a w hR
  exact eW hd hrun (hK C _ w (hR.put hN hr hb) (StepR.refl C H U w))
def aIt {nw : Nat} {ob : AObj} (hd : Op.noDefer o.op = true) (hN : oD o N) (hnw : ¬ U nw) (hob : ob.bel U) (hrb : r.bel (fun j => U j ∨ j = nw))
    (h : ∀ C a w, Rel C N E H U a w -> ∃ v ro' val own, val.oneCell' = true /\ (execOp a.eval o).run P w = .ok (.value v) (w.alloc ro') /\ (∀ b, b ∈ own -> w.heap.size <= b) /\
      (∀ (ρ : Nat -> Value) (av : Nat -> Prop), (∀ x u, x.bel U -> Rep C.ρ (C.avoid H) w.heap x u -> Rep ρ av (w.alloc ro').heap x u) -> cS ρ av (w.alloc ro').heap own ob val /\ (ρ nw = val -> Rep ρ av (w.alloc ro').heap r v))) :
    OpT P ro N o E H U (aX E o.dst r) (put H nw ob) (fun j => U j ∨ j = nw) := by
  intro C a w next Q hR hK
  obtain ⟨v, ro', val, own, hval, hrun, hown, hrep⟩ := h C a w hR
  have hk : ∀ k, k < w.heap.size -> (w.alloc ro').heap[k]? = w.heap[k]? := fun k hk => RowKit.Below.heap_alloc w ro' k hk
  have hsz : w.heap.size <= (w.alloc ro').heap.size := by simp
  have hold : ∀ x u, x.bel U -> Rep C.ρ (C.avoid H) w.heap x u -> Rep (upd C.ρ nw val) ((C.new nw val own hval).avoid (put H nw ob)) (w.alloc ro').heap x u :=
    fun x u hx hr => Rep.behind_new (w' := w.alloc ro') hR.toRelH rfl rfl rfl hsz hk hnw hval hown ob hx hr
  obtain ⟨h1, h2⟩ := hrep _ _ hold
  have hs := StepR.new (U := U) (w' := w.alloc ro') hR.toRelH rfl rfl rfl hsz hk hnw (v := val) hval hown ob
  have hH := RelH.new (w' := w.alloc ro') hR.toRelH rfl rfl rfl hsz hk hnw hval hown h1 (AObj.bel_mono (fun _ hj => .inl hj) ob hob)
  have hR' : Rel (C.new nw val own hval) N E (put H nw ob) (fun j => U j ∨ j = nw) a (w.alloc ro') := hR.change hs (fun _ hj => .inl hj) hH
  exact eW hd hrun (hK _ _ _ (hR'.put hN (h2 (dD _ _ _)) hrb) hs)
def aZd (ho : o.op = .move x ∨ o.op = .assign x) (hx : opv E x = some r) (hN : oD o N) : OpT P ro N o E H U (aX E o.dst r) H U := by
  refine aT (by rcases ho with ho | ho <;> simp [ho, Op.noDefer]) hN fun C a w hR => ?_
  obtain ⟨h1, h2⟩ := hR.opv hx
  exact ⟨h2, _, by rcases ho with ho | ho <;> simp [execOp, ho], h1⟩
end
end
section
variable [Globals]
variable {α : Type} {off sz i b n j esz : Nat} {ag : Bool} {av : Nat -> Prop} {hp : Array Obj} {v u : Value} {t tt t0 : TypeId} {r x el : AV} {ρ : Nat -> Value} {cs ys xs : List AV} {w : World} {cells : Array Value} {C : Conc} {ow : List Nat}
def AV.sc : AV -> Bool
  | .raw v => v.oneCell'
  | .any | .agg _ | .tup _ | .when _ _ | .own _ _ _ => false
  | _ => true
def Rep.sc (h : Rep ρ av hp x v) (hone : ∀ i, (ρ i).oneCell' = true) (hx : x.sc = true) : v.oneCell' = true := by
  cases h <;> first | (simp [AV.sc] at hx; done) | rfl | exact hone _ | simpa [AV.sc] using hx
def dK (h : v.oneCell' = true) : v.cells = #[v] := by cases v <;> first | rfl | (simp [Value.oneCell'] at h)
def gF (x : AV) (off n : Nat) (ag : Bool) : Option AV :=
  match x with
  | .agg cs => if ag then (if off + n <= cs.length then some (.agg ((cs.drop off).take n)) else none) else (if n = 1 then cs[off]? else none)
  | x => if ag then none else if off = 0 /\ n = 1 /\ x.sc = true then some x else none
def lC (v : Value) (off n : Nat) (ag : Bool) : Value :=
  if ag then .agg ((List.range n).map fun k => v.cells.getD (off + k) undef).toArray else v.cells.getD off undef
def sB {U : Nat -> Prop} (h : Rep ρ av hp x v) (hone : ∀ i, (ρ i).oneCell' = true) (hx : x.bel U) (hr : gF x off n ag = some r) :
    Rep ρ av hp r (lC v off n ag) /\ r.bel U /\ off + n <= v.cells.size := by
  cases x with
  | agg cs =>
    cases h with
    | agg _ vs hn hrep =>
      cases ag with
      | true =>
        simp only [gF, if_true] at hr
        split at hr
        . rename_i hle
          cases hr
          refine ⟨?_, ?_, by show off + n <= vs.size; omega⟩
          . refine .agg _ _ (by simp; omega) fun j y hj => ?_
            have hjn : j < n := by
              rcases Nat.lt_or_ge j n with h1 | h1
              . exact h1
              simp [F7, show ¬ j < n by omega] at hj
            rw [F7, if_pos hjn, H4] at hj
            have h2 := hrep _ y hj
            simpa [B6, hjn, Value.cells] using h2
          show aK U _
          rw [bLi]; intro y hy
          have : y ∈ cs := D0 (C9 hy)
          exact bLi.1 hx y this
        cases hr
      | false =>
        simp only [gF, if_false, C4] at hr
        split at hr
        . rename_i hn1
          subst hn1
          refine ⟨by simpa [lC, Value.cells] using hrep _ r hr, bG hx hr, ?_⟩
          have := (B2.1 hr).1
          show off + 1 <= vs.size
          omega
        cases hr
  | _ =>
    cases ag with
    | true => simp [gF] at hr
    | false =>
      simp only [gF, if_false, C4] at hr
      split at hr
      . rename_i hc
        obtain ⟨rfl, rfl, hsc⟩ := hc
        cases hr
        have h1 := dK (h.sc hone hsc)
        refine ⟨by simpa [lC, h1] using h, hx, by simp [h1]⟩
      cases hr
def bOv : TypeDesc -> Bool
  | .struct _ | .array _ _ => true
  | _ => false
structure VarT (P : Program) (t : TypeId) (sz : Nat) (ag : Bool) : Prop where
  info : (P.info? t).map (·.size) = some sz
  und : (P.underlying t).map bOv = some ag
def VarT.run_size {P : Program} (h : VarT P t sz ag) (w : World) : (sizeOf t).run P w = .ok sz w := by
  obtain ⟨i, hi, hs⟩ := B0.1 h.info
  simp [sizeOf, typeInfo, hi, hs]
def VarT.run_agg {P : Program} (h : VarT P t sz ag) (w : World) : (isAgg t).run P w = .ok ag w := by
  obtain ⟨d, hd, ha⟩ := B0.1 h.und
  unfold isAgg; rw [Sem.run_bind, run_underlying hd w, <- ha]
  cases d <;> rfl
def jU (b o n : Nat) : (⟨b, o, none⟩ : Addr).add n = ⟨b, o + n, none⟩ := by unfold Addr.add; split <;> simp_all
def qJ {P : Program} (h : VarT P t sz ag) {fr : Nat × Nat} (hg : w.heap[b]? = some (.cells cells tt fr))
    {o : Nat} (hc : ∀ k, k < sz -> cells[off + k]? = v.cells[o + k]?) (hle : o + sz <= v.cells.size) (h1 : ag = false -> 0 < sz) :
    (loadVar t ⟨b, off, none⟩).run P w = .ok (lC v o sz ag) w := by
  have hcell : ∀ k, k < sz -> w.cell? (⟨b, off + k, none⟩ : Addr) = some (v.cells.getD (o + k) undef) := fun k hk => by
    rw [cell_of_row w b (off + k) cells tt fr hg, hc k hk]
    simp [B6, D3 (show o + k < v.cells.size by omega)]
  unfold loadVar; rw [Sem.run_bind, h.run_agg w]
  cases ag with
  | true =>
    have hl := run_loadCells (P := P) w ⟨b, off, none⟩ sz (fun k => v.cells.getD (o + k) undef) (fun k hk => by rw [jU]; exact hcell k hk)
    simp [Sem.run_bind, h.run_size w, hl, lC]
  | false =>
    have := hcell 0 (h1 rfl)
    simp at this
    simp [this, lC]
section
variable {P : Program} {ro : Option Nat} {N : Nat} {o : Oper} {E : Env} {H : Heap} {U : Nat -> Prop}
def rN (h : gF x off n ag = some r) (ha : ag = false) : n = 1 := by
  subst ha
  cases x <;> simp [gF] at h <;> first | exact h.1.1 | exact h.1.2.1 | omega
def aMz {x : Operand} (ho : o.op = .load t x) (hN : oD o N) (hv : VarT P t sz ag)
    (hx : opv E x = some (.ptr i off)) (hH : get H i = some (.cells t0 cs)) (hr : gF (.agg cs) off sz ag = some r) : OpT P ro N o E H U (aX E o.dst r) H U := by
  refine aT (by simp [ho, Op.noDefer]) hN fun C a w hR => ?_
  obtain ⟨h1, _⟩ := hR.opv hx
  obtain ⟨b, vs, hval, _, hb, hrep⟩ := hR.obj i _ hH
  obtain ⟨hr1, hr2, hr3⟩ := sB (v := .agg vs) (.agg cs vs hrep.1 hrep.2) C.one (U := U) (hR.objb i _ hH).2 hr
  have hev : a.eval x = .pointer (some ⟨b, off, none⟩) := by
    generalize a.eval x = u at h1
    cases h1 with
    | ptr _ _ b' hb' => rw [hval] at hb'; simp [blk] at hb'; rw [<- hb']
  refine ⟨hr2, _, ?_, hr1⟩
  have := qJ (P := P) (w := w) hv hb (v := .agg vs) (o := off) (off := off) (fun k _ => rfl) hr3 (fun e => by rw [rN hr e]; omega)
  simp [execOp, ho, hev, Instr.loadAt, Instr.sureAddr, this]
def aJc (h : Rep C.ρ av hp (.ptr i off) u) (hb : blk (C.ρ i) = some b) : u = .pointer (some ⟨b, off, none⟩) := by
  cases h with
  | ptr _ _ b' hb' => rw [hb] at hb'; cases hb'; rfl
def yW (h : Rep C.ρ av hp (.ep i sz j off) u) (hb : blk (C.ρ i) = some b) : u = .pointer (some ⟨b, j * sz + off, none⟩) := by
  cases h with
  | ep _ _ _ _ b' hb' => rw [hb] at hb'; cases hb'; rfl
mutual
def AV.free : AV -> Bool
  | .own _ _ _ => false
  | .agg cs => aWq cs
  | _ => true
def aWq : List AV -> Bool
  | [] => true
  | x :: xs => x.free && aWq xs
end
def aFr : ∀ {xs : List AV}, aWq xs = true -> ∀ {j : Nat} {x : AV}, xs[j]? = some x -> x.free = true
  | [], _, j, x, h => by simp at h
  | y :: ys, hf, j, x, h => by
    simp only [aWq, B7] at hf
    cases j with
    | zero => simp at h; subst h; exact hf.1
    | succ j => exact aFr hf.2 (by simpa using h)
def RepO.free (h : RepO ρ av hp x v ow) (hx : x.free = true) : Rep ρ av hp x v := by
  induction h with
  | leaf x v h => exact h
  | agg cs vs ows hn _ ih => exact .agg cs vs hn fun j x hj => ih j x hj (aFr (by simpa [AV.free] using hx) hj)
  | own0 e sz => simp [AV.free] at hx
  | own e sz xs b c cells vals ows hh hs hc hm _ hcells ih => simp [AV.free] at hx
def aYw {U : Nat -> Prop} (h : RepO ρ av hp x v ow) (hone : ∀ i, (ρ i).oneCell' = true) (hx : x.bel U) (hr : gF x off n ag = some r) (hf : r.free = true) :
    Rep ρ av hp r (lC v off n ag) /\ r.bel U /\ off + n <= v.cells.size := by
  cases h with
  | leaf _ _ h => exact sB h hone hx hr
  | agg cs vs ows hn hrep =>
    cases ag with
    | true =>
      simp only [gF, if_true] at hr
      split at hr
      . rename_i hle
        cases hr
        refine ⟨?_, ?_, by show off + n <= vs.size; omega⟩
        . refine .agg _ _ (by simp; omega) fun j y hj => ?_
          have hfy := aFr (by simpa [AV.free] using hf) hj
          have hjn : j < n := by
            rcases Nat.lt_or_ge j n with h1 | h1
            . exact h1
            simp [F7, show ¬ j < n by omega] at hj
          rw [F7, if_pos hjn, H4] at hj
          have h2 := (hrep _ y hj).free hfy
          simpa [B6, hjn, Value.cells] using h2
        show aK U _
        rw [bLi]; intro y hy
        have : y ∈ cs := D0 (C9 hy)
        exact bLi.1 hx y this
      cases hr
    | false =>
      simp only [gF, if_false, C4] at hr
      split at hr
      . rename_i hn1
        subst hn1
        refine ⟨by simpa [lC, Value.cells] using (hrep _ r hr).free hf, bG hx hr, ?_⟩
        have := (B2.1 hr).1
        show off + 1 <= vs.size
        omega
      cases hr
  | own0 e sz => cases ag <;> simp [gF, AV.sc] at hr
  | own e sz xs b c cells vals ows => cases ag <;> simp [gF, AV.sc] at hr
def aTs {t e : TypeId} {x : Operand} (ho : o.op = .load t x) (hN : oD o N) (hv : VarT P t sz ag)
    (hx : opv E x = some (.ep i esz j off)) (hH : get H i = some (.row e esz xs)) (hj : xs[j]? = some el) (hr : gF el off sz ag = some r) (hf : r.free = true) : OpT P ro N o E H U (aX E o.dst r) H U := by
  refine aT (by simp [ho, Op.noDefer]) hN fun C a w hR => ?_
  obtain ⟨h1, _⟩ := hR.opv hx
  have hlt := (B2.1 hj).1
  obtain ⟨hO, _⟩ := hR.obj i _ hH
  have hbel := (hR.objb i _ hH).2
  generalize hval : C.ρ i = vv at hO
  generalize C.own i = oo at hO
  cases hO with
  | leaf _ _ h => cases h
  | own0 => simp at hj
  | own _ _ _ b c cells vals ows hb hs hc hm hrep hcells =>
    obtain ⟨hs, hk⟩ := hcells j hlt
    obtain ⟨hr1, hr2, hr3⟩ := aYw (hrep j el hj) C.one (U := U) (bG hbel hj) hr hf
    have hev := yW h1 (b := b) (by rw [hval]; rfl)
    refine ⟨hr2, _, ?_, hr1⟩
    have := qJ (P := P) (w := w) hv hb (v := vals j) (o := off) (off := j * esz + off) (fun k hk' => by
      have := hk (off + k) og
      rwa [C3, <- Nat.add_assoc] at this) hr3 (fun e => by rw [rN hr e]; omega)
    simp [execOp, ho, hev, Instr.loadAt, Instr.sureAddr, this]
def aZb {x : Operand} (ho : o.op = .load t x) (hN : oD o N) (hv : VarT P t sz ag)
    (hx : opv E x = some (.fp esz xs j off)) (hj : xs[j]? = some el) (hr : gF el off sz ag = some r) : OpT P ro N o E H U (aX E o.dst r) H U := by
  refine aT (by simp [ho, Op.noDefer]) hN fun C a w hR => ?_
  obtain ⟨h1, h2⟩ := hR.opv hx
  have hlt := (B2.1 hj).1
  generalize hev : a.eval x = u at h1
  cases h1 with
  | fp _ _ _ _ b off0 cells tt fr vals _ hb hrep hcells =>
    obtain ⟨hs, hk⟩ := hcells j hlt
    obtain ⟨hr1, hr2, hr3⟩ := sB (hrep j el hj) C.one (U := U) (bG h2 hj) hr
    refine ⟨hr2, _, ?_, hr1⟩
    have := qJ (P := P) (w := w) hv hb (v := vals j) (o := off) (off := off0 + j * esz + off) (fun k hk' => by
      have := hk (off + k) og
      rwa [<- Nat.add_assoc] at this) hr3 (fun e => by rw [rN hr e]; omega)
    simp [execOp, ho, hev, Instr.loadAt, Instr.sureAddr, this]
def vQ (x : AV) : Option (List AV) :=
  match x with
  | .agg cs => if cs.all AV.sc then some cs else none
  | x => if x.sc then some [x] else none
def uW {U : Nat -> Prop} (h : Rep ρ av hp x v) (hone : ∀ i, (ρ i).oneCell' = true) (hx : x.bel U) (hy : vQ x = some ys) :
    eG ρ av hp ys v.cells /\ aK U ys /\ ∀ u ∈ v.cells.toList, u.oneCell' = true := by
  cases x with
  | agg cs =>
    cases h with
    | agg _ vs hn hrep =>
      simp only [vQ] at hy
      split at hy
      . rename_i hall
        cases hy
        refine ⟨⟨hn, hrep⟩, hx, fun u hu => ?_⟩
        obtain ⟨k, hk⟩ := F8 hu
        have hk' : vs[k]? = some u := by rw [<- D5]; exact hk
        have hlt := (Array.getElem?_eq_some_iff.1 hk').1
        have hc : ys[k]? = some (ys[k]'og) := A1 og
        have h1 := hrep k _ hc
        rw [B6, hk'] at h1
        exact h1.sc hone (C7.1 hall _ (E4 hc))
      cases hy
  | _ =>
    simp only [vQ] at hy
    split at hy
    . rename_i hsc
      cases hy
      have h1 := h.sc hone hsc
      rw [dK h1]
      refine ⟨⟨rfl, fun j y hj => ?_⟩, ⟨hx, trivial⟩, fun u hu => by simp at hu; subst hu; exact h1⟩
      cases j with
      | zero => simp at hj; subst hj; simpa using h
      | succ j => simp at hj
    cases hy
def bN (cs : List α) (off : Nat) (ys : List α) : List α := cs.take off ++ ys ++ cs.drop (off + ys.length)
def jX (cs : List α) (off : Nat) (ys : List α) (hle : off + ys.length <= cs.length) (k : Nat) :
    (bN cs off ys)[k]? = if k < off then cs[k]? else if k < off + ys.length then ys[k - off]? else cs[k]? := by
  unfold bN
  have hl : (cs.take off).length = off := by simp; omega
  by_cases h1 : k < off
  . rw [if_pos h1, F5, G3 og, F7, if_pos h1]
  rw [if_neg h1, F5, G4 og, hl]
  by_cases h2 : k < off + ys.length
  . rw [if_pos h2, G3 og]
  rw [if_neg h2, G4 og, H4]
  congr 1
  omega
def iL (cs : List α) (off : Nat) (ys : List α) (hle : off + ys.length <= cs.length) : (bN cs off ys).length = cs.length := by
  simp [bN]; omega
def aGt {vs us : Array Value} (h : eG ρ av hp cs vs) (hy : eG ρ av hp ys us) (hle : off + ys.length <= cs.length) :
    eG ρ av hp (bN cs off ys) (bN vs.toList off us.toList).toArray := by
  have hul : us.toList.length = ys.length := by simp [hy.1]
  have hvl : vs.toList.length = cs.length := by simp [h.1]
  refine ⟨by rw [iL _ _ _ hle]; show (bN _ _ _).toArray.size = _; rw [List.size_toArray, iL _ _ _ og, hvl], fun j x hj => ?_⟩
  rw [jX _ _ _ hle] at hj
  have hg : ∀ k, (bN vs.toList off us.toList).toArray[k]? = if k < off then vs[k]? else if k < off + ys.length then us[k - off]? else vs[k]? := fun k => by
    rw [List.getElem?_toArray, jX _ _ _ og, hul]
    simp
  rw [B6, hg]
  by_cases h1 : j < off
  . simp only [h1, if_true] at hj ⊢
    simpa [B6] using h.2 j x hj
  by_cases h2 : j < off + ys.length
  . simp only [h1, h2, if_true, if_false] at hj ⊢
    simpa [B6] using hy.2 _ x hj
  simp only [h1, h2, if_false] at hj ⊢
  simpa [B6] using h.2 j x hj
def aGx {U : Nat -> Prop} (h : aK U cs) (hy : aK U ys) : aK U (bN cs off ys) := by
  rw [bLi] at h hy ⊢
  intro x hx
  simp only [bN, A6] at hx
  rcases hx with (hx | hx) | hx
  . exact h x (C9 hx)
  . exact hy x hx
  exact h x (D0 hx)
def vA (h : VarT P t sz ag) (hg : w.heap[b]? = some (.cells cells tt (0, 0))) (hs : v.cells.size = sz)
    (h1 : ∀ u ∈ v.cells.toList, u.oneCell' = true) (hle : off + sz <= cells.size) :
    (storeVar t ⟨b, off, none⟩ v).run P w = .ok () (w.setRow b (bN cells.toList off v.cells.toList).toArray) := by
  have hst := run_storeCells_at P b off tt v.cells.toList 0 cells w hg (by simp; omega) h1
  unfold storeVar; rw [Sem.run_bind, h.run_size w]; simp only [Result.andThen_ok]; rw [if_neg (by simpa using hs)]
  simpa [bN] using hst
def aHw {x y : Operand} (ho : o.op = .store t x y) (hN : oD o N) (hv : VarT P t sz ag)
    (hx : opv E x = some (.ptr i off)) (hH : get H i = some (.cells t0 cs)) (hy : opv E y = some r) (hys : vQ r = some ys) (hsz : ys.length = sz) (hle : off + sz <= cs.length) :
    OpT P ro N o E H U (aX E o.dst (.raw undef)) (put H i (.cells t0 (bN cs off ys))) U := by
  intro C a w next Q hR hK
  obtain ⟨h1, _⟩ := hR.opv hx
  obtain ⟨h2, h2b⟩ := hR.opv hy
  obtain ⟨b, vs, hval, hown, hb, hrep⟩ := hR.obj i _ hH
  obtain ⟨hy1, hy2, hy3⟩ := uW h2 C.one h2b hys
  have hev := aJc h1 (b := b) (by rw [hval]; rfl)
  have hrun := vA (P := P) (w := w) hv hb (v := a.eval y) (off := off) (by rw [hy1.1]; exact hsz) hy3 (by rw [hrep.1]; exact hle)
  refine rG (by simp [ho, Op.noDefer]) (w' := w.setRow b (bN vs.toList off (a.eval y).cells.toList).toArray) (by simp [execOp, ho, hev, Instr.storeAt, Instr.sureAddr, hrun]) ?_
  have hk : ∀ k, k ∉ C.own i -> (w.setRow b (bN vs.toList off (a.eval y).cells.toList).toArray).heap[k]? = w.heap[k]? := fun k hk => setRow_other w b k _ (fun e => hk (by rw [hown, e]; simp))
  have hs := StepR.inPlace (o' := .cells t0 (bN cs off ys)) hR.toRelH (w' := w.setRow b (bN vs.toList off (a.eval y).cells.toList).toArray) rfl rfl rfl oS hH hk
  have hav : ∀ k, k < w.heap.size -> ¬ C.avoid H k -> (w.setRow b (bN vs.toList off (a.eval y).cells.toList).toArray).heap[k]? = w.heap[k]? := fun k _ hn => hk k (fun hb' => hn (.inr ⟨i, _, hH, hb'⟩))
  have hRH := hR.toRelH.inPlace (w' := w.setRow b (bN vs.toList off (a.eval y).cells.toList).toArray) rfl rfl rfl oS hH (o' := .cells t0 (bN cs off ys)) hk
    ⟨b, _, hval, hown, setRow_heap w b vs _ t0 (0, 0) hb, (aGt hrep hy1 og).mono (fun _ _ h => h) hav⟩ (aGx (hR.objb i _ hH).2 hy2)
  have hR' := hR.change hs (fun _ h => h) hRH
  exact hK C _ _ (hR'.put hN (.raw _) trivial) hs
end
end
section
variable [Globals]
variable {t e t' : TypeId} {x y : Operand} {sz by' j off i : Nat} {k : IntKind} {n : Int} {ag : Bool} {p r : AV} {xs : List AV} {v : Value}
def fI (P : Program) (t : TypeId) (j : Nat) : Option (Nat × Option Nat × Option Bool) :=
  match P.underlying t with
  | some (.struct fs) => (fs[j]?).map fun f => (f.offset, (P.info? f.type).map (·.size), (P.underlying f.type).map bOv)
  | _ => none
def yS {P : Program} (h : fI P t j = some (off, some sz, some ag)) :
    ∃ fs f, P.underlying t = some (.struct fs) /\ fs[j]? = some f /\ f.offset = off /\ VarT P f.type sz ag := by
  unfold fI at h; split at h
  . rename_i fs hu
    obtain ⟨f, hf, he⟩ := B0.1 h
    simp only [Prod.mk.injEq] at he
    exact ⟨fs, f, hu, hf, he.1, he.2.1, he.2.2⟩
  cases h
section
variable {P : Program} {ro : Option Nat} {N : Nat} {o : Oper} {E : Env} {H : Heap} {U : Nat -> Prop}
def yB (h : fI P t j = some (off, some sz, some ag)) (h0 : 0 < sz) (b q : Nat) (w : World) :
    (Instr.fieldAt t (.pointer (some ⟨b, q, none⟩)) j).run P w = .ok (.pointer (some ⟨b, q + off, none⟩)) w := by
  obtain ⟨fs, f, hu, hf, ho, hv⟩ := yS h
  have hne : ¬ sz = 0 := by omega
  simp [Instr.fieldAt, run_underlying hu, hf, Instr.sureAddr, fieldPlace, hv.run_size w, hne, jU, ho]
def bAa (x : AV) (off : Nat) : Option AV :=
  match x with
  | .ptr i q => some (.ptr i (q + off))
  | .ep i sz j q => some (.ep i sz j (q + off))
  | .fp sz xs j q => some (.fp sz xs j (q + off))
  | _ => none
def aOv (ho : o.op = .fieldAddr t x j) (hN : oD o N) (hf : fI P t j = some (off, some sz, some ag)) (h0 : 0 < sz)
    (hx : opv E x = some p) (hr : bAa p off = some r) : OpT P ro N o E H U (aX E o.dst r) H U := by
  refine aT (by simp [ho, Op.noDefer]) hN fun C a w hR => ?_
  obtain ⟨h1, h2⟩ := hR.opv hx
  generalize hev : a.eval x = u at h1
  cases p with
  | fp sz' xs' j' q =>
    simp only [bAa, B9] at hr
    subst hr
    cases h1 with
    | fp _ _ _ _ b off0 cells tt fr vals hnb hb hrep hcells =>
      have hrun := yB hf h0 b (off0 + j' * sz' + q) w
      rw [Nat.add_assoc (off0 + j' * sz')] at hrun
      exact ⟨h2, _, by simp only [execOp, ho, hev, Sem.run_bind, hrun, Result.andThen_ok, Sem.run_pure], .fp _ _ _ _ b off0 cells tt fr vals hnb hb hrep hcells⟩
  | ptr i' q =>
    simp only [bAa, B9] at hr
    subst hr
    cases h1 with
    | ptr _ _ b hb => exact ⟨h2, _, by simp [execOp, ho, hev, yB hf h0], .ptr _ _ b hb⟩
  | ep i' sz' j' q =>
    simp only [bAa, B9] at hr
    subst hr
    cases h1 with
    | ep _ _ _ _ b hb =>
      have hrun := yB hf h0 b (j' * sz' + q) w
      rw [Nat.add_assoc] at hrun
      exact ⟨h2, _, by simp only [execOp, ho, hev, Sem.run_bind, hrun, Result.andThen_ok, Sem.run_pure], .ep _ _ _ _ b hb⟩
  | _ => simp [bAa] at hr
def cU (P : Program) (t : TypeId) : Option (TypeId × Option (Nat × Nat)) :=
  match P.underlying t with
  | some (.slice e) => some (e, (P.info? e).map fun i => (i.size, i.bytes))
  | _ => none
def gN {P : Program} (h : cU P t = some (e, some (sz, by'))) : P.underlying t = some (.slice e) /\ ∃ i, P.info? e = some i /\ i.size = sz /\ i.bytes = by' := by
  unfold cU at h; split at h
  . rename_i e' hu
    simp only [B9, Prod.mk.injEq] at h
    obtain ⟨rfl, h⟩ := h
    obtain ⟨i, hi, he⟩ := B0.1 h
    simp only [Prod.mk.injEq] at he
    exact ⟨hu, i, hi, he.1, he.2⟩
  cases h
def rY (h : cU P t = some (e, some (sz, by'))) (b off len cap : Nat) (k : IntKind) (n : Int) (h0 : 0 <= n) (h1 : n < len) (w : World) :
    (Instr.indexAt t (.slice (some ⟨b, off, none⟩) len cap) (.int k n)).run P w = .ok (.pointer (some ⟨b, off + n.toNat * sz, none⟩)) w := by
  obtain ⟨hu, i, hi, hs, _⟩ := gN h
  simp [Instr.indexAt, asIntOf, run_underlying hu, h0, h1, sizeOf, typeInfo, hi, hs, jU]
def aGg (ho : o.op = .indexAddr t x y) (hN : oD o N) (hs : cU P t = some (e, some (sz, by')))
    (hx : opv E x = some (.sl sz xs)) (hy : opv E y = some (.raw (.int k n))) (h0 : 0 <= n) (h1 : n < xs.length) : OpT P ro N o E H U (aX E o.dst (.fp sz xs n.toNat 0)) H U := by
  refine aT (by simp [ho, Op.noDefer]) hN fun C a w hR => ?_
  obtain ⟨h2, h3⟩ := hR.opv hx
  obtain ⟨h4, _⟩ := hR.opv hy
  generalize hev : a.eval x = u at h2
  generalize hey : a.eval y = u' at h4
  cases h4
  cases h2 with
  | sl0 => simp at h1; omega
  | sl _ _ b off c cells tt fr vals h0' hc hm hnb hb hrep hcells =>
    exact ⟨h3, _, by simp [execOp, ho, hev, hey, rY hs b off _ c k n h0 h1], .fp _ _ _ _ b off cells tt fr vals hnb hb hrep hcells⟩
def aDt {t e e' : TypeId} (ho : o.op = .indexAddr t x y) (hN : oD o N) (hs : cU P t = some (e, some (sz, by')))
    (hx : opv E x = some (.ref i)) (hH : get H i = some (.row e' sz xs)) (hy : opv E y = some (.raw (.int k n))) (h0 : 0 <= n) (h1 : n < xs.length) : OpT P ro N o E H U (aX E o.dst (.ep i sz n.toNat 0)) H U := by
  refine aT (by simp [ho, Op.noDefer]) hN fun C a w hR => ?_
  obtain ⟨h2, h3⟩ := hR.opv hx
  obtain ⟨h4, _⟩ := hR.opv hy
  generalize hev : a.eval x = u at h2
  generalize hey : a.eval y = u' at h4
  cases h4; cases h2
  obtain ⟨hO, _⟩ := hR.obj i _ hH
  generalize hval : C.ρ i = vv at hO
  generalize C.own i = oo at hO
  cases hO with
  | leaf _ _ h => cases h
  | own0 => simp at h1; omega
  | own _ _ _ b c cells vals ows hb hs' hc hm hrep hcells =>
    rw [hval] at hev
    have hrun := rY hs b 0 _ c k n h0 h1 w
    rw [C3] at hrun
    exact ⟨h3, _, by simp [execOp, ho, hev, hey, hrun], .ep _ _ _ _ b (by rw [hval]; rfl)⟩
def aS (s : ByteArray) (k : Nat) : Int := ((s.data.toList.getD k 0).toNat : Int)
def aOn {s : ByteArray} (ho : o.op = .index t x y) (hN : oD o N) (ht : P.underlying t = some .string)
    (hx : opv E x = some (.raw (.string s))) (hy : opv E y = some (.raw (.int k n))) (h0 : 0 <= n) (h1 : n < s.size) : OpT P ro N o E H U (aX E o.dst (.raw (.int .u8 (aS s n.toNat)))) H U := by
  refine aT (by simp [ho, Op.noDefer]) hN fun C a w hR => ?_
  obtain ⟨h2, _⟩ := hR.opv hx
  obtain ⟨h4, _⟩ := hR.opv hy
  generalize hev : a.eval x = u at h2
  generalize hey : a.eval y = u' at h4
  cases h4; cases h2
  have hb : s[n.toNat]? = some (s[n.toNat]'og) := getElem?_pos s n.toNat og
  have hd : (s[n.toNat]'og) = s.data.toList.getD n.toNat 0 := by
    have hlt : n.toNat < s.data.size := by show n.toNat < s.size; omega
    rw [E7, D5, D3 hlt]; rfl
  refine ⟨trivial, _, ?_, .raw _⟩
  simp [execOp, ho, hev, hey, Instr.index, asIntOf, run_underlying ht, h0, hb, aS, hd]
def aRw (ho : o.op = .nilCheck x) (hN : oD o N) (hx : opv E x = some p) (hp : ∀ (ρ : Nat -> Value) (av : Nat -> Prop) (hp : Array Obj) (v : Value), Rep ρ av hp p v -> ∃ a, v = .pointer (some a)) :
    OpT P ro N o E H U (aX E o.dst p) H U := by
  refine aT (by simp [ho, Op.noDefer]) hN fun C a w hR => ?_
  obtain ⟨h1, h2⟩ := hR.opv hx
  obtain ⟨ad, had⟩ := hp _ _ _ _ h1
  exact ⟨h2, _, by simp [execOp, ho, had], h1⟩
def bCx : AV -> Bool
  | .ptr .. | .ep .. | .fp .. => true
  | _ => false
def bFy (h : bCx p = true) (ρ : Nat -> Value) (av : Nat -> Prop) (hp : Array Obj) (v : Value) (hr : Rep ρ av hp p v) : ∃ a, v = .pointer (some a) := by
  cases hr <;> first | (simp [bCx] at h; done) | exact ⟨_, rfl⟩
def aXf {vs : List AV} (ho : o.op = .extract x i) (hN : oD o N) (hx : opv E x = some (.tup vs)) (hr : vs[i]? = some r) : OpT P ro N o E H U (aX E o.dst r) H U := by
  refine aT (by simp [ho, Op.noDefer]) hN fun C a w hR => ?_
  obtain ⟨h1, h2⟩ := hR.opv hx
  generalize hev : a.eval x = u at h1
  cases h1 with
  | tup _ us hn hrep =>
    have hlt := (B2.1 hr).1
    have h3 := hrep i r hr
    have hu : us[i]? = some (us.getD i undef) := by simp [show i < us.size by omega]
    exact ⟨bG h2 hr, _, by simp only [execOp, ho, hev, Instr.extract, hu, Sem.run_bind, Sem.run_pure, Result.andThen_ok], h3⟩
def aEl (ho : o.op = .makeInterface t x) (hN : oD o N) (ht : P.concrete t = true) (hx : opv E x = some r) : OpT P ro N o E H U (aX E o.dst (.iface t r)) H U := by
  refine aT (by simp [ho, Op.noDefer]) hN fun C a w hR => ?_
  obtain ⟨h1, h2⟩ := hR.opv hx
  exact ⟨h2, _, by simp only [execOp, ho, Sem.run_bind, run_makeInterface w t (a.eval x) ht, Result.andThen_ok, Sem.run_pure], .iface _ _ _ h1⟩
def bNk {b : Bool} (ho : o.op = .unOp .not t x) (hN : oD o N) (hx : opv E x = some (.raw (.bool b))) : OpT P ro N o E H U (aX E o.dst (.raw (.bool (!b)))) H U := by
  refine aT (by simp [ho, Op.noDefer]) hN fun C a w hR => ?_
  obtain ⟨h1, _⟩ := hR.opv hx
  generalize hev : a.eval x = u at h1
  cases h1
  exact ⟨trivial, _, by simp [execOp, ho, hev, Op.unary], .raw _⟩
def bMy (ho : o.op = .unOp .neg t x) (hN : oD o N) (hx : opv E x = some (.raw (.int k n))) : OpT P ro N o E H U (aX E o.dst (.raw (.int k (k.wrap (-n))))) H U := by
  refine aT (by simp [ho, Op.noDefer]) hN fun C a w hR => ?_
  obtain ⟨h1, _⟩ := hR.opv hx
  generalize hev : a.eval x = u at h1
  cases h1
  exact ⟨trivial, _, by simp [execOp, ho, hev, Op.unary, Op.intArith], .raw _⟩
def bLr (n m : Int) : (n == m) = decide (n = m) := rfl
def iop (op : BinOp) (k : IntKind) (x y : Int) : Option Value :=
  match op with
  | .add => some (.int k (k.wrap (x + y)))
  | .sub => some (.int k (k.wrap (x - y)))
  | .mul => some (.int k (k.wrap (x * y)))
  | .quo => if y = 0 then none else some (.int k (k.wrap (x.tdiv y)))
  | .rem => if y = 0 then none else some (.int k (x.tmod y))
  | .eql => some (.bool (decide (x = y)))
  | .neq => some (.bool (!decide (x = y)))
  | .lss => some (.bool (decide (x < y)))
  | .leq => some (.bool (decide (x <= y)))
  | .gtr => some (.bool (decide (y < x)))
  | .geq => some (.bool (decide (y <= x)))
  | .xor => some (.int k (k.wrap (BitVec.ofInt k.bits x ^^^ BitVec.ofInt k.bits y).toNat))
  | .or => some (.int k (k.wrap (BitVec.ofInt k.bits x ||| BitVec.ofInt k.bits y).toNat))
  | .and => some (.int k (k.wrap (BitVec.ofInt k.bits x &&& BitVec.ofInt k.bits y).toNat))
  | _ => none
def bNn {op : BinOp} {n m : Int} (ho : o.op = .binOp op t x y t') (hN : oD o N) (hx : opv E x = some (.raw (.int k n))) (hy : opv E y = some (.raw (.int k m)))
    (hv : iop op k n m = some v) : OpT P ro N o E H U (aX E o.dst (.raw v)) H U := by
  refine aT (by simp [ho, Op.noDefer]) hN fun C a w hR => ?_
  obtain ⟨h1, _⟩ := hR.opv hx
  obtain ⟨h2, _⟩ := hR.opv hy
  generalize hev : a.eval x = u at h1
  generalize hey : a.eval y = u' at h2
  cases h1; cases h2
  refine ⟨trivial, _, ?_, .raw _⟩
  have hg : (eqGuard op t x y (.int k n) (.int k m)) = pure () := eqGuard_at_int ..
  cases op <;> simp only [iop, B9, reduceCtorEq] at hv
  case quo =>
    split at hv
    . cases hv
    rename_i hne
    cases hv
    simp [execOp, ho, hev, hey, hg, binOp, Op.intDiv, hne]
  case rem =>
    split at hv
    . cases hv
    rename_i hne
    cases hv
    simp [execOp, ho, hev, hey, hg, binOp, Op.intDiv, hne]
  all_goals
    subst hv
    first
      | (simp [execOp, ho, hev, hey, hg, binOp, Op.intArith]; done)
      | (simp [execOp, ho, hev, hey, hg, binOp, Op.intBits]; done)
      | (simp [execOp, ho, hev, hey, hg, binOp, Op.intCmp]; done)
      | (simp [execOp, ho, hev, hey, hg, binOp, Op.intCmp, bne]; done)
      | (simp [execOp, ho, hev, hey, hg, binOp, Op.intCmp, bne, bLr])
def sop (op : BinOp) (a b : ByteArray) : Option Value :=
  match op with
  | .add => if a.size + b.size <= 9223372036854775807 then some (.string (a ++ b)) else none
  | .eql => some (.bool (a.toList == b.toList))
  | .neq => some (.bool (!(a.toList == b.toList)))
  | .lss => some (.bool (Op.bytesLess a.toList b.toList))
  | .leq => some (.bool (Op.bytesLess a.toList b.toList || a.toList == b.toList))
  | .gtr => some (.bool (!(Op.bytesLess a.toList b.toList || a.toList == b.toList)))
  | .geq => some (.bool (!Op.bytesLess a.toList b.toList))
  | _ => none
def bDa {op : BinOp} {n m : ByteArray} (ho : o.op = .binOp op t x y t') (hN : oD o N) (hx : opv E x = some (.raw (.string n))) (hy : opv E y = some (.raw (.string m)))
    (hv : sop op n m = some v) : OpT P ro N o E H U (aX E o.dst (.raw v)) H U := by
  refine aT (by simp [ho, Op.noDefer]) hN fun C a w hR => ?_
  obtain ⟨h1, _⟩ := hR.opv hx
  obtain ⟨h2, _⟩ := hR.opv hy
  generalize hev : a.eval x = u at h1
  generalize hey : a.eval y = u' at h2
  cases h1; cases h2
  refine ⟨trivial, _, ?_, .raw _⟩
  have hg : (eqGuard op t x y (.string n) (.string m)) = pure () := eqGuard_at_string ..
  cases op <;> simp only [sop, B9, reduceCtorEq] at hv
  case add =>
    split at hv
    . rename_i hle
      cases hv
      have hn : ¬ (9223372036854775807 < (n.size : Int) + (m.size : Int)) := by omega
      simp [execOp, ho, hev, hey, hg, binOp, Op.stringOp, hn]
    cases hv
  all_goals
    subst hv
    simp [execOp, ho, hev, hey, hg, binOp, Op.stringOp]
end
end
section
variable [Globals]
variable {t : TypeId} {zs : List Value} {nw : Nat}
def zC (P : Program) (t : TypeId) : Option (List Value) := ((P.info? t).bind (·.zero)).map fun z => z.cells.toList
def uM {P : Program} (h : zC P t = some zs) : ∃ i z, P.info? t = some i /\ i.zero = some z /\ z.cells = zs.toArray := by
  obtain ⟨z, hz, he⟩ := B0.1 h
  obtain ⟨i, hi, hz'⟩ := G7.1 hz
  exact ⟨i, z, hi, hz', by rw [<- he]⟩
def aMy (ρ : Nat -> Value) (av : Nat -> Prop) (hp : Array Obj) (zs : List Value) : eG ρ av hp (zs.map .raw) zs.toArray := by
  refine ⟨by simp, fun j x hj => ?_⟩
  rw [B5] at hj
  obtain ⟨z, hz, rfl⟩ := B0.1 hj
  rw [B6, List.getElem?_toArray, hz]
  exact .raw z
def aLn (U : Nat -> Prop) (zs : List Value) : aK U (zs.map .raw) := by
  rw [bLi]; intro x hx
  obtain ⟨z, _, rfl⟩ := A9.1 hx
  trivial
section
variable {P : Program} {ro : Option Nat} {N : Nat} {o : Oper} {E : Env} {H : Heap} {U : Nat -> Prop}
def bEl (ho : o.op = .alloc t) (hN : oD o N) (hz : zC P t = some zs) (hnw : ¬ U nw) :
    OpT P ro N o E H U (aX E o.dst (.ptr nw 0)) (put H nw (.cells t (zs.map .raw))) (fun j => U j ∨ j = nw) := by
  obtain ⟨i, z, hi, hzz, hc⟩ := uM hz
  refine aIt (by simp [ho, Op.noDefer]) hN hnw (aLn U zs) (Or.inr rfl) fun C a w hR => ?_
  refine ⟨.pointer (some ⟨w.heap.size, 0, none⟩), .cells zs.toArray t, .pointer (some ⟨w.heap.size, 0, none⟩), [w.heap.size], rfl, by simp [execOp, ho, Instr.alloc, zeroValue, typeInfo, hi, hzz, newVar, newRow, hc], by simp, fun ρ av hold => ⟨?_, fun e => .ptr _ _ _ (by rw [e]; rfl)⟩⟩
  exact ⟨w.heap.size, zs.toArray, rfl, rfl, heap_alloc_new w _, aMy _ _ _ zs⟩
def eG.map {ρ ρ' : Nat -> Value} {av av' : Nat -> Prop} {hp hp' : Array Obj} {U : Nat -> Prop} {cs : List AV} {vs : Array Value} (h : eG ρ av hp cs vs) (hb : aK U cs) (hm : ∀ x u, x.bel U -> Rep ρ av hp x u -> Rep ρ' av' hp' x u) : eG ρ' av' hp' cs vs :=
  ⟨h.1, fun j x hj => hm x _ (bG hb hj) (h.2 j x hj)⟩
def bMz {x : Operand} {p : AV} {ys : List AV} (ho : o.op = .box t x) (hN : oD o N) (hx : opv E x = some p) (hy : vQ p = some ys) (hnw : ¬ U nw) :
    OpT P ro N o E H U (aX E o.dst (.ptr nw 0)) (put H nw (.cells t ys)) (fun j => U j ∨ j = nw) := by
  by_cases hb : aK U ys
  . refine aIt (by simp [ho, Op.noDefer]) hN hnw hb (Or.inr rfl) fun C a w hR => ?_
    obtain ⟨h1, h2⟩ := hR.opv hx
    obtain ⟨h3, h4, _⟩ := uW h1 C.one h2 hy
    refine ⟨.pointer (some ⟨w.heap.size, 0, none⟩), .cells (a.eval x).cells t, .pointer (some ⟨w.heap.size, 0, none⟩), [w.heap.size], rfl, by simp [execOp, ho, Instr.box, newVar, newRow], by simp, fun ρ av hold => ⟨?_, fun e => .ptr _ _ _ (by rw [e]; rfl)⟩⟩
    exact ⟨w.heap.size, _, rfl, rfl, heap_alloc_new w _, h3.map h4 hold⟩
  intro C a w next Q hR hK
  obtain ⟨h1, h2⟩ := hR.opv hx
  exact absurd (uW h1 C.one h2 hy).2.1 hb
def aFa (off : Nat) : ∀ (vs : List Value) (j : Nat) (cs : Array Value), off + j + vs.length <= cs.size ->
    (vs.zipIdx j).foldl (fun cs (p : Value × Nat) => cs.setIfInBounds (off + p.2) p.1) cs = (bN cs.toList (off + j) vs).toArray
  | [], j, cs, _ => by simp [bN]
  | v :: vs, j, cs, h => by
    simp only [List.zipIdx_cons, List.foldl_cons]; rw [aFa off vs (j + 1) _ (by simp at h ⊢; omega)]
    congr 1
    apply List.ext_getElem?
    intro k
    simp only [C5] at h
    rw [jX _ _ _ (by simp; omega), jX _ _ _ (by simp; omega)]; simp only [Array.toList_setIfInBounds, G5, C5]
    by_cases h1 : k < off + j
    . simp [h1, show k < off + (j + 1) by omega, show ¬ off + j = k by omega]
    by_cases h2 : k = off + j
    . subst h2
      simp
      exact (by omega : off + j < cs.size)
    have : k - (off + j) = (k - (off + (j + 1))) + 1 := by omega
    by_cases h3 : k < off + (j + 1) + vs.length
    . simp [h1, show ¬ k < off + (j + 1) by omega, h3, show k < off + j + (vs.length + 1) by omega, this]
    simp [h1, show ¬ k < off + (j + 1) by omega, h3, show ¬ k < off + j + (vs.length + 1) by omega, show ¬ off + j = k by omega]
def aCj (fld : Nat -> Option (Nat × Nat)) : List AV -> List (Nat × AV) -> Option (List AV)
  | cs, [] => some cs
  | cs, (i, x) :: r =>
    match fld i, vQ x with
    | some (off, sz), some ys => if ys.length = sz /\ off + sz <= cs.length then aCj fld (bN cs off ys) r else none
    | _, _ => none
def aXk {ρ : Nat -> Value} {av : Nat -> Prop} {hp : Array Obj} {U : Nat -> Prop} (hone : ∀ i, (ρ i).oneCell' = true) (fld : Nat -> Option (Nat × Nat)) : ∀ (ps : List (Nat × AV)) (us : List (Nat × Value)) (cs rs : List AV) (vs : Array Value), eG ρ av hp cs vs -> aK U cs ->
    us.length = ps.length -> (∀ (j i : Nat) (x : AV), ps[j]? = some (i, x) -> ∃ u, us[j]? = some (i, u) /\ Rep ρ av hp x u /\ x.bel U) -> aCj fld cs ps = some rs -> ∃ vs', Instr.fill fld vs us = some vs' /\ eG ρ av hp rs vs' /\ aK U rs
  | [], us, cs, rs, vs, hr, hb, hl, _, h => by
    have : us = [] := G6 hl
    subst this
    simp only [aCj, B9] at h
    subst h
    exact ⟨vs, rfl, hr, hb⟩
  | (i, x) :: r, [], cs, rs, vs, _, _, hl, _, _ => by simp at hl
  | (i, x) :: r, (i', u) :: us, cs, rs, vs, hr, hb, hl, hp', h => by
    obtain ⟨u', hu, hx, hxb⟩ := hp' 0 i x rfl
    simp only [List.getElem?_cons_zero, B9, Prod.mk.injEq] at hu
    obtain ⟨rfl, rfl⟩ := hu
    simp only [aCj] at h
    split at h
    . rename_i off sz ys hf hys
      split at h
      . rename_i hc
        obtain ⟨hy1, hy2, hy3⟩ := uW hx hone hxb hys
        have hvs : u.cells.size = sz := by rw [hy1.1]; exact hc.1
        have hle : off + u.cells.toList.length <= vs.size := by simp [hvs, hr.1]; omega
        obtain ⟨vs', h1, h2, h3⟩ := aXk hone fld r us _ rs _ (aGt hr hy1 og) (aGx hb hy2) (by simpa using hl) (fun j i y hj => by simpa using hp' (j + 1) i y (by simpa using hj)) h
        refine ⟨vs', ?_, h2, h3⟩
        simp only [Instr.fill, hf]
        have hfold := aFa off u.cells.toList 0 vs (by simpa using hle)
        rw [if_neg (by simp [hvs]; simp [hvs] at hle; omega)]
        have : u.cells.zipIdx.foldl (fun cs (p : Value × Nat) => cs.setIfInBounds (off + p.2) p.1) vs = (bN vs.toList off u.cells.toList).toArray := by
          rw [<- Array.foldl_toList, Array.toList_zipIdx]
          simpa using hfold
        rw [<- h1, <- this]
      cases h
    cases h
def vV (P : Program) (t : TypeId) : Option (List (Nat × Option Nat)) :=
  match P.underlying t with
  | some (.struct fs) => some (fs.toList.map fun f => (f.offset, (P.info? f.type).map (·.size)))
  | _ => none
def aZp {fs : List Field} {tab : List (Nat × Nat)} (h : fs.map (fun f => (f.offset, (P.info? f.type).map (·.size))) = tab.map fun p => (p.1, some p.2)) (w : World) :
    (fs.mapM (fun f => (do pure (f.offset, <- sizeOf f.type) : Sem (Nat × Nat)))).run P w = .ok tab w := by
  induction fs generalizing tab with
  | nil => cases tab with
    | nil => rfl
    | cons _ _ => simp at h
  | cons f fs ih => cases tab with
    | nil => simp at h
    | cons p tab =>
      simp only [List.map_cons, List.cons.injEq, Prod.mk.injEq] at h
      obtain ⟨⟨h1, h2⟩, h3⟩ := h
      obtain ⟨i, hi, hs⟩ := B0.1 h2
      have h9 : (sizeOf f.type).run P w = .ok p.2 w := by simp [sizeOf, typeInfo, hi, hs]
      simp only [List.mapM_cons, Sem.run_bind, h9, Result.andThen_ok, Sem.run_pure, ih h3, h1]
def qO (E : Env) : List (Nat × Operand) -> Option (List (Nat × AV))
  | [] => some []
  | (i, x) :: r => match opv E x, qO E r with
    | some v, some vs => some ((i, v) :: vs)
    | _, _ => none
def aDp {C : Conc} {a : Act} {w : World} (hR : Rel C N E H U a w) : ∀ (ps : List (Nat × Operand)) (vs : List (Nat × AV)), qO E ps = some vs -> vs.length = ps.length /\
    ∀ (j i : Nat) (x : AV), vs[j]? = some (i, x) -> ∃ u, (ps.map fun p => (p.1, a.eval p.2))[j]? = some (i, u) /\ Rep C.ρ (C.avoid H) w.heap x u /\ x.bel U
  | [], vs, h => by simp only [qO, B9] at h; subst h; exact ⟨rfl, fun j i x hj => by simp at hj⟩
  | (i, x) :: r, vs, h => by
    simp only [qO] at h
    split at h
    . rename_i v us hv hus
      cases h
      obtain ⟨h1, h2⟩ := aDp hR r us hus
      refine ⟨by simp [h1], fun j i' y hj => ?_⟩
      cases j with
      | zero =>
        simp only [List.getElem?_cons_zero, B9, Prod.mk.injEq] at hj
        obtain ⟨rfl, rfl⟩ := hj
        obtain ⟨h3, h4⟩ := hR.opv hv
        exact ⟨_, rfl, h3, h4⟩
      | succ j => exact h2 j i' y hj
    cases h
def bFs {dF : Array (Nat × Operand)} {tab : List (Nat × Nat)} {ps : List (Nat × AV)} {rs : List AV} (ho : o.op = .build t dF) (hN : oD o N)
    (ht : vV P t = some (tab.map fun p => (p.1, some p.2))) (hz : zC P t = some zs) (hps : qO E dF.toList = some ps) (hr : aCj (fun i => tab[i]?) (zs.map .raw) ps = some rs) :
    OpT P ro N o E H U (aX E o.dst (.agg rs)) H U := by
  obtain ⟨i, z, hi, hzz, hc⟩ := uM hz
  refine aT (by simp [ho, Op.noDefer]) hN fun C a w hR => ?_
  obtain ⟨h1, h2⟩ := aDp hR _ _ hps
  obtain ⟨vs', h3, h4, h5⟩ := aXk C.one (fun i => tab[i]?) ps (dF.toList.map fun p => (p.1, a.eval p.2)) _ rs zs.toArray (aMy C.ρ (C.avoid H) w.heap zs) (aLn U zs) (by simp [h1]) h2 hr
  refine ⟨h5, _, ?_, .agg _ _ h4.1 h4.2⟩
  unfold vV at ht; split at ht
  . rename_i fs hu
    simp only [B9] at ht
    have hpl : (fs.mapM (fun f => (do pure (f.offset, <- sizeOf f.type) : Sem (Nat × Nat)))).run P w = .ok tab.toArray w := by
      have h6 := aZp (P := P) ht w
      rw [<- Array.toList_mapM] at h6; rw [Sem.run_map] at h6
      generalize hg : (Array.mapM (fun f => (do pure (f.offset, <- sizeOf f.type) : Sem (Nat × Nat))) fs).run P w = q at h6 ⊢
      cases q with
      | ok x w2 => simp only [Result.andThen_ok, Result.ok.injEq] at h6; obtain ⟨h7, rfl⟩ := h6; rw [<- h7]
      | halt x w2 => simp [Result.andThen] at h6
    have hmap : (dF.map fun (i, x) => (i, a.eval x)).toList = dF.toList.map fun p => (p.1, a.eval p.2) := by simp
    have hfill : Instr.fill (fun i => tab.toArray[i]?) z.cells (dF.map fun (i, x) => (i, a.eval x)).toList = some vs' := by rw [hc, hmap]; simpa using h3
    simp only [execOp, ho, Instr.build, Sem.run_bind, zeroValue, typeInfo, run_program, Result.andThen_ok, hi, hzz, Sem.run_pure, run_underlying hu, hpl, hfill]
  cases ht
end
end
section
variable [Globals]
variable {sz n k by' : Nat} {ρ vals : Nat -> Value} {av : Nat -> Prop} {v u : Value} {hp : Array Obj} {xs : List AV} {x : AV} {ow : List Nat} {t ty e : TypeId}
def RepO.row_inv {e sz : Nat} {own : List Nat} (h : RepO ρ av hp (.own e sz xs) v own) :
    (xs = [] /\ v = .slice none 0 0 /\ own = []) ∨ ∃ b c cells vals ows, v = .slice (some ⟨b, 0, none⟩) xs.length c /\ own = b :: bB xs.length ows /\ hp[b]? = some (.cells cells e (0, 0)) /\ cells.size = c * sz /\ xs.length <= c /\ c <= maxLen /\
      (∀ (j : Nat) (x : AV), xs[j]? = some x -> RepO ρ av hp x (vals j) (ows j)) /\ lG cells 0 sz xs.length vals := by
  cases h with
  | leaf _ _ h => cases h
  | own0 => exact .inl ⟨rfl, rfl, rfl⟩
  | own _ _ _ b c cells vals ows hh hs hc hm h hcells => exact .inr ⟨b, c, cells, vals, ows, rfl, rfl, hh, hs, hc, hm, h, hcells⟩
def jV (sz n : Nat) (vals : Nat -> Value) : List Value := (List.range (n * sz)).map fun q => (vals (q / sz)).cells.getD (q % sz) undef
def nF {j k : Nat} (hj : j < n) (hk : k < sz) : (jV sz n vals)[j * sz + k]? = some ((vals j).cells.getD k undef) := by
  have h1 : j * sz + k < n * sz := by
    calc j * sz + k < j * sz + sz := by omega
      _ = (j + 1) * sz := by rw [Nat.add_mul, Nat.one_mul]
      _ <= n * sz := D6 _ hj
  have h0 : 0 < sz := by omega
  unfold jV; rw [B5, D7 h1]; simp only [Option.map_some, B9]; rw [Nat.add_comm, Nat.add_mul_div_right _ _ h0, Nat.div_eq_of_lt hk, C3, Nat.add_mul_mod_self_right, Nat.mod_eq_of_lt hk]
def cW : (jV sz n vals).length = n * sz := by simp [jV]
def aTo (h : u ∈ jV sz n vals) : ∃ j k, j < n /\ k < sz /\ u = (vals j).cells.getD k undef := by
  unfold jV at h
  obtain ⟨q, hq, rfl⟩ := A9.1 h
  have hq' := List.mem_range.1 hq
  have h0 : 0 < sz := by
    rcases Nat.eq_zero_or_pos sz with h | h
    . subst h; simp at hq'
    exact h
  exact ⟨q / sz, q % sz, (Nat.div_lt_iff_lt_mul h0).2 hq', Nat.mod_lt _ h0, rfl⟩
def lG.take {cells : Array Value} (h : lG cells 0 sz n vals) (hs : n * sz <= cells.size) : cells.toList.take (n * sz) = jV sz n vals := by
  apply List.ext_getElem?
  intro q
  by_cases hq : q < n * sz
  . have h0 : 0 < sz := by
      rcases Nat.eq_zero_or_pos sz with h | h
      . subst h; simp at hq
      exact h
    have hj : q / sz < n := (Nat.div_lt_iff_lt_mul h0).2 hq
    have hk : q % sz < sz := Nat.mod_lt _ h0
    have hq2 : q / sz * sz + q % sz = q := by rw [Nat.mul_comm]; exact Nat.div_add_mod q sz
    obtain ⟨h1, h2⟩ := h _ hj
    have h3 := h2 _ hk
    rw [C3, hq2] at h3; rw [F7, if_pos hq, D5, h3, <- hq2, nF hj hk, hq2]; rw [B6, D3 og]; rfl
  . rw [F6 (by simp; omega), F6 (by rw [cW]; omega)]
def AV.scO : AV -> Bool
  | .own _ _ _ => true
  | x => x.sc
def AV.elem : AV -> Bool
  | .agg cs => cs.all AV.scO
  | x => x.scO
def RepO.scO (h : RepO ρ av hp x v ow) (hone : ∀ i, (ρ i).oneCell' = true) (hx : x.scO = true) : v.oneCell' = true := by
  cases h with
  | leaf _ _ h =>
    cases x <;> first | exact h.sc hone hx | cases h
  | agg => simp [AV.scO, AV.sc] at hx
  | own0 => rfl
  | own => rfl
def RepO.elem (h : RepO ρ av hp x v ow) (hone : ∀ i, (ρ i).oneCell' = true) (hx : x.elem = true) (hk : k < v.cells.size) : (v.cells.getD k undef).oneCell' = true := by
  have single : ∀ {y : AV}, RepO ρ av hp y v ow -> y.scO = true -> (v.cells.getD k undef).oneCell' = true := fun hy hs => by
    have h1 := hy.scO hone hs
    rw [dK h1] at hk ⊢
    simp only [List.size_toArray, C5, List.length_nil] at hk
    have : k = 0 := by omega
    subst this; exact h1
  cases x with
  | agg cs =>
    have hall := C7.1 (show cs.all AV.scO = true from hx)
    have key : ∀ (vs : Array Value) (ows : Nat -> List Nat), vs.size = cs.length -> (∀ (j : Nat) (x : AV), cs[j]? = some x -> RepO ρ av hp x (vs.getD j undef) (ows j)) -> v = .agg vs -> (v.cells.getD k undef).oneCell' = true := fun vs ows hn hr he => by
      subst he
      have hk' : k < cs.length := by rw [<- hn]; exact hk
      have := (hr k _ (A1 hk')).scO hone (hall _ (C8 hk'))
      exact this
    cases h with
    | leaf _ _ h =>
      cases h with
      | agg _ vs hn hr => exact key vs (fun _ => []) hn (fun j x hj => .leaf _ _ (hr j x hj)) rfl
    | agg _ vs ows hn hr => exact key vs ows hn hr rfl
  | _ => exact single h hx
def nM {α : Type} (n : Nat) (f g : Nat -> α) : Nat -> α := fun j => if j < n then f j else g (j - n)
def aCe {α β : Type} {f g : α -> List β} : ∀ {l : List α}, (∀ a ∈ l, f a = g a) -> l.flatMap f = l.flatMap g
  | [], _ => rfl
  | a :: l, h => by
    rw [List.flatMap_cons, List.flatMap_cons, h a A2, aCe fun b hb => h b (A5 _ hb)]
def vL (n m : Nat) (f g : Nat -> List Nat) : bB (n + m) (nM n f g) = bB n f ++ bB m g := by
  unfold bB; rw [List.range_add, List.flatMap_append, List.flatMap_map]
  congr 1
  . exact aCe fun j hj => by simp [nM, List.mem_range.1 hj]
  exact aCe fun j _ => by simp [nM, show ¬ n + j < n by omega]
structure News (ρ : Nat -> Value) (av : Nat -> Prop) (w : World) (sz : Nat) (ys : List AV) (v : Value) (vals : Nat -> Value) (ows : Nat -> List Nat) : Prop where
  val : (ys = [] /\ ∃ c, v = .slice none 0 c) ∨ ∃ a c, v = .slice (some a) ys.length c /\ ∀ j k, j < ys.length -> k < sz -> w.cell? (a.add (j * sz + k)) = some ((vals j).cells.getD k undef)
  size : ∀ j, j < ys.length -> (vals j).cells.size = sz
  rep : ∀ (j : Nat) (x : AV), ys[j]? = some x -> RepO ρ av w.heap x (vals j) (ows j)
section
variable {P : Program} {w : World}
def wP (hs : cU P t = some (e, some (sz, by'))) {n c c' : Nat} {A : Option Addr} (hc : n <= c) : (Builtin.append_ #[t, t] ty #[.slice A n c, .slice none 0 c']).run P w = .ok (.slice A n c) w := by
  obtain ⟨hu, i, hi, hsz, _⟩ := gN hs
  simp [Builtin.append_, run_underlying hu, sizeOf, typeInfo, hi, Builtin.lenOf, Builtin.firstCells, hc]
  cases A <;> simp [storeCells]
def aMc {zs : List Value} (hs : cU P t = some (e, some (sz, by'))) (hz : zC P e = some zs) (hzl : zs.length = sz) (h0 : 0 < sz) (hone : ∀ i, (ρ i).oneCell' = true)
    {xs ys : List AV} {own1 : List Nat} {qB : Nat -> Value} {ows2 : Nat -> List Nat} (hx : RepO ρ av w.heap (.own e sz xs) v own1) (hnd : own1.Nodup) (hown1 : ∀ b, b ∈ own1 -> av b) (hy : News ρ av w sz ys u qB ows2) (hel : ys.all AV.elem = true)
    (hfl : ∀ b, b ∈ bB ys.length ows2 -> some b ≠ v.ownBlock) (hlen : xs.length + ys.length <= maxLen) (hby : (xs.length + ys.length) * by' <= 140737488355328) :
    ∃ v' w' own', (Builtin.append_ #[t, t] ty #[v, u]).run P w = .ok v' w' /\ w.grownBy w' v.ownBlock /\ (∀ b, v.ownBlock = some b -> b ∈ own1) /\ v'.oneCell' = true /\
      (∀ av' : Nat -> Prop, (∀ b, b < w.heap.size -> av' b -> av b) -> RepO ρ av' w'.heap (.own e sz (xs ++ ys)) v' own') /\ (∀ b, b ∈ own' -> (b ∈ own1 ∨ b ∈ bB ys.length ows2) ∨ b = w.heap.size) /\
      ((bB ys.length ows2).Nodup -> (∀ b, b ∈ own1 -> b ∈ bB ys.length ows2 -> False) -> own'.Nodup) := by
  have hob : ∀ b, v.ownBlock = some b -> b ∈ own1 := fun b hb => by
    rcases hx.row_inv with ⟨_, rfl, _⟩ | ⟨b', c, cells, vals, ows, rfl, rfl, _⟩
    . simp [Value.ownBlock] at hb
    simp only [Value.ownBlock, B9] at hb
    subst hb
    exact A2
  rcases hy.val with ⟨hys, c', rfl⟩ | ⟨a, c, rfl, hcells⟩
  ·
    subst hys
    refine ⟨v, w, own1, ?_, ⟨rfl, rfl, rfl, A0 _, fun _ _ _ => rfl⟩, hob, ?_, fun av' hav => ?_, fun b hb => .inl (.inl hb), fun _ _ => hnd⟩
    . rcases hx.row_inv with ⟨rfl, rfl, rfl⟩ | ⟨b', c, cells, vals, ows, rfl, rfl, _, _, hc, _⟩
      . exact wP hs (A0 _)
      exact wP hs hc
    . rcases hx.row_inv with ⟨rfl, rfl, rfl⟩ | ⟨b', c, cells, vals, ows, rfl, rfl, _⟩ <;> rfl
    rw [List.append_nil]
    exact hx.mono' hav (fun _ _ _ _ _ _ => rfl) (fun _ _ => rfl)
  obtain ⟨hu, i, hi, hisz, hiby⟩ := gN hs
  obtain ⟨i', z, hi', hzz, hzc⟩ := uM hz
  rw [hi] at hi'
  cases hi'
  have hrow : ∃ vals ows, w.ownsRow 0 e sz v xs.length (jV sz xs.length vals) /\ (∀ j, j < xs.length -> (vals j).cells.size = sz) /\ (∀ (j : Nat) (x : AV), xs[j]? = some x -> RepO ρ av w.heap x (vals j) (ows j)) /\
      (∀ b, b ∈ bB xs.length ows -> b ∈ own1 /\ some b ≠ v.ownBlock) /\ (bB xs.length ows).Nodup := by
    rcases hx.row_inv with ⟨rfl, rfl, rfl⟩ | ⟨b', c', cells, vals, ows, rfl, rfl, hh, hcs, hc, hm, hrep, hca⟩
    . exact ⟨fun _ => undef, fun _ => [], ⟨by simp [cW], .inl ⟨rfl, rfl⟩⟩, fun j hj => by simp at hj, fun j x hj => by simp at hj, fun b hb => by simp [bB] at hb, by simp [bB]⟩
    obtain ⟨hn1, hn2⟩ := C6.1 hnd
    refine ⟨vals, ows, ⟨cW, .inr ⟨b', c', cells, rfl, A3 _, hh, hc, hm, hcs, hca.take (by rw [hcs]; exact D6 _ hc)⟩⟩, fun j hj => (hca j hj).1, hrep, fun b hb => ⟨A5 _ hb, fun e => ?_⟩, hn2⟩
    simp only [Value.ownBlock, B9] at e
    subst e
    exact hn1 hb
  obtain ⟨vals, ows, hor, hsz1, hrep1, hfl1, hnd1⟩ := hrow
  have hnews : ∀ q u, (jV sz ys.length qB)[q]? = some u -> w.cell? (a.add q) = some u := fun q u hq => by
    have hql := (B2.1 hq).1
    rw [cW] at hql
    have hj : q / sz < ys.length := (Nat.div_lt_iff_lt_mul h0).2 hql
    have hk : q % sz < sz := Nat.mod_lt _ h0
    have hq2 : q / sz * sz + q % sz = q := by rw [Nat.mul_comm]; exact Nat.div_add_mod q sz
    have h1 := hcells _ _ hj hk
    rw [hq2] at h1; rw [h1, <- hq, <- hq2, nF hj hk, hq2]
  have hone1 : ∀ u ∈ jV sz ys.length qB, u.oneCell' = true := fun u hu' => by
    obtain ⟨j, k, hj, hk, rfl⟩ := aTo hu'
    exact (hy.rep j _ (A1 hj)).elem hone (C7.1 hel _ (C8 hj)) (by rw [hy.size j hj]; exact hk)
  obtain ⟨v', w', hr, h2, h3, h4, h5⟩ := run_append_own_at (P := P) w 0 t ty e i z sz by' hu hi hzz hisz hiby (by rw [hzc]; simpa using hzl) h0 v xs.length _ hor a ys.length c (jV sz ys.length qB) cW hnews hone1 hlen hby (A3 _)
  have hkeep : ∀ b, b < w.heap.size -> some b ≠ v.ownBlock -> w'.heap[b]? = w.heap[b]? := fun b hb hn => h3.block b hb hn
  have trans : ∀ (av' : Nat -> Prop), (∀ b, b < w.heap.size -> av' b -> av b) -> ∀ {x : AV} {u : Value} {ow : List Nat}, RepO ρ av w.heap x u ow -> (∀ b, b ∈ ow -> some b ≠ v.ownBlock) -> RepO ρ av' w'.heap x u ow := fun av' hav x u ow hr hn =>
    hr.mono' hav (fun b cells t fr hb hnb => hkeep b (ltB hb) fun e => hnb (hown1 b (hob b e.symm))) (fun b hb => hkeep b (hr.own_lt b hb) (hn b hb))
  obtain ⟨hl2, hcase⟩ := h2
  rcases hcase with ⟨hv', hnm⟩ | ⟨g, cap, cur, hv', _, hg, hle, hcap, hcs, htake⟩
  . have hx0 : xs = [] := G6 og
    have hy0 : ys = [] := G6 og
    subst hx0; subst hy0
    refine ⟨v', w', [], hr, h3, hob, by rw [hv']; rfl, fun av' hav => by rw [hv']; exact .own0 e sz, (fun b hb => by cases hb), fun _ _ => D8⟩
  refine ⟨v', w', g :: bB (xs.length + ys.length) (nM xs.length ows ows2), hr, h3, hob, by rw [hv']; rfl, fun av' hav => ?_, fun b hb => ?_, fun hn2 hdis => ?_⟩
  . have hgl : (xs ++ ys).length = xs.length + ys.length := A4
    have hcellsAt : lG cur 0 sz (xs ++ ys).length (nM xs.length vals qB) := fun j hj => by
      rw [hgl] at hj
      have hsize : (nM xs.length vals qB j).cells.size = sz := by
        unfold nM; split
        . exact hsz1 j (by assumption)
        exact hy.size _ og
      refine ⟨hsize, fun k hk => ?_⟩
      have hlt : j * sz + k < (xs.length + ys.length) * sz := by
        calc j * sz + k < j * sz + sz := by omega
          _ = (j + 1) * sz := by rw [Nat.add_mul, Nat.one_mul]
          _ <= (xs.length + ys.length) * sz := D6 _ hj
      have h6 : (cur.toList.take ((xs.length + ys.length) * sz))[j * sz + k]? = cur[j * sz + k]? := by rw [F7, if_pos hlt, D5]
      rw [C3, <- h6, htake]
      have hval : ∀ (f : Nat -> Value) (q : Nat), (f q).cells.size = sz -> some ((f q).cells.getD k undef) = (f q).cells[k]? := fun f q hq => by
        rw [B6, D3 og]; rfl
      by_cases hjx : j < xs.length
      . rw [G3 (by rw [cW]; calc j * sz + k < j * sz + sz := by omega
            _ = (j + 1) * sz := by rw [Nat.add_mul, Nat.one_mul]
            _ <= xs.length * sz := D6 _ hjx), nF hjx hk]
        rw [hval vals j (hsz1 j hjx)]
        simp [nM, hjx]
      rw [G4 (by rw [cW]; calc xs.length * sz <= j * sz := D6 _ og
          _ <= j * sz + k := by omega), cW]
      have h7 : j * sz + k - xs.length * sz = (j - xs.length) * sz + k := by
        rw [Nat.sub_mul]
        have : xs.length * sz <= j * sz := D6 _ og
        omega
      rw [h7, nF og hk, hval qB (j - xs.length) (hy.size _ og)]
      simp [nM, hjx]
    have := RepO.own (ρ := ρ) (av := av') (hp := w'.heap) e sz (xs ++ ys) g cap cur (nM xs.length vals qB) (nM xs.length ows ows2) hg hcs (by rw [hgl]; exact hle) hcap (fun j x hj => by
      by_cases hjx : j < xs.length
      . rw [G3 hjx] at hj
        have h8 := trans av' hav (hrep1 j x hj) fun b hb => (hfl1 b (mFl.2 ⟨j, hjx, hb⟩)).2
        simpa [nM, hjx] using h8
      rw [G4 og] at hj
      have hjl := (B2.1 hj).1
      have h8 := trans av' hav (hy.rep _ x hj) fun b hb => hfl b (mFl.2 ⟨_, hjl, hb⟩)
      simpa [nM, hjx] using h8) hcellsAt
    rw [hgl] at this; rw [hv']; exact this
  . rcases A7.1 hb with rfl | hb
    . rw [hv'] at h5
      simp only [Value.ownBlock, B9] at h5
      rcases h5 with h5 | h5
      . exact .inl (.inl (hob b h5.symm))
      exact .inr h5
    rw [vL] at hb
    rcases A6.1 hb with hb | hb
    . exact .inl (.inl (hfl1 b hb).1)
    exact .inl (.inr hb)
  rw [vL]
  refine C6.2 ⟨fun hb => ?_, ?_⟩
  . have hlt : g ∈ bB xs.length ows ∨ g ∈ bB ys.length ows2 := A6.1 hb
    have hgs : g < w.heap.size := by
      rcases hlt with h | h
      . exact hx.own_lt g (hfl1 g h).1
      obtain ⟨j, hj, hb'⟩ := mFl.1 h
      exact (hy.rep j _ (A1 hj)).own_lt g hb'
    rw [hv'] at h5
    simp only [Value.ownBlock, B9] at h5
    rcases h5 with h5 | h5
    . rcases hlt with h | h
      . exact (hfl1 g h).2 h5
      exact hfl g h h5
    omega
  refine List.nodup_append.2 ⟨hnd1, hn2, fun b hb b' hb' e => ?_⟩
  subst e
  exact hdis b (hfl1 b hb).1 hb'
end
end
section
variable [Globals]
variable {k own : List Nat} {nx sz i e : Nat} {v : Value} {x y : Operand} {xs ys : List AV}
def over (H : Heap) : Heap -> Heap
  | [] => H
  | (i, o) :: r => put (over H r) i o
def dB (m : Nat) (H : Heap) : ∀ ps : Heap, get (over H ps) m = match get ps m with | some o => some o | none => get H m
  | [] => rfl
  | (i, o) :: r => by
    unfold over; rw [dV, dB m H r]
    by_cases h : i = m
    . simp [h, Abs.get]
    simp [h, Abs.get]
def cF (k : List Nat) : Heap := k.map fun i => (i, .dead)
def aGa {m : Nat} : get (cF k) m = if m ∈ k then some .dead else none := by
  induction k with
  | nil => rfl
  | cons a k ih =>
    show get ((a, AObj.dead) :: cF k) m = _
    unfold Abs.get
    by_cases h : a = m
    . simp [h]
    rw [if_neg h, ih]
    simp [show ¬ m = a from fun e => h e.symm]
section
variable {P : Program} {ro : Option Nat} {N : Nat} {o : Oper} {E : Env} {H : Heap} {U : Nat -> Prop} {C : Conc} {a : Act} {w : World}
open Classical in
noncomputable def Conc.out (C : Conc) (nx : Nat) (v : Value) (own : List Nat) (k : List Nat) (hv : v.oneCell' = true) : Conc :=
  { C with ρ := upd C.ρ nx v, one := aIx C.one hv, own := fun i => if i = nx then own else if i ∈ k then [] else C.own i }
def rP {hv : v.oneCell' = true} : (C.out nx v own k hv).own nx = own := by simp [Conc.out]
def lB {hv : v.oneCell' = true} (h : i ≠ nx) (hi : i ∈ k) : (C.out nx v own k hv).own i = [] := by simp [Conc.out, h, hi]
def mJ {hv : v.oneCell' = true} (h : i ≠ nx) (hi : i ∉ k) : (C.out nx v own k hv).own i = C.own i := by simp [Conc.out, h, hi]
def Rel.out (hR : Rel C N E H U a w) {w' : World} {ob : AObj} (hv : v.oneCell' = true) (hnx : ¬ U nx) (hk : ∀ i ∈ k, ∃ o, get H i = some o)
    (ho : w'.os = w.os) (ht : w'.tape = w.tape) (hout : w'.output = w.output) (hsz : w.heap.size <= w'.heap.size) (hkeep : ∀ b, b < w.heap.size -> (∀ i ∈ k, b ∉ C.own i) -> w'.heap[b]? = w.heap[b]?)
    (hown : ∀ b, b ∈ own -> (∃ i ∈ k, b ∈ C.own i) ∨ w.heap.size <= b) (hb : ob.bel U)
    (hrep : ∀ av' : Nat -> Prop, (∀ b, b < w.heap.size -> av' b -> C.avoid H b) -> cS C.ρ av' w'.heap own ob v) :
    Rel (C.out nx v own k hv) N E (over H ((nx, ob) :: cF k)) (fun j => U j ∨ j = nx) a w' /\ StepR C H U w (C.out nx v own k hv) (over H ((nx, ob) :: cF k)) w' := by
  have hcase : ∀ i o', get (over H ((nx, ob) :: cF k)) i = some o' -> (i = nx /\ o' = ob) ∨ (i ≠ nx /\ i ∈ k /\ o' = .dead) ∨ (i ≠ nx /\ i ∉ k /\ get H i = some o') := fun i o' hi => by
    rw [dB, show get ((nx, ob) :: cF k) i = if nx = i then some ob else get (cF k) i from rfl] at hi
    by_cases e : nx = i
    . rw [if_pos e] at hi; cases hi
      exact .inl ⟨e.symm, rfl⟩
    rw [if_neg e, aGa] at hi
    by_cases hm : i ∈ k
    . rw [if_pos hm] at hi; cases hi
      exact .inr (.inl ⟨fun e' => e e'.symm, hm, rfl⟩)
    rw [if_neg hm] at hi
    exact .inr (.inr ⟨fun e' => e e'.symm, hm, hi⟩)
  have hkW : ∀ i ∈ k, ∀ b, b ∈ C.own i -> C.W H b := fun i hi b hb => let ⟨o', ho'⟩ := hk i hi; ⟨i, o', ho', hb⟩
  have hs : StepR C H U w (C.out nx v own k hv) (over H ((nx, ob) :: cF k)) w' :=
    { os := ho, tape := ht, output := hout, size := hsz
      keep := fun b hb hn => hkeep b hb fun i hi hbi => hn (hkW i hi b hbi)
      wr := fun b ⟨i, o', hi, hb'⟩ => by
        rcases hcase i o' hi with ⟨rfl, _⟩ | ⟨h1, h2, _⟩ | ⟨h1, h2, h3⟩
        . rw [rP] at hb'
          rcases hown b hb' with ⟨i', hi', hb2⟩ | h
          . exact .inl (hkW i' hi' b hb2)
          exact .inr h
        . rw [lB h1 h2] at hb'; cases hb'
        rw [mJ h1 h2] at hb'; exact .inl ⟨i, o', h3, hb'⟩
      X := rfl, B := rfl
      ρ := fun i hi => bX _ _ (fun e => hnx (e ▸ hi)) }
  have hav : ∀ b, b < w.heap.size -> (C.out nx v own k hv).avoid (over H ((nx, ob) :: cF k)) b -> C.avoid H b := fun b hb hq => by
    rcases hq with hq | hq
    . exact .inl hq
    rcases hs.wr b hq with h | h
    . exact .inr h
    omega
  have hRH : RelH (C.out nx v own k hv) (over H ((nx, ob) :: cF k)) (fun j => U j ∨ j = nx) w' := by
    refine hR.toRelH.change hs (fun i hi => .inl hi) (fun i o' hi => ?_) (fun i j oi oj b hne hi hj hbi hbj => ?_)
    . rcases hcase i o' hi with ⟨rfl, rfl⟩ | ⟨h1, h2, rfl⟩ | ⟨h1, h2, h3⟩
      . refine .inr ⟨?_, .inr rfl, AObj.bel_mono (fun _ h => .inl h) _ hb⟩
        rw [rP]
        have h4 := (hrep _ hav).named (ρ' := (C.out i v own k hv).ρ) (U := U) (fun j hj => bX _ _ (fun e => hnx (e ▸ hj))) hb
        have h5 : (C.out i v own k hv).ρ i = v := dD _ _ _
        rw [h5]; exact h4
      . obtain ⟨o2, ho2⟩ := hk i h2
        exact .inr ⟨lB h1 h2, .inl (hR.objb i o2 ho2).1, trivial⟩
      refine .inl ⟨(hR.objb i o' h3).1, h3, mJ h1 h2, fun b hb' => hkeep b ((hR.obj i o' h3).own_lt b hb') fun i' hi' hb2 => ?_⟩
      obtain ⟨o2, ho2⟩ := hk i' hi'
      exact hR.apart i i' o' o2 b (fun e => h2 (e ▸ hi')) h3 ho2 hb' hb2
    rcases hcase i oi hi with ⟨rfl, _⟩ | ⟨h1, h2, _⟩ | ⟨h1, h2, h3⟩
    . rw [rP] at hbi
      rcases hcase j oj hj with ⟨rfl, _⟩ | ⟨h1, h2, _⟩ | ⟨h1, h2, h3⟩
      . exact hne rfl
      . rw [lB h1 h2] at hbj; cases hbj
      rw [mJ h1 h2] at hbj
      rcases hown b hbi with ⟨i', hi', hb2⟩ | h
      . obtain ⟨o2, ho2⟩ := hk i' hi'
        exact hR.apart j i' oj o2 b (fun e => h2 (e ▸ hi')) h3 ho2 hbj hb2
      have := (hR.obj j oj h3).own_lt b hbj; omega
    . rw [lB h1 h2] at hbi; cases hbi
    rw [mJ h1 h2] at hbi
    rcases hcase j oj hj with ⟨rfl, _⟩ | ⟨h1', h2', _⟩ | ⟨h1', h2', h3'⟩
    . rw [rP] at hbj
      rcases hown b hbj with ⟨i', hi', hb2⟩ | h
      . obtain ⟨o2, ho2⟩ := hk i' hi'
        exact hR.apart i i' oi o2 b (fun e => h2 (e ▸ hi')) h3 ho2 hbi hb2
      have := (hR.obj i oi h3).own_lt b hbi; omega
    . rw [lB h1' h2'] at hbj; cases hbj
    rw [mJ h1' h2'] at hbj
    exact hR.apart i j oi oj b hne h3 h3' hbi hbj
  exact ⟨hR.change hs (fun i hi => .inl hi) hRH, hs⟩
inductive App1 (E : Env) (H : Heap) (x : Operand) (e sz : Nat) : List AV -> List Nat -> Prop
  | nil (h : opv E x = some (.raw (.slice none 0 0))) : App1 E H x e sz [] []
  | row (i : Nat) (xs : List AV) (h : opv E x = some (.ref i)) (hH : get H i = some (.row e sz xs)) : App1 E H x e sz xs [i]
inductive App2 (E : Env) (H : Heap) (y : Operand) (e sz : Nat) : List AV -> List Nat -> Prop
  | nil (h : opv E y = some (.raw (.slice none 0 0))) : App2 E H y e sz [] []
  | sl (ys : List AV) (h : opv E y = some (.sl sz ys)) : App2 E H y e sz ys []
  | row (j : Nat) (ys : List AV) (h : opv E y = some (.ref j)) (hH : get H j = some (.row e sz ys)) : App2 E H y e sz ys [j]
def App1.rep (h : App1 E H x e sz xs k) (hR : Rel C N E H U a w) : ∃ own1, RepO C.ρ (C.avoid H) w.heap (.own e sz xs) (a.eval x) own1 /\ own1.Nodup /\ (∀ b, b ∈ own1 ↔ ∃ i ∈ k, b ∈ C.own i) /\ (∀ i ∈ k, ∃ o, get H i = some o) /\ aK U xs := by
  cases h with
  | nil h =>
    obtain ⟨h1, _⟩ := hR.opv h
    generalize a.eval x = v at h1
    cases h1
    exact ⟨[], .own0 e sz, D8, by simp, by simp, trivial⟩
  | row i _ h hH =>
    obtain ⟨h1, _⟩ := hR.opv h
    generalize a.eval x = v at h1
    cases h1
    obtain ⟨h2, h3⟩ := hR.obj i _ hH
    exact ⟨C.own i, h2, h3, by simp, by simp [hH], (hR.objb i _ hH).2⟩
def App2.rep (h : App2 E H y e sz ys k) (hR : Rel C N E H U a w) : ∃ vals ows, News C.ρ (C.avoid H) w sz ys (a.eval y) vals ows /\ (bB ys.length ows).Nodup /\ (∀ b, b ∈ bB ys.length ows -> ∃ j ∈ k, b ∈ C.own j) /\ (∀ i ∈ k, ∃ o, get H i = some o) /\ aK U ys := by
  have hflat0 : ∀ n, bB n (fun _ => []) = [] := fun n => by simp [bB]
  cases h with
  | nil h =>
    obtain ⟨h1, _⟩ := hR.opv h
    generalize a.eval y = v at h1
    cases h1
    exact ⟨fun _ => undef, fun _ => [], ⟨.inl ⟨rfl, 0, rfl⟩, fun j hj => by simp at hj, fun j x hj => by simp at hj⟩, by rw [hflat0]; exact D8, by rw [hflat0]; simp, by simp, trivial⟩
  | sl _ h =>
    obtain ⟨h1, hb⟩ := hR.opv h
    generalize a.eval y = v at h1
    cases h1 with
    | sl0 _ A c hc =>
      refine ⟨fun _ => undef, fun _ => [], ⟨?_, fun j hj => by simp at hj, fun j x hj => by simp at hj⟩, by rw [hflat0]; exact D8, by rw [hflat0]; simp, by simp, trivial⟩
      cases A with
      | none => exact .inl ⟨rfl, c, rfl⟩
      | some ad => exact .inr ⟨ad, c, rfl, fun j k hj => by simp at hj⟩
    | sl _ _ b off c cells t fr vals h0 hc hm hnb hh hrep hcells =>
      refine ⟨vals, fun _ => [], ⟨.inr ⟨⟨b, off, none⟩, c, rfl, fun j k hj hk => ?_⟩, fun j hj => (hcells j hj).1, fun j x hj => .leaf _ _ (hrep j x hj)⟩, by rw [hflat0]; exact D8, by rw [hflat0]; simp, by simp, hb⟩
      rw [jU, cell_of_row w b _ cells t fr hh, <- Nat.add_assoc, (hcells j hj).2 k hk, B6, D3 (by rw [(hcells j hj).1]; exact hk)]
      rfl
  | row j _ h hH =>
    obtain ⟨h1, _⟩ := hR.opv h
    generalize a.eval y = v at h1
    cases h1
    obtain ⟨h2, h3⟩ := hR.obj j _ hH
    rcases h2.row_inv with ⟨rfl, hv, ho⟩ | ⟨b, c, cells, vals, ows, hv, ho, hh, hcs, hc, hm, hrep, hcells⟩
    . rw [hv]
      exact ⟨fun _ => undef, fun _ => [], ⟨.inl ⟨rfl, 0, rfl⟩, fun j hj => by simp at hj, fun j x hj => by simp at hj⟩, by rw [hflat0]; exact D8, by rw [hflat0]; simp, by simp [hH], trivial⟩
    rw [hv]; rw [ho] at h3
    refine ⟨vals, ows, ⟨.inr ⟨⟨b, 0, none⟩, c, rfl, fun j k hj hk => ?_⟩, fun j hj => (hcells j hj).1, hrep⟩, (C6.1 h3).2, fun b' hb' => ⟨j, by simp, by rw [ho]; exact A5 _ hb'⟩, by simp [hH], (hR.objb j _ hH).2⟩
    rw [jU, cell_of_row w b _ cells e (0, 0) hh, <- Nat.add_assoc, (hcells j hj).2 k hk, B6, D3 (by rw [(hcells j hj).1]; exact hk)]
    rfl
def aZh {c : Call} {t e : TypeId} {sz by' nx : Nat} {zs : List Value} {k1 k2 : List Nat} (ho : o.op = .call c) (hc : c.callee = .builtin .append) (hargs : c.args = #[x, y]) (hts : c.argTypes = #[t, t]) (hN : oD o N)
    (hs : cU P t = some (e, some (sz, by'))) (hz : zC P e = some zs) (hzl : zs.length = sz) (h0 : 0 < sz) (h1 : App1 E H x e sz xs k1) (h2 : App2 E H y e sz ys k2) (hdis : ∀ i ∈ k1, i ∉ k2) (hel : ys.all AV.elem = true)
    (hlen : xs.length + ys.length <= maxLen) (hby : (xs.length + ys.length) * by' <= 140737488355328) (hnx : ¬ U nx) :
    OpT P ro N o E H U (aX E o.dst (.ref nx)) (over H ((nx, .row e sz (xs ++ ys)) :: cF (k1 ++ k2))) (fun j => U j ∨ j = nx) := by
  intro C a w next Q hR hK
  obtain ⟨own1, r1, r2, r3, r4, r5⟩ := h1.rep hR
  obtain ⟨vals, ows, s1, s2, s3, s4, s5⟩ := h2.rep hR
  have hapart : ∀ b, b ∈ own1 -> b ∈ bB ys.length ows -> False := fun b hb hb' => by
    obtain ⟨i, hi, hbi⟩ := (r3 b).1 hb
    obtain ⟨j, hj, hbj⟩ := s3 b hb'
    obtain ⟨oi, hoi⟩ := r4 i hi
    obtain ⟨oj, hoj⟩ := s4 j hj
    exact hR.apart i j oi oj b (fun e => hdis i hi (e ▸ hj)) hoi hoj hbi hbj
  obtain ⟨v', w', own', hrun, hg, hob, hv, hrep, hown, hnd⟩ := aMc (P := P) (w := w) (ty := o.type) hs hz hzl h0 C.one r1 r2 (fun b hb => by obtain ⟨i, hi, hbi⟩ := (r3 b).1 hb; obtain ⟨oi, hoi⟩ := r4 i hi; exact .inr ⟨i, oi, hoi, hbi⟩) s1 hel
    (fun b hb e => by
      have : b ∈ own1 := by
        rcases r1.row_inv with ⟨_, hv, _⟩ | ⟨b', c', cells, vals', ows', hv, ho', _⟩
        . rw [hv] at e; simp [Value.ownBlock] at e
        rw [hv] at e; simp only [Value.ownBlock, B9] at e; rw [ho', e]; exact A2
      exact hapart b this hb) hlen hby
  have hexec : (execOp a.eval o).run P w = .ok (.value v') w' := by
    simp [execOp, ho, resolve, hc, hargs, hts, invoke, builtin, hrun]
  obtain ⟨k, hs'⟩ := Rel.out (nx := nx) (k := k1 ++ k2) (ob := .row e sz (xs ++ ys)) hR hv hnx (fun i hi => by rcases A6.1 hi with h | h; exact r4 i h; exact s4 i h) hg.os hg.tape hg.output hg.size
    (fun b hb hn => hg.block b hb fun e => by
      have hb1 := hob b e.symm
      obtain ⟨i, hi, hbi⟩ := (r3 b).1 hb1
      exact hn i (A6.2 (.inl hi)) hbi)
    (own := own') (fun b hb => by
      rcases hown b hb with (h | h) | h
      . obtain ⟨i, hi, hbi⟩ := (r3 b).1 h
        exact .inl ⟨i, A6.2 (.inl hi), hbi⟩
      . obtain ⟨j, hj, hbj⟩ := s3 b h
        exact .inl ⟨j, A6.2 (.inr hj), hbj⟩
      exact .inr og)
    (by show aK U (xs ++ ys); rw [bLi] at r5 s5 ⊢; intro z hz; rcases A6.1 hz with h | h; exact r5 z h; exact s5 z h)
    (fun av' hav => ⟨hrep av' hav, hnd s2 hapart⟩)
  refine eW (by simp [ho, Op.noDefer]) hexec (hK _ _ _ (k.put hN ?_ (Or.inr rfl)) hs')
  have : Rep (C.out nx v' own' (k1 ++ k2) hv).ρ ((C.out nx v' own' (k1 ++ k2) hv).avoid (over H ((nx, AObj.row e sz (xs ++ ys)) :: cF (k1 ++ k2)))) w'.heap (.ref nx) ((C.out nx v' own' (k1 ++ k2) hv).ρ nx) := .ref nx
  rwa [show (C.out nx v' own' (k1 ++ k2) hv).ρ nx = v' from dD _ _ _] at this
end
end
section
variable [Globals]
variable {x : AV} {v : Value}
def iE (h : Nat -> Option AObj) : AV -> AV × List Nat
  | .ref k => match h k with
    | some (.row e sz xs) => (.own e sz xs, [k])
    | _ => (.ref k, [])
  | x => (x, [])
def dU (h : Nat -> Option AObj) : List AV -> List AV × List Nat
  | [] => ([], [])
  | x :: r => ((iE h x).1 :: (dU h r).1, (iE h x).2 ++ (dU h r).2)
def gB (h : Nat -> Option AObj) : AV -> AV × List Nat
  | .agg cs => (.agg (dU h cs).1, (dU h cs).2)
  | x => iE h x
def bJ (h : Nat -> Option AObj) : List AV -> List AV × List Nat
  | [] => ([], [])
  | x :: r => ((gB h x).1 :: (bJ h r).1, (gB h x).2 ++ (bJ h r).2)
section
variable {P : Program} {ro : Option Nat} {N : Nat} {o : Oper} {E : Env} {H : Heap} {U : Nat -> Prop} {C : Conc} {a : Act} {w : World}
def vF (C : Conc) (k : List Nat) (ow : List Nat) : Prop := (∀ b, b ∈ ow -> ∃ i ∈ k, b ∈ C.own i) /\ (k.Nodup -> ow.Nodup)
def aHh (hR : RelH C H U w) (h : Rep C.ρ (C.avoid H) w.heap x v) (hb : x.bel U) : ∃ ow, RepO C.ρ (C.avoid H) w.heap (iE (get H) x).1 v ow /\ vF C (iE (get H) x).2 ow /\ (∀ i ∈ (iE (get H) x).2, ∃ o, get H i = some o) /\ (iE (get H) x).1.bel U := by
  have plain : ∃ ow, RepO C.ρ (C.avoid H) w.heap x v ow /\ vF C [] ow /\ (∀ i ∈ ([] : List Nat), ∃ o, get H i = some o) /\ x.bel U := ⟨[], .leaf _ _ h, ⟨by simp, fun _ => D8⟩, by simp, hb⟩
  cases x with
  | ref k =>
    cases hk : get H k with
    | none => simp only [iE, hk]; exact plain
    | some ob =>
      cases ob with
      | row e sz xs =>
        simp only [iE, hk]; cases h
        obtain ⟨h1, h2⟩ := hR.obj k _ hk
        exact ⟨C.own k, h1, ⟨fun b hb => ⟨k, A2, hb⟩, fun _ => h2⟩, fun i hi => by simp at hi; subst hi; exact ⟨_, hk⟩, (hR.objb k _ hk).2⟩
      | _ => simp only [iE, hk]; exact plain
  | _ => exact plain
def aAz (hR : RelH C H U w) {k k' : List Nat} {ow ow' : List Nat} (h : vF C k ow) (h' : vF C k' ow') (hk : ∀ i ∈ k, ∃ o, get H i = some o) (hk' : ∀ i ∈ k', ∃ o, get H i = some o) (hn : (k ++ k').Nodup) : ∀ b, b ∈ ow -> b ∈ ow' -> False := fun b hb hb' => by
  obtain ⟨i, hi, hbi⟩ := h.1 b hb
  obtain ⟨j, hj, hbj⟩ := h'.1 b hb'
  obtain ⟨oi, hoi⟩ := hk i hi
  obtain ⟨oj, hoj⟩ := hk' j hj
  exact hR.apart i j oi oj b (fun e => (List.nodup_append.1 hn).2.2 i hi j hj e) hoi hoj hbi hbj
def aGy (h : Nat -> Option AObj) : ∀ cs : List AV, (dU h cs).1.length = cs.length
  | [] => rfl
  | x :: r => by simp [dU, aGy h r]
def aHc (hR : RelH C H U w) : ∀ (cs : List AV) (f : Nat -> Value), (∀ (j : Nat) (x : AV), cs[j]? = some x -> Rep C.ρ (C.avoid H) w.heap x (f j)) -> aK U cs -> ∃ ows : Nat -> List Nat,
    (∀ (j : Nat) (x : AV), (dU (get H) cs).1[j]? = some x -> RepO C.ρ (C.avoid H) w.heap x (f j) (ows j)) /\ vF C (dU (get H) cs).2 (bB cs.length ows) /\ (∀ i ∈ (dU (get H) cs).2, ∃ o, get H i = some o) /\ aK U (dU (get H) cs).1
  | [], f, _, _ => ⟨fun _ => [], fun j x hj => by simp [dU] at hj, ⟨by simp [bB], fun _ => by simp [bB]⟩, by simp [dU], trivial⟩
  | x :: r, f, h, hb => by
    obtain ⟨ow, h1, h2, h3, h4⟩ := aHh hR (h 0 x rfl) hb.1
    obtain ⟨ows, k1, k2, k3, k4⟩ := aHc hR r (fun j => f (j + 1)) (fun j y hj => h (j + 1) y (by simpa using hj)) hb.2
    have hfl : bB (r.length + 1) (nM 1 (fun _ => ow) ows) = ow ++ bB r.length ows := by
      rw [Nat.add_comm, vL]
      congr 1
      simp [bB]
    refine ⟨nM 1 (fun _ => ow) ows, fun j y hj => ?_, ?_, fun i hi => ?_, ⟨h4, k4⟩⟩
    . cases j with
      | zero => simp [dU] at hj; subst hj; exact h1
      | succ j => simpa [nM] using k1 j y (by simpa [dU] using hj)
    . show vF C ((iE (get H) x).2 ++ (dU (get H) r).2) (bB (r.length + 1) _)
      rw [hfl]
      refine ⟨fun b hb => ?_, fun hn => ?_⟩
      . rcases A6.1 hb with h | h
        . obtain ⟨i, hi, hbi⟩ := h2.1 b h; exact ⟨i, A6.2 (.inl hi), hbi⟩
        obtain ⟨i, hi, hbi⟩ := k2.1 b h; exact ⟨i, A6.2 (.inr hi), hbi⟩
      have := List.nodup_append.1 hn
      exact List.nodup_append.2 ⟨h2.2 this.1, k2.2 this.2.1, fun b hb b' hb' e => aAz hR h2 k2 h3 k3 hn b hb (e ▸ hb')⟩
    rcases A6.1 hi with h | h
    . exact h3 i h
    exact k3 i h
def aMb (hR : RelH C H U w) (h : Rep C.ρ (C.avoid H) w.heap x v) (hb : x.bel U) : ∃ ow, RepO C.ρ (C.avoid H) w.heap (gB (get H) x).1 v ow /\ vF C (gB (get H) x).2 ow /\ (∀ i ∈ (gB (get H) x).2, ∃ o, get H i = some o) /\ (gB (get H) x).1.bel U := by
  cases x with
  | agg cs =>
    cases h with
    | agg _ vs hn hr =>
      obtain ⟨ows, h1, h2, h3, h4⟩ := aHc hR cs _ hr hb
      have hl := aGy (get H) cs
      have := RepO.agg (ρ := C.ρ) (av := C.avoid H) (hp := w.heap) (dU (get H) cs).1 vs ows (by rw [hl]; exact hn) h1
      rw [hl] at this
      exact ⟨_, this, h2, h3, h4⟩
  | _ => exact aHh hR h hb
def aHg (h : Nat -> Option AObj) : ∀ cs : List AV, (bJ h cs).1.length = cs.length
  | [] => rfl
  | x :: r => by simp [bJ, aHg h r]
def aGs (hR : RelH C H U w) : ∀ (cs : List AV) (f : Nat -> Value), (∀ (j : Nat) (x : AV), cs[j]? = some x -> Rep C.ρ (C.avoid H) w.heap x (f j)) -> aK U cs -> ∃ ows : Nat -> List Nat,
    (∀ (j : Nat) (x : AV), (bJ (get H) cs).1[j]? = some x -> RepO C.ρ (C.avoid H) w.heap x (f j) (ows j)) /\ vF C (bJ (get H) cs).2 (bB cs.length ows) /\ (∀ i ∈ (bJ (get H) cs).2, ∃ o, get H i = some o) /\ aK U (bJ (get H) cs).1
  | [], f, _, _ => ⟨fun _ => [], fun j x hj => by simp [bJ] at hj, ⟨by simp [bB], fun _ => by simp [bB]⟩, by simp [bJ], trivial⟩
  | x :: r, f, h, hb => by
    obtain ⟨ow, h1, h2, h3, h4⟩ := aMb hR (h 0 x rfl) hb.1
    obtain ⟨ows, k1, k2, k3, k4⟩ := aGs hR r (fun j => f (j + 1)) (fun j y hj => h (j + 1) y (by simpa using hj)) hb.2
    have hfl : bB (r.length + 1) (nM 1 (fun _ => ow) ows) = ow ++ bB r.length ows := by
      rw [Nat.add_comm, vL]
      congr 1
      simp [bB]
    refine ⟨nM 1 (fun _ => ow) ows, fun j y hj => ?_, ?_, fun i hi => ?_, ⟨h4, k4⟩⟩
    . cases j with
      | zero => simp [bJ] at hj; subst hj; exact h1
      | succ j => simpa [nM] using k1 j y (by simpa [bJ] using hj)
    . show vF C ((gB (get H) x).2 ++ (bJ (get H) r).2) (bB (r.length + 1) _)
      rw [hfl]
      refine ⟨fun b hb => ?_, fun hn => ?_⟩
      . rcases A6.1 hb with h | h
        . obtain ⟨i, hi, hbi⟩ := h2.1 b h; exact ⟨i, A6.2 (.inl hi), hbi⟩
        obtain ⟨i, hi, hbi⟩ := k2.1 b h; exact ⟨i, A6.2 (.inr hi), hbi⟩
      have := List.nodup_append.1 hn
      exact List.nodup_append.2 ⟨h2.2 this.1, k2.2 this.2.1, fun b hb b' hb' e => aAz hR h2 k2 h3 k3 hn b hb (e ▸ hb')⟩
    rcases A6.1 hi with h | h
    . exact h3 i h
    exact k3 i h
def aPy : Nat -> List Operand -> List (Nat × Operand)
  | _, [] => []
  | k, x :: r => (k, x) :: aPy (k + 1) r
def aRb : Nat -> List Value -> List (Nat × Value)
  | _, [] => []
  | k, x :: r => (k, x) :: aRb (k + 1) r
def aQt {a : Act} : ∀ (xs : List Operand) (k : Nat), ((aPy k xs).map fun p => (p.1, a.eval p.2)) = aRb k (xs.map a.eval)
  | [], _ => rfl
  | x :: r, k => by simp [aPy, aRb, aQt r (k + 1)]
def aRd {sz n : Nat} {vals : Nat -> Value} : ∀ (r : List Value) (j : Nat) (cs : Array Value), j + r.length = n -> cs.size = n * sz -> (∀ v ∈ r, v.cells.size = sz) -> lG cs 0 sz j vals -> (∀ (q : Nat) (v : Value), r[q]? = some v -> vals (j + q) = v) ->
    ∃ cs', Instr.fill (fun i => some (i * sz, sz)) cs (aRb j r) = some cs' /\ cs'.size = n * sz /\ lG cs' 0 sz n vals
  | [], j, cs, hn, hs, _, hc, _ => ⟨cs, rfl, hs, by simp at hn; subst hn; exact hc⟩
  | v :: r, j, cs, hn, hs, hv, hc, hvals => by
    have hvs := hv v A2
    have hle : j * sz + sz <= cs.size := by
      rw [hs]
      calc j * sz + sz = (j + 1) * sz := by rw [Nat.add_mul, Nat.one_mul]
        _ <= n * sz := D6 _ (by simp at hn; omega)
    have hfold := aFa (j * sz) v.cells.toList 0 cs (by simp [hvs]; omega)
    have hspl : ∀ q, (bN cs.toList (j * sz) v.cells.toList).toArray[q]? = if q < j * sz then cs[q]? else if q < j * sz + sz then v.cells[q - j * sz]? else cs[q]? := fun q => by
      rw [List.getElem?_toArray, jX _ _ _ (by simp [hvs]; omega)]
      simp [hvs]
    have hval0 : vals j = v := by simpa using hvals 0 v rfl
    obtain ⟨cs', h1, h2, h3⟩ := aRd (sz := sz) (n := n) (vals := vals) r (j + 1) (bN cs.toList (j * sz) v.cells.toList).toArray (by simp at hn; omega) (by rw [List.size_toArray, iL _ _ _ (by simp [hvs]; omega)]; simpa using hs)
      (fun u hu => hv u (A5 _ hu)) (fun q hq => by
        rcases Nat.lt_or_ge q j with h | h
        . obtain ⟨h4, h5⟩ := hc q h
          refine ⟨h4, fun k hk => ?_⟩
          have hlt : 0 + q * sz + k < j * sz := by
            calc 0 + q * sz + k < q * sz + sz := by omega
              _ = (q + 1) * sz := by rw [Nat.add_mul, Nat.one_mul]
              _ <= j * sz := D6 _ h
          rw [hspl, if_pos hlt]
          exact h5 k hk
        have : q = j := by omega
        subst this; rw [hval0]
        refine ⟨hvs, fun k hk => ?_⟩
        rw [hspl, if_neg og, if_pos og]
        congr 1
        omega) (fun q u hq => by have := hvals (q + 1) u (by simpa using hq); rwa [show j + 1 + q = j + (q + 1) by omega])
    refine ⟨cs', ?_, h2, h3⟩
    simp only [aRb, Instr.fill]
    rw [if_neg (by simp [hvs]; omega)]
    have : v.cells.zipIdx.foldl (fun cs (p : Value × Nat) => cs.setIfInBounds (j * sz + p.2) p.1) cs = (bN cs.toList (j * sz) v.cells.toList).toArray := by
      rw [<- Array.foldl_toList, Array.toList_zipIdx]
      simpa using hfold
    rw [<- h1, <- this]
def AV.width : AV -> Nat
  | .agg cs => cs.length
  | _ => 1
def AV.solid : AV -> Bool
  | .agg _ => true
  | x => x.sc
def Rep.width {ρ : Nat -> Value} {av : Nat -> Prop} {hp : Array Obj} (h : Rep ρ av hp x v) (hone : ∀ i, (ρ i).oneCell' = true) (hx : x.solid = true) : v.cells.size = x.width := by
  cases x with
  | agg cs => cases h with | agg _ vs hn _ => exact hn
  | _ => rw [dK (h.sc hone hx)]; rfl
def AV.fitsEl (sz : Nat) (x : AV) : Bool := decide (x.width = sz) && x.solid
def aKw {t e : TypeId} {sz by' nx len : Nat} {dF : Array (Nat × Operand)} {zs : List Value} {xs : List Operand} {ps : List AV} (ho : o.op = .buildSlice t len dF) (hN : oD o N) (hs : cU P t = some (e, some (sz, by')))
    (hz : zC P e = some zs) (hp : dF.toList = aPy 0 xs) (hl : xs.length = len) (hps : xs.map (opv E) = ps.map some) (hfit : ps.all (AV.fitsEl sz) = true) (h0 : 0 < sz) (hbig : len * sz <= 16777216) (hk : (bJ (get H) ps).2.Nodup) (hnx : ¬ U nx) :
    OpT P ro N o E H U (aX E o.dst (.ref nx)) (over H ((nx, .row e sz (bJ (get H) ps).1) :: cF (bJ (get H) ps).2)) (fun j => U j ∨ j = nx) := by
  intro C a w next Q hR hK
  obtain ⟨hu, i, hi, hisz, hiby⟩ := gN hs
  obtain ⟨i', z, hi', hzz, hzc⟩ := uM hz
  rw [hi] at hi'
  cases hi'
  have hlen : xs.length = ps.length := by have := congrArg List.length hps; simpa using this
  have hget : ∀ (j : Nat) (p : AV), ps[j]? = some p -> ∃ x, xs[j]? = some x /\ opv E x = some p := fun j p hj => by
    have h1 : (xs.map (opv E))[j]? = some (some p) := by rw [hps, B5, hj]; rfl
    rw [B5] at h1
    obtain ⟨x, hx, hxp⟩ := B0.1 h1
    exact ⟨x, hx, hxp⟩
  let f : Nat -> Value := fun j => (xs.map a.eval).getD j undef
  have hf : ∀ (j : Nat) (p : AV), ps[j]? = some p -> Rep C.ρ (C.avoid H) w.heap p (f j) /\ p.bel U := fun j p hj => by
    obtain ⟨x, hx, hxp⟩ := hget j p hj
    have := hR.opv hxp
    simpa [f, E7, hx] using this
  obtain ⟨ows, a1, a2, a3, a4⟩ := aGs hR.toRelH ps f (fun j x hj => (hf j x hj).1) (bLi.2 fun x hx => by obtain ⟨j, hj⟩ := F8 hx; exact (hf j x hj).2)
  have hwid : ∀ v ∈ xs.map a.eval, v.cells.size = sz := fun v hv => by
    obtain ⟨j, hj⟩ := F8 hv
    have hjl := (B2.1 hj).1
    rw [A8] at hjl
    have hpj : ps[j]? = some (ps[j]'og) := A1 og
    have h1 := (hf j _ hpj).1
    have h2 := C7.1 hfit _ (E4 hpj)
    have hfj : f j = v := by simp only [f, E7, hj]; rfl
    rw [hfj] at h1
    generalize ps[j]'og = p at h1 h2
    unfold AV.fitsEl at h2
    simp only [B7, decide_eq_true_eq] at h2
    rw [<- h2.1]
    exact h1.width C.one h2.2
  have hmade : lG (madeCells z.cells (len * sz)) 0 sz 0 f := fun j hj => by omega
  obtain ⟨cs', b1, b2, b3⟩ := aRd (sz := sz) (n := len) (vals := f) (xs.map a.eval) 0 ((Array.range (len * sz)).map fun x => (if len * sz = 0 then #[] else z.cells)[x % (if len * sz = 0 then #[] else z.cells).size]!) (by simp [hl]) oS hwid (fun j hj => by omega) (fun q v hq => by simp only [f, E7, C3, hq]; rfl)
  have hmap : (dF.map fun (i, x) => (i, a.eval x)).toList = aRb 0 (xs.map a.eval) := by rw [<- aQt, <- hp]; simp
  have hrun : (execOp a.eval o).run P w = .ok (.value (.slice (some ⟨w.heap.size, 0, none⟩) len len)) (w.alloc (.cells cs' e)) := by
    have hsize : (sizeOf e).run P w = .ok sz w := by simp [sizeOf, typeInfo, hi, hisz]
    have hb : (Instr.buildSlice t len (dF.map fun (i, x) => (i, a.eval x))).run P w = .ok (.slice (some ⟨w.heap.size, 0, none⟩) len len) (w.alloc (.cells cs' e)) := by
      unfold Instr.buildSlice; rw [Sem.run_bind, run_underlying hu]; simp only [Result.andThen_ok]; rw [Sem.run_bind, hsize]; simp only [Result.andThen_ok]; rw [if_neg og]
      by_cases hc0 : len * sz = 0
      . rw [if_pos hc0, Sem.run_bind, Sem.run_pure]; simp only [Result.andThen_ok]
        simp only [if_pos hc0] at b1
        rw [hmap, b1]
        simp [newRow]
      rw [if_neg hc0]
      simp only [if_neg hc0] at b1
      have hzv : (zeroValue e).run P w = .ok z w := by simp [zeroValue, typeInfo, hi, hzz]
      simp only [Sem.run_bind, hzv, Result.andThen_ok, Sem.run_pure]; rw [hmap, b1]
      simp [newRow]
    simp [execOp, ho, hb]
  have hgrow : ∀ b, b < w.heap.size -> (w.alloc (.cells cs' e)).heap[b]? = w.heap[b]? := fun b hb => RowKit.Below.heap_alloc w _ b hb
  have hlenmax : len <= maxLen := by
    have : len <= len * sz := Nat.le_mul_of_pos_right _ h0
    simp only [maxLen]; omega
  obtain ⟨k, hs'⟩ := Rel.out (nx := nx) (k := (bJ (get H) ps).2) (ob := .row e sz (bJ (get H) ps).1) (v := .slice (some ⟨w.heap.size, 0, none⟩) len len) (w' := w.alloc (.cells cs' e)) hR rfl hnx a3 rfl rfl rfl oS (fun b hb _ => hgrow b hb)
    (own := w.heap.size :: bB ps.length ows) (fun b hb => by
      rcases A7.1 hb with h | h
      . exact .inr og
      exact .inl (a2.1 b h)) a4 (fun av' hav => by
    have hfl : (bJ (get H) ps).1.length = len := by rw [aHg]; omega
    have hold : ∀ b, b ∈ bB ps.length ows -> b < w.heap.size := fun b hb => by
      obtain ⟨i, hi, hbi⟩ := a2.1 b hb
      obtain ⟨oi, hoi⟩ := a3 i hi
      exact (hR.obj i oi hoi).own_lt b hbi
    refine ⟨?_, C6.2 ⟨fun hb => by have := hold _ hb; omega, a2.2 hk⟩⟩
    have := RepO.own (ρ := C.ρ) (av := av') (hp := (w.alloc (.cells cs' e)).heap) e sz (bJ (get H) ps).1 w.heap.size len cs' f ows (heap_alloc_new w _) b2 og hlenmax
      (fun j x hj => (a1 j x hj).mono' hav (fun b _ _ _ hb _ => hgrow b (ltB hb)) (fun b hb => hgrow b (hold b (mFl.2 ⟨j, by have := (B2.1 hj).1; omega, hb⟩)))) (by rw [hfl]; exact b3)
    rw [hfl] at this; rw [show ps.length = len by omega]
    exact this)
  refine eW (by simp [ho, Op.noDefer]) hrun (hK _ _ _ (k.put hN ?_ (Or.inr rfl)) hs')
  have : Rep (C.out nx (.slice (some ⟨w.heap.size, 0, none⟩) len len) (w.heap.size :: bB ps.length ows) (bJ (get H) ps).2 rfl).ρ ((C.out nx (.slice (some ⟨w.heap.size, 0, none⟩) len len) (w.heap.size :: bB ps.length ows) (bJ (get H) ps).2 rfl).avoid (over H ((nx, AObj.row e sz (bJ (get H) ps).1) :: cF (bJ (get H) ps).2)))
    (w.alloc (.cells cs' e)).heap (.ref nx) ((C.out nx (.slice (some ⟨w.heap.size, 0, none⟩) len len) (w.heap.size :: bB ps.length ows) (bJ (get H) ps).2 rfl).ρ nx) := .ref nx
  rwa [show (C.out nx (.slice (some ⟨w.heap.size, 0, none⟩) len len) (w.heap.size :: bB ps.length ows) (bJ (get H) ps).2 rfl).ρ nx = _ from dD _ _ _] at this
end
end
section
variable [Globals]
variable {e t : TypeId} {x y : Operand} {i : Nat}
def zE (P : Program) (e : TypeId) : Option AV :=
  match (P.info? e).bind (·.zero) with
  | some (.agg vs) => some (.agg (vs.toList.map .raw))
  | some v => if v.oneCell' = true then some (.raw v) else none
  | none => none
def aHq {P : Program} {x : AV} (h : zE P e = some x) : ∃ i z, P.info? e = some i /\ i.zero = some z /\ z.cells.size = x.width /\ (∀ ρ av hp, Rep ρ av hp x z) /\ ∀ U, x.bel U := by
  unfold zE at h; split at h
  . rename_i vs hz
    cases h
    obtain ⟨i, hi, hz⟩ := G7.1 hz
    refine ⟨i, _, hi, hz, by simp [AV.width, Value.cells], fun ρ av hp => ?_, fun U => aLn U _⟩
    have := aMy ρ av hp vs.toList
    exact .agg _ _ (by simpa using this.1) (by simpa using this.2)
  . rename_i v hne hz
    split at h
    . rename_i h1
      cases h
      obtain ⟨i, hi, hz⟩ := G7.1 hz
      exact ⟨i, _, hi, hz, by rw [dK h1]; rfl, fun ρ av hp => .raw _, fun U => trivial⟩
    cases h
  cases h
section
variable {P : Program} {ro : Option Nat} {N : Nat} {o : Oper} {E : Env} {H : Heap} {U : Nat -> Prop}
def aOk {sz by' nx : Nat} {k k' : IntKind} {n m : Int} {zel : AV} (ho : o.op = .makeSlice t x y) (hN : oD o N) (hs : cU P t = some (e, some (sz, by'))) (hz : zE P e = some zel) (hzw : zel.width = sz) (h0 : 0 < sz)
    (hx : opv E x = some (.raw (.int k n))) (hy : opv E y = some (.raw (.int k' m))) (hn : 0 <= n) (hnm : n <= m) (hby : (by' : Int) * m <= 281474976710656) (hm : m.toNat <= maxLen) (hnx : ¬ U nx) :
    OpT P ro N o E H U (aX E o.dst (.ref nx)) (put H nx (.row e sz (List.replicate n.toNat zel))) (fun j => U j ∨ j = nx) := by
  obtain ⟨hu, i, hi, hisz, hiby⟩ := gN hs
  obtain ⟨i', z, hi', hzz, hzc, hzr, hzb⟩ := aHq hz
  rw [hi] at hi'
  cases hi'
  have hbel : aK U (List.replicate n.toNat zel) := bLi.2 fun x hx => by rw [List.eq_of_mem_replicate hx]; exact hzb U
  refine aIt (by simp [ho, Op.noDefer]) hN hnx hbel (Or.inr rfl) fun C a w hR => ?_
  obtain ⟨h1, _⟩ := hR.opv hx
  obtain ⟨h2, _⟩ := hR.opv hy
  generalize hev : a.eval x = u at h1
  generalize hey : a.eval y = u' at h2
  cases h1; cases h2
  have hrun := run_make (P := P) w t e i z hu hi hzz k k' n m hn hnm (by rw [hiby]; exact hby) (by simp only [maxLen] at hm; omega)
  refine ⟨.slice (some ⟨w.heap.size, 0, none⟩) n.toNat m.toNat, .cells (madeCells z.cells (m.toNat * i.size)) e, .slice (some ⟨w.heap.size, 0, none⟩) n.toNat m.toNat, [w.heap.size], rfl, by simp [execOp, ho, hev, hey, hrun], by simp, fun ρ av hold => ⟨⟨?_, by simp⟩, fun e => ?_⟩⟩
  . have hzs : z.cells.size = sz := hzc.trans hzw
    have := RepO.own (ρ := ρ) (av := av) (hp := (w.alloc (.cells (madeCells z.cells (m.toNat * i.size)) e)).heap) e sz (List.replicate n.toNat zel) w.heap.size m.toNat _ (fun _ => z) (fun _ => []) (heap_alloc_new w _) (by rw [size_madeCells, hisz]) (by simp; omega) hm
      (fun j x hj => .leaf _ _ (by rw [List.eq_of_mem_replicate (E4 hj)]; exact hzr _ _ _)) (fun j hj => ⟨hzs, fun k hk => by
        rw [List.length_replicate] at hj
        have hlt : j * sz + k < m.toNat * sz := by
          calc j * sz + k < j * sz + sz := by omega
            _ = (j + 1) * sz := by rw [Nat.add_mul, Nat.one_mul]
            _ <= m.toNat * sz := D6 _ og
        have hmod : (j * sz + k) % sz = k := by rw [Nat.add_comm, Nat.add_mul_mod_self_right, Nat.mod_eq_of_lt hk]
        unfold madeCells; rw [hisz, C3, Array.getElem?_map, Array.getElem?_range, if_pos hlt]; simp only [Option.map_some, hzs, hmod]
        rw [getElem!_pos z.cells k og, D3 og]⟩)
    rw [List.length_replicate] at this
    have hfl : bB n.toNat (fun _ => []) = [] := by simp [bB]
    rw [hfl] at this; exact this
  rw [<- e]; exact .ref _
def Rel.again {C : Conc} {a : Act} {w : World} (hR : Rel C N E H U a w) {w' : World} {own k : List Nat} {ob ob' : AObj} (hi : get H i = some ob) (hik : i ∉ k) (hk : ∀ i ∈ k, ∃ o, get H i = some o)
    (ho : w'.os = w.os) (ht : w'.tape = w.tape) (hout : w'.output = w.output) (hsz : w.heap.size <= w'.heap.size) (hkeep : ∀ b, b < w.heap.size -> b ∉ C.own i -> w'.heap[b]? = w.heap[b]?)
    (hown : ∀ b, b ∈ own -> b ∈ C.own i ∨ (∃ i ∈ k, b ∈ C.own i)) (hb : ob'.bel U)
    (hrep : ∀ av' : Nat -> Prop, (∀ b, b < w.heap.size -> av' b -> C.avoid H b) -> cS C.ρ av' w'.heap own ob' (C.ρ i)) :
    ∃ C', C'.ρ = C.ρ /\ Rel C' N E (over H ((i, ob') :: cF k)) U a w' /\ StepR C H U w C' (over H ((i, ob') :: cF k)) w' := by
  classical
  let C' : Conc := { C with own := fun j => if j = i then own else if j ∈ k then [] else C.own j }
  have own_i : C'.own i = own := by simp [C']
  have own_k : ∀ j, j ≠ i -> j ∈ k -> C'.own j = [] := fun j h1 h2 => by simp [C', h1, h2]
  have own_o : ∀ j, j ≠ i -> j ∉ k -> C'.own j = C.own j := fun j h1 h2 => by simp [C', h1, h2]
  have hcase : ∀ j o', get (over H ((i, ob') :: cF k)) j = some o' -> (j = i /\ o' = ob') ∨ (j ≠ i /\ j ∈ k /\ o' = .dead) ∨ (j ≠ i /\ j ∉ k /\ get H j = some o') := fun j o' hj => by
    rw [dB, show get ((i, ob') :: cF k) j = if i = j then some ob' else get (cF k) j from rfl] at hj
    by_cases e : i = j
    . rw [if_pos e] at hj; cases hj
      exact .inl ⟨e.symm, rfl⟩
    rw [if_neg e, aGa] at hj
    by_cases hm : j ∈ k
    . rw [if_pos hm] at hj; cases hj
      exact .inr (.inl ⟨fun e' => e e'.symm, hm, rfl⟩)
    rw [if_neg hm] at hj
    exact .inr (.inr ⟨fun e' => e e'.symm, hm, hj⟩)
  have hkW : ∀ j ∈ k, ∀ b, b ∈ C.own j -> C.W H b := fun j hj b hb => let ⟨o', ho'⟩ := hk j hj; ⟨j, o', ho', hb⟩
  have hs : StepR C H U w C' (over H ((i, ob') :: cF k)) w' :=
    { os := ho, tape := ht, output := hout, size := hsz
      keep := fun b hb hn => hkeep b hb fun hbi => hn ⟨i, ob, hi, hbi⟩
      wr := fun b ⟨j, o', hj, hb'⟩ => by
        rcases hcase j o' hj with ⟨rfl, _⟩ | ⟨h1, h2, _⟩ | ⟨h1, h2, h3⟩
        . rw [own_i] at hb'
          rcases hown b hb' with h | ⟨q, hq, hb2⟩
          . exact .inl ⟨j, ob, hi, h⟩
          exact .inl (hkW q hq b hb2)
        . rw [own_k j h1 h2] at hb'; cases hb'
        rw [own_o j h1 h2] at hb'; exact .inl ⟨j, o', h3, hb'⟩
      X := rfl, B := rfl, ρ := fun _ _ => rfl }
  have hav : ∀ b, b < w.heap.size -> C'.avoid (over H ((i, ob') :: cF k)) b -> C.avoid H b := fun b hb hq => by
    rcases hq with hq | hq
    . exact .inl hq
    rcases hs.wr b hq with h | h
    . exact .inr h
    omega
  have hRH : RelH C' (over H ((i, ob') :: cF k)) U w' := by
    refine hR.toRelH.change hs (fun _ h => h) (fun j o' hj => ?_) (fun p q op oq b hne hp hq hbp hbq => ?_)
    . rcases hcase j o' hj with ⟨rfl, rfl⟩ | ⟨h1, h2, rfl⟩ | ⟨h1, h2, h3⟩
      . exact .inr ⟨by rw [own_i]; exact hrep _ hav, (hR.objb j ob hi).1, hb⟩
      . obtain ⟨o2, ho2⟩ := hk j h2
        exact .inr ⟨own_k j h1 h2, (hR.objb j o2 ho2).1, trivial⟩
      exact .inl ⟨(hR.objb j o' h3).1, h3, own_o j h1 h2, fun b hb' => hkeep b ((hR.obj j o' h3).own_lt b hb') fun hbi => hR.apart j i o' ob b h1 h3 hi hb' hbi⟩
    have key : ∀ p q op oq, p ≠ q -> get (over H ((i, ob') :: cF k)) p = some op -> get (over H ((i, ob') :: cF k)) q = some oq -> p = i -> b ∈ C'.own p -> b ∈ C'.own q -> False := fun p q op oq hne hp hq e hbp hbq => by
      subst e; rw [own_i] at hbp
      rcases hcase q oq hq with ⟨h1, _⟩ | ⟨h1, h2, _⟩ | ⟨h1, h2, h3⟩
      . exact hne h1.symm
      . rw [own_k q h1 h2] at hbq; cases hbq
      rw [own_o q h1 h2] at hbq
      rcases hown b hbp with h | ⟨r, hr, hb2⟩
      . exact hR.apart q p oq ob b h1 h3 hi hbq h
      obtain ⟨o2, ho2⟩ := hk r hr
      exact hR.apart q r oq o2 b (fun e => h2 (e ▸ hr)) h3 ho2 hbq hb2
    rcases hcase p op hp with ⟨h1, _⟩ | ⟨h1, h2, _⟩ | ⟨h1, h2, h3⟩
    . exact key p q op oq hne hp hq h1 hbp hbq
    . rw [own_k p h1 h2] at hbp; cases hbp
    rcases hcase q oq hq with ⟨h1', _⟩ | ⟨h1', h2', _⟩ | ⟨h1', h2', h3'⟩
    . exact key q p oq op hne.symm hq hp h1' hbq hbp
    . rw [own_k q h1' h2'] at hbq; cases hbq
    rw [own_o p h1 h2] at hbp; rw [own_o q h1' h2'] at hbq
    exact hR.apart p q op oq b hne h3 h3' hbp hbq
  exact ⟨C', rfl, hR.change hs (fun _ h => h) hRH, hs⟩
def aU {f : Nat -> List Nat} : ∀ {n : Nat}, (bB n f).Nodup ↔ (∀ j, j < n -> (f j).Nodup) /\ ∀ i j, i < n -> j < n -> i ≠ j -> ∀ b, b ∈ f i -> b ∈ f j -> False
  | 0 => by simp [bB]
  | n + 1 => by
    have hfl : bB (n + 1) f = bB n f ++ f n := by simp [bB, List.range_succ, List.flatMap_append]
    rw [hfl, List.nodup_append, aU (n := n)]
    constructor
    . rintro ⟨⟨h1, h2⟩, h3, h4⟩
      refine ⟨fun j hj => ?_, fun i j hi hj hne b hb hb' => ?_⟩
      . by_cases e : j = n
        . subst e; exact h3
        exact h1 j og
      by_cases e : i = n
      . subst e
        exact h4 b (mFl.2 ⟨j, og, hb'⟩) b hb rfl
      by_cases e' : j = n
      . subst e'
        exact h4 b (mFl.2 ⟨i, og, hb⟩) b hb' rfl
      exact h2 i j og og hne b hb hb'
    rintro ⟨h1, h2⟩
    refine ⟨⟨fun j hj => h1 j og, fun i j hi hj => h2 i j og og⟩, h1 n og, fun b hb b' hb' e => ?_⟩
    subst e
    obtain ⟨j, hj, hbj⟩ := mFl.1 hb
    exact h2 j n og og og b hbj hb'
def AV.notAgg : AV -> Bool
  | .agg _ => false
  | _ => true
def bBu (el : AV) (off esz sz : Nat) (y : AV) : Option AV :=
  if off = 0 /\ sz = esz then some y else
  match el with
  | .agg cs => if sz = 1 /\ off < cs.length /\ y.notAgg = true then some (.agg (cs.set off y)) else none
  | _ => none
def RepO.agg_inv {ρ : Nat -> Value} {av : Nat -> Prop} {hp : Array Obj} {cs : List AV} {v : Value} {ow : List Nat} (h : RepO ρ av hp (.agg cs) v ow) : ∃ vs ows, v = .agg vs /\ vs.size = cs.length /\ ow = bB cs.length ows /\ ∀ (j : Nat) (x : AV), cs[j]? = some x -> RepO ρ av hp x (vs.getD j undef) (ows j) := by
  cases h with
  | leaf _ _ h =>
    cases h with
    | agg _ vs hn hr => exact ⟨vs, fun _ => [], rfl, hn, by simp [bB], fun j x hj => .leaf _ _ (hr j x hj)⟩
  | agg _ vs ows hn hr => exact ⟨vs, ows, rfl, hn, rfl, hr⟩
def aOf {i esz j off sz : Nat} {ag : Bool} {xs : List AV} {el p el' : AV} (ho : o.op = .store t x y) (hN : oD o N) (hv : VarT P t sz ag)
    (hx : opv E x = some (.ep i esz j off)) (hH : get H i = some (.row e esz xs)) (hj : xs[j]? = some el) (hy : opv E y = some p) (hps : p.solid = true) (hpe : p.elem = true) (hpw : p.width = sz) (hle : off + sz <= esz)
    (hel : bBu el off esz sz (gB (get H) p).1 = some el') (hk : (gB (get H) p).2.Nodup) (hik : i ∉ (gB (get H) p).2) :
    OpT P ro N o E H U (aX E o.dst (.raw undef)) (over H ((i, .row e esz (xs.set j el')) :: cF (gB (get H) p).2)) U := by
  intro C a w next Q hR hK
  obtain ⟨h1, _⟩ := hR.opv hx
  obtain ⟨h2, h2b⟩ := hR.opv hy
  obtain ⟨owp, q1, q2, q3, q4⟩ := aMb hR.toRelH h2 h2b
  have hlt := (B2.1 hj).1
  obtain ⟨hO, hnd⟩ := hR.obj i _ hH
  have hbelx := (hR.objb i _ hH).2
  rcases hO.row_inv with ⟨rfl, _⟩ | ⟨b, c, cells, vals, ows, hval, hown, hb, hcs, hc, hm, hrep, hcells⟩
  . simp at hj
  have hev := yW h1 (b := b) (by rw [hval]; rfl)
  have hpsz : (a.eval y).cells.size = sz := by rw [h2.width C.one hps]; exact hpw
  have hp1 : ∀ u ∈ (a.eval y).cells.toList, u.oneCell' = true := fun u hu => by
    obtain ⟨k, hk'⟩ := F8 hu
    rw [D5] at hk'
    have hkl := (Array.getElem?_eq_some_iff.1 hk').1
    have := (RepO.leaf _ _ h2).elem C.one hpe hkl
    rw [B6, hk'] at this; exact this
  have hroom : j * esz + off + sz <= cells.size := by
    rw [hcs]
    calc j * esz + off + sz <= j * esz + esz := by omega
      _ = (j + 1) * esz := by rw [Nat.add_mul, Nat.one_mul]
      _ <= c * esz := D6 _ og
  have hrun := vA (P := P) (w := w) hv hb (v := a.eval y) (off := j * esz + off) hpsz hp1 hroom
  generalize hcells' : (bN cells.toList (j * esz + off) (a.eval y).cells.toList).toArray = cells' at hrun
  have hc'size : cells'.size = c * esz := by rw [<- hcells', List.size_toArray, iL _ _ _ (by simp [hpsz]; omega)]; simpa using hcs
  have hget : ∀ q, cells'[q]? = if q < j * esz + off then cells[q]? else if q < j * esz + off + sz then (a.eval y).cells[q - (j * esz + off)]? else cells[q]? := fun q => by
    rw [<- hcells', List.getElem?_toArray, jX _ _ _ (by simp [hpsz]; omega)]
    simp [hpsz]
  have hother : ∀ k, k ≠ b -> (w.setRow b cells').heap[k]? = w.heap[k]? := fun k hk => setRow_other w b k _ hk
  have hnew : ∃ v' ow', RepO C.ρ (C.avoid H) w.heap el' v' ow' /\ v'.cells.size = esz /\ (∀ k, k < esz -> cells'[j * esz + k]? = v'.cells[k]?) /\ (∀ q, q ∈ ow' -> q ∈ ows j ∨ q ∈ owp) /\ ((ows j).Nodup -> owp.Nodup -> (∀ q, q ∈ ows j -> q ∈ owp -> False) -> ow'.Nodup) /\ el'.bel U := by
    unfold bBu at hel; split at hel
    . rename_i hcond
      obtain ⟨rfl, rfl⟩ := hcond
      cases hel
      refine ⟨a.eval y, owp, q1, hpsz, fun k hk => ?_, fun q hq => .inr hq, fun _ h _ => h, q4⟩
      rw [hget, if_neg og, if_pos og]
      congr 1
      omega
    rename_i hcond
    split at hel
    . rename_i cs
      split at hel
      . rename_i hc2
        obtain ⟨rfl, hoff, hna⟩ := hc2
        cases hel
        obtain ⟨vs, owc, hvs, hvl, howc, hparts⟩ := (hrep j _ hj).agg_inv
        obtain ⟨hsz, hck⟩ := hcells j hlt
        rw [hvs] at hsz hck
        have hsz' : vs.size = esz := hsz
        have hpc : ∃ u, (a.eval y).cells[0]? = some u /\ (a.eval y).cells.size = 1 := ⟨_, D3 og, hpsz⟩
        obtain ⟨u, hu, hu1⟩ := hpc
        have habs : RepO C.ρ (C.avoid H) w.heap (gB (get H) p).1 u owp := by
          cases p with
          | agg pcs => simp [gB, AV.notAgg] at hna
          | _ =>
            have hone := h2.sc C.one hps
            rw [dK hone] at hu
            simp only [List.getElem?_toArray, List.getElem?_cons_zero, B9] at hu
            rw [<- hu]; exact q1
        refine ⟨.agg (vs.setIfInBounds off u), bB cs.length (fun k => if k = off then owp else owc k), ?_, by simpa [Value.cells] using hsz', fun k hk => ?_, fun q hq => ?_, fun n1 n2 n3 => ?_, ?_⟩
        . have := RepO.agg (ρ := C.ρ) (av := C.avoid H) (hp := w.heap) (cs.set off (gB (get H) p).1) (vs.setIfInBounds off u) (fun k => if k = off then owp else owc k) (by simpa using hvl) (fun k x hk => by
            rw [G5] at hk; rw [B6, G8]
            by_cases e : off = k
            . subst e; rw [if_pos rfl, if_pos hoff] at hk; cases hk; simp only [if_true, show off < vs.size by omega, Option.getD_some]; exact habs
            rw [if_neg e] at hk; rw [if_neg e, if_neg (fun e' => e e'.symm), <- B6]
            exact hparts k x hk)
          rw [D1] at this; exact this
        . rw [hget]; simp only [Value.cells]; rw [G8]
          by_cases e : off = k
          . subst e
            rw [if_neg og, if_pos og, if_pos rfl, if_pos og, show j * esz + off - (j * esz + off) = 0 by omega]; exact hu
          have h9 := hck k hk
          rw [C3] at h9; rw [if_neg e]; split
          . exact h9
          rw [if_neg og]; exact h9
        . obtain ⟨k, hk, hq⟩ := mFl.1 hq
          split at hq
          . exact .inr hq
          exact .inl (by rw [howc]; exact mFl.2 ⟨k, hk, hq⟩)
        . rw [howc, aU] at n1; rw [aU]
          refine ⟨fun k hk => ?_, fun p q hp hq hne d hd hd' => ?_⟩
          . split
            . exact n2
            exact n1.1 k hk
          rw [howc] at n3; split at hd
          . split at hd'
            . omega
            exact n3 d (mFl.2 ⟨q, hq, hd'⟩) hd
          split at hd'
          . exact n3 d (mFl.2 ⟨p, hp, hd⟩) hd'
          exact n1.2 p q hp hq hne d hd hd'
        show aK U _
        rw [bLi]; intro z hz
        rcases List.mem_or_eq_of_mem_set hz with h | h
        . exact bLi.1 (bG hbelx hj) z h
        rw [h]; exact q4
      cases hel
    cases hel
  obtain ⟨v', ow', n1, n2, n3, n4, n5, n6⟩ := hnew
  rw [hown] at hnd
  obtain ⟨hnd1, hnd2⟩ := C6.1 hnd
  have hkdis : ∀ d, d ∈ owp -> d ∈ C.own i -> False := fun d hd hd' => by
    obtain ⟨k, hk', hdk⟩ := q2.1 d hd
    obtain ⟨ok, hok⟩ := q3 k hk'
    exact hR.apart i k _ ok d (fun e => hik (e ▸ hk')) hH hok hd' hdk
  have hfj : ∀ d, d ∈ ows j -> d ∈ C.own i := fun d hd => by rw [hown]; exact A5 _ (mFl.2 ⟨j, hlt, hd⟩)
  obtain ⟨C', hCρ, k1, k2⟩ := Rel.again (ob' := .row e esz (xs.set j el')) (k := (gB (get H) p).2) (own := b :: bB xs.length (fun q => if q = j then ow' else ows q)) (w' := w.setRow b cells') hR hH hik q3 rfl rfl rfl oS
    (fun d _ hd => hother d (fun e => hd (by rw [hown, e]; exact A2))) (fun d hd => by
      rcases A7.1 hd with rfl | hd
      . exact .inl (by rw [hown]; exact A2)
      obtain ⟨q, hq, hd⟩ := mFl.1 hd
      split at hd
      . rcases n4 d hd with h | h
        . exact .inl (hfj d h)
        exact .inr (q2.1 d h)
      exact .inl (by rw [hown]; exact A5 _ (mFl.2 ⟨q, hq, hd⟩)))
    (by show aK U _; rw [bLi]; intro z hz; rcases List.mem_or_eq_of_mem_set hz with h | h; exact bLi.1 hbelx z h; rw [h]; exact n6)
    (fun av' hav => by
      have hheap : ∀ d, d ≠ b -> (w.setRow b cells').heap[d]? = w.heap[d]? := hother
      have trans : ∀ {x : AV} {u : Value} {ow : List Nat}, RepO C.ρ (C.avoid H) w.heap x u ow -> (∀ d, d ∈ ow -> d ≠ b) -> RepO C.ρ av' (w.setRow b cells').heap x u ow := fun hr hn =>
        hr.mono' hav (fun d _ _ _ hd hnd => hheap d fun e => hnd (.inr ⟨i, _, hH, by rw [hown, e]; exact A2⟩)) (fun d hd => hheap d (hn d hd))
      refine ⟨?_, C6.2 ⟨fun hd => ?_, ?_⟩⟩
      . have := RepO.own (ρ := C.ρ) (av := av') (hp := (w.setRow b cells').heap) e esz (xs.set j el') b c cells' (fun q => if q = j then v' else vals q) (fun q => if q = j then ow' else ows q) (setRow_heap w b cells _ e (0, 0) hb) hc'size (by simpa using hc) hm
          (fun q x hq => by
            rw [G5] at hq
            by_cases e' : j = q
            . subst e'
              rw [if_pos rfl, if_pos hlt] at hq; cases hq; simp only [if_true]
              exact trans n1 fun d hd e => by
                rcases n4 d hd with h | h
                . exact hnd1 (e ▸ mFl.2 ⟨j, hlt, h⟩)
                exact hkdis d h (by rw [hown, e]; exact A2)
            rw [if_neg e'] at hq; simp only [if_neg (fun e => e' e.symm : ¬ q = j)]
            exact trans (hrep q x hq) fun d hd e => hnd1 (e ▸ mFl.2 ⟨q, (B2.1 hq).1, hd⟩))
          (fun q hq => by
            rw [D1] at hq
            by_cases e' : q = j
            . subst e'
              simp only [if_true]
              exact ⟨n2, fun k hk => by rw [C3]; exact n3 k hk⟩
            simp only [if_neg e']
            obtain ⟨h5, h6⟩ := hcells q hq
            refine ⟨h5, fun k hk => ?_⟩
            rw [<- h6 k hk, hget]; split
            . rfl
            rename_i hge
            rw [if_neg]; intro hlt2
            rcases Nat.lt_or_ge q j with h | h
            . have : q * esz + esz <= j * esz := by
                calc q * esz + esz = (q + 1) * esz := by rw [Nat.add_mul, Nat.one_mul]
                  _ <= j * esz := D6 _ h
              omega
            . have : j * esz + esz <= q * esz := by
                calc j * esz + esz = (j + 1) * esz := by rw [Nat.add_mul, Nat.one_mul]
                  _ <= q * esz := D6 _ og
              omega)
        rw [D1] at this; rw [hval]; exact this
      . obtain ⟨q, hq, hd⟩ := mFl.1 hd
        split at hd
        . rcases n4 b hd with h | h
          . exact hnd1 (mFl.2 ⟨j, hlt, h⟩)
          exact hkdis b h (by rw [hown]; exact A2)
        exact hnd1 (mFl.2 ⟨q, hq, hd⟩)
      rw [aU] at hnd2 ⊢
      have hcross : ∀ q d, q < xs.length -> q ≠ j -> d ∈ ow' -> d ∈ ows q -> False := fun q d hq hne hd hd' => by
        rcases n4 d hd with h | h
        . exact hnd2.2 j q hlt hq (fun e => hne e.symm) d h hd'
        exact hkdis d h (by rw [hown]; exact A5 _ (mFl.2 ⟨q, hq, hd'⟩))
      refine ⟨fun q hq => ?_, fun p q hp hq hne d hd hd' => ?_⟩
      . split
        . exact n5 (hnd2.1 j hlt) (q2.2 hk) (fun d h h' => hkdis d h' (hfj d h))
        exact hnd2.1 q hq
      split at hd
      . split at hd'
        . omega
        exact hcross q d hq (by assumption) hd hd'
      split at hd'
      . exact hcross p d hp (by assumption) hd' hd
      exact hnd2.2 p q hp hq hne d hd hd')
  refine rG (by simp [ho, Op.noDefer]) (by simp [execOp, ho, hev, Instr.storeAt, Instr.sureAddr, hrun]) (hK _ _ _ (k1.put hN (.raw _) trivial) k2)
end
end
section
variable [Globals]
variable {t : TypeId} {x : Operand} {p : AV} {b : Bool}
def aGm (P : Program) (t : TypeId) : Bool := match P.underlying t with | some .string => true | _ => false
def aBn (P : Program) (t : TypeId) : Bool := match P.underlying t with | some (.slice _) => true | _ => false
def aWt (P : Program) (t : TypeId) : Bool := match P.underlying t with | some (.interface _) => true | _ => false
def aBg {P : Program} (h : aGm P t = true) : P.underlying t = some .string := by
  unfold aGm at h; split at h
  . assumption
  cases h
def bFt {P : Program} (h : aBn P t = true) : ∃ e, P.underlying t = some (.slice e) := by
  unfold aBn at h; split at h
  . exact ⟨_, by assumption⟩
  cases h
def bAf (P : Program) (t : TypeId) : AV -> Option Nat
  | .raw (.string s) => if aGm P t = true then some s.size else none
  | .raw (.slice none 0 0) => if aBn P t = true then some 0 else none
  | .sl _ xs => if aBn P t = true then some xs.length else none
  | _ => none
def aMn (P : Program) (t : TypeId) (x : AV) (h : Nat -> Option AObj) : Option Nat :=
  match x with
  | .ref i => match h i with
    | some (.row _ _ xs) => if aBn P t = true then some xs.length else none
    | _ => none
  | x => bAf P t x
section
variable {P : Program} {ro : Option Nat} {N : Nat} {o : Oper} {E : Env} {H : Heap} {U : Nat -> Prop}
def bLm {c : Call} {n : Nat} (ho : o.op = .call c) (hc : c.callee = .builtin .len) (hargs : c.args = #[x]) (hts : c.argTypes = #[t]) (hN : oD o N)
    (hx : opv E x = some p) (hn : aMn P t p (get H) = some n) : OpT P ro N o E H U (aX E o.dst (.raw (.int .i64 n))) H U := by
  refine aT (by simp [ho, Op.noDefer]) hN fun C a w hR => ?_
  obtain ⟨h1, h2⟩ := hR.opv hx
  refine ⟨trivial, _, ?_, .raw _⟩
  have hslice : ∀ A m cc, aBn P t = true -> (Builtin.len_ #[t] o.type #[.slice A m cc]).run P w = .ok (.int .i64 m) w := fun A m cc h => by
    obtain ⟨e, hu⟩ := bFt h
    simp [Builtin.len_, run_underlying hu, goInt]
  have hl : (Builtin.len_ #[t] o.type #[a.eval x]).run P w = .ok (.int .i64 n) w := by
    generalize a.eval x = v at h1
    unfold aMn at hn; split at hn
    . rename_i i
      split at hn
      . rename_i hH
        split at hn
        . rename_i hs
          cases hn; cases h1
          obtain ⟨h3, _⟩ := hR.obj i _ hH
          rcases h3.row_inv with ⟨rfl, hv, _⟩ | ⟨b, cc, cells, vals, ows, hv, _⟩
          . rw [hv]; exact hslice _ _ _ hs
          rw [hv]; exact hslice _ _ _ hs
        cases hn
      cases hn
    unfold bAf at hn; split at hn
    . split at hn
      . rename_i hs
        cases hn; cases h1
        simp [Builtin.len_, run_underlying (aBg hs), goInt]
      cases hn
    . split at hn
      . rename_i hs
        cases hn; cases h1
        exact hslice _ _ _ hs
      cases hn
    . split at hn
      . rename_i hs
        cases hn
        cases h1 with
        | sl0 => exact hslice _ _ _ hs
        | sl => exact hslice _ _ _ hs
      cases hn
    cases hn
  simp [execOp, ho, resolve, hc, hargs, hts, invoke, builtin, hl]
def aUj (op : BinOp) (isNil : Bool) : Option Bool :=
  match op with
  | .eql => some isNil
  | .neq => some (!isNil)
  | _ => none
def bCo : AV -> Option Bool
  | .iface _ _ => some false
  | .raw .nilIface => some true
  | _ => none
def aNv {v : Value} {w : World} (ht : aWt P t = true) (hv : (v = .nilIface /\ b = true) ∨ (∃ d u, v = .iface d u /\ b = false)) : (Op.equal t v .nilIface).run P w = .ok b w := by
  unfold aWt at ht; split at ht
  . rename_i ms hu
    unfold Op.equal; rw [show Op.maxDepth = (Op.maxDepth - 1) + 1 from rfl, Op.equalIn, Sem.run_bind, run_underlying hu]
    rcases hv with ⟨rfl, rfl⟩ | ⟨d, u, rfl, rfl⟩ <;> rfl
  cases ht
def aTf {op : BinOp} {t t' : TypeId} {b r : Bool} (ho : o.op = .binOp op t x (.const .nilIface) t') (hN : oD o N) (ht : aWt P t = true) (hx : opv E x = some p) (hp : bCo p = some b) (hr : aUj op b = some r) :
    OpT P ro N o E H U (aX E o.dst (.raw (.bool r))) H U := by
  refine aT (by simp [ho, Op.noDefer]) hN fun C a w hR => ?_
  obtain ⟨h1, _⟩ := hR.opv hx
  generalize hev : a.eval x = u at h1
  have hey : a.eval (.const .nilIface) = .nilIface := rfl
  have hu : (u = .nilIface /\ b = true) ∨ (∃ d z, u = .iface d z /\ b = false) := by
    unfold bCo at hp; split at hp
    . cases hp; cases h1; exact .inr ⟨_, _, rfl, rfl⟩
    . cases hp; cases h1; exact .inl ⟨rfl, rfl⟩
    cases hp
  have heq := aNv (P := P) (w := w) ht hu
  have hgd : eqGuard op t x (.const .nilIface) u .nilIface = pure () := by
    rcases hu with ⟨rfl, _⟩ | ⟨d, z, rfl, _⟩
    . exact eqGuard_nil_constR ..
    exact eqGuard_at_iface ..
  refine ⟨trivial, .bool r, ?_, .raw _⟩
  have hb : (binOp op t u .nilIface).run P w = .ok (.bool r) w := by
    cases op <;> simp only [aUj, B9, reduceCtorEq] at hr
    . subst hr
      rcases hu with ⟨rfl, hb⟩ | ⟨d, z, rfl, hb⟩ <;> simp only [binOp, Sem.run_bind, heq, Result.andThen_ok, Sem.run_pure]
    subst hr
    rcases hu with ⟨rfl, hb⟩ | ⟨d, z, rfl, hb⟩ <;> simp only [binOp, Sem.run_bind, heq, Result.andThen_ok, Sem.run_pure]
  simp only [execOp, ho, hev, hey, hgd, Sem.run_bind, Sem.run_pure, Result.andThen_ok, hb]
def aTr {t e : TypeId} {lo hi : Option Operand} {sz by' : Nat} {xs : List AV} {l h : Int} (ho : o.op = .slice t x lo hi none) (hN : oD o N) (hs : cU P t = some (e, some (sz, by'))) (hx : opv E x = some (.sl sz xs))
    (hlo : (lo = none /\ l = 0) ∨ ∃ y k, lo = some y /\ opv E y = some (.raw (.int k l))) (hhi : (hi = none /\ h = xs.length) ∨ ∃ y k, hi = some y /\ opv E y = some (.raw (.int k h))) (h0 : 0 <= l) (h1 : l <= h) (h2 : h <= xs.length) :
    OpT P ro N o E H U (aX E o.dst (.sl sz ((xs.take h.toNat).drop l.toNat))) H U := by
  refine aT (by simp [ho, Op.noDefer]) hN fun C a w hR => ?_
  obtain ⟨r1, r2⟩ := hR.opv hx
  obtain ⟨hu, i, hi', hisz, _⟩ := gN hs
  have hbel : aK U ((xs.take h.toNat).drop l.toNat) := bLi.2 fun z hz => bLi.1 r2 z (C9 (D0 hz))
  have hloV : lo.map a.eval = none /\ l = 0 ∨ ∃ k, lo.map a.eval = some (.int k l) := by
    rcases hlo with ⟨rfl, rfl⟩ | ⟨y, k, rfl, hy⟩
    . exact .inl ⟨rfl, rfl⟩
    obtain ⟨q1, _⟩ := hR.opv hy
    right
    refine ⟨k, ?_⟩
    simp only [Option.map_some]
    generalize a.eval y = v at q1
    cases q1; rfl
  have hhiV : hi.map a.eval = none /\ h = xs.length ∨ ∃ k, hi.map a.eval = some (.int k h) := by
    rcases hhi with ⟨rfl, rfl⟩ | ⟨y, k, rfl, hy⟩
    . exact .inl ⟨rfl, rfl⟩
    obtain ⟨q1, _⟩ := hR.opv hy
    right
    refine ⟨k, ?_⟩
    simp only [Option.map_some]
    generalize a.eval y = v at q1
    cases q1; rfl
  have hrun : ∀ A c, xs.length <= c -> (Instr.slice t (.slice A xs.length c) (lo.map a.eval) (hi.map a.eval) none).run P w = .ok (.slice (if c = l.toNat then A else A.map (·.add (l.toNat * sz))) (h.toNat - l.toNat) (c - l.toNat)) w := fun A c hc => by
    have hb : (Instr.sliceBounds true xs.length c (lo.map a.eval) (hi.map a.eval) none).run P w = .ok (l.toNat, h.toNat, c) w := by
      have hh : h <= c := by omega
      rcases hhiV with ⟨e1, e2⟩ | ⟨k, e1⟩
      . rcases hloV with ⟨e3, e4⟩ | ⟨k', e3⟩
        . subst e4; rw [e1, e3]; simp [Instr.sliceBounds, e2]
        rw [e1, e3]; simp [Instr.sliceBounds, Instr.sliceBound, asIntOf, h0, show l <= xs.length by omega, e2]
      rcases hloV with ⟨e3, e4⟩ | ⟨k', e3⟩
      . subst e4; rw [e1, e3]; simp [Instr.sliceBounds, Instr.sliceBound, asIntOf, show (0:Int) <= h by omega, hh]
      have h5 : l <= ((h.toNat : Nat) : Int) := by omega
      rw [e1, e3]; simp only [Instr.sliceBounds, Instr.sliceBound, asIntOf, Sem.run_bind, Sem.run_pure, Result.andThen_ok, if_pos (show 0 <= h /\ h <= (c : Int) from ⟨og, hh⟩), if_pos (show 0 <= l /\ l <= ((h.toNat : Nat) : Int) from ⟨h0, h5⟩)]
    simp [Instr.slice, run_underlying hu, hb, sizeOf, typeInfo, hi', hisz]
  have hex : ∀ (v v' : Value), a.eval x = v -> (Instr.slice t v (lo.map a.eval) (hi.map a.eval) none).run P w = .ok v' w -> (execOp a.eval o).run P w = .ok (.value v') w := fun v v' q1 q2 => by
    simp [execOp, ho, q1, Instr.sliceAt, run_underlying hu, q2]
  have hlen : ((xs.take h.toNat).drop l.toNat).length = h.toNat - l.toNat := by simp; omega
  generalize hev : a.eval x = v at r1
  cases r1 with
  | sl0 _ A c hc =>
    have := hrun A c (A3 _)
    refine ⟨hbel, _, hex _ _ hev this, ?_⟩
    have h9 : h.toNat - l.toNat = 0 := by simp at h2; omega
    rw [h9]; simp only [List.take_nil, List.drop_nil]
    exact .sl0 _ _ _ og
  | sl _ _ b off c cells tt fr vals hp hc hm hnb hh hrep hcells =>
    have := hrun (some ⟨b, off, none⟩) c hc
    refine ⟨hbel, _, hex _ _ hev this, ?_⟩
    by_cases h9 : h.toNat - l.toNat = 0
    . rw [h9, G6 (hlen.trans h9)]
      exact .sl0 _ _ _ og
    have hadd : (if c = l.toNat then (some ⟨b, off, none⟩ : Option Addr) else (some ⟨b, off, none⟩ : Option Addr).map (·.add (l.toNat * sz))) = some ⟨b, off + l.toNat * sz, none⟩ := by
      rw [if_neg og]
      simp [jU]
    rw [hadd]
    have := Rep.sl (ρ := C.ρ) (av := C.avoid H) (hp := w.heap) sz ((xs.take h.toNat).drop l.toNat) b (off + l.toNat * sz) (c - l.toNat) cells tt fr (fun j => vals (l.toNat + j)) og og og hnb hh
      (fun j z hj => by
        rw [H4, F7] at hj; split at hj
        . exact hrep _ z hj
        cases hj)
      (fun j hj => by
        obtain ⟨q1, q2⟩ := hcells (l.toNat + j) og
        refine ⟨q1, fun k hk => ?_⟩
        rw [<- q2 k hk, Nat.add_mul]
        congr 1
        omega)
    rw [hlen] at this; exact this
end
end
section
variable [Globals]
variable {t : TypeId} {k : IntKind} {x : Operand}
def lZ (P : Program) (t : TypeId) : Option (TypeId × TypeId) :=
  match P.underlying t with
  | some (.map k e) => some (k, e)
  | _ => none
def rF {P : Program} {t k e : TypeId} (h : lZ P t = some (k, e)) : P.underlying t = some (.map k e) := by
  unfold lZ at h; split at h
  . cases h; assumption
  cases h
def gD (P : Program) (t : TypeId) : Option IntKind :=
  match P.underlying t with
  | some (.int k) => some k
  | _ => none
def aCr {P : Program} (h : gD P t = some k) : P.underlying t = some (.int k) := by
  unfold gD at h; split at h
  . cases h; assumption
  cases h
section
variable {P : Program} {ro : Option Nat} {N : Nat} {o : Oper} {E : Env} {H : Heap} {U : Nat -> Prop}
def aVo {t kt et : TypeId} {nw : Nat} (ho : o.op = .makeMap t none) (hN : oD o N) (hm : lZ P t = some (kt, et)) (hnw : ¬ U nw) :
    OpT P ro N o E H U (aX E o.dst (.ref nw)) (put H nw (.map kt et [])) (fun j => U j ∨ j = nw) := by
  refine aIt (by simp [ho, Op.noDefer]) hN hnw trivial (Or.inr rfl) fun C a w hR => ?_
  refine ⟨.map (some w.heap.size), .map #[] 0, .map (some w.heap.size), [w.heap.size], rfl, ?_, by simp, fun ρ av hold => ⟨?_, fun e => by rw [<- e]; exact .ref _⟩⟩
  . simp [execOp, ho, Instr.makeMap, run_underlying (rF hm)]
  exact ⟨w.heap.size, #[], 0, rfl, rfl, heap_alloc_new w _, rfl, by simp [maxLen], fun j k x hj => by simp at hj, fun j e hj => by simp at hj⟩
def aDk {C : Conc} {a : Act} {w : World} (hR : Rel C N E H U a w) {xs : Array Operand} {ps : List AV} (h : xs.toList.map (opv E) = ps.map some) : eG C.ρ (C.avoid H) w.heap ps (xs.map a.eval) /\ aK U ps := by
  have hlen : xs.size = ps.length := by have := congrArg List.length h; simpa using this
  have hget : ∀ (j : Nat) (p : AV), ps[j]? = some p -> ∃ x, xs[j]? = some x /\ opv E x = some p := fun j p hj => by
    have h1 : (xs.toList.map (opv E))[j]? = some (some p) := by rw [h, B5, hj]; rfl
    rw [B5, D5] at h1
    obtain ⟨x, hx, hxp⟩ := B0.1 h1
    exact ⟨x, hx, hxp⟩
  refine ⟨⟨by simpa using hlen, fun j p hj => ?_⟩, bLi.2 fun p hp => ?_⟩
  . obtain ⟨x, hx, hxp⟩ := hget j p hj
    have := (hR.opv hxp).1
    simpa [B6, hx] using this
  obtain ⟨j, hj⟩ := F8 hp
  obtain ⟨x, _, hxp⟩ := hget j p hj
  exact (hR.opv hxp).2
def aUa {f : Fn} {first cap : Array Operand} {as bs : List AV} (ho : o.op = .makeFunc f first cap) (hN : oD o N) (ha : first.toList.map (opv E) = as.map some) (hb : cap.toList.map (opv E) = bs.map some) :
    OpT P ro N o E H U (aX E o.dst (.fn f as bs)) H U := by
  refine aT (by simp [ho, Op.noDefer]) hN fun C a w hR => ?_
  obtain ⟨h1, h2⟩ := aDk hR ha
  obtain ⟨h3, h4⟩ := aDk hR hb
  exact ⟨⟨h2, h4⟩, _, by simp [execOp, ho, Instr.makeFunc], .fn _ _ _ _ _ h1.1 h1.2 h3.1 h3.2⟩
def aWr {s t : TypeId} {k k' : IntKind} {n : Int} (ho : o.op = .convert s t x) (hN : oD o N) (hs : (gD P s).isSome = true) (ht : gD P t = some k') (hx : opv E x = some (.raw (.int k n))) :
    OpT P ro N o E H U (aX E o.dst (.raw (.int k' (k'.wrap n)))) H U := by
  refine aT (by simp [ho, Op.noDefer]) hN fun C a w hR => ?_
  obtain ⟨h1, _⟩ := hR.opv hx
  generalize hev : a.eval x = u at h1
  cases h1
  obtain ⟨ks, hks⟩ := Option.isSome_iff_exists.1 hs
  refine ⟨trivial, _, ?_, .raw _⟩
  simp [execOp, ho, hev, convert, run_underlying (aCr ht), run_underlying (aCr hks), Conv.intToInt]
def bFb {j off sz : Nat} {ag : Bool} {p r : AV} (ho : o.op = .field t x j) (hN : oD o N) (hf : fI P t j = some (off, some sz, some ag)) (hx : opv E x = some p) (hp : p.notAgg = false) (hr : gF p off sz ag = some r) :
    OpT P ro N o E H U (aX E o.dst r) H U := by
  refine aT (by simp [ho, Op.noDefer]) hN fun C a w hR => ?_
  obtain ⟨h1, h2⟩ := hR.opv hx
  obtain ⟨q1, q2, q3⟩ := sB h1 C.one h2 hr
  obtain ⟨fs, f, hu, hfj, hoff, hv⟩ := yS hf
  refine ⟨q2, _, ?_, q1⟩
  have hagg : ∃ vs, a.eval x = .agg vs := by
    cases p with
    | agg cs => generalize a.eval x = v at h1; cases h1; exact ⟨_, rfl⟩
    | _ => simp [AV.notAgg] at hp
  obtain ⟨vs, hvs⟩ := hagg
  rw [hvs] at q3
  have q3' : off + sz <= vs.size := q3
  have hpart : (part f.type vs f.offset).run P w = .ok (lC (.agg vs) off sz ag) w := by
    unfold part; rw [Sem.run_bind, hv.run_agg w, hoff]
    cases ag with
    | true =>
      simp only [Result.andThen_ok, if_true, Sem.run_bind, hv.run_size w, Sem.run_pure, lC, Value.cells]
      congr 2
      apply Array.ext
      . simp; omega
      intro q h1 h2
      simp at h1 h2
      simp [B6, show off + q < vs.size by omega]
    | false =>
      have hsz : sz = 1 := rN hr rfl
      have hlt : off < vs.size := by omega
      simp [lC, Value.cells, D3 hlt, B6]
  rw [hvs]; simp only [execOp, ho, hvs, Instr.field, Sem.run_bind, run_underlying hu, Result.andThen_ok, hfj, asAgg, Sem.run_pure, hpart]
end
end
section
variable [Globals]
variable {t t' : TypeId} {x y : Operand} {v : Value}
def bJc (P : Program) (t : TypeId) : Bool := match P.underlying t with | some .bool => true | _ => false
def bEg {P : Program} (h : bJc P t = true) : P.underlying t = some .bool := by
  unfold bJc at h; split at h
  . assumption
  cases h
def bMf (op : BinOp) (k : IntKind) (n m : Int) : Option Value :=
  match op with
  | .shl => some (.int k (k.wrap (n * 2 ^ min m.toNat k.bits)))
  | .shr => some (.int k (n.fdiv (2 ^ min m.toNat k.bits)))
  | _ => none
def bop (op : BinOp) (x y : Bool) : Option Bool :=
  match op with
  | .eql => some (x == y)
  | .neq => some (!(x == y))
  | _ => none
def bMt (a b : ByteArray) : ByteArray := if (Op.bytesLess a.toList b.toList || a.toList == b.toList) = true then a else b
def aSc (a b : ByteArray) : ByteArray := if (!Op.bytesLess a.toList b.toList) = true then a else b
def bLv (b : Builtin) (x y : AV) : Option Value :=
  match b, x, y with
  | .min, .raw (.int k n), .raw (.int _ m) => some (.int k (min n m))
  | .max, .raw (.int k n), .raw (.int _ m) => some (.int k (max n m))
  | .min, .raw (.string n), .raw (.string m) => some (.string (bMt n m))
  | .max, .raw (.string n), .raw (.string m) => some (.string (aSc n m))
  | _, _, _ => none
section
variable {P : Program} {ro : Option Nat} {N : Nat} {o : Oper} {E : Env} {H : Heap} {U : Nat -> Prop}
def bIa {op : BinOp} {k k' : IntKind} {n m : Int} (ho : o.op = .binOp op t x y t') (hN : oD o N) (hx : opv E x = some (.raw (.int k n))) (hy : opv E y = some (.raw (.int k' m)))
    (hm : 0 <= m) (hv : bMf op k n m = some v) : OpT P ro N o E H U (aX E o.dst (.raw v)) H U := by
  refine aT (by simp [ho, Op.noDefer]) hN fun C a w hR => ?_
  obtain ⟨h1, _⟩ := hR.opv hx
  obtain ⟨h2, _⟩ := hR.opv hy
  generalize hev : a.eval x = u at h1
  generalize hey : a.eval y = u' at h2
  cases h1; cases h2
  refine ⟨trivial, _, ?_, .raw _⟩
  have hg : (eqGuard op t x y (.int k n) (.int k' m)) = pure () := eqGuard_at_int ..
  have hn : ¬ m < 0 := by omega
  cases op <;> simp only [bMf, B9, reduceCtorEq] at hv
  all_goals
    subst hv
    simp [execOp, ho, hev, hey, hg, binOp, Op.shift, hn]
def bNg {op : BinOp} {n m b : Bool} (ho : o.op = .binOp op t x y t') (hN : oD o N) (ht : bJc P t = true) (hx : opv E x = some (.raw (.bool n))) (hy : opv E y = some (.raw (.bool m)))
    (hv : bop op n m = some b) : OpT P ro N o E H U (aX E o.dst (.raw (.bool b))) H U := by
  refine aT (by simp [ho, Op.noDefer]) hN fun C a w hR => ?_
  obtain ⟨h1, _⟩ := hR.opv hx
  obtain ⟨h2, _⟩ := hR.opv hy
  generalize hev : a.eval x = u at h1
  generalize hey : a.eval y = u' at h2
  cases h1; cases h2
  refine ⟨trivial, _, ?_, .raw _⟩
  have hg : (eqGuard op t x y (.bool n) (.bool m)) = pure () := by unfold eqGuard; split <;> rfl
  have he : (Op.equal t (.bool n) (.bool m)).run P w = .ok (n == m) w := by
    have e1 : Op.equal t (.bool n) (.bool m) = Op.equalIn (Op.maxDepth - 1 + 1) t (.bool n) (.bool m) := rfl
    rw [e1]; unfold Op.equalIn; simp only [Sem.run_bind, run_underlying (bEg ht), Result.andThen_ok, Sem.run_pure]
  cases op <;> simp only [bop, B9, reduceCtorEq] at hv
  all_goals
    subst hv
    simp [execOp, ho, hev, hey, hg, binOp, he]
def bHf {c : Call} {b : Builtin} {p q : AV} (ho : o.op = .call c) (hc : c.callee = .builtin b) (hargs : c.args = #[x, y]) (hN : oD o N)
    (hx : opv E x = some p) (hy : opv E y = some q) (hv : bLv b p q = some v) : OpT P ro N o E H U (aX E o.dst (.raw v)) H U := by
  refine aT (by simp [ho, Op.noDefer]) hN fun C a w hR => ?_
  obtain ⟨h1, _⟩ := hR.opv hx
  obtain ⟨h2, _⟩ := hR.opv hy
  refine ⟨trivial, _, ?_, .raw _⟩
  have hi : ∀ (n m : Int), (if m < n then m else n) = min n m := fun n m => by split <;> omega
  have hj : ∀ (n m : Int), (if n < m then m else n) = max n m := fun n m => by split <;> omega
  generalize hev : a.eval x = u at h1
  generalize hey : a.eval y = u' at h2
  unfold bLv at hv; split at hv
  . cases h1; cases h2; cases hv
    simp [execOp, ho, resolve, hc, hargs, invoke, builtin, Builtin.min_, Builtin.min2, hev, hey, hi]
  . cases h1; cases h2; cases hv
    simp [execOp, ho, resolve, hc, hargs, invoke, builtin, Builtin.max_, Builtin.max2, hev, hey, hj]
  . cases h1; cases h2; cases hv
    simp [execOp, ho, resolve, hc, hargs, invoke, builtin, Builtin.min_, Builtin.min2, hev, hey, Op.stringOp, bMt, asBool]
  . cases h1; cases h2; cases hv
    simp [execOp, ho, resolve, hc, hargs, invoke, builtin, Builtin.max_, Builtin.max2, hev, hey, Op.stringOp, aSc, asBool]
  cases hv
def aOe {lo hi : Option Operand} {s : ByteArray} {l h : Int} (ho : o.op = .slice t x lo hi none) (hN : oD o N) (hs : aGm P t = true) (hx : opv E x = some (.raw (.string s)))
    (hlo : (lo = none /\ l = 0) ∨ ∃ y k, lo = some y /\ opv E y = some (.raw (.int k l))) (hhi : (hi = none /\ h = s.size) ∨ ∃ y k, hi = some y /\ opv E y = some (.raw (.int k h))) (h0 : 0 <= l) (h1 : l <= h) (h2 : h <= s.size) :
    OpT P ro N o E H U (aX E o.dst (.raw (.string (s.extract l.toNat h.toNat)))) H U := by
  refine aT (by simp [ho, Op.noDefer]) hN fun C a w hR => ?_
  obtain ⟨r1, _⟩ := hR.opv hx
  have hu := aBg hs
  have hloV : lo.map a.eval = none /\ l = 0 ∨ ∃ k, lo.map a.eval = some (.int k l) := by
    rcases hlo with ⟨rfl, rfl⟩ | ⟨y, k, rfl, hy⟩
    . exact .inl ⟨rfl, rfl⟩
    obtain ⟨q1, _⟩ := hR.opv hy
    right
    refine ⟨k, ?_⟩
    simp only [Option.map_some]
    generalize a.eval y = v at q1
    cases q1; rfl
  have hhiV : hi.map a.eval = none /\ h = s.size ∨ ∃ k, hi.map a.eval = some (.int k h) := by
    rcases hhi with ⟨rfl, rfl⟩ | ⟨y, k, rfl, hy⟩
    . exact .inl ⟨rfl, rfl⟩
    obtain ⟨q1, _⟩ := hR.opv hy
    right
    refine ⟨k, ?_⟩
    simp only [Option.map_some]
    generalize a.eval y = v at q1
    cases q1; rfl
  have hb : (Instr.sliceBounds false s.size s.size (lo.map a.eval) (hi.map a.eval) none).run P w = .ok (l.toNat, h.toNat, s.size) w := by
    rcases hhiV with ⟨e1, e2⟩ | ⟨k, e1⟩
    . rcases hloV with ⟨e3, e4⟩ | ⟨k', e3⟩
      . subst e4; rw [e1, e3]; simp [Instr.sliceBounds, e2]
      rw [e1, e3]; simp [Instr.sliceBounds, Instr.sliceBound, asIntOf, h0, show l <= s.size by omega, e2]
    rcases hloV with ⟨e3, e4⟩ | ⟨k', e3⟩
    . subst e4; rw [e1, e3]; simp [Instr.sliceBounds, Instr.sliceBound, asIntOf, show (0:Int) <= h by omega, h2]
    have h5 : l <= ((h.toNat : Nat) : Int) := by omega
    rw [e1, e3]; simp only [Instr.sliceBounds, Instr.sliceBound, asIntOf, Sem.run_bind, Sem.run_pure, Result.andThen_ok, if_pos (show 0 <= h /\ h <= (s.size : Int) from ⟨og, h2⟩), if_pos (show 0 <= l /\ l <= ((h.toNat : Nat) : Int) from ⟨h0, h5⟩)]
  generalize hev : a.eval x = v at r1
  cases r1
  refine ⟨trivial, _, ?_, .raw _⟩
  simp [execOp, ho, hev, Instr.sliceAt, Instr.slice, run_underlying hu, hb]
end
end
section
variable [Globals]
variable {σ : Nat -> Nat} {ρ : Nat -> Value} {av U : Nat -> Prop} {hp : Array Obj} {v : Value} {x y : AV} {xs : List AV} {o : AObj} {ow own : List Nat} {vs : Array Value}
mutual
def AV.ren (σ : Nat -> Nat) : AV -> AV
  | .any => .any
  | .raw v => .raw v
  | .agg cs => .agg (aB σ cs)
  | .tup cs => .tup (aB σ cs)
  | .sl sz xs => .sl sz (aB σ xs)
  | .fp sz xs j off => .fp sz (aB σ xs) j off
  | .ptr i off => .ptr (σ i) off
  | .ep i sz j off => .ep (σ i) sz j off
  | .ref i => .ref (σ i)
  | .iface t x => .iface t (x.ren σ)
  | .fn f a b => .fn f (aB σ a) (aB σ b)
  | .when c x => .when c (x.ren σ)
  | .own e sz xs => .own e sz (aB σ xs)
def aB (σ : Nat -> Nat) : List AV -> List AV
  | [] => []
  | x :: xs => x.ren σ :: aB σ xs
end
def zN (σ : Nat -> Nat) : ∀ xs : List AV, aB σ xs = xs.map (AV.ren σ)
  | [] => rfl
  | x :: xs => by rw [aB, zN σ xs]; rfl
def pZ (σ : Nat -> Nat) (xs : List AV) (j : Nat) : (aB σ xs)[j]? = (xs[j]?).map (AV.ren σ) := by rw [zN, B5]
def rnl (σ : Nat -> Nat) (xs : List AV) : (aB σ xs).length = xs.length := by rw [zN, A8]
mutual
theorem AV.ren_congr {σ τ : Nat -> Nat} {U : Nat -> Prop} (h : ∀ i, U i -> σ i = τ i) : ∀ x : AV, x.bel U -> x.ren σ = x.ren τ
  | .any, _ => rfl
  | .raw _, _ => rfl
  | .agg cs, hx => by rw [AV.ren, AV.ren, eF h cs hx]
  | .tup cs, hx => by rw [AV.ren, AV.ren, eF h cs hx]
  | .sl _ xs, hx => by rw [AV.ren, AV.ren, eF h xs hx]
  | .fp _ xs _ _, hx => by rw [AV.ren, AV.ren, eF h xs hx]
  | .ptr i _, hx => by rw [AV.ren, AV.ren, h i hx]
  | .ep i _ _ _, hx => by rw [AV.ren, AV.ren, h i hx]
  | .ref i, hx => by rw [AV.ren, AV.ren, h i hx]
  | .iface _ x, hx => by rw [AV.ren, AV.ren, AV.ren_congr h x hx]
  | .fn _ a b, hx => by rw [AV.ren, AV.ren, eF h a hx.1, eF h b hx.2]
  | .when _ x, hx => by rw [AV.ren, AV.ren, AV.ren_congr h x hx]
  | .own _ _ xs, hx => by rw [AV.ren, AV.ren, eF h xs hx]
theorem eF {σ τ : Nat -> Nat} {U : Nat -> Prop} (h : ∀ i, U i -> σ i = τ i) : ∀ xs : List AV, aK U xs -> aB σ xs = aB τ xs
  | [], _ => rfl
  | x :: xs, hx => by rw [aB, aB, AV.ren_congr h x hx.1, eF h xs hx.2]
end
mutual
theorem AV.ren_id : ∀ x : AV, x.ren id = x
  | .any => rfl
  | .raw _ => rfl
  | .agg cs => by rw [AV.ren, jY]
  | .tup cs => by rw [AV.ren, jY]
  | .sl _ xs => by rw [AV.ren, jY]
  | .fp _ xs _ _ => by rw [AV.ren, jY]
  | .ptr i _ => rfl
  | .ep i _ _ _ => rfl
  | .ref i => rfl
  | .iface _ x => by rw [AV.ren, AV.ren_id]
  | .fn _ a b => by rw [AV.ren, jY, jY]
  | .when _ x => by rw [AV.ren, AV.ren_id]
  | .own _ _ xs => by rw [AV.ren, jY]
theorem jY : ∀ xs : List AV, aB id xs = xs
  | [] => rfl
  | x :: xs => by rw [aB, AV.ren_id, jY]
end
def AV.ren_closed (σ : Nat -> Nat) (h : x.bel fun _ => False) : x.ren σ = x :=
  (AV.ren_congr (τ := id) (fun _ h => h.elim) x h).trans (AV.ren_id x)
def dN (σ : Nat -> Nat) (h : aK (fun _ => False) xs) : aB σ xs = xs :=
  (eF (τ := id) (fun _ h => h.elim) xs h).trans (jY xs)
mutual
theorem AV.bel_ren {U : Nat -> Prop} {σ : Nat -> Nat} : ∀ {x : AV}, (x.ren σ).bel U ↔ x.bel fun i => U (σ i)
  | .any => Iff.rfl
  | .raw _ => Iff.rfl
  | .agg cs => by rw [AV.ren]; exact gV
  | .tup cs => by rw [AV.ren]; exact gV
  | .sl _ xs => by rw [AV.ren]; exact gV
  | .fp _ xs _ _ => by rw [AV.ren]; exact gV
  | .ptr _ _ => Iff.rfl
  | .ep _ _ _ _ => Iff.rfl
  | .ref _ => Iff.rfl
  | .iface _ x => by rw [AV.ren]; exact AV.bel_ren
  | .fn _ a b => by rw [AV.ren]; exact and_congr gV gV
  | .when _ x => by rw [AV.ren]; exact AV.bel_ren
  | .own _ _ xs => by rw [AV.ren]; exact gV
theorem gV {U : Nat -> Prop} {σ : Nat -> Nat} : ∀ {xs : List AV}, aK U (aB σ xs) ↔ aK (fun i => U (σ i)) xs
  | [] => Iff.rfl
  | x :: xs => by rw [aB]; exact and_congr AV.bel_ren gV
end
def Rep.ren (h : Rep (fun i => ρ (σ i)) av hp x v) : Rep ρ av hp (x.ren σ) v := by
  have aux : ∀ {xs : List AV} {g : Nat -> Value}, (∀ (j : Nat) (y : AV), xs[j]? = some y -> Rep ρ av hp (y.ren σ) (g j)) -> ∀ (j : Nat) (y : AV), (aB σ xs)[j]? = some y -> Rep ρ av hp y (g j) := fun hh j y hy => by
    rw [pZ] at hy
    obtain ⟨z, hz, rfl⟩ := B0.1 hy
    exact hh j z hz
  induction h with
  | any v => exact .any v
  | raw v => exact .raw v
  | agg cs vs hn _ ih => exact .agg _ vs (by rw [rnl]; exact hn) (aux ih)
  | tup cs vs hn _ ih => exact .tup _ vs (by rw [rnl]; exact hn) (aux ih)
  | sl0 sz A c hc => exact .sl0 sz A c hc
  | sl sz xs b off c cells t fr vals h0 hc hm hb hh _ hcells ih =>
    have := Rep.sl sz (aB σ xs) b off c cells t fr vals (by rw [rnl]; exact h0) (by rw [rnl]; exact hc) hm hb hh (aux ih) (by rw [rnl]; exact hcells)
    rw [rnl] at this; exact this
  | fp sz xs j d b off cells t fr vals hb hh _ hcells ih => exact .fp sz _ j d b off cells t fr vals hb hh (aux ih) (by rw [rnl]; exact hcells)
  | ptr i off b h => exact .ptr _ off b h
  | ep i sz j off b h => exact .ep _ sz j off b h
  | ref i => exact .ref _
  | iface t x v _ ih => exact .iface t _ v ih
  | fn f first cap vs us hn _ hn' _ ih ih' => exact .fn f _ _ vs us (by rw [rnl]; exact hn) (aux ih) (by rw [rnl]; exact hn') (aux ih')
  | when c x v _ h' ih => exact .when c _ v ih h'
def Rep.unren (h : Rep ρ av hp y v) : ∀ x : AV, y = x.ren σ -> Rep (fun i => ρ (σ i)) av hp x v := by
  have aux : ∀ {ys xs : List AV} {g : Nat -> Value}, ys = aB σ xs -> (∀ (j : Nat) (y : AV), ys[j]? = some y -> ∀ x : AV, y = x.ren σ -> Rep (fun i => ρ (σ i)) av hp x (g j)) -> ∀ (j : Nat) (x : AV), xs[j]? = some x -> Rep (fun i => ρ (σ i)) av hp x (g j) := fun he hh j x hx => by
    subst he
    exact hh j (x.ren σ) (by rw [pZ, hx]; rfl) x rfl
  induction h with
  | any v => intro x hx; cases x <;> simp [AV.ren] at hx; exact .any v
  | raw v => intro x hx; cases x <;> simp [AV.ren] at hx; subst hx; exact .raw v
  | agg cs vs hn _ ih => intro x hx; cases x <;> simp [AV.ren] at hx; exact .agg _ vs (by rw [hn, hx, rnl]) (aux hx ih)
  | tup cs vs hn _ ih => intro x hx; cases x <;> simp [AV.ren] at hx; exact .tup _ vs (by rw [hn, hx, rnl]) (aux hx ih)
  | sl0 sz A c hc =>
    intro x hx
    cases x <;> simp [AV.ren] at hx
    rename_i sz' xs
    obtain ⟨rfl, hx⟩ := hx
    cases xs with
    | nil => exact .sl0 _ A c hc
    | cons _ _ => simp [aB] at hx
  | sl sz xs b off c cells t fr vals h0 hc hm hb hh _ hcells ih =>
    intro x hx
    cases x <;> simp [AV.ren] at hx
    rename_i sz' xs'
    obtain ⟨rfl, hx⟩ := hx
    have hl : xs.length = xs'.length := by rw [hx, rnl]
    have := Rep.sl (ρ := fun i => ρ (σ i)) (av := av) (hp := hp) sz xs' b off c cells t fr vals og og hm hb hh (aux hx ih) (by rw [<- hl]; exact hcells)
    rw [hl]; exact this
  | fp sz xs j d b off cells t fr vals hb hh _ hcells ih =>
    intro x hx
    cases x <;> simp [AV.ren] at hx
    rename_i sz' xs' j' d'
    obtain ⟨rfl, hx, rfl, rfl⟩ := hx
    have hl : xs.length = xs'.length := by rw [hx, rnl]
    exact .fp sz xs' j d b off cells t fr vals hb hh (aux hx ih) (by rw [<- hl]; exact hcells)
  | ptr i off b h => intro x hx; cases x <;> simp [AV.ren] at hx; obtain ⟨rfl, rfl⟩ := hx; exact .ptr _ _ b h
  | ep i sz j off b h => intro x hx; cases x <;> simp [AV.ren] at hx; obtain ⟨rfl, rfl, rfl, rfl⟩ := hx; exact .ep _ _ _ _ b h
  | ref i =>
    intro x hx
    cases x <;> simp [AV.ren] at hx
    subst hx
    exact Rep.ref (ρ := fun i => ρ (σ i)) _
  | iface t x v _ ih => intro x' hx; cases x' <;> simp [AV.ren] at hx; obtain ⟨rfl, hx⟩ := hx; exact .iface _ _ v (ih _ hx)
  | fn f first cap vs us hn _ hn' _ ih ih' =>
    intro x hx
    cases x <;> simp [AV.ren] at hx
    obtain ⟨rfl, h1, h2⟩ := hx
    exact .fn _ _ _ vs us (by rw [hn, h1, rnl]) (aux h1 ih) (by rw [hn', h2, rnl]) (aux h2 ih')
  | when c x v _ h' ih => intro x' hx; cases x' <;> simp [AV.ren] at hx; obtain ⟨hcc, hx⟩ := hx; exact .when _ _ v (fun hc => ih (hcc.2 hc) _ hx) (fun hc => h' (fun q => hc (hcc.1 q)))
def RepO.ren (h : RepO (fun i => ρ (σ i)) av hp x v ow) : RepO ρ av hp (x.ren σ) v ow := by
  have aux : ∀ {xs : List AV} {g : Nat -> Value} {ows : Nat -> List Nat}, (∀ (j : Nat) (y : AV), xs[j]? = some y -> RepO ρ av hp (y.ren σ) (g j) (ows j)) -> ∀ (j : Nat) (y : AV), (aB σ xs)[j]? = some y -> RepO ρ av hp y (g j) (ows j) := fun hh j y hy => by
    rw [pZ] at hy
    obtain ⟨z, hz, rfl⟩ := B0.1 hy
    exact hh j z hz
  induction h with
  | leaf x v h => exact .leaf _ v h.ren
  | agg cs vs ows hn _ ih =>
    have := RepO.agg (aB σ cs) vs ows (by rw [rnl]; exact hn) (aux (g := fun j => vs.getD j undef) ih)
    rw [rnl] at this; exact this
  | own0 e sz => exact .own0 e sz
  | own e sz xs b c cells vals ows hh hs hc hm _ hcells ih =>
    have := RepO.own e sz (aB σ xs) b c cells vals ows hh hs (by rw [rnl]; exact hc) hm (aux ih) (by rw [rnl]; exact hcells)
    rw [rnl] at this; exact this
def RepO.unren (h : RepO ρ av hp y v ow) : ∀ x : AV, y = x.ren σ -> RepO (fun i => ρ (σ i)) av hp x v ow := by
  have aux : ∀ {ys xs : List AV} {g : Nat -> Value} {ows : Nat -> List Nat}, ys = aB σ xs -> (∀ (j : Nat) (y : AV), ys[j]? = some y -> ∀ x : AV, y = x.ren σ -> RepO (fun i => ρ (σ i)) av hp x (g j) (ows j)) ->
      ∀ (j : Nat) (x : AV), xs[j]? = some x -> RepO (fun i => ρ (σ i)) av hp x (g j) (ows j) := fun he hh j x hx => by
    subst he
    exact hh j (x.ren σ) (by rw [pZ, hx]; rfl) x rfl
  induction h with
  | leaf y v h => intro x hx; exact .leaf x v (h.unren x hx)
  | agg cs vs ows hn _ ih =>
    intro x hx
    cases x <;> simp [AV.ren] at hx
    rename_i cs'
    have hl : cs.length = cs'.length := by rw [hx, rnl]
    have := RepO.agg (ρ := fun i => ρ (σ i)) (av := av) (hp := hp) cs' vs ows og (aux (g := fun j => vs.getD j undef) hx ih)
    rw [hl]; exact this
  | own0 e sz =>
    intro x hx
    cases x <;> simp [AV.ren] at hx
    rename_i e' sz' xs
    obtain ⟨rfl, rfl, hx⟩ := hx
    cases xs with
    | nil => exact .own0 _ _
    | cons _ _ => simp [aB] at hx
  | own e sz xs b c cells vals ows hh hs hc hm _ hcells ih =>
    intro x hx
    cases x <;> simp [AV.ren] at hx
    rename_i e' sz' xs'
    obtain ⟨rfl, rfl, hx⟩ := hx
    have hl : xs.length = xs'.length := by rw [hx, rnl]
    have := RepO.own (ρ := fun i => ρ (σ i)) (av := av) (hp := hp) e sz xs' b c cells vals ows hh hs og hm (aux hx ih) (by rw [<- hl]; exact hcells)
    rw [hl]; exact this
def AObj.ren (σ : Nat -> Nat) : AObj -> AObj
  | .dead => .dead
  | .cells t cs => .cells t (aB σ cs)
  | .row e sz xs => .row e sz (aB σ xs)
  | .map kt et m => .map kt et (m.map fun p => (p.1, p.2.ren σ))
  | .mapS kt et m k st => .mapS kt et (m.map fun p => (p.1, p.2.ren σ)) k (σ st)
  | .other b o => .other b o
  | .loop l rec No Eo => .loop l rec No (Eo.map fun p => (p.1, p.2.ren σ))
  | .pool e0 e sz Q L lv more => .pool e0 e sz Q L (lv.map σ) (more.map σ)
def AObj.ren_congr {σ τ : Nat -> Nat} (h : ∀ i, U i -> σ i = τ i) (o : AObj) (ho : o.bel U) : o.ren σ = o.ren τ := by
  cases o with
  | dead => rfl
  | cells t cs => rw [AObj.ren, AObj.ren, eF h cs ho]
  | row e sz xs => rw [AObj.ren, AObj.ren, eF h xs ho]
  | map kt et m =>
    rw [AObj.ren, AObj.ren]
    congr 1
    apply E6; intro p hp
    have : p.2.bel U := bLi.1 ho _ (D2 hp)
    rw [AV.ren_congr h _ this]
  | mapS kt et m k st =>
    rw [AObj.ren, AObj.ren, h st ho.2]
    congr 1
    apply E6; intro p hp
    have : p.2.bel U := bLi.1 ho.1 _ (D2 hp)
    rw [AV.ren_congr h _ this]
  | other b o => rfl
  | loop l rec No Eo =>
    rw [AObj.ren, AObj.ren]
    congr 1
    apply E6; intro p hp
    have : p.2.bel U := bLi.1 ho _ (D2 hp)
    rw [AV.ren_congr h _ this]
  | pool e0 e sz Q L lv more =>
    rw [AObj.ren, AObj.ren, E6 fun i hi => h i (ho.1 i hi), E6 fun i hi => h i (ho.2 i hi)]
def AObj.bel_ren : (o.ren σ).bel U ↔ o.bel fun i => U (σ i) := by
  cases o with
  | dead => exact Iff.rfl
  | cells t cs => exact gV
  | row e sz xs => exact gV
  | map kt et m =>
    have : ((m.map fun p => (p.1, p.2.ren σ)).map fun x => x.2) = aB σ (m.map fun x => x.2) := by rw [zN]; simp
    show aK U _ ↔ aK _ _
    rw [this]; exact gV
  | mapS kt et m k st =>
    have : ((m.map fun p => (p.1, p.2.ren σ)).map fun x => x.2) = aB σ (m.map fun x => x.2) := by rw [zN]; simp
    show aK U _ /\ U (σ st) ↔ aK _ _ /\ U (σ st)
    rw [this]
    exact and_congr gV Iff.rfl
  | other b o => exact Iff.rfl
  | loop l rec No m =>
    have : ((m.map fun p => (p.1, p.2.ren σ)).map fun x => x.2) = aB σ (m.map fun x => x.2) := by rw [zN]; simp
    show aK U _ ↔ aK _ _
    rw [this]; exact gV
  | pool e0 e sz Q L lv more => simp [AObj.ren, AObj.bel]
def eG.ren (h : eG (fun i => ρ (σ i)) av hp xs vs) : eG ρ av hp (aB σ xs) vs :=
  ⟨by rw [rnl]; exact h.1, fun j y hy => by
    rw [pZ] at hy
    obtain ⟨z, hz, rfl⟩ := B0.1 hy
    exact (h.2 j z hz).ren⟩
def eG.unren (h : eG ρ av hp (aB σ xs) vs) : eG (fun i => ρ (σ i)) av hp xs vs :=
  ⟨by rw [h.1, rnl], fun j x hx => (h.2 j (x.ren σ) (by rw [pZ, hx]; rfl)).unren x rfl⟩
def cS.ren (h : cS (fun i => ρ (σ i)) av hp own o v) : cS ρ av hp own (o.ren σ) v := by
  cases o with
  | dead => exact h
  | cells t cs => obtain ⟨b, vs, h1, h2, h3, h4⟩ := h; exact ⟨b, vs, h1, h2, h3, h4.ren⟩
  | row e sz xs => exact ⟨h.1.ren, h.2⟩
  | map kt et m =>
    obtain ⟨b, es, clock, h1, h2, h3, h4, h5, h6, h7⟩ := h
    refine ⟨b, es, clock, h1, h2, h3, by simpa using h4, h5, fun j k x hj => ?_, h7⟩
    rw [B5] at hj
    obtain ⟨⟨k', z⟩, hz, he⟩ := B0.1 hj
    simp only [Prod.mk.injEq] at he
    obtain ⟨rfl, rfl⟩ := he
    obtain ⟨e, he, hk, hr⟩ := h6 j _ z hz
    exact ⟨e, he, hk, hr.ren⟩
  | mapS kt et m k st =>
    obtain ⟨b, es, clock, h1, h2, h3, h4, h5, h6, h7⟩ := h
    refine ⟨b, es, clock, h1, h2, h3, by simpa using h4, h5, fun j k x hj => ?_, h7⟩
    rw [B5] at hj
    obtain ⟨⟨k', z⟩, hz, he⟩ := B0.1 hj
    simp only [Prod.mk.injEq] at he
    obtain ⟨rfl, rfl⟩ := he
    obtain ⟨e, he, hk, hr⟩ := h6 j _ z hz
    exact ⟨e, he, hk, hr.ren⟩
  | other b o => exact h
  | loop l rec No Eo =>
    obtain ⟨h1, h2, h3, h4, h5⟩ := h
    refine ⟨h1, h2, h3, h4, fun j t x hj => ?_⟩
    rw [B5] at hj
    obtain ⟨⟨t', z⟩, hz, he⟩ := B0.1 hj
    simp only [Prod.mk.injEq] at he
    obtain ⟨rfl, rfl⟩ := he
    exact ⟨(h5 j _ z hz).1, (h5 j _ z hz).2.ren⟩
  | pool e0 e sz Q L lv more =>
    obtain ⟨b0, c0, cells0, bs, h1, h0, h2, h3, h4, h5, h6, h7, h8, h9, h10⟩ := h
    refine ⟨b0, c0, cells0, bs, by rw [A8]; exact h1, h0, h2, h3, h4, by rw [A8]; exact h5, h6, h7, fun j i hj => ?_, fun i hi => ?_, fun i hi => ?_⟩
    . rw [B5] at hj
      obtain ⟨i', hi', rfl⟩ := B0.1 hj
      exact h8 j i' hi'
    . obtain ⟨i', hi', rfl⟩ := A9.1 hi
      exact (h9 i' hi').named
    obtain ⟨i', hi', rfl⟩ := A9.1 hi
    exact (h10 i' hi').named
def cS.unren (h : cS ρ av hp own (o.ren σ) v) : cS (fun i => ρ (σ i)) av hp own o v := by
  cases o with
  | dead => exact h
  | cells t cs => obtain ⟨b, vs, h1, h2, h3, h4⟩ := h; exact ⟨b, vs, h1, h2, h3, h4.unren⟩
  | row e sz xs => exact ⟨h.1.unren _ rfl, h.2⟩
  | map kt et m =>
    obtain ⟨b, es, clock, h1, h2, h3, h4, h5, h6, h7⟩ := h
    refine ⟨b, es, clock, h1, h2, h3, by simpa using h4, h5, fun j k x hj => ?_, h7⟩
    obtain ⟨e, he, hk, hr⟩ := h6 j k (x.ren σ) (by rw [B5, hj]; rfl)
    exact ⟨e, he, hk, hr.unren x rfl⟩
  | mapS kt et m k st =>
    obtain ⟨b, es, clock, h1, h2, h3, h4, h5, h6, h7⟩ := h
    refine ⟨b, es, clock, h1, h2, h3, by simpa using h4, h5, fun j k x hj => ?_, h7⟩
    obtain ⟨e, he, hk, hr⟩ := h6 j k (x.ren σ) (by rw [B5, hj]; rfl)
    exact ⟨e, he, hk, hr.unren x rfl⟩
  | other b o => exact h
  | loop l rec No Eo =>
    obtain ⟨h1, h2, h3, h4, h5⟩ := h
    refine ⟨h1, h2, h3, h4, fun j t x hj => ?_⟩
    have := h5 j t (x.ren σ) (by rw [B5, hj]; rfl)
    exact ⟨this.1, this.2.unren x rfl⟩
  | pool e0 e sz Q L lv more =>
    obtain ⟨b0, c0, cells0, bs, h1, h0, h2, h3, h4, h5, h6, h7, h8, h9, h10⟩ := h
    rw [A8] at h1 h5
    exact ⟨b0, c0, cells0, bs, h1, h0, h2, h3, h4, h5, h6, h7, fun j i hj => h8 j (σ i) (by rw [B5, hj]; rfl), fun i hi => (h9 (σ i) (D2 hi)).named, fun i hi => (h10 (σ i) (D2 hi)).named⟩
end
section
variable [Globals]
variable {C C' : Conc} {w w' : World} {c x y : Code} {σ : Nat -> Nat} {H1 H' : Heap} {U U1 : Nat -> Prop} {n : Nat} {E1 : Env}
def UU (n : Nat) : Nat -> Prop := fun i => i < n ∨ 1000 <= i
def eC {n m : Nat} (h : n <= m) (i : Nat) (hi : UU n i) : UU m i := hi.imp (fun h' => Nat.lt_of_lt_of_le h' h) id
def bOj (h : n < 1000) : ¬ UU n n := fun hi => by rcases hi with hi | hi <;> omega
abbrev AQ := Exit -> Env -> Heap -> Nat -> Prop
abbrev AK := Env -> Heap -> Nat -> Prop
def AWP (P : Program) (ro : Option Nat) (N n0 : Nat) (c : Code) (Q : AQ) (E : Env) (H : Heap) (nx : Nat) : Prop :=
  ∀ (C : Conc) (a : Act) (w : World) (Qc : Exit -> Act -> World -> Prop), n0 <= nx -> Rel C N E H (UU nx) a w ->
    (∀ (e : Exit) (E' : Env) (H' : Heap) (nx' : Nat) (C' : Conc) (a' : Act) (w' : World), n0 <= nx' -> Rel C' N E' H' (UU nx') a' w' -> StepR C H (UU n0) w C' H' w' -> Q e E' H' nx' -> Qc e a' w') ->
    c.wpIn (FW ro) 0 P Qc a w
def bHb (K : AK) (Q : AQ) : AQ
  | .normal => K
  | e => Q e
def bKl (id : Nat) (Q : AQ) : AQ
  | .exit id' => fun E H nx => if id' = id then Q .normal E H nx else Q (.exit id') E H nx
  | e => Q e
def StepR.fewerNames {H H' : Heap} {U U' : Nat -> Prop} (h : StepR C H U w C' H' w') (hU : ∀ i, U' i -> U i) : StepR C H U' w C' H' w' :=
  { h with ρ := fun i hi => h.ρ i (hU i hi) }
section
variable {P : Program} {ro : Option Nat} {N n0 : Nat} {Q : AQ} {E : Env} {H : Heap} {nx : Nat}
def aEo {Q' : AQ} (h : AWP P ro N n0 c Q E H nx) (hq : ∀ e E H nx, Q e E H nx -> Q' e E H nx) : AWP P ro N n0 c Q' E H nx :=
  fun C a w Qc hn hR hK => h C a w Qc hn hR fun e E' H' nx' C' a' w' hn' hR' hs hQ => hK e E' H' nx' C' a' w' hn' hR' hs (hq _ _ _ _ hQ)
def wk (h : Q .normal E H nx) : AWP P ro N n0 .skip Q E H nx :=
  fun C a w Qc hn hR hK => wpIn_skip (hK _ _ _ _ C _ _ hn hR (StepR.refl C H _ w) h)
def we {id : Nat} (h : Q (.exit id) E H nx) : AWP P ro N n0 (.exit id) Q E H nx :=
  fun C a w Qc hn hR hK => wpIn_exit (hK _ _ _ _ C _ _ hn hR (StepR.refl C H _ w) h)
def wR (h : Q .ret E H nx) : AWP P ro N n0 .ret Q E H nx :=
  fun C a w Qc hn hR hK => wpIn_ret (hK _ _ _ _ C _ _ hn hR (StepR.refl C H _ w) h)
def bBy (h : AWP P ro N n0 x (bHb (AWP P ro N n0 y Q) Q) E H nx) : AWP P ro N n0 (.seq x y) Q E H nx := by
  intro C a w Qc hn hR hK
  refine wpIn_seq (h C a w _ hn hR fun e E' H' nx' C' a' w' hn' hR' hs hQ => ?_)
  cases e with
  | normal => exact hQ C' a' w' Qc hn' hR' fun e E2 H2 nx2 C2 a2 w2 hn2 hR2 hs2 hQ2 => hK e E2 H2 nx2 C2 a2 w2 hn2 hR2 (hs.trans (fun _ h => h) hs2) hQ2
  | _ => exact hK _ E' H' nx' C' a' w' hn' hR' hs hQ
def aA (h : ∀ {K : AK}, (∀ {E H nx}, AWP P ro N n0 y Q E H nx -> K E H nx) -> AWP P ro N n0 x (bHb K Q) E H nx) : AWP P ro N n0 (.seq x y) Q E H nx :=
  bBy (h fun h => h)
def cd {c : Operand} {b : Bool} (hc : opv E c = some (.raw (.bool b))) (ht : b = true -> AWP P ro N n0 x Q E H nx) (hf : b = false -> AWP P ro N n0 y Q E H nx) : AWP P ro N n0 (.cond c x y) Q E H nx := by
  intro C a w Qc hn hR hK
  obtain ⟨h1, _⟩ := hR.opv hc
  have hv : a.eval c = .bool b := by generalize a.eval c = v at h1; cases h1; rfl
  cases b with
  | true => exact wpIn_cond_true hv (ht rfl C a w Qc hn hR hK)
  | false => exact wpIn_cond_false hv (hf rfl C a w Qc hn hR hK)
def wb {id : Nat} (h : AWP P ro N n0 c (bKl id Q) E H nx) : AWP P ro N n0 (.block id c) Q E H nx := by
  intro C a w Qc hn hR hK
  refine wpIn_block (h C a w _ hn hR fun e E' H' nx' C' a' w' hn' hR' hs hQ => ?_)
  cases e with
  | exit id' =>
    simp only [Exit.inBlock]
    simp only [bKl] at hQ
    split
    . rename_i he
      rw [if_pos he] at hQ
      exact hK _ E' H' nx' C' a' w' hn' hR' hs hQ
    rename_i he
    rw [if_neg he] at hQ
    exact hK _ E' H' nx' C' a' w' hn' hR' hs hQ
  | _ => exact hK _ E' H' nx' C' a' w' hn' hR' hs hQ
def bPh (I : Nat -> AK) (m : Nat) (Q : AQ) : AQ
  | .normal => fun E H nx => ∃ m', m' < m /\ I m' E H nx
  | e => Q e
def bDj {p : Nat -> Prop} (h : ∃ m, p m) : ∃ m, p m /\ ∀ k, p k -> m <= k := by
  obtain ⟨m, hm⟩ := h
  induction m using Nat.strongRecOn with
  | _ m ih =>
    by_cases hk : ∃ k, k < m /\ p k
    . obtain ⟨k, h1, h2⟩ := hk
      exact ih k h1 h2
    exact ⟨m, hm, fun k hp => by
      rcases Nat.lt_or_ge k m with h1 | h1
      . exact absurd ⟨k, h1, hp⟩ hk
      exact h1⟩
def bJq (I : Nat -> AK) (m0 : Nat) (h0 : I m0 E H nx) (h : ∀ m E H nx, n0 <= nx -> I m E H nx -> AWP P ro N n0 c (bPh I m Q) E H nx) : AWP P ro N n0 (.loop c) Q E H nx := by
  intro C a w Qc hn hR hK
  let J : Nat -> Act -> World -> Prop := fun m a' w' => ∃ E' H' nx' C', n0 <= nx' /\ Rel C' N E' H' (UU nx') a' w' /\ StepR C H (UU n0) w C' H' w' /\ I m E' H' nx'
  classical
  refine wpIn_loop (fun a' w' => ∃ m, J m a' w') (fun a' w' => if hj : ∃ m, J m a' w' then Classical.choose (bDj hj) else 0) ⟨m0, E, H, nx, C, hn, hR, StepR.refl C H _ w, h0⟩ fun a1 w1 hj => ?_
  have hf := (Classical.choose_spec (bDj hj)).1
  simp only [dif_pos hj]
  generalize Classical.choose (bDj hj) = m at hf
  obtain ⟨E1, H1, nx1, C1, hn1, hR1, hs1, hI1⟩ := hf
  refine h m E1 H1 nx1 hn1 hI1 C1 a1 w1 _ hn1 hR1 fun e E2 H2 nx2 C2 a2 w2 hn2 hR2 hs2 hQ2 => ?_
  have hs3 := hs1.trans (fun _ h => h) hs2
  cases e with
  | normal =>
    obtain ⟨m', hm', hI'⟩ := hQ2
    have hj2 : ∃ m, J m a2 w2 := ⟨m', E2, H2, nx2, C2, hn2, hR2, hs3, hI'⟩
    refine ⟨hj2, ?_⟩
    rw [dif_pos hj2]
    exact Nat.lt_of_le_of_lt ((Classical.choose_spec (bDj hj2)).2 _ ⟨E2, H2, nx2, C2, hn2, hR2, hs3, hI'⟩) hm'
  | _ => exact hK _ E2 H2 nx2 C2 a2 w2 hn2 hR2 hs3 hQ2
def Conc.ren (C : Conc) (σ : Nat -> Nat) : Conc := { C with ρ := fun i => C.ρ (σ i), one := fun i => C.one (σ i), own := fun i => C.own (σ i) }
def RelH.ren (h : RelH C H U w) (hH : ∀ i o, get H1 i = some o -> get H (σ i) = some (o.ren σ) /\ U1 i /\ o.bel U1)
    (hσ : ∀ i j oi oj, get H1 i = some oi -> get H1 j = some oj -> σ i = σ j -> i = j) : RelH (C.ren σ) H1 U1 w := by
  have hav : ∀ b, (C.ren σ).avoid H1 b -> C.avoid H b := fun b hb => hb.imp id (fun ⟨i, o, hi, hb⟩ => ⟨σ i, _, (hH i o hi).1, hb⟩)
  exact {
    obj := fun i o hi => ((h.obj (σ i) _ (hH i o hi).1).mono (av' := (C.ren σ).avoid H1) (fun b _ => hav b) (fun _ _ _ => rfl) (fun _ _ => rfl)).unren (ρ := C.ρ)
    apart := fun i j oi oj b hne hi hj hb hb' => h.apart (σ i) (σ j) _ _ b (fun e => hne (hσ i j oi oj hi hj e)) (hH i oi hi).1 (hH j oj hj).1 hb hb'
    xapart := fun i o b hi hb => h.xapart (σ i) _ b (hH i o hi).1 hb
    xlt := h.xlt
    gl := h.glK (fun b _ => hav b) (fun _ _ _ _ _ _ => rfl)
    objb := fun i o hi => (hH i o hi).2 }
def Rel.ren {a : Act} (h : Rel C N E H U a w) (hH : ∀ i o, get H1 i = some o -> get H (σ i) = some (o.ren σ) /\ U1 i /\ o.bel U1)
    (hσ : ∀ i j oi oj, get H1 i = some oi -> get H1 j = some oj -> σ i = σ j -> i = j) (hE : ∀ t x, get E1 t = some x -> get E t = some (x.ren σ) /\ x.bel U1) : Rel (C.ren σ) N E1 H1 U1 a w := by
  have hav : ∀ b, (C.ren σ).avoid H1 b -> C.avoid H b := fun b hb => hb.imp id (fun ⟨i, o, hi, hb⟩ => ⟨σ i, _, (hH i o hi).1, hb⟩)
  exact { toRelH := h.toRelH.ren hH hσ, size := h.size, hB := h.hB, nodup := h.nodup
          marks := fun d hd => by obtain ⟨r, h1, h2, h3, h4⟩ := h.marks d hd; exact ⟨r, h1, h2, h3, fun q => h4 (hav r q)⟩
          env := fun t x ht => by
            obtain ⟨h1, h2⟩ := hE t x ht
            obtain ⟨h3, _, h4⟩ := h.env t _ h1
            exact ⟨h3, h2, (h4.mono (av' := (C.ren σ).avoid H1) (fun b _ => hav b) (fun _ _ _ => rfl)).unren (ρ := C.ρ) x rfl⟩ }
def StepR.ren_left {U0 : Nat -> Prop} (h : StepR (C.ren σ) H1 U0 w C' H' w') (hH : ∀ i o, get H1 i = some o -> ∃ o', get H (σ i) = some o') (hσ : ∀ i, U0 i -> σ i = i) :
    StepR C H U0 w C' H' w' := by
  have hW : ∀ b, (C.ren σ).W H1 b -> C.W H b := fun b ⟨i, o, hi, hb⟩ => let ⟨o', h'⟩ := hH i o hi; ⟨σ i, o', h', hb⟩
  exact { os := h.os, tape := h.tape, output := h.output, size := h.size, keep := fun k hk hn => h.keep k hk (fun q => hn (hW k q)), wr := fun b hb => (h.wr b hb).imp (hW b) id, X := h.X, B := h.B
          ρ := fun i hi => (h.ρ i hi).trans (congrArg C.ρ (hσ i hi)) }
def sg (s : List (Nat × Nat)) : Nat -> Nat := fun i => (get s i).getD i
def aYa (σ : Nat -> Nat) (n1 : Nat) (E : Env) : Env -> Prop
  | [] => True
  | (t, x) :: r => get E t = some (x.ren σ) /\ x.bel (UU n1) /\ aYa σ n1 E r
def qS (σ : Nat -> Nat) (n1 : Nat) (H : Heap) : Heap -> Prop
  | [] => True
  | (i, o) :: r => get H (σ i) = some (o.ren σ) /\ UU n1 i /\ o.bel (UU n1) /\ qS σ n1 H r
def dT {α : Type} : ∀ {l : List (Nat × α)} {n : Nat} {x : α}, get l n = some x -> (n, x) ∈ l
  | [], _, _, h => by cases h
  | (k, y) :: r, n, x, h => by
    unfold Abs.get at h; split at h
    . rename_i e; subst e; cases h; exact A2
    exact A5 _ (dT h)
def aQr {σ : Nat -> Nat} {n1 : Nat} {E : Env} : ∀ {E1 : Env}, aYa σ n1 E E1 -> ∀ t x, (t, x) ∈ E1 -> get E t = some (x.ren σ) /\ x.bel (UU n1)
  | [], _, _, _, h => by cases h
  | (t, x) :: r, h, t', x', h' => by
    rcases A7.1 h' with e | e
    . cases e; exact ⟨h.1, h.2.1⟩
    exact aQr h.2.2 t' x' e
def mF {σ : Nat -> Nat} {n1 : Nat} {H : Heap} : ∀ {H1 : Heap}, qS σ n1 H H1 -> ∀ i o, (i, o) ∈ H1 -> get H (σ i) = some (o.ren σ) /\ UU n1 i /\ o.bel (UU n1)
  | [], _, _, _, h => by cases h
  | (t, x) :: r, h, t', x', h' => by
    rcases A7.1 h' with e | e
    . cases e; exact ⟨h.1, h.2.1, h.2.2.1⟩
    exact mF h.2.2.2 t' x' e
def uY {α : Type} {H1 : List (Nat × α)} (h : (H1.map fun p => σ p.1).Nodup) : ∀ i j oi oj, get H1 i = some oi -> get H1 j = some oj -> σ i = σ j -> i = j := by
  induction H1 with
  | nil => intro i j oi oj hi; cases hi
  | cons p r ih =>
    obtain ⟨k, x⟩ := p
    simp only [List.map_cons, C6] at h
    intro i j oi oj hi hj e; unfold Abs.get at hi hj
    by_cases h1 : k = i
    . by_cases h2 : k = j
      . omega
      rw [if_neg h2] at hj; subst h1
      exact absurd (A9.2 ⟨_, dT hj, e.symm⟩) h.1
    rw [if_neg h1] at hi
    by_cases h2 : k = j
    . subst h2
      exact absurd (A9.2 ⟨_, dT hi, e⟩) h.1
    rw [if_neg h2] at hj
    exact ih h.2 i j oi oj hi hj e
def bLa {n1 : Nat} (s : List (Nat × Nat)) (hn : n0 <= n1) (hE : aYa (sg s) n1 E E1) (hH : qS (sg s) n1 H H1) (hi : (H1.map fun p => sg s p.1).Nodup)
    (hs : ∀ p ∈ s, n0 <= p.1 /\ p.1 < 1000) (h : AWP P ro N n0 c Q E1 H1 n1) : AWP P ro N n0 c Q E H nx := by
  have hσ : ∀ i, UU n0 i -> sg s i = i := fun i hu => by
    unfold sg
    cases hg : get s i with
    | none => rfl
    | some j =>
      have := hs _ (dT hg)
      rcases hu with hu | hu <;> simp at this <;> omega
  intro C a w Qc _ hR hK
  refine h (C.ren (sg s)) a w Qc hn (hR.ren (fun i o hi' => mF hH i o (dT hi')) (uY hi) (fun t x ht => aQr hE t x (dT ht))) fun e E' H' nx' C' a' w' hn' hR' hs' hQ => ?_
  exact hK e E' H' nx' C' a' w' hn' hR' (hs'.ren_left (fun i o hi' => ⟨_, (mF hH i o (dT hi')).1⟩) hσ) hQ
end
end
section
variable [Globals]
variable {f n0 : Nat} {xs args : List AV} {c : Code} {nd : Heap}
structure FnT (P : Program) (f : Nat) (fn : Func) (c : Code) : Prop where
  at' : P.funcs[f]? = some fn
  body : fn.body = some c
  name : (fn.name == "runtime.NumGoroutine") = false
def FnT.run {P : Program} {fn : Func} (h : FnT P f fn c) (args : Array Value) (w : World) : (callFunc f args).run P w = .ok (.enter f args) w := by
  have := h.name
  simp only [beq_eq_false_iff_ne, ne_eq] at this
  simp [callFunc, Sem.run_bind, h.at', this, h.body]
def uC (P : Program) (f : Nat) (args : List AV) (nd : Heap) (n0 : Nat) (R : AV -> Heap -> Nat -> Prop) : Prop :=
  ∀ (C : Conc) (w : World) (vals : Array Value), RelH C nd (UU n0) w -> eG C.ρ (C.avoid nd) w.heap args vals -> aK (UU n0) args ->
    Calls P f vals w fun e w' => ∃ v r H' n' C', e = .returned v /\ n0 <= n' /\ R r H' n' /\ RelH C' H' (UU n') w' /\ StepR C nd (UU n0) w C' H' w' /\ Rep C'.ρ (C'.avoid H') w'.heap r v /\ r.bel (UU n')
def uC.mono {P : Program} {R R' : AV -> Heap -> Nat -> Prop} (h : uC P f args nd n0 R) (hR : ∀ r H n, R r H n -> R' r H n) : uC P f args nd n0 R' :=
  fun C w vals h1 h2 h3 => (h C w vals h1 h2 h3).mono fun e w' ⟨v, r, H', n', C', a1, a2, a3, a4⟩ => ⟨v, r, H', n', C', a1, a2, hR _ _ _ a3, a4⟩
def aJ (P : Program) (f : Nat) (args : List AV) (nd : Heap) (n0 : Nat) (r : AV) : Prop := uC P f args nd n0 fun r' H' n' => r' = r /\ H' = nd /\ n' = n0
def vI (P : Program) (t : TypeId) : Option (Nat × Bool) :=
  match (P.info? t).map (·.size), (P.underlying t).map bOv with
  | some sz, some ag => some (sz, ag)
  | _, _ => none
def iC {P : Program} {t : TypeId} {sz : Nat} {ag : Bool} (h : vI P t = some (sz, ag)) : VarT P t sz ag := by
  unfold vI at h; split at h
  . rename_i h1 h2
    cases h
    exact ⟨h1, h2⟩
  cases h
def uK (P : Program) (E : Env) (H : Heap) : List ResultVar -> Option (List AV)
  | [] => some []
  | .tmp t :: r => match get E t, uK P E H r with
    | some x, some xs => some (x :: xs)
    | _, _ => none
  | .cell t ty :: r => match get E t, vI P ty with
    | some (.ptr i off), some (sz, ag) => match get H i with
      | some (.cells _ cs) => match gF (.agg cs) off sz ag, uK P E H r with
        | some x, some xs => some (x :: xs)
        | _, _ => none
      | _ => none
    | _, _ => none
def qT : List AV -> AV
  | [x] => x
  | xs => .tup xs
def aFg (tmps : Array Value) : ResultVar -> Sem Value
  | .tmp t => pure (tmps.getD t undef)
  | .cell a t => do loadVar t (<- asAddr (tmps.getD a undef))
section
variable {P : Program} {N : Nat} {E : Env} {H : Heap} {U : Nat -> Prop} {C : Conc} {a : Act} {w : World}
def aLd (hR : Rel C N E H U a w) : ∀ (rs : List ResultVar) (xs : List AV), uK P E H rs = some xs -> ∃ vs : List Value, (rs.mapM (aFg a.tmps)).run P w = .ok vs w /\ eG C.ρ (C.avoid H) w.heap xs vs.toArray /\ aK U xs
  | [], xs, h => by simp only [uK, B9] at h; subst h; exact ⟨[], rfl, ⟨rfl, fun j x hj => by simp at hj⟩, trivial⟩
  | .tmp t :: r, xs, h => by
    simp only [uK] at h
    split at h
    . rename_i x ys hx hys
      cases h
      obtain ⟨vs, h1, h2, h3⟩ := aLd hR r ys hys
      obtain ⟨_, h4, h5⟩ := hR.env t x hx
      refine ⟨a.tmps.getD t undef :: vs, ?_, ⟨by simp [<- h2.1], fun j y hj => ?_⟩, ⟨h4, h3⟩⟩
      . simp only [List.mapM_cons, aFg, Sem.run_bind, Sem.run_pure, Result.andThen_ok, h1]
      cases j with
      | zero => simp at hj; subst hj; simpa using h5
      | succ j => simpa [B6] using h2.2 j y (by simpa using hj)
    cases h
  | .cell t ty :: r, xs, h => by
    simp only [uK] at h
    split at h
    . rename_i i off sz ag ht hv
      split at h
      . rename_i t0 cs hH
        split at h
        . rename_i x ys hx hys
          cases h
          obtain ⟨vs, h1, h2, h3⟩ := aLd hR r ys hys
          obtain ⟨_, _, h5⟩ := hR.env t _ ht
          obtain ⟨b, us, hval, _, hb, hrep⟩ := hR.obj i _ hH
          obtain ⟨hr1, hr2, hr3⟩ := sB (v := .agg us) (.agg cs us hrep.1 hrep.2) C.one (U := U) (hR.objb i _ hH).2 hx
          have hev := aJc h5 (b := b) (by rw [hval]; rfl)
          have hl := qJ (P := P) (w := w) (iC hv) hb (v := .agg us) (o := off) (off := off) (fun k _ => rfl) hr3 (fun e => by rw [rN hx e]; omega)
          refine ⟨lC (.agg us) off sz ag :: vs, ?_, ⟨by simp [<- h2.1], fun j y hj => ?_⟩, ⟨hr2, h3⟩⟩
          . simp only [List.mapM_cons, aFg, hev, asAddr, Sem.run_bind, Sem.run_pure, Result.andThen_ok, hl, h1]
          cases j with
          | zero => simp at hj; subst hj; simpa using hr1
          | succ j => simpa [B6] using h2.2 j y (by simpa using hj)
        cases h
      cases h
    cases h
def bHo {ρ : Nat -> Value} {av : Nat -> Prop} {hp : Array Obj} {vs : Array Value} (h : eG ρ av hp xs vs) : Rep ρ av hp (qT xs) (if h : vs.size = 1 then vs[0] else .tuple vs) := by
  match xs, h with
  | [x], h =>
    have h1 : vs.size = 1 := h.1
    rw [dif_pos h1]
    have := h.2 0 x rfl
    simpa [B6, h1, qT] using this
  | [], h =>
    have h1 : ¬ vs.size = 1 := by rw [h.1]; simp
    rw [dif_neg h1]
    exact .tup _ _ h.1 h.2
  | x :: y :: r, h =>
    have h1 : ¬ vs.size = 1 := by rw [h.1]; simp
    rw [dif_neg h1]
    exact .tup _ _ h.1 h.2
def bKk (h : aK U xs) : (qT xs).bel U := by
  match xs, h with
  | [x], h => exact h.1
  | [], h => exact h
  | x :: y :: r, h => exact h
def aUz (hR : Rel C N E H U a w) {fn : Func} (h : uK P E H fn.results.toList = some xs) : ∃ v, (results fn a.tmps).run P w = .ok v w /\ Rep C.ρ (C.avoid H) w.heap (qT xs) v /\ (qT xs).bel U := by
  obtain ⟨vs, h1, h2, h3⟩ := aLd hR _ xs h
  refine ⟨if h : vs.toArray.size = 1 then vs.toArray[0] else .tuple vs.toArray, ?_, bHo h2, bKk h3⟩
  have hm : (fn.results.mapM (aFg a.tmps)).run P w = .ok vs.toArray w := by
    rw [<- Array.toList_mapM] at h1; rw [Sem.run_map] at h1
    generalize hg : (fn.results.mapM (aFg a.tmps)).run P w = q at h1 ⊢
    cases q with
    | ok x w2 => simp only [Result.andThen_ok, Result.ok.injEq] at h1; obtain ⟨h7, rfl⟩ := h1; rw [<- h7]
    | halt x w2 => simp [Result.andThen] at h1
  have he : results fn a.tmps = (do let vs <- fn.results.mapM (aFg a.tmps); pure (if h : vs.size = 1 then vs[0] else .tuple vs)) := by
    unfold results
    congr 1
  rw [he, Sem.run_bind, hm]; rfl
structure Marked (B : Nat) (w w' : World) : Prop where
  os : w'.os = w.os
  tape : w'.tape = w.tape
  output : w'.output = w.output
  size : w'.heap.size = w.heap.size
  keep : ∀ b, b < B -> w'.heap[b]? = w.heap[b]?
def Rel.unmark {tmps : Array Value} {d : Deferred} {ds : List Deferred} (hR : Rel C N E H U { tmps := tmps, defers := d :: ds } w) : ∃ r, d.target = .collected r /\ (Instr.takeDeferred r).run P w = .ok [] (w.putObj r (.deferred none)) /\ C.B <= r /\
    Rel C N E H U { tmps := tmps, defers := ds } (w.putObj r (.deferred none)) := by
  obtain ⟨r, hd, hB, hh, hav⟩ := hR.marks d A2
  refine ⟨r, by rw [hd], run_takeDeferred hh, hB, ?_⟩
  have hlt := ltB hh
  have hother : ∀ k, k ≠ r -> (w.putObj r (.deferred none)).heap[k]? = w.heap[k]? := fun k hk => by
    show (w.heap.setIfInBounds r _)[k]? = _
    rw [G8, if_neg (fun e => hk e.symm)]
  have hsz : (w.putObj r (.deferred none)).heap.size = w.heap.size := by show (w.heap.setIfInBounds r _).size = _; simp
  have heq : ∀ b cells t fr, w.heap[b]? = some (.cells cells t fr) -> ¬ C.avoid H b -> (w.putObj r (.deferred none)).heap[b]? = w.heap[b]? := fun b cells t fr hb _ => hother b (fun e => by rw [e, hh] at hb; cases hb)
  exact {
    obj := fun i o hi => (hR.obj i o hi).mono' (fun _ _ h => h) heq (fun b hb => hother b (fun e => hav (.inr ⟨i, o, hi, e ▸ hb⟩)))
    apart := hR.apart
    xapart := hR.xapart
    xlt := fun b hb => by rw [hsz]; exact hR.xlt b hb
    gl := hR.toRelH.glK (fun _ _ h => h) heq
    objb := hR.objb
    size := hR.size
    hB := by rw [hsz]; exact hR.hB
    nodup := (C6.1 hR.nodup).2
    marks := fun d' hd' => by
      obtain ⟨r', h1, h2, h3, h4⟩ := hR.marks d' (A5 _ hd')
      refine ⟨r', h1, h2, ?_, h4⟩
      rw [hother r' (fun e => ?_)]
      . exact h3
      subst e
      exact (C6.1 hR.nodup).1 (by rw [hd, <- h1]; exact hd')
    env := fun t x ht => by
      obtain ⟨h1, h2, h3⟩ := hR.env t x ht
      exact ⟨h1, h2, h3.mono' (fun _ _ h => h) heq⟩ }
def aDj {F : Fence} {n : Nat} {fn : Func} {tmps : Array Value} {R : Ending -> World -> Prop} : ∀ (ds : List Deferred) (w : World), Rel C N E H U { tmps := tmps, defers := ds } w ->
    (∀ w', Rel C N E H U { tmps := tmps, defers := [] } w' -> Marked C.B w w' -> ∃ v, (results fn tmps).run P w' = .ok v w' /\ R (.returned v) w') -> LeavesInM F n P fn tmps R ds .returning w
  | [], w, hR, hk => hk w hR ⟨rfl, rfl, rfl, rfl, fun _ _ => rfl⟩
  | d :: ds, w, hR, hk => by
    obtain ⟨r, h1, h2, h3, h4⟩ := hR.unmark (P := P)
    refine ⟨fun h => (by cases h), .inl ⟨r, _, h1, h2, aDj ds _ h4 fun w' hw' hm => hk w' hw' ⟨hm.os, hm.tape, hm.output, ?_, fun b hb => ?_⟩⟩⟩
    . rw [hm.size]; show (w.heap.setIfInBounds r _).size = _; simp
    rw [hm.keep b hb]
    show (w.heap.setIfInBounds r _)[b]? = _
    rw [G8, if_neg og]
def eE : Nat -> List AV -> Env
  | _, [] => []
  | k, x :: xs => (k, x) :: eE (k + 1) xs
def aRp : ∀ (xs : List AV) (k t : Nat) (x : AV), get (eE k xs) t = some x -> k <= t /\ xs[t - k]? = some x
  | [], _, _, _, h => by cases h
  | y :: ys, k, t, x, h => by
    unfold eE Abs.get at h; split at h
    . rename_i e; subst e; cases h; exact ⟨A0 _, by simp⟩
    obtain ⟨h1, h2⟩ := aRp ys (k + 1) t x h
    refine ⟨og, ?_⟩
    rw [show t - k = (t - (k + 1)) + 1 by omega, List.getElem?_cons_succ]; exact h2
def bQk (P : Program) (vs : List ResultVar) (R : AV -> Heap -> Nat -> Prop) : AQ := fun e E H nx =>
  match e with
  | .ret => ∃ rs, uK P E H vs = some rs /\ R (qT rs) H nx
  | .normal => ∃ rs, uK P E H vs = some rs /\ R (qT rs) H nx
  | _ => False
def aRs {fn : Func} {R : AV -> Heap -> Nat -> Prop} {vs : List ResultVar} (hf : FnT P f fn c) (hN : fn.ntmps = N) (hv : fn.results.toList = vs) (hl : args.length <= N)
    (h : AWP P none N n0 c (bQk P vs R) (eE 0 args) nd n0) : uC P f args nd n0 R := by
  subst hv; intro C w vals hRH hargs hb
  let C₁ : Conc := { C with B := w.heap.size }
  refine bKh (n := 0) (callsIn_of_wp_marks hf.at' hf.body (bPq none f) ?_ rfl)
  have hsz : vals.size = args.length := hargs.1
  have hget : ∀ t, t < vals.size -> (vals ++ Array.replicate (fn.ntmps - vals.size) undef).getD t undef = vals.getD t undef := fun t ht => by
    simp [B6, Array.getElem?_append, ht]
  have hR0 : Rel C₁ N (eE 0 args) nd (UU n0) { tmps := vals ++ Array.replicate (fn.ntmps - vals.size) undef, defers := [] } w :=
    { obj := hRH.obj, apart := hRH.apart, xapart := hRH.xapart, xlt := hRH.xlt, objb := hRH.objb, gl := hRH.gl
      size := by simp; omega
      hB := A0 _
      nodup := D8
      marks := fun d hd => by cases hd
      env := fun t x ht => by
        obtain ⟨_, h2⟩ := aRp args 0 t x ht
        rw [Nat.sub_zero] at h2
        have hlt := (B2.1 h2).1
        refine ⟨og, bG hb h2, ?_⟩
        show Rep C.ρ (C.avoid nd) w.heap x ((vals ++ Array.replicate (fn.ntmps - vals.size) undef).getD t undef)
        rw [hget t og]
        exact hargs.2 t x h2 }
  have key : ∀ (E' : Env) (H' : Heap) (nx' : Nat) (C' : Conc) (a' : Act) (w' : World), n0 <= nx' -> Rel C' N E' H' (UU nx') a' w' -> StepR C₁ nd (UU n0) w C' H' w' -> (∃ rs, uK P E' H' fn.results.toList = some rs /\ R (qT rs) H' nx') ->
      LeavesInM (FW none) 0 P fn a'.tmps (fun e w' => ∃ v r H' n' C', e = .returned v /\ n0 <= n' /\ R r H' n' /\ RelH C' H' (UU n') w' /\ StepR C nd (UU n0) w C' H' w' /\ Rep C'.ρ (C'.avoid H') w'.heap r v /\ r.bel (UU n')) a'.defers .returning w' := by
    intro E' H' nx' C' a' w' hn' hR' hs ⟨rs, hrs, hRR⟩
    refine aDj a'.defers w' hR' fun w2 hR2 hm => ?_
    obtain ⟨v, h1, h2, h3⟩ := aUz (P := P) hR2 hrs
    have hB : C'.B = w.heap.size := hs.B
    refine ⟨v, h1, v, qT rs, H', nx', { C' with B := C.B }, rfl, hn', hRR, ?_, ?_, h2, h3⟩
    . exact { obj := hR2.obj, apart := hR2.apart, xapart := hR2.xapart, xlt := hR2.xlt, objb := hR2.objb, gl := hR2.gl }
    exact { os := hm.os.trans hs.os, tape := hm.tape.trans hs.tape, output := hm.output.trans hs.output
            size := by have := hs.size; rw [hm.size]; exact this
            keep := fun k hk hn => (hm.keep k og).trans (hs.keep k hk hn)
            wr := hs.wr, X := hs.X, B := rfl, ρ := hs.ρ }
  refine h C₁ _ w _ (A0 _) hR0 fun e E' H' nx' C' a' w' hn' hR' hs hQ => ?_
  cases e with
  | normal => exact key E' H' nx' C' a' w' hn' hR' hs hQ
  | ret => exact key E' H' nx' C' a' w' hn' hR' hs hQ
  | _ => exact hQ.elim
end
end
section
variable [Globals]
variable {p x y : AV} {t : TypeId} {op : Op} {nx e sz : Nat}
structure Ev where
  ok : Prop
  val : AV
  ps : Heap
  nw : Nat
def xX : List AV -> List Nat
  | [] => []
  | .ref i :: r => i :: xX r
  | _ :: r => xX r
def nJ : AV -> List Nat
  | .ptr i _ => [i]
  | .ep i _ _ _ => [i]
  | .ref i => [i]
  | .agg cs => xX cs
  | _ => []
abbrev Look := Nat -> Option AObj
def jT : AV -> Option (Prop × Bool)
  | .raw (.bool b) => some (True, b)
  | .when c (.raw (.bool b)) => some (c, b)
  | _ => none
def pk (b p q : Bool) : Bool := if b then p else q
def bLj (b q : Bool) : pk b true q = (b || q) := by cases b <;> rfl
def bKf (b p : Bool) : pk b p false = (b && p) := by cases b <;> simp [pk]
def bBa (c x y : AV) : Option Ev :=
  match c, jT x, jT y with
  | .raw (.bool b), some (c1, p), some (c2, q) => some ⟨(b = true -> c1) /\ (b = false -> c2), .raw (.bool (pk b p q)), [], 0⟩
  | _, _, _ => none
def aFf (P : Program) (t : TypeId) (p : AV) (h : Look) : Option Ev :=
  match vI P t with
  | some (sz, ag) =>
    match p with
    | .ptr i off => match h i with
      | some (.cells _ cs) => (gF (.agg cs) off sz ag).map fun r => ⟨True, r, [], 0⟩
      | _ => none
    | .ep i esz j off => match h i with
      | some (.row _ esz' xs) => if esz = esz' then (match xs[j]? with
        | some el => match gF el off sz ag with
          | some r => if r.free = true then some ⟨True, r, [], 0⟩ else none
          | none => none
        | none => none) else none
      | _ => none
    | .fp esz xs j off => match xs[j]? with
      | some el => (gF el off sz ag).map fun r => ⟨True, r, [], 0⟩
      | none => none
    | _ => none
  | none => none
def zF (P : Program) (t : TypeId) (p y : AV) (h : Look) : Option Ev :=
  match vI P t, vQ y with
  | some (sz, _), some ys =>
    match p with
    | .ptr i off => match h i with
      | some (.cells t0 cs) => if ys.length = sz /\ off + sz <= cs.length then some ⟨True, .raw undef, [(i, .cells t0 (bN cs off ys))], 0⟩ else none
      | _ => none
    | .ep i esz j off => match h i with
      | some (.row e esz' xs) => if esz' = esz /\ y.solid = true /\ y.elem = true /\ y.width = sz /\ off + sz <= esz /\ (gB h y).2.Nodup /\ i ∉ (gB h y).2 then (match xs[j]? with
        | some el => (bBu el off esz sz (gB h y).1).map fun el' => ⟨True, .raw undef, (i, .row e esz (xs.set j el')) :: cF (gB h y).2, 0⟩
        | none => none) else none
      | _ => none
    | _ => none
  | _, _ => none
def aTg (P : Program) (t : TypeId) (p : AV) (j : Nat) : Option Ev :=
  match fI P t j with
  | some (off, some sz, some _) => if 0 < sz then (bAa p off).map fun r => ⟨True, r, [], 0⟩ else none
  | _ => none
def mL (P : Program) (t : TypeId) (x y : AV) (h : Look) : Option Ev :=
  match cU P t, y with
  | some (_, some (sz, _)), .raw (.int _ n) =>
    match x with
    | .sl sz' xs => if sz' = sz then some ⟨0 <= n /\ n < xs.length, .fp sz xs n.toNat 0, [], 0⟩ else none
    | .ref i => match h i with
      | some (.row _ sz' xs) => if sz' = sz then some ⟨0 <= n /\ n < xs.length, .ep i sz n.toNat 0, [], 0⟩ else none
      | _ => none
    | _ => none
  | _, _ => none
def aSk (P : Program) (t : TypeId) (x y : AV) : Option Ev :=
  match x, y with
  | .raw (.string s), .raw (.int _ n) => if aGm P t = true then some ⟨0 <= n /\ n < s.size, .raw (.int .u8 (aS s n.toNat)), [], 0⟩ else none
  | _, _ => none
def bOr (op : UnOp) (x : AV) : Option Ev :=
  match op, x with
  | .not, .raw (.bool b) => some ⟨True, .raw (.bool (!b)), [], 0⟩
  | .neg, .raw (.int k n) => some ⟨True, .raw (.int k (k.wrap (-n))), [], 0⟩
  | _, _ => none
def bGe (P : Program) (op : BinOp) (t : TypeId) (x y : AV) : Option Ev :=
  match x, y with
  | .raw (.int k n), .raw (.int k' m) => match bMf op k n m with
    | some v => some ⟨0 <= m, .raw v, [], 0⟩
    | none => if k = k' then (iop op k n m).map fun v => ⟨True, .raw v, [], 0⟩ else none
  | .raw (.bool n), .raw (.bool m) => if bJc P t = true then (bop op n m).map fun v => ⟨True, .raw (.bool v), [], 0⟩ else none
  | .raw (.string n), .raw (.string m) => match op with
    | .add => some ⟨n.size + m.size <= 9223372036854775807, .raw (.string (n ++ m)), [], 0⟩
    | op => (sop op n m).map fun v => ⟨True, .raw v, [], 0⟩
  | _, _ => none
def bGq (P : Program) (op : BinOp) (t : TypeId) (x : AV) : Option Ev :=
  match bCo x with
  | some b => match aUj op b with
    | some r => if aWt P t = true then some ⟨True, .raw (.bool r), [], 0⟩ else none
    | none => none
  | none => none
def dC (P : Program) (t : TypeId) : Option (List (Nat × Nat)) := (vV P t).bind fun l => l.mapM fun p => p.2.map fun n => (p.1, n)
def aAd : ∀ (l : List (Nat × Option Nat)) (tab : List (Nat × Nat)), (l.mapM fun p => p.2.map fun n => (p.1, n)) = some tab -> l = tab.map fun p => (p.1, some p.2)
  | [], tab, h => by simp at h; subst h; rfl
  | (a, none) :: l, tab, h => by simp at h
  | (a, some n) :: l, tab, h => by
    simp only [List.mapM_cons, Option.map_some, Option.pure_def, Option.bind_eq_bind, Option.bind_some] at h
    obtain ⟨r, hr, h⟩ := G7.1 h
    cases h; rw [List.map_cons, <- aAd l r hr]
def aLh {P : Program} {tab : List (Nat × Nat)} (h : dC P t = some tab) : vV P t = some (tab.map fun p => (p.1, some p.2)) := by
  obtain ⟨l, hl, h⟩ := G7.1 h
  rw [hl, aAd l tab h]
def aUf (e : Operand -> Option AV) : List (Nat × Operand) -> Option (List (Nat × AV))
  | [] => some []
  | (i, x) :: r => match e x, aUf e r with
    | some v, some vs => some ((i, v) :: vs)
    | _, _ => none
def bBn (E : Env) : ∀ l, aUf (opv E) l = qO E l
  | [] => rfl
  | (i, x) :: r => by
    rw [aUf, qO, bBn E r]
    all_goals (cases opv E x <;> cases qO E r <;> rfl)
def aEj (e : Operand -> Option AV) : List (Nat × Operand) -> Option (List AV)
  | [] => some []
  | (_, x) :: r => match e x, aEj e r with
    | some v, some vs => some (v :: vs)
    | _, _ => none
def aKc : Nat -> List (Nat × Operand) -> Bool
  | _, [] => true
  | k, (i, _) :: r => i == k && aKc (k + 1) r
def aGr : ∀ (l : List (Nat × Operand)) (k : Nat), aKc k l = true -> l = aPy k (l.map (·.2))
  | [], _, _ => rfl
  | (i, x) :: r, k, h => by
    simp only [aKc, B7, beq_iff_eq] at h
    rw [List.map_cons, aPy, <- aGr r (k + 1) h.2, h.1]
def aQj {e : Operand -> Option AV} : ∀ (l : List (Nat × Operand)) (vs : List AV), aEj e l = some vs -> (l.map (·.2)).map e = vs.map some
  | [], vs, h => by simp only [aEj, B9] at h; subst h; rfl
  | (i, x) :: r, vs, h => by
    simp only [aEj] at h
    split at h
    . rename_i v us hv hus
      cases h
      simp [hv, aQj r us hus]
    cases h
def aUd (P : Program) (t : TypeId) (ps : List (Nat × AV)) : Option Ev :=
  match dC P t, zC P t with
  | some tab, some zs => (aCj (fun i => tab[i]?) (zs.map .raw) ps).map fun rs => ⟨True, .agg rs, [], 0⟩
  | _, _ => none
def rH (P : Program) (t : TypeId) (len : Nat) (dF : List (Nat × Operand)) (ps : List AV) (h : Look) (nx : Nat) : Option Ev :=
  match cU P t with
  | some (e, some (sz, _)) => match zC P e with
    | some _ => if aKc 0 dF = true /\ dF.length = len /\ ps.all (AV.fitsEl sz) = true /\ 0 < sz /\ len * sz <= 16777216 /\ (bJ h ps).2.Nodup then
        some ⟨True, .ref nx, (nx, .row e sz (bJ h ps).1) :: cF (bJ h ps).2, 1⟩ else none
    | none => none
  | _ => none
def xD (P : Program) (t : TypeId) (x y : AV) (nx : Nat) : Option Ev :=
  match cU P t, x, y with
  | some (e, some (sz, by')), .raw (.int _ n), .raw (.int _ m) => match zE P e with
    | some zel => if zel.width = sz /\ 0 < sz then some ⟨0 <= n /\ n <= m /\ (by' : Int) * m <= 281474976710656 /\ m.toNat <= maxLen, .ref nx, [(nx, .row e sz (List.replicate n.toNat zel))], 1⟩ else none
    | none => none
  | _, _, _ => none
def xV (d : Int) : Option (Option AV) -> Option Int
  | none => some d
  | some (some (.raw (.int _ n))) => some n
  | _ => none
def aJr (P : Program) (t : TypeId) (x : AV) (lo hi : Option (Option AV)) : Option Ev :=
  match cU P t, x with
  | some (_, some (sz, _)), .sl sz' xs => match xV 0 lo, xV xs.length hi with
    | some l, some h => if sz' = sz then some ⟨0 <= l /\ l <= h /\ h <= xs.length, .sl sz ((xs.take h.toNat).drop l.toNat), [], 0⟩ else none
    | _, _ => none
  | _, _ => none
def aSl (P : Program) (t : TypeId) (x : AV) (lo hi : Option (Option AV)) : Option Ev :=
  match x with
  | .raw (.string s) => if aGm P t = true then (match xV 0 lo, xV s.size hi with
    | some l, some h => some ⟨0 <= l /\ l <= h /\ h <= s.size, .raw (.string (s.extract l.toNat h.toNat)), [], 0⟩
    | _, _ => none) else none
  | x => aJr P t x lo hi
def aBu (e sz i : Nat) (h : Look) : Option (List AV × List Nat) :=
  match h i with
  | some (.row e' sz' xs) => if e' = e /\ sz' = sz then some (xs, [i]) else none
  | _ => none
def bAv (sz : Nat) : AV -> Option (List AV × List Nat)
  | .raw (.slice none 0 0) => some ([], [])
  | _ => none
def aSs (sz : Nat) : AV -> Option (List AV × List Nat)
  | .raw (.slice none 0 0) => some ([], [])
  | .sl sz' ys => if sz' = sz then some (ys, []) else none
  | _ => none
def bFu (e sz : Nat) (h : Look) (x : AV) : Option (List AV × List Nat) :=
  match x with
  | .ref i => aBu e sz i h
  | x => bAv sz x
def bEo (e sz : Nat) (h : Look) (x : AV) : Option (List AV × List Nat) :=
  match x with
  | .ref i => aBu e sz i h
  | x => aSs sz x
def aCu (P : Program) (t : TypeId) (x y : AV) (h : Look) (nx : Nat) : Option Ev :=
  match cU P t with
  | some (e, some (sz, by')) => match zC P e, bFu e sz h x, bEo e sz h y with
    | some zs, some (xs, k1), some (ys, k2) => if zs.length = sz /\ 0 < sz /\ (∀ i ∈ k1, i ∉ k2) then
        some ⟨ys.all AV.elem = true /\ xs.length + ys.length <= maxLen /\ (xs.length + ys.length) * by' <= 140737488355328, .ref nx, (nx, .row e sz (xs ++ ys)) :: cF (k1 ++ k2), 1⟩ else none
    | _, _, _ => none
  | _ => none
def aRy (P : Program) (e : Operand -> Option AV) (h : Look) (nx : Nat) (c : Call) : Option Ev :=
  match c.callee, c.args.toList, c.argTypes.toList with
  | .builtin .len, [x], [t] => match e x with
    | some p => (aMn P t p h).map fun (n : Nat) => ⟨True, .raw (.int .i64 (n : Int)), [], 0⟩
    | none => none
  | .builtin .append, [x, y], [t, t'] => match e x, e y with
    | some p, some q => if t' = t then aCu P t p q h nx else none
    | _, _ => none
  | .builtin b, [x, y], _ => match e x, e y with
    | some p, some q => (bLv b p q).map fun v => ⟨True, .raw v, [], 0⟩
    | _, _ => none
  | _, _, _ => none
def aNa (e : Operand -> Option AV) : List Operand -> Option (List AV)
  | [] => some []
  | x :: r => match e x, aNa e r with
    | some v, some vs => some (v :: vs)
    | _, _ => none
def aGe {e : Operand -> Option AV} : ∀ (l : List Operand) (vs : List AV), aNa e l = some vs -> l.map e = vs.map some
  | [], vs, h => by simp only [aNa, B9] at h; subst h; rfl
  | x :: r, vs, h => by
    simp only [aNa] at h
    split at h
    . rename_i v us hv hus
      cases h
      simp [hv, aGe r us hus]
    cases h
def aBk {e e' : Operand -> Option AV} : ∀ {l : List Operand}, (∀ x ∈ l, e x = e' x) -> aNa e l = aNa e' l
  | [], _ => rfl
  | x :: r, h => by rw [aNa, aNa, h x A2, aBk fun y hy => h y (A5 _ hy)]
def wC (P : Program) (e : Operand -> Option AV) (h : Look) (nx : Nat) : Op -> Option Ev
  | .move x => (e x).map fun r => ⟨True, r, [], 0⟩
  | .assign x => (e x).map fun r => ⟨True, r, [], 0⟩
  | .pick c x y => match e c, e x, e y with
    | some c', some x', some y' => bBa c' x' y'
    | _, _, _ => none
  | .load t x => match e x with
    | some p => aFf P t p h
    | none => none
  | .store t x y => match e x, e y with
    | some p, some v => zF P t p v h
    | _, _ => none
  | .fieldAddr t x j => match e x with
    | some p => aTg P t p j
    | none => none
  | .indexAddr t x y => match e x, e y with
    | some p, some v => mL P t p v h
    | _, _ => none
  | .index t x y => match e x, e y with
    | some p, some v => aSk P t p v
    | _, _ => none
  | .nilCheck x => match e x with
    | some p => if bCx p = true then some ⟨True, p, [], 0⟩ else none
    | none => none
  | .extract x i => match e x with
    | some (.tup vs) => (vs[i]?).map fun r => ⟨True, r, [], 0⟩
    | _ => none
  | .makeInterface t x => match e x with
    | some p => if P.concrete t = true then some ⟨True, .iface t p, [], 0⟩ else none
    | none => none
  | .unOp op _ x => match e x with
    | some p => bOr op p
    | none => none
  | .binOp op t x y _ => match y with
    | .const .nilIface => match e x with
      | some p => bGq P op t p
      | none => none
    | y => match e x, e y with
      | some p, some v => bGe P op t p v
      | _, _ => none
  | .alloc t => match zC P t with
    | some zs => some ⟨True, .ptr nx 0, [(nx, .cells t (zs.map .raw))], 1⟩
    | none => none
  | .box t x => match e x with
    | some p => (vQ p).map fun ys => ⟨True, .ptr nx 0, [(nx, .cells t ys)], 1⟩
    | none => none
  | .build t dF => match aUf e dF.toList with
    | some ps => aUd P t ps
    | none => none
  | .buildSlice t len dF => match aEj e dF.toList with
    | some ps => rH P t len dF.toList ps h nx
    | none => none
  | .makeSlice t x y => match e x, e y with
    | some p, some v => xD P t p v nx
    | _, _ => none
  | .slice t x lo hi mx => match e x, mx with
    | some p, none => aSl P t p (lo.map e) (hi.map e)
    | _, _ => none
  | .call c => aRy P e h nx c
  | .makeMap t r => match r, lZ P t with
    | none, some (kt, et) => some ⟨True, .ref nx, [(nx, .map kt et [])], 1⟩
    | _, _ => none
  | .makeFunc f first cap => match aNa e first.toList, aNa e cap.toList with
    | some as, some bs => some ⟨True, .fn f as bs, [], 0⟩
    | _, _ => none
  | .convert s t x => match e x with
    | some (.raw (.int _ n)) => if (gD P s).isSome = true then (gD P t).map fun k => ⟨True, .raw (.int k (k.wrap n)), [], 0⟩ else none
    | _ => none
  | .field t x j => match e x, fI P t j with
    | some p, some (off, some sz, some ag) => if p.notAgg = false then (gF p off sz ag).map fun r => ⟨True, r, [], 0⟩ else none
    | _, _ => none
  | _ => none
def sN (U : Nat -> Prop) (nx nw : Nat) : Nat -> Prop := fun j => U j ∨ (nx <= j /\ j < nx + nw)
def aU0 (U : Nat -> Prop) (nx : Nat) : sN U nx 0 = U := by
  funext j
  exact propext ⟨fun h => h.elim id (fun h => by omega), .inl⟩
def gO (U : Nat -> Prop) (nx : Nat) : sN U nx 1 = fun j => U j ∨ j = nx := by
  funext j
  exact propext ⟨fun h => h.imp id (fun h => by omega), fun h => h.imp id (fun h => by omega)⟩
def aDd (n nw : Nat) : sN (UU n) n nw = UU (n + nw) := by
  funext j
  refine propext ⟨?_, ?_⟩
  . rintro ((h | h) | h)
    . exact .inl og
    . exact .inr h
    exact .inl og
  rintro (h | h)
  . rcases Nat.lt_or_ge j n with h1 | h1
    . exact .inl (.inl h1)
    exact .inr ⟨h1, h⟩
  exact .inl (.inr h)
section
variable {P : Program} {ro : Option Nat} {N : Nat} {o : Oper} {E : Env} {H : Heap} {U : Nat -> Prop}
def aGd {ρ : Nat -> Value} {av : Nat -> Prop} {hp : Array Obj} {c : Prop} {p : Bool} {v : Value} (h : jT x = some (c, p)) (hr : Rep ρ av hp x v) (hc : c) : v = .bool p := by
  cases x with
  | raw u =>
    cases hr
    cases v <;> simp [jT] at h
    rw [h.2]
  | when c' y =>
    cases hr with
    | when _ _ _ hh _ =>
      cases y <;> simp [jT] at h
      rename_i u
      cases u <;> simp [jT] at h
      have := hh (by rw [h.1]; exact hc)
      cases this; rw [h.2]
  | _ => simp [jT] at h
def bFf {c x y : Operand} {b p q : Bool} {c1 c2 : Prop} {x' y' : AV} (ho : o.op = .pick c x y) (hN : oD o N) (hc : opv E c = some (.raw (.bool b))) (hx : opv E x = some x') (hy : opv E y = some y')
    (h1 : jT x' = some (c1, p)) (h2 : jT y' = some (c2, q)) (k1 : b = true -> c1) (k2 : b = false -> c2) : OpT P ro N o E H U (aX E o.dst (.raw (.bool (pk b p q)))) H U := by
  refine aT (by simp [ho, Op.noDefer]) hN fun C a w hR => ?_
  obtain ⟨r1, _⟩ := hR.opv hx
  obtain ⟨r2, _⟩ := hR.opv hy
  obtain ⟨r3, _⟩ := hR.opv hc
  have hv : a.eval c = .bool b := by generalize a.eval c = v at r3; cases r3; rfl
  refine ⟨trivial, .bool (pk b p q), ?_, .raw _⟩
  cases b with
  | true =>
    have := aGd h1 r1 (k1 rfl)
    simp [execOp, ho, hv, asBool, this, pk]
  | false =>
    have := aGd h2 r2 (k2 rfl)
    simp [execOp, ho, hv, asBool, this, pk]
def aZs {r : Ev} (ho : o.op = op) (hN : oD o N) (h : wC P (opv E) (get H) nx op = some r) (hok : r.ok) (hnx : r.nw ≠ 0 -> ¬ U nx) :
    (r.nw = 0 ∨ r.nw = 1) /\ OpT P ro N o E H U (aX E o.dst r.val) (over H r.ps) (sN U nx r.nw) := by
  cases op <;> simp only [wC, reduceCtorEq] at h
  case move x => obtain ⟨p, hp, rfl⟩ := B0.1 h; exact ⟨.inl rfl, by rw [aU0]; exact aZd (.inl ho) hp hN⟩
  case assign x => obtain ⟨p, hp, rfl⟩ := B0.1 h; exact ⟨.inl rfl, by rw [aU0]; exact aZd (.inr ho) hp hN⟩
  case pick c x y =>
    split at h
    . rename_i c' x' y' hc hx hy
      unfold bBa at h; split at h
      . rename_i b c1 p c2 q hs1 hs2
        cases h
        exact ⟨.inl rfl, by rw [aU0]; exact bFf ho hN hc hx hy hs1 hs2 hok.1 hok.2⟩
      cases h
    cases h
  case load t x =>
    split at h
    . rename_i p hx
      unfold aFf at h; split at h
      . rename_i sz ag hv
        split at h
        . split at h
          . rename_i hH
            obtain ⟨r', hr, rfl⟩ := B0.1 h
            exact ⟨.inl rfl, by rw [aU0]; exact aMz ho hN (iC hv) hx hH hr⟩
          cases h
        . split at h
          . rename_i hH
            split at h
            . rename_i he
              subst he; split at h
              . rename_i hj
                split at h
                . rename_i hr
                  split at h
                  . rename_i hf
                    cases h
                    exact ⟨.inl rfl, by rw [aU0]; exact aTs ho hN (iC hv) hx hH hj hr hf⟩
                  cases h
                cases h
              cases h
            cases h
          cases h
        . split at h
          . rename_i hj
            obtain ⟨r', hr, rfl⟩ := B0.1 h
            exact ⟨.inl rfl, by rw [aU0]; exact aZb ho hN (iC hv) hx hj hr⟩
          cases h
        cases h
      cases h
    cases h
  case store t x y =>
    split at h
    . rename_i p v hx hy
      unfold zF at h; split at h
      . rename_i sz ag ys hv hys
        split at h
        . split at h
          . rename_i hH
            split at h
            . rename_i hc
              cases h
              exact ⟨.inl rfl, by rw [aU0]; exact aHw ho hN (iC hv) hx hH hy hys hc.1 hc.2⟩
            cases h
          cases h
        . split at h
          . rename_i hH
            split at h
            . rename_i hc
              obtain ⟨rfl, hc1, hc2, hc3, hc4, hc5, hc6⟩ := hc
              split at h
              . rename_i hj
                obtain ⟨el', hel, rfl⟩ := B0.1 h
                exact ⟨.inl rfl, by rw [aU0]; exact aOf ho hN (iC hv) hx hH hj hy hc1 hc2 hc3 hc4 hel hc5 hc6⟩
              cases h
            cases h
          cases h
        cases h
      cases h
    cases h
  case fieldAddr t x j =>
    split at h
    . rename_i p hx
      unfold aTg at h; split at h
      . rename_i off sz ag hf
        split at h
        . rename_i h0
          obtain ⟨r', hr, rfl⟩ := B0.1 h
          exact ⟨.inl rfl, by rw [aU0]; exact aOv ho hN hf h0 hx hr⟩
        cases h
      cases h
    cases h
  case indexAddr t x y =>
    split at h
    . rename_i p v hx hy
      unfold mL at h; split at h
      . rename_i et sz by' k n hs
        split at h
        . split at h
          . rename_i he
            subst he; cases h
            exact ⟨.inl rfl, by rw [aU0]; exact aGg ho hN hs hx hy hok.1 hok.2⟩
          cases h
        . split at h
          . rename_i hH
            split at h
            . rename_i he
              subst he; cases h
              exact ⟨.inl rfl, by rw [aU0]; exact aDt ho hN hs hx hH hy hok.1 hok.2⟩
            cases h
          cases h
        cases h
      cases h
    cases h
  case index t x y =>
    split at h
    . rename_i p v hx hy
      unfold aSk at h; split at h
      . split at h
        . rename_i hs
          cases h
          have ht := aBg hs
          exact ⟨.inl rfl, by rw [aU0]; exact aOn ho hN ht hx hy hok.1 hok.2⟩
        cases h
      cases h
    cases h
  case nilCheck x =>
    split at h
    . rename_i p hx
      split at h
      . rename_i hp
        cases h
        exact ⟨.inl rfl, by rw [aU0]; exact aRw ho hN hx (bFy hp)⟩
      cases h
    cases h
  case extract x i =>
    split at h
    . rename_i vs hx
      obtain ⟨r', hr, rfl⟩ := B0.1 h
      exact ⟨.inl rfl, by rw [aU0]; exact aXf ho hN hx hr⟩
    cases h
  case makeInterface t x =>
    split at h
    . rename_i p hx
      split at h
      . rename_i ht
        cases h
        exact ⟨.inl rfl, by rw [aU0]; exact aEl ho hN ht hx⟩
      cases h
    cases h
  case unOp op t x =>
    split at h
    . rename_i p hx
      unfold bOr at h; split at h
      . cases h; exact ⟨.inl rfl, by rw [aU0]; exact bNk ho hN hx⟩
      . cases h; exact ⟨.inl rfl, by rw [aU0]; exact bMy ho hN hx⟩
      cases h
    cases h
  case binOp op t x y t' =>
    split at h
    . split at h
      . rename_i p hx
        unfold bGq at h; split at h
        . rename_i b hp
          split at h
          . rename_i r' hr
            split at h
            . rename_i ht
              cases h
              exact ⟨.inl rfl, by rw [aU0]; exact aTf ho hN ht hx hp hr⟩
            cases h
          cases h
        cases h
      cases h
    split at h
    . rename_i p v hx hy
      unfold bGe at h; split at h
      . split at h
        . rename_i v' hv
          cases h
          exact ⟨.inl rfl, by rw [aU0]; exact bIa ho hN hx hy hok hv⟩
        split at h
        . rename_i hk
          subst hk
          obtain ⟨v', hv, rfl⟩ := B0.1 h
          exact ⟨.inl rfl, by rw [aU0]; exact bNn ho hN hx hy hv⟩
        cases h
      . split at h
        . rename_i hb
          obtain ⟨v', hv, rfl⟩ := B0.1 h
          exact ⟨.inl rfl, by rw [aU0]; exact bNg ho hN hb hx hy hv⟩
        cases h
      . split at h
        . cases h
          exact ⟨.inl rfl, by rw [aU0]; exact bDa ho hN hx hy (by simp only [sop]; rw [if_pos hok])⟩
        obtain ⟨v', hv, rfl⟩ := B0.1 h
        exact ⟨.inl rfl, by rw [aU0]; exact bDa ho hN hx hy hv⟩
      cases h
    cases h
  case alloc t =>
    split at h
    . rename_i zs hz
      cases h
      exact ⟨.inr rfl, by rw [gO]; exact bEl ho hN hz (hnx oS)⟩
    cases h
  case box t x =>
    split at h
    . rename_i p hx
      obtain ⟨ys, hy, rfl⟩ := B0.1 h
      exact ⟨.inr rfl, by rw [gO]; exact bMz ho hN hx hy (hnx oS)⟩
    cases h
  case build t dF =>
    split at h
    . rename_i ps hps
      rw [bBn] at hps; unfold aUd at h; split at h
      . rename_i tab zs ht hz
        obtain ⟨rs, hr, rfl⟩ := B0.1 h
        exact ⟨.inl rfl, by rw [aU0]; exact bFs ho hN (aLh ht) hz hps hr⟩
      cases h
    cases h
  case buildSlice t len dF =>
    split at h
    . rename_i ps hps
      unfold rH at h; split at h
      . rename_i e sz by' hs
        split at h
        . rename_i zs hz
          split at h
          . rename_i hc
            obtain ⟨h1, h2, h3, h4, h5, h6⟩ := hc
            cases h
            exact ⟨.inr rfl, by rw [gO]; exact aKw ho hN hs hz (aGr _ _ h1) (by simpa using h2) (aQj _ _ hps) h3 h4 h5 h6 (hnx oS)⟩
          cases h
        cases h
      cases h
    cases h
  case makeSlice t x y =>
    split at h
    . rename_i p v hx hy
      unfold xD at h; split at h
      . rename_i e sz by' k n k' m hs
        split at h
        . rename_i zel hz
          split at h
          . rename_i hc
            cases h
            exact ⟨.inr rfl, by rw [gO]; exact aOk ho hN hs hz hc.1 hc.2 hx hy hok.1 hok.2.1 hok.2.2.1 hok.2.2.2 (hnx oS)⟩
          cases h
        cases h
      cases h
    cases h
  case slice t x lo hi mx =>
    split at h
    . rename_i p hx
      have bound : ∀ (d : Int) (b : Option Operand) (n : Int), xV d (b.map (opv E)) = some n -> (b = none /\ n = d) ∨ ∃ y k, b = some y /\ opv E y = some (.raw (.int k n)) := fun d b n hb => by
        cases b with
        | none => simp only [Option.map_none, xV, B9] at hb; exact .inl ⟨rfl, hb.symm⟩
        | some y =>
          simp only [Option.map_some] at hb
          unfold xV at hb; split at hb
          . rename_i hq; cases hq
          . rename_i k n' hq
            cases hb
            exact .inr ⟨y, _, rfl, by simpa using hq⟩
          cases hb
      unfold aSl at h; split at h
      . rename_i s
        split at h
        . rename_i hst
          split at h
          . rename_i l hh hl hhi
            cases h
            refine ⟨.inl rfl, ?_⟩
            rw [aU0]
            exact aOe ho hN hst hx (bound _ _ _ hl) (bound _ _ _ hhi) hok.1 hok.2.1 hok.2.2
          cases h
        cases h
      unfold aJr at h; split at h
      . rename_i e sz by' sz' xs hs hno
        split at h
        . rename_i l hh hl hhi
          split at h
          . rename_i hc
            subst hc; cases h
            refine ⟨.inl rfl, ?_⟩
            rw [aU0]
            exact aTr ho hN hs hx (bound _ _ _ hl) (bound _ _ _ hhi) hok.1 hok.2.1 hok.2.2
          cases h
        cases h
      cases h
    cases h
  case call c =>
    unfold aRy at h; split at h
    . rename_i x t hc ha ht
      split at h
      . rename_i p hx
        obtain ⟨n, hn, rfl⟩ := B0.1 h
        exact ⟨.inl rfl, by rw [aU0]; exact bLm ho hc (by rw [<- ha]) (by rw [<- ht]) hN hx hn⟩
      cases h
    . rename_i x y t t' hc ha ht
      split at h
      . rename_i p q hx hy
        split at h
        . rename_i htt
          subst htt; unfold aCu at h; split at h
          . rename_i e sz by' hs
            split at h
            . rename_i zs xs k1 ys k2 hz h1 h2
              split at h
              . rename_i hcc
                cases h
                have a1 : App1 E H x e sz xs k1 := by
                  unfold bFu at h1; split at h1
                  . unfold aBu at h1; split at h1
                    . rename_i hH
                      split at h1
                      . rename_i hq; obtain ⟨rfl, rfl⟩ := hq; cases h1; exact .row _ _ hx hH
                      cases h1
                    cases h1
                  unfold bAv at h1; split at h1
                  . cases h1; exact .nil hx
                  cases h1
                have a2 : App2 E H y e sz ys k2 := by
                  unfold bEo at h2; split at h2
                  . unfold aBu at h2; split at h2
                    . rename_i hH
                      split at h2
                      . rename_i hq; obtain ⟨rfl, rfl⟩ := hq; cases h2; exact .row _ _ hy hH
                      cases h2
                    cases h2
                  unfold aSs at h2; split at h2
                  . cases h2; exact .nil hy
                  . split at h2
                    . rename_i hq; subst hq; cases h2; exact .sl _ hy
                    cases h2
                  cases h2
                exact ⟨.inr rfl, by rw [gO]; exact aZh ho hc (by rw [<- ha]) (by rw [<- ht]) hN hs hz hcc.1 hcc.2.1 a1 a2 hcc.2.2 hok.1 hok.2.1 hok.2.2 (hnx oS)⟩
              cases h
            cases h
          cases h
        cases h
      cases h
    . rename_i b x y _ hc ha _
      split at h
      . rename_i p q hx hy
        obtain ⟨v', hv, rfl⟩ := B0.1 h
        exact ⟨.inl rfl, by rw [aU0]; exact bHf ho hc (by rw [<- ha]) hN hx hy hv⟩
      cases h
    cases h
  case makeMap t r =>
    split at h
    . rename_i kt et hm
      cases h
      exact ⟨.inr rfl, by rw [gO]; exact aVo ho hN hm (hnx oS)⟩
    cases h
  case makeFunc f first cap =>
    split at h
    . rename_i as bs ha hb
      cases h
      exact ⟨.inl rfl, by rw [aU0]; exact aUa ho hN (aGe _ _ ha) (aGe _ _ hb)⟩
    cases h
  case convert s t x =>
    split at h
    . rename_i k n hx
      split at h
      . rename_i hs
        obtain ⟨k', hk, rfl⟩ := B0.1 h
        exact ⟨.inl rfl, by rw [aU0]; exact aWr ho hN hs hk hx⟩
      cases h
    cases h
  case field t x j =>
    split at h
    . rename_i p off sz ag hx hf
      split at h
      . rename_i hp
        obtain ⟨r', hr, rfl⟩ := B0.1 h
        exact ⟨.inl rfl, by rw [aU0]; exact bFb ho hN hf hx hp hr⟩
      cases h
    cases h
def jD : Op -> List Operand
  | .move x | .assign x | .box _ x | .load _ x | .nilCheck x | .unOp _ _ x | .makeInterface _ x | .fieldAddr _ x _ | .extract x _ | .convert _ _ x | .field _ x _ => [x]
  | .makeFunc _ a b => a.toList ++ b.toList
  | .pick c a b => [c, a, b]
  | .store _ a v | .binOp _ _ a v _ | .indexAddr _ a v | .index _ a v | .makeSlice _ a v => [a, v]
  | .build _ ps => ps.toList.map (·.2)
  | .buildSlice _ _ ps => ps.toList.map (·.2)
  | .slice _ x lo hi _ => x :: (lo.toList ++ hi.toList)
  | .call c => c.args.toList
  | _ => []
def aCa {i : Nat} : ∀ {cs : List AV}, .ref i ∈ cs -> i ∈ xX cs
  | x :: r, h => by
    rcases A7.1 h with e | e
    . subst e; exact A2
    cases x <;> simp only [xX] <;> first | exact A5 _ (aCa e) | exact aCa e
def aAa {h h' : Look} (hh : ∀ i, x = .ref i -> h i = h' i) : iE h x = iE h' x := by
  cases x with
  | ref i => unfold iE; simp only [hh i rfl]
  | _ => rfl
def aAy {h h' : Look} : ∀ {cs : List AV}, (∀ i ∈ xX cs, h i = h' i) -> dU h cs = dU h' cs
  | [], _ => rfl
  | x :: r, hh => by
    rw [dU, dU, aAa fun i hi => hh i (aCa (by rw [hi]; exact A2)), aAy fun i hi => hh i (by cases x <;> simp only [xX] <;> first | exact A5 _ hi | exact hi)]
def aDh {h h' : Look} (hh : ∀ i ∈ nJ x, h i = h' i) : gB h x = gB h' x := by
  cases x with
  | agg cs => simp only [gB, aAy hh]
  | ref i => exact aAa (x := .ref i) fun j hj => hh j (by injection hj with e; subst e; exact B4.2 rfl)
  | _ => rfl
def aAv {h h' : Look} : ∀ {ps : List AV}, (∀ p ∈ ps, ∀ i ∈ nJ p, h i = h' i) -> bJ h ps = bJ h' ps
  | [], _ => rfl
  | x :: r, hh => by rw [bJ, bJ, aDh (hh x A2), aAv fun p hp => hh p (A5 _ hp)]
def aSf {h h' : Look} (hh : ∀ i ∈ nJ p, h i = h' i) : aFf P t p h = aFf P t p h' := by
  cases p <;> simp only [aFf] <;> simp only [nJ, B4, forall_eq] at hh <;> rw [hh]
def aOb {h h' : Look} (hh : ∀ i ∈ nJ p, h i = h' i) (hy : ∀ i ∈ nJ y, h i = h' i) : zF P t p y h = zF P t p y h' := by
  have hab := aDh hy
  cases p <;> simp only [zF] <;> simp only [nJ, B4, forall_eq] at hh <;> rw [hh]
  rw [hab]
def aEn {h h' : Look} (hh : ∀ i ∈ nJ p, h i = h' i) : mL P t p y h = mL P t p y h' := by
  cases p <;> simp only [mL] <;> simp only [nJ, B4, forall_eq] at hh <;> rw [hh]
def aWf {h h' : Look} (hh : ∀ i ∈ nJ p, h i = h' i) : aMn P t p h = aMn P t p h' := by
  cases p <;> first | rfl | skip
  simp only [nJ, B4, forall_eq] at hh
  simp only [aMn, hh]
def bBe {h h' : Look} (hh : ∀ i ∈ nJ p, h i = h' i) : bFu e sz h p = bFu e sz h' p := by
  cases p <;> first | rfl | skip
  simp only [nJ, B4, forall_eq] at hh
  simp only [bFu, aBu, hh]
def bAr {h h' : Look} (hh : ∀ i ∈ nJ p, h i = h' i) : bEo e sz h p = bEo e sz h' p := by
  cases p <;> first | rfl | skip
  simp only [nJ, B4, forall_eq] at hh
  simp only [bEo, aBu, hh]
def aKj {e e' : Operand -> Option AV} : ∀ {l : List (Nat × Operand)}, (∀ x ∈ l.map (·.2), e x = e' x) -> aUf e l = aUf e' l
  | [], _ => rfl
  | (i, x) :: r, h => by
    rw [aUf, aUf, h x oS, aKj fun y hy => h y (by simp only [List.map_cons]; exact A5 _ hy)]
def aLf {e e' : Operand -> Option AV} : ∀ {l : List (Nat × Operand)}, (∀ x ∈ l.map (·.2), e x = e' x) -> aEj e l = aEj e' l
  | [], _ => rfl
  | (i, x) :: r, h => by
    rw [aEj, aEj, h x oS, aLf fun y hy => h y (by simp only [List.map_cons]; exact A5 _ hy)]
def aYj {e : Operand -> Option AV} : ∀ {l : List (Nat × Operand)} {vs : List AV}, aEj e l = some vs -> ∀ v ∈ vs, ∃ x ∈ l.map (·.2), e x = some v
  | [], vs, h, v, hv => by simp only [aEj, B9] at h; subst h; cases hv
  | (i, x) :: r, vs, h, v, hv => by
    simp only [aEj] at h
    split at h
    . rename_i u us hu hus
      cases h
      rcases A7.1 hv with e' | e'
      . subst e'; exact ⟨x, by simp, hu⟩
      obtain ⟨y, hy, hyv⟩ := aYj hus v e'
      exact ⟨y, by simp only [List.map_cons]; exact A5 _ hy, hyv⟩
    cases h
def aZi {e e' : Operand -> Option AV} {h h' : Look} (he : ∀ x ∈ jD op, e x = e' x) (hh : ∀ x ∈ jD op, ∀ p, e x = some p -> ∀ i ∈ nJ p, h i = h' i) : wC P e h nx op = wC P e' h' nx op := by
  cases op
  case build t dF => simp only [wC]; rw [aKj he]
  case buildSlice t len dF =>
    simp only [wC]; rw [<- aLf he]
    cases hp : aEj e dF.toList with
    | none => rfl
    | some ps =>
      simp only [rH]; rw [aAv fun p hpm i hi => by obtain ⟨x, hx, hxp⟩ := aYj hp p hpm; exact hh x hx p hxp i hi]
  case slice t x lo hi mx =>
    simp only [wC]
    rw [he x (by simp [jD])]
    have h1 : lo.map e = lo.map e' := by
      cases lo with
      | none => rfl
      | some y => simp only [Option.map_some]; rw [he y (by simp [jD])]
    have h2 : hi.map e = hi.map e' := by
      cases hi with
      | none => rfl
      | some y => simp only [Option.map_some]; rw [he y (by simp [jD])]
    rw [h1, h2]
  case call c =>
    simp only [wC, aRy]
    simp only [jD] at he hh
    generalize c.args.toList = as at he hh
    generalize c.argTypes.toList = ts
    generalize c.callee = cl
    split
    . rename_i x t
      rw [<- he x oS]
      cases hx : e x with
      | none => rfl
      | some p => simp only [aWf (hh x oS p hx)]
    . rename_i x y t t'
      rw [<- he x oS, <- he y oS]
      cases hx : e x with
      | none => rfl
      | some p =>
        cases hy : e y with
        | none => rfl
        | some q => simp only [aCu, bBe (hh x oS p hx), bAr (hh y oS q hy)]
    . rename_i b x y _
      rw [<- he x oS, <- he y oS]
    rfl
  case makeFunc f first cap =>
    simp only [wC]
    rw [aBk fun x hx => he x (by simp only [jD]; exact A6.2 (.inl hx)), aBk fun x hx => he x (by simp only [jD]; exact A6.2 (.inr hx))]
  all_goals simp only [jD, A7, List.not_mem_nil, or_false, forall_eq_or_imp, forall_eq] at he hh
  all_goals simp only [wC]
  case move x => rw [he]
  case assign x => rw [he]
  case pick c x y => rw [he.1, he.2.1, he.2.2]
  case load t x =>
    rw [<- he]
    cases hx : e x with
    | none => rfl
    | some p => exact aSf (hh p hx)
  case store t x y =>
    rw [<- he.1, <- he.2]
    cases hx : e x with
    | none => rfl
    | some p =>
      cases hy : e y with
      | none => rfl
      | some v => exact aOb (hh.1 p hx) (hh.2 v hy)
  case fieldAddr t x j => rw [he]
  case indexAddr t x y =>
    rw [<- he.1, <- he.2]
    cases hx : e x with
    | none => rfl
    | some p =>
      cases hy : e y with
      | none => rfl
      | some v => exact aEn (hh.1 p hx)
  case index t x y => rw [he.1, he.2]
  case makeSlice t x y => rw [he.1, he.2]
  case nilCheck x => rw [he]
  case extract x i => rw [he]
  case makeInterface t x => rw [he]
  case unOp op t x => rw [he]
  case binOp op t x y t' =>
    rw [he.1]; split
    . rfl
    rw [he.2]
  case box t x => rw [he]
  case convert s t x => rw [he]
  case field t x j => rw [he]
end
end
end Go.Abs
end
