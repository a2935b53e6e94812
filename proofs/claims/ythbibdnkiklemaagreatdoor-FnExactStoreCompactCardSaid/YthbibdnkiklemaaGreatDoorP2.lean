/-
  The abstract layer, the walks and the plain laws that the claim leans on, part 2 of 7 (working texts Abs11 to Abs36). It proves lemmas alone; no condition of its own.
-/
import Derived.Test.YthbibdnkiklemaaGreatDoorP1
import Derived.MapKept
import Derived.WideKeyRuns
import Derived.RangeFuncSeq
import Derived.Laws.BytesString
set_option linter.all false
section
open Go
namespace Go.Abs
section
variable [Globals]
def zX {β : Type} (τ : Nat -> Nat) (g : AObj -> β) (m : Nat) (o : β) : ∀ (l : Heap), get (l.map fun p => (τ p.1, g p.2)) m = some o -> ∃ i o', get l i = some o' /\ τ i = m /\ g o' = o
  | [], h => by cases h
  | (k, x) :: r, h => by
    simp only [List.map_cons, Abs.get] at h
    split at h
    . rename_i e
      cases h
      exact ⟨k, x, by simp [Abs.get], e, rfl⟩
    rename_i e
    obtain ⟨i, o', h1, h2, h3⟩ := zX τ g m o r h
    refine ⟨i, o', ?_, h2, h3⟩
    unfold Abs.get
    rw [if_neg (fun e' => e (by rw [e']; exact h2))]
    exact h1
def aCj {β : Type} (τ : Nat -> Nat) (g : AObj -> β) : ∀ (l : Heap) (i : Nat) (o : AObj), (∀ i j oi oj, get l i = some oi -> get l j = some oj -> τ i = τ j -> i = j) -> get l i = some o -> get (l.map fun p => (τ p.1, g p.2)) (τ i) = some (g o) := by
  intro l i o hinj hi
  cases hm : get (l.map fun p => (τ p.1, g p.2)) (τ i) with
  | none =>
    exfalso
    clear hinj
    induction l with
    | nil => cases hi
    | cons p r ih =>
      obtain ⟨k, x⟩ := p
      simp only [List.map_cons, Abs.get] at hm
      unfold Abs.get at hi; split at hm
      . cases hm
      rename_i e
      rw [if_neg (fun e' => e (by rw [e']))] at hi
      exact ih hi hm
  | some y =>
    obtain ⟨j, o', h1, h2, h3⟩ := zX τ g _ _ l hm
    have := hinj j i o' o h1 hi h2
    subst this; rw [h1] at hi; cases hi; rw [<- h3]
def shift (σ : Nat -> Nat) (n0 nx nw : Nat) : Nat -> Nat := fun i => if n0 <= i /\ i < n0 + nw then nx + (i - n0) else σ i
structure Fit (U : Nat -> Prop) (H : Heap) (σ : Nat -> Nat) (nd : Heap) (n0 nx nw : Nat) (H1 : Heap) : Prop where
  objs : ∀ i o, get nd i = some o -> get H (σ i) = some (o.ren σ) /\ UU n0 i /\ o.bel (UU n0)
  inj : ∀ i j oi oj, get nd i = some oi -> get nd j = some oj -> σ i = σ j -> i = j
  known : ∀ i, UU n0 i -> U (σ i)
  dom : ∀ i o, get H1 i = some o -> (∃ o', get nd i = some o') ∨ (n0 <= i /\ i < n0 + nw)
  all : ∀ i o, get nd i = some o -> ∃ o', get H1 i = some o'
  fresh : ∀ j, nx <= j -> j < nx + nw -> ¬ U j
  far : n0 + nw <= 1000
section
variable {C : Conc} {H : Heap} {U : Nat -> Prop} {w : World} {σ : Nat -> Nat} {nd : Heap} {n0 nx nw : Nat} {H1 : Heap}
def callee (C : Conc) (H : Heap) (σ : Nat -> Nat) (nd : Heap) : Conc :=
  { ρ := fun i => C.ρ (σ i), one := fun i => C.one (σ i), own := fun i => C.own (σ i), B := C.B
    X := fun b => C.X b ∨ ∃ i o, get H i = some o /\ (∀ j o', get nd j = some o' -> σ j ≠ i) /\ b ∈ C.own i }
def eQ (hF : Fit U H σ nd n0 nx nw H1) (b : Nat) : (callee C H σ nd).avoid nd b ↔ C.avoid H b := by
  constructor
  . rintro ((h | ⟨i, o, hi, _, hb⟩) | ⟨i, o, hi, hb⟩)
    . exact .inl h
    . exact .inr ⟨i, o, hi, hb⟩
    exact .inr ⟨σ i, _, (hF.objs i o hi).1, hb⟩
  rintro (h | ⟨i, o, hi, hb⟩)
  . exact .inl (.inl h)
  by_cases hm : ∃ j o', get nd j = some o' /\ σ j = i
  . obtain ⟨j, o', hj, rfl⟩ := hm
    exact .inr ⟨j, o', hj, hb⟩
  exact .inl (.inr ⟨i, o, hi, fun j o' hj e => hm ⟨j, o', hj, e⟩, hb⟩)
def RelH.callee (hR : RelH C H U w) (hF : Fit U H σ nd n0 nx nw H1) : RelH (callee C H σ nd) nd (UU n0) w where
  obj := fun i o hi => ((hR.obj _ _ (hF.objs i o hi).1).mono (av' := (Abs.callee C H σ nd).avoid nd) (fun b _ hb => (eQ hF b).1 hb) (fun _ _ _ => rfl) (fun _ _ => rfl)).unren (ρ := C.ρ)
  apart := fun i j oi oj b hne hi hj hb hb' => hR.apart (σ i) (σ j) _ _ b (fun e => hne (hF.inj i j oi oj hi hj e)) (hF.objs i oi hi).1 (hF.objs j oj hj).1 hb hb'
  xapart := fun i o b hi hb hx => by
    rcases hx with hx | ⟨j, oj, hj, hn, hb'⟩
    . exact hR.xapart _ _ b (hF.objs i o hi).1 hb hx
    exact hR.apart (σ i) j _ oj b (hn i o hi) (hF.objs i o hi).1 hj hb hb'
  xlt := fun b hx => by
    rcases hx with hx | ⟨j, oj, hj, hn, hb'⟩
    . exact hR.xlt b hx
    exact (hR.obj j oj hj).own_lt b hb'
  objb := fun i o hi => (hF.objs i o hi).2
  gl := hR.glK (fun b _ hb => (eQ hF b).1 hb) (fun _ _ _ _ _ _ => rfl)
open Classical in
noncomputable def back (C C1 : Conc) (σ : Nat -> Nat) (nd : Heap) (n0 nx nw : Nat) : Conc :=
  { ρ := fun i => if nx <= i /\ i < nx + nw then C1.ρ (n0 + (i - nx)) else C.ρ i
    one := fun i => by split; exact C1.one _; exact C.one _
    own := fun i => if nx <= i /\ i < nx + nw then C1.own (n0 + (i - nx)) else if h : ∃ j o', get nd j = some o' /\ σ j = i then C1.own (Classical.choose h) else C.own i
    X := C.X, B := C.B }
open Classical in
def RelH.back (hR : RelH C H U w) (hF : Fit U H σ nd n0 nx nw H1) {C1 : Conc} {w' : World} (hR1 : RelH C1 H1 (UU (n0 + nw)) w') (hs : StepR (Abs.callee C H σ nd) nd (UU n0) w C1 H1 w') :
    let H2 := over H (H1.map fun p => (shift σ n0 nx nw p.1, p.2.ren (shift σ n0 nx nw)))
    let C2 := Abs.back C C1 σ nd n0 nx nw
    RelH C2 H2 (aDc U nx nw) w' /\ StepR C H U w C2 H2 w' /\ ∀ r v, r.bel (UU (n0 + nw)) -> Rep C1.ρ (C1.avoid H1) w'.heap r v -> Rep C2.ρ (C2.avoid H2) w'.heap (r.ren (shift σ n0 nx nw)) v /\ (r.ren (shift σ n0 nx nw)).bel (aDc U nx nw) := by
  intro H2 C2
  have hnew : ∀ i, U i -> ¬ (nx <= i /\ i < nx + nw) := fun i hu ⟨h1, h2⟩ => hF.fresh i h1 h2 hu
  have hτold : ∀ i, UU n0 i -> shift σ n0 nx nw i = σ i := fun i hu => by
    unfold shift; rw [if_neg]
    rintro ⟨h1, h2⟩
    have := hF.far
    rcases hu with hu | hu <;> omega
  have hτnew : ∀ i, n0 <= i -> i < n0 + nw -> shift σ n0 nx nw i = nx + (i - n0) := fun i h1 h2 => if_pos ⟨h1, h2⟩
  have hsplit : ∀ i, UU (n0 + nw) i -> UU n0 i ∨ (n0 <= i /\ i < n0 + nw) := fun i hu => by
    rcases hu with hu | hu
    . rcases Nat.lt_or_ge i n0 with h | h
      . exact .inl (.inl h)
      exact .inr ⟨h, hu⟩
    exact .inl (.inr hu)
  have hknown : ∀ i, UU (n0 + nw) i -> aDc U nx nw (shift σ n0 nx nw i) := fun i hu => by
    rcases hsplit i hu with h | ⟨h1, h2⟩
    . rw [hτold i h]; exact .inl (hF.known i h)
    rw [hτnew i h1 h2]; exact .inr og
  have hρ : ∀ i, UU (n0 + nw) i -> C2.ρ (shift σ n0 nx nw i) = C1.ρ i := fun i hu => by
    rcases hsplit i hu with h | ⟨h1, h2⟩
    . rw [hτold i h]
      show (if _ then _ else _) = _
      rw [if_neg (hnew _ (hF.known i h))]
      exact (hs.ρ i h).symm
    rw [hτnew i h1 h2]
    show (if _ then _ else _) = _
    rw [if_pos og]
    congr 1
    omega
  have hmem1 : ∀ i o, get H1 i = some o -> UU (n0 + nw) i := fun i o hi => (hR1.objb i o hi).1
  have hown1 : ∀ i o, get H1 i = some o -> C2.own (shift σ n0 nx nw i) = C1.own i := fun i o hi => by
    rcases hF.dom i o hi with ⟨o', ho'⟩ | ⟨h1, h2⟩
    . have hu := (hF.objs i o' ho').2.1
      rw [hτold i hu]
      show (if _ then _ else if h : _ then _ else _) = _
      have hex : ∃ j o'', get nd j = some o'' /\ σ j = σ i := ⟨i, o', ho', rfl⟩
      rw [if_neg (hnew _ (hF.known i hu)), dif_pos hex]
      obtain ⟨o2, h1, h2⟩ := Classical.choose_spec hex
      rw [hF.inj _ i _ _ h1 ho' h2]
    rw [hτnew i h1 h2]
    show (if _ then _ else _) = _
    rw [if_pos og]
    congr 1
    omega
  have hinj1 : ∀ i j oi oj, get H1 i = some oi -> get H1 j = some oj -> shift σ n0 nx nw i = shift σ n0 nx nw j -> i = j := fun i j oi oj hi hj e => by
    rcases hF.dom i oi hi with ⟨o1, ho1⟩ | ⟨h1, h2⟩
    . have hu := (hF.objs i o1 ho1).2.1
      rcases hF.dom j oj hj with ⟨o2, ho2⟩ | ⟨h3, h4⟩
      . have hu2 := (hF.objs j o2 ho2).2.1
        rw [hτold i hu, hτold j hu2] at e
        exact hF.inj i j _ _ ho1 ho2 e
      rw [hτold i hu, hτnew j h3 h4] at e
      exact absurd ⟨og, og⟩ (hnew _ (hF.known i hu))
    rcases hF.dom j oj hj with ⟨o2, ho2⟩ | ⟨h3, h4⟩
    . have hu2 := (hF.objs j o2 ho2).2.1
      rw [hτold j hu2, hτnew i h1 h2] at e
      exact absurd ⟨og, og⟩ (hnew _ (hF.known j hu2))
    rw [hτnew i h1 h2, hτnew j h3 h4] at e; omega
  have hcase : ∀ i o, get H2 i = some o -> (∃ j o', get H1 j = some o' /\ shift σ n0 nx nw j = i /\ o'.ren (shift σ n0 nx nw) = o) ∨
      (get H i = some o /\ C2.own i = C.own i /\ ∀ j o', get nd j = some o' -> σ j ≠ i) := fun i o hi => by
    rw [bC] at hi
    cases hm : get (H1.map fun p => (shift σ n0 nx nw p.1, p.2.ren (shift σ n0 nx nw))) i with
    | some y =>
      rw [hm] at hi; cases hi
      exact .inl (zX _ _ _ _ _ hm)
    | none =>
      rw [hm] at hi
      have hun : ∀ j o', get nd j = some o' -> σ j ≠ i := fun j o' hj e => by
        obtain ⟨o2, ho2⟩ := hF.all j o' hj
        have := aCj (shift σ n0 nx nw) (AObj.ren (shift σ n0 nx nw)) H1 j o2 hinj1 ho2
        rw [hτold j (hF.objs j o' hj).2.1, e, hm] at this; cases this
      refine .inr ⟨hi, ?_, hun⟩
      show (if _ then _ else if h : _ then _ else _) = _
      rw [if_neg (hnew _ (hR.objb i o hi).1), dif_neg]
      rintro ⟨j, o', hj, e⟩
      exact hun j o' hj e
  have hW1 : ∀ b, (Abs.callee C H σ nd).W nd b -> C.W H b := fun b ⟨i, o, hi, hb⟩ => ⟨σ i, _, (hF.objs i o hi).1, hb⟩
  have hav21 : ∀ b, C2.avoid H2 b -> C1.avoid H1 b := fun b hb => by
    rcases hb with hb | ⟨i, o, hi, hb⟩
    . exact .inl (by rw [hs.X]; exact .inl hb)
    rcases hcase i o hi with ⟨j, o', hj, rfl, _⟩ | ⟨hi', hown, hun⟩
    . exact .inr ⟨j, o', hj, by rw [<- hown1 j o' hj]; exact hb⟩
    rw [hown] at hb
    exact .inl (by rw [hs.X]; exact .inr ⟨i, o, hi', hun, hb⟩)
  have hav1 : ∀ b, b < w.heap.size -> C1.avoid H1 b -> C.avoid H b := fun b hb hq => by
    rw [<- eQ hF b]
    rcases hq with hq | hq
    . exact .inl (by rw [<- hs.X]; exact hq)
    rcases hs.wr b hq with h1 | h1
    . exact .inr h1
    omega
  have hstep : StepR C H U w C2 H2 w' :=
    { os := hs.os, tape := hs.tape, output := hs.output, size := hs.size
      keep := fun k hk hn => hs.keep k hk fun q => hn (hW1 k q)
      wr := fun b ⟨i, o, hi, hb⟩ => by
        rcases hcase i o hi with ⟨j, o', hj, rfl, _⟩ | ⟨hi', hown, hun⟩
        . rcases hs.wr b ⟨j, o', hj, by rw [<- hown1 j o' hj]; exact hb⟩ with h1 | h1
          . exact .inl (hW1 b h1)
          exact .inr h1
        exact .inl ⟨i, o, hi', by rw [<- hown]; exact hb⟩
      X := rfl, B := rfl
      ρ := fun i hi => if_neg (hnew i hi) }
  have hrep : ∀ r v, r.bel (UU (n0 + nw)) -> Rep C1.ρ (C1.avoid H1) w'.heap r v -> Rep C2.ρ (C2.avoid H2) w'.heap (r.ren (shift σ n0 nx nw)) v := fun r v hr hrr =>
    Rep.ren (ρ := C2.ρ) ((hrr.mono (av' := C2.avoid H2) (fun b _ => hav21 b) (fun _ _ _ => rfl)).named (ρ' := fun i => C2.ρ (shift σ n0 nx nw i)) hρ hr)
  refine ⟨{ obj := fun i o hi => ?_, apart := fun i j oi oj b hne hi hj hb hb' => ?_, xapart := fun i o b hi hb hx => ?_, xlt := fun b hx => Nat.lt_of_lt_of_le (hR.xlt b hx) hs.size, objb := fun i o hi => ?_, gl := fun g hg => let ⟨o, h1, h2, h3⟩ := hR1.gl g hg; ⟨o, h1, h2, fun q => h3 (hav21 g q)⟩ }, hstep, fun r v hr hrr => ⟨hrep r v hr hrr, AV.bel_ren.2 (AV.bel_mono hknown r hr)⟩⟩
  . rcases hcase i o hi with ⟨j, o', hj, rfl, rfl⟩ | ⟨hi', hown, hun⟩
    . rw [hown1 j o' hj, hρ j (hmem1 j o' hj)]
      exact cX.ren (ρ := C2.ρ) (((hR1.obj j o' hj).mono (av' := C2.avoid H2) (fun b _ => hav21 b) (fun _ _ _ => rfl) (fun _ _ => rfl)).named (ρ' := fun i => C2.ρ (shift σ n0 nx nw i)) hρ (hR1.objb j o' hj).2)
    have hkeep : ∀ b, b ∈ C.own i -> w'.heap[b]? = w.heap[b]? := fun b hb => hs.keep b ((hR.obj i o hi').own_lt b hb) fun ⟨j, oj, hj, hb'⟩ =>
      hR.apart i (σ j) o _ b (fun e => hun j oj hj e.symm) hi' (hF.objs j oj hj).1 hb hb'
    have hρi : C2.ρ i = C.ρ i := if_neg (hnew i (hR.objb i o hi').1)
    rw [hown, hρi]
    exact ((hR.obj i o hi').mono (av' := C2.avoid H2) (fun b hb hq => hav1 b hb (hav21 b hq)) (fun b hb hn => hs.keep b hb fun q => hn (.inr (hW1 b q))) hkeep).named (ρ' := C2.ρ) (fun j hj => if_neg (hnew j hj)) (hR.objb i o hi').2
  . rcases hcase i oi hi with ⟨i', oi', hi', rfl, _⟩ | ⟨hi', hown, hun⟩
    . rw [hown1 i' oi' hi'] at hb
      rcases hcase j oj hj with ⟨j', oj', hj', rfl, _⟩ | ⟨hj', hown2, hun2⟩
      . rw [hown1 j' oj' hj'] at hb'
        exact hR1.apart i' j' oi' oj' b (fun e => hne (by rw [e])) hi' hj' hb hb'
      rw [hown2] at hb'
      exact hR1.xapart i' oi' b hi' hb (by rw [hs.X]; exact .inr ⟨j, oj, hj', hun2, hb'⟩)
    rw [hown] at hb
    rcases hcase j oj hj with ⟨j', oj', hj', rfl, _⟩ | ⟨hj', hown2, hun2⟩
    . rw [hown1 j' oj' hj'] at hb'
      exact hR1.xapart j' oj' b hj' hb' (by rw [hs.X]; exact .inr ⟨i, oi, hi', hun, hb⟩)
    rw [hown2] at hb'
    exact hR.apart i j oi oj b hne hi' hj' hb hb'
  . rcases hcase i o hi with ⟨j, o', hj, rfl, _⟩ | ⟨hi', hown, hun⟩
    . rw [hown1 j o' hj] at hb
      exact hR1.xapart j o' b hj hb (by rw [hs.X]; exact .inl hx)
    rw [hown] at hb
    exact hR.xapart i o b hi' hb hx
  rcases hcase i o hi with ⟨j, o', hj, rfl, rfl⟩ | ⟨hi', hown, hun⟩
  . exact ⟨hknown j (hmem1 j o' hj), AObj.bel_ren.2 (AObj.bel_mono hknown o' (hR1.objb j o' hj).2)⟩
  exact ⟨.inl (hR.objb i o hi').1, AObj.bel_mono (fun _ h => .inl h) o (hR.objb i o hi').2⟩
end
end
section
variable [Globals]
variable {x val : AV} {rd rt : List Nat} {i g : Nat} {want b : Bool} {c : Prop} {a : Act} {w : World} {U : Nat -> Prop} {C : Conc}
def uG (ds : List (Option Tmp)) (tmps : Array Value) (j : Nat) : Option Bool :=
  match ((ds[j]?).join).bind (tmps[·]?) with
  | some (.bool b) => some b
  | _ => none
def wL (ops : Array Oper) (tmps : Array Value) (j : Nat) : yielded ops tmps j = uG (ops.toList.map (·.dst)) tmps j := by
  unfold yielded uG; rw [B5, F5]
  cases ops[j]? <;> rfl
def GS (P : Program) (ro : Option Nat) (ds : List (Option Tmp)) (o : Oper) (a : Act) (w : World) (next : Act -> World -> Prop) (Q : Exit -> Act -> World -> Prop) : Prop :=
  if Region.wanted o (uG ds a.tmps) then o.wpIn (FW ro) 0 P a w next Q else (∀ f, o.about P w a.eval = some f -> (FW ro).fn f) /\ next (a.put o.dst undef) w
def aS (P : Program) (ro : Option Nat) (N : Nat) (ds : List (Option Tmp)) (o : Oper) (b0 : Nat) (E0 : Env) (H0 : Heap) (rt rd : List Nat) (val : AV) (ps : Heap) (nx nw : Nat) : Prop :=
  ∀ (E : Env) (H : Heap) (U : Nat -> Prop), (∀ t ∈ rt, get E t = get E0 t) -> (∀ i ∈ rd, get H i = get H0 i) -> (∀ j, UU b0 j -> U j) -> (∀ j, nx <= j -> j < nx + nw -> ¬ U j) ->
    ∀ (C : Conc) (a : Act) (w : World) (next : Act -> World -> Prop) (Q : Exit -> Act -> World -> Prop), Rel C N E H U a w ->
      (∀ C' a' w', Rel C' N (aO E o.dst val) (over H ps) (aDc U nx nw) a' w' -> StepR C H U w C' (over H ps) w' -> next a' w') -> GS P ro ds o a w next Q
structure Rec where
  rt : List Nat
  ro : List Nat
  wt : Option Nat
  wo : List Nat
  al : Heap
  ps : Heap
def aVz (P : Program) (ro : Option Nat) (N : Nat) (ds : List (Option Tmp)) (o : Oper) (b0 : Nat) (E0 : Env) (H0 : Heap) (rt rd : List Nat) (al : Heap) (val : AV) (ps : Heap) (nx nw : Nat) : Prop :=
  ∀ (E : Env) (H : Heap) (U : Nat -> Prop), (∀ t ∈ rt, get E t = get E0 t) -> (∀ i ∈ rd, get H i = get H0 i ∨ ∃ x, get al i = some x /\ get H i = some x) -> (∀ j, UU b0 j -> U j) -> (∀ j, nx <= j -> j < nx + nw -> ¬ U j) ->
    ∀ (C : Conc) (a : Act) (w : World) (next : Act -> World -> Prop) (Q : Exit -> Act -> World -> Prop), Rel C N E H U a w ->
      (∀ C' a' w', Rel C' N (aO E o.dst val) (over H ps) (aDc U nx nw) a' w' -> StepR C H U w C' (over H ps) w' -> next a' w') -> GS P ro ds o a w next Q
def aS.toA {P : Program} {ro : Option Nat} {N : Nat} {ds : List (Option Tmp)} {o : Oper} {b0 : Nat} {E0 : Env} {H0 : Heap} {ps : Heap} {nx nw : Nat} (h : aS P ro N ds o b0 E0 H0 rt rd val ps nx nw) :
    aVz P ro N ds o b0 E0 H0 rt rd [] val ps nx nw :=
  fun E H U hE hH => h E H U hE fun i hi => (hH i hi).resolve_right (by rintro ⟨x, hx, _⟩; cases hx)
def bPq (P : Program) (ro : Option Nat) (N : Nat) (ds : List (Option Tmp)) (b0 : Nat) (o : Oper) (E : Env) (H : Heap) (nx : Nat) (K : Rec -> AK) : Prop :=
  ∃ rt rd val ps nw, (nw = 0 ∨ nx + nw <= 1000) /\ aS P ro N ds o b0 E H rt rd val ps nx nw /\ K ⟨rt, rd, o.dst, ps.map (·.1), [], ps⟩ (aO E o.dst val) (over H ps) (nx + nw)
def aY {α : Type} (k : Nat) (x : α) (r : List (Nat × α)) (n : Nat) : get ((k, x) :: r) n = if k = n then some x else get r n := rfl
def tO : List Operand -> List Nat
  | [] => []
  | .tmp t :: r => t :: tO r
  | _ :: r => tO r
def aCq {t : Nat} : ∀ {xs : List Operand}, Operand.tmp t ∈ xs -> t ∈ tO xs
  | x :: xs, h => by
    rcases B1.1 h with e | e
    . subst e; exact A5
    cases x <;> simp only [tO] <;> first | exact A4 _ (aCq e) | exact aCq e
def oCg {E E' : Env} {xs : List Operand} (h : ∀ t ∈ tO xs, get E t = get E' t) : ∀ x ∈ xs, opv E x = opv E' x := fun x hx => by
  cases x with
  | tmp t => exact h t (aCq hx)
  | _ => rfl
def aCr (E : Env) : List Operand -> List Nat
  | [] => []
  | x :: r => match opv E x with
    | some p => nG p ++ aCr E r
    | none => aCr E r
def aCz {E : Env} {x : Operand} {p : AV} {i : Nat} (hp : opv E x = some p) (hi : i ∈ nG p) : ∀ {xs : List Operand}, x ∈ xs -> i ∈ aCr E xs
  | y :: ys, h => by
    unfold aCr
    rcases B1.1 h with e | e
    . subst e; rw [hp]
      exact B4.2 (.inl hi)
    split
    . exact B4.2 (.inr (aCz hp hi e))
    exact aCz hp hi e
section
variable {P : Program} {ro : Option Nat} {N : Nat} {o : Oper} {E : Env} {H : Heap} {nx b0 : Nat} {ds : List (Option Tmp)} {K : Rec -> AK}
def rT {next : Act -> World -> Prop} {Q : Exit -> Act -> World -> Prop} (hg : o.guard = none) (h : o.wpIn (FW ro) 0 P a w next Q) : GS P ro ds o a w next Q := by
  unfold GS Region.wanted; rw [hg]; exact h
def aSw (E : Env) (op : Op) : List Nat := match op with
  | .move _ | .assign _ => []
  | op => aCr E (jA op)
section
variable {E : Env}
end
def zK {r : Ev} (hg : o.guard = none) (hN : oD o N) (h : wW P (opv E) (get H) nx o.op = some r) (hok : r.ok) :
    aS P ro N ds o b0 E H (tO (jA o.op)) (aSw E o.op) r.val r.ps nx r.nw := by
  intro E' H' U hE hH _ hnx C a w next Q hR hK
  have hops := oCg hE
  have hloc : wW P (opv E') (get H') nx o.op = some r := by
    rw [<- h]
    by_cases hm : (∃ x, o.op = .move x) ∨ ∃ x, o.op = .assign x
    . rcases hm with ⟨x, e⟩ | ⟨x, e⟩ <;> rw [e] <;> simp only [wW] <;> rw [hops x (by rw [e]; simp [jA])]
    have hr : aSw E o.op = aCr E (jA o.op) := by
      unfold aSw; split
      . exact absurd (.inl ⟨_, by assumption⟩) hm
      . exact absurd (.inr ⟨_, by assumption⟩) hm
      rfl
    rw [hr] at hH
    exact bAm hops fun x hx p hp i hi => hH i (aCz (by rw [<- hops x hx]; exact hp) hi hx)
  exact rT hg ((bAy (U := U) rfl hN hloc hok (fun hw => hnx nx (A0 _) og)).2 C a w next Q hR hK)
def aGb : AV -> AV
  | .when _ x => x
  | x => x
def aVw (G : Prop) : Option AV -> Prop
  | some (.when c _) => G -> c
  | _ => True
def unE (E : Env) : List Nat -> Env
  | [] => []
  | t :: r => match get E t with
    | some x => (t, aGb x) :: unE E r
    | none => unE E r
def aJm (G : Prop) (E : Env) : List Nat -> Prop
  | [] => True
  | t :: r => aVw G (get E t) /\ aJm G E r
def aJx {E : Env} {t : Nat} : ∀ {rt : List Nat}, t ∈ rt -> get (unE E rt) t = (get E t).map aGb
  | s :: r, h => by
    unfold unE
    by_cases e : s = t
    . subst e
      cases hs : get E s with
      | some x => simp [Abs.get]
      | none =>
        simp only [Option.map_none]
        clear h
        induction r with
        | nil => rfl
        | cons q r ih =>
          unfold unE
          cases hq : get E q with
          | some y =>
            simp only []
            rw [aY, if_neg (fun e => by rw [e, hs] at hq; cases hq)]
            exact ih
          | none => exact ih
    have h' : t ∈ r := by
      rcases B1.1 h with e' | e'
      . exact absurd e'.symm e
      exact e'
    cases hs : get E s with
    | some x => simp only []; rw [aY, if_neg e]; exact aJx h'
    | none => exact aJx h'
def aEo {E : Env} {t : Nat} {x : AV} : ∀ {rt : List Nat}, get (unE E rt) t = some x -> ∃ y, get E t = some y /\ x = aGb y /\ t ∈ rt
  | [], h => by cases h
  | s :: r, h => by
    unfold unE at h; split at h
    . rename_i z hz
      unfold Abs.get at h; split at h
      . rename_i e
        subst e; cases h
        exact ⟨z, hz, rfl, A5⟩
      obtain ⟨y, h1, h2, h3⟩ := aEo h
      exact ⟨y, h1, h2, A4 _ h3⟩
    obtain ⟨y, h1, h2, h3⟩ := aEo h
    exact ⟨y, h1, h2, A4 _ h3⟩
def aFe {G : Prop} {E : Env} {t : Nat} : ∀ {rt : List Nat}, aJm G E rt -> t ∈ rt -> aVw G (get E t)
  | s :: r, h, ht => by
    rcases B1.1 ht with e | e
    . subst e; exact h.1
    exact aFe h.2 e
def lS {α : Type} (n : Nat) (l' : List (Nat × α)) : ∀ l : List (Nat × α), get (l ++ l') n = match get l n with | some x => some x | none => get l' n
  | [] => rfl
  | (k, x) :: r => by
    show get ((k, x) :: (r ++ l')) n = _
    rw [aY, aY]
    by_cases h : k = n
    . simp [h]
    simp only [h, if_false]; exact lS n l' r
def bCl {ρ : Nat -> Value} {av : Nat -> Prop} {hp : Array Obj} {v : Value} {G : Prop} (hr : Rep ρ av hp x v) (hw : aVw G (some x)) (hG : G) : Rep ρ av hp (aGb x) v := by
  cases x with
  | when c y =>
    cases hr with
    | when _ _ _ h _ => exact h (hw hG)
  | _ => exact hr
def bBg (h : x.bel U) : (aGb x).bel U := by cases x <;> exact h
def aVc (hR : Rel C N E H U a w) (hg : o.guard = some (i, want)) (hi : (ds[i]?).join = some g) (hE : get E g = some x) (hs : iY x = some (c, b)) :
    Region.wanted o (uG ds a.tmps) = true ↔ c /\ b = want := by
  obtain ⟨hlt, _, hr⟩ := hR.env g x hE
  have hsz : g < a.tmps.size := by rw [hR.size]; exact hlt
  have hgd : a.tmps[g]? = some (a.tmps.getD g undef) := by simp [B2, hsz]
  unfold Region.wanted; rw [hg]
  show (uG ds a.tmps i == some want) = true ↔ _
  unfold uG; rw [hi]; simp only [Option.bind_some, hgd]
  generalize a.tmps.getD g undef = v at hr
  by_cases hc : c
  . have hv := aHa hs hr hc
    subst hv
    simp [hc]
  have hu : v = .tuple #[] := by
    cases x with
    | raw u => cases u <;> simp [iY] at hs; exact absurd hs.1 hc
    | when c' y =>
      cases hr with
      | when _ _ _ h9 h' =>
        clear h9
        cases y with
        | raw u =>
          cases u <;> simp only [iY, B8, Prod.mk.injEq, reduceCtorEq] at hs
          exact h' (by rw [hs.1]; exact hc)
        | _ => simp [iY] at hs
    | _ => simp [iY] at hs
  subst hu
  simp [hc]
def Rel.more (hR : Rel C N E H U a w) {E1 : Env} (h : ∀ t x, get E1 t = some x -> t < N /\ x.bel U /\ Rep C.ρ (C.avoid H) w.heap x (a.tmps.getD t undef)) : Rel C N (E1 ++ E) H U a w :=
  { toRelH := hR.toRelH, size := hR.size, hB := hR.hB, nodup := hR.nodup, marks := hR.marks
    env := fun t x ht => by
      rw [lS] at ht; split at ht
      . rename_i y hy
        cases ht
        exact h t x hy
      exact hR.env t x ht }
def aEi {rt rd ru : List Nat} {Eg : Env} (hru : ∀ t ∈ ru, t ∈ rt) (hEg : ∀ t ∈ rt, get Eg t = get (unE E ru ++ E) t) (hN : oD o N) (hg : o.guard = some (i, want)) (hi : (ds[i]?).join = some g) (hE : get E g = some x) (hs : iY x = some (c, b))
    (hun : aJm (c /\ b = want) E ru) (h : c /\ b = want -> aS P ro N ds { o with guard := none } b0 Eg H rt rd val [] nx 0) (hb : val.bel (UU b0)) : aS P ro N ds o b0 E H (g :: rt) rd (.when (c /\ b = want) val) [] nx 0 := by
  intro E' H' U hE' hH' hU hnx C a w next Q hR hK
  have hEgg : get E' g = some x := (hE' g A5).trans hE
  have hw := aVc (o := o) (ds := ds) hR hg hi hEgg hs
  unfold GS
  by_cases hG : c /\ b = want
  . rw [if_pos (hw.2 hG)]
    have hR2 : Rel C N (unE E ru ++ E') H' U a w := hR.more fun t y hy => by
      obtain ⟨z, hz, hyz, ht⟩ := aEo hy
      obtain ⟨h1, h2, h3⟩ := hR.env t z ((hE' t (A4 _ (hru t ht))).trans hz)
      have hok := aFe hun ht
      rw [hz] at hok; subst hyz
      exact ⟨h1, bBg h2, bCl h3 hok hG⟩
    have hl := h hG (unE E ru ++ E') H' U (fun t ht => by
      rw [hEg t ht, lS, lS, hE' t (A4 _ ht)]) hH' hU hnx C a w next Q hR2
    have hl2 := hl fun C' a' w' hR' hs' => by
      refine hK C' a' w' { toRelH := hR'.toRelH, size := hR'.size, hB := hR'.hB, nodup := hR'.nodup, marks := hR'.marks, env := fun t y ht => ?_ } hs'
      have henv := hR'.env
      cases hd : o.dst with
      | none =>
        simp only [hd, aO] at ht henv
        by_cases hq : ∃ z, get (unE E ru) t = some z
        . obtain ⟨z, hz⟩ := hq
          obtain ⟨u, hu, hzu, htr⟩ := aEo hz
          have hE2 := (hE' t (A4 _ (hru t htr))).trans hu
          rw [hE2] at ht
          obtain rfl : u = y := Option.some.inj ht
          obtain ⟨h1, h2, h3⟩ := henv t z (by rw [lS, hz])
          have hok := aFe hun htr
          rw [hu] at hok; subst hzu
          refine ⟨h1, ?_, ?_⟩
          . cases u <;> exact h2
          cases u with
          | when c' u' => exact .when _ _ _ (fun _ => h3) (fun hn => absurd (hok hG) hn)
          | _ => exact h3
        refine henv t y ?_
        rw [lS]
        cases hz : get (unE E ru) t with
        | some z => exact absurd ⟨z, hz⟩ hq
        | none => exact ht
      | some d =>
        simp only [hd, aO, Abs.get] at ht henv
        by_cases hdt : d = t
        . rw [if_pos hdt] at ht; cases ht
          obtain ⟨h1, h2, h3⟩ := henv t val (by rw [if_pos hdt])
          exact ⟨h1, h2, .when _ _ _ (fun _ => h3) (fun hn => absurd hG hn)⟩
        rw [if_neg hdt] at ht
        by_cases hq : ∃ z, get (unE E ru) t = some z
        . obtain ⟨z, hz⟩ := hq
          obtain ⟨u, hu, hzu, htr⟩ := aEo hz
          have hE2 := (hE' t (A4 _ (hru t htr))).trans hu
          rw [hE2] at ht
          obtain rfl : u = y := Option.some.inj ht
          obtain ⟨h1, h2, h3⟩ := henv t z (by rw [if_neg hdt, lS, hz])
          have hok := aFe hun htr
          rw [hu] at hok; subst hzu
          refine ⟨h1, ?_, ?_⟩
          . cases u <;> exact h2
          cases u with
          | when c' u' => exact .when _ _ _ (fun _ => h3) (fun hn => absurd (hok hG) hn)
          | _ => exact h3
        refine henv t y ?_
        rw [if_neg hdt, lS]
        cases hz : get (unE E ru) t with
        | some z => exact absurd ⟨z, hz⟩ hq
        | none => exact ht
    unfold GS Region.wanted at hl2
    simp only [if_true] at hl2
    exact hl2
  rw [if_neg (fun q => hG (hw.1 q))]
  refine ⟨fun _ _ => trivial, hK C _ w ?_ (StepR.refl C H' U w)⟩
  rw [aU0]
  exact hR.put hN (.when _ _ _ (fun hc => absurd hc hG) (fun _ => rfl)) (AV.bel_mono hU val hb)
def bD (hN : oD o N) (hg : o.guard = some (i, want)) (hi : (ds[i]?).join = some g) (hE : get E g = some x) (hs : iY x = some (c, b))
    (hun : aJm (c /\ b = want) E rt) (h : c /\ b = want -> aS P ro N ds { o with guard := none } b0 (unE E rt) H rt rd val [] nx 0) (hb : val.bel (UU b0)) : aS P ro N ds o b0 E H (g :: rt) rd (.when (c /\ b = want) val) [] nx 0 :=
  aEi (fun _ h => h) (fun t ht => by
    rw [lS]
    cases hq : get (unE E rt) t with
    | some y => rfl
    | none =>
      rw [aJx ht] at hq
      simp only [Option.map_eq_none_iff] at hq
      exact hq.symm) hN hg hi hE hs hun h hb
def rdG : Op -> List Nat
  | .pick c _ _ => tO [c]
  | o => tO (jA o)
def aBr (E : Env) : List Nat -> Env
  | [] => []
  | t :: r => match get E t with
    | some x => (t, x) :: aBr E r
    | none => aBr E r
def bFc (E : Env) : Op -> Env
  | .pick c x y => unE E (tO [c]) ++ aBr E (tO [x, y])
  | o => unE E (tO (jA o))
def aFw {E : Env} {t : Nat} : ∀ {rt : List Nat}, (t ∈ rt -> get (aBr E rt) t = get E t) /\ (t ∉ rt -> get (aBr E rt) t = none)
  | [] => ⟨fun h => (List.not_mem_nil h).elim, fun _ => rfl⟩
  | s :: r => by
    have ih := aFw (E := E) (t := t) (rt := r)
    unfold aBr
    by_cases e : s = t
    . subst e
      refine ⟨fun _ => ?_, fun h => absurd A5 h⟩
      cases hs : get E s with
      | some x => simp [Abs.get]
      | none =>
        show get (aBr E r) s = none
        by_cases h : s ∈ r
        . rw [ih.1 h, hs]
        exact ih.2 h
    refine ⟨fun h => ?_, fun h => ?_⟩
    . have h' : t ∈ r := by
        rcases B1.1 h with e' | e'
        . exact absurd e'.symm e
        exact e'
      cases hs : get E s with
      | some x => simp only []; rw [aY, if_neg e]; exact ih.1 h'
      | none => exact ih.1 h'
    . have h' : t ∉ r := fun q => h (A4 _ q)
      cases hs : get E s with
      | some x => simp only []; rw [aY, if_neg e]; exact ih.2 h'
      | none => exact ih.2 h'
def bNl (op : Op) : ∀ t ∈ rdG op, t ∈ tO (jA op) := by
  intro t ht; cases op
  case pick c x y =>
    cases c with
    | tmp s => simp only [rdG, jA, tO, B1, List.not_mem_nil, or_false] at ht ⊢; exact .inl ht
    | _ => simp only [rdG, tO, List.not_mem_nil] at ht
  all_goals exact ht
def bIb (E : Env) (op : Op) : ∀ t ∈ tO (jA op), get (bFc E op) t = get (unE E (rdG op) ++ E) t := by
  intro t ht
  have hno : ∀ {rt : List Nat}, t ∈ rt -> get (unE E rt) t = none -> get E t = none := fun hm hq => by
    rw [aJx hm] at hq
    simpa only [Option.map_eq_none_iff] using hq
  have old : ∀ rt : List Nat, t ∈ rt -> get (unE E rt) t = get (unE E rt ++ E) t := fun rt hm => by
    rw [lS]
    cases hq : get (unE E rt) t with
    | some y => rfl
    | none => exact (hno hm hq).symm
  cases op
  case pick c x y =>
    show get (unE E (tO [c]) ++ aBr E (tO [x, y])) t = get (unE E (tO [c]) ++ E) t
    rw [lS, lS]
    cases hq : get (unE E (tO [c])) t with
    | some y => rfl
    | none =>
      show get (aBr E (tO [x, y])) t = get E t
      by_cases h2 : t ∈ tO [x, y]
      . exact aFw.1 h2
      rw [aFw.2 h2]
      have h1 : t ∈ tO [c] := by
        have ht' : t ∈ tO [c, x, y] := ht
        cases c with
        | tmp s =>
          simp only [tO] at ht' ⊢
          rcases B1.1 ht' with e | e
          . rw [e]; exact A5
          exact absurd e h2
        | _ => exact absurd ht' h2
      exact (hno h1 hq).symm
  all_goals exact old _ ht
def aDt (hN : oD o N) (hg : o.guard = some (i, want)) (hi : (ds[i]?).join = some g) (hE : get E g = some x) (hs : iY x = some (c, b))
    (hun : aJm (c /\ b = want) E (rdG o.op)) (h : c /\ b = want -> aS P ro N ds { o with guard := none } b0 (bFc E o.op) H (tO (jA o.op)) rd val [] nx 0) (hb : val.bel (UU b0)) : aS P ro N ds o b0 E H (g :: tO (jA o.op)) rd (.when (c /\ b = want) val) [] nx 0 :=
  aEi (bNl _) (bIb E _) hN hg hi hE hs hun h hb
end
end
section
variable [Globals]
variable {c : Call} {f nw m0 : Nat} {code : Code} {nd H1 ps : Heap} {args : List AV} {r0 val : AV} {rt rd : List Nat}
section
variable {C : Conc} {N : Nat} {E : Env} {H H' : Heap} {U : Nat -> Prop} {a : Act} {w : World}
def uQ (h : ∀ m, get H' m = get H m) : C.avoid H' = C.avoid H := by
  funext b
  refine propext (or_congr Iff.rfl ⟨?_, ?_⟩)
  . rintro ⟨i, o, hi, hb⟩; exact ⟨i, o, by rw [<- h]; exact hi, hb⟩
  rintro ⟨i, o, hi, hb⟩; exact ⟨i, o, by rw [h]; exact hi, hb⟩
def RelH.ext (h : ∀ m, get H' m = get H m) (hR : RelH C H U w) : RelH C H' U w where
  obj := fun i o hi => by rw [uQ h]; exact hR.obj i o (by rw [<- h]; exact hi)
  apart := fun i j oi oj b hne hi hj => hR.apart i j oi oj b hne (by rw [<- h]; exact hi) (by rw [<- h]; exact hj)
  xapart := fun i o b hi => hR.xapart i o b (by rw [<- h]; exact hi)
  xlt := hR.xlt
  gl := by rw [uQ h]; exact hR.gl
  objb := fun i o hi => hR.objb i o (by rw [<- h]; exact hi)
def Rel.ext (h : ∀ m, get H' m = get H m) (hR : Rel C N E H U a w) : Rel C N E H' U a w :=
  { toRelH := hR.toRelH.ext h, size := hR.size, hB := hR.hB, nodup := hR.nodup, marks := by rw [uQ h]; exact hR.marks, env := by rw [uQ h]; exact hR.env }
def StepR.ext {C' : Conc} {H0 : Heap} {w' : World} (h : ∀ m, get H' m = get H m) (hs : StepR C H0 U w C' H w') : StepR C H0 U w C' H' w' :=
  { hs with wr := fun b ⟨i, o, hi, hb⟩ => hs.wr b ⟨i, o, by rw [<- h]; exact hi, hb⟩ }
end
section
variable {P : Program} {ro : Option Nat} {N : Nat} {o : Oper} {E : Env} {H : Heap} {nx b0 : Nat} {ds : List (Option Tmp)} {K : Rec -> AK}
def bLd {fn : Func} {a : Act} {w : World} (ho : o.op = .call c) (hc : c.callee = .value (.func f)) (hT : FnT P f fn code) :
    (execOp a.eval o).run P w = .ok (.enter f (c.args.map a.eval)) w := by
  have hev : a.eval (.func f) = .func (.func f) #[] #[] := rfl
  simp [execOp, ho, resolve, hc, hev, Deferred.ofValue, invoke, hT.run]
def aRa {fn : Func} {a : Act} {w : World} {next : Act -> World -> Prop} {Q : Exit -> Act -> World -> Prop} {R : Value -> World -> Prop} (ho : o.op = .call c) (hc : c.callee = .value (.func f)) (hT : FnT P f fn code)
    (h : Calls P f (c.args.map a.eval) w fun e w' => ∃ v, e = .returned v /\ R v w') (hn : ∀ v w', R v w' -> next (a.put o.dst v) w') : o.wpIn (FW ro) 0 P a w next Q := by
  refine ⟨fun _ _ => trivial, ?_⟩
  rw [qK (by simp [ho, Op.noDefer]), bLd ho hc hT]
  rw [Oper.uponIn_enter]
  exact ⟨fun hh => (by cases hh), aDe (h.mono fun e w' ⟨v, he, hv⟩ => by subst he; exact hn v w' hv)⟩
structure FitC (H : Heap) (s : List (Nat × Nat)) (nd : Heap) (m0 nw : Nat) (H1 : Heap) : Prop where
  objs : iD (sg s) m0 H nd
  inj : (nd.map fun p => sg s p.1).Nodup
  cov : ∀ i, i < m0 -> (get nd i).isSome = true
  sk : ∀ p ∈ s, (get nd p.1).isSome = true
  dom : ∀ p ∈ H1, (get nd p.1).isSome = true ∨ (m0 <= p.1 /\ p.1 < m0 + nw)
  all : ∀ p ∈ nd, (get H1 p.1).isSome = true
  far : m0 + nw <= 1000
def FitC.fit {s : List (Nat × Nat)} (h : FitC H s nd m0 nw H1) {C : Conc} {U : Nat -> Prop} {w : World} {H' : Heap} (hR : RelH C H' U w) (hU : ∀ j, 1000 <= j -> U j) (hH : ∀ p ∈ nd, get H' (sg s p.1) = get H (sg s p.1))
    (hf : ∀ j, nx <= j -> j < nx + nw -> ¬ U j) : Fit U H' (sg s) nd m0 nx nw H1 where
  objs := fun i ob hi => by
    have h1 := lX h.objs i ob (aV hi)
    exact ⟨(hH _ (aV hi)).trans h1.1, h1.2⟩
  inj := vZ h.inj
  known := fun i hi => by
    have aux : ∀ i ob, get nd i = some ob -> U (sg s i) := fun i ob hi => (hR.objb _ _ ((hH _ (aV hi)).trans (lX h.objs i ob (aV hi)).1)).1
    rcases hi with hi | hi
    . obtain ⟨ob, hob⟩ := Option.isSome_iff_exists.1 (h.cov i hi)
      exact aux i ob hob
    cases hg : get s i with
    | none => simpa [sg, hg] using hU i hi
    | some j =>
      obtain ⟨ob, hob⟩ := Option.isSome_iff_exists.1 (h.sk _ (aV hg))
      exact aux i ob hob
  dom := fun i ob hi => by
    rcases h.dom _ (aV hi) with h1 | h1
    . exact .inl (Option.isSome_iff_exists.1 h1)
    exact .inr h1
  all := fun i ob hi => Option.isSome_iff_exists.1 (h.all _ (aV hi))
  fresh := hf
  far := h.far
def aLp {fn : Func} (s : List (Nat × Nat)) (hg : o.guard = none) (ho : o.op = .call c) (hc : c.callee = .value (.func f)) (hT : FnT P f fn code)
    (hN : oD o N) (hM : xK P f args nd m0 fun r H' n' => r = r0 /\ H' = H1 /\ n' = m0 + nw) (hargs : c.args.toList.map (opv E) = (aA (sg s) args).map some) (hab : aE (UU m0) args) (hF : FitC H s nd m0 nw H1) :
    aS P ro N ds o b0 E H (tO c.args.toList) (nd.map fun p => sg s p.1) (r0.ren (shift (sg s) m0 nx nw)) (H1.map fun p => (shift (sg s) m0 nx nw p.1, p.2.ren (shift (sg s) m0 nx nw))) nx nw := by
  intro E' H' U hE hH hU hnx C a w next Q hR hK
  have hops := oCg hE
  have hfit := hF.fit hR.toRelH (fun j hj => hU j (.inr hj)) (fun p hp => hH _ (B3.2 ⟨p, hp, rfl⟩)) hnx
  have hRc := hR.toRelH.callee hfit
  have hlen : c.args.toList.length = args.length := by have := congrArg List.length hargs; simpa [rnl] using this
  have hargsR : cZ (callee C H' (sg s) nd).ρ ((callee C H' (sg s) nd).avoid nd) w.heap args (c.args.map a.eval) := by
    refine ⟨by simpa using hlen, fun j x hj => ?_⟩
    have hjl : j < c.args.toList.length := by rw [hlen]; exact (A9.1 hj).1
    have h1 : (c.args.toList.map (opv E))[j]? = some (some (x.ren (sg s))) := by rw [hargs, B5, rR, hj]; rfl
    rw [B5, A1 hjl] at h1
    simp only [Option.map_some, B8] at h1
    have h2 : opv E' c.args.toList[j] = some (x.ren (sg s)) := by rw [hops _ (D7 hjl)]; exact h1
    obtain ⟨h3, _⟩ := hR.opv h2
    have hv : (c.args.map a.eval).getD j undef = a.eval c.args.toList[j] := by
      simp at hjl
      simp [B2, hjl]
    rw [hv]
    exact (h3.mono (av' := (callee C H' (sg s) nd).avoid nd) (fun b _ hb => (eQ hfit b).1 hb) (fun _ _ _ => rfl)).unren (ρ := C.ρ) x rfl
  refine rT hg (aRa (R := fun v w' => ∃ C1, RelH C1 H1 (UU (m0 + nw)) w' /\ StepR (callee C H' (sg s) nd) nd (UU m0) w C1 H1 w' /\ Rep C1.ρ (C1.avoid H1) w'.heap r0 v /\ r0.bel (UU (m0 + nw))) ho hc hT
    ((hM _ w _ hRc hargsR hab).mono fun e w' ⟨v, r, H2, n', C1, he, hn', ⟨hr, hH2, hn2⟩, h1, h2, h3, h4⟩ => ?_) fun v w' ⟨C1, h1, h2, h3, h4⟩ => ?_)
  . subst hr; subst hH2; subst hn2
    exact ⟨v, he, C1, h1, h2, h3, h4⟩
  obtain ⟨k1, k2, k3⟩ := hR.toRelH.back hfit h1 h2
  obtain ⟨k4, k5⟩ := k3 r0 v h4 h3
  have hRel := hR.change k2 (fun i hi => .inl hi) k1
  exact hK _ _ w' (hRel.put hN k4 k5) k2
def bH (σ : Nat -> Nat) (m0 nx : Nat) : shift σ m0 nx 0 = σ := by
  funext i
  unfold shift; rw [if_neg og]
def bCr {fn : Func} (s : List (Nat × Nat)) (hg : o.guard = none) (ho : o.op = .call c) (hc : c.callee = .value (.func f)) (hT : FnT P f fn code)
    (hN : oD o N) (hM : aB P f args nd m0 r0) (hargs : c.args.toList.map (opv E) = (aA (sg s) args).map some) (hab : aE (UU m0) args) (hF : FitC H s nd m0 0 nd) :
    aS P ro N ds o b0 E H (tO c.args.toList) (nd.map fun p => sg s p.1) (r0.ren (sg s)) [] nx 0 := by
  have hl := aLp (P := P) (ro := ro) (N := N) (o := o) (E := E) (H := H) (nx := nx) (b0 := b0) (ds := ds) s hg ho hc hT hN (xK.mono hM fun r H' n' h => h) hargs hab hF
  rw [bH] at hl
  intro E' H' U hE hH hU hnx C a w next Q hR hK
  have hext : ∀ m, get (over H' []) m = get (over H' (nd.map fun p => (sg s p.1, p.2.ren (sg s)))) m := fun m => by
    rw [bC, bC]
    show get H' m = _
    cases hm : get (nd.map fun p => (sg s p.1, p.2.ren (sg s))) m with
    | none => rfl
    | some ob =>
      obtain ⟨i, o', h1, h2, h3⟩ := zX (sg s) (AObj.ren (sg s)) m ob nd hm
      have h4 := (lX hF.objs i o' (aV h1)).1
      rw [<- h2, hH _ (B3.2 ⟨_, aV h1, rfl⟩), h4, h3]
  exact hl E' H' U hE hH hU hnx C a w next Q hR fun C' a' w' hR' hs' => hK C' a' w' (hR'.ext hext) (hs'.ext hext)
def bAw : sg [] = id := rfl
def tE {fn : Func} (hg : o.guard = none) (ho : o.op = .call c) (hc : c.callee = .value (.func f)) (hT : FnT P f fn code)
    (hN : oD o N) (hM : aB P f args [] 0 r0) (hargs : c.args.toList.map (opv E) = args.map some) (hab : aE (UU 0) args) : aS P ro N ds o b0 E H (tO c.args.toList) [] r0 [] nx 0 := by
  have hl := bCr (P := P) (ro := ro) (N := N) (o := o) (E := E) (H := H) (nx := nx) (b0 := b0) (ds := ds) (nd := []) (m0 := 0) [] hg ho hc hT hN hM (by rw [bAw, iT]; exact hargs) hab
    ⟨trivial, D8, (fun i hi => by omega), (fun p hp => by cases hp), (fun p hp => by cases hp), (fun p hp => by cases hp), og⟩
  rw [bAw, AV.ren_id] at hl; exact hl
def aKz (hl : aS P ro N ds o b0 E H rt rd val ps nx nw) (hn : nw = 0 ∨ nx + nw <= 1000) (hk : K ⟨rt, rd, o.dst, ps.map (·.1), [], ps⟩ (aO E o.dst val) (over H ps) (nx + nw)) : bPq P ro N ds b0 o E H nx K :=
  ⟨rt, rd, val, ps, nw, hn, hl, hk⟩
def uL (P : Program) (ro : Option Nat) (N : Nat) (ds : List (Option Tmp)) (l : List Oper) (K : AK) (E : Env) (H : Heap) (nx : Nat) : Prop :=
  ∀ (ops : Array Oper) (n0 : Nat) (Q : Exit -> Act -> World -> Prop) (C : Conc) (a : Act) (w : World), ops.toList.map (·.dst) = ds -> (∀ o ∈ l, ∀ d, o.dst = some d -> d < N) -> n0 <= nx -> Rel C N E H (UU nx) a w ->
    (∀ E' H' nx' C' a' w', n0 <= nx' -> Rel C' N E' H' (UU nx') a' w' -> StepR C H (UU n0) w C' H' w' -> K E' H' nx' -> Q .normal a' w') -> wpListIn (FW ro) 0 P ops Q l a w
def qU (P : Program) (ro : Option Nat) (N : Nat) (ds : List (Option Tmp)) : List Oper -> AK -> AK
  | [], K, E, H, nx => K E H nx
  | o :: l, K, E, H, nx =>
    match o.guard with
    | none => match wW P (opv E) (get H) nx o.op with
      | some r => r.ok /\ (r.nw = 0 ∨ nx + r.nw <= 1000) /\ qU P ro N ds l K (aO E o.dst r.val) (over H r.ps) (nx + r.nw)
      | none => uL P ro N ds (o :: l) K E H nx
    | some (i, want) => match (ds[i]?).join with
      | some g => match (get E g).bind iY with
        | some (c, b) => match wW P (opv (bFc E o.op)) (get H) nx o.op with
          | some ⟨ok, val, [], 0⟩ => ((c /\ b = want) -> ok) /\ aJm (c /\ b = want) E (rdG o.op) /\ val.bel (UU nx) /\ qU P ro N ds l K (aO E o.dst (.when (c /\ b = want) val)) H nx
          | _ => uL P ro N ds (o :: l) K E H nx
        | none => uL P ro N ds (o :: l) K E H nx
      | none => uL P ro N ds (o :: l) K E H nx
def aFx {l : List Oper} {K : AK} (h : bPq P ro N ds nx o E H nx fun _ => uL P ro N ds l K) : uL P ro N ds (o :: l) K E H nx := by
  intro ops n0 Q C a w hds hd hn hR hk; subst hds
  obtain ⟨rt, rd, val, ps, nw, hnw, hl, hK⟩ := h
  have h1 := hl E H (UU nx) (fun _ _ => rfl) (fun _ _ => rfl) (fun _ h => h) (fun j h1 h2 h3 => by rcases h3 with h3 | h3 <;> omega) C a w (wpListIn (FW ro) 0 P ops Q l) Q hR fun C' a' w' hR' hs' => by
    rw [wB] at hR'
    exact hK ops n0 Q C' a' w' rfl (fun o ho => hd o (A4 _ ho)) og hR' fun E2 H2 nx2 C2 a2 w2 hn2 hR2 hs2 hK2 =>
      hk E2 H2 nx2 C2 a2 w2 hn2 hR2 ((hs'.fewerNames (eA hn)).trans (fun _ h => h) hs2) hK2
  unfold GS at h1
  have hy : uG (ops.toList.map (·.dst)) a.tmps = yielded ops a.tmps := by funext j; rw [wL]
  rw [hy] at h1; exact h1
def aYy {l : List Oper} {K : AK} (h : (∀ o ∈ l, ∀ d, o.dst = some d -> d < N) -> uL P ro N ds l K E H nx) : uL P ro N ds l K E H nx :=
  fun ops n0 Q C a w hds hd hn hR hk => h hd ops n0 Q C a w hds hd hn hR hk
def aFi : ∀ (l : List Oper) (K : AK) (E : Env) (H : Heap) (nx : Nat), qU P ro N ds l K E H nx -> uL P ro N ds l K E H nx
  | [], K, E, H, nx, h => fun ops n0 Q C a w hds hd hn hR hk => hk E H nx C a w hn hR (StepR.refl C H _ w) h
  | o :: l, K, E, H, nx, h => aYy fun hd => by
    have hN := hd o A5
    simp only [qU] at h
    split at h
    . rename_i hg
      split at h
      . rename_i r hr
        obtain ⟨hok, hnx, hrest⟩ := h
        exact aFx (aKz (zK hg hN hr hok) hnx (aFi l K _ _ _ hrest))
      exact h
    rename_i i want hg
    split at h
    . rename_i g hgi
      split at h
      . rename_i c b hs
        obtain ⟨x, hx, hsx⟩ := H5.1 hs
        split at h
        . rename_i ok val hr
          obtain ⟨hok, hun, hb, hrest⟩ := h
          exact aFx (aKz (aDt hN hg hgi hx hsx hun (fun hG => zK (o := { o with guard := none }) rfl hN hr (hok hG)) hb) (.inl rfl) (aFi l K _ _ _ hrest))
        exact h
      exact h
    exact h
def vC {l : List Oper} {K : AK} (hl : (∀ d, o.dst = some d -> d < N) -> aS P ro N ds o nx E H rt rd val ps nx nw) (hn : nw = 0 ∨ nx + nw <= 1000) (h : qU P ro N ds l K (aO E o.dst val) (over H ps) (nx + nw)) :
    uL P ro N ds (o :: l) K E H nx :=
  aYy fun hd => aFx (aKz (hl (hd o A5)) hn (aFi l K _ _ _ h))
def aLh (N : Nat) (l : List Oper) : Bool := l.all fun o => match o.dst with | some d => decide (d < N) | none => true
def aGq {l : List Oper} (h : aLh N l = true) : ∀ o ∈ l, ∀ d, o.dst = some d -> d < N := fun o ho d hd => by
  have := C4.1 h o ho
  rw [hd] at this
  simpa using this
def wg {n0 : Nat} {Q : AQ} {id : Nat} {ops : Array Oper} (hd : aLh N ops.toList = true) (h : qU P ro N (ops.toList.map (·.dst)) ops.toList (Q .normal) E H nx) : AWP P ro N n0 (.region id ops false) Q E H nx := by
  intro C a w Qc hn hR hK
  exact wpIn_region_list (aFi ops.toList _ E H nx h ops n0 Qc C a w rfl (aGq hd) hn hR fun E' H' nx' C' a' w' hn' hR' hs' hk => hK .normal E' H' nx' C' a' w' hn' hR' hs' hk)
end
end
section
variable [Globals]
variable {E : Env} {d : Option Nat} {x : AV} {t m : Nat} {H ps : Heap}
structure St where
  rt : List Nat
  rd : List Nat
  wt : Option Nat
  al : Heap
  val : AV
  ps : Heap
  nx : Nat
  nw : Nat
def St.row (s : St) : Rec := ⟨s.rt, s.rd, s.wt, s.ps.map (·.1), s.al, s.ps⟩
def uR (P : Program) (ro : Option Nat) (N : Nat) (ds : List (Option Tmp)) (b0 : Nat) : List Oper -> Env -> Heap -> Nat -> List St -> Env -> Heap -> Nat -> Prop
  | [], E, H, nx, [], E', H', nx' => E' = E /\ H' = H /\ nx' = nx
  | o :: l, E, H, nx, s :: ss, E', H', nx' => s.nx = nx /\ s.wt = o.dst /\ (s.nw = 0 ∨ nx + s.nw <= 1000) /\ aVz P ro N ds o b0 E H s.rt s.rd s.al s.val s.ps nx s.nw /\
      uR P ro N ds b0 l (aO E o.dst s.val) (over H s.ps) (nx + s.nw) ss E' H' nx'
  | _, _, _, _, _, _, _, _ => False
def stE (D : Nat -> Bool) : Nat -> List St -> Env -> Env
  | _, [], E => E
  | k, s :: r, E => stE D (k + 1) r (if D k = true then aO E s.wt s.val else E)
def stH (D : Nat -> Bool) : Nat -> List St -> Heap -> Heap
  | _, [], H => H
  | k, s :: r, H => stH D (k + 1) r (if D k = true then over H s.ps else H)
def stU (D : Nat -> Bool) (U : Nat -> Prop) (ss : List St) : Nat -> Prop := fun m => U m ∨ ∃ k s, ss[k]? = some s /\ D k = true /\ s.nx <= m /\ m < s.nx + s.nw
def bLg {E E' : Env} (h : get E t = get E' t) : get (aO E d x) t = get (aO E' d x) t := by
  cases d with
  | none => exact h
  | some d => show get ((d, x) :: E) t = get ((d, x) :: E') t; rw [aY, aY, h]
def qT (h : d ≠ some t) : get (aO E d x) t = get E t := by
  cases d with
  | none => rfl
  | some d => show get ((d, x) :: E) t = _; rw [aY, if_neg (fun e => h (by rw [e]))]
def aXe {H H' ps : Heap} (h : get H m = get H' m) : get (over H ps) m = get (over H' ps) m := by rw [bC, bC, h]
def jO (h : m ∉ ps.map (·.1)) : get (over H ps) m = get H m := by
  rw [bC]
  cases hm : get ps m with
  | none => rfl
  | some o => exact absurd (B3.2 ⟨_, aV hm, rfl⟩) h
def uO (t : Nat) (D D' : Nat -> Bool) : ∀ (ss : List St) (k : Nat) (E E' : Env), get E t = get E' t -> (∀ j s, ss[j]? = some s -> s.wt = some t -> D (k + j) = D' (k + j)) -> get (stE D k ss E) t = get (stE D' k ss E') t
  | [], k, E, E', h, _ => h
  | s :: r, k, E, E', h, hD => by
    unfold stE
    refine uO t D D' r (k + 1) _ _ ?_ fun j s' hj hw => by have := hD (j + 1) s' (by simpa using hj) hw; rwa [show k + 1 + j = k + (j + 1) by omega]
    by_cases hw : s.wt = some t
    . have := hD 0 s rfl hw
      rw [Nat.add_zero] at this; rw [this]; split
      . exact bLg h
      exact h
    have h1 : get (if D k = true then aO E s.wt s.val else E) t = get E t := by
      split
      . exact qT hw
      rfl
    have h2 : get (if D' k = true then aO E' s.wt s.val else E') t = get E' t := by
      split
      . exact qT hw
      rfl
    rw [h1, h2, h]
def rO (m : Nat) (D D' : Nat -> Bool) : ∀ (ss : List St) (k : Nat) (H H' : Heap), get H m = get H' m -> (∀ j s, ss[j]? = some s -> m ∈ s.ps.map (·.1) -> D (k + j) = D' (k + j)) -> get (stH D k ss H) m = get (stH D' k ss H') m
  | [], k, H, H', h, _ => h
  | s :: r, k, H, H', h, hD => by
    unfold stH
    refine rO m D D' r (k + 1) _ _ ?_ fun j s' hj hw => by have := hD (j + 1) s' (by simpa using hj) hw; rwa [show k + 1 + j = k + (j + 1) by omega]
    by_cases hw : m ∈ s.ps.map (·.1)
    . have := hD 0 s rfl hw
      rw [Nat.add_zero] at this; rw [this]; split
      . exact aXe h
      exact h
    have h1 : get (if D k = true then over H s.ps else H) m = get H m := by
      split
      . exact jO hw
      rfl
    have h2 : get (if D' k = true then over H' s.ps else H') m = get H' m := by
      split
      . exact jO hw
      rfl
    rw [h1, h2, h]
def aXy (t : Nat) (D : Nat -> Bool) (i : Nat) (si : St) (hD : D i = true) (hw : si.wt = some t) : ∀ (ss : List St) (k : Nat) (E : Env), k <= i -> ss[i - k]? = some si -> (∀ j s, ss[j]? = some s -> s.wt = some t -> i < k + j -> D (k + j) = false) -> get (stE D k ss E) t = some si.val
  | [], k, E, _, h, _ => by simp at h
  | s :: r, k, E, hk, h, hl => by
    unfold stE
    by_cases e : k = i
    . subst e
      simp only [Nat.sub_self, List.getElem?_cons_zero, B8] at h
      subst h; rw [hD, if_pos rfl]
      have h1 := uO t D (fun _ => false) r (k + 1) (aO E s.wt s.val) (aO E s.wt s.val) rfl fun j s' hj hw' => by
        have := hl (j + 1) s' (by simpa using hj) hw' og
        rwa [show k + 1 + j = k + (j + 1) by omega]
      rw [h1]
      have h2 : ∀ (r : List St) (q : Nat) (E : Env), stE (fun _ => false) q r E = E := by
        intro r
        induction r with
        | nil => intro q E; rfl
        | cons a r ih => intro q E; unfold stE; simp [ih]
      rw [h2, hw]
      show get ((t, s.val) :: E) t = _
      rw [aY, if_pos rfl]
    refine aXy t D i si hD hw r (k + 1) _ og ?_ fun j s' hj hw' hlt => ?_
    . rw [show i - k = (i - (k + 1)) + 1 by omega] at h
      simpa using h
    have := hl (j + 1) s' (by simpa using hj) hw' og
    rwa [show k + 1 + j = k + (j + 1) by omega]
def aRm (m : Nat) (D p : Nat -> Bool) (Sx : Option AObj -> Prop) : ∀ (ss : List St) (k : Nat) (H H' : Heap), (∀ j sj, ss[j]? = some sj -> D (k + j) = true -> p (k + j) = false -> m ∈ sj.ps.map (·.1) -> Sx (get sj.ps m)) ->
    (get H m = get H' m ∨ Sx (get H m)) -> get (stH D k ss H) m = get (stH (fun j => D j && p j) k ss H') m ∨ Sx (get (stH D k ss H) m)
  | [], k, H, H', _, h => h
  | s :: r, k, H, H', hS, h => by
    have hover : ∀ G : Heap, m ∈ s.ps.map (·.1) -> get (over G s.ps) m = get s.ps m := fun G hm => by
      rw [bC]
      obtain ⟨o, ho⟩ : ∃ o, get s.ps m = some o := by
        clear hS
        generalize s.ps = ps at hm
        induction ps with
        | nil => simp at hm
        | cons q r ih =>
          obtain ⟨i, o⟩ := q
          unfold Abs.get; split
          . exact ⟨o, rfl⟩
          rename_i e
          simp only [List.map_cons, B1] at hm
          exact ih (hm.resolve_left (fun e' => e e'.symm))
      rw [ho]
    unfold stH
    refine aRm m D p Sx r (k + 1) _ _ (fun j sj hj hD hp hm => hS (j + 1) sj (by simpa using hj) (by rwa [show k + (j + 1) = k + 1 + j by omega]) (by rwa [show k + (j + 1) = k + 1 + j by omega]) hm) ?_
    by_cases hD : D k = true
    . rw [if_pos hD]
      by_cases hm : m ∈ s.ps.map (·.1)
      . cases hp : p k with
        | true =>
          rw [if_pos (by simp [hD])]
          exact .inl (by rw [hover H hm, hover H' hm])
        | false =>
          exact .inr (by rw [hover H hm]; exact hS 0 s rfl hD hp hm)
      cases hp : p k with
      | true => rw [if_pos (by simp [hD])]; rw [jO hm, jO hm]; exact h
      | false => rw [if_neg oS]; rw [jO hm]; exact h
    rw [if_neg hD, if_neg (by simp [hD])]
    exact h
def aOk (m : Nat) (D : Nat -> Bool) (i : Nat) (si : St) (hD : D i = true) (hw : m ∈ si.ps.map (·.1)) : ∀ (ss : List St) (k : Nat) (H : Heap), k <= i -> ss[i - k]? = some si -> (∀ j s, ss[j]? = some s -> m ∈ s.ps.map (·.1) -> i < k + j -> D (k + j) = false) -> get (stH D k ss H) m = get si.ps m
  | [], k, H, _, h, _ => by simp at h
  | s :: r, k, H, hk, h, hl => by
    unfold stH
    by_cases e : k = i
    . subst e
      simp only [Nat.sub_self, List.getElem?_cons_zero, B8] at h
      subst h; rw [hD, if_pos rfl]
      have h1 := rO m D (fun _ => false) r (k + 1) (over H s.ps) (over H s.ps) rfl fun j s' hj hw' => by
        have := hl (j + 1) s' (by simpa using hj) hw' og
        rwa [show k + 1 + j = k + (j + 1) by omega]
      rw [h1]
      have h2 : ∀ (r : List St) (q : Nat) (H : Heap), stH (fun _ => false) q r H = H := by
        intro r
        induction r with
        | nil => intro q H; rfl
        | cons a r ih => intro q H; unfold stH; simp [ih]
      rw [h2, bC]
      have hex : ∃ o, get s.ps m = some o := by
        clear h1 hl h2 hk hD
        generalize s.ps = ps at hw
        induction ps with
        | nil => simp at hw
        | cons p r ih =>
          obtain ⟨i, o⟩ := p
          rw [aY]
          by_cases e : i = m
          . exact ⟨o, if_pos e⟩
          rw [if_neg e]; refine ih ?_
          simp only [List.map_cons, B1] at hw
          exact hw.resolve_left (fun e' => e e'.symm)
      obtain ⟨o, ho⟩ := hex
      rw [ho]
    refine aOk m D i si hD hw r (k + 1) _ og ?_ fun j s' hj hw' hlt => ?_
    . rw [show i - k = (i - (k + 1)) + 1 by omega] at h
      simpa using h
    have := hl (j + 1) s' (by simpa using hj) hw' og
    rwa [show k + 1 + j = k + (j + 1) by omega]
section
variable {P : Program} {ro : Option Nat} {N : Nat} {ds : List (Option Tmp)} {b0 : Nat}
def uR.at' : ∀ (l : List Oper) (ss : List St) (E : Env) (H : Heap) (nx : Nat) (E' : Env) (H' : Heap) (nx' : Nat) (k : Nat), uR P ro N ds b0 l E H nx ss E' H' nx' -> ss.length = l.length /\ nx <= nx' /\
    (∀ (i : Nat) (o : Oper) (s : St), l[i]? = some o -> ss[i]? = some s -> s.wt = o.dst /\ nx <= s.nx /\ s.nx + s.nw <= nx' /\ (s.nw = 0 ∨ s.nx + s.nw <= 1000) /\
      aVz P ro N ds o b0 (stE (fun j => decide (j < k + i)) k ss E) (stH (fun j => decide (j < k + i)) k ss H) s.rt s.rd s.al s.val s.ps s.nx s.nw) /\
    (∀ (i j : Nat) (s s' : St), ss[i]? = some s -> ss[j]? = some s' -> i < j -> s.nx + s.nw <= s'.nx) /\
    E' = stE (fun _ => true) k ss E /\ H' = stH (fun _ => true) k ss H /\ (∀ m, nx <= m -> m < nx' -> ∃ (i : Nat) (s : St), ss[i]? = some s /\ s.nx <= m /\ m < s.nx + s.nw)
  | [], [], E, H, nx, E', H', nx', k, ⟨h1, h2, h3⟩ => ⟨rfl, og, fun i o s hi => by simp at hi, fun i j s s' hi => by simp at hi, h1, h2, fun m h4 h5 => by omega⟩
  | [], s :: ss, E, H, nx, E', H', nx', k, h => by simp [uR] at h
  | o :: l, [], E, H, nx, E', H', nx', k, h => by simp [uR] at h
  | o :: l, s :: ss, E, H, nx, E', H', nx', k, h => by
    obtain ⟨h1, h2, h3, h4, h5⟩ := h
    obtain ⟨a1, a2, a3, a4, a5, a6, a7⟩ := uR.at' l ss _ _ _ E' H' nx' (k + 1) h5
    have hfalse : ∀ (r : List St) (q : Nat) (E : Env), k <= q -> stE (fun j => decide (j < k)) q r E = E := by
      intro r
      induction r with
      | nil => intro q E _; rfl
      | cons a r ih => intro q E hq; unfold stE; rw [if_neg (by simp; omega)]; exact ih (q + 1) E og
    have hfalseH : ∀ (r : List St) (q : Nat) (H : Heap), k <= q -> stH (fun j => decide (j < k)) q r H = H := by
      intro r
      induction r with
      | nil => intro q H _; rfl
      | cons a r ih => intro q H hq; unfold stH; rw [if_neg (by simp; omega)]; exact ih (q + 1) H og
    refine ⟨by simp [a1], og, fun i o' s' hi hs => ?_, fun i j s1 s2 hi hj hij => ?_, ?_, ?_, fun m h6 h7 => ?_⟩
    . cases i with
      | zero =>
        simp only [List.getElem?_cons_zero, B8] at hi hs
        subst hi; subst hs
        refine ⟨h2, og, og, by rw [h1]; exact h3, ?_⟩
        rw [Nat.add_zero, hfalse _ _ _ (A0 _), hfalseH _ _ _ (A0 _), h1]; exact h4
      | succ i =>
        obtain ⟨b1, b2, b3, b4, b5⟩ := a3 i o' s' (by simpa using hi) (by simpa using hs)
        refine ⟨b1, og, b3, b4, ?_⟩
        rw [show k + (i + 1) = k + 1 + i by omega]; unfold stE stH; rw [if_pos (by simp; omega), if_pos (by simp; omega), h2]; exact b5
    . cases j with
      | zero => omega
      | succ j =>
        cases i with
        | zero =>
          simp only [List.getElem?_cons_zero, B8] at hi
          subst hi
          have hj' : ss[j]? = some s2 := by simpa using hj
          have hjl := (A9.1 hj').1
          obtain ⟨_, b2, _⟩ := a3 j (l[j]'og) s2 (A1 og) hj'
          omega
        | succ i => exact a4 i j s1 s2 (by simpa using hi) (by simpa using hj) og
    . unfold stE; rw [if_pos rfl, h2]; exact a5
    . unfold stH; rw [if_pos rfl]; exact a6
    rcases Nat.lt_or_ge m (nx + s.nw) with h8 | h8
    . exact ⟨0, s, rfl, og, og⟩
    obtain ⟨i, s', h9, h10⟩ := a7 m h8 h7
    exact ⟨i + 1, s', by simpa using h9, h10⟩
end
end
section
variable [Globals]
variable {E E' : Env} {H : Heap}
def aOq (r s : Rec) : Bool :=
  (match r.wt with | some t => s.rt.contains t || s.wt == some t | none => false) || (match s.wt with | some t => r.rt.contains t | none => false) ||
  r.wo.any (fun m => s.ro.contains m || s.wo.contains m) || s.wo.any (fun m => r.ro.contains m)
def aKk (acc : List (List Nat)) (es : List Edge) : List Nat := (es.filter (Region.binds .any)).flatMap fun e => e.on :: (acc[e.on]?).getD []
def aAt : List (List Edge) -> List (List Nat) -> List (List Nat)
  | [], acc => acc
  | es :: r, acc => aAt r (acc ++ [aKk acc es])
def rB (r s : Rec) : Bool :=
  (match r.wt with | some t => s.rt.contains t || s.wt == some t | none => false) || (match s.wt with | some t => r.rt.contains t | none => false) ||
  r.wo.any (fun m => s.ro.contains m || s.wo.contains m)
def aLq (x : Nat × Nat) (afts : List (List Edge)) (rs : List Rec) : Bool :=
  (List.range afts.length).all (fun j => ((afts[j]?).getD []).all fun e => !Region.binds .any e || decide (e.on < j)) &&
  (List.range rs.length).all (fun j => (List.range j).all fun i => match rs[i]?, rs[j]? with
    | some r, some s => !(if x = (i, j) then rB r s else aOq r s) || (((aAt afts [])[j]?).getD []).contains i
    | _, _ => true)
def bNa (afts : List (List Edge)) (rs : List Rec) : Bool :=
  (List.range afts.length).all (fun j => ((afts[j]?).getD []).all fun e => !Region.binds .any e || decide (e.on < j)) &&
  (List.range rs.length).all (fun j => (List.range j).all fun i => match rs[i]?, rs[j]? with
    | some r, some s => !aOq r s || (((aAt afts [])[j]?).getD []).contains i
    | _, _ => true)
def zL {D : Nat -> Bool} : ∀ (l : List (List Edge)) (acc : List (List Nat)), (∀ j es e, l[j]? = some es -> D (acc.length + j) = true -> e ∈ es -> Region.binds .any e = true -> D e.on = true) ->
    (∀ j as i, acc[j]? = some as -> D j = true -> i ∈ as -> D i = true) -> ∀ j as i, (aAt l acc)[j]? = some as -> D j = true -> i ∈ as -> D i = true
  | [], acc, _, h2 => h2
  | es :: r, acc, h1, h2 => by
    rw [aAt]
    refine zL r _ (fun j es' e hj hD he hb => h1 (j + 1) es' e (by simpa using hj) (by rw [A3] at hD; rw [show acc.length + (j + 1) = acc.length + [aKk acc es].length + j by simp; omega]; exact hD) he hb) fun j as i hj hD hi => ?_
    rcases Nat.lt_or_ge j acc.length with h | h
    . rw [G9 h] at hj
      exact h2 j as i hj hD hi
    rw [G7 h] at hj
    have hj0 : j = acc.length := by
      have := (A9.1 hj).1
      simp at this; omega
    subst hj0
    simp only [Nat.sub_self, List.getElem?_cons_zero, B8] at hj
    subst hj; unfold aKk at hi
    obtain ⟨e, he, hie⟩ := List.mem_flatMap.1 hi
    obtain ⟨he1, he2⟩ := List.mem_filter.1 he
    have hDe := h1 0 es e rfl hD he1 he2
    rcases B1.1 hie with e' | e'
    . rw [e']; exact hDe
    cases hg : acc[e.on]? with
    | none => rw [hg] at e'; cases e'
    | some as' => rw [hg] at e'; exact h2 e.on as' i hg hDe e'
def bQq {p q : Nat -> Bool} {i : Nat} (hp : p i = true) (hq : q i = false) (hi : ∀ j, q j = true -> p j = true) : ∀ l : List Nat, i ∈ l -> (l.filter q).length < (l.filter p).length := by
  have hle : ∀ l : List Nat, (l.filter q).length <= (l.filter p).length := by
    intro l
    induction l with
    | nil => simp
    | cons a l ih =>
      by_cases ha : q a = true
      . simp [ha, hi a ha]; exact ih
      by_cases hb : p a = true
      . simp [ha, hb]; omega
      simp [ha, hb]; exact ih
  intro l
  induction l with
  | nil => intro h; cases h
  | cons a l ih =>
    intro h
    by_cases e : a = i
    . subst e
      have := hle l
      simp [hp, hq]
      omega
    have h' : i ∈ l := by
      rcases B1.1 h with e' | e'
      . exact absurd e'.symm e
      exact e'
    have := ih h'
    by_cases ha : q a = true
    . simp [ha, hi a ha]; exact this
    by_cases hb : p a = true
    . simp [ha, hb]; omega
    simp [ha, hb]; exact this
section
variable {P : Program} {ro : Option Nat} {N n0 : Nat}
def bEd {C : Conc} {U : Nat -> Prop} {a : Act} {w : World} (h : Rel C N E H U a w) (he : ∀ t, get E' t = get E t) : Rel C N E' H U a w := h.fewer fun t x ht => by rw [<- he]; exact ht
def bIt {x : Nat × Nat} {ops : Array Oper} {ss : List St} {nx : Nat} {H' : Heap} {nx' : Nat} (hd : ∀ o ∈ ops.toList, ∀ d, o.dst = some d -> d < N) (hn0 : n0 <= nx)
    (hC : uR P ro N (ops.toList.map (·.dst)) nx ops.toList E H nx ss E' H' nx') (hI : aLq x (ops.toList.map (·.after.toList)) (ss.map St.row) = true)
    (hX : ∀ s s', ss[x.1]? = some s -> ss[x.2]? = some s' -> x.1 < x.2 -> ∀ m, m ∈ s'.ps.map (·.1) -> m ∈ s.rd -> get s'.ps m = get s.al m) {Q : Exit -> Act -> World -> Prop} {C0 : Conc} {w0 : World}
    (hk : ∀ C a w, Rel C N E' H' (UU nx') a w -> StepR C0 H (UU n0) w0 C H' w -> Q .normal a w) :
    ∀ (fuel : Nat) (listed : Array Bool) (C : Conc) (a : Act) (w : World), listed.size = ops.size ->
      (∀ j o e, ops[j]? = some o -> listed.getD j false = true -> e ∈ o.after -> Region.binds .any e = true -> listed.getD e.on false = true) ->
      Rel C N (stE (fun j => listed.getD j false) 0 ss E) (stH (fun j => listed.getD j false) 0 ss H) (stU (fun j => listed.getD j false) (UU nx) ss) a w ->
      StepR C0 H (UU n0) w0 C (stH (fun j => listed.getD j false) 0 ss H) w ->
      ((List.range ops.size).filter (fun j => !listed.getD j true)).length <= fuel -> wpAnyIn (FW ro) 0 P .any ops Q fuel listed a w := by
  obtain ⟨c1, c2, c3, c4, c5, c6, c7⟩ := uR.at' _ _ _ _ _ _ _ _ 0 hC
  simp only [aLq, C8] at hI
  obtain ⟨hI1, hI2⟩ := hI
  have hlen : ss.length = ops.size := by simpa using c1
  have hedge : ∀ j o e, ops[j]? = some o -> e ∈ o.after -> Region.binds .any e = true -> e.on < j := fun j o e hj he hb => by
    have hjl := (Array.getElem?_eq_some_iff.1 hj).1
    have h1 := C4.1 hI1 j (List.mem_range.2 (by simpa using hjl))
    rw [B5, F5, hj] at h1
    have h2 := C4.1 h1 e (by simpa using he)
    simpa [hb] using h2
  have hconf0 : ∀ (i j : Nat) (si sj : St), i < j -> ss[i]? = some si -> ss[j]? = some sj -> (if x = (i, j) then rB si.row sj.row else aOq si.row sj.row) = true -> i ∈ ((aAt (ops.toList.map (·.after.toList)) [])[j]?).getD [] := fun i j si sj hij hi hj hc => by
    have hjl := (A9.1 hj).1
    have h1 := C4.1 (C4.1 hI2 j (List.mem_range.2 (by simpa using hjl))) i (List.mem_range.2 hij)
    rw [B5, B5, hi, hj] at h1
    simp only [Option.map_some, hc, Bool.not_true, Bool.false_or, List.contains_iff_mem] at h1
    exact h1
  have hconf : ∀ (i j : Nat) (si sj : St), i < j -> ss[i]? = some si -> ss[j]? = some sj -> rB si.row sj.row = true -> i ∈ ((aAt (ops.toList.map (·.after.toList)) [])[j]?).getD [] := fun i j si sj hij hi hj hc => hconf0 i j si sj hij hi hj (by
    split
    . exact hc
    simp only [aOq, rB, F8] at hc ⊢
    exact .inl hc)
  have hconfR : ∀ (i j : Nat) (si sj : St), i < j -> x ≠ (i, j) -> ss[i]? = some si -> ss[j]? = some sj -> aOq si.row sj.row = true -> i ∈ ((aAt (ops.toList.map (·.after.toList)) [])[j]?).getD [] := fun i j si sj hij hx hi hj hc => hconf0 i j si sj hij hi hj (by rw [if_neg hx]; exact hc)
  have hfin : ∀ (listed : Array Bool) (C : Conc) (a : Act) (w : World), (∀ j, j < ops.size -> listed.getD j false = true) ->
      Rel C N (stE (fun j => listed.getD j false) 0 ss E) (stH (fun j => listed.getD j false) 0 ss H) (stU (fun j => listed.getD j false) (UU nx) ss) a w ->
      StepR C0 H (UU n0) w0 C (stH (fun j => listed.getD j false) 0 ss H) w -> Q .normal a w := fun listed C a w hall hR hs => by
    have hE : ∀ t, get E' t = get (stE (fun j => listed.getD j false) 0 ss E) t := fun t => by
      rw [c5]
      exact uO t _ _ ss 0 E E rfl fun j s hj _ => by
        have := (A9.1 hj).1
        rw [C5, hall j og]
    have hH : ∀ m, get H' m = get (stH (fun j => listed.getD j false) 0 ss H) m := fun m => by
      rw [c6]
      exact rO m _ _ ss 0 H H rfl fun j s hj _ => by
        have := (A9.1 hj).1
        rw [C5, hall j og]
    have hU : stU (fun j => listed.getD j false) (UU nx) ss = UU nx' := by
      funext m
      refine propext ⟨?_, fun hm => ?_⟩
      . rintro (h | ⟨k, s, hk, _, h1, h2⟩)
        . exact eA c2 m h
        have hkl := (A9.1 hk).1
        obtain ⟨_, _, h4, _⟩ := c3 k (ops.toList[k]'(by simp; omega)) s (A1 (by simp; omega)) hk
        exact .inl og
      rcases hm with hm | hm
      . rcases Nat.lt_or_ge m nx with h | h
        . exact .inl (.inl h)
        obtain ⟨i, s, hi, h1, h2⟩ := c7 m h hm
        have hil := (A9.1 hi).1
        exact .inr ⟨i, s, hi, hall i og, h1, h2⟩
      exact .inl (.inr hm)
    rw [hU] at hR
    exact hk C a w ((bEd hR hE).ext hH) (hs.ext hH)
  have hnone : ∀ (listed : Array Bool), listed.size = ops.size -> Region.ready .any ops listed = [] -> ∀ j, j < ops.size -> listed.getD j false = true := fun listed hsz hr j => by
    induction j using Nat.strongRecOn with
    | _ j ih =>
      intro hj
      cases hl : listed.getD j false with
      | true => rfl
      | false =>
        exfalso
        have hmem : j ∈ Region.ready .any ops listed := by
          unfold Region.ready
          refine List.mem_filter.2 ⟨List.mem_range.2 hj, ?_⟩
          have h1 : listed.getD j true = false := by
            rw [B2, E3 og] at hl ⊢
            exact hl
          have h2 : ops[j]? = some ops[j] := E3 hj
          simp only [h1, Bool.not_false, Bool.true_and, h2, Option.map_some, Option.getD_some, Array.all_eq_true']; intro e he
          by_cases hb : Region.binds .any e = true
          . have h3 := hedge j _ e h2 he hb
            rw [ih e.on h3 og]
            simp
          simp [hb]
        rw [hr] at hmem; cases hmem
  intro fuel
  induction fuel with
  | zero =>
    intro listed C a w hsz hcl hR hs hf
    have hall : ∀ j, j < ops.size -> listed.getD j false = true := fun j hj => by
      have h0 := H6 (Nat.le_zero.1 hf)
      have := List.filter_eq_nil_iff.1 h0 j (List.mem_range.2 hj)
      rw [B2, E3 og] at this ⊢
      simpa using this
    refine ⟨?_, hfin listed C a w hall hR hs⟩
    unfold Region.ready
    refine List.filter_eq_nil_iff.2 fun j hj => ?_
    have hjl := List.mem_range.1 hj
    have := hall j hjl
    rw [B2, E3 og] at this; rw [B2 (d := true), E3 og]
    simp only [Option.getD_some] at this ⊢
    simp [this]
  | succ fuel ih =>
    intro listed C a w hsz hcl hR hs hf
    refine ⟨fun hr => hfin listed C a w (hnone listed hsz hr) hR hs, fun i hi => ?_⟩
    obtain ⟨hi1, hi2⟩ := List.mem_filter.1 hi
    have hil := List.mem_range.1 hi1
    have hoi : ops[i]? = some ops[i] := E3 hil
    simp only [hoi, Option.map_some, Option.getD_some, C8, Bool.not_eq_true', Array.all_eq_true'] at hi2
    obtain ⟨hli, hpre⟩ := hi2
    have hDi : listed.getD i false = false := by
      rw [B2, E3 og] at hli ⊢
      exact hli
    have hsi : ss[i]? = some (ss[i]'og) := A1 og
    obtain ⟨d1, d2, d3, d4, d5⟩ := c3 i ops[i] (ss[i]'og) (by rw [F5]; exact hoi) hsi
    generalize ss[i]'og = s at hsi d1 d2 d3 d4 d5
    have hclo : ∀ j as q, (aAt (ops.toList.map (·.after.toList)) [])[j]? = some as -> listed.getD j false = true -> q ∈ as -> listed.getD q false = true :=
      zL (D := fun j => listed.getD j false) _ _ (fun j es e hj hD he hb => by
        rw [B5, F5] at hj
        obtain ⟨o, ho, rfl⟩ := A8.1 hj
        exact hcl j o e ho (by simpa using hD) (by simpa using he) hb) (fun j as i hj => by simp at hj)
    have hprei : ∀ q, q ∈ ((aAt (ops.toList.map (·.after.toList)) [])[i]?).getD [] -> listed.getD q false = true := by
      intro q hq
      have hq' : (fun j => listed.getD j false || j == i) q = true := by
        have h1 := zL (D := fun j => listed.getD j false || j == i) (ops.toList.map (·.after.toList)) [] (fun j es e hj hD he hb => by
          rw [B5, F5] at hj
          obtain ⟨o, ho, rfl⟩ := A8.1 hj
          simp only [List.length_nil, C5, F8, beq_iff_eq] at hD
          rcases hD with hD | hD
          . simp [hcl j o e ho hD (by simpa using he) hb]
          subst hD; rw [hoi] at ho; cases ho
          have := hpre e (by simpa using he)
          rw [hb] at this; simp at this
          simp [this]) (fun j as i hj => by simp at hj) i
        cases hA : (aAt (ops.toList.map (·.after.toList)) [])[i]? with
        | none => rw [hA] at hq; cases hq
        | some as => rw [hA] at hq; exact h1 as q hA oS hq
      simp only [F8, beq_iff_eq] at hq'
      rcases hq' with h | h
      . exact h
      exfalso; subst h
      have hlt : ∀ (l : List (List Edge)) (acc : List (List Nat)), (∀ j es e, l[j]? = some es -> e ∈ es -> Region.binds .any e = true -> e.on < acc.length + j) -> (∀ (j : Nat) (as : List Nat) (r : Nat), acc[j]? = some as -> r ∈ as -> r < j) ->
          ∀ (j : Nat) (as : List Nat) (r : Nat), (aAt l acc)[j]? = some as -> r ∈ as -> r < j := by
        intro l
        induction l with
        | nil => intro acc _ h; exact h
        | cons es l ih =>
          intro acc h1 h2; rw [aAt]
          refine ih _ (fun j es' e hj he hb => by have := h1 (j + 1) es' e (by simpa using hj) he hb; simp; omega) fun j as r hj hr => ?_
          rcases Nat.lt_or_ge j acc.length with h | h
          . rw [G9 h] at hj
            exact h2 j as r hj hr
          rw [G7 h] at hj
          have hj0 : j = acc.length := by
            have := (A9.1 hj).1
            simp at this; omega
          subst hj0
          simp only [Nat.sub_self, List.getElem?_cons_zero, B8] at hj
          subst hj; unfold aKk at hr
          obtain ⟨e, he, hre⟩ := List.mem_flatMap.1 hr
          obtain ⟨he1, he2⟩ := List.mem_filter.1 he
          have hlt := h1 0 es e rfl he1 he2
          rcases B1.1 hre with e' | e'
          . omega
          cases hg : acc[e.on]? with
          | none => rw [hg] at e'; cases e'
          | some as' =>
            rw [hg] at e'
            have := h2 e.on as' r hg e'
            omega
      cases hA : (aAt (ops.toList.map (·.after.toList)) [])[q]? with
      | none => rw [hA] at hq; cases hq
      | some as =>
        rw [hA] at hq
        have := hlt _ _ (fun j es e hj he hb => by
          rw [B5, F5] at hj
          obtain ⟨o, ho, rfl⟩ := A8.1 hj
          have := hedge j o e ho (by simpa using he) hb
          simp; omega) (fun j as r hj => by simp at hj) q as q hA hq
        omega
    have hbefore : ∀ (j : Nat) (sj : St), ss[j]? = some sj -> rB sj.row s.row = true -> j < i -> listed.getD j false = true := fun j sj hj hc hlt => hprei j (hconf j i sj s hlt hj hsi hc)
    have hafter : ∀ (j : Nat) (sj : St), ss[j]? = some sj -> rB s.row sj.row = true -> i < j -> listed.getD j false = false := fun j sj hj hc hlt => by
      cases hl : listed.getD j false with
      | false => rfl
      | true =>
        have h1 := hconf i j s sj hlt hsi hj hc
        cases hA : (aAt (ops.toList.map (·.after.toList)) [])[j]? with
        | none => rw [hA] at h1; cases h1
        | some as =>
          rw [hA] at h1
          have := hclo j as i hA hl h1
          rw [hDi] at this; cases this
    have hafterR : ∀ (j : Nat) (sj : St), ss[j]? = some sj -> aOq s.row sj.row = true -> i < j -> x ≠ (i, j) -> listed.getD j false = false := fun j sj hj hc hlt hx => by
      cases hl : listed.getD j false with
      | false => rfl
      | true =>
        have h1 := hconfR i j s sj hlt hx hsi hj hc
        cases hA : (aAt (ops.toList.map (·.after.toList)) [])[j]? with
        | none => rw [hA] at h1; cases h1
        | some as =>
          rw [hA] at h1
          have := hclo j as i hA hl h1
          rw [hDi] at this; cases this
    have hrt : ∀ t ∈ s.rt, get (stE (fun j => listed.getD j false) 0 ss E) t = get (stE (fun j => decide (j < 0 + i)) 0 ss E) t := fun t ht => uO t _ _ ss 0 E E rfl fun j sj hj hw => by
      simp only [C5]
      rcases Nat.lt_trichotomy j i with h | h | h
      . rw [hbefore j sj hj (by simp [rB, St.row, hw, ht]) h]; simp [h]
      . subst h; rw [hDi]; simp
      rw [hafter j sj hj (by simp [rB, St.row, hw, ht]) h]; simp; omega
    have hrd : ∀ m ∈ s.rd, get (stH (fun j => listed.getD j false) 0 ss H) m = get (stH (fun j => decide (j < 0 + i)) 0 ss H) m ∨ ∃ y, get s.al m = some y /\ get (stH (fun j => listed.getD j false) 0 ss H) m = some y := fun m hm => by
      have h1 := aRm m (fun j => listed.getD j false) (fun j => decide (j < i)) (fun q => ∃ y, get s.al m = some y /\ q = some y) ss 0 H H (fun j sj hj hD hp hw => by
        simp only [C5] at hD hp
        have hge : i <= j := by simpa using hp
        rcases Nat.lt_or_eq_of_le hge with hlt | he
        . by_cases hx : x = (i, j)
          . have h2 := hX s sj (by rw [hx]; exact hsi) (by rw [hx]; exact hj) (by rw [hx]; exact hlt) m hw hm
            obtain ⟨o, ho⟩ : ∃ o, get sj.ps m = some o := by
              generalize sj.ps = ps at hw
              induction ps with
              | nil => simp at hw
              | cons q r ih =>
                obtain ⟨i, o⟩ := q
                unfold Abs.get; split
                . exact ⟨o, rfl⟩
                rename_i e
                simp only [List.map_cons, B1] at hw
                exact ih (hw.resolve_left (fun e' => e e'.symm))
            exact ⟨o, by rw [<- h2]; exact ho, ho⟩
          have h2 := hafterR j sj hj (by
            simp only [aOq, St.row, F8, List.any_eq_true, List.contains_iff_mem]
            exact .inr ⟨m, hw, hm⟩) hlt hx
          rw [h2] at hD; cases hD
        subst he; rw [hDi] at hD
        cases hD) (.inl rfl)
      rcases h1 with h1 | ⟨y, h2, h3⟩
      . refine .inl (h1.trans (rO m _ _ ss 0 H H rfl fun j sj hj hw => ?_))
        simp only [C5]
        by_cases h : j < i
        . rw [hbefore j sj hj (by
            simp only [rB, St.row, F8, List.any_eq_true, List.contains_iff_mem]
            exact .inr ⟨m, hw, .inl hm⟩) h]
          simp [h]
        . simp [h]
      exact .inr ⟨y, h2, h3⟩
    have hfr : ∀ m, s.nx <= m -> m < s.nx + s.nw -> ¬ stU (fun j => listed.getD j false) (UU nx) ss m := fun m h1 h2 hu => by
      rcases hu with (hu | hu) | ⟨k, sk, hk', hD, h3, h4⟩
      . omega
      . rcases d4 with d4 | d4 <;> omega
      rcases Nat.lt_trichotomy k i with h | h | h
      . have := c4 k i sk s hk' hsi h; omega
      . subst h; simp only [hDi] at hD; cases hD
      have := c4 i k s sk hsi hk' h; omega
    have hset : ∀ j, (listed.setIfInBounds i true).getD j false = if j = i then true else listed.getD j false := fun j => by
      rw [B2, B2, G8]
      by_cases e : i = j
      . subst e; simp [show i < listed.size by omega]
      rw [if_neg e, if_neg (fun e' => e e'.symm)]
    have hstep := d5 (stE (fun j => listed.getD j false) 0 ss E) (stH (fun j => listed.getD j false) 0 ss H) (stU (fun j => listed.getD j false) (UU nx) ss) hrt hrd (fun j hj => .inl hj) hfr C a w
      (wpAnyIn (FW ro) 0 P .any ops Q fuel (listed.setIfInBounds i true)) Q hR fun C' a' w' hR' hs' => by
        refine ih (listed.setIfInBounds i true) C' a' w' (by simpa using hsz) (fun j o e ho hD he hb => ?_) ?_ ?_ ?_
        . rw [hset] at hD ⊢
          by_cases hji : j = i
          . subst hji; rw [hoi] at ho; cases ho
            have := hpre e (by simpa using he)
            rw [hb] at this; simp at this
            simp [this]
          rw [if_neg hji] at hD; rw [hcl j o e ho hD he hb]
          simp
        . have hE : ∀ t, get (stE (fun j => (listed.setIfInBounds i true).getD j false) 0 ss E) t = get (aO (stE (fun j => listed.getD j false) 0 ss E) ops[i].dst s.val) t := fun t => by
            rw [<- d1]
            by_cases hw : s.wt = some t
            . rw [aXy t _ i s (by simp only [hset, if_true]) hw ss 0 E (A6 _) hsi fun j sj hj hw' hlt => by
                simp only [C5] at hlt ⊢
                rw [hset, if_neg og]
                exact hafter j sj hj (by simp [rB, St.row, hw, hw']) hlt]
              rw [hw]
              show _ = get ((t, s.val) :: _) t
              rw [aY, if_pos rfl]
            . rw [qT hw]
              exact uO t _ _ ss 0 E E rfl fun j sj hj hw' => by
                rw [C5, hset, if_neg (fun e => ?_)]; subst e; rw [hsi] at hj; cases hj
                exact hw hw'
          have hH : ∀ m, get (stH (fun j => (listed.setIfInBounds i true).getD j false) 0 ss H) m = get (over (stH (fun j => listed.getD j false) 0 ss H) s.ps) m := fun m => by
            by_cases hw : m ∈ s.ps.map (·.1)
            . have h1 := aOk m (fun j => (listed.setIfInBounds i true).getD j false) i s (by simp only [hset, if_true]) hw ss 0 H (A6 _) hsi fun j sj hj hw' hlt => by
                simp only [C5] at hlt ⊢
                rw [hset, if_neg og]
                refine hafter j sj hj ?_ hlt
                simp only [rB, St.row, F8, List.any_eq_true, List.contains_iff_mem]
                exact .inr ⟨m, hw, .inr hw'⟩
              rw [h1, bC]
              cases hg : get s.ps m with
              | some o => rfl
              | none =>
                exfalso
                clear h1
                generalize s.ps = ps at hw hg
                induction ps with
                | nil => simp at hw
                | cons p r ih =>
                  obtain ⟨q, o⟩ := p
                  rw [aY] at hg; split at hg
                  . cases hg
                  rename_i e
                  simp only [List.map_cons, B1] at hw
                  exact ih (hw.resolve_left (fun e' => e e'.symm)) hg
            . rw [jO hw]
              exact rO m _ _ ss 0 H H rfl fun j sj hj hw' => by
                rw [C5, hset, if_neg (fun e => ?_)]; subst e; rw [hsi] at hj; cases hj
                exact hw hw'
          have hU : stU (fun j => (listed.setIfInBounds i true).getD j false) (UU nx) ss = aDc (stU (fun j => listed.getD j false) (UU nx) ss) s.nx s.nw := by
            funext m
            refine propext ⟨?_, ?_⟩
            . rintro (h | ⟨k, sk, hk', hD, h1, h2⟩)
              . exact .inl (.inl h)
              simp only [hset] at hD
              by_cases hki : k = i
              . subst hki
                rw [hsi] at hk'
                cases hk'
                exact .inr ⟨h1, h2⟩
              rw [if_neg hki] at hD
              exact .inl (.inr ⟨k, sk, hk', hD, h1, h2⟩)
            rintro ((h | ⟨k, sk, hk', hD, h1, h2⟩) | ⟨h1, h2⟩)
            . exact .inl h
            . exact .inr ⟨k, sk, hk', by simp only [hset]; split <;> first | rfl | exact hD, h1, h2⟩
            exact .inr ⟨i, s, hsi, by simp only [hset, if_true], h1, h2⟩
          rw [hU]
          exact (bEd hR' hE).ext hH
        . have hH : ∀ m, get (stH (fun j => (listed.setIfInBounds i true).getD j false) 0 ss H) m = get (over (stH (fun j => listed.getD j false) 0 ss H) s.ps) m := fun m => by
            by_cases hw : m ∈ s.ps.map (·.1)
            . have h1 := aOk m (fun j => (listed.setIfInBounds i true).getD j false) i s (by simp only [hset, if_true]) hw ss 0 H (A6 _) hsi fun j sj hj hw' hlt => by
                simp only [C5] at hlt ⊢
                rw [hset, if_neg og]
                refine hafter j sj hj ?_ hlt
                simp only [rB, St.row, F8, List.any_eq_true, List.contains_iff_mem]
                exact .inr ⟨m, hw, .inr hw'⟩
              rw [h1, bC]
              cases hg : get s.ps m with
              | some o => rfl
              | none =>
                exfalso
                clear h1
                generalize s.ps = ps at hw hg
                induction ps with
                | nil => simp at hw
                | cons p r ih =>
                  obtain ⟨q, o⟩ := p
                  rw [aY] at hg; split at hg
                  . cases hg
                  rename_i e
                  simp only [List.map_cons, B1] at hw
                  exact ih (hw.resolve_left (fun e' => e e'.symm)) hg
            . rw [jO hw]
              exact rO m _ _ ss 0 H H rfl fun j sj hj hw' => by
                rw [C5, hset, if_neg (fun e => ?_)]; subst e; rw [hsi] at hj; cases hj
                exact hw hw'
          exact (hs.trans (fun _ h => h) (hs'.fewerNames (fun j hj => .inl (eA hn0 j hj)))).ext hH
        . have h1 := bQq (p := fun j => !listed.getD j true) (q := fun j => !(listed.setIfInBounds i true).getD j true) (i := i) (by simpa using hli)
            (by simp [B2, G8, show i < listed.size by omega])
            (fun j hj => by
              simp only [B2, G8] at hj ⊢
              by_cases e : i = j
              . rw [if_pos e] at hj
                split at hj <;> simp at hj
              rw [if_neg e] at hj; exact hj) (List.range ops.size) (List.mem_range.2 hil)
          have h2 : ((List.range ops.size).filter (fun j => !(listed.setIfInBounds i true).getD j true)).length < ((List.range ops.size).filter (fun j => !listed.getD j true)).length := h1
          omega
    have hy : uG (ops.toList.map (·.dst)) a.tmps = yielded ops a.tmps := by funext j; rw [wL]
    unfold GS at hstep; rw [hy] at hstep; unfold wpOpIn; rw [hoi]; exact hstep
end
end
section
variable [Globals]
variable {rt rd : List Nat} {val : AV} {ps : Heap} {nw : Nat}
section
variable {P : Program} {ro : Option Nat} {N n0 : Nat} {o : Oper} {E : Env} {H : Heap} {nx b0 : Nat} {ds : List (Option Tmp)}
def VTr (P : Program) (ro : Option Nat) (N : Nat) (ds : List (Option Tmp)) (b0 : Nat) (l : List Oper) (acc : List Rec) (K : List Rec -> AK) (E : Env) (H : Heap) (nx : Nat) : Prop :=
  (∀ o ∈ l, ∀ d, o.dst = some d -> d < N) -> ∃ ss E' H' nx', uR P ro N ds b0 l E H nx ss E' H' nx' /\ K (acc.reverse ++ ss.map St.row) E' H' nx'
def lH (P : Program) (ro : Option Nat) (N : Nat) (ds : List (Option Tmp)) (b0 : Nat) : List Oper -> List Rec -> (List Rec -> AK) -> AK
  | [], acc, K, E, H, nx => K acc.reverse E H nx
  | o :: l, acc, K, E, H, nx =>
    match o.guard with
    | none => match wW P (opv E) (get H) nx o.op with
      | some r => r.ok /\ (r.nw = 0 ∨ nx + r.nw <= 1000) /\ lH P ro N ds b0 l (⟨tO (jA o.op), aSw E o.op, o.dst, r.ps.map (·.1), [], r.ps⟩ :: acc) K (aO E o.dst r.val) (over H r.ps) (nx + r.nw)
      | none => VTr P ro N ds b0 (o :: l) acc K E H nx
    | some (i, want) => match (ds[i]?).join with
      | some g => match (get E g).bind iY with
        | some (c, b) => match wW P (opv (bFc E o.op)) (get H) nx o.op with
          | some ⟨ok, val, [], 0⟩ => ((c /\ b = want) -> ok) /\ aJm (c /\ b = want) E (rdG o.op) /\ val.bel (UU b0) /\
              lH P ro N ds b0 l (⟨g :: tO (jA o.op), aSw (bFc E o.op) o.op, o.dst, [], [], []⟩ :: acc) K (aO E o.dst (.when (c /\ b = want) val)) H nx
          | _ => VTr P ro N ds b0 (o :: l) acc K E H nx
        | none => VTr P ro N ds b0 (o :: l) acc K E H nx
      | none => VTr P ro N ds b0 (o :: l) acc K E H nx
def bFd {l : List Oper} {acc : List Rec} {K : List Rec -> AK} {al : Heap} (hl : (∀ d, o.dst = some d -> d < N) -> aVz P ro N ds o b0 E H rt rd al val ps nx nw) (hn : nw = 0 ∨ nx + nw <= 1000)
    (h : VTr P ro N ds b0 l (⟨rt, rd, o.dst, ps.map (·.1), al, ps⟩ :: acc) K (aO E o.dst val) (over H ps) (nx + nw)) : VTr P ro N ds b0 (o :: l) acc K E H nx := by
  intro hd
  obtain ⟨ss, E', H', nx', h1, h2⟩ := h fun o' ho' => hd o' (A4 _ ho')
  refine ⟨⟨rt, rd, o.dst, al, val, ps, nx, nw⟩ :: ss, E', H', nx', ⟨rfl, rfl, hn, hl (hd o A5), h1⟩, ?_⟩
  simpa [St.row] using h2
def aKv {l : List Oper} {acc : List Rec} {K : List Rec -> AK} (hl : (∀ d, o.dst = some d -> d < N) -> aS P ro N ds o b0 E H rt rd val ps nx nw) (hn : nw = 0 ∨ nx + nw <= 1000)
    (h : VTr P ro N ds b0 l (⟨rt, rd, o.dst, ps.map (·.1), [], ps⟩ :: acc) K (aO E o.dst val) (over H ps) (nx + nw)) : VTr P ro N ds b0 (o :: l) acc K E H nx :=
  bFd (fun hN => (hl hN).toA) hn h
def bOd {l : List Oper} {acc : List Rec} {K : List Rec -> AK} (h : (∀ o ∈ l, ∀ d, o.dst = some d -> d < N) -> VTr P ro N ds b0 l acc K E H nx) : VTr P ro N ds b0 l acc K E H nx := fun hd => h hd hd
def aNm : ∀ (l : List Oper) (acc : List Rec) (K : List Rec -> AK) (E : Env) (H : Heap) (nx : Nat), lH P ro N ds b0 l acc K E H nx -> VTr P ro N ds b0 l acc K E H nx
  | [], acc, K, E, H, nx, h => fun _ => ⟨[], E, H, nx, ⟨rfl, rfl, rfl⟩, by rw [List.map_nil, List.append_nil]; exact h⟩
  | o :: l, acc, K, E, H, nx, h => bOd fun hd => by
    have hN := hd o A5
    simp only [lH] at h
    split at h
    . rename_i hg
      split at h
      . rename_i r hr
        obtain ⟨hok, hnx, hrest⟩ := h
        exact aKv (fun hN => zK hg hN hr hok) hnx (aNm l _ K _ _ _ hrest)
      exact h
    rename_i i want hg
    split at h
    . rename_i g hgi
      split at h
      . rename_i c b hs
        obtain ⟨x, hx, hsx⟩ := H5.1 hs
        split at h
        . rename_i ok val hr
          obtain ⟨hok, hun, hb, hrest⟩ := h
          exact aKv (fun hN => aDt hN hg hgi hx hsx hun (fun hG => zK (o := { o with guard := none }) rfl hN hr (hok hG)) hb) (.inl rfl) (aNm l _ K _ _ _ hrest)
        exact h
      exact h
    exact h
def aM {l : List Oper} {acc : List Rec} {K : List Rec -> AK} (hl : (∀ d, o.dst = some d -> d < N) -> aS P ro N ds o b0 E H rt rd val ps nx nw) (hn : nw = 0 ∨ nx + nw <= 1000)
    (h : lH P ro N ds b0 l (⟨rt, rd, o.dst, ps.map (·.1), [], ps⟩ :: acc) K (aO E o.dst val) (over H ps) (nx + nw)) : VTr P ro N ds b0 (o :: l) acc K E H nx :=
  aKv hl hn (aNm l _ K _ _ _ h)
def drawn (afts : List (List Edge)) (K : AK) : List Rec -> AK := fun rs E H nx => bNa afts rs = true /\ K E H nx
def bRc (x : Nat × Nat) (afts : List (List Edge)) (K : AK) : List Rec -> AK := fun rs E H nx => aLq x afts rs = true /\ (x.1 < x.2 -> (rs[x.1]?).map Rec.al = (rs[x.2]?).map Rec.ps) /\ K E H nx
def aRo {afts : List (List Edge)} {rs : List Rec} (h : bNa afts rs = true) : aLq (0, 0) afts rs = true := by
  simp only [bNa, aLq, C8] at h ⊢
  refine ⟨h.1, C4.2 fun j hj => C4.2 fun i hi => ?_⟩
  have := C4.1 (C4.1 h.2 j hj) i hi
  have hne : ((0, 0) : Nat × Nat) ≠ (i, j) := fun e => by
    have hij := List.mem_range.1 hi
    simp only [Prod.mk.injEq] at e
    omega
  simp only [if_neg hne]; exact this
def aSn {Q : AQ} {id : Nat} {ops : Array Oper} (x : Nat × Nat) (hm : P.follows .mixedOrders = true) (hd : aLh N ops.toList = true)
    (h : VTr P ro N (ops.toList.map (·.dst)) nx ops.toList [] (bRc x (ops.toList.map (·.after.toList)) (Q .normal)) E H nx) : AWP P ro N n0 (.region id ops true) Q E H nx := by
  intro C a w Qc hn hR hK
  obtain ⟨ss, E', H', nx', hC, hI, hX, hQ⟩ := h (aGq hd)
  have hR' : Rel C N E H (UU nx) a { w with drawn := w.drawn + 1 } := hR.heap_eq rfl
  have hnx' : nx <= nx' := (uR.at' _ _ _ _ _ _ _ _ 0 hC).2.1
  have hf : ∀ j, (Array.replicate ops.size false).getD j false = false := fun j => by
    rw [B2, Array.getElem?_replicate]
    split <;> rfl
  have hE0 : stE (fun j => (Array.replicate ops.size false).getD j false) 0 ss E = E := by
    have : ∀ (r : List St) (q : Nat) (E : Env), stE (fun j => (Array.replicate ops.size false).getD j false) q r E = E := by
      intro r
      induction r with
      | nil => intro q E; rfl
      | cons a r ih => intro q E; unfold stE; rw [hf, if_neg oS]; exact ih _ _
    exact this ss 0 E
  have hH0 : stH (fun j => (Array.replicate ops.size false).getD j false) 0 ss H = H := by
    have : ∀ (r : List St) (q : Nat) (H : Heap), stH (fun j => (Array.replicate ops.size false).getD j false) q r H = H := by
      intro r
      induction r with
      | nil => intro q H; rfl
      | cons a r ih => intro q H; unfold stH; rw [hf, if_neg oS]; exact ih _ _
    exact this ss 0 H
  have hU0 : stU (fun j => (Array.replicate ops.size false).getD j false) (UU nx) ss = UU nx := by
    funext m
    refine propext ⟨?_, .inl⟩
    rintro (h | ⟨k, s, _, hD, _⟩)
    . exact h
    simp only [hf] at hD; cases hD
  refine wpIn_region_any hm (bIt (x := x) (n0 := n0) (aGq hd) hn hC (by simpa using hI) (fun s s' h1 h2 h3 m _ _ => by
    have hX := hX h3
    simp only [List.reverse_nil, List.nil_append, B5, h1, h2, Option.map_some, B8] at hX
    have hX' : s.al = s'.ps := hX
    rw [hX']) (C0 := C) (w0 := w) (fun C' a' w' hR2 hs2 => hK .normal E' H' nx' C' a' w' og hR2 hs2 hQ) ops.size _ C a _ oS (fun j o e ho hD => ?_) ?_ ?_ ?_)
  . rw [hf] at hD; cases hD
  . rw [hE0, hH0, hU0]; exact hR'
  . rw [hH0]
    exact ⟨rfl, rfl, rfl, A0 _, fun _ _ _ => rfl, fun _ h => .inl h, rfl, rfl, fun _ _ => rfl⟩
  exact G6 (List.length_filter_le _ _) oS
def jF {Q : AQ} {id : Nat} {ops : Array Oper} (hm : P.follows .mixedOrders = true) (hd : aLh N ops.toList = true)
    (h : lH P ro N (ops.toList.map (·.dst)) nx ops.toList [] (drawn (ops.toList.map (·.after.toList)) (Q .normal)) E H nx) : AWP P ro N n0 (.region id ops true) Q E H nx :=
  aSn (0, 0) hm hd fun hd' => by
    obtain ⟨ss, E', H', nx', h1, h2, h3⟩ := aNm _ _ _ _ _ _ h hd'
    exact ⟨ss, E', H', nx', h1, aRo h2, fun hlt => absurd hlt dg, h3⟩
end
end
section
variable [Globals]
variable {f n1 : Nat} {c : Code} {args : List AV} {nd H1 : Heap} {r0 : AV} {R : Prop}
section
variable {P : Program} {N n0 : Nat}
def bDi (P : Program) (vs : List ResultVar) (n0 : Nat) (r0 : AV) (H1 : Heap) (n1 : Nat) (E : Env) (H : Heap) : Prop :=
  ∃ s : List (Nat × Nat), (tJ P E H vs).map pI = some (r0.ren (sg s)) /\ iD (sg s) n1 H H1 /\ (H1.map fun p => sg s p.1).Nodup /\ r0.bel (UU n1) /\ (∀ p ∈ s, n0 <= p.1 /\ p.1 < 1000) /\ n0 <= n1
def bRe (P : Program) (vs : List ResultVar) (n0 : Nat) (r0 : AV) (H1 : Heap) (n1 : Nat) : AQ := fun e E H nx =>
  match e with
  | .ret => bDi P vs n0 r0 H1 n1 E H
  | .normal => bDi P vs n0 r0 H1 n1 E H
  | _ => False
abbrev aH (P : Program) (f : Nat) (args : List AV) (nd : Heap) (n0 : Nat) (r0 : AV) (H1 : Heap) (n1 : Nat) : Prop := xK P f args nd n0 fun r H n => r = r0 /\ H = H1 /\ n = n1
def gw {fn : Func} {vs : List ResultVar} (hf : FnT P f fn c) (hN : fn.ntmps = N) (hv : fn.results.toList = vs) (hl : args.length <= N)
    (h : AWP P none N n0 c (bRe P vs n0 r0 H1 n1) (eE 0 args) nd n0) : aH P f args nd n0 r0 H1 n1 := by
  have h1 := aTa (R := fun r H n => ∃ s : List (Nat × Nat), r = r0.ren (sg s) /\ iD (sg s) n1 H H1 /\ (H1.map fun p => sg s p.1).Nodup /\ r0.bel (UU n1) /\ (∀ p ∈ s, n0 <= p.1 /\ p.1 < 1000) /\ n0 <= n1) hf hN hv hl
    (aOt h fun e E H nx hQ => by
      cases e with
      | ret => obtain ⟨s, q0, q3⟩ := hQ; obtain ⟨rs, q1, q2⟩ := A8.1 q0; exact ⟨rs, q1, s, q2, q3⟩
      | normal => obtain ⟨s, q0, q3⟩ := hQ; obtain ⟨rs, q1, q2⟩ := A8.1 q0; exact ⟨rs, q1, s, q2, q3⟩
      | _ => exact hQ)
  intro C w vals hR hargs hb
  refine (h1 C w vals hR hargs hb).mono fun e w' ⟨v, r, H', n', C', he, hn, ⟨s, hr, hH, hi, hbel, hs, hn1⟩, a1, a2, a3, a4⟩ => ?_
  have hσ : ∀ i, UU n0 i -> sg s i = i := fun i hu => by
    unfold sg
    cases hg : get s i with
    | none => rfl
    | some j =>
      have := hs _ (aV hg)
      rcases hu with hu | hu <;> simp at this <;> omega
  have hHH : ∀ i o, get H1 i = some o -> get H' (sg s i) = some (o.ren (sg s)) /\ UU n1 i /\ o.bel (UU n1) := fun i o hi' => lX hH i o (aV hi')
  have hav : ∀ b, (C'.ren (sg s)).avoid H1 b -> C'.avoid H' b := fun b hb => hb.imp id (fun ⟨i, o, hi, hb⟩ => ⟨sg s i, _, (hHH i o hi).1, hb⟩)
  refine ⟨v, r0, H1, n1, C'.ren (sg s), he, hn1, ⟨rfl, rfl, rfl⟩, a1.ren hHH (vZ hi), ?_, ?_, hbel⟩
  . exact { os := a2.os, tape := a2.tape, output := a2.output, size := a2.size, keep := a2.keep
            wr := fun b ⟨i, o, hi', hb'⟩ => a2.wr b ⟨sg s i, _, (hHH i o hi').1, hb'⟩
            X := a2.X, B := a2.B, ρ := fun i hi' => (congrArg C'.ρ (hσ i hi')).trans (a2.ρ i hi') }
  subst hr
  exact (a3.mono (av' := (C'.ren (sg s)).avoid H1) (fun b _ => hav b) (fun _ _ _ => rfl)).unren (ρ := C'.ρ) r0 rfl
def pw {fn : Func} {vs : List ResultVar} (hf : FnT P f fn c) (hN : fn.ntmps = N) (hv : fn.results.toList = vs) (hl : args.length <= N)
    (h : AWP P none N n0 c (bRe P vs n0 r0 nd n0) (eE 0 args) nd n0) : aB P f args nd n0 r0 := gw hf hN hv hl h
def gq {fn : Func} (N : Nat) (vs : List ResultVar) (hf : P.funcs[f]? = some fn) (hb : fn.body = some c := by rfl) (hn : (fn.name == "runtime.NumGoroutine") = false := by rfl) (hN : fn.ntmps = N := by rfl) (hv : fn.results.toList = vs := by rfl) (hl : args.length <= N := by simp)
    (h : R -> AWP P none N n0 c (bRe P vs n0 r0 H1 n1) (eE 0 args) nd n0 := by intro k; simp only [eE]; exact k) : R -> aH P f args nd n0 r0 H1 n1 := fun k => gw ⟨hf, hb, hn⟩ hN hv hl (h k)
def pq {fn : Func} (N : Nat) (vs : List ResultVar) (hf : P.funcs[f]? = some fn) (hb : fn.body = some c := by rfl) (hn : (fn.name == "runtime.NumGoroutine") = false := by rfl) (hN : fn.ntmps = N := by rfl) (hv : fn.results.toList = vs := by rfl) (hl : args.length <= N := by simp)
    (h : R -> AWP P none N n0 c (bRe P vs n0 r0 nd n0) (eE 0 args) nd n0 := by intro k; simp only [eE]; exact k) : R -> aB P f args nd n0 r0 := fun k => gw ⟨hf, hb, hn⟩ hN hv hl (h k)
end
end
section
variable [Globals]
variable {α : Type} {c : Code} {H1 : Heap} {n1 : Nat}
def bCb (n0 : Nat) (s : List (Nat × Nat)) (E : Env) (H : Heap) (E1 : Env) (H1 : Heap) (n1 : Nat) : Prop :=
  aSd (sg s) n1 E E1 /\ iD (sg s) n1 H H1 /\ (H1.map fun p => sg s p.1).Nodup /\ (∀ p ∈ s, n0 <= p.1 /\ p.1 < 1000) /\ n0 <= n1
section
variable {P : Program} {ro : Option Nat} {N n0 : Nat} {Q : AQ} {E : Env} {H : Heap} {nx : Nat}
def aZj {E1 : Env} (s : List (Nat × Nat)) (ht : bCb n0 s E H E1 H1 n1) (h : AWP P ro N n0 c Q E1 H1 n1) : AWP P ro N n0 c Q E H nx :=
  bNi s ht.2.2.2.2 ht.1 ht.2.1 ht.2.2.1 ht.2.2.2.1 h
def lQ (n0 : Nat) (Inv : α -> Prop) (μ : α -> Nat) (S : α -> Env × Heap) (n1 : Nat) (x : α) (Q : AQ) : AQ
  | .normal => fun E H nx => ∃ x', Inv x' /\ μ x' < μ x /\ ∃ s, bCb n0 s E H (S x').1 (S x').2 n1
  | e => Q e
def wl (Inv : α -> Prop) (μ : α -> Nat) (S : α -> Env × Heap) (n1 : Nat) (x0 : α) (hi : Inv x0) (s0 : List (Nat × Nat)) (h0 : bCb n0 s0 E H (S x0).1 (S x0).2 n1)
    (h : ∀ x, Inv x -> AWP P ro N n0 c (lQ n0 Inv μ S n1 x Q) (S x).1 (S x).2 n1) : AWP P ro N n0 (.loop c) Q E H nx := by
  refine bLq (fun m E H nx => ∃ x s, Inv x /\ μ x = m /\ bCb n0 s E H (S x).1 (S x).2 n1) (μ x0) ⟨x0, s0, hi, rfl, h0⟩ fun m E H nx hn ⟨x, s, hx, hm, ht⟩ => ?_
  subst hm
  refine aZj s ht (aOt (h x hx) fun e E' H' nx' hq => ?_)
  cases e with
  | normal =>
    obtain ⟨x', h1, h2, s', h3⟩ := hq
    exact ⟨μ x', h2, x', s', h1, rfl, h3⟩
  | _ => exact hq
def dZ {t : Nat} (e sz : Nat) (ht : get E t = some (.raw (.slice none 0 0))) (hn : nx < 1000) (h : AWP P ro N n0 c Q ((t, .ref nx) :: E) (put H nx (.row e sz [])) (nx + 1)) : AWP P ro N n0 c Q E H nx := by
  intro C a w Qc hn0 hR hK
  obtain ⟨h1, _, h3⟩ := hR.env t _ ht
  have hnx : ¬ UU nx nx := fun hu => by rcases hu with hu | hu <;> omega
  have hs := StepR.new (U := UU nx) (w' := w) hR.toRelH rfl rfl rfl (A0 _) (fun _ _ => rfl) hnx (v := .slice none 0 0) (own := []) rfl oS (.row e sz [])
  have hH := RelH.new (U := UU nx) (w' := w) hR.toRelH rfl rfl rfl (A0 _) (fun _ _ => rfl) hnx (v := .slice none 0 0) (own := []) rfl oS (o := .row e sz []) ⟨.own0 e sz, D8⟩ trivial
  have hR' := hR.change hs (fun _ h => .inl h) hH
  have hU : (fun j => UU nx j ∨ j = nx) = UU (nx + 1) := by rw [<- eD, wB]
  rw [hU] at hR' hH
  have hR2 : Rel (C.new nx (.slice none 0 0) [] rfl) N ((t, .ref nx) :: E) (put H nx (.row e sz [])) (UU (nx + 1)) a w :=
    { toRelH := hH, size := hR'.size, hB := hR'.hB, nodup := hR'.nodup, marks := hR'.marks
      env := fun t' x' ht' => by
        rw [aY] at ht'
        split at ht'
        . rename_i e'
          subst e'
          cases ht'
          refine ⟨h1, .inl og, ?_⟩
          generalize a.tmps.getD t undef = v at h3
          cases h3
          have : Rep (C.new nx (.slice none 0 0) [] rfl).ρ ((C.new nx (.slice none 0 0) [] rfl).avoid (put H nx (.row e sz []))) w.heap (.ref nx) ((C.new nx (.slice none 0 0) [] rfl).ρ nx) := .ref nx
          rwa [show (C.new nx (.slice none 0 0) [] rfl).ρ nx = .slice none 0 0 from aZ _ _ _] at this
        exact hR'.env t' x' ht' }
  exact h _ a w Qc og hR2 fun e' E' H' nx' C' a' w' hn' hR3 hs3 hQ => hK e' E' H' nx' C' a' w' hn' hR3 ((hs.fewerNames (eA hn0)).trans (fun _ h => h) hs3) hQ
def dA {o : Oper} {b0 : Nat} {ds : List (Option Tmp)} {c : Call} {f : Nat} {fn : Func} {code : Code} {args : List AV} {nd H1 : Heap} {m0 n1 : Nat} {r0 : AV} (s : List (Nat × Nat)) (nw : Nat) (hg : o.guard = none) (ho : o.op = .call c) (hc : c.callee = .value (.func f)) (hT : FnT P f fn code)
    (hN : oD o N) (hM : aH P f args nd m0 r0 H1 n1) (hn : n1 = m0 + nw) (hargs : c.args.toList.map (opv E) = (aA (sg s) args).map some) (hab : aE (UU m0) args) (hF : FitC H s nd m0 nw H1) :
    aS P ro N ds o b0 E H (tO c.args.toList) (nd.map fun p => sg s p.1) (r0.ren (shift (sg s) m0 nx nw)) (H1.map fun p => (shift (sg s) m0 nx nw p.1, p.2.ren (shift (sg s) m0 nx nw))) nx nw := by
  subst hn
  exact aLp s hg ho hc hT hN hM hargs hab hF
end
end
section
variable [Globals]
attribute [go_sem] List.toList_toArray List.map_cons List.map_nil wW aUp aGh zZ aVm aTg aDr bIa bIr bQl bCn aTx xW aTz aLg yM bEb aVs bNm bMj iY iop sop bOe bop bNw mG rM bHn bGf aCp bCk aUe aU gC eB iI aLr aFg AV.fitsEl AV.width AV.solid AV.elem AV.scO AV.notAgg bDj bEm aNz bBs aDf aVn eM bBk opv aY Option.map_some Option.map_none over Abs.put aO Bool.and_true Bool.true_and if_true or_true true_and if_false reduceIte Nat.zero_add List.getElem?_cons_zero List.getElem?_cons_succ Bool.false_eq_true true_or Option.join_some Option.bind_some tO jA aCr nG yP AV.bel aE UU unE bFc aBr rdG aGb aJm aVw imp_self List.length_cons List.length_nil dC List.append_nil List.nil_append List.not_mem_nil forall_const wN AV.sc AV.free aXs Value.oneCell' List.all_cons List.all_nil cH List.take_succ_cons List.take_zero List.drop_succ_cons List.drop_zero List.cons_append not_false_eq_true List.take_nil List.drop_nil Option.toList List.append_eq List.reverse_cons List.reverse_nil false_implies beq_self_eq_true decide_true List.nodup_cons List.nodup_nil List.mem_singleton forall_eq Nat.one_ne_zero List.set_cons_zero List.set_cons_succ List.length_map Int.toNat_natCast List.getElem?_map
def AV.ren_nil (x : AV) : x.ren (sg []) = x := AV.ren_id x
def jE (xs : List AV) : aA (sg []) xs = xs := iT xs
def AObj.ren_nil (o : AObj) : o.ren (sg []) = o := by
  cases o with
  | cells t cs => show AObj.cells t (aA (sg []) cs) = _; rw [jE]
  | row e sz xs => show AObj.row e sz (aA (sg []) xs) = _; rw [jE]
  | map kt et m =>
    show AObj.map kt et (m.map fun p => (p.1, p.2.ren (sg []))) = _
    congr 1
    conv => rhs; rw [<- List.map_id m]
    exact D9 fun p _ => by rw [AV.ren_nil]; rfl
  | mapS kt et m k st =>
    show AObj.mapS kt et (m.map fun p => (p.1, p.2.ren (sg []))) k st = _
    congr 1
    conv => rhs; rw [<- List.map_id m]
    exact D9 fun p _ => by rw [AV.ren_nil]; rfl
  | loop l rec No m =>
    show AObj.loop l rec No (m.map fun p => (p.1, p.2.ren (sg []))) = _
    congr 1
    conv => rhs; rw [<- List.map_id m]
    exact D9 fun p _ => by rw [AV.ren_nil]; rfl
  | _ => rfl
def bFm (i : Nat) : sg [] i = i := rfl
attribute [go_sem] AV.ren_nil jE AObj.ren_nil bFm bCb aSd iD
def fO {P : Program} {vs : List ResultVar} {r0 : AV} {E : Env} {H : Heap} (h : (tJ P E H vs).map pI = some r0) (hb : r0.bel (UU 0)) : bDi P vs 0 r0 [] 0 E H :=
  ⟨[], by rw [AV.ren_nil]; exact h, trivial, D8, hb, (fun p hp => by cases hp), A0 _⟩
attribute [go_sem] tJ pI aOj
attribute [go_sem] implies_true and_true and_self aLj bMp
end
end Go.Abs
end
section
open Go Go.MapKept
namespace Go.Abs
section
variable [Globals]
variable {kt et t : TypeId} {k : Value} {i : Nat} {ρ : Nat -> Value} {av : Nat -> Prop} {x y : Operand} {kav z v : AV} {w : World} {hp : Array Obj} {ok : Bool}
structure KeyT (P : Program) (kt : TypeId) (isKey : Value -> Prop) : Prop where
  check : ∀ k, isKey k -> ∀ (e : Bool) (w : World), (Instr.checkKey e 10000 kt k).run P w = .ok () w
  find : ∀ (k : Value) (es : List MapEntry) (w : World), isKey k -> (∀ e ∈ es, isKey e.key) -> ∃ r, (Instr.findKey kt k es).run P w = .ok r w /\
    ((r = none /\ ∀ e ∈ es, e.key ≠ k) ∨ ∃ (j : Nat) (e : MapEntry), r = some (j, e.val) /\ es[j]? = some e /\ e.key = k)
  bits : ∀ k, isKey k -> Instr.sameBits 10000 k k = true
def bBz {P : Program} {d : TypeDesc} (hd : P.underlying kt = some d) (hb : ∀ k, IsKey d k -> Instr.sameBits 10000 k k = true) : KeyT P kt (IsKey d) where
  check := fun k hk e w => run_checkKey hd hk e 9999
  find := fun k es w hk hes => by
    rcases findNow_spec hk es 0 hes with ⟨h1, h2⟩ | ⟨j, e, h1, h2, h3⟩
    . exact ⟨none, run_findKey hd h1, .inl ⟨rfl, h2⟩⟩
    rw [C5] at h1
    exact ⟨_, run_findKey hd h1, .inr ⟨j, e, rfl, h2, h3⟩⟩
  bits := hb
section
variable {P : Program} {ro : Option Nat} {N : Nat} {o : Oper} {E : Env} {H : Heap} {U : Nat -> Prop}
def bMn {C : Conc} {a : Act} {m : List (Value × AV)} (hR : RelH C H U w) (hH : get H i = some (.map kt et m)) : ∃ b es clock, C.ρ i = .map (some b) /\ C.own i = [b] /\ w.heap[b]? = some (.map es clock) /\ es.size = m.length /\ es.size < maxLen /\
    (∀ (j : Nat) (k : Value) (x : AV), m[j]? = some (k, x) -> ∃ e, es[j]? = some e /\ e.key = k /\ Rep C.ρ (C.avoid H) w.heap x e.val) /\
    (∀ (j : Nat) (e : MapEntry), es[j]? = some e -> e.born < clock /\ ∀ (i : Nat) (d : MapEntry), es[i]? = some d -> d.born = e.born -> i = j) := hR.obj i _ hH
def bOo {es : Array MapEntry} {m : List (Value × AV)} (hsz : es.size = m.length) (h : ∀ (j : Nat) (k : Value) (x : AV), m[j]? = some (k, x) -> ∃ e, es[j]? = some e /\ e.key = k /\ Rep ρ av hp x e.val) {isKey : Value -> Prop} (hk : ∀ p ∈ m, isKey p.1) :
    ∀ e ∈ es.toList, isKey e.key := fun e he => by
  obtain ⟨j, hj⟩ := G5 he
  rw [F5] at hj
  have hjl := (Array.getElem?_eq_some_iff.1 hj).1
  have hm : m[j]? = some (m[j]'og) := A1 og
  obtain ⟨e', he', hke, _⟩ := h j (m[j]'og).1 (m[j]'og).2 hm
  rw [hj] at he'
  cases he'
  rw [hke]
  exact hk _ (D7 _)
def aOx (m : List (Value × AV)) (k : Value) (r : Option (Nat × AV)) : Prop :=
  match r with
  | none => ∀ p ∈ m, p.1 ≠ k
  | some (j, x) => m[j]? = some (k, x)
def aNi (z : AV) (ok : Bool) (r : Option (Nat × AV)) : AV :=
  let v := match r with | some (_, x) => x | none => z
  if ok then .tup [v, .raw (.bool r.isSome)] else v
def aXa {isKey : Value -> Prop} (hK : KeyT P kt isKey) {es : Array MapEntry} {m : List (Value × AV)} (hsz : es.size = m.length)
    (h : ∀ (j : Nat) (k : Value) (x : AV), m[j]? = some (k, x) -> ∃ e, es[j]? = some e /\ e.key = k /\ Rep ρ av w.heap x e.val) (hk : ∀ p ∈ m, isKey p.1) (hkk : isKey k) (hnd : (m.map (·.1)).Nodup) {r : Option (Nat × AV)} (hr : aOx m k r) :
    match r with
    | none => (Instr.findKey kt k es.toList).run P w = .ok none w
    | some (j, x) => ∃ e, es[j]? = some e /\ e.key = k /\ Rep ρ av w.heap x e.val /\ (Instr.findKey kt k es.toList).run P w = .ok (some (j, e.val)) w := by
  obtain ⟨r', h1, h2⟩ := hK.find k es.toList w hkk (bOo hsz h hk)
  have at_m : ∀ (j : Nat) (e : MapEntry), es[j]? = some e -> ∃ x, m[j]? = some (e.key, x) := fun j e hj => by
    have hjl := (Array.getElem?_eq_some_iff.1 hj).1
    have hm : m[j]? = some (m[j]'og) := A1 og
    obtain ⟨e', he', hke, _⟩ := h j (m[j]'og).1 (m[j]'og).2 hm
    rw [hj] at he'
    cases he'
    exact ⟨(m[j]'og).2, by rw [hm, hke]⟩
  cases r with
  | none =>
    rcases h2 with ⟨rfl, _⟩ | ⟨j, e, rfl, hj, hke⟩
    . exact h1
    rw [F5] at hj
    obtain ⟨x, hx⟩ := at_m j e hj
    exact absurd hke (hr _ (G2 hx))
  | some p =>
    obtain ⟨j, x⟩ := p
    obtain ⟨e, he, hke, hrep⟩ := h j k x hr
    refine ⟨e, he, hke, hrep, ?_⟩
    rcases h2 with ⟨rfl, hno⟩ | ⟨j', e', rfl, hj', hke'⟩
    . exact absurd hke (hno e (by rw [Array.mem_toList_iff]; exact Array.mem_of_getElem? he))
    rw [F5] at hj'
    obtain ⟨x', hx'⟩ := at_m j' e' hj'
    have hjj : j' = j := by
      have a1 := (A9.1 hx').1
      have a2 := (A9.1 hr).1
      have q1 : (m.map (·.1))[j']? = some k := by rw [B5, hx', <- hke']; rfl
      have q2 : (m.map (·.1))[j]? = some k := by
        have : m[j]? = some (k, x) := hr
        rw [B5, this]; rfl
      obtain ⟨l1, e1⟩ := A9.1 q1
      obtain ⟨l2, e2⟩ := A9.1 q2
      exact (List.getElem_inj hnd).mp (e1.trans e2.symm)
    subst hjj
    rw [he] at hj'
    cases hj'
    exact h1
def aYz {m : List (Value × AV)} {isKey : Value -> Prop} {r : Option (Nat × AV)} (ho : o.op = .lookup t x y ok) (hN : oD o N) (hm : lT P t = some (kt, et)) (hz : zE P et = some z)
    (hK : KeyT P kt isKey) (hx : opv E x = some (.ref i)) (hat : ∀ (C : Conc) (a : Act) (w : World), Rel C N E H U a w -> (∃ b es clock, C.ρ i = .map (some b) /\ w.heap[b]? = some (.map es clock) /\ es.size = m.length /\
      (∀ (j : Nat) (k : Value) (x : AV), m[j]? = some (k, x) -> ∃ e, es[j]? = some e /\ e.key = k /\ Rep C.ρ (C.avoid H) w.heap x e.val)) /\ aE U (m.map (·.2))) (hy : opv E y = some kav) (hkv : ∀ (ρ : Nat -> Value) (av : Nat -> Prop) (hp : Array Obj) (v : Value), Rep ρ av hp kav v -> v = k)
    (hkk : isKey k) (hk : ∀ p ∈ m, isKey p.1) (hnd : (m.map (·.1)).Nodup) (hr : aOx m k r) : OpT P ro N o E H U (aO E o.dst (aNi z ok r)) H U := by
  obtain ⟨iz, zv, hiz, hzz, _, hzr, hzb⟩ := aIr hz
  refine aL (by simp [ho, Op.noDefer]) hN fun C a w hR => ?_
  obtain ⟨h1, _⟩ := hR.opv hx
  obtain ⟨h2, _⟩ := hR.opv hy
  have hkey := hkv _ _ _ _ h2
  obtain ⟨⟨b, es, clock, hρ, hb, hsz, hent⟩, hbelm⟩ := hat C a w hR
  have hev : a.eval x = .map (some b) := by generalize a.eval x = v at h1; cases h1; exact hρ
  have hfind := aXa (P := P) (w := w) hK hsz hent hk hkk hnd hr
  have hchk := hK.check k hkk es.isEmpty w
  have hzv : (zeroValue et).run P w = .ok zv w := by simp [zeroValue, typeInfo, hiz, hzz]
  have hg := MapKept.run_getObj_map (P := P) (w := w) hb
  have hbase : ∀ (v : Value) (f : Bool), (match r with | none => v = zv /\ f = false | some (j, x) => ∃ e, es[j]? = some e /\ v = e.val /\ f = true) -> (Instr.lookup t (.map (some b)) k ok).run P w = .ok (if ok then .tuple #[v, .bool f] else v) w := fun v f hv => by
    simp only [Instr.lookup, Sem.run_bind, run_underlying (rK hm), Result.andThen_ok, hg, Sem.run_pure, hchk]
    cases r with
    | none =>
      obtain ⟨rfl, rfl⟩ := hv
      simp only [hfind, Result.andThen_ok, Sem.run_bind, hzv, Sem.run_pure]
    | some p =>
      obtain ⟨j, xx⟩ := p
      obtain ⟨e, he, rfl, rfl⟩ := hv
      obtain ⟨e', he', _, _, hf⟩ := hfind
      rw [he] at he'
      cases he'
      simp only [hf, Result.andThen_ok, Sem.run_bind, Sem.run_pure]
  cases r with
  | none =>
    have hl := hbase zv false ⟨rfl, rfl⟩
    cases ok with
    | true =>
      refine ⟨⟨hzb U, trivial, trivial⟩, .tuple #[zv, .bool false], by simp [execOp, ho, hev, hkey, hl], ?_⟩
      refine .tup _ _ rfl fun j q hj => ?_
      match j, hj with
      | 0, hj => cases hj; exact hzr _ _ _
      | 1, hj => cases hj; exact .raw _
      | j + 2, hj => cases hj
    | false => exact ⟨hzb U, _, by simp [execOp, ho, hev, hkey, hl], hzr _ _ _⟩
  | some p =>
    obtain ⟨j, xx⟩ := p
    obtain ⟨e, he, hke, hrep, _⟩ := hfind
    have hl := hbase e.val true ⟨e, he, rfl, rfl⟩
    have hbx : xx.bel U := bG hbelm (j := j) (by rw [B5, show m[j]? = some (k, xx) from hr]; rfl)
    cases ok with
    | true =>
      refine ⟨⟨hbx, trivial, trivial⟩, .tuple #[e.val, .bool true], by simp [execOp, ho, hev, hkey, hl], ?_⟩
      refine .tup _ _ rfl fun j q hj => ?_
      match j, hj with
      | 0, hj => cases hj; exact hrep
      | 1, hj => cases hj; exact .raw _
      | j + 2, hj => cases hj
    | false => exact ⟨hbx, _, by simp [execOp, ho, hev, hkey, hl], hrep⟩
def bBa {m : List (Value × AV)} {isKey : Value -> Prop} {r : Option (Nat × AV)} (ho : o.op = .lookup t x y ok) (hN : oD o N) (hm : lT P t = some (kt, et)) (hz : zE P et = some z)
    (hK : KeyT P kt isKey) (hx : opv E x = some (.ref i)) (hH : get H i = some (.map kt et m)) (hy : opv E y = some kav) (hkv : ∀ (ρ : Nat -> Value) (av : Nat -> Prop) (hp : Array Obj) (v : Value), Rep ρ av hp kav v -> v = k)
    (hkk : isKey k) (hk : ∀ p ∈ m, isKey p.1) (hnd : (m.map (·.1)).Nodup) (hr : aOx m k r) : OpT P ro N o E H U (aO E o.dst (aNi z ok r)) H U :=
  aYz ho hN hm hz hK hx (fun C a w hR => by
    obtain ⟨b, es, clock, hρ, hown, hb, hsz, hlt, hent, hborn⟩ := bMn (a := a) hR.toRelH hH
    exact ⟨⟨b, es, clock, hρ, hb, hsz, hent⟩, (hR.objb i _ hH).2⟩) hy hkv hkk hk hnd hr
def aBf (w : World) (b : Nat) (o : Obj) : ({ w with heap := w.heap.setIfInBounds b o } : World).heap.size = w.heap.size := by simp
def iE (m : List (Value × AV)) (k : Value) (v : AV) : Option (Nat × AV) -> List (Value × AV)
  | some (j, _) => m.set j (k, v)
  | none => m ++ [(k, v)]
def bBm {es : Array MapEntry} {m : List (Value × AV)} {k u : Value} {clock : Nat} {r : Option (Nat × AV)} (hsz : es.size = m.length)
    (h : ∀ (j : Nat) (k : Value) (x : AV), m[j]? = some (k, x) -> ∃ e, es[j]? = some e /\ e.key = k /\ Rep ρ av hp x e.val) (hv : Rep ρ av hp v u) (hr : aOx m k r) :
    let es' := match r with | some (j, _) => es.modify j fun e => { e with key := k, val := u } | none => es.push { key := k, val := u, born := clock }
    es'.size = (iE m k v r).length /\ ∀ (j : Nat) (k' : Value) (x : AV), (iE m k v r)[j]? = some (k', x) -> ∃ e, es'[j]? = some e /\ e.key = k' /\ Rep ρ av hp x e.val := by
  cases r with
  | none =>
    refine ⟨by simp [iE, hsz], fun j k' x hj => ?_⟩
    simp only [iE] at hj ⊢
    rcases Nat.lt_or_ge j m.length with h1 | h1
    . rw [G9 h1] at hj
      obtain ⟨e, he, hk, hx⟩ := h j k' x hj
      exact ⟨e, by rw [Array.getElem?_push, if_neg og]; exact he, hk, hx⟩
    rw [G7 h1] at hj
    have hj0 : j = m.length := by
      have := (A9.1 hj).1
      simp at this; omega
    subst hj0
    simp only [Nat.sub_self, List.getElem?_cons_zero, B8, Prod.mk.injEq] at hj
    obtain ⟨rfl, rfl⟩ := hj
    exact ⟨_, by rw [Array.getElem?_push, if_pos og], rfl, hv⟩
  | some p =>
    obtain ⟨q, y⟩ := p
    refine ⟨by simp [iE, hsz], fun j k' x hj => ?_⟩
    simp only [iE] at hj ⊢
    rw [G3] at hj
    by_cases e : q = j
    . subst e; rw [if_pos rfl] at hj; split at hj
      . cases hj
        obtain ⟨e, he, _, _⟩ := h q k y hr
        exact ⟨{ e with key := k, val := u }, by rw [Array.getElem?_modify, if_pos rfl, he]; rfl, rfl, hv⟩
      cases hj
    rw [if_neg e] at hj
    obtain ⟨e', he, hk, hx⟩ := h j k' x hj
    exact ⟨e', by rw [Array.getElem?_modify, if_neg e]; exact he, hk, hx⟩
def aOz {x y z : Operand} {m : List (Value × AV)} {isKey : Value -> Prop} {r : Option (Nat × AV)} (ho : o.op = .mapUpdate t x y z) (hN : oD o N) (hm : lT P t = some (kt, et))
    (hK : KeyT P kt isKey) (hx : opv E x = some (.ref i)) (hH : get H i = some (.map kt et m)) (hy : opv E y = some kav) (hkv : ∀ (ρ : Nat -> Value) (av : Nat -> Prop) (hp : Array Obj) (v : Value), Rep ρ av hp kav v -> v = k) (hz : opv E z = some v)
    (hkk : isKey k) (hk : ∀ p ∈ m, isKey p.1) (hnd : (m.map (·.1)).Nodup) (hr : aOx m k r) (hlen : m.length + 1 < maxLen) : OpT P ro N o E H U (aO E o.dst (.raw undef)) (put H i (.map kt et (iE m k v r))) U := by
  intro C a w next Q hR hnext
  obtain ⟨h1, _⟩ := hR.opv hx
  obtain ⟨h2, _⟩ := hR.opv hy
  obtain ⟨h3, h3b⟩ := hR.opv hz
  have hkey := hkv _ _ _ _ h2
  obtain ⟨b, es, clock, hρ, hown, hb, hsz, hlt, hent, hborn⟩ := bMn (a := a) hR.toRelH hH
  have hev : a.eval x = .map (some b) := by generalize a.eval x = v at h1; cases h1; exact hρ
  have hbelm := (hR.objb i _ hH).2
  have hfind := aXa (P := P) (w := w) hK hsz hent hk hkk hnd hr
  have hchk := hK.check k hkk false w
  have hg := MapKept.run_getObj_map (P := P) (w := w) hb
  obtain ⟨p1, p2⟩ := bBm (clock := clock) hsz hent h3 hr
  have hblt := ltB hb
  have key : ∃ es' clock', (Instr.mapUpdate t (.map (some b)) k (a.eval z)).run P w = .ok () { w with heap := w.heap.setIfInBounds b (.map es' clock') } /\ es'.size = (iE m k v r).length /\ es'.size < maxLen /\
      (∀ (j : Nat) (k' : Value) (x : AV), (iE m k v r)[j]? = some (k', x) -> ∃ e, es'[j]? = some e /\ e.key = k' /\ Rep C.ρ (C.avoid H) w.heap x e.val) /\
      (∀ (j : Nat) (e : MapEntry), es'[j]? = some e -> e.born < clock' /\ ∀ (i : Nat) (d : MapEntry), es'[i]? = some d -> d.born = e.born -> i = j) := by
    cases r with
    | none =>
      refine ⟨es.push { key := k, val := a.eval z, born := clock }, clock + 1, ?_, p1, by simp; omega, p2, fun j e hj => ?_⟩
      . simp only [Instr.mapUpdate, Sem.run_bind, run_underlying (rK hm), Result.andThen_ok, hg, hchk, hfind]
        exact MapKept.run_setObj_map _ hb
      rw [Array.getElem?_push] at hj; split at hj
      . cases hj
        refine ⟨Nat.lt_succ_self _, fun i' d hi' hd => ?_⟩
        rw [Array.getElem?_push] at hi'
        split at hi'
        . omega
        have := (hborn i' d hi').1
        simp only at hd
        omega
      obtain ⟨q1, q2⟩ := hborn j e hj
      refine ⟨og, fun i' d hi' hd => ?_⟩
      rw [Array.getElem?_push] at hi'
      split at hi'
      . cases hi'
        simp only at hd
        omega
      exact q2 i' d hi' hd
    | some p =>
      obtain ⟨j, y'⟩ := p
      obtain ⟨e, he, hke, _, hf⟩ := hfind
      refine ⟨es.modify j fun e => { e with key := k, val := a.eval z }, clock, ?_, p1, by simpa using hlt, p2, fun j' e' hj' => ?_⟩
      . have hst : (Instr.keyThatStays k k).run P w = .ok k w := by simp [Instr.keyThatStays, hK.bits k hkk]
        have hke' : ((es[j]?).map (·.key)).getD k = k := by rw [he]; exact hke
        simp only [Instr.mapUpdate, Sem.run_bind, run_underlying (rK hm), Result.andThen_ok, hg, hchk, hf, hke', hst]
        exact MapKept.run_setObj_map _ hb
      have at' : ∀ (q : Nat) (d : MapEntry), (es.modify j fun e => { e with key := k, val := a.eval z })[q]? = some d -> ∃ d', es[q]? = some d' /\ d'.born = d.born := fun q d hq => by
        rw [Array.getElem?_modify] at hq; split at hq
        . obtain ⟨d', hd', rfl⟩ := A8.1 hq
          exact ⟨d', hd', rfl⟩
        exact ⟨d, hq, rfl⟩
      obtain ⟨d, hd, hbd⟩ := at' j' e' hj'
      obtain ⟨q1, q2⟩ := hborn j' d hd
      refine ⟨og, fun i' d2 hi' hd2 => ?_⟩
      obtain ⟨d3, hd3, hbd3⟩ := at' i' d2 hi'
      exact q2 i' d3 hd3 og
  obtain ⟨es', clock', hrun, k1, k2, k3, k4⟩ := key
  have hother : ∀ q, q ≠ b -> (w.heap.setIfInBounds b (.map es' clock'))[q]? = w.heap[q]? := fun q hq => by rw [G8, if_neg (fun e => hq e.symm)]
  have hkeep : ∀ q, q ∉ C.own i -> ({ w with heap := w.heap.setIfInBounds b (.map es' clock') } : World).heap[q]? = w.heap[q]? := fun q hq => hother q (fun e => hq (by rw [hown, e]; simp))
  have hs := StepR.inPlace (o' := .map kt et (iE m k v r)) hR.toRelH (w' := { w with heap := w.heap.setIfInBounds b (.map es' clock') }) rfl rfl rfl (aBf w b _) hH hkeep
  have hav : ∀ q, q < w.heap.size -> ¬ C.avoid H q -> ({ w with heap := w.heap.setIfInBounds b (.map es' clock') } : World).heap[q]? = w.heap[q]? := fun q _ hn => hkeep q (fun hb' => hn (.inr ⟨i, _, hH, hb'⟩))
  have hbel' : (AObj.map kt et (iE m k v r)).bel U := by
    have hbelm : aE U (m.map (·.2)) := hbelm
    show aE U _
    rw [bLi] at hbelm ⊢
    intro q hq
    cases r with
    | none =>
      simp only [iE, E4, List.map_cons, List.map_nil, B4, B6] at hq
      rcases hq with h | h
      . exact hbelm q h
      rw [h]; exact h3b
    | some p =>
      simp only [iE, List.map_set] at hq
      rcases List.mem_or_eq_of_mem_set hq with h | h
      . exact hbelm q h
      rw [h]; exact h3b
  have hRH := hR.toRelH.inPlace (w' := { w with heap := w.heap.setIfInBounds b (.map es' clock') }) rfl rfl rfl (aBf w b _) hH (o' := .map kt et (iE m k v r)) hkeep
    ⟨b, es', clock', hρ, hown, by show (w.heap.setIfInBounds b _)[b]? = _; simp [hblt], k1, k2, fun j k' x hj => by obtain ⟨e, he, hke, hx⟩ := k3 j k' x hj; exact ⟨e, he, hke, hx.mono (fun _ _ h => h) hav⟩, k4⟩ hbel'
  have hR' := hR.change hs (fun _ h => h) hRH
  refine wP (by simp [ho, Op.noDefer]) (w' := { w with heap := w.heap.setIfInBounds b (.map es' clock') }) (by simp [execOp, ho, hev, hkey, hrun]) (hnext C _ _ (hR'.put hN (.raw _) trivial) hs)
end
end
section
variable [Globals]
variable {k : Value} {t kt et : TypeId} {x y : Operand} {i : Nat}
section
variable {P : Program} {ro : Option Nat} {N : Nat} {o : Oper} {E : Env} {H : Heap} {nx b0 : Nat} {ds : List (Option Tmp)}
def lsO {rt rd : List Nat} {val : AV} {ps : Heap} {nw : Nat} (hg : o.guard = none)
    (h : ∀ (E' : Env) (H' : Heap) (U : Nat -> Prop), (∀ t ∈ rt, get E' t = get E t) -> (∀ i ∈ rd, get H' i = get H i) -> (∀ j, nx <= j -> j < nx + nw -> ¬ U j) -> OpT P ro N o E' H' U (aO E' o.dst val) (over H' ps) (aDc U nx nw)) :
    aS P ro N ds o b0 E H rt rd val ps nx nw :=
  fun E' H' U hE hH hU hnx C a w next Q hR hK => rT hg (h E' H' U hE hH hnx C a w next Q hR hK)
def bLx : AV -> Option Value
  | .raw v => some v
  | _ => none
def aWo : AV -> Option Value
  | .raw v => some v
  | .agg cs => (cs.mapM bLx).map fun vs => .agg vs.toArray
  | _ => none
def aZk {ρ : Nat -> Value} {av : Nat -> Prop} {hp : Array Obj} : ∀ (cs : List AV) (vs us : List Value), (cs.mapM bLx) = some vs -> us.length = cs.length -> (∀ (j : Nat) (x : AV), cs[j]? = some x -> Rep ρ av hp x (us.getD j undef)) -> us = vs
  | [], vs, us, h, hl, _ => by
    simp at h; subst h
    exact H6 hl
  | c :: cs, vs, [], h, hl, _ => by simp at hl
  | c :: cs, vs, u :: us, h, hl, hr => by
    simp only [List.mapM_cons, Option.pure_def, Option.bind_eq_bind] at h
    obtain ⟨v, hv, h⟩ := H5.1 h
    obtain ⟨vs', hvs, h⟩ := H5.1 h
    cases h
    have h0 := hr 0 c rfl
    have ih := aZk cs vs' us hvs (by simpa using hl) fun j x hj => by simpa using hr (j + 1) x (by simpa using hj)
    cases c with
    | raw w =>
      simp only [bLx, B8] at hv
      subst hv
      simp only [List.getD_cons_zero] at h0
      cases h0; rw [ih]
    | _ => cases hv
def aZu {x : AV} (h : aWo x = some k) (ρ : Nat -> Value) (av : Nat -> Prop) (hp : Array Obj) (v : Value) (hr : Rep ρ av hp x v) : v = k := by
  cases x with
  | raw u => simp only [aWo, B8] at h; subst h; cases hr; rfl
  | agg cs =>
    simp only [aWo] at h
    obtain ⟨vs, hvs, rfl⟩ := A8.1 h
    cases hr with
    | agg _ us hn hrep =>
      have := aZk cs vs us.toList hvs (by simpa using hn) fun j x hj => by
        have := hrep j x hj
        simpa [B2, F7] using this
      rw [<- this]
  | _ => simp [aWo] at h
def aUc {ok : Bool} {m : List (Value × AV)} {isKey : Value -> Prop} {z kav : AV} {r : Option (Nat × AV)} (hg : o.guard = none) (ho : o.op = .lookup t x y ok) (hN : oD o N) (hm : lT P t = some (kt, et)) (hz : zE P et = some z)
    (hK : KeyT P kt isKey) (hx : opv E x = some (.ref i)) (hH : get H i = some (.map kt et m)) (hy : opv E y = some kav) (hkv : aWo kav = some k) (hkk : isKey k) (hk : ∀ p ∈ m, isKey p.1) (hnd : (m.map (·.1)).Nodup) (hr : aOx m k r) :
    aS P ro N ds o b0 E H (tO [x, y]) [i] (aNi z ok r) [] nx 0 := by
  refine lsO hg fun E' H' U hE hH' _ => ?_
  rw [aU0]
  have hops := oCg hE
  exact bBa ho hN hm hz hK (by rw [hops x oS]; exact hx) (by rw [hH' i oS]; exact hH) (by rw [hops y oS]; exact hy) (aZu hkv) hkk hk hnd hr
def aIu {x y z : Operand} {m : List (Value × AV)} {isKey : Value -> Prop} {kav v : AV} {r : Option (Nat × AV)} (hg : o.guard = none) (ho : o.op = .mapUpdate t x y z) (hN : oD o N) (hm : lT P t = some (kt, et))
    (hK : KeyT P kt isKey) (hx : opv E x = some (.ref i)) (hH : get H i = some (.map kt et m)) (hy : opv E y = some kav) (hkv : aWo kav = some k) (hz : opv E z = some v) (hkk : isKey k) (hk : ∀ p ∈ m, isKey p.1) (hnd : (m.map (·.1)).Nodup) (hr : aOx m k r) (hlen : m.length + 1 < maxLen) :
    aS P ro N ds o b0 E H (tO [x, y, z]) [i] (.raw undef) [(i, .map kt et (iE m k v r))] nx 0 := by
  refine lsO hg fun E' H' U hE hH' _ => ?_
  rw [aU0]
  have hops := oCg hE
  exact aOz ho hN hm hK (by rw [hops x oS]; exact hx) (by rw [hH' i oS]; exact hH) (by rw [hops y oS]; exact hy) (aZu hkv) (by rw [hops z oS]; exact hz) hkk hk hnd hr hlen
end
end
section
variable [Globals]
variable {P : Program}
def aZq {kt : TypeId} (hu : P.underlying kt = some .string) : KeyT P kt (IsKey .string) :=
  bBz hu fun v hv => by
    cases v <;> simp [IsKey] at hv
    rename_i s
    have hss : (s == s) = true := (bytes_beq s s).2 rfl
    rw [show (10000 : Nat) = 9999 + 1 from rfl]
    simp [Instr.sameBits, hss]
end
end Go.Abs
end
section
open Go
namespace Go.Abs
section
variable [Globals]
variable {f m0 n1 : Nat} {args xs : List AV} {nd H1 : Heap} {r0 : AV}
section
variable {P : Program} {ro : Option Nat} {N : Nat} {o : Oper} {E : Env} {H : Heap} {nx b0 : Nat} {ds : List (Option Tmp)}
def aOg {vals : Array Value} {a : Act} {w : World} {next : Act -> World -> Prop} {Q : Exit -> Act -> World -> Prop} {R : Value -> World -> Prop} (hd : Op.noDefer o.op = true) (hr : (execOp a.eval o).run P w = .ok (.enter f vals) w)
    (h : Calls P f vals w fun e w' => ∃ v, e = .returned v /\ R v w') (hn : ∀ v w', R v w' -> next (a.put o.dst v) w') : o.wpIn (FW ro) 0 P a w next Q := by
  refine ⟨fun _ _ => trivial, ?_⟩
  rw [qK hd, hr, Oper.uponIn_enter]
  exact ⟨fun hh => (by cases hh), aDe (h.mono fun e w' ⟨v, he, hv⟩ => by subst he; exact hn v w' hv)⟩
def aWw {rt : List Nat} (s : List (Nat × Nat)) (nw : Nat) (hg : o.guard = none) (hd : Op.noDefer o.op = true) (hN : oD o N)
    (hent : ∀ (E' : Env) (H' : Heap) (U : Nat -> Prop) (C : Conc) (a : Act) (w : World), (∀ t ∈ rt, get E' t = get E t) -> Rel C N E' H' U a w -> ∃ vals, (execOp a.eval o).run P w = .ok (.enter f vals) w /\ cZ C.ρ (C.avoid H') w.heap (aA (sg s) args) vals)
    (hM : aH P f args nd m0 r0 H1 n1) (hn1 : n1 = m0 + nw) (hab : aE (UU m0) args) (hF : FitC H s nd m0 nw H1) :
    aS P ro N ds o b0 E H rt (nd.map fun p => sg s p.1) (r0.ren (shift (sg s) m0 nx nw)) (H1.map fun p => (shift (sg s) m0 nx nw p.1, p.2.ren (shift (sg s) m0 nx nw))) nx nw := by
  subst hn1
  intro E' H' U hE hH hU hnx C a w next Q hR hK
  have hfit := hF.fit hR.toRelH (fun j hj => hU j (.inr hj)) (fun p hp => hH _ (B3.2 ⟨p, hp, rfl⟩)) hnx
  have hRc := hR.toRelH.callee hfit
  obtain ⟨vals, hrun, hvals⟩ := hent E' H' U C a w hE hR
  have hargsR : cZ (callee C H' (sg s) nd).ρ ((callee C H' (sg s) nd).avoid nd) w.heap args vals :=
    (hvals.mono (av' := (callee C H' (sg s) nd).avoid nd) (fun b _ hb => (eQ hfit b).1 hb) (fun _ _ _ => rfl)).unren (ρ := C.ρ)
  refine rT hg (aOg (R := fun v w' => ∃ C1, RelH C1 H1 (UU (m0 + nw)) w' /\ StepR (callee C H' (sg s) nd) nd (UU m0) w C1 H1 w' /\ Rep C1.ρ (C1.avoid H1) w'.heap r0 v /\ r0.bel (UU (m0 + nw))) hd hrun
    ((hM _ w _ hRc hargsR hab).mono fun e w' ⟨v, r, H2, n', C1, he, hn', ⟨hr, hH2, hn2⟩, h1, h2, h3, h4⟩ => ?_) fun v w' ⟨C1, h1, h2, h3, h4⟩ => ?_)
  . subst hr; subst hH2; subst hn2
    exact ⟨v, he, C1, h1, h2, h3, h4⟩
  obtain ⟨k1, k2, k3⟩ := hR.toRelH.back hfit h1 h2
  obtain ⟨k4, k5⟩ := k3 r0 v h4 h3
  have hRel := hR.change k2 (fun i hi => .inl hi) k1
  exact hK _ _ w' (hRel.put hN k4 k5) k2
def cZ.append {ρ : Nat -> Value} {av : Nat -> Prop} {hp : Array Obj} {xs ys : List AV} {vs us : Array Value} (h : cZ ρ av hp xs vs) (k : cZ ρ av hp ys us) : cZ ρ av hp (xs ++ ys) (vs ++ us) := by
  refine ⟨by simp [h.1, k.1], fun j x hj => ?_⟩
  rcases Nat.lt_or_ge j xs.length with h1 | h1
  . rw [G9 h1] at hj
    have := h.2 j x hj
    rw [B2, Array.getElem?_append_left (by rw [h.1]; exact h1), <- B2]
    exact this
  rw [G7 h1] at hj
  have := k.2 _ x hj
  rw [B2, Array.getElem?_append_right (by rw [h.1]; exact h1), h.1, <- B2]
  exact this
def rJ {c : Call} {y : Operand} {fn : Func} {code : Code} {first cap : List AV} (s : List (Nat × Nat)) (nw : Nat) (hg : o.guard = none) (ho : o.op = .call c) (hc : c.callee = .value y) (hy : opv E y = some (.fn (.func f) first cap))
    (hT : FnT P f fn code) (hN : oD o N) (hM : aH P f args nd m0 r0 H1 n1) (hn1 : n1 = m0 + nw) (hxs : c.args.toList.map (opv E) = xs.map some) (hargs : first ++ xs ++ cap = aA (sg s) args) (hab : aE (UU m0) args) (hF : FitC H s nd m0 nw H1) :
    aS P ro N ds o b0 E H (tO (y :: c.args.toList)) (nd.map fun p => sg s p.1) (r0.ren (shift (sg s) m0 nx nw)) (H1.map fun p => (shift (sg s) m0 nx nw p.1, p.2.ren (shift (sg s) m0 nx nw))) nx nw := by
  refine aWw s nw hg (by simp [ho, Op.noDefer]) hN (fun E' H' U C a w hE hR => ?_) hM hn1 hab hF
  have hops := oCg hE
  obtain ⟨h1, _⟩ := hR.opv (x := y) (r := .fn (.func f) first cap) (by rw [hops y oS]; exact hy)
  have hxs' : c.args.toList.map (opv E') = xs.map some := by
    rw [<- hxs]
    exact D9 fun x hx => hops x (A4 _ hx)
  obtain ⟨h2, _⟩ := sF hR hxs'
  generalize hev : a.eval y = u at h1
  cases h1 with
  | fn _ _ _ vs us hn hr hn' hr' =>
    refine ⟨vs ++ c.args.map a.eval ++ us, ?_, by rw [<- hargs]; exact (cZ.append (cZ.append ⟨hn, hr⟩ h2) ⟨hn', hr'⟩)⟩
    simp [execOp, ho, resolve, hc, hev, Deferred.ofValue, invoke, hT.run]
end
end
section
variable [Globals]
variable {ρ : Nat -> Value} {av av' : Nat -> Prop} {hp hp' : Array Obj} {x : AV} {v : Value} {ow : List Nat}
mutual
def AV.fz : AV -> AV
  | .own _ sz xs => .sl sz (fzL xs)
  | .agg cs => .agg (fzL cs)
  | .tup cs => .tup (fzL cs)
  | .sl sz xs => .sl sz (fzL xs)
  | .fp sz xs j off => .fp sz (fzL xs) j off
  | .iface t x => .iface t x.fz
  | .fn f a b => .fn f (fzL a) (fzL b)
  | .when c x => .when c x.fz
  | .any => .any
  | .raw v => .raw v
  | .ptr i off => .ptr i off
  | .ep i sz j off => .ep i sz j off
  | .ref i => .ref i
def fzL : List AV -> List AV
  | [] => []
  | x :: xs => x.fz :: fzL xs
end
def aKh : ∀ (xs : List AV) (j : Nat), (fzL xs)[j]? = (xs[j]?).map AV.fz
  | [], j => rfl
  | x :: xs, 0 => rfl
  | x :: xs, j + 1 => by simpa [fzL] using aKh xs j
def cK : ∀ xs : List AV, (fzL xs).length = xs.length
  | [] => rfl
  | x :: xs => by simp [fzL, cK xs]
def tH {α : Type} (f : α -> AV) : ∀ l : List α, fzL (l.map f) = l.map fun a => (f a).fz
  | [] => rfl
  | a :: l => by simp [fzL, tH f l]
def Rep.fz (h : Rep ρ av hp x v) : Rep ρ av hp x.fz v := by
  have aux : ∀ {xs : List AV} {g : Nat -> Value}, (∀ (j : Nat) (y : AV), xs[j]? = some y -> Rep ρ av hp y.fz (g j)) -> ∀ (j : Nat) (y : AV), (fzL xs)[j]? = some y -> Rep ρ av hp y (g j) := fun hh j y hy => by
    rw [aKh] at hy
    obtain ⟨z, hz, rfl⟩ := A8.1 hy
    exact hh j z hz
  induction h with
  | any v => exact .any v
  | raw v => exact .raw v
  | agg cs vs hn _ ih => exact .agg _ vs (by rw [cK]; exact hn) (aux (g := fun j => vs.getD j undef) ih)
  | tup cs vs hn _ ih => exact .tup _ vs (by rw [cK]; exact hn) (aux (g := fun j => vs.getD j undef) ih)
  | sl0 sz A c hc => exact .sl0 sz A c hc
  | sl sz xs b off c cells t fr vals h0 hc hm hb hh _ hcells ih =>
    have := Rep.sl (ρ := ρ) sz (fzL xs) b off c cells t fr vals (by rw [cK]; exact h0) (by rw [cK]; exact hc) hm hb hh (aux ih) (by rw [cK]; exact hcells)
    rw [cK] at this; exact this
  | fp sz xs j d b off cells t fr vals hb hh _ hcells ih => exact .fp sz _ j d b off cells t fr vals hb hh (aux ih) (by rw [cK]; exact hcells)
  | ptr i off b h => exact .ptr _ off b h
  | ep i sz j off b h => exact .ep _ sz j off b h
  | ref i => exact .ref _
  | iface t x v _ ih => exact .iface t _ v ih
  | fn f first cap vs us hn _ hn' _ ih ih' => exact .fn f _ _ vs us (by rw [cK]; exact hn) (aux (g := fun j => vs.getD j undef) ih) (by rw [cK]; exact hn') (aux (g := fun j => us.getD j undef) ih')
  | when c x v _ h' ih => exact .when c _ v ih h'
def RepO.fz (h : RepO ρ av hp x v ow) (hn : ∀ b, b ∈ ow -> ¬ av b) : Rep ρ av hp x.fz v := by
  have aux : ∀ {xs : List AV} {g : Nat -> Value}, (∀ (j : Nat) (y : AV), xs[j]? = some y -> Rep ρ av hp y.fz (g j)) -> ∀ (j : Nat) (y : AV), (fzL xs)[j]? = some y -> Rep ρ av hp y (g j) := fun hh j y hy => by
    rw [aKh] at hy
    obtain ⟨z, hz, rfl⟩ := A8.1 hy
    exact hh j z hz
  induction h with
  | leaf x v h => exact h.fz
  | agg cs vs ows hl _ ih => exact .agg _ vs (by rw [cK]; exact hl) (aux (g := fun j => vs.getD j undef) fun j x hj => ih j x hj fun b hb => hn b (mFl.2 ⟨j, (A9.1 hj).1, hb⟩))
  | own0 e sz => exact .sl0 sz none 0 (A6 _)
  | own e sz xs b c cells vals ows hh hs hc hm hx hcells ih =>
    have hrep : ∀ (j : Nat) (y : AV), (fzL xs)[j]? = some y -> Rep ρ av hp y (vals j) := aux fun j x hj => ih j x hj fun b' hb => hn b' (A4 _ (mFl.2 ⟨j, (A9.1 hj).1, hb⟩))
    show Rep ρ av hp (.sl sz (fzL xs)) _
    rcases Nat.eq_zero_or_pos xs.length with h0 | h0
    . have : fzL xs = [] := H6 (by rw [cK]; exact h0)
      rw [this, h0]
      exact .sl0 sz _ c hm
    have := Rep.sl (ρ := ρ) (av := av) (hp := hp) sz (fzL xs) b 0 c cells e (0, 0) vals (by rw [cK]; exact h0) (by rw [cK]; exact hc) hm (hn b A5) hh hrep (by rw [cK]; exact hcells)
    rw [cK] at this; exact this
mutual
def AV.noFz : AV -> Bool
  | .sl _ _ => false
  | .fp _ _ _ _ => false
  | .agg cs => mF cs
  | .tup cs => mF cs
  | .iface _ x => x.noFz
  | .fn _ a b => mF a && mF b
  | .when _ x => x.noFz
  | .own _ _ xs => mF xs
  | _ => true
def mF : List AV -> Bool
  | [] => true
  | x :: xs => x.noFz && mF xs
end
def lA : ∀ {xs : List AV}, mF xs = true -> ∀ {j : Nat} {x : AV}, xs[j]? = some x -> x.noFz = true
  | [], _, j, x, h => by simp at h
  | y :: ys, hf, j, x, h => by
    simp only [mF, C8] at hf
    cases j with
    | zero => simp at h; subst h; exact hf.1
    | succ j => exact lA hf.2 (by simpa using h)
def uY {α : Type} (f : α -> AV) (h : ∀ a, (f a).noFz = true) : ∀ l : List α, mF (l.map f) = true
  | [] => rfl
  | a :: l => by simp [mF, h a, uY f h l]
def Rep.anywhere (h : Rep ρ av hp x v) (hx : x.noFz = true) : Rep ρ av' hp' x v := by
  induction h with
  | any v => exact .any v
  | raw v => exact .raw v
  | agg cs vs hn _ ih => exact .agg cs vs hn fun j x hj => ih j x hj (lA (by simpa [AV.noFz] using hx) hj)
  | tup cs vs hn _ ih => exact .tup cs vs hn fun j x hj => ih j x hj (lA (by simpa [AV.noFz] using hx) hj)
  | sl0 sz A c hc => simp [AV.noFz] at hx
  | sl sz xs b off c cells t fr vals h0 hc hm hb hh _ hcells ih => simp [AV.noFz] at hx
  | fp sz xs j d b off cells t fr vals hb hh _ hcells ih => simp [AV.noFz] at hx
  | ptr i off b h => exact .ptr _ off b h
  | ep i sz j off b h => exact .ep _ sz j off b h
  | ref i => exact .ref _
  | iface t x v _ ih => exact .iface t _ v (ih (by simpa [AV.noFz] using hx))
  | fn f first cap vs us hn _ hn' _ ih ih' =>
    have hx' : mF first = true /\ mF cap = true := by simpa [AV.noFz] using hx
    exact .fn f _ _ vs us hn (fun j x hj => ih j x hj (lA hx'.1 hj)) hn' (fun j x hj => ih' j x hj (lA hx'.2 hj))
  | when c x v _ h' ih => exact .when c x v (fun hc => ih hc (by simpa [AV.noFz] using hx)) h'
def RepO.anywhere (h : RepO ρ av hp x v ow) (hx : x.noFz = true) (hown : ∀ b, b ∈ ow -> hp'[b]? = hp[b]?) : RepO ρ av' hp' x v ow := by
  induction h with
  | leaf x v h => exact .leaf x v (h.anywhere hx)
  | agg cs vs ows hn _ ih => exact .agg cs vs ows hn fun j x hj => ih j x hj (lA (by simpa [AV.noFz] using hx) hj) fun b hb => hown b (mFl.2 ⟨j, (A9.1 hj).1, hb⟩)
  | own0 e sz => exact .own0 e sz
  | own e sz xs b c cells vals ows hh hs hc hm _ hcells ih =>
    exact .own e sz xs b c cells vals ows ((hown b oS).trans hh) hs hc hm (fun j x hj => ih j x hj (lA (by simpa [AV.noFz] using hx) hj) fun b' hb => hown b' (A4 _ (mFl.2 ⟨j, (A9.1 hj).1, hb⟩))) hcells
end
section
variable [Globals]
def AObj.noFz : AObj -> Bool
  | .dead => true
  | .cells _ cs => mF cs
  | .row _ _ xs => mF xs
  | .map _ _ m => mF (m.map (·.2))
  | .mapS _ _ _ _ _ => false
  | .other _ _ => true
  | .loop _ _ _ _ => false
def cX.anywhere {ρ : Nat -> Value} {av av' : Nat -> Prop} {hp : Array Obj} {own : List Nat} {o : AObj} {v : Value} (h : cX ρ av hp own o v) (ho : o.noFz = true) : cX ρ av' hp own o v := by
  cases o with
  | dead => exact h
  | cells t cs => obtain ⟨b, vs, h1, h2, h3, h4⟩ := h; exact ⟨b, vs, h1, h2, h3, h4.1, fun j x hj => (h4.2 j x hj).anywhere (lA ho hj)⟩
  | row e sz xs => exact ⟨h.1.anywhere ho (fun _ _ => rfl), h.2⟩
  | map kt et m =>
    obtain ⟨b, es, clock, h1, h2, h3, h4, h5, h6, h7⟩ := h
    refine ⟨b, es, clock, h1, h2, h3, h4, h5, fun j k x hj => ?_, h7⟩
    obtain ⟨e, he, hk, hr⟩ := h6 j k x hj
    exact ⟨e, he, hk, hr.anywhere (lA ho (j := j) (by rw [B5, hj]; rfl))⟩
  | mapS kt et m k st => cases ho
  | other b o => exact h
  | loop l rec No Eo => cases ho
section
variable {bw : List Nat} {C : Conc} {H : Heap} {U : Nat -> Prop} {w : World} {σ : Nat -> Nat} {nd : Heap} {n0 nx nw : Nat} {H1 : Heap}
def calleeB (bw : List Nat) (C : Conc) (H : Heap) (σ : Nat -> Nat) (nd : Heap) : Conc :=
  { ρ := fun i => C.ρ (σ i), one := fun i => C.one (σ i), own := fun i => C.own (σ i), B := C.B
    X := fun b => C.X b ∨ ∃ i o, get H i = some o /\ i ∉ bw /\ (∀ j o', get nd j = some o' -> σ j ≠ i) /\ b ∈ C.own i }
def pT (hF : Fit U H σ nd n0 nx nw H1) (b : Nat) (h : (calleeB bw C H σ nd).avoid nd b) : C.avoid H b := by
  rcases h with (h | ⟨i, o, hi, _, _, hb⟩) | ⟨i, o, hi, hb⟩
  . exact .inl h
  . exact .inr ⟨i, o, hi, hb⟩
  exact .inr ⟨σ i, _, (hF.objs i o hi).1, hb⟩
def aWa (hR : RelH C H U w) (hF : Fit U H σ nd n0 nx nw H1) (hbw : ∀ i ∈ bw, ∀ j o', get nd j = some o' -> σ j ≠ i) {i : Nat} {o : AObj} (hi : i ∈ bw) (ho : get H i = some o) {b : Nat} (hb : b ∈ C.own i) : ¬ (calleeB bw C H σ nd).avoid nd b := by
  rintro ((h | ⟨i', o', hi', hn, _, hb'⟩) | ⟨j, o', hj, hb'⟩)
  . exact hR.xapart i o b ho hb h
  . exact hR.apart i i' o o' b (fun e => hn (e ▸ hi)) ho hi' hb hb'
  exact hR.apart i (σ j) o _ b (fun e => hbw i hi j o' hj e.symm) ho (hF.objs j o' hj).1 hb hb'
def RelH.calleeB (hR : RelH C H U w) (hF : Fit U H σ nd n0 nx nw H1) : RelH (calleeB bw C H σ nd) nd (UU n0) w where
  obj := fun i o hi => ((hR.obj _ _ (hF.objs i o hi).1).mono (av' := (Abs.calleeB bw C H σ nd).avoid nd) (fun b _ hb => pT hF b hb) (fun _ _ _ => rfl) (fun _ _ => rfl)).unren (ρ := C.ρ)
  apart := fun i j oi oj b hne hi hj hb hb' => hR.apart (σ i) (σ j) _ _ b (fun e => hne (hF.inj i j oi oj hi hj e)) (hF.objs i oi hi).1 (hF.objs j oj hj).1 hb hb'
  xapart := fun i o b hi hb hx => by
    rcases hx with hx | ⟨j, oj, hj, _, hn, hb'⟩
    . exact hR.xapart _ _ b (hF.objs i o hi).1 hb hx
    exact hR.apart (σ i) j _ oj b (hn i o hi) (hF.objs i o hi).1 hj hb hb'
  xlt := fun b hx => by
    rcases hx with hx | ⟨j, oj, hj, _, hn, hb'⟩
    . exact hR.xlt b hx
    exact (hR.obj j oj hj).own_lt b hb'
  objb := fun i o hi => (hF.objs i o hi).2
  gl := hR.glK (fun b _ hb => pT hF b hb) (fun _ _ _ _ _ _ => rfl)
open Classical in
def RelH.backB (hR : RelH C H U w) (hF : Fit U H σ nd n0 nx nw H1) {C1 : Conc} {w' : World} (hR1 : RelH C1 H1 (UU (n0 + nw)) w') (hs : StepR (Abs.calleeB bw C H σ nd) nd (UU n0) w C1 H1 w') (hbw : ∀ i ∈ bw, ∀ j o', get nd j = some o' -> σ j ≠ i) (hfz : ∀ i o, get H1 i = some o -> o.noFz = true) :
    let H2 := over H (H1.map fun p => (shift σ n0 nx nw p.1, p.2.ren (shift σ n0 nx nw)))
    let C2 := Abs.back C C1 σ nd n0 nx nw
    RelH C2 H2 (aDc U nx nw) w' /\ StepR C H U w C2 H2 w' /\ ∀ r v, r.noFz = true -> r.bel (UU (n0 + nw)) -> Rep C1.ρ (C1.avoid H1) w'.heap r v -> Rep C2.ρ (C2.avoid H2) w'.heap (r.ren (shift σ n0 nx nw)) v /\ (r.ren (shift σ n0 nx nw)).bel (aDc U nx nw) := by
  intro H2 C2
  have hnew : ∀ i, U i -> ¬ (nx <= i /\ i < nx + nw) := fun i hu ⟨h1, h2⟩ => hF.fresh i h1 h2 hu
  have hτold : ∀ i, UU n0 i -> shift σ n0 nx nw i = σ i := fun i hu => by
    unfold shift; rw [if_neg]
    rintro ⟨h1, h2⟩
    have := hF.far
    rcases hu with hu | hu <;> omega
  have hτnew : ∀ i, n0 <= i -> i < n0 + nw -> shift σ n0 nx nw i = nx + (i - n0) := fun i h1 h2 => if_pos ⟨h1, h2⟩
  have hsplit : ∀ i, UU (n0 + nw) i -> UU n0 i ∨ (n0 <= i /\ i < n0 + nw) := fun i hu => by
    rcases hu with hu | hu
    . rcases Nat.lt_or_ge i n0 with h | h
      . exact .inl (.inl h)
      exact .inr ⟨h, hu⟩
    exact .inl (.inr hu)
  have hknown : ∀ i, UU (n0 + nw) i -> aDc U nx nw (shift σ n0 nx nw i) := fun i hu => by
    rcases hsplit i hu with h | ⟨h1, h2⟩
    . rw [hτold i h]; exact .inl (hF.known i h)
    rw [hτnew i h1 h2]; exact .inr og
  have hρ : ∀ i, UU (n0 + nw) i -> C2.ρ (shift σ n0 nx nw i) = C1.ρ i := fun i hu => by
    rcases hsplit i hu with h | ⟨h1, h2⟩
    . rw [hτold i h]
      show (if _ then _ else _) = _
      rw [if_neg (hnew _ (hF.known i h))]
      exact (hs.ρ i h).symm
    rw [hτnew i h1 h2]
    show (if _ then _ else _) = _
    rw [if_pos og]
    congr 1
    omega
  have hmem1 : ∀ i o, get H1 i = some o -> UU (n0 + nw) i := fun i o hi => (hR1.objb i o hi).1
  have hown1 : ∀ i o, get H1 i = some o -> C2.own (shift σ n0 nx nw i) = C1.own i := fun i o hi => by
    rcases hF.dom i o hi with ⟨o', ho'⟩ | ⟨h1, h2⟩
    . have hu := (hF.objs i o' ho').2.1
      rw [hτold i hu]
      show (if _ then _ else if h : _ then _ else _) = _
      have hex : ∃ j o'', get nd j = some o'' /\ σ j = σ i := ⟨i, o', ho', rfl⟩
      rw [if_neg (hnew _ (hF.known i hu)), dif_pos hex]
      obtain ⟨o2, h1, h2⟩ := Classical.choose_spec hex
      rw [hF.inj _ i _ _ h1 ho' h2]
    rw [hτnew i h1 h2]
    show (if _ then _ else _) = _
    rw [if_pos og]
    congr 1
    omega
  have hinj1 : ∀ i j oi oj, get H1 i = some oi -> get H1 j = some oj -> shift σ n0 nx nw i = shift σ n0 nx nw j -> i = j := fun i j oi oj hi hj e => by
    rcases hF.dom i oi hi with ⟨o1, ho1⟩ | ⟨h1, h2⟩
    . have hu := (hF.objs i o1 ho1).2.1
      rcases hF.dom j oj hj with ⟨o2, ho2⟩ | ⟨h3, h4⟩
      . have hu2 := (hF.objs j o2 ho2).2.1
        rw [hτold i hu, hτold j hu2] at e
        exact hF.inj i j _ _ ho1 ho2 e
      rw [hτold i hu, hτnew j h3 h4] at e
      exact absurd ⟨og, og⟩ (hnew _ (hF.known i hu))
    rcases hF.dom j oj hj with ⟨o2, ho2⟩ | ⟨h3, h4⟩
    . have hu2 := (hF.objs j o2 ho2).2.1
      rw [hτold j hu2, hτnew i h1 h2] at e
      exact absurd ⟨og, og⟩ (hnew _ (hF.known j hu2))
    rw [hτnew i h1 h2, hτnew j h3 h4] at e; omega
  have hcase : ∀ i o, get H2 i = some o -> (∃ j o', get H1 j = some o' /\ shift σ n0 nx nw j = i /\ o'.ren (shift σ n0 nx nw) = o) ∨
      (get H i = some o /\ C2.own i = C.own i /\ ∀ j o', get nd j = some o' -> σ j ≠ i) := fun i o hi => by
    rw [bC] at hi
    cases hm : get (H1.map fun p => (shift σ n0 nx nw p.1, p.2.ren (shift σ n0 nx nw))) i with
    | some y =>
      rw [hm] at hi; cases hi
      exact .inl (zX _ _ _ _ _ hm)
    | none =>
      rw [hm] at hi
      have hun : ∀ j o', get nd j = some o' -> σ j ≠ i := fun j o' hj e => by
        obtain ⟨o2, ho2⟩ := hF.all j o' hj
        have := aCj (shift σ n0 nx nw) (AObj.ren (shift σ n0 nx nw)) H1 j o2 hinj1 ho2
        rw [hτold j (hF.objs j o' hj).2.1, e, hm] at this; cases this
      refine .inr ⟨hi, ?_, hun⟩
      show (if _ then _ else if h : _ then _ else _) = _
      rw [if_neg (hnew _ (hR.objb i o hi).1), dif_neg]
      rintro ⟨j, o', hj, e⟩
      exact hun j o' hj e
  have hW1 : ∀ b, (Abs.calleeB bw C H σ nd).W nd b -> C.W H b := fun b ⟨i, o, hi, hb⟩ => ⟨σ i, _, (hF.objs i o hi).1, hb⟩
  have hav2 : ∀ b, b < w.heap.size -> C2.avoid H2 b -> C.avoid H b := fun b hlt hb => by
    rcases hb with hb | ⟨i, o, hi, hb⟩
    . exact .inl hb
    rcases hcase i o hi with ⟨j, o', hj, rfl, _⟩ | ⟨hi', hown, hun⟩
    . rcases hs.wr b ⟨j, o', hj, by rw [<- hown1 j o' hj]; exact hb⟩ with h1 | h1
      . exact .inr (hW1 b h1)
      omega
    rw [hown] at hb
    exact .inr ⟨i, o, hi', hb⟩
  have hstep : StepR C H U w C2 H2 w' :=
    { os := hs.os, tape := hs.tape, output := hs.output, size := hs.size
      keep := fun k hk hn => hs.keep k hk fun q => hn (hW1 k q)
      wr := fun b ⟨i, o, hi, hb⟩ => by
        rcases hcase i o hi with ⟨j, o', hj, rfl, _⟩ | ⟨hi', hown, hun⟩
        . rcases hs.wr b ⟨j, o', hj, by rw [<- hown1 j o' hj]; exact hb⟩ with h1 | h1
          . exact .inl (hW1 b h1)
          exact .inr h1
        exact .inl ⟨i, o, hi', by rw [<- hown]; exact hb⟩
      X := rfl, B := rfl
      ρ := fun i hi => if_neg (hnew i hi) }
  have hrep : ∀ r v, r.noFz = true -> r.bel (UU (n0 + nw)) -> Rep C1.ρ (C1.avoid H1) w'.heap r v -> Rep C2.ρ (C2.avoid H2) w'.heap (r.ren (shift σ n0 nx nw)) v := fun r v hf hr hrr =>
    Rep.ren (ρ := C2.ρ) ((hrr.anywhere (av' := C2.avoid H2) hf).named (ρ' := fun i => C2.ρ (shift σ n0 nx nw i)) hρ hr)
  have cross : ∀ i oi, get H i = some oi -> (∀ j o', get nd j = some o' -> σ j ≠ i) -> ∀ j oj, get H1 j = some oj -> ∀ b, b ∈ C.own i -> b ∈ C1.own j -> False := fun i oi hi hun j oj hj b hb hb' => by
    rcases hs.wr b ⟨j, oj, hj, hb'⟩ with ⟨q, oq, hq, hbq⟩ | h1
    . exact hR.apart i (σ q) oi _ b (fun e => hun q oq hq e.symm) hi (hF.objs q oq hq).1 hb hbq
    have := (hR.obj i oi hi).own_lt b hb; omega
  refine ⟨{ obj := fun i o hi => ?_, apart := fun i j oi oj b hne hi hj hb hb' => ?_, xapart := fun i o b hi hb hx => ?_, xlt := fun b hx => Nat.lt_of_lt_of_le (hR.xlt b hx) hs.size, objb := fun i o hi => ?_, gl := hR.glK hav2 fun b _ _ _ hb hn => hs.keep b (ltB hb) fun q => hn (.inr (hW1 b q)) }, hstep, fun r v hf hr hrr => ⟨hrep r v hf hr hrr, AV.bel_ren.2 (AV.bel_mono hknown r hr)⟩⟩
  . rcases hcase i o hi with ⟨j, o', hj, rfl, rfl⟩ | ⟨hi', hown, hun⟩
    . rw [hown1 j o' hj, hρ j (hmem1 j o' hj)]
      exact cX.ren (ρ := C2.ρ) (((hR1.obj j o' hj).anywhere (av' := C2.avoid H2) (hfz j o' hj)).named (ρ' := fun i => C2.ρ (shift σ n0 nx nw i)) hρ (hR1.objb j o' hj).2)
    have hkeep : ∀ b, b ∈ C.own i -> w'.heap[b]? = w.heap[b]? := fun b hb => hs.keep b ((hR.obj i o hi').own_lt b hb) fun ⟨j, oj, hj, hb'⟩ =>
      hR.apart i (σ j) o _ b (fun e => hun j oj hj e.symm) hi' (hF.objs j oj hj).1 hb hb'
    have hρi : C2.ρ i = C.ρ i := if_neg (hnew i (hR.objb i o hi').1)
    rw [hown, hρi]
    exact ((hR.obj i o hi').mono (av' := C2.avoid H2) (fun b hb hq => hav2 b hb hq) (fun b hb hn => hs.keep b hb fun q => hn (.inr (hW1 b q))) hkeep).named (ρ' := C2.ρ) (fun j hj => if_neg (hnew j hj)) (hR.objb i o hi').2
  . rcases hcase i oi hi with ⟨i', oi', hi', rfl, _⟩ | ⟨hi', hown, hun⟩
    . rw [hown1 i' oi' hi'] at hb
      rcases hcase j oj hj with ⟨j', oj', hj', rfl, _⟩ | ⟨hj', hown2, hun2⟩
      . rw [hown1 j' oj' hj'] at hb'
        exact hR1.apart i' j' oi' oj' b (fun e => hne (by rw [e])) hi' hj' hb hb'
      rw [hown2] at hb'
      exact cross j oj hj' hun2 i' oi' hi' b hb' hb
    rw [hown] at hb
    rcases hcase j oj hj with ⟨j', oj', hj', rfl, _⟩ | ⟨hj', hown2, hun2⟩
    . rw [hown1 j' oj' hj'] at hb'
      exact cross i oi hi' hun j' oj' hj' b hb hb'
    rw [hown2] at hb'
    exact hR.apart i j oi oj b hne hi' hj' hb hb'
  . rcases hcase i o hi with ⟨j, o', hj, rfl, _⟩ | ⟨hi', hown, hun⟩
    . rw [hown1 j o' hj] at hb
      exact hR1.xapart j o' b hj hb (by rw [hs.X]; exact .inl hx)
    rw [hown] at hb
    exact hR.xapart i o b hi' hb hx
  rcases hcase i o hi with ⟨j, o', hj, rfl, rfl⟩ | ⟨hi', hown, hun⟩
  . exact ⟨hknown j (hmem1 j o' hj), AObj.bel_ren.2 (AObj.bel_mono hknown o' (hR1.objb j o' hj).2)⟩
  exact ⟨.inl (hR.objb i o hi').1, AObj.bel_mono (fun _ h => .inl h) o (hR.objb i o hi').2⟩
end
end
section
variable [Globals]
variable {x : AV} {v : Value}
def qI (h : Nat -> Option AObj) (bw : List Nat) : AV -> AV
  | .ref i => if i ∈ bw then (match h i with
    | some (.row _ sz xs) => .sl sz (fzL xs)
    | _ => .ref i) else .ref i
  | x => x
def nT (h : Nat -> Option AObj) (bw : List Nat) : List AV -> List AV
  | [] => []
  | x :: r => qI h bw x :: nT h bw r
def zQ (h : Nat -> Option AObj) (bw : List Nat) : AV -> AV
  | .agg cs => .agg (nT h bw cs)
  | x => qI h bw x
def aSo (h : Nat -> Option AObj) (bw : List Nat) : ∀ (xs : List AV) (j : Nat), (nT h bw xs)[j]? = (xs[j]?).map (qI h bw)
  | [], j => rfl
  | x :: xs, 0 => rfl
  | x :: xs, j + 1 => by simpa [nT] using aSo h bw xs j
def aDp (h : Nat -> Option AObj) (bw : List Nat) : ∀ xs : List AV, (nT h bw xs).length = xs.length
  | [] => rfl
  | x :: xs => by simp [nT, aDp h bw xs]
section
variable {P : Program} {ro : Option Nat} {N : Nat} {o : Oper} {E : Env} {H : Heap} {nx b0 : Nat} {ds : List (Option Tmp)} {C : Conc} {U : Nat -> Prop} {a : Act} {w : World} {bw : List Nat} {σ : Nat -> Nat} {nd H1 : Heap} {n0 nw : Nat}
def aSy (hR : RelH C H U w) (hF : Fit U H σ nd n0 nx nw H1) (hbw : ∀ i ∈ bw, ∀ j o', get nd j = some o' -> σ j ≠ i) (h : Rep C.ρ (C.avoid H) w.heap x v) : Rep C.ρ ((calleeB bw C H σ nd).avoid nd) w.heap (qI (get H) bw x) v := by
  have plain : Rep C.ρ ((calleeB bw C H σ nd).avoid nd) w.heap x v := h.mono (fun b _ hb => pT hF b hb) (fun _ _ _ => rfl)
  cases x with
  | ref i =>
    simp only [qI]; split
    . rename_i hi
      split
      . rename_i e sz xs hH
        cases h
        obtain ⟨h1, _⟩ := hR.obj i _ hH
        have h2 : RepO C.ρ ((calleeB bw C H σ nd).avoid nd) w.heap (.own e sz xs) (C.ρ i) (C.own i) := h1.mono' (fun b _ hb => pT hF b hb) (fun _ _ _ _ _ _ => rfl) (fun _ _ => rfl)
        exact h2.fz fun b hb => aWa hR hF hbw hi hH hb
      exact plain
    exact plain
  | _ => exact plain
def bLy (hR : RelH C H U w) (hF : Fit U H σ nd n0 nx nw H1) (hbw : ∀ i ∈ bw, ∀ j o', get nd j = some o' -> σ j ≠ i) (h : Rep C.ρ (C.avoid H) w.heap x v) : Rep C.ρ ((calleeB bw C H σ nd).avoid nd) w.heap (zQ (get H) bw x) v := by
  cases x with
  | agg cs =>
    cases h with
    | agg _ vs hn hr =>
      refine .agg _ vs (by rw [aDp]; exact hn) fun j y hy => ?_
      rw [aSo] at hy
      obtain ⟨z, hz, rfl⟩ := A8.1 hy
      exact aSy hR hF hbw (hr j z hz)
  | _ => exact aSy hR hF hbw h
def aNv {c : Call} {f : Nat} {fn : Func} {code : Code} {args xs : List AV} {m0 n1 : Nat} {r0 : AV} (s : List (Nat × Nat)) (bw : List Nat) (nw : Nat) (hg : o.guard = none) (ho : o.op = .call c) (hc : c.callee = .value (.func f)) (hT : FnT P f fn code)
    (hN : oD o N) (hM : aH P f args nd m0 r0 H1 n1) (hn1 : n1 = m0 + nw) (hxs : c.args.toList.map (opv E) = xs.map some) (hargs : xs.map (zQ (get H) bw) = aA (sg s) args) (hab : aE (UU m0) args) (hF : FitC H s nd m0 nw H1)
    (hbw : ∀ i ∈ bw, ∀ p ∈ nd, sg s p.1 ≠ i) (hfr : r0.noFz = true) (hfo : ∀ p ∈ H1, p.2.noFz = true) :
    aS P ro N ds o b0 E H (tO c.args.toList) ((nd.map fun p => sg s p.1) ++ bw) (r0.ren (shift (sg s) m0 nx nw)) (H1.map fun p => (shift (sg s) m0 nx nw p.1, p.2.ren (shift (sg s) m0 nx nw))) nx nw := by
  subst hn1
  intro E' H' U hE hH hU hnx C a w next Q hR hK
  have hops := oCg hE
  have hfit := hF.fit hR.toRelH (fun j hj => hU j (.inr hj)) (fun p hp => hH _ (B4.2 (.inl (B3.2 ⟨p, hp, rfl⟩)))) hnx
  have hbw' : ∀ i ∈ bw, ∀ j o', get nd j = some o' -> sg s j ≠ i := fun i hi j o' hj => hbw i hi _ (aV hj)
  have hRc := hR.toRelH.calleeB (bw := bw) hfit
  have hxs' : c.args.toList.map (opv E') = xs.map some := by
    rw [<- hxs]
    exact D9 fun x hx => hops x hx
  obtain ⟨h2, _⟩ := sF hR hxs'
  have hlend : ∀ x : AV, zQ (get H') bw x = zQ (get H) bw x := by
    have h1 : ∀ x : AV, qI (get H') bw x = qI (get H) bw x := fun x => by
      cases x with
      | ref i =>
        simp only [qI]; split
        . rename_i hi
          rw [hH i (B4.2 (.inr hi))]
        rfl
      | _ => rfl
    have h2 : ∀ l : List AV, nT (get H') bw l = nT (get H) bw l := fun l => by
      induction l with
      | nil => rfl
      | cons x r ih => rw [nT, nT, h1, ih]
    intro x; unfold zQ; split
    . rw [h2]
    exact h1 _
  have hvals : cZ C.ρ ((calleeB bw C H' (sg s) nd).avoid nd) w.heap (aA (sg s) args) (c.args.map a.eval) := by
    rw [<- hargs]
    refine ⟨by rw [A2]; exact h2.1, fun j y hy => ?_⟩
    rw [B5] at hy
    obtain ⟨z, hz, rfl⟩ := A8.1 hy
    have := bLy (bw := bw) hR.toRelH hfit hbw' (h2.2 j z hz)
    rwa [hlend] at this
  have hargsR : cZ (calleeB bw C H' (sg s) nd).ρ ((calleeB bw C H' (sg s) nd).avoid nd) w.heap args (c.args.map a.eval) := hvals.unren (ρ := C.ρ)
  refine rT hg (aRa (R := fun v w' => ∃ C1, RelH C1 H1 (UU (m0 + nw)) w' /\ StepR (calleeB bw C H' (sg s) nd) nd (UU m0) w C1 H1 w' /\ Rep C1.ρ (C1.avoid H1) w'.heap r0 v /\ r0.bel (UU (m0 + nw))) ho hc hT
    ((hM _ w _ hRc hargsR hab).mono fun e w' ⟨v, r, H2, n', C1, he, hn', ⟨hr, hH2, hn2⟩, h1, h2, h3, h4⟩ => ?_) fun v w' ⟨C1, h1, h2, h3, h4⟩ => ?_)
  . subst hr; subst hH2; subst hn2
    exact ⟨v, he, C1, h1, h2, h3, h4⟩
  obtain ⟨k1, k2, k3⟩ := hR.toRelH.backB hfit h1 h2 hbw' (fun i o hi => hfo _ (aV hi))
  obtain ⟨k4, k5⟩ := k3 r0 v hfr h4 h3
  have hRel := hR.change k2 (fun i hi => .inl hi) k1
  exact hK _ _ w' (hRel.put hN k4 k5) k2
end
end
section
variable [Globals]
section
variable {C : Conc} {N : Nat} {E : Env} {H : Heap} {U : Nat -> Prop} {a : Act} {w : World}
def Rel.xturn (hR : Rel C N E H U a w) {l : Nat} {o o' : Obj} (hl : w.heap[l]? = some o) (ho : ∀ cells t fr, o ≠ .cells cells t fr) (hd : ∀ ds, o ≠ .deferred ds) (hx : C.X l) : Rel C N E H U a (w.putObj l o') := by
  have hother : ∀ k, k ≠ l -> (w.putObj l o').heap[k]? = w.heap[k]? := fun k hk => by
    show (w.heap.setIfInBounds l _)[k]? = _
    rw [G8, if_neg (fun e => hk e.symm)]
  have hsz : (w.putObj l o').heap.size = w.heap.size := by show (w.heap.setIfInBounds l _).size = _; simp
  have heq : ∀ b cells t fr, w.heap[b]? = some (.cells cells t fr) -> ¬ C.avoid H b -> (w.putObj l o').heap[b]? = w.heap[b]? := fun b cells t fr hb _ => hother b (fun e => by rw [e, hl] at hb; cases hb; exact ho _ _ _ rfl)
  exact {
    obj := fun i ob hi => (hR.obj i ob hi).mono' (fun _ _ h => h) heq (fun b hb => hother b (fun e => hR.xapart i ob b hi hb (e ▸ hx)))
    apart := hR.apart
    xapart := hR.xapart
    xlt := fun b hb => by rw [hsz]; exact hR.xlt b hb
    gl := hR.toRelH.glK (fun _ _ h => h) heq
    objb := hR.objb
    size := hR.size
    hB := by rw [hsz]; exact hR.hB
    nodup := hR.nodup
    marks := fun d hd' => by
      obtain ⟨r, h1, h2, h3, h4⟩ := hR.marks d hd'
      exact ⟨r, h1, h2, (hother r (fun e => h4 (.inl (e ▸ hx)))).trans h3, h4⟩
    env := fun t x ht => by
      obtain ⟨h1, h2, h3⟩ := hR.env t x ht
      exact ⟨h1, h2, h3.mono' (fun _ _ h => h) heq⟩ }
end
end
section
variable [Globals]
variable {l : Nat} {w : World} {C : Conc} {U : Nat -> Prop}
def qZ (H : Heap) : Heap -> Prop
  | [] => True
  | (i, o) :: r => get H i = some o /\ qZ H r
def aCm {H : Heap} : ∀ {H1 : Heap}, qZ H H1 -> ∀ i o, get H1 i = some o -> get H i = some o
  | [], _, _, _, h => by cases h
  | (k, x) :: r, h, i, o, hi => by
    unfold Abs.get at hi; split at hi
    . rename_i e; subst e; cases hi; exact h.1
    exact aCm h.2 i o hi
def tX (P : Program) (l : Nat) (args : List AV) (nd : Heap) (n0 : Nat) (r0 : AV) (H1 : Heap) : Prop :=
  ∀ (C : Conc) (w : World) (vals : Array Value), RelH C nd (UU n0) w -> cZ C.ρ (C.avoid nd) w.heap args vals -> aE (UU n0) args ->
    YieldAt (FW none) 0 P l vals w fun e w' => ∃ v C', e = .returned v /\ RelH C' H1 (UU n0) w' /\ StepR C nd (UU n0) w C' H1 w' /\ Rep C'.ρ (C'.avoid H1) w'.heap r0 v /\ r0.bel (UU n0)
def tX.mono {P : Program} {vals : Array Value} {R R' : Ending -> World -> Prop} (h : YieldAt (FW none) 0 P l vals w R) (hr : ∀ e w', R e w' -> R' e w') : YieldAt (FW none) 0 P l vals w R' := by
  obtain ⟨fn, tmps, assign, body, h1, h2⟩ := h
  exact ⟨fn, tmps, assign, body, h1, h2.mono hr⟩
section
variable {P : Program} {N : Nat} {o : Oper} {E : Env} {H : Heap} {nx b0 : Nat} {ds : List (Option Tmp)}
def AObj.ren_id' (o : AObj) : o.ren id = o := by
  cases o with
  | dead => rfl
  | cells t cs => simp [AObj.ren, iT]
  | row e sz xs => simp [AObj.ren, iT]
  | map kt et m =>
    simp only [AObj.ren, AObj.map.injEq, true_and]
    induction m with
    | nil => rfl
    | cons p r ih => simp [AV.ren_id, ih]
  | mapS kt et m k st =>
    simp only [AObj.ren, AObj.mapS.injEq, true_and, and_true, id]
    induction m with
    | nil => rfl
    | cons p r ih =>
      have e : (fun i : Nat => i) = id := rfl
      simp [AV.ren_id, ih]
  | other b ob => rfl
  | loop l rec No Eo =>
    simp only [AObj.ren, AObj.loop.injEq, true_and]
    induction Eo with
    | nil => rfl
    | cons p r ih => simp [AV.ren_id, ih]
def aHh {c : Call} {y : Operand} {args : List AV} {nd H1 : Heap} {r0 : AV} (hg : o.guard = none) (ho : o.op = .call c) (hc : c.callee = .value y) (hy : opv E y = some (.raw (.func (.yield l) #[] #[])))
    (hN : oD o N) (hM : tX P l args nd 0 r0 H1) (hargs : c.args.toList.map (opv E) = args.map some) (hab : aE (UU 0) args) (hF : FitC H [] nd 0 0 H1) :
    aS P none N ds o b0 E H (tO (y :: c.args.toList)) (nd.map (·.1)) r0 H1 nx 0 := by
  intro E' H' U hE hH hU hnx C a w next Q hR hK
  have hops := oCg hE
  have hfit := hF.fit (nx := nx) hR.toRelH (fun j hj => hU j (.inr hj)) (fun p hp => hH _ (B3.2 ⟨p, hp, rfl⟩)) hnx
  rw [bAw] at hfit
  have hRc := hR.toRelH.callee hfit
  obtain ⟨h1, _⟩ := hR.opv (x := y) (r := .raw (.func (.yield l) #[] #[])) (by rw [hops y oS]; exact hy)
  have hev : a.eval y = .func (.yield l) #[] #[] := by generalize a.eval y = v at h1; cases h1; rfl
  have hxs' : c.args.toList.map (opv E') = args.map some := by
    rw [<- hargs]
    exact D9 fun x hx => hops x (A4 _ hx)
  obtain ⟨h2, _⟩ := sF hR hxs'
  have hargsR : cZ (callee C H' id nd).ρ ((callee C H' id nd).avoid nd) w.heap args (c.args.map a.eval) :=
    h2.mono (av' := (callee C H' id nd).avoid nd) (fun b _ hb => (eQ hfit b).1 hb) (fun _ _ _ => rfl)
  refine rT hg ⟨fun _ _ => trivial, ?_⟩
  obtain ⟨fn, tmps, assign, body, hy2, hround⟩ := hM _ w _ hRc hargsR hab
  have hrun : (execOp a.eval o).run P w = .ok (.round l fn tmps assign body) w := by
    simp [execOp, ho, resolve, hc, hev, Deferred.ofValue, invoke, hy2]
  rw [qK (by simp [ho, Op.noDefer]), hrun, Oper.uponIn_round]
  refine ⟨fun hh => (by cases hh), hround.mono fun e w' ⟨v, C1, he, k1, k2, k3, k4⟩ => ?_⟩
  subst he
  obtain ⟨q1, q2, q3⟩ := hR.toRelH.back hfit k1 k2
  rw [bH] at q1 q2 q3
  obtain ⟨q4, q5⟩ := q3 r0 v k4 k3
  have hmap : (H1.map fun p => (id p.1, p.2.ren id)) = H1 := by
    conv => rhs; rw [<- List.map_id H1]
    exact D9 fun p _ => by rw [AObj.ren_id']; rfl
  rw [hmap] at q1 q2 q4
  rw [AV.ren_id] at q4 q5
  exact hK _ _ w' ((hR.change q2 (fun i hi => .inl hi) q1).put hN q4 q5) q2
def bAz (Ho : Heap) (j : Option Code) : AQ := fun e E H nx =>
  match e with
  | .normal => j = none /\ qZ H Ho
  | .ret => j = some .ret /\ qZ H Ho
  | .exit id => j = some (.exit id) /\ qZ H Ho
  | _ => False
def bBf : List Nat -> List AV -> Env -> Env
  | p :: ps, x :: xs, E => bBf ps xs ((p, x) :: E)
  | _, _, E => E
def Rel.params : ∀ (ps : List Nat) (xs : List AV) (vs : List Value) (E : Env) (tmps : Array Value), (∀ p ∈ ps, p < N) -> xs.length = ps.length -> vs.length = xs.length ->
    (∀ (j : Nat) (x : AV), xs[j]? = some x -> x.bel U /\ Rep C.ρ (C.avoid H) w.heap x (vs.getD j undef)) -> Rel C N E H U { tmps := tmps, defers := [] } w ->
    Rel C N (bBf ps xs E) H U { tmps := (ps.zip vs).foldl (fun t (q : Nat × Value) => t.setIfInBounds q.1 q.2) tmps, defers := [] } w
  | [], [], vs, E, tmps, _, _, _, _, h => by simpa [bBf] using h
  | p :: ps, x :: xs, v :: vs, E, tmps, hp, hl, hv, hx, h => by
    simp only [bBf, List.zip_cons_cons, List.foldl_cons]
    have hx0 := hx 0 x rfl
    refine Rel.params ps xs vs _ _ (fun q hq => hp q (A4 _ hq)) (by simpa using hl) (by simpa using hv) (fun j y hj => hx (j + 1) y (by simpa using hj)) ?_
    have := h.put (dst := some p) (r := x) (v := v) (fun d hd => by cases hd; exact hp p A5) (by simpa using hx0.2) hx0.1
    exact this
  | [], _ :: _, _, _, _, _, hl, _, _, _ => by simp at hl
  | _ :: _, [], _, _, _, _, hl, _, _, _ => by simp at hl
  | _ :: _, _ :: _, [], _, _, _, _, hv, _, _ => by simp at hv
def Rel.turn {a : Act} (hR : Rel C N E H U a w) {o o' : Obj} (hl : w.heap[l]? = some o) (ho : ∀ cells t fr, o ≠ .cells cells t fr) (hd : ∀ ds, o ≠ .deferred ds)
    (hx : ∀ i ob, get H i = some ob -> l ∉ C.own i) : Rel C N E H U a (w.putObj l o') := by
  have hother : ∀ k, k ≠ l -> (w.putObj l o').heap[k]? = w.heap[k]? := fun k hk => by
    show (w.heap.setIfInBounds l _)[k]? = _
    rw [G8, if_neg (fun e => hk e.symm)]
  have hsz : (w.putObj l o').heap.size = w.heap.size := by show (w.heap.setIfInBounds l _).size = _; simp
  have heq : ∀ b cells t fr, w.heap[b]? = some (.cells cells t fr) -> ¬ C.avoid H b -> (w.putObj l o').heap[b]? = w.heap[b]? := fun b cells t fr hb _ => hother b (fun e => by rw [e, hl] at hb; cases hb; exact ho _ _ _ rfl)
  exact {
    obj := fun i ob hi => (hR.obj i ob hi).mono' (fun _ _ h => h) heq (fun b hb => hother b (fun e => hx i ob hi (e ▸ hb)))
    apart := hR.apart
    xapart := hR.xapart
    xlt := fun b hb => by rw [hsz]; exact hR.xlt b hb
    gl := hR.toRelH.glK (fun _ _ h => h) heq
    objb := hR.objb
    size := hR.size
    hB := by rw [hsz]; exact hR.hB
    nodup := hR.nodup
    marks := fun d hd' => by
      obtain ⟨r, h1, h2, h3, h4⟩ := hR.marks d hd'
      exact ⟨r, h1, h2, (hother r (fun e => by rw [e, hl] at h3; exact hd _ (Option.some.inj h3))).trans h3, h4⟩
    env := fun t x ht => by
      obtain ⟨h1, h2, h3⟩ := hR.env t x ht
      exact ⟨h1, h2, h3.mono' (fun _ _ h => h) heq⟩ }
def Rep.step' {C' : Conc} {H' : Heap} {w' : World} (hs : StepR C H U w C' H' w') {x : AV} {v : Value} (hx : x.bel U) (hr : Rep C.ρ (C.avoid H) w.heap x v) : Rep C'.ρ (C'.avoid H') w'.heap x v := by
  refine (hr.mono (fun b hb hq => ?_) (fun b hb hn => hs.keep b hb (fun q => hn (.inr q)))).named hs.ρ hx
  rcases hq with hq | hq
  . exact .inl (by rw [<- hs.X]; exact hq)
  rcases hs.wr b hq with h1 | h1
  . exact .inr h1
  omega
def aPc {l nL : Nat} {rec : Loop} {Eo : Env} {Ho Ho' : Heap} {n0 : Nat} {xs : List AV} {j : Option Code} (hst : rec.state = .ready) (hpd : rec.pending = none) (hpl : xs.length = rec.params.size) (hpN : ∀ p ∈ rec.params.toList, p < N)
    (hnL : ∀ o, get Ho nL ≠ some o) (hnL' : ∀ o, get Ho' nL ≠ some o) (hUL : UU n0 nL) (hb' : ∀ i o, get Ho' i = some o -> UU n0 i /\ o.bel (UU n0))
    (h : AWP P (some l) N n0 rec.assign (aLj (AWP P (some l) N n0 rec.body (bAz Ho' j)) (fun _ _ _ _ => False)) (bBf rec.params.toList xs Eo) Ho n0) :
    tX P l xs ((nL, .loop l rec N Eo) :: Ho) n0 (.raw (.bool j.isNone)) ((nL, .loop l { rec with state := if j.isNone then .ready else .done, pending := j } N Eo) :: Ho') := by
  intro C w vals hRH hargs hb
  have hgL : get ((nL, AObj.loop l rec N Eo) :: Ho) nL = some (.loop l rec N Eo) := by rw [aY, if_pos rfl]
  have hgo : ∀ i ob, get Ho i = some ob -> i ≠ nL /\ get ((nL, AObj.loop l rec N Eo) :: Ho) i = some ob := fun i ob hi => by
    have hne : i ≠ nL := fun e => by rw [e] at hi; exact hnL _ hi
    exact ⟨hne, by rw [aY, if_neg (fun e => hne e.symm)]; exact hi⟩
  obtain ⟨hv, hown, hl, hsz, hslots⟩ := hRH.obj nL _ hgL
  have hlt := ltB hl
  have hlown : ∀ i ob, get Ho i = some ob -> l ∉ C.own i := fun i ob hi hli => hRH.apart i nL _ _ l (hgo i ob hi).1 (hgo i ob hi).2 hgL hli (by rw [hown]; exact B6.2 rfl)
  obtain ⟨Cr, hCr⟩ : ∃ Cr : Conc, Cr = { C with X := fun b => C.X b ∨ b = l, B := w.heap.size } := ⟨_, rfl⟩
  have hCX : ∀ b, Cr.X b ↔ C.X b ∨ b = l := fun b => by rw [hCr]
  have hCρ : Cr.ρ = C.ρ := by rw [hCr]
  have hCo : Cr.own = C.own := by rw [hCr]
  have hCB : Cr.B = w.heap.size := by rw [hCr]
  have hWW : ∀ b, Cr.W Ho b -> C.W ((nL, AObj.loop l rec N Eo) :: Ho) b := fun b ⟨i, ob, hi, hb⟩ => ⟨i, ob, (hgo i ob hi).2, by rw [<- hCo]; exact hb⟩
  have hlW : C.W ((nL, AObj.loop l rec N Eo) :: Ho) l := ⟨nL, _, hgL, by rw [hown]; exact B6.2 rfl⟩
  have hav : ∀ b, Cr.avoid Ho b -> C.avoid ((nL, AObj.loop l rec N Eo) :: Ho) b := fun b hb => by
    rcases hb with hb | hb
    . rcases (hCX b).1 hb with hb | hb
      . exact .inl hb
      subst hb; exact .inr hlW
    exact .inr (hWW b hb)
  have hRr : RelH Cr Ho (UU n0) w :=
    { obj := fun i ob hi => by rw [hCρ, hCo]; exact (hRH.obj i ob (hgo i ob hi).2).mono (fun b _ => hav b) (fun _ _ _ => rfl) (fun _ _ => rfl)
      apart := fun i k oi ok b hne hi hk => by rw [hCo]; exact hRH.apart i k oi ok b hne (hgo i oi hi).2 (hgo k ok hk).2
      xapart := fun i ob b hi hb hx => by
        rw [hCo] at hb
        rcases (hCX b).1 hx with hx | hx
        . exact hRH.xapart i ob b (hgo i ob hi).2 hb hx
        subst hx; exact hlown i ob hi hb
      xlt := fun b hx => by
        rcases (hCX b).1 hx with hx | hx
        . exact hRH.xlt b hx
        subst hx; exact hlt
      objb := fun i ob hi => hRH.objb i ob (hgo i ob hi).2
      gl := hRH.glK (fun b _ => hav b) (fun _ _ _ _ _ _ => rfl) }
  have hEb : aE (UU n0) (Eo.map (·.2)) := (hRH.objb nL _ hgL).2
  have hslot : ∀ (k t : Nat) (x : AV), Eo[k]? = some (t, x) -> t < N /\ x.bel (UU n0) /\ Rep Cr.ρ (Cr.avoid Ho) w.heap x (rec.tmps.getD t undef) := fun k t x hk =>
    ⟨(hslots k t x hk).1, bG hEb (j := k) (by simp [hk]), by rw [hCρ]; exact (hslots k t x hk).2.mono (fun b _ => hav b) (fun _ _ _ => rfl)⟩
  have hRo : Rel Cr N Eo Ho (UU n0) { tmps := rec.tmps, defers := [] } w :=
    { toRelH := hRr, size := hsz, hB := by rw [hCB]; exact A0 _, nodup := D8, marks := fun d hd => by cases hd
      env := fun t x ht => by
        obtain ⟨k, hk⟩ := G5 (aV ht)
        exact hslot k t x hk }
  have hvl : vals.size = xs.length := hargs.1
  have hR0 := Rel.params rec.params.toList xs vals.toList Eo rec.tmps hpN (by simpa using hpl) (by simpa using hvl) (fun k x hk => ⟨bG hb hk, by
    have := (hargs.2 k x hk).mono (av' := Cr.avoid Ho) (fun b _ => hav b) (fun _ _ _ => rfl)
    rw [hCρ]
    simpa [B2] using this⟩) hRo
  have htm : (rec.params.zip vals).foldl (fun tmps (q : Nat × Value) => tmps.setIfInBounds q.1 q.2) rec.tmps = (rec.params.toList.zip vals.toList).foldl (fun t (q : Nat × Value) => t.setIfInBounds q.1 q.2) rec.tmps := by
    rw [<- Array.foldl_toList, Array.toList_zip]
  have hyr := run_yield (P := P) (args := vals) hl (by rw [hvl, hpl])
  refine ⟨rec.fn, _, rec.assign, rec.body, hyr, roundIn_of_wpIn trivial ?_⟩
  have htm' : (Array.foldl (fun tmps (x : Tmp × Value) => match x with | (t, a) => tmps.setIfInBounds t a) rec.tmps (rec.params.zip vals)) = (rec.params.toList.zip vals.toList).foldl (fun t (q : Nat × Value) => t.setIfInBounds q.1 q.2) rec.tmps := htm
  rw [htm']
  refine h Cr _ w _ (A0 _) hR0 fun e E1 H1 nx1 C1 a1 w1 hn1 hR1 hs1 hQ1 => ?_
  cases e with
  | normal =>
    have hl1 : w1.heap[l]? = some (.loop rec) := (hs1.keep l hlt (fun ⟨i, ob, hi, hb⟩ => hlown i ob hi (by rw [<- hCo]; exact hb))).trans hl
    have hX1 : C1.X = Cr.X := hs1.X
    have hXl1 : C1.X l := by rw [hX1]; exact (hCX l).2 (.inr rfl)
    have hR2 := hR1.xturn (o' := .loop { rec with state := .busy }) hl1 (fun _ _ _ e => by cases e) (fun _ e => by cases e) hXl1
    refine ⟨_, run_beginRound hl1 hst, hQ1 C1 a1 _ _ hn1 hR2 fun e E2 H2 nx2 C2 a2 w2 hn2 hR3 hs2 hQ2 => ?_⟩
    have hlt1 : l < w1.heap.size := ltB hl1
    have hsz1 : (w1.putObj l (.loop { rec with state := .busy })).heap.size = w1.heap.size := World.putObj_size
    have hlW1 : ¬ C1.W H1 l := fun ⟨i, ob, hi, hb⟩ => hR1.xapart i ob l hi hb hXl1
    have hl2 : w2.heap[l]? = some (.loop { rec with state := .busy }) := (hs2.keep l (by rw [hsz1]; exact hlt1) hlW1).trans (World.putObj_heap_same hlt1)
    have hlt2 := ltB hl2
    have hX2 : C2.X = Cr.X := hs2.X.trans hX1
    have hXl2 : C2.X l := by rw [hX2]; exact (hCX l).2 (.inr rfl)
    have hρ2 : ∀ i, UU n0 i -> C2.ρ i = C.ρ i := fun i hi => by rw [hs2.ρ i hi, hs1.ρ i hi, hCρ]
    have hother1 : ∀ (o' : Obj) (k : Nat), k ≠ l -> (w1.putObj l o').heap[k]? = w1.heap[k]? := fun o' k hk => World.putObj_heap_other hk
    have hother2 : ∀ (o' : Obj) (k : Nat), k ≠ l -> (w2.putObj l o').heap[k]? = w2.heap[k]? := fun o' k hk => World.putObj_heap_other hk
    have hslot2 : ∀ (k t : Nat) (x : AV), Eo[k]? = some (t, x) -> t < N /\ x.bel (UU n0) /\ Rep C2.ρ (C2.avoid H2) w2.heap x (rec.tmps.getD t undef) := fun k t x hk => by
      obtain ⟨h1, h2, h3⟩ := hslot k t x hk
      refine ⟨h1, h2, Rep.step' hs2 h2 ((Rep.step' hs1 h2 h3).mono' (fun _ _ h => h) fun b cells t fr hb _ => hother1 _ b fun e => by rw [e, hl1] at hb; cases hb)⟩
    have fin : qZ H2 Ho' -> ∃ v w', (Instr.endRound l j).run P w2 = .ok v w' /\ ∃ v' C', Ending.returned v = .returned v' /\ RelH C' ((nL, .loop l { rec with state := if j.isNone then .ready else .done, pending := j } N Eo) :: Ho') (UU n0) w' /\
        StepR C ((nL, .loop l rec N Eo) :: Ho) (UU n0) w C' ((nL, .loop l { rec with state := if j.isNone then .ready else .done, pending := j } N Eo) :: Ho') w' /\
        Rep C'.ρ (C'.avoid ((nL, .loop l { rec with state := if j.isNone then .ready else .done, pending := j } N Eo) :: Ho')) w'.heap (.raw (.bool j.isNone)) v' /\ (AV.raw (.bool j.isNone)).bel (UU n0) := fun hall => by
      have her := run_endRound (P := P) j hl2
      refine ⟨_, _, her, .bool j.isNone, { C2 with X := C.X, B := C.B, own := upd C2.own nL [l] }, rfl, ?_⟩
      generalize hrec1 : ({ rec with state := if j.isNone then .ready else .done, pending := j } : Loop) = rec1
      have hts : rec1.tmps = rec.tmps := by rw [<- hrec1]
      have hR4 := hR3.xturn (o' := .loop rec1) hl2 (fun _ _ _ e => by cases e) (fun _ e => by cases e) hXl2
      have hszz : (w2.putObj l (.loop rec1)).heap.size = w2.heap.size := World.putObj_size
      have hown3 : ∀ i, i ≠ nL -> upd C2.own nL [l] i = C2.own i := fun i hi => bW _ _ hi
      have hgL' : get ((nL, AObj.loop l rec1 N Eo) :: Ho') nL = some (.loop l rec1 N Eo) := by rw [aY, if_pos rfl]
      have hcase : ∀ i ob, get ((nL, AObj.loop l rec1 N Eo) :: Ho') i = some ob -> (i = nL /\ ob = .loop l rec1 N Eo) ∨ (i ≠ nL /\ get Ho' i = some ob /\ get H2 i = some ob) := fun i ob hi => by
        rw [aY] at hi; split at hi
        . rename_i e; exact .inl ⟨e.symm, (Option.some.inj hi).symm⟩
        rename_i e; exact .inr ⟨fun e' => e e'.symm, hi, aCm hall i ob hi⟩
      have hav3 : ∀ b, (C.X b ∨ ∃ i ob, get ((nL, AObj.loop l rec1 N Eo) :: Ho') i = some ob /\ b ∈ upd C2.own nL [l] i) -> C2.avoid H2 b := fun b hb => by
        rcases hb with hb | ⟨i, ob, hi, hb⟩
        . exact .inl (by rw [hX2]; exact (hCX b).2 (.inl hb))
        rcases hcase i ob hi with ⟨rfl, rfl⟩ | ⟨hne, h1, h2⟩
        . rw [aZ] at hb; rw [B6.1 hb]
          exact .inl hXl2
        rw [hown3 i hne] at hb
        exact .inr ⟨i, ob, h2, hb⟩
      refine ⟨?_, ?_, .raw _, trivial⟩
      . exact {
          obj := fun i ob hi => by
            rcases hcase i ob hi with ⟨rfl, rfl⟩ | ⟨hne, h1, h2⟩
            . refine ⟨?_, aZ _ _ _, World.putObj_heap_same hlt2, by rw [hts]; exact hsz, fun k t x hk => ?_⟩
              . show C2.ρ i = _
                rw [hρ2 i hUL]; exact hv
              obtain ⟨h1, _, h3⟩ := hslot2 k t x hk
              rw [hts]
              exact ⟨h1, h3.mono' (fun b _ hb => hav3 b hb) fun b cells t fr hb _ => hother2 _ b fun e => by rw [e, hl2] at hb; cases hb⟩
            show cX _ _ _ (upd C2.own nL [l] i) _ _
            rw [hown3 i hne]
            exact (hR4.obj i ob h2).mono (fun b _ hb => hav3 b hb) (fun _ _ _ => rfl) (fun _ _ => rfl)
          apart := fun i k oi ok b hne hi hk hbi hbk => by
            change b ∈ upd C2.own nL [l] i at hbi
            change b ∈ upd C2.own nL [l] k at hbk
            rcases hcase i oi hi with ⟨rfl, rfl⟩ | ⟨h0, h1, h2⟩
            . rcases hcase k ok hk with ⟨rfl, rfl⟩ | ⟨k0, k1, k2⟩
              . exact hne rfl
              rw [aZ] at hbi; rw [hown3 k k0] at hbk
              exact hR3.xapart k ok b k2 hbk (by rw [B6.1 hbi]; exact hXl2)
            rw [hown3 i h0] at hbi
            rcases hcase k ok hk with ⟨rfl, rfl⟩ | ⟨k0, k1, k2⟩
            . rw [aZ] at hbk
              exact hR3.xapart i oi b h2 hbi (by rw [B6.1 hbk]; exact hXl2)
            rw [hown3 k k0] at hbk
            exact hR3.apart i k oi ok b hne h2 k2 hbi hbk
          xapart := fun i ob b hi hb hx => by
            change b ∈ upd C2.own nL [l] i at hb
            rcases hcase i ob hi with ⟨rfl, rfl⟩ | ⟨h0, h1, h2⟩
            . rw [aZ] at hb
              exact hRH.xapart i _ b hgL (by rw [hown]; exact hb) hx
            rw [hown3 i h0] at hb
            exact hR3.xapart i ob b h2 hb (by rw [hX2]; exact (hCX b).2 (.inl hx))
          xlt := fun b hx => by rw [hszz]; exact hR3.xlt b (by rw [hX2]; exact (hCX b).2 (.inl hx))
          gl := hR4.toRelH.glK (fun b _ hb => hav3 b hb) (fun _ _ _ _ _ _ => rfl)
          objb := fun i ob hi => by
            rcases hcase i ob hi with ⟨rfl, rfl⟩ | ⟨h0, h1, h2⟩
            . exact ⟨hUL, hEb⟩
            exact hb' i ob h1 }
      exact {
        os := hs2.os.trans hs1.os
        tape := hs2.tape.trans hs1.tape
        output := hs2.output.trans hs1.output
        size := by rw [hszz]; exact G6 (G6 hs1.size (by rw [<- hsz1]; exact A0 _)) hs2.size
        keep := fun k hk hn => by
          have hkl : k ≠ l := fun e => hn (e ▸ hlW)
          have h1 := hs1.keep k hk (fun q => hn (hWW k q))
          have hk1 : k < w1.heap.size := Nat.lt_of_lt_of_le hk hs1.size
          have h2 := hs2.keep k (by rw [hsz1]; exact hk1) (fun q => by rcases hs1.wr k q with h' | h'; exact hn (hWW k h'); omega)
          rw [hother2 _ k hkl, h2, hother1 _ k hkl, h1]
        wr := fun b ⟨i, ob, hi, hb⟩ => by
          change b ∈ upd C2.own nL [l] i at hb
          rcases hcase i ob hi with ⟨rfl, rfl⟩ | ⟨h0, h1, h2⟩
          . rw [aZ] at hb; rw [B6.1 hb]
            exact .inl hlW
          rw [hown3 i h0] at hb
          rcases hs2.wr b ⟨i, ob, h2, hb⟩ with h3 | h3
          . rcases hs1.wr b h3 with h4 | h4
            . exact .inl (hWW b h4)
            exact .inr h4
          rw [hsz1] at h3
          exact .inr (G6 hs1.size h3)
        X := rfl
        B := rfl
        ρ := fun i hi => hρ2 i hi }
    cases e with
    | normal =>
      obtain ⟨rfl, hall⟩ := hQ2
      obtain ⟨v, w', h1, h2⟩ := fin hall
      exact ⟨v, w', h1, h2⟩
    | ret =>
      obtain ⟨rfl, hall⟩ := hQ2
      obtain ⟨v, w', h1, h2⟩ := fin hall
      exact ⟨v, w', h1, h2⟩
    | exit id =>
      obtain ⟨rfl, hall⟩ := hQ2
      obtain ⟨v, w', h1, h2⟩ := fin hall
      exact ⟨v, w', h1, h2⟩
    | _ => exact hQ2.elim
  | _ => exact hQ1.elim
end
end
section
variable [Globals]
variable {α : Type} {m i j : Nat} {o : AObj} {K : Heap} {P : Program}
def aCc {α S : Type} (nxt : S -> α -> S × Bool) : List α -> S -> S
  | [], s => s
  | x :: r, s => if (nxt s x).2 then aCc nxt r (nxt s x).1 else (nxt s x).1
def bRr (P : Program) (gf : Nat) (cap : List AV) (CH : Heap) (enc : α -> List AV) (xs : List α) : Prop :=
  ∀ (S : Type) (Hx : S -> Heap) (Inv : List α -> S -> Prop) (nxt : S -> α -> S × Bool) (l : Nat) (s0 : S),
    (∀ s, qZ (Hx s) CH) -> (∀ s, ∀ p ∈ Hx s, get (Hx s) p.1 = some p.2 /\ 1000 <= p.1 /\ p.2.bel (UU 0)) -> (∀ s, ((Hx s).map (·.1)).Nodup) -> (∀ s s', (Hx s).map (·.1) = (Hx s').map (·.1)) ->
    (∀ s x r, Inv (x :: r) s -> x ∈ xs -> tX P l (enc x) (Hx s) 0 (.raw (.bool (nxt s x).2)) (Hx (nxt s x).1) /\ ((nxt s x).2 = true -> Inv r (nxt s x).1)) ->
    Inv xs s0 -> aH P gf (.raw (.func (.yield l) #[] #[]) :: cap) (Hx s0) 0 (.tup []) (Hx (aCc nxt xs s0)) 0
def upσ (m : Nat) : Nat -> Nat := fun i => if i < m then i + 1000 else i
def dnσ (m : Nat) : Nat -> Nat := fun i => if 1000 <= i /\ i < 1000 + m then i - 1000 else i
def upH (m : Nat) (H : Heap) : Heap := H.map fun p => (upσ m p.1, p.2.ren (upσ m))
mutual
theorem AV.ren_comp (σ τ : Nat -> Nat) : ∀ x : AV, (x.ren σ).ren τ = x.ren fun i => τ (σ i)
  | .any => rfl
  | .raw _ => rfl
  | .agg cs => by simp only [AV.ren]; rw [hJ σ τ cs]
  | .tup cs => by simp only [AV.ren]; rw [hJ σ τ cs]
  | .sl _ xs => by simp only [AV.ren]; rw [hJ σ τ xs]
  | .fp _ xs _ _ => by simp only [AV.ren]; rw [hJ σ τ xs]
  | .ptr i _ => rfl
  | .ep i _ _ _ => rfl
  | .ref i => rfl
  | .iface _ x => by simp only [AV.ren]; rw [AV.ren_comp σ τ x]
  | .fn _ a b => by simp only [AV.ren]; rw [hJ σ τ a, hJ σ τ b]
  | .when _ x => by simp only [AV.ren]; rw [AV.ren_comp σ τ x]
  | .own _ _ xs => by simp only [AV.ren]; rw [hJ σ τ xs]
theorem hJ (σ τ : Nat -> Nat) : ∀ xs : List AV, aA τ (aA σ xs) = aA (fun i => τ (σ i)) xs
  | [] => rfl
  | x :: xs => by simp only [aA]; rw [AV.ren_comp σ τ x, hJ σ τ xs]
end
def AObj.ren_comp (σ τ : Nat -> Nat) (o : AObj) : (o.ren σ).ren τ = o.ren fun i => τ (σ i) := by
  cases o with
  | dead => rfl
  | cells t cs => simp only [AObj.ren, hJ]
  | row e sz xs => simp only [AObj.ren, hJ]
  | map kt et m => simp only [AObj.ren, List.map_map, AObj.map.injEq, true_and]; exact D9 fun p _ => by simp [AV.ren_comp]
  | mapS kt et m k st => simp only [AObj.ren, List.map_map, AObj.mapS.injEq, true_and, and_true]; exact D9 fun p _ => by simp [AV.ren_comp]
  | other b ob => rfl
  | loop l rec No Eo => simp only [AObj.ren, List.map_map, AObj.loop.injEq, true_and]; exact D9 fun p _ => by simp [AV.ren_comp]
def dn_up (h : i < m) : dnσ m (upσ m i) = i := by
  simp only [dnσ, upσ, if_pos h]; rw [if_pos ⟨og, og⟩]; omega
def aQs (h : i < m) : upσ m i = i + 1000 := by simp [upσ, h]
def aUw (hi : i < m) (hj : j < m) (e : upσ m i = upσ m j) : i = j := by rw [aQs hi, aQs hj] at e; omega
def AObj.dn_up (o : AObj) (h : o.bel (· < m)) : (o.ren (upσ m)).ren (dnσ m) = o := by
  rw [AObj.ren_comp]
  exact (AObj.ren_congr (U := (· < m)) (τ := id) (fun i hi => Abs.dn_up hi) o h).trans (AObj.ren_id' o)
def bBj (xs : List AV) (h : aE (· < m) xs) : aA (dnσ m) (aA (upσ m) xs) = xs := by
  rw [hJ]
  exact (eN (U := (· < m)) (τ := id) (fun i hi => Abs.dn_up hi) xs h).trans (iT xs)
def bMt (K : Heap) (h : ∀ p ∈ K, p.1 < m /\ p.2.bel (· < m)) : ((upH m K).map fun p => (dnσ m p.1, p.2.ren (dnσ m))) = K := by
  unfold upH; rw [List.map_map]
  conv => rhs; rw [<- List.map_id K]
  exact D9 fun p hp => by
    obtain ⟨h1, h2⟩ := h p hp
    simp [dn_up h1, AObj.dn_up p.2 h2]
def bKn (h : o.bel (· < m)) : (o.ren (upσ m)).bel (UU 0) := AObj.bel_ren.2 (AObj.bel_mono (fun i hi => .inr (by rw [aQs hi]; omega)) o h)
def aTp (h : ∀ p ∈ K, p.1 < m /\ p.2.bel (· < m)) (hj : get K j = some o) : get (upH m K) (upσ m j) = some (o.ren (upσ m)) :=
  aCj (upσ m) (AObj.ren (upσ m)) K j o (fun i j oi oj hi hj e => aUw (h _ (aV hi)).1 (h _ (aV hj)).1 e) hj
def aEp (h : ∀ p ∈ K, p.1 < m /\ p.2.bel (· < m)) (hi : get (upH m K) i = some o) : ∃ j oj, get K j = some oj /\ j < m /\ i = upσ m j /\ dnσ m i = j /\ o.ren (dnσ m) = oj /\ oj.bel (· < m) /\ o = oj.ren (upσ m) := by
  obtain ⟨j, oj, h1, h2, h3⟩ := zX _ _ _ _ _ hi
  obtain ⟨h4, h5⟩ := h _ (aV h1)
  exact ⟨j, oj, h1, h4, h2.symm, by rw [<- h2]; exact dn_up h4, by rw [<- h3]; exact AObj.dn_up oj h5, h5, h3.symm⟩
def lO {α : Type} : ∀ {l : List (Nat × α)} {i : Nat}, i ∈ l.map (·.1) -> ∃ o, get l i = some o
  | (k, x) :: r, i, h => by
    rw [aY]
    by_cases e : k = i
    . exact ⟨x, if_pos e⟩
    rw [if_neg e]; refine lO ?_
    simp only [List.map_cons, B1] at h
    rcases h with h | h
    . exact absurd h.symm e
    exact h
def aEm {l : List (Nat × α)} {o : α} (h : get l i = some o) : i ∈ l.map (·.1) := B3.2 ⟨_, aV h, rfl⟩
def aKx {α : Type} : ∀ {l : List (Nat × α)} {p : Nat × α}, (l.map (·.1)).Nodup -> p ∈ l -> get l p.1 = some p.2
  | q :: r, p, hn, hp => by
    rw [List.map_cons, D4] at hn; rw [show (q :: r : List (Nat × α)) = (q.1, q.2) :: r from rfl, aY]
    rcases B1.1 hp with e | e
    . subst e; exact if_pos rfl
    rw [if_neg (fun e' => hn.1 (by rw [e']; exact D5 e))]
    exact aKx hn.2 e
def rL {α β : Type} {f : α -> β} : ∀ {l : List α}, (∀ x, x ∈ l -> ∀ y, y ∈ l -> f x = f y -> x = y) -> l.Nodup -> (l.map f).Nodup
  | [], _, _ => D8
  | x :: r, h, hn => by
    rw [D4] at hn; rw [List.map_cons, D4]
    refine ⟨fun hm => ?_, rL (fun a ha b hb => h a (A4 _ ha) b (A4 _ hb)) hn.2⟩
    obtain ⟨y, hy, e⟩ := B3.1 hm
    have := h y (A4 _ hy) x A5 e
    exact hn.1 (this ▸ hy)
def bGn {l m : Nat} {args : List AV} {nd H1 : Heap} {r0 : AV} (hm : m <= 1000) (hM : tX P l args nd m r0 H1) (ha : aE (fun _ => False) args) (hr : r0.bel fun _ => False)
    (hnd : ∀ p ∈ nd, p.1 < m /\ p.2.bel (· < m)) (hH1 : ∀ p ∈ H1, p.1 < m /\ p.2.bel (· < m)) (hk : nd.map (·.1) = H1.map (·.1)) : tX P l args (upH m nd) 0 r0 (upH m H1) := by
  intro C w vals hRH hargs hb
  have hfit : Fit (UU 0) (upH m nd) (upσ m) nd m 0 0 H1 :=
    { objs := fun i o hi => ⟨aTp hnd hi, .inl (hnd _ (aV hi)).1, AObj.bel_mono (fun j hj => .inl hj) o (hnd _ (aV hi)).2⟩
      inj := fun i j oi oj hi hj e => aUw (hnd _ (aV hi)).1 (hnd _ (aV hj)).1 e
      known := fun i hi => by
        unfold upσ; split
        . exact .inr og
        rcases hi with hi | hi
        . omega
        exact .inr hi
      dom := fun i o hi => .inl (lO (by rw [hk]; exact aEm hi))
      all := fun i o hi => lO (by rw [<- hk]; exact aEm hi)
      fresh := fun j h1 h2 => by omega
      far := by omega }
  have hRc := hRH.callee hfit
  have hargsR : cZ (callee C (upH m nd) (upσ m) nd).ρ ((callee C (upH m nd) (upσ m) nd).avoid nd) w.heap args vals :=
    (cZ.mono (av' := (callee C (upH m nd) (upσ m) nd).avoid nd) (fun b _ hb => (eQ hfit b).1 hb) (fun _ _ _ => rfl) (show cZ C.ρ (C.avoid (upH m nd)) w.heap (aA (upσ m) args) vals by rw [dK _ ha]; exact hargs)).unren (ρ := C.ρ)
  refine tX.mono (hM _ w vals hRc hargsR (dU (fun _ h => h.elim) args ha)) fun e w' ⟨v, C1, he, k1, k2, k3, k4⟩ => ?_
  obtain ⟨q1, q2, q3⟩ := hRH.back hfit k1 k2
  rw [bH] at q1 q2 q3
  obtain ⟨q4, q5⟩ := q3 r0 v k4 k3
  rw [AV.ren_closed _ hr] at q4 q5
  rw [aU0] at q1 q5
  have hext : ∀ k, get (upH m H1) k = get (over (upH m nd) (H1.map fun p => (upσ m p.1, p.2.ren (upσ m)))) k := fun k => by
    rw [bC]
    show _ = match get (upH m H1) k with | some o => some o | none => get (upH m nd) k
    cases h1 : get (upH m H1) k with
    | some o => rfl
    | none =>
      cases h2 : get (upH m nd) k with
      | none => rfl
      | some o =>
        exfalso
        obtain ⟨j, oj, h3, h4, h5, _⟩ := aEp hnd h2
        obtain ⟨o', ho'⟩ := lO (l := H1) (i := j) (by rw [<- hk]; exact aEm h3)
        have := aTp hH1 ho'
        rw [<- h5, h1] at this; cases this
  refine ⟨v, _, he, q1.ext hext, q2.ext hext, ?_, q5⟩
  rw [uQ hext]; exact q4
def bJx (Q : AQ) : Option Code -> AK
  | none => Q .normal
  | some .ret => Q .ret
  | some (.exit id) => Q (.exit id)
  | _ => fun _ _ _ => False
def aOy {N n0 nx : Nat} {Q : AQ} {E : Env} {H : Heap} {α S : Type} {g : Operand} {ps : Array Tmp} {assign body : Code} {gf : Nat} {fn : Func} {code : Code} {cap : List AV} {CH : Heap} {enc : α -> List AV} {xs : List α}
    (Ho : S -> Heap) (Eo : Env) (Inv : List α -> S -> Prop) (jmp : S -> Option Code) (nxt : S -> α -> S × Bool) (s0 : S) (hnx : nx + 1 <= 1000)
    (hg : opv E g = some (.fn (.func gf) [] cap)) (hT : FnT P gf fn code) (hcap : aE (· < nx) cap) (hit : bRr P gf (aA (upσ (nx + 1)) cap) CH enc xs)
    (hxs : ∀ x ∈ xs, (enc x).length = ps.size /\ aE (fun _ => False) (enc x)) (hps : ∀ p ∈ ps.toList, p < N)
    (hEo : ∀ p ∈ Eo, get E p.1 = some p.2 /\ p.2.bel (· < nx)) (hH0 : qZ H (Ho s0))
    (hHo : ∀ s, ∀ p ∈ Ho s, p.1 < nx /\ p.2.bel (· < nx)) (hkn : ∀ s, ((Ho s).map (·.1)).Nodup) (hkk : ∀ s s', (Ho s).map (·.1) = (Ho s').map (·.1))
    (hCH : ∀ s, qZ (upH (nx + 1) (Ho s)) CH)
    (hI0 : Inv xs s0) (hIj : ∀ r s, Inv r s -> jmp s = none)
    (hround : ∀ s x r l, Inv (x :: r) s -> x ∈ xs -> AWP P (some l) N (nx + 1) assign (aLj (AWP P (some l) N (nx + 1) body (bAz (Ho (nxt s x).1) (jmp (nxt s x).1))) fun _ _ _ _ => False) (bBf ps.toList (enc x) Eo) (Ho s) (nx + 1) /\
      (nxt s x).2 = (jmp (nxt s x).1).isNone /\ ((nxt s x).2 = true -> Inv r (nxt s x).1))
    (hdone : bJx Q (jmp (aCc nxt xs s0)) E (over H (Ho (aCc nxt xs s0))) (nx + 1)) :
    AWP P none N n0 (.rangeFunc g ps assign body) Q E H nx := by
  intro C a w Qc hn hR hK; refine wpIn_rangeFunc ?_; intro fnr hfnr
  obtain ⟨hrg, _⟩ := hR.opv hg
  generalize hev : a.eval g = gv at hrg
  cases hrg with
  | fn _ _ _ vs us hvs _ hus hus' =>
  have hvs0 : vs = #[] := Array.eq_empty_of_size_eq_zero hvs
  subst hvs0
  obtain ⟨rec0, hrec0⟩ : ∃ rec0 : Loop, rec0 = { state := .ready, pending := none, fn := fnr, tmps := a.tmps, params := ps, assign, body, defers := w.heap.size } := ⟨_, rfl⟩
  obtain ⟨recS, hrecS⟩ : ∃ recS : S -> Loop, recS = fun s => { rec0 with state := if (jmp s).isNone then .ready else .done, pending := jmp s } := ⟨_, rfl⟩
  have hrs0 : ∀ s, jmp s = none -> recS s = rec0 := fun s hs => by rw [hrecS]; simp only [hs]; rw [hrec0]; rfl
  obtain ⟨l, hl⟩ : ∃ l, l = w.heap.size + 1 := ⟨_, rfl⟩
  obtain ⟨m, hm⟩ : ∃ m, m = nx + 1 := ⟨_, rfl⟩
  rw [<- hm] at hit hCH hround hdone hnx
  obtain ⟨W1, hW1⟩ : ∃ W1, (w.alloc (.deferred (some []))).alloc (.loop rec0) = W1 := ⟨_, rfl⟩
  have hsz1 : W1.heap.size = w.heap.size + 2 := by rw [<- hW1]; simp
  have hk1 : ∀ k, k < w.heap.size -> W1.heap[k]? = w.heap[k]? := fun k hk => by
    rw [<- hW1]
    show ((w.heap.push _).push _)[k]? = _
    rw [Array.getElem?_push, if_neg (by simp; omega), Array.getElem?_push, if_neg og]
  have hD1 : W1.heap[w.heap.size]? = some (.deferred (some [])) := by
    rw [<- hW1]
    show ((w.heap.push _).push _)[w.heap.size]? = _
    rw [Array.getElem?_push, if_neg oS, Array.getElem?_push, if_pos rfl]
  have hL1 : W1.heap[l]? = some (.loop rec0) := by
    rw [<- hW1, hl]
    show ((w.heap.push _).push _)[w.heap.size + 1]? = _
    rw [Array.getElem?_push, if_pos oS]
  have hUm : (fun j => UU nx j ∨ j = nx) = UU m := by rw [hm, <- eD, wB]
  have hnU : ¬ UU nx nx := bAt og
  have hown : ∀ b, b ∈ [l] -> w.heap.size <= b := fun b hb => by rw [B6.1 hb, hl]; omega
  have hos : W1.os = w.os := by rw [<- hW1]; rfl
  have htp : W1.tape = w.tape := by rw [<- hW1]; rfl
  have hout : W1.output = w.output := by rw [<- hW1]; rfl
  obtain ⟨HL, hHL⟩ : ∃ HL, HL = put H nx (.loop l rec0 N Eo) := ⟨_, rfl⟩
  obtain ⟨C1, hC1⟩ : ∃ C1, C1 = C.new nx (.pointer (some ⟨l, 0, none⟩)) [l] rfl := ⟨_, rfl⟩
  have hs1 : StepR C H (UU nx) w C1 HL W1 := by
    rw [hC1, hHL]
    exact StepR.new hR.toRelH hos htp hout og hk1 hnU rfl hown _
  have hEob : aE (UU nx) (Eo.map (·.2)) := bLi.2 fun x hx => by
    obtain ⟨p, hp, rfl⟩ := B3.1 hx
    exact AV.bel_mono (fun i hi => .inl hi) _ (hEo p hp).2
  have hRo : ∀ (j t : Nat) (x : AV), Eo[j]? = some (t, x) -> t < N /\ x.bel (UU nx) /\ Rep C.ρ (C.avoid H) w.heap x (a.tmps.getD t undef) := fun j t x hj => hR.env t x (hEo _ (G2 hj)).1
  have hR1 : RelH C1 HL (UU m) W1 := by
    rw [<- hUm, hC1, hHL]
    refine RelH.new hR.toRelH hos htp hout og hk1 hnU rfl hown ⟨rfl, rfl, hL1, by rw [hrec0]; exact hR.size, fun j t x hj => ?_⟩ (dU (fun i hi => .inl hi) _ hEob)
    obtain ⟨h1, h2, h3⟩ := hRo j t x hj
    refine ⟨h1, ?_⟩
    rw [show rec0.tmps = a.tmps by rw [hrec0]]
    have := Rep.step' hs1 h2 h3
    rw [hC1, hHL] at this; exact this
  have hav1 : ¬ C1.avoid HL w.heap.size := fun hq => by
    rcases hq with hq | ⟨i, o, hi, hb⟩
    . rw [hs1.X] at hq
      exact absurd (hR.xlt _ hq) og
    rw [hHL] at hi
    by_cases e : i = nx
    . rw [e, hC1] at hb
      have : w.heap.size ∈ [l] := by rw [<- show (C.new nx (.pointer (some ⟨l, 0, none⟩)) [l] rfl).own nx = [l] from aZ _ _ _]; exact hb
      rw [B6] at this; omega
    rw [dG e] at hi; rw [hC1] at hb
    have hb' : w.heap.size ∈ C.own i := by rw [<- show (C.new nx (.pointer (some ⟨l, 0, none⟩)) [l] rfl).own i = C.own i from bW _ _ e]; exact hb
    exact absurd ((hR.obj i o hi).own_lt _ hb') og
  have hRel1 := hR.change hs1 (U' := UU m) (fun i hi => by rw [hm]; exact eA (Nat.le_succ _) i hi) hR1
  have hRel1' : Rel C1 N E HL (UU m) { a with defers := [{ target := .collected w.heap.size, args := #[] }] ++ a.defers } W1 :=
    { toRelH := hR1, size := hRel1.size, hB := hRel1.hB, env := hRel1.env
      nodup := by
        refine D4.2 ⟨fun hmem => ?_, hR.nodup⟩
        obtain ⟨r, h1, _, h3, _⟩ := hR.marks _ hmem
        have : w.heap.size = r := by simpa using h1
        exact absurd (ltB h3) og
      marks := fun d hd => by
        rcases B1.1 hd with e | e
        . exact ⟨w.heap.size, e, by rw [hs1.B]; exact hR.hB, hD1, hav1⟩
        exact hRel1.marks d e }
  obtain ⟨K, hK0⟩ : ∃ K : S -> Heap, K = fun s => (nx, .loop l (recS s) N Eo) :: Ho s := ⟨_, rfl⟩
  have hKm : ∀ s, ∀ p ∈ K s, p.1 < m /\ p.2.bel (· < m) := fun s p hp => by
    rw [hK0] at hp
    rcases B1.1 hp with e | e
    . rw [e]
      exact ⟨by show nx < m; omega, bLi.2 fun x hx => by
        obtain ⟨q, hq, rfl⟩ := B3.1 hx
        exact AV.bel_mono (fun i hi => by omega) _ (hEo q hq).2⟩
    obtain ⟨h1, h2⟩ := hHo s p e
    exact ⟨og, AObj.bel_mono (fun i hi => by omega) _ h2⟩
  have hKn : ∀ s, ((K s).map (·.1)).Nodup := fun s => by
    rw [hK0]
    refine D4.2 ⟨fun hmem => ?_, hkn s⟩
    obtain ⟨p, hp, he⟩ := B3.1 hmem
    have := (hHo s p hp).1
    have he' : p.1 = nx := he
    omega
  have hKk : ∀ s s', (K s).map (·.1) = (K s').map (·.1) := fun s s' => by rw [hK0]; simp [hkk s s']
  have hnone : ∀ s o, get (Ho s) nx ≠ some o := fun s o ho => by have := (hHo s _ (aV ho)).1; simp at this
  have hupK : ∀ s, (upH m (K s)).map (·.1) = ((K s).map (·.1)).map (upσ m) := fun s => by unfold upH; simp
  have hG := hit S (fun s => upH m (K s)) Inv nxt l s0 (fun s => by
      have := hCH s
      rw [hK0]
      have aux : ∀ {A B : Heap}, (∀ i o, get A i = some o -> get B i = some o) -> ∀ {D : Heap}, qZ A D -> qZ B D := fun {A B} hab => by
        intro D
        induction D with
        | nil => exact fun _ => trivial
        | cons p r ih => exact fun h => ⟨hab _ _ h.1, ih h.2⟩
      refine aux (fun i o hi => ?_) this
      obtain ⟨j, oj, h1, h2, h3, _⟩ := aEp (m := m) (fun p hp => ⟨by have := (hHo s p hp).1; omega, AObj.bel_mono (fun i hi => by omega) _ (hHo s p hp).2⟩) hi
      show get ((upσ m nx, _) :: upH m (Ho s)) i = _
      rw [aY, if_neg]
      . exact hi
      rw [h3]; intro e
      have := aUw (m := m) og h2 e
      exact hnone s _ (by rw [this]; exact h1))
    (fun s p hp => by
      obtain ⟨q, hq, rfl⟩ := B3.1 hp
      obtain ⟨h1, h2⟩ := hKm s q hq
      refine ⟨aTp (hKm s) (aKx (hKn s) hq), ?_, bKn h2⟩
      show 1000 <= upσ m q.1
      rw [aQs h1]; omega)
    (fun s => by
      rw [hupK]
      refine rL ?_ (hKn s)
      intro x hx y hy e
      obtain ⟨p, hp, rfl⟩ := B3.1 hx
      obtain ⟨q, hq, rfl⟩ := B3.1 hy
      exact aUw (hKm s p hp).1 (hKm s q hq).1 e)
    (fun s s' => by rw [hupK, hupK, hKk s s'])
    (fun s x r hI hx => by
      obtain ⟨h1, h2, h3⟩ := hround s x r l hI hx
      refine ⟨?_, h3⟩
      have hy := aPc (l := l) (nL := nx) (rec := rec0) (Eo := Eo) (Ho := Ho s) (Ho' := Ho (nxt s x).1) (n0 := m) (xs := enc x) (j := jmp (nxt s x).1) (by rw [hrec0]) (by rw [hrec0]) (by rw [hrec0]; exact (hxs x hx).1) (by rw [hrec0]; exact hps)
        (hnone s) (hnone _) (.inl og) (fun i o hi => ⟨.inl (by have := (hHo _ _ (aV hi)).1; simp at this; omega), AObj.bel_mono (fun k hk => .inl og) _ (hHo _ _ (aV hi)).2⟩) (by rw [hrec0]; exact h1)
      rw [<- h2] at hy
      have hy2 : tX P l (enc x) (K s) m (.raw (.bool (nxt s x).2)) (K (nxt s x).1) := by
        rw [hK0]
        show tX P l (enc x) ((nx, .loop l (recS s) N Eo) :: Ho s) m _ ((nx, .loop l (recS (nxt s x).1) N Eo) :: Ho (nxt s x).1)
        rw [hrs0 s (hIj _ s hI), hrecS]
        simp only
        rw [<- h2]; exact hy
      exact bGn og hy2 (hxs x hx).2 trivial (hKm _) (hKm _) (hKk _ _))
    hI0
  generalize hse : aCc nxt xs s0 = se at hG hdone
  have hfit : Fit (UU m) HL (dnσ m) (upH m (K s0)) 0 0 0 (upH m (K se)) :=
    { objs := fun i o hi => by
        obtain ⟨j, oj, h1, h2, h3, h4, h5, h6, h7⟩ := aEp (hKm s0) hi
        refine ⟨?_, .inr (by rw [h3, aQs h2]; omega), by rw [h7]; exact bKn h6⟩
        rw [h4, h5, hHL]; rw [hK0] at h1
        simp only [aY] at h1
        split at h1
        . rename_i e
          rw [dQ, if_pos e, <- h1, hrs0 s0 (hIj _ s0 hI0)]
        rename_i e
        rw [dG (fun e' => e e'.symm)]
        exact aCm hH0 j oj h1
      inj := fun i j oi oj hi hj e => by
        obtain ⟨i', _, _, h2, h3, h4, _⟩ := aEp (hKm s0) hi
        obtain ⟨j', _, _, k2, k3, k4, _⟩ := aEp (hKm s0) hj
        rw [h4, k4] at e; rw [h3, k3, e]
      known := fun i hi => by
        rcases hi with hi | hi
        . omega
        unfold dnσ; split
        . exact .inl og
        exact .inr hi
      dom := fun i o hi => .inl (lO (by rw [hupK, hKk s0 se, <- hupK]; exact aEm hi))
      all := fun i o hi => lO (by rw [hupK, hKk se s0, <- hupK]; exact aEm hi)
      fresh := fun j h1 h2 => by omega
      far := by omega }
  have hRc := hR1.callee hfit
  have hvals : cZ (callee C1 HL (dnσ m) (upH m (K s0))).ρ ((callee C1 HL (dnσ m) (upH m (K s0))).avoid (upH m (K s0))) W1.heap (.raw (.func (.yield l) #[] #[]) :: aA (upσ m) cap) (#[.func (.yield l) #[] #[]] ++ us) := by
    have h1 : cZ C1.ρ (C1.avoid HL) W1.heap cap us := ⟨hus, fun j x hj => Rep.step' hs1 (AV.bel_mono (fun i hi => .inl hi) x (bG hcap hj)) (hus' j x hj)⟩
    have h2 : cZ C1.ρ (C1.avoid HL) W1.heap (aA (dnσ m) (.raw (.func (.yield l) #[] #[]) :: aA (upσ m) cap)) (#[.func (.yield l) #[] #[]] ++ us) := by
      rw [aA, bBj cap (dU (fun i hi => by omega) cap hcap)]
      have h3 : cZ C1.ρ (C1.avoid HL) W1.heap [.raw (.func (.yield l) #[] #[])] #[.func (.yield l) #[] #[]] := ⟨rfl, fun j x hj => by
        cases j with
        | zero => cases hj; exact .raw _
        | succ j => simp at hj⟩
      exact cZ.append h3 h1
    exact (h2.mono (av' := (callee C1 HL (dnσ m) (upH m (K s0))).avoid (upH m (K s0))) (fun b _ hb => (eQ hfit b).1 hb) (fun _ _ _ => rfl)).unren (ρ := C1.ρ)
  have hbel : aE (UU 0) (AV.raw (.func (.yield l) #[] #[]) :: aA (upσ m) cap) := ⟨trivial, gI.2 (dU (fun i hi => .inr (by rw [aQs og]; omega)) cap hcap)⟩
  refine ⟨l, [{ target := .collected w.heap.size, args := #[] }], W1, { target := .fn (.func gf) us, args := #[.func (.yield l) #[] #[]] }, W1, gf, #[.func (.yield l) #[] #[]] ++ us, W1, ?_, ?_, fun _ _ => trivial, ?_, fun hh => (by cases hh), ?_⟩
  . rw [<- hW1, hrec0, hl]; exact run_enterLoop_outer _ _ _ _ _
  . simp only [resolve, hev]
    simp [go_sem]
  . have := hT.run (P := P)
    simp [invoke, go_sem, this]
  refine aDe ((hG _ W1 _ hRc hvals hbel).mono fun e w3 ⟨v, r, H3, n3, C3, he, hn3, ⟨hr, hH3, hn3'⟩, k1, k2, k3, k4⟩ => ?_)
  subst he; subst hr; subst hH3; subst hn3'
  obtain ⟨q1, q2, _⟩ := hR1.back hfit k1 k2
  rw [bH] at q1 q2
  rw [aU0, bMt _ (hKm se)] at q1; rw [bMt _ (hKm se)] at q2
  generalize back C1 C3 (dnσ m) (upH m (K s0)) 0 0 0 = Cb at q1 q2
  have hgl : get (over HL (K se)) nx = some (.loop l (recS se) N Eo) := by
    rw [bC, hK0]; simp only [aY, if_true]
  obtain ⟨z1, z2, z3, _⟩ := q1.obj nx _ hgl
  have hst : (recS se).state ≠ .busy := by
    rw [hrecS]
    simp only
    split <;> simp
  refine ⟨_, _, run_endLoop z3 hst, ?_⟩
  have hfor : ∀ i o, get (over H (Ho se)) i = some o -> i ≠ nx /\ get (over HL (K se)) i = some o := fun i o hi => by
    have hne : i ≠ nx := fun e => by
      rw [bC] at hi
      cases h1 : get (Ho se) i with
      | some o' => exact hnone se o' (by rw [<- e]; exact h1)
      | none =>
        rw [h1] at hi
        have := (hR.objb i o hi).1
        rw [e] at this
        exact hnU this
    refine ⟨hne, ?_⟩
    rw [bC] at hi; rw [bC, hK0]; simp only [aY, if_neg (fun e => hne (Eq.symm e))]; rw [hHL, dG hne]; exact hi
  have hRel3 := (hRel1'.change q2 (fun _ h => h) q1)
  have hRel4 := hRel3.forget (E' := E) (H' := over H (Ho se)) (U' := UU m) (fun _ _ h => h) (fun t x ht => (hRel3.env t x ht).2.1) (fun i o hi => (hfor i o hi).2) (fun i o hi => q1.objb i o (hfor i o hi).2)
  have hRel5 := hRel4.turn (o' := .loop { recS se with state := .exhausted }) z3 (fun _ _ _ e => by cases e) (fun _ e => by cases e) (fun i o hi hb => q1.apart i nx _ _ l (hfor i o hi).1 (hfor i o hi).2 hgl hb (by rw [z2]; exact B6.2 rfl))
  have hall : StepR C H (UU nx) w Cb (over HL (K se)) w3 := hs1.trans (fun i hi => by rw [hm]; exact eA (Nat.le_succ _) i hi) q2
  have hlge : w.heap.size <= l := by omega
  have hstep : StepR C H (UU n0) w Cb (over H (Ho se)) (w3.putObj l (.loop { recS se with state := .exhausted })) :=
    { os := hall.os, tape := hall.tape, output := hall.output
      size := by rw [World.putObj_size]; exact hall.size
      keep := fun k hk hn => (World.putObj_heap_other og).trans (hall.keep k hk hn)
      wr := fun b ⟨i, o, hi, hb⟩ => hall.wr b ⟨i, o, (hfor i o hi).2, hb⟩
      X := hall.X, B := hall.B
      ρ := fun i hi => hall.ρ i (eA hn i hi) }
  have hpend : (recS se).pending = jmp se := by rw [hrecS]
  have key : ∀ jj : Option Code, bJx Q jj E (over H (Ho se)) m -> (match jj with
      | none => Qc .normal { a with defers := [{ target := .collected w.heap.size, args := #[] }] ++ a.defers } (w3.putObj l (.loop { recS se with state := .exhausted }))
      | some c => c.wpIn (FW none) 0 P Qc { a with defers := [{ target := .collected w.heap.size, args := #[] }] ++ a.defers } (w3.putObj l (.loop { recS se with state := .exhausted }))) := fun jj hjj => by
    cases jj with
    | none => exact hK .normal E _ m Cb _ _ og hRel5 hstep hjj
    | some c =>
      cases c with
      | ret => exact wpIn_ret (hK .ret E _ m Cb _ _ og hRel5 hstep hjj)
      | exit id => exact wpIn_exit (hK (.exit id) E _ m Cb _ _ og hRel5 hstep hjj)
      | _ => exact hjj.elim
  exact key _ (by rw [hpend]; exact hdone)
end
section
variable [Globals]
variable {H F F' : Heap} {E : Env}
def aGg {n1 : Nat} {H : Heap} : ∀ (H1 : Heap), (∀ p ∈ H1, get H p.1 = some p.2 /\ UU n1 p.1 /\ p.2.bel (UU n1)) -> iD (sg []) n1 H H1
  | [], _ => trivial
  | (i, o) :: r, h => by
    obtain ⟨h1, h2, h3⟩ := h _ A5
    exact ⟨by rw [AObj.ren_nil]; exact h1, h2, h3, aGg r fun p hp => h p (A4 _ hp)⟩
structure Far (H : Heap) (F : Heap) : Prop where
  at' : ∀ p ∈ F, get H p.1 = some p.2
  far : ∀ p ∈ F, 1000 <= p.1 /\ p.2.bel (UU 0)
  nodup : (F.map (·.1)).Nodup
def Far.put (h : Far H F) {n : Nat} (hn : n < 1000) (o : AObj) : Far (put H n o) F :=
  ⟨fun p hp => by rw [dG (by have := (h.far p hp).1; omega)]; exact h.at' p hp, h.far, h.nodup⟩
def Far.over (h : Far F' F') : Far (over H F') F' :=
  ⟨fun p hp => by rw [bC, h.at' p hp], h.far, h.nodup⟩
def Far.fit (h : Far H F) (hk : F.map (·.1) = F'.map (·.1)) : FitC H [] F 0 0 F' where
  objs := aGg F fun p hp => ⟨h.at' p hp, .inr (h.far p hp).1, (h.far p hp).2⟩
  inj := h.nodup
  cov := fun i hi => by omega
  sk := fun p hp => by cases hp
  dom := fun p hp => .inl (by
    obtain ⟨o, ho⟩ := lO (l := F) (i := p.1) (by rw [hk]; exact D5 hp)
    rw [ho]; rfl)
  all := fun p hp => by
    obtain ⟨o, ho⟩ := lO (l := F') (i := p.1) (by rw [<- hk]; exact D5 hp)
    rw [ho]; rfl
  far := by omega
def Far.heap (h : Far H F) (n1 : Nat) : iD (sg []) n1 H F := aGg F fun p hp => ⟨h.at' p hp, .inr (h.far p hp).1, AObj.bel_mono (eA (A6 _)) _ (h.far p hp).2⟩
def Far.told (h : Far H F) {E E1 : Env} (he : aSd (sg []) 0 E E1) : bCb 0 [] E H E1 F 0 :=
  ⟨he, h.heap 0, h.nodup, (fun p hp => by cases hp), A0 _⟩
def Far.final {P : Program} {vs : List ResultVar} {r0 : AV} (h : Far H F) (hr : (tJ P E H vs).map pI = some r0) (hb : r0.bel (UU 0)) : bDi P vs 0 r0 F 0 E H :=
  ⟨[], by rw [AV.ren_nil]; exact hr, h.heap 0, h.nodup, hb, (fun p hp => by cases hp), A0 _⟩
attribute [go_sem] qZ bBf bJx bAz upσ upH
end
end Go.Abs
end
section
open Go Go.MapKept
namespace Go.Abs
section
variable [Globals]
variable {t kt et : TypeId} {x y : Operand} {i : Nat} {kav : AV}
section
variable {K V : Type} [DecidableEq K]
def xQ : List (K × V) -> K -> Option (Nat × V)
  | [], _ => none
  | (k, v) :: r, q => if k = q then some (0, v) else (xQ r q).map fun p => (p.1 + 1, p.2)
def zT : List (K × V) -> K -> V -> List (K × V)
  | [], q, w => [(q, w)]
  | (k, v) :: r, q, w => if k = q then (q, w) :: r else (k, v) :: zT r q w
def aAy (m : List (K × V)) (q : K) (z : V) : V := match xQ m q with | some p => p.2 | none => z
def mAV (eK : K -> Value) (eV : V -> AV) (m : List (K × V)) : List (Value × AV) := m.map fun p => (eK p.1, eV p.2)
def vQ (k : K) (v : V) (r : List (K × V)) (q : K) (z : V) : aAy ((k, v) :: r) q z = if k = q then v else aAy r q z := by
  unfold aAy; rw [xQ]
  by_cases h : k = q
  . simp [h]
  simp only [h, if_false]
  cases xQ r q <;> rfl
def bJs (q : K) (z : V) : aAy ([] : List (K × V)) q z = z := rfl
def aSk (k : K) (v : V) (q : K) (z : V) : ∀ m : List (K × V), aAy (zT m k v) q z = if k = q then v else aAy m q z
  | [] => by rw [zT, vQ]
  | (k', v') :: r => by
    unfold zT
    by_cases h : k' = k
    . subst h; simp only [if_true]; rw [vQ, vQ]
      by_cases h2 : k' = q <;> simp [h2]
    simp only [h, if_false]; rw [vQ, vQ, aSk k v q z r]
    by_cases h2 : k' = q
    . subst h2; simp only [if_true]; rw [if_neg (fun e => h e.symm)]
    simp [h2]
def aIc (k : K) (v : V) : ∀ m : List (K × V), (zT m k v).length <= m.length + 1
  | [] => by simp [zT]
  | (k', v') :: r => by
    unfold zT; split
    . simp
    have := aIc k v r; simp; omega
def aYm (k : K) (v : V) (q : K) : ∀ m : List (K × V), q ∈ (zT m k v).map (·.1) -> q = k ∨ q ∈ m.map (·.1)
  | [], h => by simp [zT] at h; exact .inl h
  | (k', v') :: r, h => by
    unfold zT at h; split at h
    . rename_i e
      simp only [List.map_cons, B1] at h ⊢
      rcases h with h | h
      . exact .inl h
      exact .inr (.inr h)
    simp only [List.map_cons, B1] at h ⊢
    rcases h with h | h
    . exact .inr (.inl h)
    rcases aYm k v q r h with h | h
    . exact .inl h
    exact .inr (.inr h)
def aOr (k : K) (v : V) : ∀ m : List (K × V), (m.map (·.1)).Nodup -> ((zT m k v).map (·.1)).Nodup
  | [], _ => by simp [zT]
  | (k', v') :: r, h => by
    simp only [List.map_cons, D4] at h
    unfold zT; split
    . rename_i e
      subst e
      simpa using h
    rename_i e
    simp only [List.map_cons, D4]
    refine ⟨fun hm => ?_, aOr k v r h.2⟩
    rcases aYm k v k' r hm with h' | h'
    . exact e h'
    exact h.1 h'
variable {eK : K -> Value} {eV : V -> AV}
def aUg (hi : ∀ a b, eK a = eK b -> a = b) (k : K) : ∀ m : List (K × V), aOx (mAV eK eV m) (eK k) ((xQ m k).map fun p => (p.1, eV p.2))
  | [] => fun p hp => by cases hp
  | (k', v') :: r => by
    have ih := aUg hi k r
    unfold xQ
    by_cases h : k' = k
    . subst h
      simp [aOx, mAV]
    simp only [h, if_false]
    cases hf : xQ r k with
    | none =>
      rw [hf] at ih; intro p hp
      simp only [mAV, List.map_cons, B1] at hp
      rcases hp with rfl | hp
      . exact fun e => h (hi _ _ e)
      exact ih p hp
    | some q =>
      rw [hf] at ih
      simpa [aOx, mAV] using ih
def bEv (k : K) (v : V) : ∀ m : List (K × V), iE (mAV eK eV m) (eK k) (eV v) ((xQ m k).map fun p => (p.1, eV p.2)) = mAV eK eV (zT m k v)
  | [] => rfl
  | (k', v') :: r => by
    have ih := bEv k v r
    unfold xQ zT
    by_cases h : k' = k
    . subst h
      simp [iE, mAV]
    simp only [h, if_false]
    cases hf : xQ r k with
    | none =>
      rw [hf] at ih
      simp only [Option.map_none, iE, mAV] at ih ⊢
      simp [ih]
    | some q =>
      rw [hf] at ih
      simp only [Option.map_some, iE, mAV] at ih ⊢
      simp [ih]
def bOi (m : List (K × V)) (k : K) (z : V) : aNi (eV z) false ((xQ m k).map fun p => (p.1, eV p.2)) = eV (aAy m k z) := by
  unfold aNi aAy
  cases xQ m k <;> rfl
def bOc {U : Nat -> Prop} (h : ∀ v, (eV v).bel U) (m : List (K × V)) : aE U ((mAV eK eV m).map (·.2)) := by
  rw [bLi]; intro x hx
  obtain ⟨p, hp, rfl⟩ := B3.1 hx
  obtain ⟨q, hq, rfl⟩ := B3.1 hp
  exact h _
def bPf (σ : Nat -> Nat) (h : ∀ v, (eV v).ren σ = eV v) (m : List (K × V)) : ((mAV eK eV m).map fun p => (p.1, p.2.ren σ)) = mAV eK eV m := by
  unfold mAV; rw [List.map_map]
  exact D9 fun p _ => by simp [h]
variable {P : Program} {ro : Option Nat} {N : Nat} {o : Oper} {E : Env} {H : Heap} {nx b0 : Nat} {ds : List (Option Tmp)}
def aMx {m : List (K × V)} {isKey : Value -> Prop} {k : K} {z : V} (hg : o.guard = none) (ho : o.op = .lookup t x y false) (hN : oD o N) (hm : lT P t = some (kt, et)) (hz : zE P et = some (eV z))
    (hK : KeyT P kt isKey) (hi : ∀ a b, eK a = eK b -> a = b) (hk : ∀ a, isKey (eK a)) (hx : opv E x = some (.ref i)) (hH : get H i = some (.map kt et (mAV eK eV m))) (hnd : (m.map (·.1)).Nodup) (hy : opv E y = some kav) (hkv : aWo kav = some (eK k)) :
    aS P ro N ds o b0 E H (tO [x, y]) [i] (eV (aAy m k z)) [] nx 0 := by
  rw [<- bOi (eV := eV) m k z]
  refine aUc hg ho hN hm hz hK hx hH hy hkv (hk k) (fun p hp => ?_) ?_ (aUg hi k m)
  . obtain ⟨q, _, rfl⟩ := B3.1 hp
    exact hk _
  rw [show ((mAV eK eV m).map (·.1)) = (m.map (·.1)).map eK by simp [mAV]]
  exact rL (fun a _ b _ => hi a b) hnd
def bGp {x y z : Operand} {m : List (K × V)} {isKey : Value -> Prop} {k : K} {v : V} (hg : o.guard = none) (ho : o.op = .mapUpdate t x y z) (hN : oD o N) (hm : lT P t = some (kt, et))
    (hK : KeyT P kt isKey) (hi : ∀ a b, eK a = eK b -> a = b) (hk : ∀ a, isKey (eK a)) (hx : opv E x = some (.ref i)) (hH : get H i = some (.map kt et (mAV eK eV m))) (hnd : (m.map (·.1)).Nodup) (hy : opv E y = some kav) (hkv : aWo kav = some (eK k)) (hz : opv E z = some (eV v)) (hlen : m.length + 1 < maxLen) :
    aS P ro N ds o b0 E H (tO [x, y, z]) [i] (.raw undef) [(i, .map kt et (mAV eK eV (zT m k v)))] nx 0 := by
  rw [<- bEv (eK := eK) (eV := eV) k v m]
  refine aIu hg ho hN hm hK hx hH hy hkv hz (hk k) (fun p hp => ?_) ?_ (aUg hi k m) (by simpa [mAV] using hlen)
  . obtain ⟨q, _, rfl⟩ := B3.1 hp
    exact hk _
  rw [show ((mAV eK eV m).map (·.1)) = (m.map (·.1)).map eK by simp [mAV]]
  exact rL (fun a _ b _ => hi a b) hnd
end
end
section
variable [Globals]
section
variable {P : Program} {ro : Option Nat} {N : Nat} {o : Oper} {E : Env} {H : Heap} {nx b0 : Nat} {ds : List (Option Tmp)} {U : Nat -> Prop}
end
end
section
variable [Globals]
section
variable {K V : Type} [DecidableEq K] {eK : K -> Value} {eV : V -> AV}
variable {P : Program} {ro : Option Nat} {N : Nat} {o : Oper} {E : Env} {H : Heap} {nx b0 : Nat} {ds : List (Option Tmp)}
end
end
end Go.Abs
end
section
open Go
namespace Go.Abs
section
variable [Globals]
section
variable {C : Conc} {H : Heap} {U : Nat -> Prop} {w w' : World}
def RelH.grow (h : RelH C H U w) (hsz : w.heap.size <= w'.heap.size) (hk : ∀ k, k < w.heap.size -> w'.heap[k]? = w.heap[k]?) : RelH C H U w' where
  obj := fun i o hi => (h.obj i o hi).mono (fun _ _ h => h) (fun b hb _ => hk b hb) (fun b hb => hk b ((h.obj i o hi).own_lt b hb))
  apart := h.apart
  xapart := h.xapart
  xlt := fun b hb => Nat.lt_of_lt_of_le (h.xlt b hb) hsz
  objb := h.objb
  gl := h.glK (fun _ _ h => h) fun b _ _ _ hb _ => hk b (ltB hb)
def StepR.grow (ho : w'.os = w.os) (ht : w'.tape = w.tape) (hout : w'.output = w.output) (hsz : w.heap.size <= w'.heap.size) (hk : ∀ k, k < w.heap.size -> w'.heap[k]? = w.heap[k]?) : StepR C H U w C H w' :=
  ⟨ho, ht, hout, hsz, fun k hk' _ => hk k hk', fun _ h => .inl h, rfl, rfl, fun _ _ => rfl⟩
end
def bIn {α : Type} (n : Nat) : get ([] : List (Nat × α)) n = none := rfl
attribute [go_sem] bIn Option.getD_none Option.getD_some
def zV {H H1 : Heap} {nw : Nat} (h : ∀ i ∈ H1.map (·.1), i < nw) (hm : nw <= 1000) : FitC H [] [] 0 nw H1 where
  objs := trivial
  inj := D8
  cov := fun i hi => by omega
  sk := fun p hp => by cases hp
  dom := fun p hp => .inr ⟨A6 _, by have := h _ (D5 hp); omega⟩
  all := fun p hp => by cases hp
  far := by omega
end
section
variable [Globals]
variable {α : Type} {j e sz e' sz' n i q : Nat} {xs ys cs : List AV} {c : Code} {ρ : Nat -> Value} {av U : Nat -> Prop} {hp : Array Obj} {v : Value} {ow g ow2 : List Nat} {y : α}
def nW {xs : List α} {j k : Nat} (h : k ≠ j) : (xs.set j y)[k]? = xs[k]? := by
  rw [G3, if_neg (fun e => h e.symm)]
def iJ {xs : List α} {x y : α} (h : xs[j]? = some x) : (xs.set j y)[j]? = some y := by
  rw [G3, if_pos rfl, if_pos (A9.1 h).1]
def mU {f : Nat -> List Nat} {b : Nat} (h : b ∈ aQ n fun k => if k = j then g else f k) (hg : ∀ b, b ∈ g -> b ∈ f j) : b ∈ aQ n f := by
  obtain ⟨k, hk, hb⟩ := mFl.1 h
  by_cases e : k = j
  . rw [if_pos e] at hb
    exact mFl.2 ⟨k, hk, by rw [e]; exact hg b hb⟩
  rw [if_neg e] at hb
  exact mFl.2 ⟨k, hk, hb⟩
def sJ {f : Nat -> List Nat} (h : (aQ n f).Nodup) (hg : ∀ b, b ∈ g -> b ∈ f j) (hgn : g.Nodup) : (aQ n fun k => if k = j then g else f k).Nodup := by
  rw [aP] at h ⊢
  refine ⟨fun k hk => ?_, fun k l hk hl hne b hb hb' => ?_⟩
  . split
    . exact hgn
    exact h.1 k hk
  refine h.2 k l hk hl hne b ?_ ?_
  . split at hb
    . rename_i e; rw [e]; exact hg b hb
    exact hb
  split at hb'
  . rename_i e; rw [e]; exact hg b hb'
  exact hb'
def RepO.split (h : RepO ρ av hp (.own e sz xs) v ow) (hnd : ow.Nodup) (hb : aE U xs)
    (hj : xs[j]? = some (.agg cs)) (hq : cs[q]? = some (.own e' sz' ys)) :
    ∃ u ow1 ow2, RepO ρ av hp (.own e' sz' ys) u ow2 /\ u.oneCell' = true /\ ow1.Nodup /\ ow2.Nodup /\ (∀ b, b ∈ ow1 -> b ∈ ow) /\ (∀ b, b ∈ ow2 -> b ∈ ow) /\ (∀ b, b ∈ ow1 -> b ∉ ow2) /\
      ∀ (ρ' : Nat -> Value) (n : Nat), (∀ i, U i -> ρ' i = ρ i) -> ρ' n = u -> RepO ρ' av hp (.own e sz (xs.set j (.agg (cs.set q (.ref n))))) v ow1 := by
  have hjl := (A9.1 hj).1
  have hql := (A9.1 hq).1
  cases h with
  | leaf _ _ h => cases h
  | own0 => simp at hj
  | own _ _ _ b c cells vals ows hh hs hc hm hx hcells =>
    obtain ⟨vs, ows', hvj, hvn, hoj, hvx⟩ := (hx j _ hj).agg_inv
    have hqx := hvx q _ hq
    obtain ⟨hn1, hn2⟩ := D4.1 hnd
    have hnj : (aQ cs.length ows').Nodup := by rw [<- hoj]; exact (aP.1 hn2).1 j hjl
    have hinj : ∀ b', b' ∈ (aQ cs.length fun q2 => if q2 = q then [] else ows' q2) -> b' ∈ ows j := fun b' hb' => by rw [hoj]; exact mU hb' oS
    have hq2 : ∀ b', b' ∈ ows' q -> b' ∈ aQ xs.length ows := fun b' hb' => mFl.2 ⟨j, hjl, by rw [hoj]; exact mFl.2 ⟨q, hql, hb'⟩⟩
    refine ⟨vs.getD q undef, b :: aQ xs.length (fun k => if k = j then (aQ cs.length fun q2 => if q2 = q then [] else ows' q2) else ows k), ows' q, hqx, ?_, ?_, (aP.1 hnj).1 q hql, ?_, ?_, ?_, ?_⟩
    . clear hnj hinj hq2
      generalize vs.getD q undef = u0 at hqx ⊢
      generalize ows' q = oo at hqx
      cases hqx with
      | leaf _ _ h => cases h
      | own0 => rfl
      | own => rfl
    . refine D4.2 ⟨fun hb' => hn1 (mU hb' hinj), sJ hn2 hinj (sJ hnj oS D8)⟩
    . intro b' hb'
      rcases B1.1 hb' with e1 | e1
      . rw [e1]; exact A5
      exact A4 _ (mU e1 hinj)
    . exact fun b' hb' => A4 _ (hq2 b' hb')
    . intro b' hb' hb2
      rcases B1.1 hb' with e1 | e1
      . rw [e1] at hb2; exact hn1 (hq2 b hb2)
      obtain ⟨k, hk, hbk⟩ := mFl.1 e1
      by_cases ek : k = j
      . rw [if_pos ek] at hbk
        obtain ⟨q2, hq2l, hbq⟩ := mFl.1 hbk
        by_cases eq : q2 = q
        . rw [if_pos eq] at hbq; cases hbq
        rw [if_neg eq] at hbq
        exact (aP.1 hnj).2 q2 q hq2l hql eq b' hbq hb2
      rw [if_neg ek] at hbk
      exact (aP.1 hn2).2 k j hk hjl ek b' hbk (by rw [hoj]; exact mFl.2 ⟨q, hql, hb2⟩)
    intro ρ' n hρ hn
    have hlen : (xs.set j (.agg (cs.set q (.ref n)))).length = xs.length := D3 ..
    have := RepO.own (ρ := ρ') (av := av) (hp := hp) e sz (xs.set j (.agg (cs.set q (.ref n)))) b c cells vals (fun k => if k = j then (aQ cs.length fun q2 => if q2 = q then [] else ows' q2) else ows k) hh hs (by rw [hlen]; exact hc) hm (fun k x hk => ?_) (by rw [hlen]; exact hcells)
    . rw [hlen] at this; exact this
    by_cases ek : k = j
    . subst ek; rw [iJ hj] at hk; cases hk; simp only [if_true]; rw [hvj]
      have hlc : (cs.set q (.ref n)).length = cs.length := D3 ..
      have hbc : aE U cs := bG hb hj
      have := RepO.agg (ρ := ρ') (av := av) (hp := hp) (cs.set q (.ref n)) vs (fun q2 => if q2 = q then [] else ows' q2) (by rw [hlc]; exact hvn) (fun q2 y hy => ?_)
      . rw [hlc] at this; exact this
      by_cases eq : q2 = q
      . subst eq; rw [iJ hq] at hy; cases hy; simp only [if_true]
        refine .leaf _ _ ?_
        rw [<- hn]
        exact .ref n
      rw [nW eq] at hy; simp only [if_neg eq]
      exact (hvx q2 y hy).named hρ (bG hbc hy)
    rw [nW ek] at hk; simp only [if_neg ek]
    exact (hx k x hk).named hρ (bG hb hk)
def RepO.join (h : RepO ρ av hp (.own e sz xs) v ow) (hnd : ow.Nodup) (h2 : RepO ρ av hp (.own e' sz' ys) (ρ n) ow2) (hnd2 : ow2.Nodup) (hdis : ∀ b, b ∈ ow -> b ∉ ow2)
    (hj : xs[j]? = some (.agg cs)) (hq : cs[q]? = some (.ref n)) :
    ∃ ow1, RepO ρ av hp (.own e sz (xs.set j (.agg (cs.set q (.own e' sz' ys))))) v ow1 /\ ow1.Nodup /\ (∀ b, b ∈ ow1 -> b ∈ ow ∨ b ∈ ow2) := by
  have hjl := (A9.1 hj).1
  have hql := (A9.1 hq).1
  cases h with
  | leaf _ _ h => cases h
  | own0 => simp at hj
  | own _ _ _ b c cells vals ows hh hs hc hm hx hcells =>
    obtain ⟨vs, ows', hvj, hvn, hoj, hvx⟩ := (hx j _ hj).agg_inv
    have hqx := hvx q _ hq
    obtain ⟨hn1, hn2⟩ := D4.1 hnd
    have hnj : (aQ cs.length ows').Nodup := by rw [<- hoj]; exact (aP.1 hn2).1 j hjl
    have hold : ∀ q2 b', q2 < cs.length -> b' ∈ ows' q2 -> b' ∈ aQ xs.length ows := fun q2 b' hq2 hb' => mFl.2 ⟨j, hjl, by rw [hoj]; exact mFl.2 ⟨q2, hq2, hb'⟩⟩
    have hd : ∀ b', b' ∈ aQ xs.length ows -> b' ∉ ow2 := fun b' hb' => hdis b' (A4 _ hb')
    have hin : ∀ b', b' ∈ (aQ cs.length fun q2 => if q2 = q then ow2 else ows' q2) -> b' ∈ ows j ∨ b' ∈ ow2 := fun b' hb' => by
      obtain ⟨q2, hq2, hb2⟩ := mFl.1 hb'
      split at hb2
      . exact .inr hb2
      exact .inl (by rw [hoj]; exact mFl.2 ⟨q2, hq2, hb2⟩)
    have hin2 : ∀ b', b' ∈ (aQ xs.length fun k => if k = j then (aQ cs.length fun q2 => if q2 = q then ow2 else ows' q2) else ows k) -> b' ∈ aQ xs.length ows ∨ b' ∈ ow2 := fun b' hb' => by
      obtain ⟨k, hk, hb2⟩ := mFl.1 hb'
      split at hb2
      . rcases hin b' hb2 with h3 | h3
        . exact .inl (mFl.2 ⟨j, hjl, h3⟩)
        exact .inr h3
      exact .inl (mFl.2 ⟨k, hk, hb2⟩)
    refine ⟨b :: aQ xs.length (fun k => if k = j then (aQ cs.length fun q2 => if q2 = q then ow2 else ows' q2) else ows k), ?_, ?_, ?_⟩
    . have hlen : (xs.set j (.agg (cs.set q (.own e' sz' ys)))).length = xs.length := D3 ..
      have := RepO.own (ρ := ρ) (av := av) (hp := hp) e sz (xs.set j (.agg (cs.set q (.own e' sz' ys)))) b c cells vals (fun k => if k = j then (aQ cs.length fun q2 => if q2 = q then ow2 else ows' q2) else ows k) hh hs (by rw [hlen]; exact hc) hm (fun k x hk => ?_) (by rw [hlen]; exact hcells)
      . rw [hlen] at this; exact this
      by_cases ek : k = j
      . subst ek; rw [iJ hj] at hk; cases hk; simp only [if_true]; rw [hvj]
        have hlc : (cs.set q (.own e' sz' ys)).length = cs.length := D3 ..
        have := RepO.agg (ρ := ρ) (av := av) (hp := hp) (cs.set q (.own e' sz' ys)) vs (fun q2 => if q2 = q then ow2 else ows' q2) (by rw [hlc]; exact hvn) (fun q2 y hy => ?_)
        . rw [hlc] at this; exact this
        by_cases eq : q2 = q
        . subst eq; rw [iJ hq] at hy; cases hy; simp only [if_true]
          have hv : vs.getD q2 undef = ρ n := by
            generalize vs.getD q2 undef = u at hqx
            generalize ows' q2 = oo at hqx
            cases hqx with
            | leaf _ _ h => cases h; rfl
          rw [hv]; exact h2
        rw [nW eq] at hy; simp only [if_neg eq]
        exact hvx q2 y hy
      rw [nW ek] at hk; simp only [if_neg ek]
      exact hx k x hk
    . refine D4.2 ⟨fun hb' => ?_, ?_⟩
      . rcases hin2 b hb' with h3 | h3
        . exact hn1 h3
        exact hdis b A5 h3
      rw [aP]
      refine ⟨fun k hk => ?_, fun k l hk hl hne b' hb1 hb2 => ?_⟩
      . split
        . rw [aP]
          refine ⟨fun q2 hq2 => ?_, fun q2 q3 h2l h3l hne b' hb1 hb2 => ?_⟩
          . split
            . exact hnd2
            exact (aP.1 hnj).1 q2 hq2
          split at hb1
          . rename_i e1
            rw [if_neg (fun e2 => hne (e1.trans e2.symm))] at hb2
            exact hd b' (hold q3 b' h3l hb2) hb1
          split at hb2
          . exact hd b' (hold q2 b' h2l hb1) hb2
          exact (aP.1 hnj).2 q2 q3 h2l h3l hne b' hb1 hb2
        exact (aP.1 hn2).1 k hk
      split at hb1
      . rename_i e1
        rw [if_neg (fun e2 => hne (e1.trans e2.symm))] at hb2
        rcases hin b' hb1 with h3 | h3
        . exact (aP.1 hn2).2 j l hjl hl (fun e2 => hne (e1.trans e2)) b' h3 hb2
        exact hd b' (mFl.2 ⟨l, hl, hb2⟩) h3
      split at hb2
      . rename_i e1 e2
        rcases hin b' hb2 with h3 | h3
        . exact (aP.1 hn2).2 k j hk hjl e1 b' hb1 h3
        exact hd b' (mFl.2 ⟨k, hk, hb1⟩) h3
      exact (aP.1 hn2).2 k l hk hl hne b' hb1 hb2
    intro b' hb'
    rcases B1.1 hb' with e1 | e1
    . exact .inl (by rw [e1]; exact A5)
    rcases hin2 b' e1 with h3 | h3
    . exact .inl (A4 _ h3)
    exact .inr h3
def uU {U U' : Nat -> Prop} {x : AV} (hU : ∀ i, U i -> U' i) (h : aE U xs) (hx : x.bel U') : aE U' (xs.set j x) := by
  rw [bLi]; intro y hy
  rcases List.mem_or_eq_of_mem_set hy with h5 | h5
  . exact AV.bel_mono hU y (bLi.1 h y h5)
  rw [h5]; exact hx
def RepO.split1 (h : RepO ρ av hp (.own e sz xs) v ow) (hnd : ow.Nodup) (hb : aE U xs)
    (hj : xs[j]? = some (.own e' sz' ys)) :
    ∃ u ow1 ow2, RepO ρ av hp (.own e' sz' ys) u ow2 /\ u.oneCell' = true /\ ow1.Nodup /\ ow2.Nodup /\ (∀ b, b ∈ ow1 -> b ∈ ow) /\ (∀ b, b ∈ ow2 -> b ∈ ow) /\ (∀ b, b ∈ ow1 -> b ∉ ow2) /\
      ∀ (ρ' : Nat -> Value) (n : Nat), (∀ i, U i -> ρ' i = ρ i) -> ρ' n = u -> RepO ρ' av hp (.own e sz (xs.set j (.ref n))) v ow1 := by
  have hjl := (A9.1 hj).1
  cases h with
  | leaf _ _ h => cases h
  | own0 => simp at hj
  | own _ _ _ b c cells vals ows hh hs hc hm hx hcells =>
    have hjx := hx j _ hj
    obtain ⟨hn1, hn2⟩ := D4.1 hnd
    have hin : ∀ b', b' ∈ ows j -> b' ∈ aQ xs.length ows := fun b' hb' => mFl.2 ⟨j, hjl, hb'⟩
    refine ⟨vals j, b :: aQ xs.length (fun k => if k = j then [] else ows k), ows j, hjx, ?_, ?_, (aP.1 hn2).1 j hjl, ?_, ?_, ?_, ?_⟩
    . generalize vals j = u0 at hjx ⊢
      generalize ows j = oo at hjx
      cases hjx with
      | leaf _ _ h => cases h
      | own0 => rfl
      | own => rfl
    . exact D4.2 ⟨fun hb' => hn1 (mU hb' oS), sJ hn2 oS D8⟩
    . intro b' hb'
      rcases B1.1 hb' with e1 | e1
      . rw [e1]; exact A5
      exact A4 _ (mU e1 oS)
    . exact fun b' hb' => A4 _ (hin b' hb')
    . intro b' hb' hb2
      rcases B1.1 hb' with e1 | e1
      . rw [e1] at hb2; exact hn1 (hin b hb2)
      obtain ⟨k, hk, hbk⟩ := mFl.1 e1
      by_cases ek : k = j
      . rw [if_pos ek] at hbk; cases hbk
      rw [if_neg ek] at hbk
      exact (aP.1 hn2).2 k j hk hjl ek b' hbk hb2
    intro ρ' n hρ hn
    have hlen : (xs.set j (.ref n)).length = xs.length := D3 ..
    have := RepO.own (ρ := ρ') (av := av) (hp := hp) e sz (xs.set j (.ref n)) b c cells vals (fun k => if k = j then [] else ows k) hh hs (by rw [hlen]; exact hc) hm (fun k x hk => ?_) (by rw [hlen]; exact hcells)
    . rw [hlen] at this; exact this
    by_cases ek : k = j
    . subst ek; rw [iJ hj] at hk; cases hk; simp only [if_true]
      refine .leaf _ _ ?_
      rw [<- hn]
      exact .ref n
    rw [nW ek] at hk; simp only [if_neg ek]
    exact (hx k x hk).named hρ (bG hb hk)
def RepO.join1 (h : RepO ρ av hp (.own e sz xs) v ow) (hnd : ow.Nodup) (h2 : RepO ρ av hp (.own e' sz' ys) (ρ n) ow2) (hnd2 : ow2.Nodup) (hdis : ∀ b, b ∈ ow -> b ∉ ow2)
    (hj : xs[j]? = some (.ref n)) :
    ∃ ow1, RepO ρ av hp (.own e sz (xs.set j (.own e' sz' ys))) v ow1 /\ ow1.Nodup /\ (∀ b, b ∈ ow1 -> b ∈ ow ∨ b ∈ ow2) := by
  have hjl := (A9.1 hj).1
  cases h with
  | leaf _ _ h => cases h
  | own0 => simp at hj
  | own _ _ _ b c cells vals ows hh hs hc hm hx hcells =>
    have hjx := hx j _ hj
    obtain ⟨hn1, hn2⟩ := D4.1 hnd
    have hd : ∀ b', b' ∈ aQ xs.length ows -> b' ∉ ow2 := fun b' hb' => hdis b' (A4 _ hb')
    have hin2 : ∀ b', b' ∈ (aQ xs.length fun k => if k = j then ow2 else ows k) -> b' ∈ aQ xs.length ows ∨ b' ∈ ow2 := fun b' hb' => by
      obtain ⟨k, hk, hb2⟩ := mFl.1 hb'
      split at hb2
      . exact .inr hb2
      exact .inl (mFl.2 ⟨k, hk, hb2⟩)
    refine ⟨b :: aQ xs.length (fun k => if k = j then ow2 else ows k), ?_, ?_, ?_⟩
    . have hlen : (xs.set j (.own e' sz' ys)).length = xs.length := D3 ..
      have := RepO.own (ρ := ρ) (av := av) (hp := hp) e sz (xs.set j (.own e' sz' ys)) b c cells vals (fun k => if k = j then ow2 else ows k) hh hs (by rw [hlen]; exact hc) hm (fun k x hk => ?_) (by rw [hlen]; exact hcells)
      . rw [hlen] at this; exact this
      by_cases ek : k = j
      . subst ek; rw [iJ hj] at hk; cases hk; simp only [if_true]
        have hv : vals k = ρ n := by
          generalize vals k = u at hjx
          generalize ows k = oo at hjx
          cases hjx with
          | leaf _ _ h => cases h; rfl
        rw [hv]; exact h2
      rw [nW ek] at hk; simp only [if_neg ek]
      exact hx k x hk
    . refine D4.2 ⟨fun hb' => ?_, ?_⟩
      . rcases hin2 b hb' with h3 | h3
        . exact hn1 h3
        exact hdis b A5 h3
      rw [aP]
      refine ⟨fun k hk => ?_, fun k l hk hl hne b' hb1 hb2 => ?_⟩
      . split
        . exact hnd2
        exact (aP.1 hn2).1 k hk
      split at hb1
      . rename_i e1
        rw [if_neg (fun e2 => hne (e1.trans e2.symm))] at hb2
        exact hd b' (mFl.2 ⟨l, hl, hb2⟩) hb1
      split at hb2
      . exact hd b' (mFl.2 ⟨k, hk, hb1⟩) hb2
      exact (aP.1 hn2).2 k l hk hl hne b' hb1 hb2
    intro b' hb'
    rcases B1.1 hb' with e1 | e1
    . exact .inl (by rw [e1]; exact A5)
    rcases hin2 b' e1 with h3 | h3
    . exact .inl (A4 _ h3)
    exact .inr h3
section
variable {P : Program} {ro : Option Nat} {N n0 : Nat} {Q : AQ} {E : Env} {H : Heap} {nx : Nat}
def aKp (xs' : List AV) (hn : nx < 1000) (hi : get H i = some (.row e sz xs)) (hys : aE (UU nx) xs -> aE (UU nx) ys) (hxs' : aE (UU nx) xs -> aE (UU (nx + 1)) xs')
    (hsp : ∀ {ρ : Nat -> Value} {av : Nat -> Prop} {hp : Array Obj} {v : Value} {ow : List Nat}, RepO ρ av hp (.own e sz xs) v ow -> ow.Nodup -> aE (UU nx) xs ->
      ∃ u ow1 ow2, RepO ρ av hp (.own e' sz' ys) u ow2 /\ u.oneCell' = true /\ ow1.Nodup /\ ow2.Nodup /\ (∀ b, b ∈ ow1 -> b ∈ ow) /\ (∀ b, b ∈ ow2 -> b ∈ ow) /\ (∀ b, b ∈ ow1 -> b ∉ ow2) /\
        ∀ (ρ' : Nat -> Value), (∀ i, UU nx i -> ρ' i = ρ i) -> ρ' nx = u -> RepO ρ' av hp (.own e sz xs') v ow1)
    (h : AWP P ro N n0 c Q E (put (put H i (.row e sz xs')) nx (.row e' sz' ys)) (nx + 1)) : AWP P ro N n0 c Q E H nx := by
  intro C a w Qc hn0 hR hK
  obtain ⟨h1, hnd⟩ := hR.obj i _ hi
  obtain ⟨hUi, hbx⟩ := hR.objb i _ hi
  have hbx : aE (UU nx) xs := hbx
  have hnU : ¬ UU nx nx := bAt hn
  have hine : i ≠ nx := fun e => hnU (e ▸ hUi)
  obtain ⟨u, ow1, ow2, k1, k2, k3, k4, k5, k6, k7, k8⟩ := hsp h1 hnd hbx
  obtain ⟨C', hC'⟩ : ∃ C' : Conc, C' = { C with ρ := upd C.ρ nx u, one := aVt C.one k2, own := upd (upd C.own i ow1) nx ow2 } := ⟨_, rfl⟩
  have hρ : ∀ k, UU nx k -> C'.ρ k = C.ρ k := fun k hk => by rw [hC']; exact bW _ _ (fun e => hnU (e ▸ hk))
  have hρn : C'.ρ nx = u := by rw [hC']; exact aZ _ _ _
  have hoi : C'.own i = ow1 := by rw [hC']; show upd (upd C.own i ow1) nx ow2 i = _; rw [bW _ _ hine, aZ]
  have hon : C'.own nx = ow2 := by rw [hC']; exact aZ _ _ _
  have hoo : ∀ k, k ≠ i -> k ≠ nx -> C'.own k = C.own k := fun k h2 h3 => by rw [hC']; show upd (upd C.own i ow1) nx ow2 k = _; rw [bW _ _ h3, bW _ _ h2]
  have hX : C'.X = C.X := by rw [hC']
  have hB : C'.B = C.B := by rw [hC']
  generalize hH' : put (put H i (.row e sz xs')) nx (.row e' sz' ys) = H' at h
  have hget : ∀ k ob, get H' k = some ob -> (k = nx /\ ob = .row e' sz' ys) ∨ (k = i /\ ob = .row e sz xs') ∨ (k ≠ i /\ k ≠ nx /\ get H k = some ob) := fun k ob hk => by
    rw [<- hH', dQ] at hk; split at hk
    . rename_i e1; exact .inl ⟨e1.symm, (Option.some.inj hk).symm⟩
    rename_i e1
    rw [dQ] at hk; split at hk
    . rename_i e2; exact .inr (.inl ⟨e2.symm, (Option.some.inj hk).symm⟩)
    rename_i e2; exact .inr (.inr ⟨fun e => e2 e.symm, fun e => e1 e.symm, hk⟩)
  have hWs : ∀ k ob b, get H' k = some ob -> b ∈ C'.own k -> C.W H b := fun k ob b hk hb => by
    rcases hget k ob hk with ⟨rfl, _⟩ | ⟨rfl, _⟩ | ⟨h2, h3, h4⟩
    . rw [hon] at hb; exact ⟨i, _, hi, k6 b hb⟩
    . rw [hoi] at hb; exact ⟨k, _, hi, k5 b hb⟩
    rw [hoo k h2 h3] at hb; exact ⟨k, _, h4, hb⟩
  have hav : ∀ b, C'.avoid H' b -> C.avoid H b := fun b hb => by
    rcases hb with hb | ⟨k, ob, hk, hb⟩
    . exact .inl (by rw [<- hX]; exact hb)
    exact .inr (hWs k ob b hk hb)
  have hRH : RelH C' H' (UU (nx + 1)) w :=
    { obj := fun k ob hk => by
        rcases hget k ob hk with ⟨rfl, rfl⟩ | ⟨rfl, rfl⟩ | ⟨h2, h3, h4⟩
        . rw [hon, hρn]
          have hby : aE (UU k) ys := hys hbx
          exact ⟨((k1.named hρ hby).mono' (fun b _ hb => hav b hb) (fun _ _ _ _ _ _ => rfl) (fun _ _ => rfl)), k4⟩
        . rw [hoi, hρ k hUi]
          exact ⟨(k8 C'.ρ hρ hρn).mono' (fun b _ hb => hav b hb) (fun _ _ _ _ _ _ => rfl) (fun _ _ => rfl), k3⟩
        rw [hoo k h2 h3, hρ k (hR.objb k ob h4).1]
        exact ((hR.obj k ob h4).named hρ (hR.objb k ob h4).2).mono (fun b _ hb => hav b hb) (fun _ _ _ => rfl) (fun _ _ => rfl)
      apart := fun k l ok ol b hne hk hl hbk hbl => by
        rcases hget k ok hk with ⟨rfl, rfl⟩ | ⟨rfl, rfl⟩ | ⟨h2, h3, h4⟩
        . rw [hon] at hbk
          rcases hget l ol hl with ⟨rfl, rfl⟩ | ⟨rfl, rfl⟩ | ⟨m2, m3, m4⟩
          . exact hne rfl
          . rw [hoi] at hbl; exact k7 b hbl hbk
          rw [hoo l m2 m3] at hbl; exact hR.apart i l _ _ b (fun e => m2 e.symm) hi m4 (k6 b hbk) hbl
        . rw [hoi] at hbk
          rcases hget l ol hl with ⟨rfl, rfl⟩ | ⟨rfl, rfl⟩ | ⟨m2, m3, m4⟩
          . rw [hon] at hbl; exact k7 b hbk hbl
          . exact hne rfl
          rw [hoo l m2 m3] at hbl; exact hR.apart k l _ _ b (fun e => m2 e.symm) hi m4 (k5 b hbk) hbl
        rw [hoo k h2 h3] at hbk
        rcases hget l ol hl with ⟨rfl, rfl⟩ | ⟨rfl, rfl⟩ | ⟨m2, m3, m4⟩
        . rw [hon] at hbl; exact hR.apart k i _ _ b h2 h4 hi hbk (k6 b hbl)
        . rw [hoi] at hbl; exact hR.apart k l _ _ b h2 h4 hi hbk (k5 b hbl)
        rw [hoo l m2 m3] at hbl; exact hR.apart k l _ _ b hne h4 m4 hbk hbl
      xapart := fun k ob b hk hb hx => by
        rw [hX] at hx
        obtain ⟨l, ol, hl, hbl⟩ := hWs k ob b hk hb
        exact hR.xapart l ol b hl hbl hx
      xlt := fun b hb => hR.xlt b (by rw [<- hX]; exact hb)
      gl := hR.toRelH.glK (fun b _ hb => hav b hb) (fun _ _ _ _ _ _ => rfl)
      objb := fun k ob hk => by
        rcases hget k ob hk with ⟨rfl, rfl⟩ | ⟨rfl, rfl⟩ | ⟨h2, h3, h4⟩
        . refine ⟨.inl og, ?_⟩
          exact dU (eA (Nat.le_succ _)) ys (hys hbx)
        . refine ⟨eA (Nat.le_succ _) _ hUi, ?_⟩
          show aE (UU (nx + 1)) _
          exact hxs' hbx
        exact ⟨eA (Nat.le_succ _) _ (hR.objb k ob h4).1, AObj.bel_mono (eA (Nat.le_succ _)) _ (hR.objb k ob h4).2⟩ }
  have hs : StepR C H (UU nx) w C' H' w :=
    ⟨rfl, rfl, rfl, A0 _, fun _ _ _ => rfl, fun b ⟨k, ob, hk, hb⟩ => .inl (hWs k ob b hk hb), hX, hB, hρ⟩
  have hR' := hR.change hs (eA (Nat.le_succ _)) hRH
  exact h C' a w Qc og hR' fun e1 E1 H1 nx1 C1 a1 w1 hn1 hR1 hs1 hQ => hK e1 E1 H1 nx1 C1 a1 w1 hn1 hR1 ((hs.fewerNames (eA hn0)).trans (fun _ h => h) hs1) hQ
def bHa (hn : nx < 1000) (hi : get H i = some (.row e sz xs)) (hj : xs[j]? = some (.agg cs)) (hq : cs[q]? = some (.own e' sz' ys))
    (h : AWP P ro N n0 c Q E (put (put H i (.row e sz (xs.set j (.agg (cs.set q (.ref nx)))))) nx (.row e' sz' ys)) (nx + 1)) : AWP P ro N n0 c Q E H nx := by
  refine aKp _ hn hi (fun hb => ?_) (fun hb => ?_) (fun h1 hnd hb => ?_) h
  . have hbc : aE (UU nx) cs := bG hb hj
    exact bG hbc hq
  . have hbc : aE (UU nx) cs := bG hb hj
    refine uU (x := .agg _) (eA (Nat.le_succ _)) hb (?_ : aE _ _)
    exact uU (x := .ref nx) (eA (Nat.le_succ _)) hbc (show UU (nx + 1) nx from .inl (Nat.lt_succ_self _))
  obtain ⟨u, ow1, ow2, k1, k2, k3, k4, k5, k6, k7, k8⟩ := h1.split hnd hb hj hq
  exact ⟨u, ow1, ow2, k1, k2, k3, k4, k5, k6, k7, fun ρ' => k8 ρ' nx⟩
def aCw (hn : nx < 1000) (hi : get H i = some (.row e sz xs)) (hj : xs[j]? = some (.own e' sz' ys))
    (h : AWP P ro N n0 c Q E (put (put H i (.row e sz (xs.set j (.ref nx)))) nx (.row e' sz' ys)) (nx + 1)) : AWP P ro N n0 c Q E H nx := by
  refine aKp _ hn hi (fun hb => bG hb hj) (fun hb => uU (x := .ref nx) (eA (Nat.le_succ _)) hb (show UU (nx + 1) nx from .inl (Nat.lt_succ_self _))) (fun h1 hnd hb => ?_) h
  obtain ⟨u, ow1, ow2, k1, k2, k3, k4, k5, k6, k7, k8⟩ := h1.split1 hnd hb hj
  exact ⟨u, ow1, ow2, k1, k2, k3, k4, k5, k6, k7, fun ρ' => k8 ρ' nx⟩
def bFu {C : Conc} {a : Act} {w : World} (xs' : List AV) (hne : i ≠ n) (hi : get H i = some (.row e sz xs)) (hni : get H n = some (.row e' sz' ys)) (hxs' : aE (UU nx) xs -> aE (UU nx) ys -> aE (UU nx) xs')
    (hjn : ∀ {ρ : Nat -> Value} {av : Nat -> Prop} {hp : Array Obj} {v : Value} {ow ow2 : List Nat}, RepO ρ av hp (.own e sz xs) v ow -> ow.Nodup -> RepO ρ av hp (.own e' sz' ys) (ρ n) ow2 -> ow2.Nodup -> (∀ b, b ∈ ow -> b ∉ ow2) ->
      ∃ ow1, RepO ρ av hp (.own e sz xs') v ow1 /\ ow1.Nodup /\ (∀ b, b ∈ ow1 -> b ∈ ow ∨ b ∈ ow2))
    (hR : Rel C N E H (UU nx) a w) : ∃ C', Rel C' N E (put (put H i (.row e sz xs')) n .dead) (UU nx) a w /\ StepR C H (UU nx) w C' (put (put H i (.row e sz xs')) n .dead) w := by
  obtain ⟨h1, hnd⟩ := hR.obj i _ hi
  obtain ⟨g1, gnd⟩ := hR.obj n _ hni
  obtain ⟨hUi, hbx⟩ := hR.objb i _ hi
  obtain ⟨hUn, hby⟩ := hR.objb n _ hni
  have hbx : aE (UU nx) xs := hbx
  have hby : aE (UU nx) ys := hby
  obtain ⟨ow1, k1, k2, k3⟩ := hjn h1 hnd g1 gnd (fun b hb hb' => hR.apart i n _ _ b hne hi hni hb hb')
  obtain ⟨C', hC'⟩ : ∃ C' : Conc, C' = { C with own := upd (upd C.own i ow1) n [] } := ⟨_, rfl⟩
  have hρ : C'.ρ = C.ρ := by rw [hC']
  have hoi : C'.own i = ow1 := by rw [hC']; show upd (upd C.own i ow1) n [] i = _; rw [bW _ _ hne, aZ]
  have hon : C'.own n = [] := by rw [hC']; exact aZ _ _ _
  have hoo : ∀ k, k ≠ i -> k ≠ n -> C'.own k = C.own k := fun k h2 h3 => by rw [hC']; show upd (upd C.own i ow1) n [] k = _; rw [bW _ _ h3, bW _ _ h2]
  have hX : C'.X = C.X := by rw [hC']
  have hB : C'.B = C.B := by rw [hC']
  generalize hH' : put (put H i (.row e sz xs')) n .dead = H'
  have hget : ∀ k ob, get H' k = some ob -> (k = n /\ ob = .dead) ∨ (k = i /\ ob = .row e sz xs') ∨ (k ≠ i /\ k ≠ n /\ get H k = some ob) := fun k ob hk => by
    rw [<- hH', dQ] at hk; split at hk
    . rename_i e1; exact .inl ⟨e1.symm, (Option.some.inj hk).symm⟩
    rename_i e1
    rw [dQ] at hk; split at hk
    . rename_i e2; exact .inr (.inl ⟨e2.symm, (Option.some.inj hk).symm⟩)
    rename_i e2; exact .inr (.inr ⟨fun e => e2 e.symm, fun e => e1 e.symm, hk⟩)
  have hWs : ∀ k ob b, get H' k = some ob -> b ∈ C'.own k -> C.W H b := fun k ob b hk hb => by
    rcases hget k ob hk with ⟨rfl, _⟩ | ⟨rfl, _⟩ | ⟨h2, h3, h4⟩
    . rw [hon] at hb; cases hb
    . rw [hoi] at hb
      rcases k3 b hb with h5 | h5
      . exact ⟨k, _, hi, h5⟩
      exact ⟨n, _, hni, h5⟩
    rw [hoo k h2 h3] at hb; exact ⟨k, _, h4, hb⟩
  have hav : ∀ b, C'.avoid H' b -> C.avoid H b := fun b hb => by
    rcases hb with hb | ⟨k, ob, hk, hb⟩
    . exact .inl (by rw [<- hX]; exact hb)
    exact .inr (hWs k ob b hk hb)
  have hap : ∀ l ol b, l ≠ i -> l ≠ n -> get H l = some ol -> b ∈ C.own l -> b ∈ ow1 -> False := fun l ol b h2 h3 hl hbl hb1 => by
    rcases k3 b hb1 with h5 | h5
    . exact hR.apart l i _ _ b h2 hl hi hbl h5
    exact hR.apart l n _ _ b h3 hl hni hbl h5
  have hRH : RelH C' H' (UU nx) w :=
    { obj := fun k ob hk => by
        rw [hρ]
        rcases hget k ob hk with ⟨rfl, rfl⟩ | ⟨rfl, rfl⟩ | ⟨h2, h3, h4⟩
        . exact hon
        . rw [hoi]
          exact ⟨k1.mono' (fun b _ hb => hav b hb) (fun _ _ _ _ _ _ => rfl) (fun _ _ => rfl), k2⟩
        rw [hoo k h2 h3]
        exact (hR.obj k ob h4).mono (fun b _ hb => hav b hb) (fun _ _ _ => rfl) (fun _ _ => rfl)
      apart := fun k l ok ol b hne' hk hl hbk hbl => by
        rcases hget k ok hk with ⟨rfl, rfl⟩ | ⟨rfl, rfl⟩ | ⟨h2, h3, h4⟩
        . rw [hon] at hbk; cases hbk
        . rw [hoi] at hbk
          rcases hget l ol hl with ⟨rfl, rfl⟩ | ⟨rfl, rfl⟩ | ⟨m2, m3, m4⟩
          . rw [hon] at hbl; cases hbl
          . exact hne' rfl
          rw [hoo l m2 m3] at hbl; exact hap l ol b m2 m3 m4 hbl hbk
        rw [hoo k h2 h3] at hbk
        rcases hget l ol hl with ⟨rfl, rfl⟩ | ⟨rfl, rfl⟩ | ⟨m2, m3, m4⟩
        . rw [hon] at hbl; cases hbl
        . rw [hoi] at hbl; exact hap k ok b h2 h3 h4 hbk hbl
        rw [hoo l m2 m3] at hbl; exact hR.apart k l _ _ b hne' h4 m4 hbk hbl
      xapart := fun k ob b hk hb hx => by
        rw [hX] at hx
        obtain ⟨l, ol, hl, hbl⟩ := hWs k ob b hk hb
        exact hR.xapart l ol b hl hbl hx
      xlt := fun b hb => hR.xlt b (by rw [<- hX]; exact hb)
      gl := hR.toRelH.glK (fun b _ hb => hav b hb) (fun _ _ _ _ _ _ => rfl)
      objb := fun k ob hk => by
        rcases hget k ob hk with ⟨rfl, rfl⟩ | ⟨rfl, rfl⟩ | ⟨h2, h3, h4⟩
        . exact ⟨hUn, trivial⟩
        . refine ⟨hUi, ?_⟩
          show aE (UU nx) _
          exact hxs' hbx hby
        exact hR.objb k ob h4 }
  have hs : StepR C H (UU nx) w C' H' w :=
    ⟨rfl, rfl, rfl, A0 _, fun _ _ _ => rfl, fun b ⟨k, ob, hk, hb⟩ => .inl (hWs k ob b hk hb), hX, hB, fun k _ => by rw [hρ]⟩
  have hR' := hR.change hs (fun _ h => h) hRH
  exact ⟨C', hR', hs⟩
def aRi (xs' : List AV) (hne : i ≠ n) (hi : get H i = some (.row e sz xs)) (hni : get H n = some (.row e' sz' ys)) (hxs' : aE (UU nx) xs -> aE (UU nx) ys -> aE (UU nx) xs')
    (hjn : ∀ {ρ : Nat -> Value} {av : Nat -> Prop} {hp : Array Obj} {v : Value} {ow ow2 : List Nat}, RepO ρ av hp (.own e sz xs) v ow -> ow.Nodup -> RepO ρ av hp (.own e' sz' ys) (ρ n) ow2 -> ow2.Nodup -> (∀ b, b ∈ ow -> b ∉ ow2) ->
      ∃ ow1, RepO ρ av hp (.own e sz xs') v ow1 /\ ow1.Nodup /\ (∀ b, b ∈ ow1 -> b ∈ ow ∨ b ∈ ow2))
    (h : AWP P ro N n0 c Q E (put (put H i (.row e sz xs')) n .dead) nx) : AWP P ro N n0 c Q E H nx := by
  intro C a w Qc hn0 hR hK
  obtain ⟨C', hR', hs⟩ := bFu xs' hne hi hni hxs' hjn hR
  exact h C' a w Qc hn0 hR' fun e1 E1 H1 nx1 C1 a1 w1 hn1 hR1 hs1 hQ => hK e1 E1 H1 nx1 C1 a1 w1 hn1 hR1 ((hs.fewerNames (eA hn0)).trans (fun _ h => h) hs1) hQ
def uF {o : Oper} {b0 : Nat} {ds : List (Option Tmp)} {t s e : TypeId} {x : Operand} {n : Int} (hg : o.guard = none) (ho : o.op = .convert t s x) (hN : oD o N) (hs : P.underlying t = some (.slice e)) (he : P.underlying e = some (.int .u8)) (hd : P.underlying s = some .string)
    (hx : opv E x = some (.ref i)) (hH : get H i = some (.row e 1 [.raw (.int .u8 n)])) :
    aS P ro N ds o b0 E H (tO [x]) [i] (.raw (.string (ByteArray.empty.push (UInt8.ofNat n.toNat)))) [] nx 0 := by
  refine lsO hg fun E' H' U hE hH' _ => ?_
  rw [aU0]
  have hops := oCg hE
  refine aL (by simp [ho, Op.noDefer]) hN fun C a w hR => ?_
  obtain ⟨h1, _⟩ := hR.opv (x := x) (r := .ref i) (by rw [hops x oS]; exact hx)
  have hev : a.eval x = C.ρ i := by generalize a.eval x = v at h1; cases h1; rfl
  obtain ⟨h2, _⟩ := hR.obj i _ ((hH' i oS).trans hH)
  refine ⟨trivial, _, ?_, .raw _⟩
  generalize C.ρ i = v at h2 hev
  generalize C.own i = oo at h2
  cases h2 with
  | leaf _ _ h => cases h
  | own _ _ _ b c cells vals ows hh hsz hc hm hxx hcells =>
    have hv0 : vals 0 = .int .u8 n := by
      have := hxx 0 _ rfl
      generalize vals 0 = u at this
      generalize ows 0 = oo at this
      cases this with
      | leaf _ _ h => cases h; rfl
    obtain ⟨q1, q2⟩ := hcells 0 oS
    have hc0 : cells[0]? = some (.int .u8 n) := by
      have := q2 0 og
      rw [hv0] at this
      simpa [Value.cells] using this
    have hl := run_loadCells_list (P := P) w ⟨b, 0, none⟩ ([n].map (Value.int .u8)) (fun j v hj => by
      cases j with
      | zero => simp at hj; subst hj; simp [World.cell?, Addr.add, hh, hc0]
      | succ j => simp at hj)
    have hb := run_bytesToString (P := P) w ⟨b, 0, none⟩ 1 c [n] hl
    simp [execOp, ho, hev, run_convert_bytes_string w t s e (some ⟨b, 0, none⟩) 1 c hs he hd, hb]
def bIq (hne : i ≠ n) (hi : get H i = some (.row e sz xs)) (hni : get H n = some (.row e' sz' ys)) (hj : xs[j]? = some (.agg cs)) (hq : cs[q]? = some (.ref n))
    (h : AWP P ro N n0 c Q E (put (put H i (.row e sz (xs.set j (.agg (cs.set q (.own e' sz' ys)))))) n .dead) nx) : AWP P ro N n0 c Q E H nx := by
  refine aRi _ hne hi hni (fun hb hby => ?_) (fun h1 hnd g1 gnd hd => h1.join hnd g1 gnd hd hj hq) h
  have hbc : aE (UU nx) cs := bG hb hj
  refine uU (x := .agg _) (fun _ h => h) hb (?_ : aE _ _)
  exact uU (x := .own e' sz' ys) (fun _ h => h) hbc hby
def bFl (hne : i ≠ n) (hi : get H i = some (.row e sz xs)) (hni : get H n = some (.row e' sz' ys)) (hj : xs[j]? = some (.ref n))
    (h : AWP P ro N n0 c Q E (put (put H i (.row e sz (xs.set j (.own e' sz' ys)))) n .dead) nx) : AWP P ro N n0 c Q E H nx :=
  aRi _ hne hi hni (fun hb hby => uU (x := .own e' sz' ys) (fun _ h => h) hb hby) (fun h1 hnd g1 gnd hd => h1.join1 hnd g1 gnd hd hj) h
end
end
section
variable [Globals]
variable {c : Call} {f : Nat} {code : Code} {args xs : List AV} {r0 : AV}
section
variable {P : Program} {ro : Option Nat} {N : Nat} {o : Oper} {E : Env} {H : Heap} {nx b0 : Nat} {ds : List (Option Tmp)}
def nZ {fn : Func} (bw : List Nat) (hg : o.guard = none) (ho : o.op = .call c) (hc : c.callee = .value (.func f)) (hT : FnT P f fn code)
    (hN : oD o N) (hM : aB P f args [] 0 r0) (hxs : c.args.toList.map (opv E) = xs.map some) (hargs : xs.map (zQ (get H) bw) = args) (hab : aE (UU 0) args) (hfr : r0.noFz = true) :
    aS P ro N ds o b0 E H (tO c.args.toList) bw r0 [] nx 0 := by
  have := aNv (P := P) (ro := ro) (N := N) (o := o) (E := E) (H := H) (nx := nx) (b0 := b0) (ds := ds) (s := []) (nd := []) (H1 := []) (m0 := 0) (n1 := 0) bw 0 hg ho hc hT hN hM rfl hxs (by rw [hargs]; exact (jE args).symm) hab (zV oS og) (fun i hi p hp => by cases hp) hfr (fun p hp => by cases hp)
  rw [bH, AV.ren_nil] at this; exact this
def aZv {fn : Func} {H1 : Heap} {nw : Nat} (bw : List Nat) (hg : o.guard = none) (ho : o.op = .call c) (hc : c.callee = .value (.func f)) (hT : FnT P f fn code)
    (hN : oD o N) (hM : aH P f args [] 0 r0 H1 nw) (hk : ∀ i ∈ H1.map (·.1), i < nw) (hw : nw <= 1000) (hxs : c.args.toList.map (opv E) = xs.map some) (hargs : xs.map (zQ (get H) bw) = args) (hab : aE (UU 0) args) (hfr : r0.noFz = true) (hfo : ∀ p ∈ H1, p.2.noFz = true) :
    aS P ro N ds o b0 E H (tO c.args.toList) bw (r0.ren (shift id 0 nx nw)) (H1.map fun p => (shift id 0 nx nw p.1, p.2.ren (shift id 0 nx nw))) nx nw := by
  have := aNv (P := P) (ro := ro) (N := N) (o := o) (E := E) (H := H) (nx := nx) (b0 := b0) (ds := ds) (s := []) (nd := []) (H1 := H1) (m0 := 0) (n1 := nw) bw nw hg ho hc hT hN hM (C5 _).symm hxs (by rw [hargs]; exact (jE args).symm) hab (zV hk hw) (fun i hi p hp => by cases hp) hfr hfo
  exact this
end
end
end Go.Abs
end
