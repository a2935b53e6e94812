/-
  The abstract layer, the walks and the plain laws that the claim leans on, part 2 of 7 (working texts Abs11 to Abs41). It proves lemmas alone; no condition of its own.
-/
import Derived.Test.YtaaomkdcmncjnaaGreatDoorP1
import Derived.MapKept
import Derived.WideKeyRuns
import Derived.RangeFuncSeq
import Derived.Laws.BytesString
set_option linter.all false
section
open Go
namespace Go.Abs
section
variable [Globals]
def aDa {β : Type} (τ : Nat -> Nat) (g : AObj -> β) (m : Nat) (o : β) : ∀ (l : Heap), get (l.map fun p => (τ p.1, g p.2)) m = some o -> ∃ i o', get l i = some o' /\ τ i = m /\ g o' = o
  | [], h => by cases h
  | (k, x) :: r, h => by
    simp only [List.map_cons, Abs.get] at h
    split at h
    . rename_i e
      cases h
      exact ⟨k, x, by simp [Abs.get], e, rfl⟩
    rename_i e
    obtain ⟨i, o', h1, h2, h3⟩ := aDa τ g m o r h
    refine ⟨i, o', ?_, h2, h3⟩
    unfold Abs.get
    rw [if_neg (fun e' => e (by rw [e']; exact h2))]
    exact h1
def aKu {β : Type} (τ : Nat -> Nat) (g : AObj -> β) : ∀ (l : Heap) (i : Nat) (o : AObj), (∀ i j oi oj, get l i = some oi -> get l j = some oj -> τ i = τ j -> i = j) -> get l i = some o -> get (l.map fun p => (τ p.1, g p.2)) (τ i) = some (g o) := by
  intro l i o hinj hi
  cases hm : get (l.map fun p => (τ p.1, g p.2)) (τ i) with
  | none =>
    exfalso
    clear hinj
    induction l with
    | nil => cases hi
    | cons p r ih =>
      obtain ⟨k, x⟩ := p
      simp only [List.map_cons, Abs.get] at hm
      unfold Abs.get at hi; split at hm
      . cases hm
      rename_i e
      rw [if_neg (fun e' => e (by rw [e']))] at hi
      exact ih hi hm
  | some y =>
    obtain ⟨j, o', h1, h2, h3⟩ := aDa τ g _ _ l hm
    have := hinj j i o' o h1 hi h2
    subst this; rw [h1] at hi; cases hi; rw [<- h3]
def shift (σ : Nat -> Nat) (n0 nx nw : Nat) : Nat -> Nat := fun i => if n0 <= i /\ i < n0 + nw then nx + (i - n0) else σ i
structure Fit (U : Nat -> Prop) (H : Heap) (σ : Nat -> Nat) (nd : Heap) (n0 nx nw : Nat) (H1 : Heap) : Prop where
  objs : ∀ i o, get nd i = some o -> get H (σ i) = some (o.ren σ) /\ UU n0 i /\ o.bel (UU n0)
  inj : ∀ i j oi oj, get nd i = some oi -> get nd j = some oj -> σ i = σ j -> i = j
  known : ∀ i, UU n0 i -> U (σ i)
  dom : ∀ i o, get H1 i = some o -> (∃ o', get nd i = some o') ∨ (n0 <= i /\ i < n0 + nw)
  all : ∀ i o, get nd i = some o -> ∃ o', get H1 i = some o'
  fresh : ∀ j, nx <= j -> j < nx + nw -> ¬ U j
  far : n0 + nw <= 1000
section
variable {C : Conc} {H : Heap} {U : Nat -> Prop} {w : World} {σ : Nat -> Nat} {nd : Heap} {n0 nx nw : Nat} {H1 : Heap}
def callee (C : Conc) (H : Heap) (σ : Nat -> Nat) (nd : Heap) : Conc :=
  { ρ := fun i => C.ρ (σ i), one := fun i => C.one (σ i), own := fun i => C.own (σ i), B := C.B
    X := fun b => C.X b ∨ ∃ i o, get H i = some o /\ (∀ j o', get nd j = some o' -> σ j ≠ i) /\ b ∈ C.own i }
def iB (hF : Fit U H σ nd n0 nx nw H1) (b : Nat) : (callee C H σ nd).avoid nd b ↔ C.avoid H b := by
  constructor
  . rintro ((h | ⟨i, o, hi, _, hb⟩) | ⟨i, o, hi, hb⟩)
    . exact .inl h
    . exact .inr ⟨i, o, hi, hb⟩
    exact .inr ⟨σ i, _, (hF.objs i o hi).1, hb⟩
  rintro (h | ⟨i, o, hi, hb⟩)
  . exact .inl (.inl h)
  by_cases hm : ∃ j o', get nd j = some o' /\ σ j = i
  . obtain ⟨j, o', hj, rfl⟩ := hm
    exact .inr ⟨j, o', hj, hb⟩
  exact .inl (.inr ⟨i, o, hi, fun j o' hj e => hm ⟨j, o', hj, e⟩, hb⟩)
def RelH.callee (hR : RelH C H U w) (hF : Fit U H σ nd n0 nx nw H1) : RelH (callee C H σ nd) nd (UU n0) w where
  obj := fun i o hi => ((hR.obj _ _ (hF.objs i o hi).1).mono (av' := (Abs.callee C H σ nd).avoid nd) (fun b _ hb => (iB hF b).1 hb) (fun _ _ _ => rfl) (fun _ _ => rfl)).unren (ρ := C.ρ)
  apart := fun i j oi oj b hne hi hj hb hb' => hR.apart (σ i) (σ j) _ _ b (fun e => hne (hF.inj i j oi oj hi hj e)) (hF.objs i oi hi).1 (hF.objs j oj hj).1 hb hb'
  xapart := fun i o b hi hb hx => by
    rcases hx with hx | ⟨j, oj, hj, hn, hb'⟩
    . exact hR.xapart _ _ b (hF.objs i o hi).1 hb hx
    exact hR.apart (σ i) j _ oj b (hn i o hi) (hF.objs i o hi).1 hj hb hb'
  xlt := fun b hx => by
    rcases hx with hx | ⟨j, oj, hj, hn, hb'⟩
    . exact hR.xlt b hx
    exact (hR.obj j oj hj).own_lt b hb'
  objb := fun i o hi => (hF.objs i o hi).2
  gl := hR.glK (fun b _ hb => (iB hF b).1 hb) (fun _ _ _ _ _ _ => rfl)
open Classical in
noncomputable def back (C C1 : Conc) (σ : Nat -> Nat) (nd : Heap) (n0 nx nw : Nat) : Conc :=
  { ρ := fun i => if nx <= i /\ i < nx + nw then C1.ρ (n0 + (i - nx)) else C.ρ i
    one := fun i => by split; exact C1.one _; exact C.one _
    own := fun i => if nx <= i /\ i < nx + nw then C1.own (n0 + (i - nx)) else if h : ∃ j o', get nd j = some o' /\ σ j = i then C1.own (Classical.choose h) else C.own i
    X := C.X, B := C.B }
open Classical in
def RelH.back (hR : RelH C H U w) (hF : Fit U H σ nd n0 nx nw H1) {C1 : Conc} {w' : World} (hR1 : RelH C1 H1 (UU (n0 + nw)) w') (hs : StepR (Abs.callee C H σ nd) nd (UU n0) w C1 H1 w') :
    let H2 := over H (H1.map fun p => (shift σ n0 nx nw p.1, p.2.ren (shift σ n0 nx nw)))
    let C2 := Abs.back C C1 σ nd n0 nx nw
    RelH C2 H2 (sR U nx nw) w' /\ StepR C H U w C2 H2 w' /\ ∀ r v, r.bel (UU (n0 + nw)) -> Rep C1.ρ (C1.avoid H1) w'.heap r v -> Rep C2.ρ (C2.avoid H2) w'.heap (r.ren (shift σ n0 nx nw)) v /\ (r.ren (shift σ n0 nx nw)).bel (sR U nx nw) := by
  intro H2 C2
  have hnew : ∀ i, U i -> ¬ (nx <= i /\ i < nx + nw) := fun i hu ⟨h1, h2⟩ => hF.fresh i h1 h2 hu
  have hτold : ∀ i, UU n0 i -> shift σ n0 nx nw i = σ i := fun i hu => by
    unfold shift; rw [if_neg]
    rintro ⟨h1, h2⟩
    have := hF.far
    rcases hu with hu | hu <;> omega
  have hτnew : ∀ i, n0 <= i -> i < n0 + nw -> shift σ n0 nx nw i = nx + (i - n0) := fun i h1 h2 => if_pos ⟨h1, h2⟩
  have hsplit : ∀ i, UU (n0 + nw) i -> UU n0 i ∨ (n0 <= i /\ i < n0 + nw) := fun i hu => by
    rcases hu with hu | hu
    . rcases Nat.lt_or_ge i n0 with h | h
      . exact .inl (.inl h)
      exact .inr ⟨h, hu⟩
    exact .inl (.inr hu)
  have hknown : ∀ i, UU (n0 + nw) i -> sR U nx nw (shift σ n0 nx nw i) := fun i hu => by
    rcases hsplit i hu with h | ⟨h1, h2⟩
    . rw [hτold i h]; exact .inl (hF.known i h)
    rw [hτnew i h1 h2]; exact .inr og
  have hρ : ∀ i, UU (n0 + nw) i -> C2.ρ (shift σ n0 nx nw i) = C1.ρ i := fun i hu => by
    rcases hsplit i hu with h | ⟨h1, h2⟩
    . rw [hτold i h]
      show (if _ then _ else _) = _
      rw [if_neg (hnew _ (hF.known i h))]
      exact (hs.ρ i h).symm
    rw [hτnew i h1 h2]
    show (if _ then _ else _) = _
    rw [if_pos og]
    congr 1
    omega
  have hmem1 : ∀ i o, get H1 i = some o -> UU (n0 + nw) i := fun i o hi => (hR1.objb i o hi).1
  have hown1 : ∀ i o, get H1 i = some o -> C2.own (shift σ n0 nx nw i) = C1.own i := fun i o hi => by
    rcases hF.dom i o hi with ⟨o', ho'⟩ | ⟨h1, h2⟩
    . have hu := (hF.objs i o' ho').2.1
      rw [hτold i hu]
      show (if _ then _ else if h : _ then _ else _) = _
      have hex : ∃ j o'', get nd j = some o'' /\ σ j = σ i := ⟨i, o', ho', rfl⟩
      rw [if_neg (hnew _ (hF.known i hu)), dif_pos hex]
      obtain ⟨o2, h1, h2⟩ := Classical.choose_spec hex
      rw [hF.inj _ i _ _ h1 ho' h2]
    rw [hτnew i h1 h2]
    show (if _ then _ else _) = _
    rw [if_pos og]
    congr 1
    omega
  have hinj1 : ∀ i j oi oj, get H1 i = some oi -> get H1 j = some oj -> shift σ n0 nx nw i = shift σ n0 nx nw j -> i = j := fun i j oi oj hi hj e => by
    rcases hF.dom i oi hi with ⟨o1, ho1⟩ | ⟨h1, h2⟩
    . have hu := (hF.objs i o1 ho1).2.1
      rcases hF.dom j oj hj with ⟨o2, ho2⟩ | ⟨h3, h4⟩
      . have hu2 := (hF.objs j o2 ho2).2.1
        rw [hτold i hu, hτold j hu2] at e
        exact hF.inj i j _ _ ho1 ho2 e
      rw [hτold i hu, hτnew j h3 h4] at e
      exact absurd ⟨og, og⟩ (hnew _ (hF.known i hu))
    rcases hF.dom j oj hj with ⟨o2, ho2⟩ | ⟨h3, h4⟩
    . have hu2 := (hF.objs j o2 ho2).2.1
      rw [hτold j hu2, hτnew i h1 h2] at e
      exact absurd ⟨og, og⟩ (hnew _ (hF.known j hu2))
    rw [hτnew i h1 h2, hτnew j h3 h4] at e; omega
  have hcase : ∀ i o, get H2 i = some o -> (∃ j o', get H1 j = some o' /\ shift σ n0 nx nw j = i /\ o'.ren (shift σ n0 nx nw) = o) ∨
      (get H i = some o /\ C2.own i = C.own i /\ ∀ j o', get nd j = some o' -> σ j ≠ i) := fun i o hi => by
    rw [cJ] at hi
    cases hm : get (H1.map fun p => (shift σ n0 nx nw p.1, p.2.ren (shift σ n0 nx nw))) i with
    | some y =>
      rw [hm] at hi; cases hi
      exact .inl (aDa _ _ _ _ _ hm)
    | none =>
      rw [hm] at hi
      have hun : ∀ j o', get nd j = some o' -> σ j ≠ i := fun j o' hj e => by
        obtain ⟨o2, ho2⟩ := hF.all j o' hj
        have := aKu (shift σ n0 nx nw) (AObj.ren (shift σ n0 nx nw)) H1 j o2 hinj1 ho2
        rw [hτold j (hF.objs j o' hj).2.1, e, hm] at this; cases this
      refine .inr ⟨hi, ?_, hun⟩
      show (if _ then _ else if h : _ then _ else _) = _
      rw [if_neg (hnew _ (hR.objb i o hi).1), dif_neg]
      rintro ⟨j, o', hj, e⟩
      exact hun j o' hj e
  have hW1 : ∀ b, (Abs.callee C H σ nd).W nd b -> C.W H b := fun b ⟨i, o, hi, hb⟩ => ⟨σ i, _, (hF.objs i o hi).1, hb⟩
  have hav21 : ∀ b, C2.avoid H2 b -> C1.avoid H1 b := fun b hb => by
    rcases hb with hb | ⟨i, o, hi, hb⟩
    . exact .inl (by rw [hs.X]; exact .inl hb)
    rcases hcase i o hi with ⟨j, o', hj, rfl, _⟩ | ⟨hi', hown, hun⟩
    . exact .inr ⟨j, o', hj, by rw [<- hown1 j o' hj]; exact hb⟩
    rw [hown] at hb
    exact .inl (by rw [hs.X]; exact .inr ⟨i, o, hi', hun, hb⟩)
  have hav1 : ∀ b, b < w.heap.size -> C1.avoid H1 b -> C.avoid H b := fun b hb hq => by
    rw [<- iB hF b]
    rcases hq with hq | hq
    . exact .inl (by rw [<- hs.X]; exact hq)
    rcases hs.wr b hq with h1 | h1
    . exact .inr h1
    omega
  have hstep : StepR C H U w C2 H2 w' :=
    { os := hs.os, tape := hs.tape, output := hs.output, size := hs.size
      keep := fun k hk hn => hs.keep k hk fun q => hn (hW1 k q)
      wr := fun b ⟨i, o, hi, hb⟩ => by
        rcases hcase i o hi with ⟨j, o', hj, rfl, _⟩ | ⟨hi', hown, hun⟩
        . rcases hs.wr b ⟨j, o', hj, by rw [<- hown1 j o' hj]; exact hb⟩ with h1 | h1
          . exact .inl (hW1 b h1)
          exact .inr h1
        exact .inl ⟨i, o, hi', by rw [<- hown]; exact hb⟩
      X := rfl, B := rfl
      ρ := fun i hi => if_neg (hnew i hi) }
  have hrep : ∀ r v, r.bel (UU (n0 + nw)) -> Rep C1.ρ (C1.avoid H1) w'.heap r v -> Rep C2.ρ (C2.avoid H2) w'.heap (r.ren (shift σ n0 nx nw)) v := fun r v hr hrr =>
    Rep.ren (ρ := C2.ρ) ((hrr.mono (av' := C2.avoid H2) (fun b _ => hav21 b) (fun _ _ _ => rfl)).named (ρ' := fun i => C2.ρ (shift σ n0 nx nw i)) hρ hr)
  refine ⟨{ obj := fun i o hi => ?_, apart := fun i j oi oj b hne hi hj hb hb' => ?_, xapart := fun i o b hi hb hx => ?_, xlt := fun b hx => Nat.lt_of_lt_of_le (hR.xlt b hx) hs.size, objb := fun i o hi => ?_, gl := fun g hg => let ⟨o, h1, h2, h3⟩ := hR1.gl g hg; ⟨o, h1, h2, fun q => h3 (hav21 g q)⟩ }, hstep, fun r v hr hrr => ⟨hrep r v hr hrr, AV.bel_ren.2 (AV.bel_mono hknown r hr)⟩⟩
  . rcases hcase i o hi with ⟨j, o', hj, rfl, rfl⟩ | ⟨hi', hown, hun⟩
    . rw [hown1 j o' hj, hρ j (hmem1 j o' hj)]
      exact cR.ren (ρ := C2.ρ) (((hR1.obj j o' hj).mono (av' := C2.avoid H2) (fun b _ => hav21 b) (fun _ _ _ => rfl) (fun _ _ => rfl)).named (ρ' := fun i => C2.ρ (shift σ n0 nx nw i)) hρ (hR1.objb j o' hj).2)
    have hkeep : ∀ b, b ∈ C.own i -> w'.heap[b]? = w.heap[b]? := fun b hb => hs.keep b ((hR.obj i o hi').own_lt b hb) fun ⟨j, oj, hj, hb'⟩ =>
      hR.apart i (σ j) o _ b (fun e => hun j oj hj e.symm) hi' (hF.objs j oj hj).1 hb hb'
    have hρi : C2.ρ i = C.ρ i := if_neg (hnew i (hR.objb i o hi').1)
    rw [hown, hρi]
    exact ((hR.obj i o hi').mono (av' := C2.avoid H2) (fun b hb hq => hav1 b hb (hav21 b hq)) (fun b hb hn => hs.keep b hb fun q => hn (.inr (hW1 b q))) hkeep).named (ρ' := C2.ρ) (fun j hj => if_neg (hnew j hj)) (hR.objb i o hi').2
  . rcases hcase i oi hi with ⟨i', oi', hi', rfl, _⟩ | ⟨hi', hown, hun⟩
    . rw [hown1 i' oi' hi'] at hb
      rcases hcase j oj hj with ⟨j', oj', hj', rfl, _⟩ | ⟨hj', hown2, hun2⟩
      . rw [hown1 j' oj' hj'] at hb'
        exact hR1.apart i' j' oi' oj' b (fun e => hne (by rw [e])) hi' hj' hb hb'
      rw [hown2] at hb'
      exact hR1.xapart i' oi' b hi' hb (by rw [hs.X]; exact .inr ⟨j, oj, hj', hun2, hb'⟩)
    rw [hown] at hb
    rcases hcase j oj hj with ⟨j', oj', hj', rfl, _⟩ | ⟨hj', hown2, hun2⟩
    . rw [hown1 j' oj' hj'] at hb'
      exact hR1.xapart j' oj' b hj' hb' (by rw [hs.X]; exact .inr ⟨i, oi, hi', hun, hb⟩)
    rw [hown2] at hb'
    exact hR.apart i j oi oj b hne hi' hj' hb hb'
  . rcases hcase i o hi with ⟨j, o', hj, rfl, _⟩ | ⟨hi', hown, hun⟩
    . rw [hown1 j o' hj] at hb
      exact hR1.xapart j o' b hj hb (by rw [hs.X]; exact .inl hx)
    rw [hown] at hb
    exact hR.xapart i o b hi' hb hx
  rcases hcase i o hi with ⟨j, o', hj, rfl, rfl⟩ | ⟨hi', hown, hun⟩
  . exact ⟨hknown j (hmem1 j o' hj), AObj.bel_ren.2 (AObj.bel_mono hknown o' (hR1.objb j o' hj).2)⟩
  exact ⟨.inl (hR.objb i o hi').1, AObj.bel_mono (fun _ h => .inl h) o (hR.objb i o hi').2⟩
end
end
section
variable [Globals]
variable {x val : AV} {rd rt : List Nat} {i g : Nat} {want b : Bool} {c : Prop} {a : Act} {w : World} {U : Nat -> Prop} {C : Conc}
def sI (ds : List (Option Tmp)) (tmps : Array Value) (j : Nat) : Option Bool :=
  match ((ds[j]?).join).bind (tmps[·]?) with
  | some (.bool b) => some b
  | _ => none
def sJ (ops : Array Oper) (tmps : Array Value) (j : Nat) : yielded ops tmps j = sI (ops.toList.map (·.dst)) tmps j := by
  unfold yielded sI; rw [B4, D8]
  cases ops[j]? <;> rfl
def GS (P : Program) (ro : Option Nat) (ds : List (Option Tmp)) (o : Oper) (a : Act) (w : World) (next : Act -> World -> Prop) (Q : Exit -> Act -> World -> Prop) : Prop :=
  if Region.wanted o (sI ds a.tmps) then o.wpIn (FW ro) 0 P a w next Q else (∀ f, o.about P w a.eval = some f -> (FW ro).fn f) /\ next (a.put o.dst undef) w
def aY (P : Program) (ro : Option Nat) (N : Nat) (ds : List (Option Tmp)) (o : Oper) (b0 : Nat) (E0 : Env) (H0 : Heap) (rt rd : List Nat) (val : AV) (ps : Heap) (nx nw : Nat) : Prop :=
  ∀ (E : Env) (H : Heap) (U : Nat -> Prop), (∀ t ∈ rt, get E t = get E0 t) -> (∀ i ∈ rd, get H i = get H0 i) -> (∀ j, UU b0 j -> U j) -> (∀ j, nx <= j -> j < nx + nw -> ¬ U j) ->
    ∀ (C : Conc) (a : Act) (w : World) (next : Act -> World -> Prop) (Q : Exit -> Act -> World -> Prop), Rel C N E H U a w ->
      (∀ C' a' w', Rel C' N (aU E o.dst val) (over H ps) (sR U nx nw) a' w' -> StepR C H U w C' (over H ps) w' -> next a' w') -> GS P ro ds o a w next Q
structure Rec where
  rt : List Nat
  ro : List Nat
  wt : Option Nat
  wo : List Nat
  al : Heap
  ps : Heap
def aUu (P : Program) (ro : Option Nat) (N : Nat) (ds : List (Option Tmp)) (o : Oper) (b0 : Nat) (E0 : Env) (H0 : Heap) (rt rd : List Nat) (al : Heap) (val : AV) (ps : Heap) (nx nw : Nat) : Prop :=
  ∀ (E : Env) (H : Heap) (U : Nat -> Prop), (∀ t ∈ rt, get E t = get E0 t) -> (∀ i ∈ rd, get H i = get H0 i ∨ ∃ x, get al i = some x /\ get H i = some x) -> (∀ j, UU b0 j -> U j) -> (∀ j, nx <= j -> j < nx + nw -> ¬ U j) ->
    ∀ (C : Conc) (a : Act) (w : World) (next : Act -> World -> Prop) (Q : Exit -> Act -> World -> Prop), Rel C N E H U a w ->
      (∀ C' a' w', Rel C' N (aU E o.dst val) (over H ps) (sR U nx nw) a' w' -> StepR C H U w C' (over H ps) w' -> next a' w') -> GS P ro ds o a w next Q
def aY.toA {P : Program} {ro : Option Nat} {N : Nat} {ds : List (Option Tmp)} {o : Oper} {b0 : Nat} {E0 : Env} {H0 : Heap} {ps : Heap} {nx nw : Nat} (h : aY P ro N ds o b0 E0 H0 rt rd val ps nx nw) :
    aUu P ro N ds o b0 E0 H0 rt rd [] val ps nx nw :=
  fun E H U hE hH => h E H U hE fun i hi => (hH i hi).resolve_right (by rintro ⟨x, hx, _⟩; cases hx)
def bOw (P : Program) (ro : Option Nat) (N : Nat) (ds : List (Option Tmp)) (b0 : Nat) (o : Oper) (E : Env) (H : Heap) (nx : Nat) (K : Rec -> AK) : Prop :=
  ∃ rt rd val ps nw, (nw = 0 ∨ nx + nw <= 1000) /\ aY P ro N ds o b0 E H rt rd val ps nx nw /\ K ⟨rt, rd, o.dst, ps.map (·.1), [], ps⟩ (aU E o.dst val) (over H ps) (nx + nw)
def dZ {α : Type} (k : Nat) (x : α) (r : List (Nat × α)) (n : Nat) : get ((k, x) :: r) n = if k = n then some x else get r n := rfl
def aF : List Operand -> List Nat
  | [] => []
  | .tmp t :: r => t :: aF r
  | _ :: r => aF r
def aCc {t : Nat} : ∀ {xs : List Operand}, Operand.tmp t ∈ xs -> t ∈ aF xs
  | x :: xs, h => by
    rcases A8.1 h with e | e
    . subst e; exact A3
    cases x <;> simp only [aF] <;> first | exact A4 _ (aCc e) | exact aCc e
def oCg {E E' : Env} {xs : List Operand} (h : ∀ t ∈ aF xs, get E t = get E' t) : ∀ x ∈ xs, opv E x = opv E' x := fun x hx => by
  cases x with
  | tmp t => exact h t (aCc hx)
  | _ => rfl
def aCd (E : Env) : List Operand -> List Nat
  | [] => []
  | x :: r => match opv E x with
    | some p => nL p ++ aCd E r
    | none => aCd E r
def aCj {E : Env} {x : Operand} {p : AV} {i : Nat} (hp : opv E x = some p) (hi : i ∈ nL p) : ∀ {xs : List Operand}, x ∈ xs -> i ∈ aCd E xs
  | y :: ys, h => by
    unfold aCd
    rcases A8.1 h with e | e
    . subst e; rw [hp]
      exact A7.2 (.inl hi)
    split
    . exact A7.2 (.inr (aCj hp hi e))
    exact aCj hp hi e
section
variable {P : Program} {ro : Option Nat} {N : Nat} {o : Oper} {E : Env} {H : Heap} {nx b0 : Nat} {ds : List (Option Tmp)} {K : Rec -> AK}
def rS {next : Act -> World -> Prop} {Q : Exit -> Act -> World -> Prop} (hg : o.guard = none) (h : o.wpIn (FW ro) 0 P a w next Q) : GS P ro ds o a w next Q := by
  unfold GS Region.wanted; rw [hg]; exact h
def aRp (E : Env) (op : Op) : List Nat := match op with
  | .move _ | .assign _ => []
  | op => aCd E (jG op)
section
variable {E : Env}
end
def uQ {r : Ev} (hg : o.guard = none) (hN : oD o N) (h : wG P (opv E) (get H) nx o.op = some r) (hok : r.ok) :
    aY P ro N ds o b0 E H (aF (jG o.op)) (aRp E o.op) r.val r.ps nx r.nw := by
  intro E' H' U hE hH _ hnx C a w next Q hR hK
  have hops := oCg hE
  have hloc : wG P (opv E') (get H') nx o.op = some r := by
    rw [<- h]
    by_cases hm : (∃ x, o.op = .move x) ∨ ∃ x, o.op = .assign x
    . rcases hm with ⟨x, e⟩ | ⟨x, e⟩ <;> rw [e] <;> simp only [wG] <;> rw [hops x (by rw [e]; simp [jG])]
    have hr : aRp E o.op = aCd E (jG o.op) := by
      unfold aRp; split
      . exact absurd (.inl ⟨_, by assumption⟩) hm
      . exact absurd (.inr ⟨_, by assumption⟩) hm
      rfl
    rw [hr] at hH
    exact aZq hops fun x hx p hp i hi => hH i (aCj (by rw [<- hops x hx]; exact hp) hi hx)
  exact rS hg ((bAb (U := U) rfl hN hloc hok (fun hw => hnx nx (A0 _) og)).2 C a w next Q hR hK)
def aFc : AV -> AV
  | .when _ x => x
  | x => x
def aUr (G : Prop) : Option AV -> Prop
  | some (.when c _) => G -> c
  | _ => True
def unE (E : Env) : List Nat -> Env
  | [] => []
  | t :: r => match get E t with
    | some x => (t, aFc x) :: unE E r
    | none => unE E r
def aIj (G : Prop) (E : Env) : List Nat -> Prop
  | [] => True
  | t :: r => aUr G (get E t) /\ aIj G E r
def aIs {E : Env} {t : Nat} : ∀ {rt : List Nat}, t ∈ rt -> get (unE E rt) t = (get E t).map aFc
  | s :: r, h => by
    unfold unE
    by_cases e : s = t
    . subst e
      cases hs : get E s with
      | some x => simp [Abs.get]
      | none =>
        simp only [Option.map_none]
        clear h
        induction r with
        | nil => rfl
        | cons q r ih =>
          unfold unE
          cases hq : get E q with
          | some y =>
            simp only []
            rw [dZ, if_neg (fun e => by rw [e, hs] at hq; cases hq)]
            exact ih
          | none => exact ih
    have h' : t ∈ r := by
      rcases A8.1 h with e' | e'
      . exact absurd e'.symm e
      exact e'
    cases hs : get E s with
    | some x => simp only []; rw [dZ, if_neg e]; exact aIs h'
    | none => exact aIs h'
def aDx {E : Env} {t : Nat} {x : AV} : ∀ {rt : List Nat}, get (unE E rt) t = some x -> ∃ y, get E t = some y /\ x = aFc y /\ t ∈ rt
  | [], h => by cases h
  | s :: r, h => by
    unfold unE at h; split at h
    . rename_i z hz
      unfold Abs.get at h; split at h
      . rename_i e
        subst e; cases h
        exact ⟨z, hz, rfl, A3⟩
      obtain ⟨y, h1, h2, h3⟩ := aDx h
      exact ⟨y, h1, h2, A4 _ h3⟩
    obtain ⟨y, h1, h2, h3⟩ := aDx h
    exact ⟨y, h1, h2, A4 _ h3⟩
def aEm {G : Prop} {E : Env} {t : Nat} : ∀ {rt : List Nat}, aIj G E rt -> t ∈ rt -> aUr G (get E t)
  | s :: r, h, ht => by
    rcases A8.1 ht with e | e
    . subst e; exact h.1
    exact aEm h.2 e
def mB {α : Type} (n : Nat) (l' : List (Nat × α)) : ∀ l : List (Nat × α), get (l ++ l') n = match get l n with | some x => some x | none => get l' n
  | [] => rfl
  | (k, x) :: r => by
    show get ((k, x) :: (r ++ l')) n = _
    rw [dZ, dZ]
    by_cases h : k = n
    . simp [h]
    simp only [h, if_false]; exact mB n l' r
def bBh {ρ : Nat -> Value} {av : Nat -> Prop} {hp : Array Obj} {v : Value} {G : Prop} (hr : Rep ρ av hp x v) (hw : aUr G (some x)) (hG : G) : Rep ρ av hp (aFc x) v := by
  cases x with
  | when c y =>
    cases hr with
    | when _ _ _ h _ => exact h (hw hG)
  | _ => exact hr
def bAh (h : x.bel U) : (aFc x).bel U := by cases x <;> exact h
def aEc (hR : Rel C N E H U a w) (hg : o.guard = some (i, want)) (hi : (ds[i]?).join = some g) (hE : get E g = some x) (hs : jB x = some (c, b)) :
    Region.wanted o (sI ds a.tmps) = true ↔ c /\ b = want := by
  obtain ⟨hlt, _, hr⟩ := hR.env g x hE
  have hsz : g < a.tmps.size := by rw [hR.size]; exact hlt
  have hgd : a.tmps[g]? = some (a.tmps.getD g undef) := by simp [B5, hsz]
  unfold Region.wanted; rw [hg]
  show (sI ds a.tmps i == some want) = true ↔ _
  unfold sI; rw [hi]; simp only [Option.bind_some, hgd]
  generalize a.tmps.getD g undef = v at hr
  by_cases hc : c
  . have hv := aGh hs hr hc
    subst hv
    simp [hc]
  have hu : v = .tuple #[] := by
    cases x with
    | raw u => cases u <;> simp [jB] at hs; exact absurd hs.1 hc
    | when c' y =>
      cases hr with
      | when _ _ _ h9 h' =>
        clear h9
        cases y with
        | raw u =>
          cases u <;> simp only [jB, B9, Prod.mk.injEq, reduceCtorEq] at hs
          exact h' (by rw [hs.1]; exact hc)
        | _ => simp [jB] at hs
    | _ => simp [jB] at hs
  subst hu
  simp [hc]
def Rel.more (hR : Rel C N E H U a w) {E1 : Env} (h : ∀ t x, get E1 t = some x -> t < N /\ x.bel U /\ Rep C.ρ (C.avoid H) w.heap x (a.tmps.getD t undef)) : Rel C N (E1 ++ E) H U a w :=
  { toRelH := hR.toRelH, size := hR.size, hB := hR.hB, nodup := hR.nodup, marks := hR.marks
    env := fun t x ht => by
      rw [mB] at ht; split at ht
      . rename_i y hy
        cases ht
        exact h t x hy
      exact hR.env t x ht }
def aDq {rt rd ru : List Nat} {Eg : Env} (hru : ∀ t ∈ ru, t ∈ rt) (hEg : ∀ t ∈ rt, get Eg t = get (unE E ru ++ E) t) (hN : oD o N) (hg : o.guard = some (i, want)) (hi : (ds[i]?).join = some g) (hE : get E g = some x) (hs : jB x = some (c, b))
    (hun : aIj (c /\ b = want) E ru) (h : c /\ b = want -> aY P ro N ds { o with guard := none } b0 Eg H rt rd val [] nx 0) (hb : val.bel (UU b0)) : aY P ro N ds o b0 E H (g :: rt) rd (.when (c /\ b = want) val) [] nx 0 := by
  intro E' H' U hE' hH' hU hnx C a w next Q hR hK
  have hEgg : get E' g = some x := (hE' g A3).trans hE
  have hw := aEc (o := o) (ds := ds) hR hg hi hEgg hs
  unfold GS
  by_cases hG : c /\ b = want
  . rw [if_pos (hw.2 hG)]
    have hR2 : Rel C N (unE E ru ++ E') H' U a w := hR.more fun t y hy => by
      obtain ⟨z, hz, hyz, ht⟩ := aDx hy
      obtain ⟨h1, h2, h3⟩ := hR.env t z ((hE' t (A4 _ (hru t ht))).trans hz)
      have hok := aEm hun ht
      rw [hz] at hok; subst hyz
      exact ⟨h1, bAh h2, bBh h3 hok hG⟩
    have hl := h hG (unE E ru ++ E') H' U (fun t ht => by
      rw [hEg t ht, mB, mB, hE' t (A4 _ ht)]) hH' hU hnx C a w next Q hR2
    have hl2 := hl fun C' a' w' hR' hs' => by
      refine hK C' a' w' { toRelH := hR'.toRelH, size := hR'.size, hB := hR'.hB, nodup := hR'.nodup, marks := hR'.marks, env := fun t y ht => ?_ } hs'
      have henv := hR'.env
      cases hd : o.dst with
      | none =>
        simp only [hd, aU] at ht henv
        by_cases hq : ∃ z, get (unE E ru) t = some z
        . obtain ⟨z, hz⟩ := hq
          obtain ⟨u, hu, hzu, htr⟩ := aDx hz
          have hE2 := (hE' t (A4 _ (hru t htr))).trans hu
          rw [hE2] at ht
          obtain rfl : u = y := Option.some.inj ht
          obtain ⟨h1, h2, h3⟩ := henv t z (by rw [mB, hz])
          have hok := aEm hun htr
          rw [hu] at hok; subst hzu
          refine ⟨h1, ?_, ?_⟩
          . cases u <;> exact h2
          cases u with
          | when c' u' => exact .when _ _ _ (fun _ => h3) (fun hn => absurd (hok hG) hn)
          | _ => exact h3
        refine henv t y ?_
        rw [mB]
        cases hz : get (unE E ru) t with
        | some z => exact absurd ⟨z, hz⟩ hq
        | none => exact ht
      | some d =>
        simp only [hd, aU, Abs.get] at ht henv
        by_cases hdt : d = t
        . rw [if_pos hdt] at ht; cases ht
          obtain ⟨h1, h2, h3⟩ := henv t val (by rw [if_pos hdt])
          exact ⟨h1, h2, .when _ _ _ (fun _ => h3) (fun hn => absurd hG hn)⟩
        rw [if_neg hdt] at ht
        by_cases hq : ∃ z, get (unE E ru) t = some z
        . obtain ⟨z, hz⟩ := hq
          obtain ⟨u, hu, hzu, htr⟩ := aDx hz
          have hE2 := (hE' t (A4 _ (hru t htr))).trans hu
          rw [hE2] at ht
          obtain rfl : u = y := Option.some.inj ht
          obtain ⟨h1, h2, h3⟩ := henv t z (by rw [if_neg hdt, mB, hz])
          have hok := aEm hun htr
          rw [hu] at hok; subst hzu
          refine ⟨h1, ?_, ?_⟩
          . cases u <;> exact h2
          cases u with
          | when c' u' => exact .when _ _ _ (fun _ => h3) (fun hn => absurd (hok hG) hn)
          | _ => exact h3
        refine henv t y ?_
        rw [if_neg hdt, mB]
        cases hz : get (unE E ru) t with
        | some z => exact absurd ⟨z, hz⟩ hq
        | none => exact ht
    unfold GS Region.wanted at hl2
    simp only [if_true] at hl2
    exact hl2
  rw [if_neg (fun q => hG (hw.1 q))]
  refine ⟨fun _ _ => trivial, hK C _ w ?_ (StepR.refl C H' U w)⟩
  rw [aU0]
  exact hR.put hN (.when _ _ _ (fun hc => absurd hc hG) (fun _ => rfl)) (AV.bel_mono hU val hb)
def dK (hN : oD o N) (hg : o.guard = some (i, want)) (hi : (ds[i]?).join = some g) (hE : get E g = some x) (hs : jB x = some (c, b))
    (hun : aIj (c /\ b = want) E rt) (h : c /\ b = want -> aY P ro N ds { o with guard := none } b0 (unE E rt) H rt rd val [] nx 0) (hb : val.bel (UU b0)) : aY P ro N ds o b0 E H (g :: rt) rd (.when (c /\ b = want) val) [] nx 0 :=
  aDq (fun _ h => h) (fun t ht => by
    rw [mB]
    cases hq : get (unE E rt) t with
    | some y => rfl
    | none =>
      rw [aIs ht] at hq
      simp only [Option.map_eq_none_iff] at hq
      exact hq.symm) hN hg hi hE hs hun h hb
def rdG : Op -> List Nat
  | .pick c _ _ => aF [c]
  | o => aF (jG o)
def aAz (E : Env) : List Nat -> Env
  | [] => []
  | t :: r => match get E t with
    | some x => (t, x) :: aAz E r
    | none => aAz E r
def bEe (E : Env) : Op -> Env
  | .pick c x y => unE E (aF [c]) ++ aAz E (aF [x, y])
  | o => unE E (aF (jG o))
def aEz {E : Env} {t : Nat} : ∀ {rt : List Nat}, (t ∈ rt -> get (aAz E rt) t = get E t) /\ (t ∉ rt -> get (aAz E rt) t = none)
  | [] => ⟨fun h => (List.not_mem_nil h).elim, fun _ => rfl⟩
  | s :: r => by
    have ih := aEz (E := E) (t := t) (rt := r)
    unfold aAz
    by_cases e : s = t
    . subst e
      refine ⟨fun _ => ?_, fun h => absurd A3 h⟩
      cases hs : get E s with
      | some x => simp [Abs.get]
      | none =>
        show get (aAz E r) s = none
        by_cases h : s ∈ r
        . rw [ih.1 h, hs]
        exact ih.2 h
    refine ⟨fun h => ?_, fun h => ?_⟩
    . have h' : t ∈ r := by
        rcases A8.1 h with e' | e'
        . exact absurd e'.symm e
        exact e'
      cases hs : get E s with
      | some x => simp only []; rw [dZ, if_neg e]; exact ih.1 h'
      | none => exact ih.1 h'
    . have h' : t ∉ r := fun q => h (A4 _ q)
      cases hs : get E s with
      | some x => simp only []; rw [dZ, if_neg e]; exact ih.2 h'
      | none => exact ih.2 h'
def bMj (op : Op) : ∀ t ∈ rdG op, t ∈ aF (jG op) := by
  intro t ht; cases op
  case pick c x y =>
    cases c with
    | tmp s => simp only [rdG, jG, aF, A8, List.not_mem_nil, or_false] at ht ⊢; exact .inl ht
    | _ => simp only [rdG, aF, List.not_mem_nil] at ht
  all_goals exact ht
def bHb (E : Env) (op : Op) : ∀ t ∈ aF (jG op), get (bEe E op) t = get (unE E (rdG op) ++ E) t := by
  intro t ht
  have hno : ∀ {rt : List Nat}, t ∈ rt -> get (unE E rt) t = none -> get E t = none := fun hm hq => by
    rw [aIs hm] at hq
    simpa only [Option.map_eq_none_iff] using hq
  have old : ∀ rt : List Nat, t ∈ rt -> get (unE E rt) t = get (unE E rt ++ E) t := fun rt hm => by
    rw [mB]
    cases hq : get (unE E rt) t with
    | some y => rfl
    | none => exact (hno hm hq).symm
  cases op
  case pick c x y =>
    show get (unE E (aF [c]) ++ aAz E (aF [x, y])) t = get (unE E (aF [c]) ++ E) t
    rw [mB, mB]
    cases hq : get (unE E (aF [c])) t with
    | some y => rfl
    | none =>
      show get (aAz E (aF [x, y])) t = get E t
      by_cases h2 : t ∈ aF [x, y]
      . exact aEz.1 h2
      rw [aEz.2 h2]
      have h1 : t ∈ aF [c] := by
        have ht' : t ∈ aF [c, x, y] := ht
        cases c with
        | tmp s =>
          simp only [aF] at ht' ⊢
          rcases A8.1 ht' with e | e
          . rw [e]; exact A3
          exact absurd e h2
        | _ => exact absurd ht' h2
      exact (hno h1 hq).symm
  all_goals exact old _ ht
def aCz (hN : oD o N) (hg : o.guard = some (i, want)) (hi : (ds[i]?).join = some g) (hE : get E g = some x) (hs : jB x = some (c, b))
    (hun : aIj (c /\ b = want) E (rdG o.op)) (h : c /\ b = want -> aY P ro N ds { o with guard := none } b0 (bEe E o.op) H (aF (jG o.op)) rd val [] nx 0) (hb : val.bel (UU b0)) : aY P ro N ds o b0 E H (g :: aF (jG o.op)) rd (.when (c /\ b = want) val) [] nx 0 :=
  aDq (bMj _) (bHb E _) hN hg hi hE hs hun h hb
end
end
section
variable [Globals]
variable {c : Call} {f nw m0 : Nat} {code : Code} {nd H1 ps : Heap} {args : List AV} {r0 val : AV} {rt rd : List Nat}
section
variable {C : Conc} {N : Nat} {E : Env} {H H' : Heap} {U : Nat -> Prop} {a : Act} {w : World}
def zA (h : ∀ m, get H' m = get H m) : C.avoid H' = C.avoid H := by
  funext b
  refine propext (or_congr Iff.rfl ⟨?_, ?_⟩)
  . rintro ⟨i, o, hi, hb⟩; exact ⟨i, o, by rw [<- h]; exact hi, hb⟩
  rintro ⟨i, o, hi, hb⟩; exact ⟨i, o, by rw [h]; exact hi, hb⟩
def RelH.ext (h : ∀ m, get H' m = get H m) (hR : RelH C H U w) : RelH C H' U w where
  obj := fun i o hi => by rw [zA h]; exact hR.obj i o (by rw [<- h]; exact hi)
  apart := fun i j oi oj b hne hi hj => hR.apart i j oi oj b hne (by rw [<- h]; exact hi) (by rw [<- h]; exact hj)
  xapart := fun i o b hi => hR.xapart i o b (by rw [<- h]; exact hi)
  xlt := hR.xlt
  gl := by rw [zA h]; exact hR.gl
  objb := fun i o hi => hR.objb i o (by rw [<- h]; exact hi)
def Rel.ext (h : ∀ m, get H' m = get H m) (hR : Rel C N E H U a w) : Rel C N E H' U a w :=
  { toRelH := hR.toRelH.ext h, size := hR.size, hB := hR.hB, nodup := hR.nodup, marks := by rw [zA h]; exact hR.marks, env := by rw [zA h]; exact hR.env }
def StepR.ext {C' : Conc} {H0 : Heap} {w' : World} (h : ∀ m, get H' m = get H m) (hs : StepR C H0 U w C' H w') : StepR C H0 U w C' H' w' :=
  { hs with wr := fun b ⟨i, o, hi, hb⟩ => hs.wr b ⟨i, o, by rw [<- h]; exact hi, hb⟩ }
end
section
variable {P : Program} {ro : Option Nat} {N : Nat} {o : Oper} {E : Env} {H : Heap} {nx b0 : Nat} {ds : List (Option Tmp)} {K : Rec -> AK}
def bKc {fn : Func} {a : Act} {w : World} (ho : o.op = .call c) (hc : c.callee = .value (.func f)) (hT : FnT P f fn code) :
    (execOp a.eval o).run P w = .ok (.enter f (c.args.map a.eval)) w := by
  have hev : a.eval (.func f) = .func (.func f) #[] #[] := rfl
  simp [execOp, ho, resolve, hc, hev, Deferred.ofValue, invoke, hT.run]
def aFe {fn : Func} {a : Act} {w : World} {next : Act -> World -> Prop} {Q : Exit -> Act -> World -> Prop} {R : Value -> World -> Prop} (ho : o.op = .call c) (hc : c.callee = .value (.func f)) (hT : FnT P f fn code)
    (h : Calls P f (c.args.map a.eval) w fun e w' => ∃ v, e = .returned v /\ R v w') (hn : ∀ v w', R v w' -> next (a.put o.dst v) w') : o.wpIn (FW ro) 0 P a w next Q := by
  refine ⟨fun _ _ => trivial, ?_⟩
  rw [sZ (by simp [ho, Op.noDefer]), bKc ho hc hT]
  rw [Oper.uponIn_enter]
  exact ⟨fun hh => (by cases hh), aMs (h.mono fun e w' ⟨v, he, hv⟩ => by subst he; exact hn v w' hv)⟩
structure FitC (H : Heap) (s : List (Nat × Nat)) (nd : Heap) (m0 nw : Nat) (H1 : Heap) : Prop where
  objs : qV (sg s) m0 H nd
  inj : (nd.map fun p => sg s p.1).Nodup
  cov : ∀ i, i < m0 -> (get nd i).isSome = true
  sk : ∀ p ∈ s, (get nd p.1).isSome = true
  dom : ∀ p ∈ H1, (get nd p.1).isSome = true ∨ (m0 <= p.1 /\ p.1 < m0 + nw)
  all : ∀ p ∈ nd, (get H1 p.1).isSome = true
  far : m0 + nw <= 1000
def FitC.fit {s : List (Nat × Nat)} (h : FitC H s nd m0 nw H1) {C : Conc} {U : Nat -> Prop} {w : World} {H' : Heap} (hR : RelH C H' U w) (hU : ∀ j, 1000 <= j -> U j) (hH : ∀ p ∈ nd, get H' (sg s p.1) = get H (sg s p.1))
    (hf : ∀ j, nx <= j -> j < nx + nw -> ¬ U j) : Fit U H' (sg s) nd m0 nx nw H1 where
  objs := fun i ob hi => by
    have h1 := mH h.objs i ob (dS hi)
    exact ⟨(hH _ (dS hi)).trans h1.1, h1.2⟩
  inj := vB h.inj
  known := fun i hi => by
    have aux : ∀ i ob, get nd i = some ob -> U (sg s i) := fun i ob hi => (hR.objb _ _ ((hH _ (dS hi)).trans (mH h.objs i ob (dS hi)).1)).1
    rcases hi with hi | hi
    . obtain ⟨ob, hob⟩ := Option.isSome_iff_exists.1 (h.cov i hi)
      exact aux i ob hob
    cases hg : get s i with
    | none => simpa [sg, hg] using hU i hi
    | some j =>
      obtain ⟨ob, hob⟩ := Option.isSome_iff_exists.1 (h.sk _ (dS hg))
      exact aux i ob hob
  dom := fun i ob hi => by
    rcases h.dom _ (dS hi) with h1 | h1
    . exact .inl (Option.isSome_iff_exists.1 h1)
    exact .inr h1
  all := fun i ob hi => Option.isSome_iff_exists.1 (h.all _ (dS hi))
  fresh := hf
  far := h.far
def aJz {fn : Func} (s : List (Nat × Nat)) (hg : o.guard = none) (ho : o.op = .call c) (hc : c.callee = .value (.func f)) (hT : FnT P f fn code)
    (hN : oD o N) (hM : uE P f args nd m0 fun r H' n' => r = r0 /\ H' = H1 /\ n' = m0 + nw) (hargs : c.args.toList.map (opv E) = (aB (sg s) args).map some) (hab : aI (UU m0) args) (hF : FitC H s nd m0 nw H1) :
    aY P ro N ds o b0 E H (aF c.args.toList) (nd.map fun p => sg s p.1) (r0.ren (shift (sg s) m0 nx nw)) (H1.map fun p => (shift (sg s) m0 nx nw p.1, p.2.ren (shift (sg s) m0 nx nw))) nx nw := by
  intro E' H' U hE hH hU hnx C a w next Q hR hK
  have hops := oCg hE
  have hfit := hF.fit hR.toRelH (fun j hj => hU j (.inr hj)) (fun p hp => hH _ (A9.2 ⟨p, hp, rfl⟩)) hnx
  have hRc := hR.toRelH.callee hfit
  have hlen : c.args.toList.length = args.length := by have := congrArg List.length hargs; simpa [rnl] using this
  have hargsR : eB (callee C H' (sg s) nd).ρ ((callee C H' (sg s) nd).avoid nd) w.heap args (c.args.map a.eval) := by
    refine ⟨by simpa using hlen, fun j x hj => ?_⟩
    have hjl : j < c.args.toList.length := by rw [hlen]; exact (B2.1 hj).1
    have h1 : (c.args.toList.map (opv E))[j]? = some (some (x.ren (sg s))) := by rw [hargs, B4, qD, hj]; rfl
    rw [B4, A1 hjl] at h1
    simp only [Option.map_some, B9] at h1
    have h2 : opv E' c.args.toList[j] = some (x.ren (sg s)) := by rw [hops _ (C9 hjl)]; exact h1
    obtain ⟨h3, _⟩ := hR.opv h2
    have hv : (c.args.map a.eval).getD j undef = a.eval c.args.toList[j] := by
      simp at hjl
      simp [B5, hjl]
    rw [hv]
    exact (h3.mono (av' := (callee C H' (sg s) nd).avoid nd) (fun b _ hb => (iB hfit b).1 hb) (fun _ _ _ => rfl)).unren (ρ := C.ρ) x rfl
  refine rS hg (aFe (R := fun v w' => ∃ C1, RelH C1 H1 (UU (m0 + nw)) w' /\ StepR (callee C H' (sg s) nd) nd (UU m0) w C1 H1 w' /\ Rep C1.ρ (C1.avoid H1) w'.heap r0 v /\ r0.bel (UU (m0 + nw))) ho hc hT
    ((hM _ w _ hRc hargsR hab).mono fun e w' ⟨v, r, H2, n', C1, he, hn', ⟨hr, hH2, hn2⟩, h1, h2, h3, h4⟩ => ?_) fun v w' ⟨C1, h1, h2, h3, h4⟩ => ?_)
  . subst hr; subst hH2; subst hn2
    exact ⟨v, he, C1, h1, h2, h3, h4⟩
  obtain ⟨k1, k2, k3⟩ := hR.toRelH.back hfit h1 h2
  obtain ⟨k4, k5⟩ := k3 r0 v h4 h3
  have hRel := hR.change k2 (fun i hi => .inl hi) k1
  exact hK _ _ w' (hRel.put hN k4 k5) k2
def jN (σ : Nat -> Nat) (m0 nx : Nat) : shift σ m0 nx 0 = σ := by
  funext i
  unfold shift; rw [if_neg og]
def bBp {fn : Func} (s : List (Nat × Nat)) (hg : o.guard = none) (ho : o.op = .call c) (hc : c.callee = .value (.func f)) (hT : FnT P f fn code)
    (hN : oD o N) (hM : aK P f args nd m0 r0) (hargs : c.args.toList.map (opv E) = (aB (sg s) args).map some) (hab : aI (UU m0) args) (hF : FitC H s nd m0 0 nd) :
    aY P ro N ds o b0 E H (aF c.args.toList) (nd.map fun p => sg s p.1) (r0.ren (sg s)) [] nx 0 := by
  have hl := aJz (P := P) (ro := ro) (N := N) (o := o) (E := E) (H := H) (nx := nx) (b0 := b0) (ds := ds) s hg ho hc hT hN (uE.mono hM fun r H' n' h => h) hargs hab hF
  rw [jN] at hl
  intro E' H' U hE hH hU hnx C a w next Q hR hK
  have hext : ∀ m, get (over H' []) m = get (over H' (nd.map fun p => (sg s p.1, p.2.ren (sg s)))) m := fun m => by
    rw [cJ, cJ]
    show get H' m = _
    cases hm : get (nd.map fun p => (sg s p.1, p.2.ren (sg s))) m with
    | none => rfl
    | some ob =>
      obtain ⟨i, o', h1, h2, h3⟩ := aDa (sg s) (AObj.ren (sg s)) m ob nd hm
      have h4 := (mH hF.objs i o' (dS h1)).1
      rw [<- h2, hH _ (A9.2 ⟨_, dS h1, rfl⟩), h4, h3]
  exact hl E' H' U hE hH hU hnx C a w next Q hR fun C' a' w' hR' hs' => hK C' a' w' (hR'.ext hext) (hs'.ext hext)
def aSp : sg [] = id := rfl
def tA {fn : Func} (hg : o.guard = none) (ho : o.op = .call c) (hc : c.callee = .value (.func f)) (hT : FnT P f fn code)
    (hN : oD o N) (hM : aK P f args [] 0 r0) (hargs : c.args.toList.map (opv E) = args.map some) (hab : aI (UU 0) args) : aY P ro N ds o b0 E H (aF c.args.toList) [] r0 [] nx 0 := by
  have hl := bBp (P := P) (ro := ro) (N := N) (o := o) (E := E) (H := H) (nx := nx) (b0 := b0) (ds := ds) (nd := []) (m0 := 0) [] hg ho hc hT hN hM (by rw [aSp, lB]; exact hargs) hab
    ⟨trivial, E5, (fun i hi => by omega), (fun p hp => by cases hp), (fun p hp => by cases hp), (fun p hp => by cases hp), og⟩
  rw [aSp, AV.ren_id] at hl; exact hl
def aJn (hl : aY P ro N ds o b0 E H rt rd val ps nx nw) (hn : nw = 0 ∨ nx + nw <= 1000) (hk : K ⟨rt, rd, o.dst, ps.map (·.1), [], ps⟩ (aU E o.dst val) (over H ps) (nx + nw)) : bOw P ro N ds b0 o E H nx K :=
  ⟨rt, rd, val, ps, nw, hn, hl, hk⟩
def qL (P : Program) (ro : Option Nat) (N : Nat) (ds : List (Option Tmp)) (l : List Oper) (K : AK) (E : Env) (H : Heap) (nx : Nat) : Prop :=
  ∀ (ops : Array Oper) (n0 : Nat) (Q : Exit -> Act -> World -> Prop) (C : Conc) (a : Act) (w : World), ops.toList.map (·.dst) = ds -> (∀ o ∈ l, ∀ d, o.dst = some d -> d < N) -> n0 <= nx -> Rel C N E H (UU nx) a w ->
    (∀ E' H' nx' C' a' w', n0 <= nx' -> Rel C' N E' H' (UU nx') a' w' -> StepR C H (UU n0) w C' H' w' -> K E' H' nx' -> Q .normal a' w') -> wpListIn (FW ro) 0 P ops Q l a w
def lO (P : Program) (ro : Option Nat) (N : Nat) (ds : List (Option Tmp)) : List Oper -> AK -> AK
  | [], K, E, H, nx => K E H nx
  | o :: l, K, E, H, nx =>
    match o.guard with
    | none => match wG P (opv E) (get H) nx o.op with
      | some r => r.ok /\ (r.nw = 0 ∨ nx + r.nw <= 1000) /\ lO P ro N ds l K (aU E o.dst r.val) (over H r.ps) (nx + r.nw)
      | none => qL P ro N ds (o :: l) K E H nx
    | some (i, want) => match (ds[i]?).join with
      | some g => match (get E g).bind jB with
        | some (c, b) => match wG P (opv (bEe E o.op)) (get H) nx o.op with
          | some ⟨ok, val, [], 0⟩ => ((c /\ b = want) -> ok) /\ aIj (c /\ b = want) E (rdG o.op) /\ val.bel (UU nx) /\ lO P ro N ds l K (aU E o.dst (.when (c /\ b = want) val)) H nx
          | _ => qL P ro N ds (o :: l) K E H nx
        | none => qL P ro N ds (o :: l) K E H nx
      | none => qL P ro N ds (o :: l) K E H nx
def aFa {l : List Oper} {K : AK} (h : bOw P ro N ds nx o E H nx fun _ => qL P ro N ds l K) : qL P ro N ds (o :: l) K E H nx := by
  intro ops n0 Q C a w hds hd hn hR hk; subst hds
  obtain ⟨rt, rd, val, ps, nw, hnw, hl, hK⟩ := h
  have h1 := hl E H (UU nx) (fun _ _ => rfl) (fun _ _ => rfl) (fun _ h => h) (fun j h1 h2 h3 => by rcases h3 with h3 | h3 <;> omega) C a w (wpListIn (FW ro) 0 P ops Q l) Q hR fun C' a' w' hR' hs' => by
    rw [aDh] at hR'
    exact hK ops n0 Q C' a' w' rfl (fun o ho => hd o (A4 _ ho)) og hR' fun E2 H2 nx2 C2 a2 w2 hn2 hR2 hs2 hK2 =>
      hk E2 H2 nx2 C2 a2 w2 hn2 hR2 ((hs'.fewerNames (eD hn)).trans (fun _ h => h) hs2) hK2
  unfold GS at h1
  have hy : sI (ops.toList.map (·.dst)) a.tmps = yielded ops a.tmps := by funext j; rw [sJ]
  rw [hy] at h1; exact h1
def aXx {l : List Oper} {K : AK} (h : (∀ o ∈ l, ∀ d, o.dst = some d -> d < N) -> qL P ro N ds l K E H nx) : qL P ro N ds l K E H nx :=
  fun ops n0 Q C a w hds hd hn hR hk => h hd ops n0 Q C a w hds hd hn hR hk
def zS : ∀ (l : List Oper) (K : AK) (E : Env) (H : Heap) (nx : Nat), lO P ro N ds l K E H nx -> qL P ro N ds l K E H nx
  | [], K, E, H, nx, h => fun ops n0 Q C a w hds hd hn hR hk => hk E H nx C a w hn hR (StepR.refl C H _ w) h
  | o :: l, K, E, H, nx, h => aXx fun hd => by
    have hN := hd o A3
    simp only [lO] at h
    split at h
    . rename_i hg
      split at h
      . rename_i r hr
        obtain ⟨hok, hnx, hrest⟩ := h
        exact aFa (aJn (uQ hg hN hr hok) hnx (zS l K _ _ _ hrest))
      exact h
    rename_i i want hg
    split at h
    . rename_i g hgi
      split at h
      . rename_i c b hs
        obtain ⟨x, hx, hsx⟩ := G9.1 hs
        split at h
        . rename_i ok val hr
          obtain ⟨hok, hun, hb, hrest⟩ := h
          exact aFa (aJn (aCz hN hg hgi hx hsx hun (fun hG => uQ (o := { o with guard := none }) rfl hN hr (hok hG)) hb) (.inl rfl) (zS l K _ _ _ hrest))
        exact h
      exact h
    exact h
def vC {l : List Oper} {K : AK} (hl : (∀ d, o.dst = some d -> d < N) -> aY P ro N ds o nx E H rt rd val ps nx nw) (hn : nw = 0 ∨ nx + nw <= 1000) (h : lO P ro N ds l K (aU E o.dst val) (over H ps) (nx + nw)) :
    qL P ro N ds (o :: l) K E H nx :=
  aXx fun hd => aFa (aJn (hl (hd o A3)) hn (zS l K _ _ _ h))
def aGu (N : Nat) (l : List Oper) : Bool := l.all fun o => match o.dst with | some d => decide (d < N) | none => true
def aFv {l : List Oper} (h : aGu N l = true) : ∀ o ∈ l, ∀ d, o.dst = some d -> d < N := fun o ho d hd => by
  have := C8.1 h o ho
  rw [hd] at this
  simpa using this
def wg {n0 : Nat} {Q : AQ} {id : Nat} {ops : Array Oper} (hd : aGu N ops.toList = true) (h : lO P ro N (ops.toList.map (·.dst)) ops.toList (Q .normal) E H nx) : AWP P ro N n0 (.region id ops false) Q E H nx := by
  intro C a w Qc hn hR hK
  exact wpIn_region_list (zS ops.toList _ E H nx h ops n0 Qc C a w rfl (aFv hd) hn hR fun E' H' nx' C' a' w' hn' hR' hs' hk => hK .normal E' H' nx' C' a' w' hn' hR' hs' hk)
end
end
section
variable [Globals]
variable {E : Env} {d : Option Nat} {x : AV} {t m : Nat} {H ps : Heap}
structure St where
  rt : List Nat
  rd : List Nat
  wt : Option Nat
  al : Heap
  val : AV
  ps : Heap
  nx : Nat
  nw : Nat
def St.row (s : St) : Rec := ⟨s.rt, s.rd, s.wt, s.ps.map (·.1), s.al, s.ps⟩
def tW (P : Program) (ro : Option Nat) (N : Nat) (ds : List (Option Tmp)) (b0 : Nat) : List Oper -> Env -> Heap -> Nat -> List St -> Env -> Heap -> Nat -> Prop
  | [], E, H, nx, [], E', H', nx' => E' = E /\ H' = H /\ nx' = nx
  | o :: l, E, H, nx, s :: ss, E', H', nx' => s.nx = nx /\ s.wt = o.dst /\ (s.nw = 0 ∨ nx + s.nw <= 1000) /\ aUu P ro N ds o b0 E H s.rt s.rd s.al s.val s.ps nx s.nw /\
      tW P ro N ds b0 l (aU E o.dst s.val) (over H s.ps) (nx + s.nw) ss E' H' nx'
  | _, _, _, _, _, _, _, _ => False
def stE (D : Nat -> Bool) : Nat -> List St -> Env -> Env
  | _, [], E => E
  | k, s :: r, E => stE D (k + 1) r (if D k = true then aU E s.wt s.val else E)
def stH (D : Nat -> Bool) : Nat -> List St -> Heap -> Heap
  | _, [], H => H
  | k, s :: r, H => stH D (k + 1) r (if D k = true then over H s.ps else H)
def stU (D : Nat -> Bool) (U : Nat -> Prop) (ss : List St) : Nat -> Prop := fun m => U m ∨ ∃ k s, ss[k]? = some s /\ D k = true /\ s.nx <= m /\ m < s.nx + s.nw
def bKe {E E' : Env} (h : get E t = get E' t) : get (aU E d x) t = get (aU E' d x) t := by
  cases d with
  | none => exact h
  | some d => show get ((d, x) :: E) t = get ((d, x) :: E') t; rw [dZ, dZ, h]
def qQ (h : d ≠ some t) : get (aU E d x) t = get E t := by
  cases d with
  | none => rfl
  | some d => show get ((d, x) :: E) t = _; rw [dZ, if_neg (fun e => h (by rw [e]))]
def aWf {H H' ps : Heap} (h : get H m = get H' m) : get (over H ps) m = get (over H' ps) m := by rw [cJ, cJ, h]
def jR (h : m ∉ ps.map (·.1)) : get (over H ps) m = get H m := by
  rw [cJ]
  cases hm : get ps m with
  | none => rfl
  | some o => exact absurd (A9.2 ⟨_, dS hm, rfl⟩) h
def tV (t : Nat) (D D' : Nat -> Bool) : ∀ (ss : List St) (k : Nat) (E E' : Env), get E t = get E' t -> (∀ j s, ss[j]? = some s -> s.wt = some t -> D (k + j) = D' (k + j)) -> get (stE D k ss E) t = get (stE D' k ss E') t
  | [], k, E, E', h, _ => h
  | s :: r, k, E, E', h, hD => by
    unfold stE
    refine tV t D D' r (k + 1) _ _ ?_ fun j s' hj hw => by have := hD (j + 1) s' (by simpa using hj) hw; rwa [show k + 1 + j = k + (j + 1) by omega]
    by_cases hw : s.wt = some t
    . have := hD 0 s rfl hw
      rw [Nat.add_zero] at this; rw [this]; split
      . exact bKe h
      exact h
    have h1 : get (if D k = true then aU E s.wt s.val else E) t = get E t := by
      split
      . exact qQ hw
      rfl
    have h2 : get (if D' k = true then aU E' s.wt s.val else E') t = get E' t := by
      split
      . exact qQ hw
      rfl
    rw [h1, h2, h]
def rN (m : Nat) (D D' : Nat -> Bool) : ∀ (ss : List St) (k : Nat) (H H' : Heap), get H m = get H' m -> (∀ j s, ss[j]? = some s -> m ∈ s.ps.map (·.1) -> D (k + j) = D' (k + j)) -> get (stH D k ss H) m = get (stH D' k ss H') m
  | [], k, H, H', h, _ => h
  | s :: r, k, H, H', h, hD => by
    unfold stH
    refine rN m D D' r (k + 1) _ _ ?_ fun j s' hj hw => by have := hD (j + 1) s' (by simpa using hj) hw; rwa [show k + 1 + j = k + (j + 1) by omega]
    by_cases hw : m ∈ s.ps.map (·.1)
    . have := hD 0 s rfl hw
      rw [Nat.add_zero] at this; rw [this]; split
      . exact aWf h
      exact h
    have h1 : get (if D k = true then over H s.ps else H) m = get H m := by
      split
      . exact jR hw
      rfl
    have h2 : get (if D' k = true then over H' s.ps else H') m = get H' m := by
      split
      . exact jR hw
      rfl
    rw [h1, h2, h]
def aWy (t : Nat) (D : Nat -> Bool) (i : Nat) (si : St) (hD : D i = true) (hw : si.wt = some t) : ∀ (ss : List St) (k : Nat) (E : Env), k <= i -> ss[i - k]? = some si -> (∀ j s, ss[j]? = some s -> s.wt = some t -> i < k + j -> D (k + j) = false) -> get (stE D k ss E) t = some si.val
  | [], k, E, _, h, _ => by simp at h
  | s :: r, k, E, hk, h, hl => by
    unfold stE
    by_cases e : k = i
    . subst e
      simp only [Nat.sub_self, List.getElem?_cons_zero, B9] at h
      subst h; rw [hD, if_pos rfl]
      have h1 := tV t D (fun _ => false) r (k + 1) (aU E s.wt s.val) (aU E s.wt s.val) rfl fun j s' hj hw' => by
        have := hl (j + 1) s' (by simpa using hj) hw' og
        rwa [show k + 1 + j = k + (j + 1) by omega]
      rw [h1]
      have h2 : ∀ (r : List St) (q : Nat) (E : Env), stE (fun _ => false) q r E = E := by
        intro r
        induction r with
        | nil => intro q E; rfl
        | cons a r ih => intro q E; unfold stE; simp [ih]
      rw [h2, hw]
      show get ((t, s.val) :: E) t = _
      rw [dZ, if_pos rfl]
    refine aWy t D i si hD hw r (k + 1) _ og ?_ fun j s' hj hw' hlt => ?_
    . rw [show i - k = (i - (k + 1)) + 1 by omega] at h
      simpa using h
    have := hl (j + 1) s' (by simpa using hj) hw' og
    rwa [show k + 1 + j = k + (j + 1) by omega]
def aQh (m : Nat) (D p : Nat -> Bool) (Sx : Option AObj -> Prop) : ∀ (ss : List St) (k : Nat) (H H' : Heap), (∀ j sj, ss[j]? = some sj -> D (k + j) = true -> p (k + j) = false -> m ∈ sj.ps.map (·.1) -> Sx (get sj.ps m)) ->
    (get H m = get H' m ∨ Sx (get H m)) -> get (stH D k ss H) m = get (stH (fun j => D j && p j) k ss H') m ∨ Sx (get (stH D k ss H) m)
  | [], k, H, H', _, h => h
  | s :: r, k, H, H', hS, h => by
    have hover : ∀ G : Heap, m ∈ s.ps.map (·.1) -> get (over G s.ps) m = get s.ps m := fun G hm => by
      rw [cJ]
      obtain ⟨o, ho⟩ : ∃ o, get s.ps m = some o := by
        clear hS
        generalize s.ps = ps at hm
        induction ps with
        | nil => simp at hm
        | cons q r ih =>
          obtain ⟨i, o⟩ := q
          unfold Abs.get; split
          . exact ⟨o, rfl⟩
          rename_i e
          simp only [List.map_cons, A8] at hm
          exact ih (hm.resolve_left (fun e' => e e'.symm))
      rw [ho]
    unfold stH
    refine aQh m D p Sx r (k + 1) _ _ (fun j sj hj hD hp hm => hS (j + 1) sj (by simpa using hj) (by rwa [show k + (j + 1) = k + 1 + j by omega]) (by rwa [show k + (j + 1) = k + 1 + j by omega]) hm) ?_
    by_cases hD : D k = true
    . rw [if_pos hD]
      by_cases hm : m ∈ s.ps.map (·.1)
      . cases hp : p k with
        | true =>
          rw [if_pos (by simp [hD])]
          exact .inl (by rw [hover H hm, hover H' hm])
        | false =>
          exact .inr (by rw [hover H hm]; exact hS 0 s rfl hD hp hm)
      cases hp : p k with
      | true => rw [if_pos (by simp [hD])]; rw [jR hm, jR hm]; exact h
      | false => rw [if_neg oS]; rw [jR hm]; exact h
    rw [if_neg hD, if_neg (by simp [hD])]
    exact h
def aNg (m : Nat) (D : Nat -> Bool) (i : Nat) (si : St) (hD : D i = true) (hw : m ∈ si.ps.map (·.1)) : ∀ (ss : List St) (k : Nat) (H : Heap), k <= i -> ss[i - k]? = some si -> (∀ j s, ss[j]? = some s -> m ∈ s.ps.map (·.1) -> i < k + j -> D (k + j) = false) -> get (stH D k ss H) m = get si.ps m
  | [], k, H, _, h, _ => by simp at h
  | s :: r, k, H, hk, h, hl => by
    unfold stH
    by_cases e : k = i
    . subst e
      simp only [Nat.sub_self, List.getElem?_cons_zero, B9] at h
      subst h; rw [hD, if_pos rfl]
      have h1 := rN m D (fun _ => false) r (k + 1) (over H s.ps) (over H s.ps) rfl fun j s' hj hw' => by
        have := hl (j + 1) s' (by simpa using hj) hw' og
        rwa [show k + 1 + j = k + (j + 1) by omega]
      rw [h1]
      have h2 : ∀ (r : List St) (q : Nat) (H : Heap), stH (fun _ => false) q r H = H := by
        intro r
        induction r with
        | nil => intro q H; rfl
        | cons a r ih => intro q H; unfold stH; simp [ih]
      rw [h2, cJ]
      have hex : ∃ o, get s.ps m = some o := by
        clear h1 hl h2 hk hD
        generalize s.ps = ps at hw
        induction ps with
        | nil => simp at hw
        | cons p r ih =>
          obtain ⟨i, o⟩ := p
          rw [dZ]
          by_cases e : i = m
          . exact ⟨o, if_pos e⟩
          rw [if_neg e]; refine ih ?_
          simp only [List.map_cons, A8] at hw
          exact hw.resolve_left (fun e' => e e'.symm)
      obtain ⟨o, ho⟩ := hex
      rw [ho]
    refine aNg m D i si hD hw r (k + 1) _ og ?_ fun j s' hj hw' hlt => ?_
    . rw [show i - k = (i - (k + 1)) + 1 by omega] at h
      simpa using h
    have := hl (j + 1) s' (by simpa using hj) hw' og
    rwa [show k + 1 + j = k + (j + 1) by omega]
section
variable {P : Program} {ro : Option Nat} {N : Nat} {ds : List (Option Tmp)} {b0 : Nat}
def tW.at' : ∀ (l : List Oper) (ss : List St) (E : Env) (H : Heap) (nx : Nat) (E' : Env) (H' : Heap) (nx' : Nat) (k : Nat), tW P ro N ds b0 l E H nx ss E' H' nx' -> ss.length = l.length /\ nx <= nx' /\
    (∀ (i : Nat) (o : Oper) (s : St), l[i]? = some o -> ss[i]? = some s -> s.wt = o.dst /\ nx <= s.nx /\ s.nx + s.nw <= nx' /\ (s.nw = 0 ∨ s.nx + s.nw <= 1000) /\
      aUu P ro N ds o b0 (stE (fun j => decide (j < k + i)) k ss E) (stH (fun j => decide (j < k + i)) k ss H) s.rt s.rd s.al s.val s.ps s.nx s.nw) /\
    (∀ (i j : Nat) (s s' : St), ss[i]? = some s -> ss[j]? = some s' -> i < j -> s.nx + s.nw <= s'.nx) /\
    E' = stE (fun _ => true) k ss E /\ H' = stH (fun _ => true) k ss H /\ (∀ m, nx <= m -> m < nx' -> ∃ (i : Nat) (s : St), ss[i]? = some s /\ s.nx <= m /\ m < s.nx + s.nw)
  | [], [], E, H, nx, E', H', nx', k, ⟨h1, h2, h3⟩ => ⟨rfl, og, fun i o s hi => by simp at hi, fun i j s s' hi => by simp at hi, h1, h2, fun m h4 h5 => by omega⟩
  | [], s :: ss, E, H, nx, E', H', nx', k, h => by simp [tW] at h
  | o :: l, [], E, H, nx, E', H', nx', k, h => by simp [tW] at h
  | o :: l, s :: ss, E, H, nx, E', H', nx', k, h => by
    obtain ⟨h1, h2, h3, h4, h5⟩ := h
    obtain ⟨a1, a2, a3, a4, a5, a6, a7⟩ := tW.at' l ss _ _ _ E' H' nx' (k + 1) h5
    have hfalse : ∀ (r : List St) (q : Nat) (E : Env), k <= q -> stE (fun j => decide (j < k)) q r E = E := by
      intro r
      induction r with
      | nil => intro q E _; rfl
      | cons a r ih => intro q E hq; unfold stE; rw [if_neg (by simp; omega)]; exact ih (q + 1) E og
    have hfalseH : ∀ (r : List St) (q : Nat) (H : Heap), k <= q -> stH (fun j => decide (j < k)) q r H = H := by
      intro r
      induction r with
      | nil => intro q H _; rfl
      | cons a r ih => intro q H hq; unfold stH; rw [if_neg (by simp; omega)]; exact ih (q + 1) H og
    refine ⟨by simp [a1], og, fun i o' s' hi hs => ?_, fun i j s1 s2 hi hj hij => ?_, ?_, ?_, fun m h6 h7 => ?_⟩
    . cases i with
      | zero =>
        simp only [List.getElem?_cons_zero, B9] at hi hs
        subst hi; subst hs
        refine ⟨h2, og, og, by rw [h1]; exact h3, ?_⟩
        rw [Nat.add_zero, hfalse _ _ _ (A0 _), hfalseH _ _ _ (A0 _), h1]; exact h4
      | succ i =>
        obtain ⟨b1, b2, b3, b4, b5⟩ := a3 i o' s' (by simpa using hi) (by simpa using hs)
        refine ⟨b1, og, b3, b4, ?_⟩
        rw [show k + (i + 1) = k + 1 + i by omega]; unfold stE stH; rw [if_pos (by simp; omega), if_pos (by simp; omega), h2]; exact b5
    . cases j with
      | zero => omega
      | succ j =>
        cases i with
        | zero =>
          simp only [List.getElem?_cons_zero, B9] at hi
          subst hi
          have hj' : ss[j]? = some s2 := by simpa using hj
          have hjl := (B2.1 hj').1
          obtain ⟨_, b2, _⟩ := a3 j (l[j]'og) s2 (A1 og) hj'
          omega
        | succ i => exact a4 i j s1 s2 (by simpa using hi) (by simpa using hj) og
    . unfold stE; rw [if_pos rfl, h2]; exact a5
    . unfold stH; rw [if_pos rfl]; exact a6
    rcases Nat.lt_or_ge m (nx + s.nw) with h8 | h8
    . exact ⟨0, s, rfl, og, og⟩
    obtain ⟨i, s', h9, h10⟩ := a7 m h8 h7
    exact ⟨i + 1, s', by simpa using h9, h10⟩
end
end
section
variable [Globals]
variable {E E' : Env} {H : Heap}
def aNq (r s : Rec) : Bool :=
  (match r.wt with | some t => s.rt.contains t || s.wt == some t | none => false) || (match s.wt with | some t => r.rt.contains t | none => false) ||
  r.wo.any (fun m => s.ro.contains m || s.wo.contains m) || s.wo.any (fun m => r.ro.contains m)
def aJa (acc : List (List Nat)) (es : List Edge) : List Nat := (es.filter (Region.binds .any)).flatMap fun e => e.on :: (acc[e.on]?).getD []
def zW : List (List Edge) -> List (List Nat) -> List (List Nat)
  | [], acc => acc
  | es :: r, acc => zW r (acc ++ [aJa acc es])
def qY (r s : Rec) : Bool :=
  (match r.wt with | some t => s.rt.contains t || s.wt == some t | none => false) || (match s.wt with | some t => r.rt.contains t | none => false) ||
  r.wo.any (fun m => s.ro.contains m || s.wo.contains m)
def aKa (x : Nat × Nat) (afts : List (List Edge)) (rs : List Rec) : Bool :=
  (List.range afts.length).all (fun j => ((afts[j]?).getD []).all fun e => !Region.binds .any e || decide (e.on < j)) &&
  (List.range rs.length).all (fun j => (List.range j).all fun i => match rs[i]?, rs[j]? with
    | some r, some s => !(if x = (i, j) then qY r s else aNq r s) || (((zW afts [])[j]?).getD []).contains i
    | _, _ => true)
def bLs (afts : List (List Edge)) (rs : List Rec) : Bool :=
  (List.range afts.length).all (fun j => ((afts[j]?).getD []).all fun e => !Region.binds .any e || decide (e.on < j)) &&
  (List.range rs.length).all (fun j => (List.range j).all fun i => match rs[i]?, rs[j]? with
    | some r, some s => !aNq r s || (((zW afts [])[j]?).getD []).contains i
    | _, _ => true)
def yQ {D : Nat -> Bool} : ∀ (l : List (List Edge)) (acc : List (List Nat)), (∀ j es e, l[j]? = some es -> D (acc.length + j) = true -> e ∈ es -> Region.binds .any e = true -> D e.on = true) ->
    (∀ j as i, acc[j]? = some as -> D j = true -> i ∈ as -> D i = true) -> ∀ j as i, (zW l acc)[j]? = some as -> D j = true -> i ∈ as -> D i = true
  | [], acc, _, h2 => h2
  | es :: r, acc, h1, h2 => by
    rw [zW]
    refine yQ r _ (fun j es' e hj hD he hb => h1 (j + 1) es' e (by simpa using hj) (by rw [A2] at hD; rw [show acc.length + (j + 1) = acc.length + [aJa acc es].length + j by simp; omega]; exact hD) he hb) fun j as i hj hD hi => ?_
    rcases Nat.lt_or_ge j acc.length with h | h
    . rw [G6 h] at hj
      exact h2 j as i hj hD hi
    rw [G7 h] at hj
    have hj0 : j = acc.length := by
      have := (B2.1 hj).1
      simp at this; omega
    subst hj0
    simp only [Nat.sub_self, List.getElem?_cons_zero, B9] at hj
    subst hj; unfold aJa at hi
    obtain ⟨e, he, hie⟩ := List.mem_flatMap.1 hi
    obtain ⟨he1, he2⟩ := List.mem_filter.1 he
    have hDe := h1 0 es e rfl hD he1 he2
    rcases A8.1 hie with e' | e'
    . rw [e']; exact hDe
    cases hg : acc[e.on]? with
    | none => rw [hg] at e'; cases e'
    | some as' => rw [hg] at e'; exact h2 e.on as' i hg hDe e'
def bQb {p q : Nat -> Bool} {i : Nat} (hp : p i = true) (hq : q i = false) (hi : ∀ j, q j = true -> p j = true) : ∀ l : List Nat, i ∈ l -> (l.filter q).length < (l.filter p).length := by
  have hle : ∀ l : List Nat, (l.filter q).length <= (l.filter p).length := by
    intro l
    induction l with
    | nil => simp
    | cons a l ih =>
      by_cases ha : q a = true
      . simp [ha, hi a ha]; exact ih
      by_cases hb : p a = true
      . simp [ha, hb]; omega
      simp [ha, hb]; exact ih
  intro l
  induction l with
  | nil => intro h; cases h
  | cons a l ih =>
    intro h
    by_cases e : a = i
    . subst e
      have := hle l
      simp [hp, hq]
      omega
    have h' : i ∈ l := by
      rcases A8.1 h with e' | e'
      . exact absurd e'.symm e
      exact e'
    have := ih h'
    by_cases ha : q a = true
    . simp [ha, hi a ha]; exact this
    by_cases hb : p a = true
    . simp [ha, hb]; omega
    simp [ha, hb]; exact this
section
variable {P : Program} {ro : Option Nat} {N n0 : Nat}
def bDf {C : Conc} {U : Nat -> Prop} {a : Act} {w : World} (h : Rel C N E H U a w) (he : ∀ t, get E' t = get E t) : Rel C N E' H U a w := h.fewer fun t x ht => by rw [<- he]; exact ht
def bHp {x : Nat × Nat} {ops : Array Oper} {ss : List St} {nx : Nat} {H' : Heap} {nx' : Nat} (hd : ∀ o ∈ ops.toList, ∀ d, o.dst = some d -> d < N) (hn0 : n0 <= nx)
    (hC : tW P ro N (ops.toList.map (·.dst)) nx ops.toList E H nx ss E' H' nx') (hI : aKa x (ops.toList.map (·.after.toList)) (ss.map St.row) = true)
    (hX : ∀ s s', ss[x.1]? = some s -> ss[x.2]? = some s' -> x.1 < x.2 -> ∀ m, m ∈ s'.ps.map (·.1) -> m ∈ s.rd -> get s'.ps m = get s.al m) {Q : Exit -> Act -> World -> Prop} {C0 : Conc} {w0 : World}
    (hk : ∀ C a w, Rel C N E' H' (UU nx') a w -> StepR C0 H (UU n0) w0 C H' w -> Q .normal a w) :
    ∀ (fuel : Nat) (listed : Array Bool) (C : Conc) (a : Act) (w : World), listed.size = ops.size ->
      (∀ j o e, ops[j]? = some o -> listed.getD j false = true -> e ∈ o.after -> Region.binds .any e = true -> listed.getD e.on false = true) ->
      Rel C N (stE (fun j => listed.getD j false) 0 ss E) (stH (fun j => listed.getD j false) 0 ss H) (stU (fun j => listed.getD j false) (UU nx) ss) a w ->
      StepR C0 H (UU n0) w0 C (stH (fun j => listed.getD j false) 0 ss H) w ->
      ((List.range ops.size).filter (fun j => !listed.getD j true)).length <= fuel -> wpAnyIn (FW ro) 0 P .any ops Q fuel listed a w := by
  obtain ⟨c1, c2, c3, c4, c5, c6, c7⟩ := tW.at' _ _ _ _ _ _ _ _ 0 hC
  simp only [aKa, B7] at hI
  obtain ⟨hI1, hI2⟩ := hI
  have hlen : ss.length = ops.size := by simpa using c1
  have hedge : ∀ j o e, ops[j]? = some o -> e ∈ o.after -> Region.binds .any e = true -> e.on < j := fun j o e hj he hb => by
    have hjl := (Array.getElem?_eq_some_iff.1 hj).1
    have h1 := C8.1 hI1 j (List.mem_range.2 (by simpa using hjl))
    rw [B4, D8, hj] at h1
    have h2 := C8.1 h1 e (by simpa using he)
    simpa [hb] using h2
  have hconf0 : ∀ (i j : Nat) (si sj : St), i < j -> ss[i]? = some si -> ss[j]? = some sj -> (if x = (i, j) then qY si.row sj.row else aNq si.row sj.row) = true -> i ∈ ((zW (ops.toList.map (·.after.toList)) [])[j]?).getD [] := fun i j si sj hij hi hj hc => by
    have hjl := (B2.1 hj).1
    have h1 := C8.1 (C8.1 hI2 j (List.mem_range.2 (by simpa using hjl))) i (List.mem_range.2 hij)
    rw [B4, B4, hi, hj] at h1
    simp only [Option.map_some, hc, Bool.not_true, Bool.false_or, List.contains_iff_mem] at h1
    exact h1
  have hconf : ∀ (i j : Nat) (si sj : St), i < j -> ss[i]? = some si -> ss[j]? = some sj -> qY si.row sj.row = true -> i ∈ ((zW (ops.toList.map (·.after.toList)) [])[j]?).getD [] := fun i j si sj hij hi hj hc => hconf0 i j si sj hij hi hj (by
    split
    . exact hc
    simp only [aNq, qY, D6] at hc ⊢
    exact .inl hc)
  have hconfR : ∀ (i j : Nat) (si sj : St), i < j -> x ≠ (i, j) -> ss[i]? = some si -> ss[j]? = some sj -> aNq si.row sj.row = true -> i ∈ ((zW (ops.toList.map (·.after.toList)) [])[j]?).getD [] := fun i j si sj hij hx hi hj hc => hconf0 i j si sj hij hi hj (by rw [if_neg hx]; exact hc)
  have hfin : ∀ (listed : Array Bool) (C : Conc) (a : Act) (w : World), (∀ j, j < ops.size -> listed.getD j false = true) ->
      Rel C N (stE (fun j => listed.getD j false) 0 ss E) (stH (fun j => listed.getD j false) 0 ss H) (stU (fun j => listed.getD j false) (UU nx) ss) a w ->
      StepR C0 H (UU n0) w0 C (stH (fun j => listed.getD j false) 0 ss H) w -> Q .normal a w := fun listed C a w hall hR hs => by
    have hE : ∀ t, get E' t = get (stE (fun j => listed.getD j false) 0 ss E) t := fun t => by
      rw [c5]
      exact tV t _ _ ss 0 E E rfl fun j s hj _ => by
        have := (B2.1 hj).1
        rw [C3, hall j og]
    have hH : ∀ m, get H' m = get (stH (fun j => listed.getD j false) 0 ss H) m := fun m => by
      rw [c6]
      exact rN m _ _ ss 0 H H rfl fun j s hj _ => by
        have := (B2.1 hj).1
        rw [C3, hall j og]
    have hU : stU (fun j => listed.getD j false) (UU nx) ss = UU nx' := by
      funext m
      refine propext ⟨?_, fun hm => ?_⟩
      . rintro (h | ⟨k, s, hk, _, h1, h2⟩)
        . exact eD c2 m h
        have hkl := (B2.1 hk).1
        obtain ⟨_, _, h4, _⟩ := c3 k (ops.toList[k]'(by simp; omega)) s (A1 (by simp; omega)) hk
        exact .inl og
      rcases hm with hm | hm
      . rcases Nat.lt_or_ge m nx with h | h
        . exact .inl (.inl h)
        obtain ⟨i, s, hi, h1, h2⟩ := c7 m h hm
        have hil := (B2.1 hi).1
        exact .inr ⟨i, s, hi, hall i og, h1, h2⟩
      exact .inl (.inr hm)
    rw [hU] at hR
    exact hk C a w ((bDf hR hE).ext hH) (hs.ext hH)
  have hnone : ∀ (listed : Array Bool), listed.size = ops.size -> Region.ready .any ops listed = [] -> ∀ j, j < ops.size -> listed.getD j false = true := fun listed hsz hr j => by
    induction j using Nat.strongRecOn with
    | _ j ih =>
      intro hj
      cases hl : listed.getD j false with
      | true => rfl
      | false =>
        exfalso
        have hmem : j ∈ Region.ready .any ops listed := by
          unfold Region.ready
          refine List.mem_filter.2 ⟨List.mem_range.2 hj, ?_⟩
          have h1 : listed.getD j true = false := by
            rw [B5, D4 og] at hl ⊢
            exact hl
          have h2 : ops[j]? = some ops[j] := D4 hj
          simp only [h1, Bool.not_false, Bool.true_and, h2, Option.map_some, Option.getD_some, Array.all_eq_true']; intro e he
          by_cases hb : Region.binds .any e = true
          . have h3 := hedge j _ e h2 he hb
            rw [ih e.on h3 og]
            simp
          simp [hb]
        rw [hr] at hmem; cases hmem
  intro fuel
  induction fuel with
  | zero =>
    intro listed C a w hsz hcl hR hs hf
    have hall : ∀ j, j < ops.size -> listed.getD j false = true := fun j hj => by
      have h0 := G8 (Nat.le_zero.1 hf)
      have := List.filter_eq_nil_iff.1 h0 j (List.mem_range.2 hj)
      rw [B5, D4 og] at this ⊢
      simpa using this
    refine ⟨?_, hfin listed C a w hall hR hs⟩
    unfold Region.ready
    refine List.filter_eq_nil_iff.2 fun j hj => ?_
    have hjl := List.mem_range.1 hj
    have := hall j hjl
    rw [B5, D4 og] at this; rw [B5 (d := true), D4 og]
    simp only [Option.getD_some] at this ⊢
    simp [this]
  | succ fuel ih =>
    intro listed C a w hsz hcl hR hs hf
    refine ⟨fun hr => hfin listed C a w (hnone listed hsz hr) hR hs, fun i hi => ?_⟩
    obtain ⟨hi1, hi2⟩ := List.mem_filter.1 hi
    have hil := List.mem_range.1 hi1
    have hoi : ops[i]? = some ops[i] := D4 hil
    simp only [hoi, Option.map_some, Option.getD_some, B7, Bool.not_eq_true', Array.all_eq_true'] at hi2
    obtain ⟨hli, hpre⟩ := hi2
    have hDi : listed.getD i false = false := by
      rw [B5, D4 og] at hli ⊢
      exact hli
    have hsi : ss[i]? = some (ss[i]'og) := A1 og
    obtain ⟨d1, d2, d3, d4, d5⟩ := c3 i ops[i] (ss[i]'og) (by rw [D8]; exact hoi) hsi
    generalize ss[i]'og = s at hsi d1 d2 d3 d4 d5
    have hclo : ∀ j as q, (zW (ops.toList.map (·.after.toList)) [])[j]? = some as -> listed.getD j false = true -> q ∈ as -> listed.getD q false = true :=
      yQ (D := fun j => listed.getD j false) _ _ (fun j es e hj hD he hb => by
        rw [B4, D8] at hj
        obtain ⟨o, ho, rfl⟩ := B3.1 hj
        exact hcl j o e ho (by simpa using hD) (by simpa using he) hb) (fun j as i hj => by simp at hj)
    have hprei : ∀ q, q ∈ ((zW (ops.toList.map (·.after.toList)) [])[i]?).getD [] -> listed.getD q false = true := by
      intro q hq
      have hq' : (fun j => listed.getD j false || j == i) q = true := by
        have h1 := yQ (D := fun j => listed.getD j false || j == i) (ops.toList.map (·.after.toList)) [] (fun j es e hj hD he hb => by
          rw [B4, D8] at hj
          obtain ⟨o, ho, rfl⟩ := B3.1 hj
          simp only [List.length_nil, C3, D6, beq_iff_eq] at hD
          rcases hD with hD | hD
          . simp [hcl j o e ho hD (by simpa using he) hb]
          subst hD; rw [hoi] at ho; cases ho
          have := hpre e (by simpa using he)
          rw [hb] at this; simp at this
          simp [this]) (fun j as i hj => by simp at hj) i
        cases hA : (zW (ops.toList.map (·.after.toList)) [])[i]? with
        | none => rw [hA] at hq; cases hq
        | some as => rw [hA] at hq; exact h1 as q hA oS hq
      simp only [D6, beq_iff_eq] at hq'
      rcases hq' with h | h
      . exact h
      exfalso; subst h
      have hlt : ∀ (l : List (List Edge)) (acc : List (List Nat)), (∀ j es e, l[j]? = some es -> e ∈ es -> Region.binds .any e = true -> e.on < acc.length + j) -> (∀ (j : Nat) (as : List Nat) (r : Nat), acc[j]? = some as -> r ∈ as -> r < j) ->
          ∀ (j : Nat) (as : List Nat) (r : Nat), (zW l acc)[j]? = some as -> r ∈ as -> r < j := by
        intro l
        induction l with
        | nil => intro acc _ h; exact h
        | cons es l ih =>
          intro acc h1 h2; rw [zW]
          refine ih _ (fun j es' e hj he hb => by have := h1 (j + 1) es' e (by simpa using hj) he hb; simp; omega) fun j as r hj hr => ?_
          rcases Nat.lt_or_ge j acc.length with h | h
          . rw [G6 h] at hj
            exact h2 j as r hj hr
          rw [G7 h] at hj
          have hj0 : j = acc.length := by
            have := (B2.1 hj).1
            simp at this; omega
          subst hj0
          simp only [Nat.sub_self, List.getElem?_cons_zero, B9] at hj
          subst hj; unfold aJa at hr
          obtain ⟨e, he, hre⟩ := List.mem_flatMap.1 hr
          obtain ⟨he1, he2⟩ := List.mem_filter.1 he
          have hlt := h1 0 es e rfl he1 he2
          rcases A8.1 hre with e' | e'
          . omega
          cases hg : acc[e.on]? with
          | none => rw [hg] at e'; cases e'
          | some as' =>
            rw [hg] at e'
            have := h2 e.on as' r hg e'
            omega
      cases hA : (zW (ops.toList.map (·.after.toList)) [])[q]? with
      | none => rw [hA] at hq; cases hq
      | some as =>
        rw [hA] at hq
        have := hlt _ _ (fun j es e hj he hb => by
          rw [B4, D8] at hj
          obtain ⟨o, ho, rfl⟩ := B3.1 hj
          have := hedge j o e ho (by simpa using he) hb
          simp; omega) (fun j as r hj => by simp at hj) q as q hA hq
        omega
    have hbefore : ∀ (j : Nat) (sj : St), ss[j]? = some sj -> qY sj.row s.row = true -> j < i -> listed.getD j false = true := fun j sj hj hc hlt => hprei j (hconf j i sj s hlt hj hsi hc)
    have hafter : ∀ (j : Nat) (sj : St), ss[j]? = some sj -> qY s.row sj.row = true -> i < j -> listed.getD j false = false := fun j sj hj hc hlt => by
      cases hl : listed.getD j false with
      | false => rfl
      | true =>
        have h1 := hconf i j s sj hlt hsi hj hc
        cases hA : (zW (ops.toList.map (·.after.toList)) [])[j]? with
        | none => rw [hA] at h1; cases h1
        | some as =>
          rw [hA] at h1
          have := hclo j as i hA hl h1
          rw [hDi] at this; cases this
    have hafterR : ∀ (j : Nat) (sj : St), ss[j]? = some sj -> aNq s.row sj.row = true -> i < j -> x ≠ (i, j) -> listed.getD j false = false := fun j sj hj hc hlt hx => by
      cases hl : listed.getD j false with
      | false => rfl
      | true =>
        have h1 := hconfR i j s sj hlt hx hsi hj hc
        cases hA : (zW (ops.toList.map (·.after.toList)) [])[j]? with
        | none => rw [hA] at h1; cases h1
        | some as =>
          rw [hA] at h1
          have := hclo j as i hA hl h1
          rw [hDi] at this; cases this
    have hrt : ∀ t ∈ s.rt, get (stE (fun j => listed.getD j false) 0 ss E) t = get (stE (fun j => decide (j < 0 + i)) 0 ss E) t := fun t ht => tV t _ _ ss 0 E E rfl fun j sj hj hw => by
      simp only [C3]
      rcases Nat.lt_trichotomy j i with h | h | h
      . rw [hbefore j sj hj (by simp [qY, St.row, hw, ht]) h]; simp [h]
      . subst h; rw [hDi]; simp
      rw [hafter j sj hj (by simp [qY, St.row, hw, ht]) h]; simp; omega
    have hrd : ∀ m ∈ s.rd, get (stH (fun j => listed.getD j false) 0 ss H) m = get (stH (fun j => decide (j < 0 + i)) 0 ss H) m ∨ ∃ y, get s.al m = some y /\ get (stH (fun j => listed.getD j false) 0 ss H) m = some y := fun m hm => by
      have h1 := aQh m (fun j => listed.getD j false) (fun j => decide (j < i)) (fun q => ∃ y, get s.al m = some y /\ q = some y) ss 0 H H (fun j sj hj hD hp hw => by
        simp only [C3] at hD hp
        have hge : i <= j := by simpa using hp
        rcases Nat.lt_or_eq_of_le hge with hlt | he
        . by_cases hx : x = (i, j)
          . have h2 := hX s sj (by rw [hx]; exact hsi) (by rw [hx]; exact hj) (by rw [hx]; exact hlt) m hw hm
            obtain ⟨o, ho⟩ : ∃ o, get sj.ps m = some o := by
              generalize sj.ps = ps at hw
              induction ps with
              | nil => simp at hw
              | cons q r ih =>
                obtain ⟨i, o⟩ := q
                unfold Abs.get; split
                . exact ⟨o, rfl⟩
                rename_i e
                simp only [List.map_cons, A8] at hw
                exact ih (hw.resolve_left (fun e' => e e'.symm))
            exact ⟨o, by rw [<- h2]; exact ho, ho⟩
          have h2 := hafterR j sj hj (by
            simp only [aNq, St.row, D6, List.any_eq_true, List.contains_iff_mem]
            exact .inr ⟨m, hw, hm⟩) hlt hx
          rw [h2] at hD; cases hD
        subst he; rw [hDi] at hD
        cases hD) (.inl rfl)
      rcases h1 with h1 | ⟨y, h2, h3⟩
      . refine .inl (h1.trans (rN m _ _ ss 0 H H rfl fun j sj hj hw => ?_))
        simp only [C3]
        by_cases h : j < i
        . rw [hbefore j sj hj (by
            simp only [qY, St.row, D6, List.any_eq_true, List.contains_iff_mem]
            exact .inr ⟨m, hw, .inl hm⟩) h]
          simp [h]
        . simp [h]
      exact .inr ⟨y, h2, h3⟩
    have hfr : ∀ m, s.nx <= m -> m < s.nx + s.nw -> ¬ stU (fun j => listed.getD j false) (UU nx) ss m := fun m h1 h2 hu => by
      rcases hu with (hu | hu) | ⟨k, sk, hk', hD, h3, h4⟩
      . omega
      . rcases d4 with d4 | d4 <;> omega
      rcases Nat.lt_trichotomy k i with h | h | h
      . have := c4 k i sk s hk' hsi h; omega
      . subst h; simp only [hDi] at hD; cases hD
      have := c4 i k s sk hsi hk' h; omega
    have hset : ∀ j, (listed.setIfInBounds i true).getD j false = if j = i then true else listed.getD j false := fun j => by
      rw [B5, B5, H3]
      by_cases e : i = j
      . subst e; simp [show i < listed.size by omega]
      rw [if_neg e, if_neg (fun e' => e e'.symm)]
    have hstep := d5 (stE (fun j => listed.getD j false) 0 ss E) (stH (fun j => listed.getD j false) 0 ss H) (stU (fun j => listed.getD j false) (UU nx) ss) hrt hrd (fun j hj => .inl hj) hfr C a w
      (wpAnyIn (FW ro) 0 P .any ops Q fuel (listed.setIfInBounds i true)) Q hR fun C' a' w' hR' hs' => by
        refine ih (listed.setIfInBounds i true) C' a' w' (by simpa using hsz) (fun j o e ho hD he hb => ?_) ?_ ?_ ?_
        . rw [hset] at hD ⊢
          by_cases hji : j = i
          . subst hji; rw [hoi] at ho; cases ho
            have := hpre e (by simpa using he)
            rw [hb] at this; simp at this
            simp [this]
          rw [if_neg hji] at hD; rw [hcl j o e ho hD he hb]
          simp
        . have hE : ∀ t, get (stE (fun j => (listed.setIfInBounds i true).getD j false) 0 ss E) t = get (aU (stE (fun j => listed.getD j false) 0 ss E) ops[i].dst s.val) t := fun t => by
            rw [<- d1]
            by_cases hw : s.wt = some t
            . rw [aWy t _ i s (by simp only [hset, if_true]) hw ss 0 E (A5 _) hsi fun j sj hj hw' hlt => by
                simp only [C3] at hlt ⊢
                rw [hset, if_neg og]
                exact hafter j sj hj (by simp [qY, St.row, hw, hw']) hlt]
              rw [hw]
              show _ = get ((t, s.val) :: _) t
              rw [dZ, if_pos rfl]
            . rw [qQ hw]
              exact tV t _ _ ss 0 E E rfl fun j sj hj hw' => by
                rw [C3, hset, if_neg (fun e => ?_)]; subst e; rw [hsi] at hj; cases hj
                exact hw hw'
          have hH : ∀ m, get (stH (fun j => (listed.setIfInBounds i true).getD j false) 0 ss H) m = get (over (stH (fun j => listed.getD j false) 0 ss H) s.ps) m := fun m => by
            by_cases hw : m ∈ s.ps.map (·.1)
            . have h1 := aNg m (fun j => (listed.setIfInBounds i true).getD j false) i s (by simp only [hset, if_true]) hw ss 0 H (A5 _) hsi fun j sj hj hw' hlt => by
                simp only [C3] at hlt ⊢
                rw [hset, if_neg og]
                refine hafter j sj hj ?_ hlt
                simp only [qY, St.row, D6, List.any_eq_true, List.contains_iff_mem]
                exact .inr ⟨m, hw, .inr hw'⟩
              rw [h1, cJ]
              cases hg : get s.ps m with
              | some o => rfl
              | none =>
                exfalso
                clear h1
                generalize s.ps = ps at hw hg
                induction ps with
                | nil => simp at hw
                | cons p r ih =>
                  obtain ⟨q, o⟩ := p
                  rw [dZ] at hg; split at hg
                  . cases hg
                  rename_i e
                  simp only [List.map_cons, A8] at hw
                  exact ih (hw.resolve_left (fun e' => e e'.symm)) hg
            . rw [jR hw]
              exact rN m _ _ ss 0 H H rfl fun j sj hj hw' => by
                rw [C3, hset, if_neg (fun e => ?_)]; subst e; rw [hsi] at hj; cases hj
                exact hw hw'
          have hU : stU (fun j => (listed.setIfInBounds i true).getD j false) (UU nx) ss = sR (stU (fun j => listed.getD j false) (UU nx) ss) s.nx s.nw := by
            funext m
            refine propext ⟨?_, ?_⟩
            . rintro (h | ⟨k, sk, hk', hD, h1, h2⟩)
              . exact .inl (.inl h)
              simp only [hset] at hD
              by_cases hki : k = i
              . subst hki
                rw [hsi] at hk'
                cases hk'
                exact .inr ⟨h1, h2⟩
              rw [if_neg hki] at hD
              exact .inl (.inr ⟨k, sk, hk', hD, h1, h2⟩)
            rintro ((h | ⟨k, sk, hk', hD, h1, h2⟩) | ⟨h1, h2⟩)
            . exact .inl h
            . exact .inr ⟨k, sk, hk', by simp only [hset]; split <;> first | rfl | exact hD, h1, h2⟩
            exact .inr ⟨i, s, hsi, by simp only [hset, if_true], h1, h2⟩
          rw [hU]
          exact (bDf hR' hE).ext hH
        . have hH : ∀ m, get (stH (fun j => (listed.setIfInBounds i true).getD j false) 0 ss H) m = get (over (stH (fun j => listed.getD j false) 0 ss H) s.ps) m := fun m => by
            by_cases hw : m ∈ s.ps.map (·.1)
            . have h1 := aNg m (fun j => (listed.setIfInBounds i true).getD j false) i s (by simp only [hset, if_true]) hw ss 0 H (A5 _) hsi fun j sj hj hw' hlt => by
                simp only [C3] at hlt ⊢
                rw [hset, if_neg og]
                refine hafter j sj hj ?_ hlt
                simp only [qY, St.row, D6, List.any_eq_true, List.contains_iff_mem]
                exact .inr ⟨m, hw, .inr hw'⟩
              rw [h1, cJ]
              cases hg : get s.ps m with
              | some o => rfl
              | none =>
                exfalso
                clear h1
                generalize s.ps = ps at hw hg
                induction ps with
                | nil => simp at hw
                | cons p r ih =>
                  obtain ⟨q, o⟩ := p
                  rw [dZ] at hg; split at hg
                  . cases hg
                  rename_i e
                  simp only [List.map_cons, A8] at hw
                  exact ih (hw.resolve_left (fun e' => e e'.symm)) hg
            . rw [jR hw]
              exact rN m _ _ ss 0 H H rfl fun j sj hj hw' => by
                rw [C3, hset, if_neg (fun e => ?_)]; subst e; rw [hsi] at hj; cases hj
                exact hw hw'
          exact (hs.trans (fun _ h => h) (hs'.fewerNames (fun j hj => .inl (eD hn0 j hj)))).ext hH
        . have h1 := bQb (p := fun j => !listed.getD j true) (q := fun j => !(listed.setIfInBounds i true).getD j true) (i := i) (by simpa using hli)
            (by simp [B5, H3, show i < listed.size by omega])
            (fun j hj => by
              simp only [B5, H3] at hj ⊢
              by_cases e : i = j
              . rw [if_pos e] at hj
                split at hj <;> simp at hj
              rw [if_neg e] at hj; exact hj) (List.range ops.size) (List.mem_range.2 hil)
          have h2 : ((List.range ops.size).filter (fun j => !(listed.setIfInBounds i true).getD j true)).length < ((List.range ops.size).filter (fun j => !listed.getD j true)).length := h1
          omega
    have hy : sI (ops.toList.map (·.dst)) a.tmps = yielded ops a.tmps := by funext j; rw [sJ]
    unfold GS at hstep; rw [hy] at hstep; unfold wpOpIn; rw [hoi]; exact hstep
end
end
section
variable [Globals]
variable {rt rd : List Nat} {val : AV} {ps : Heap} {nw : Nat}
section
variable {P : Program} {ro : Option Nat} {N n0 : Nat} {o : Oper} {E : Env} {H : Heap} {nx b0 : Nat} {ds : List (Option Tmp)}
def VTr (P : Program) (ro : Option Nat) (N : Nat) (ds : List (Option Tmp)) (b0 : Nat) (l : List Oper) (acc : List Rec) (K : List Rec -> AK) (E : Env) (H : Heap) (nx : Nat) : Prop :=
  (∀ o ∈ l, ∀ d, o.dst = some d -> d < N) -> ∃ ss E' H' nx', tW P ro N ds b0 l E H nx ss E' H' nx' /\ K (acc.reverse ++ ss.map St.row) E' H' nx'
def iD (P : Program) (ro : Option Nat) (N : Nat) (ds : List (Option Tmp)) (b0 : Nat) : List Oper -> List Rec -> (List Rec -> AK) -> AK
  | [], acc, K, E, H, nx => K acc.reverse E H nx
  | o :: l, acc, K, E, H, nx =>
    match o.guard with
    | none => match wG P (opv E) (get H) nx o.op with
      | some r => r.ok /\ (r.nw = 0 ∨ nx + r.nw <= 1000) /\ iD P ro N ds b0 l (⟨aF (jG o.op), aRp E o.op, o.dst, r.ps.map (·.1), [], r.ps⟩ :: acc) K (aU E o.dst r.val) (over H r.ps) (nx + r.nw)
      | none => VTr P ro N ds b0 (o :: l) acc K E H nx
    | some (i, want) => match (ds[i]?).join with
      | some g => match (get E g).bind jB with
        | some (c, b) => match wG P (opv (bEe E o.op)) (get H) nx o.op with
          | some ⟨ok, val, [], 0⟩ => ((c /\ b = want) -> ok) /\ aIj (c /\ b = want) E (rdG o.op) /\ val.bel (UU b0) /\
              iD P ro N ds b0 l (⟨g :: aF (jG o.op), aRp (bEe E o.op) o.op, o.dst, [], [], []⟩ :: acc) K (aU E o.dst (.when (c /\ b = want) val)) H nx
          | _ => VTr P ro N ds b0 (o :: l) acc K E H nx
        | none => VTr P ro N ds b0 (o :: l) acc K E H nx
      | none => VTr P ro N ds b0 (o :: l) acc K E H nx
def bEf {l : List Oper} {acc : List Rec} {K : List Rec -> AK} {al : Heap} (hl : (∀ d, o.dst = some d -> d < N) -> aUu P ro N ds o b0 E H rt rd al val ps nx nw) (hn : nw = 0 ∨ nx + nw <= 1000)
    (h : VTr P ro N ds b0 l (⟨rt, rd, o.dst, ps.map (·.1), al, ps⟩ :: acc) K (aU E o.dst val) (over H ps) (nx + nw)) : VTr P ro N ds b0 (o :: l) acc K E H nx := by
  intro hd
  obtain ⟨ss, E', H', nx', h1, h2⟩ := h fun o' ho' => hd o' (A4 _ ho')
  refine ⟨⟨rt, rd, o.dst, al, val, ps, nx, nw⟩ :: ss, E', H', nx', ⟨rfl, rfl, hn, hl (hd o A3), h1⟩, ?_⟩
  simpa [St.row] using h2
def aJj {l : List Oper} {acc : List Rec} {K : List Rec -> AK} (hl : (∀ d, o.dst = some d -> d < N) -> aY P ro N ds o b0 E H rt rd val ps nx nw) (hn : nw = 0 ∨ nx + nw <= 1000)
    (h : VTr P ro N ds b0 l (⟨rt, rd, o.dst, ps.map (·.1), [], ps⟩ :: acc) K (aU E o.dst val) (over H ps) (nx + nw)) : VTr P ro N ds b0 (o :: l) acc K E H nx :=
  bEf (fun hN => (hl hN).toA) hn h
def bNh {l : List Oper} {acc : List Rec} {K : List Rec -> AK} (h : (∀ o ∈ l, ∀ d, o.dst = some d -> d < N) -> VTr P ro N ds b0 l acc K E H nx) : VTr P ro N ds b0 l acc K E H nx := fun hd => h hd hd
def aMe : ∀ (l : List Oper) (acc : List Rec) (K : List Rec -> AK) (E : Env) (H : Heap) (nx : Nat), iD P ro N ds b0 l acc K E H nx -> VTr P ro N ds b0 l acc K E H nx
  | [], acc, K, E, H, nx, h => fun _ => ⟨[], E, H, nx, ⟨rfl, rfl, rfl⟩, by rw [List.map_nil, List.append_nil]; exact h⟩
  | o :: l, acc, K, E, H, nx, h => bNh fun hd => by
    have hN := hd o A3
    simp only [iD] at h
    split at h
    . rename_i hg
      split at h
      . rename_i r hr
        obtain ⟨hok, hnx, hrest⟩ := h
        exact aJj (fun hN => uQ hg hN hr hok) hnx (aMe l _ K _ _ _ hrest)
      exact h
    rename_i i want hg
    split at h
    . rename_i g hgi
      split at h
      . rename_i c b hs
        obtain ⟨x, hx, hsx⟩ := G9.1 hs
        split at h
        . rename_i ok val hr
          obtain ⟨hok, hun, hb, hrest⟩ := h
          exact aJj (fun hN => aCz hN hg hgi hx hsx hun (fun hG => uQ (o := { o with guard := none }) rfl hN hr (hok hG)) hb) (.inl rfl) (aMe l _ K _ _ _ hrest)
        exact h
      exact h
    exact h
def aN {l : List Oper} {acc : List Rec} {K : List Rec -> AK} (hl : (∀ d, o.dst = some d -> d < N) -> aY P ro N ds o b0 E H rt rd val ps nx nw) (hn : nw = 0 ∨ nx + nw <= 1000)
    (h : iD P ro N ds b0 l (⟨rt, rd, o.dst, ps.map (·.1), [], ps⟩ :: acc) K (aU E o.dst val) (over H ps) (nx + nw)) : VTr P ro N ds b0 (o :: l) acc K E H nx :=
  aJj hl hn (aMe l _ K _ _ _ h)
def drawn (afts : List (List Edge)) (K : AK) : List Rec -> AK := fun rs E H nx => bLs afts rs = true /\ K E H nx
def bQk (x : Nat × Nat) (afts : List (List Edge)) (K : AK) : List Rec -> AK := fun rs E H nx => aKa x afts rs = true /\ (x.1 < x.2 -> (rs[x.1]?).map Rec.al = (rs[x.2]?).map Rec.ps) /\ K E H nx
def aFj {afts : List (List Edge)} {rs : List Rec} (h : bLs afts rs = true) : aKa (0, 0) afts rs = true := by
  simp only [bLs, aKa, B7] at h ⊢
  refine ⟨h.1, C8.2 fun j hj => C8.2 fun i hi => ?_⟩
  have := C8.1 (C8.1 h.2 j hj) i hi
  have hne : ((0, 0) : Nat × Nat) ≠ (i, j) := fun e => by
    have hij := List.mem_range.1 hi
    simp only [Prod.mk.injEq] at e
    omega
  simp only [if_neg hne]; exact this
def aGb {Q : AQ} {id : Nat} {ops : Array Oper} (x : Nat × Nat) (hm : P.follows .mixedOrders = true) (hd : aGu N ops.toList = true)
    (h : VTr P ro N (ops.toList.map (·.dst)) nx ops.toList [] (bQk x (ops.toList.map (·.after.toList)) (Q .normal)) E H nx) : AWP P ro N n0 (.region id ops true) Q E H nx := by
  intro C a w Qc hn hR hK
  obtain ⟨ss, E', H', nx', hC, hI, hX, hQ⟩ := h (aFv hd)
  have hR' : Rel C N E H (UU nx) a { w with drawn := w.drawn + 1 } := hR.heap_eq rfl
  have hnx' : nx <= nx' := (tW.at' _ _ _ _ _ _ _ _ 0 hC).2.1
  have hf : ∀ j, (Array.replicate ops.size false).getD j false = false := fun j => by
    rw [B5, Array.getElem?_replicate]
    split <;> rfl
  have hE0 : stE (fun j => (Array.replicate ops.size false).getD j false) 0 ss E = E := by
    have : ∀ (r : List St) (q : Nat) (E : Env), stE (fun j => (Array.replicate ops.size false).getD j false) q r E = E := by
      intro r
      induction r with
      | nil => intro q E; rfl
      | cons a r ih => intro q E; unfold stE; rw [hf, if_neg oS]; exact ih _ _
    exact this ss 0 E
  have hH0 : stH (fun j => (Array.replicate ops.size false).getD j false) 0 ss H = H := by
    have : ∀ (r : List St) (q : Nat) (H : Heap), stH (fun j => (Array.replicate ops.size false).getD j false) q r H = H := by
      intro r
      induction r with
      | nil => intro q H; rfl
      | cons a r ih => intro q H; unfold stH; rw [hf, if_neg oS]; exact ih _ _
    exact this ss 0 H
  have hU0 : stU (fun j => (Array.replicate ops.size false).getD j false) (UU nx) ss = UU nx := by
    funext m
    refine propext ⟨?_, .inl⟩
    rintro (h | ⟨k, s, _, hD, _⟩)
    . exact h
    simp only [hf] at hD; cases hD
  refine wpIn_region_any hm (bHp (x := x) (n0 := n0) (aFv hd) hn hC (by simpa using hI) (fun s s' h1 h2 h3 m _ _ => by
    have hX := hX h3
    simp only [List.reverse_nil, List.nil_append, B4, h1, h2, Option.map_some, B9] at hX
    have hX' : s.al = s'.ps := hX
    rw [hX']) (C0 := C) (w0 := w) (fun C' a' w' hR2 hs2 => hK .normal E' H' nx' C' a' w' og hR2 hs2 hQ) ops.size _ C a _ oS (fun j o e ho hD => ?_) ?_ ?_ ?_)
  . rw [hf] at hD; cases hD
  . rw [hE0, hH0, hU0]; exact hR'
  . rw [hH0]
    exact ⟨rfl, rfl, rfl, A0 _, fun _ _ _ => rfl, fun _ h => .inl h, rfl, rfl, fun _ _ => rfl⟩
  exact F6 (List.length_filter_le _ _) oS
def cQ {Q : AQ} {id : Nat} {ops : Array Oper} (hm : P.follows .mixedOrders = true) (hd : aGu N ops.toList = true)
    (h : iD P ro N (ops.toList.map (·.dst)) nx ops.toList [] (drawn (ops.toList.map (·.after.toList)) (Q .normal)) E H nx) : AWP P ro N n0 (.region id ops true) Q E H nx :=
  aGb (0, 0) hm hd fun hd' => by
    obtain ⟨ss, E', H', nx', h1, h2, h3⟩ := aMe _ _ _ _ _ _ h hd'
    exact ⟨ss, E', H', nx', h1, aFj h2, fun hlt => absurd hlt dg, h3⟩
end
end
section
variable [Globals]
variable {α : Type} {f n1 : Nat} {c : Code} {args : List AV} {nd H1 : Heap} {r0 : AV} {R : Prop}
section
variable {P : Program} {N n0 : Nat}
def aWb (P : Program) (vs : List ResultVar) (n0 : Nat) (r0 : AV) (H1 : Heap) (n1 : Nat) (E : Env) (H : Heap) : Prop :=
  ∃ s : List (Nat × Nat), (uL P E H vs).map qW = some (r0.ren (sg s)) /\ qV (sg s) n1 H H1 /\ (H1.map fun p => sg s p.1).Nodup /\ r0.bel (UU n1) /\ (∀ p ∈ s, n0 <= p.1 /\ p.1 < 1000) /\ n0 <= n1
def bQn (P : Program) (vs : List ResultVar) (n0 : Nat) (r0 : AV) (H1 : Heap) (n1 : Nat) : AQ := fun e E H nx =>
  match e with
  | .ret => aWb P vs n0 r0 H1 n1 E H
  | .normal => aWb P vs n0 r0 H1 n1 E H
  | _ => False
abbrev aO (P : Program) (f : Nat) (args : List AV) (nd : Heap) (n0 : Nat) (r0 : AV) (H1 : Heap) (n1 : Nat) : Prop := uE P f args nd n0 fun r H n => r = r0 /\ H = H1 /\ n = n1
def uW (P : Program) (f : Nat) (args : List AV) (nd : Heap) (n0 : Nat) (φ : α -> Prop) (r0 : α -> AV) (H1 : α -> Heap) (n1 : Nat) : Prop :=
  uE P f args nd n0 fun r H n => ∃ g, φ g /\ r = r0 g /\ H = H1 g /\ n = n1
def bRo (P : Program) (vs : List ResultVar) (n0 : Nat) (φ : α -> Prop) (r0 : α -> AV) (H1 : α -> Heap) (n1 : Nat) : AQ := fun e E H nx =>
  match e with
  | .ret => ∃ g, φ g /\ aWb P vs n0 (r0 g) (H1 g) n1 E H
  | .normal => ∃ g, φ g /\ aWb P vs n0 (r0 g) (H1 g) n1 E H
  | _ => False
def iO {fn : Func} {vs : List ResultVar} {φ : α -> Prop} {r0 : α -> AV} {H1 : α -> Heap} (hf : FnT P f fn c) (hN : fn.ntmps = N) (hv : fn.results.toList = vs) (hl : args.length <= N)
    (h : AWP P none N n0 c (bRo P vs n0 φ r0 H1 n1) (eE 0 args) nd n0) : uW P f args nd n0 φ r0 H1 n1 := by
  have h1 := aRy (R := fun r H n => ∃ g, φ g /\ ∃ s : List (Nat × Nat), r = (r0 g).ren (sg s) /\ qV (sg s) n1 H (H1 g) /\ ((H1 g).map fun p => sg s p.1).Nodup /\ (r0 g).bel (UU n1) /\ (∀ p ∈ s, n0 <= p.1 /\ p.1 < 1000) /\ n0 <= n1) hf hN hv hl
    (aEt h fun e E H nx hQ => by
      cases e with
      | ret => obtain ⟨g, hg, s, q0, q3⟩ := hQ; obtain ⟨rs, q1, q2⟩ := B3.1 q0; exact ⟨rs, q1, g, hg, s, q2, q3⟩
      | normal => obtain ⟨g, hg, s, q0, q3⟩ := hQ; obtain ⟨rs, q1, q2⟩ := B3.1 q0; exact ⟨rs, q1, g, hg, s, q2, q3⟩
      | _ => exact hQ)
  intro C w vals hR hargs hb
  refine (h1 C w vals hR hargs hb).mono fun e w' ⟨v, r, H', n', C', he, hn, ⟨g, hφ, s, hr, hH, hi, hbel, hs, hn1⟩, a1, a2, a3, a4⟩ => ?_
  have hσ : ∀ i, UU n0 i -> sg s i = i := fun i hu => by
    unfold sg
    cases hg : get s i with
    | none => rfl
    | some j =>
      have := hs _ (dS hg)
      rcases hu with hu | hu <;> simp at this <;> omega
  have hHH : ∀ i o, get (H1 g) i = some o -> get H' (sg s i) = some (o.ren (sg s)) /\ UU n1 i /\ o.bel (UU n1) := fun i o hi' => mH hH i o (dS hi')
  have hav : ∀ b, (C'.ren (sg s)).avoid (H1 g) b -> C'.avoid H' b := fun b hb => hb.imp id (fun ⟨i, o, hi, hb⟩ => ⟨sg s i, _, (hHH i o hi).1, hb⟩)
  refine ⟨v, r0 g, H1 g, n1, C'.ren (sg s), he, hn1, ⟨g, hφ, rfl, rfl, rfl⟩, a1.ren hHH (vB hi), ?_, ?_, hbel⟩
  . exact { os := a2.os, tape := a2.tape, output := a2.output, size := a2.size, keep := a2.keep
            wr := fun b ⟨i, o, hi', hb'⟩ => a2.wr b ⟨sg s i, _, (hHH i o hi').1, hb'⟩
            X := a2.X, B := a2.B, ρ := fun i hi' => (congrArg C'.ρ (hσ i hi')).trans (a2.ρ i hi') }
  subst hr
  exact (a3.mono (av' := (C'.ren (sg s)).avoid (H1 g)) (fun b _ => hav b) (fun _ _ _ => rfl)).unren (ρ := C'.ρ) (r0 g) rfl
def gw {fn : Func} {vs : List ResultVar} (hf : FnT P f fn c) (hN : fn.ntmps = N) (hv : fn.results.toList = vs) (hl : args.length <= N)
    (h : AWP P none N n0 c (bQn P vs n0 r0 H1 n1) (eE 0 args) nd n0) : aO P f args nd n0 r0 H1 n1 :=
  (iO (φ := fun _ : Unit => True) (r0 := fun _ => r0) (H1 := fun _ => H1) hf hN hv hl (aEt h fun e E H nx hQ => by
    cases e with
    | ret => exact ⟨(), trivial, hQ⟩
    | normal => exact ⟨(), trivial, hQ⟩
    | _ => exact hQ)).mono fun r H n ⟨_, _, h1, h2, h3⟩ => ⟨h1, h2, h3⟩
def pw {fn : Func} {vs : List ResultVar} (hf : FnT P f fn c) (hN : fn.ntmps = N) (hv : fn.results.toList = vs) (hl : args.length <= N)
    (h : AWP P none N n0 c (bQn P vs n0 r0 nd n0) (eE 0 args) nd n0) : aK P f args nd n0 r0 := gw hf hN hv hl h
def gq {fn : Func} (N : Nat) (vs : List ResultVar) (hf : P.funcs[f]? = some fn) (hb : fn.body = some c := by rfl) (hn : (fn.name == "runtime.NumGoroutine") = false := by rfl) (hN : fn.ntmps = N := by rfl) (hv : fn.results.toList = vs := by rfl) (hl : args.length <= N := by simp)
    (h : R -> AWP P none N n0 c (bQn P vs n0 r0 H1 n1) (eE 0 args) nd n0 := by intro k; simp only [eE]; exact k) : R -> aO P f args nd n0 r0 H1 n1 := fun k => gw ⟨hf, hb, hn⟩ hN hv hl (h k)
def pq {fn : Func} (N : Nat) (vs : List ResultVar) (hf : P.funcs[f]? = some fn) (hb : fn.body = some c := by rfl) (hn : (fn.name == "runtime.NumGoroutine") = false := by rfl) (hN : fn.ntmps = N := by rfl) (hv : fn.results.toList = vs := by rfl) (hl : args.length <= N := by simp)
    (h : R -> AWP P none N n0 c (bQn P vs n0 r0 nd n0) (eE 0 args) nd n0 := by intro k; simp only [eE]; exact k) : R -> aK P f args nd n0 r0 := fun k => gw ⟨hf, hb, hn⟩ hN hv hl (h k)
end
end
section
variable [Globals]
variable {α : Type} {c : Code} {H1 : Heap} {n1 : Nat}
def bFy (n0 : Nat) (s : List (Nat × Nat)) (E : Env) (H : Heap) (E1 : Env) (H1 : Heap) (n1 : Nat) : Prop :=
  aYh (sg s) n1 E E1 /\ qV (sg s) n1 H H1 /\ (H1.map fun p => sg s p.1).Nodup /\ (∀ p ∈ s, n0 <= p.1 /\ p.1 < 1000) /\ n0 <= n1
section
variable {P : Program} {ro : Option Nat} {N n0 : Nat} {Q : AQ} {E : Env} {H : Heap} {nx : Nat}
def aYo {E1 : Env} (s : List (Nat × Nat)) (ht : bFy n0 s E H E1 H1 n1) (h : AWP P ro N n0 c Q E1 H1 n1) : AWP P ro N n0 c Q E H nx :=
  bMd s ht.2.2.2.2 ht.1 ht.2.1 ht.2.2.1 ht.2.2.2.1 h
def lQ (n0 : Nat) (Inv : α -> Prop) (μ : α -> Nat) (S : α -> Env × Heap) (n1 : Nat) (x : α) (Q : AQ) : AQ
  | .normal => fun E H nx => ∃ x', Inv x' /\ μ x' < μ x /\ ∃ s, bFy n0 s E H (S x').1 (S x').2 n1
  | e => Q e
def wl (Inv : α -> Prop) (μ : α -> Nat) (S : α -> Env × Heap) (n1 : Nat) (x0 : α) (hi : Inv x0) (s0 : List (Nat × Nat)) (h0 : bFy n0 s0 E H (S x0).1 (S x0).2 n1)
    (h : ∀ x, Inv x -> AWP P ro N n0 c (lQ n0 Inv μ S n1 x Q) (S x).1 (S x).2 n1) : AWP P ro N n0 (.loop c) Q E H nx := by
  refine bKn (fun m E H nx => ∃ x s, Inv x /\ μ x = m /\ bFy n0 s E H (S x).1 (S x).2 n1) (μ x0) ⟨x0, s0, hi, rfl, h0⟩ fun m E H nx hn ⟨x, s, hx, hm, ht⟩ => ?_
  subst hm
  refine aYo s ht (aEt (h x hx) fun e E' H' nx' hq => ?_)
  cases e with
  | normal =>
    obtain ⟨x', h1, h2, s', h3⟩ := hq
    exact ⟨μ x', h2, x', s', h1, rfl, h3⟩
  | _ => exact hq
def pV {t : Nat} (e sz : Nat) (ht : get E t = some (.raw (.slice none 0 0))) (hn : nx < 1000) (h : AWP P ro N n0 c Q ((t, .ref nx) :: E) (put H nx (.row e sz [])) (nx + 1)) : AWP P ro N n0 c Q E H nx := by
  intro C a w Qc hn0 hR hK
  obtain ⟨h1, _, h3⟩ := hR.env t _ ht
  have hnx : ¬ UU nx nx := fun hu => by rcases hu with hu | hu <;> omega
  have hs := StepR.new (U := UU nx) (w' := w) hR.toRelH rfl rfl rfl (A0 _) (fun _ _ => rfl) hnx (v := .slice none 0 0) (own := []) rfl oS (.row e sz [])
  have hH := RelH.new (U := UU nx) (w' := w) hR.toRelH rfl rfl rfl (A0 _) (fun _ _ => rfl) hnx (v := .slice none 0 0) (own := []) rfl oS (o := .row e sz []) ⟨.own0 e sz, E5⟩ trivial
  have hR' := hR.change hs (fun _ h => .inl h) hH
  have hU : (fun j => UU nx j ∨ j = nx) = UU (nx + 1) := by rw [<- gO, aDh]
  rw [hU] at hR' hH
  have hR2 : Rel (C.new nx (.slice none 0 0) [] rfl) N ((t, .ref nx) :: E) (put H nx (.row e sz [])) (UU (nx + 1)) a w :=
    { toRelH := hH, size := hR'.size, hB := hR'.hB, nodup := hR'.nodup, marks := hR'.marks
      env := fun t' x' ht' => by
        rw [dZ] at ht'
        split at ht'
        . rename_i e'
          subst e'
          cases ht'
          refine ⟨h1, .inl og, ?_⟩
          generalize a.tmps.getD t undef = v at h3
          cases h3
          have : Rep (C.new nx (.slice none 0 0) [] rfl).ρ ((C.new nx (.slice none 0 0) [] rfl).avoid (put H nx (.row e sz []))) w.heap (.ref nx) ((C.new nx (.slice none 0 0) [] rfl).ρ nx) := .ref nx
          rwa [show (C.new nx (.slice none 0 0) [] rfl).ρ nx = .slice none 0 0 from cY _ _ _] at this
        exact hR'.env t' x' ht' }
  exact h _ a w Qc og hR2 fun e' E' H' nx' C' a' w' hn' hR3 hs3 hQ => hK e' E' H' nx' C' a' w' hn' hR3 ((hs.fewerNames (eD hn0)).trans (fun _ h => h) hs3) hQ
def qR {o : Oper} {b0 : Nat} {ds : List (Option Tmp)} {c : Call} {f : Nat} {fn : Func} {code : Code} {args : List AV} {nd H1 : Heap} {m0 n1 : Nat} {r0 : AV} (s : List (Nat × Nat)) (nw : Nat) (hg : o.guard = none) (ho : o.op = .call c) (hc : c.callee = .value (.func f)) (hT : FnT P f fn code)
    (hN : oD o N) (hM : aO P f args nd m0 r0 H1 n1) (hn : n1 = m0 + nw) (hargs : c.args.toList.map (opv E) = (aB (sg s) args).map some) (hab : aI (UU m0) args) (hF : FitC H s nd m0 nw H1) :
    aY P ro N ds o b0 E H (aF c.args.toList) (nd.map fun p => sg s p.1) (r0.ren (shift (sg s) m0 nx nw)) (H1.map fun p => (shift (sg s) m0 nx nw p.1, p.2.ren (shift (sg s) m0 nx nw))) nx nw := by
  subst hn
  exact aJz s hg ho hc hT hN hM hargs hab hF
end
end
section
variable [Globals]
attribute [go_sem] List.toList_toArray List.map_cons List.map_nil wG aTl aFk zH aUh aSd aCx bHa bHn bPz bBk aSq xF aSr aJt xX bDe aUo bMm bLe jB iop sop bNi bop bMz mP rK bGo bFh aCa bBg aSx bH gB dT iE aKd aEn AV.fitsEl AV.width AV.solid AV.elem AV.scO AV.notAgg bCh bDq aMr bAq aCm aUj eH bAk opv dZ Option.map_some Option.map_none over Abs.put aU Bool.and_true Bool.true_and if_true or_true true_and if_false reduceIte Nat.zero_add List.getElem?_cons_zero List.getElem?_cons_succ Bool.false_eq_true true_or Option.join_some Option.bind_some aF jG aCd nL yA AV.bel aI UU unE bEe aAz rdG aFc aIj aUr imp_self List.length_cons List.length_nil cA List.append_nil List.nil_append List.not_mem_nil forall_const vT AV.sc AV.free aWu Value.oneCell' List.all_cons List.all_nil bM List.take_succ_cons List.take_zero List.drop_succ_cons List.drop_zero List.cons_append not_false_eq_true List.take_nil List.drop_nil Option.toList List.append_eq List.reverse_cons List.reverse_nil false_implies beq_self_eq_true decide_true List.nodup_cons List.nodup_nil List.mem_singleton forall_eq Nat.one_ne_zero List.set_cons_zero List.set_cons_succ List.length_map Int.toNat_natCast List.getElem?_map
def AV.ren_nil (x : AV) : x.ren (sg []) = x := AV.ren_id x
def qC (xs : List AV) : aB (sg []) xs = xs := lB xs
def AObj.ren_nil (o : AObj) : o.ren (sg []) = o := by
  cases o with
  | cells t cs => show AObj.cells t (aB (sg []) cs) = _; rw [qC]
  | row e sz xs => show AObj.row e sz (aB (sg []) xs) = _; rw [qC]
  | map kt et m =>
    show AObj.map kt et (m.map fun p => (p.1, p.2.ren (sg []))) = _
    congr 1
    conv => rhs; rw [<- List.map_id m]
    exact E8 fun p _ => by rw [AV.ren_nil]; rfl
  | mapS kt et m k st =>
    show AObj.mapS kt et (m.map fun p => (p.1, p.2.ren (sg []))) k st = _
    congr 1
    conv => rhs; rw [<- List.map_id m]
    exact E8 fun p _ => by rw [AV.ren_nil]; rfl
  | loop l rec No m =>
    show AObj.loop l rec No (m.map fun p => (p.1, p.2.ren (sg []))) = _
    congr 1
    conv => rhs; rw [<- List.map_id m]
    exact E8 fun p _ => by rw [AV.ren_nil]; rfl
  | pool e0 e sz Q L lv more =>
    show AObj.pool e0 e sz Q L (lv.map (sg [])) (more.map (sg [])) = _
    rw [show sg [] = id from rfl, List.map_id, List.map_id]
  | _ => rfl
def bEm (i : Nat) : sg [] i = i := rfl
attribute [go_sem] AV.ren_nil qC AObj.ren_nil bEm bFy aYh qV
def fO {P : Program} {vs : List ResultVar} {r0 : AV} {E : Env} {H : Heap} (h : (uL P E H vs).map qW = some r0) (hb : r0.bel (UU 0)) : aWb P vs 0 r0 [] 0 E H :=
  ⟨[], by rw [AV.ren_nil]; exact h, trivial, E5, hb, (fun p hp => by cases hp), A0 _⟩
attribute [go_sem] uL qW aNf
attribute [go_sem] implies_true and_true and_self bHy bLl
end
end Go.Abs
end
section
open Go Go.MapKept
namespace Go.Abs
section
variable [Globals]
variable {kt et t : TypeId} {k : Value} {i : Nat} {ρ : Nat -> Value} {av : Nat -> Prop} {x y : Operand} {kav z v : AV} {w : World} {hp : Array Obj} {ok : Bool}
structure KeyT (P : Program) (kt : TypeId) (isKey : Value -> Prop) : Prop where
  check : ∀ k, isKey k -> ∀ (e : Bool) (w : World), (Instr.checkKey e 10000 kt k).run P w = .ok () w
  find : ∀ (k : Value) (es : List MapEntry) (w : World), isKey k -> (∀ e ∈ es, isKey e.key) -> ∃ r, (Instr.findKey kt k es).run P w = .ok r w /\
    ((r = none /\ ∀ e ∈ es, e.key ≠ k) ∨ ∃ (j : Nat) (e : MapEntry), r = some (j, e.val) /\ es[j]? = some e /\ e.key = k)
  bits : ∀ k, isKey k -> Instr.sameBits 10000 k k = true
def bAy {P : Program} {d : TypeDesc} (hd : P.underlying kt = some d) (hb : ∀ k, IsKey d k -> Instr.sameBits 10000 k k = true) : KeyT P kt (IsKey d) where
  check := fun k hk e w => run_checkKey hd hk e 9999
  find := fun k es w hk hes => by
    rcases findNow_spec hk es 0 hes with ⟨h1, h2⟩ | ⟨j, e, h1, h2, h3⟩
    . exact ⟨none, run_findKey hd h1, .inl ⟨rfl, h2⟩⟩
    rw [C3] at h1
    exact ⟨_, run_findKey hd h1, .inr ⟨j, e, rfl, h2, h3⟩⟩
  bits := hb
section
variable {P : Program} {ro : Option Nat} {N : Nat} {o : Oper} {E : Env} {H : Heap} {U : Nat -> Prop}
def bLh {C : Conc} {a : Act} {m : List (Value × AV)} (hR : RelH C H U w) (hH : get H i = some (.map kt et m)) : ∃ b es clock, C.ρ i = .map (some b) /\ C.own i = [b] /\ w.heap[b]? = some (.map es clock) /\ es.size = m.length /\ es.size < maxLen /\
    (∀ (j : Nat) (k : Value) (x : AV), m[j]? = some (k, x) -> ∃ e, es[j]? = some e /\ e.key = k /\ Rep C.ρ (C.avoid H) w.heap x e.val) /\
    (∀ (j : Nat) (e : MapEntry), es[j]? = some e -> e.born < clock /\ ∀ (i : Nat) (d : MapEntry), es[i]? = some d -> d.born = e.born -> i = j) := hR.obj i _ hH
def bNt {es : Array MapEntry} {m : List (Value × AV)} (hsz : es.size = m.length) (h : ∀ (j : Nat) (k : Value) (x : AV), m[j]? = some (k, x) -> ∃ e, es[j]? = some e /\ e.key = k /\ Rep ρ av hp x e.val) {isKey : Value -> Prop} (hk : ∀ p ∈ m, isKey p.1) :
    ∀ e ∈ es.toList, isKey e.key := fun e he => by
  obtain ⟨j, hj⟩ := G2 he
  rw [D8] at hj
  have hjl := (Array.getElem?_eq_some_iff.1 hj).1
  have hm : m[j]? = some (m[j]'og) := A1 og
  obtain ⟨e', he', hke, _⟩ := h j (m[j]'og).1 (m[j]'og).2 hm
  rw [hj] at he'
  cases he'
  rw [hke]
  exact hk _ (C9 _)
def aOc (m : List (Value × AV)) (k : Value) (r : Option (Nat × AV)) : Prop :=
  match r with
  | none => ∀ p ∈ m, p.1 ≠ k
  | some (j, x) => m[j]? = some (k, x)
def aLz (z : AV) (ok : Bool) (r : Option (Nat × AV)) : AV :=
  let v := match r with | some (_, x) => x | none => z
  if ok then .tup [v, .raw (.bool r.isSome)] else v
def aVy {isKey : Value -> Prop} (hK : KeyT P kt isKey) {es : Array MapEntry} {m : List (Value × AV)} (hsz : es.size = m.length)
    (h : ∀ (j : Nat) (k : Value) (x : AV), m[j]? = some (k, x) -> ∃ e, es[j]? = some e /\ e.key = k /\ Rep ρ av w.heap x e.val) (hk : ∀ p ∈ m, isKey p.1) (hkk : isKey k) (hnd : (m.map (·.1)).Nodup) {r : Option (Nat × AV)} (hr : aOc m k r) :
    match r with
    | none => (Instr.findKey kt k es.toList).run P w = .ok none w
    | some (j, x) => ∃ e, es[j]? = some e /\ e.key = k /\ Rep ρ av w.heap x e.val /\ (Instr.findKey kt k es.toList).run P w = .ok (some (j, e.val)) w := by
  obtain ⟨r', h1, h2⟩ := hK.find k es.toList w hkk (bNt hsz h hk)
  have at_m : ∀ (j : Nat) (e : MapEntry), es[j]? = some e -> ∃ x, m[j]? = some (e.key, x) := fun j e hj => by
    have hjl := (Array.getElem?_eq_some_iff.1 hj).1
    have hm : m[j]? = some (m[j]'og) := A1 og
    obtain ⟨e', he', hke, _⟩ := h j (m[j]'og).1 (m[j]'og).2 hm
    rw [hj] at he'
    cases he'
    exact ⟨(m[j]'og).2, by rw [hm, hke]⟩
  cases r with
  | none =>
    rcases h2 with ⟨rfl, _⟩ | ⟨j, e, rfl, hj, hke⟩
    . exact h1
    rw [D8] at hj
    obtain ⟨x, hx⟩ := at_m j e hj
    exact absurd hke (hr _ (E4 hx))
  | some p =>
    obtain ⟨j, x⟩ := p
    obtain ⟨e, he, hke, hrep⟩ := h j k x hr
    refine ⟨e, he, hke, hrep, ?_⟩
    rcases h2 with ⟨rfl, hno⟩ | ⟨j', e', rfl, hj', hke'⟩
    . exact absurd hke (hno e (by rw [Array.mem_toList_iff]; exact Array.mem_of_getElem? he))
    rw [D8] at hj'
    obtain ⟨x', hx'⟩ := at_m j' e' hj'
    have hjj : j' = j := by
      have a1 := (B2.1 hx').1
      have a2 := (B2.1 hr).1
      have q1 : (m.map (·.1))[j']? = some k := by rw [B4, hx', <- hke']; rfl
      have q2 : (m.map (·.1))[j]? = some k := by
        have : m[j]? = some (k, x) := hr
        rw [B4, this]; rfl
      obtain ⟨l1, e1⟩ := B2.1 q1
      obtain ⟨l2, e2⟩ := B2.1 q2
      exact (List.getElem_inj hnd).mp (e1.trans e2.symm)
    subst hjj
    rw [he] at hj'
    cases hj'
    exact h1
def aXy {m : List (Value × AV)} {isKey : Value -> Prop} {r : Option (Nat × AV)} (ho : o.op = .lookup t x y ok) (hN : oD o N) (hm : mC P t = some (kt, et)) (hz : zE P et = some z)
    (hK : KeyT P kt isKey) (hx : opv E x = some (.ref i)) (hat : ∀ (C : Conc) (a : Act) (w : World), Rel C N E H U a w -> (∃ b es clock, C.ρ i = .map (some b) /\ w.heap[b]? = some (.map es clock) /\ es.size = m.length /\
      (∀ (j : Nat) (k : Value) (x : AV), m[j]? = some (k, x) -> ∃ e, es[j]? = some e /\ e.key = k /\ Rep C.ρ (C.avoid H) w.heap x e.val)) /\ aI U (m.map (·.2))) (hy : opv E y = some kav) (hkv : ∀ (ρ : Nat -> Value) (av : Nat -> Prop) (hp : Array Obj) (v : Value), Rep ρ av hp kav v -> v = k)
    (hkk : isKey k) (hk : ∀ p ∈ m, isKey p.1) (hnd : (m.map (·.1)).Nodup) (hr : aOc m k r) : OpT P ro N o E H U (aU E o.dst (aLz z ok r)) H U := by
  obtain ⟨iz, zv, hiz, hzz, _, hzr, hzb⟩ := aHu hz
  refine aT (by simp [ho, Op.noDefer]) hN fun C a w hR => ?_
  obtain ⟨h1, _⟩ := hR.opv hx
  obtain ⟨h2, _⟩ := hR.opv hy
  have hkey := hkv _ _ _ _ h2
  obtain ⟨⟨b, es, clock, hρ, hb, hsz, hent⟩, hbelm⟩ := hat C a w hR
  have hev : a.eval x = .map (some b) := by generalize a.eval x = v at h1; cases h1; exact hρ
  have hfind := aVy (P := P) (w := w) hK hsz hent hk hkk hnd hr
  have hchk := hK.check k hkk es.isEmpty w
  have hzv : (zeroValue et).run P w = .ok zv w := by simp [zeroValue, typeInfo, hiz, hzz]
  have hg := MapKept.run_getObj_map (P := P) (w := w) hb
  have hbase : ∀ (v : Value) (f : Bool), (match r with | none => v = zv /\ f = false | some (j, x) => ∃ e, es[j]? = some e /\ v = e.val /\ f = true) -> (Instr.lookup t (.map (some b)) k ok).run P w = .ok (if ok then .tuple #[v, .bool f] else v) w := fun v f hv => by
    simp only [Instr.lookup, Sem.run_bind, run_underlying (rI hm), Result.andThen_ok, hg, Sem.run_pure, hchk]
    cases r with
    | none =>
      obtain ⟨rfl, rfl⟩ := hv
      simp only [hfind, Result.andThen_ok, Sem.run_bind, hzv, Sem.run_pure]
    | some p =>
      obtain ⟨j, xx⟩ := p
      obtain ⟨e, he, rfl, rfl⟩ := hv
      obtain ⟨e', he', _, _, hf⟩ := hfind
      rw [he] at he'
      cases he'
      simp only [hf, Result.andThen_ok, Sem.run_bind, Sem.run_pure]
  cases r with
  | none =>
    have hl := hbase zv false ⟨rfl, rfl⟩
    cases ok with
    | true =>
      refine ⟨⟨hzb U, trivial, trivial⟩, .tuple #[zv, .bool false], by simp [execOp, ho, hev, hkey, hl], ?_⟩
      refine .tup _ _ rfl fun j q hj => ?_
      match j, hj with
      | 0, hj => cases hj; exact hzr _ _ _
      | 1, hj => cases hj; exact .raw _
      | j + 2, hj => cases hj
    | false => exact ⟨hzb U, _, by simp [execOp, ho, hev, hkey, hl], hzr _ _ _⟩
  | some p =>
    obtain ⟨j, xx⟩ := p
    obtain ⟨e, he, hke, hrep, _⟩ := hfind
    have hl := hbase e.val true ⟨e, he, rfl, rfl⟩
    have hbx : xx.bel U := bG hbelm (j := j) (by rw [B4, show m[j]? = some (k, xx) from hr]; rfl)
    cases ok with
    | true =>
      refine ⟨⟨hbx, trivial, trivial⟩, .tuple #[e.val, .bool true], by simp [execOp, ho, hev, hkey, hl], ?_⟩
      refine .tup _ _ rfl fun j q hj => ?_
      match j, hj with
      | 0, hj => cases hj; exact hrep
      | 1, hj => cases hj; exact .raw _
      | j + 2, hj => cases hj
    | false => exact ⟨hbx, _, by simp [execOp, ho, hev, hkey, hl], hrep⟩
def bAd {m : List (Value × AV)} {isKey : Value -> Prop} {r : Option (Nat × AV)} (ho : o.op = .lookup t x y ok) (hN : oD o N) (hm : mC P t = some (kt, et)) (hz : zE P et = some z)
    (hK : KeyT P kt isKey) (hx : opv E x = some (.ref i)) (hH : get H i = some (.map kt et m)) (hy : opv E y = some kav) (hkv : ∀ (ρ : Nat -> Value) (av : Nat -> Prop) (hp : Array Obj) (v : Value), Rep ρ av hp kav v -> v = k)
    (hkk : isKey k) (hk : ∀ p ∈ m, isKey p.1) (hnd : (m.map (·.1)).Nodup) (hr : aOc m k r) : OpT P ro N o E H U (aU E o.dst (aLz z ok r)) H U :=
  aXy ho hN hm hz hK hx (fun C a w hR => by
    obtain ⟨b, es, clock, hρ, hown, hb, hsz, hlt, hent, hborn⟩ := bLh (a := a) hR.toRelH hH
    exact ⟨⟨b, es, clock, hρ, hb, hsz, hent⟩, (hR.objb i _ hH).2⟩) hy hkv hkk hk hnd hr
def aAk (w : World) (b : Nat) (o : Obj) : ({ w with heap := w.heap.setIfInBounds b o } : World).heap.size = w.heap.size := by simp
def iC (m : List (Value × AV)) (k : Value) (v : AV) : Option (Nat × AV) -> List (Value × AV)
  | some (j, _) => m.set j (k, v)
  | none => m ++ [(k, v)]
def bAm {es : Array MapEntry} {m : List (Value × AV)} {k u : Value} {clock : Nat} {r : Option (Nat × AV)} (hsz : es.size = m.length)
    (h : ∀ (j : Nat) (k : Value) (x : AV), m[j]? = some (k, x) -> ∃ e, es[j]? = some e /\ e.key = k /\ Rep ρ av hp x e.val) (hv : Rep ρ av hp v u) (hr : aOc m k r) :
    let es' := match r with | some (j, _) => es.modify j fun e => { e with key := k, val := u } | none => es.push { key := k, val := u, born := clock }
    es'.size = (iC m k v r).length /\ ∀ (j : Nat) (k' : Value) (x : AV), (iC m k v r)[j]? = some (k', x) -> ∃ e, es'[j]? = some e /\ e.key = k' /\ Rep ρ av hp x e.val := by
  cases r with
  | none =>
    refine ⟨by simp [iC, hsz], fun j k' x hj => ?_⟩
    simp only [iC] at hj ⊢
    rcases Nat.lt_or_ge j m.length with h1 | h1
    . rw [G6 h1] at hj
      obtain ⟨e, he, hk, hx⟩ := h j k' x hj
      exact ⟨e, by rw [Array.getElem?_push, if_neg og]; exact he, hk, hx⟩
    rw [G7 h1] at hj
    have hj0 : j = m.length := by
      have := (B2.1 hj).1
      simp at this; omega
    subst hj0
    simp only [Nat.sub_self, List.getElem?_cons_zero, B9, Prod.mk.injEq] at hj
    obtain ⟨rfl, rfl⟩ := hj
    exact ⟨_, by rw [Array.getElem?_push, if_pos og], rfl, hv⟩
  | some p =>
    obtain ⟨q, y⟩ := p
    refine ⟨by simp [iC, hsz], fun j k' x hj => ?_⟩
    simp only [iC] at hj ⊢
    rw [F9] at hj
    by_cases e : q = j
    . subst e; rw [if_pos rfl] at hj; split at hj
      . cases hj
        obtain ⟨e, he, _, _⟩ := h q k y hr
        exact ⟨{ e with key := k, val := u }, by rw [Array.getElem?_modify, if_pos rfl, he]; rfl, rfl, hv⟩
      cases hj
    rw [if_neg e] at hj
    obtain ⟨e', he, hk, hx⟩ := h j k' x hj
    exact ⟨e', by rw [Array.getElem?_modify, if_neg e]; exact he, hk, hx⟩
def aOd {x y z : Operand} {m : List (Value × AV)} {isKey : Value -> Prop} {r : Option (Nat × AV)} (ho : o.op = .mapUpdate t x y z) (hN : oD o N) (hm : mC P t = some (kt, et))
    (hK : KeyT P kt isKey) (hx : opv E x = some (.ref i)) (hH : get H i = some (.map kt et m)) (hy : opv E y = some kav) (hkv : ∀ (ρ : Nat -> Value) (av : Nat -> Prop) (hp : Array Obj) (v : Value), Rep ρ av hp kav v -> v = k) (hz : opv E z = some v)
    (hkk : isKey k) (hk : ∀ p ∈ m, isKey p.1) (hnd : (m.map (·.1)).Nodup) (hr : aOc m k r) (hlen : m.length + 1 < maxLen) : OpT P ro N o E H U (aU E o.dst (.raw undef)) (put H i (.map kt et (iC m k v r))) U := by
  intro C a w next Q hR hnext
  obtain ⟨h1, _⟩ := hR.opv hx
  obtain ⟨h2, _⟩ := hR.opv hy
  obtain ⟨h3, h3b⟩ := hR.opv hz
  have hkey := hkv _ _ _ _ h2
  obtain ⟨b, es, clock, hρ, hown, hb, hsz, hlt, hent, hborn⟩ := bLh (a := a) hR.toRelH hH
  have hev : a.eval x = .map (some b) := by generalize a.eval x = v at h1; cases h1; exact hρ
  have hbelm := (hR.objb i _ hH).2
  have hfind := aVy (P := P) (w := w) hK hsz hent hk hkk hnd hr
  have hchk := hK.check k hkk false w
  have hg := MapKept.run_getObj_map (P := P) (w := w) hb
  obtain ⟨p1, p2⟩ := bAm (clock := clock) hsz hent h3 hr
  have hblt := ltB hb
  have key : ∃ es' clock', (Instr.mapUpdate t (.map (some b)) k (a.eval z)).run P w = .ok () { w with heap := w.heap.setIfInBounds b (.map es' clock') } /\ es'.size = (iC m k v r).length /\ es'.size < maxLen /\
      (∀ (j : Nat) (k' : Value) (x : AV), (iC m k v r)[j]? = some (k', x) -> ∃ e, es'[j]? = some e /\ e.key = k' /\ Rep C.ρ (C.avoid H) w.heap x e.val) /\
      (∀ (j : Nat) (e : MapEntry), es'[j]? = some e -> e.born < clock' /\ ∀ (i : Nat) (d : MapEntry), es'[i]? = some d -> d.born = e.born -> i = j) := by
    cases r with
    | none =>
      refine ⟨es.push { key := k, val := a.eval z, born := clock }, clock + 1, ?_, p1, by simp; omega, p2, fun j e hj => ?_⟩
      . simp only [Instr.mapUpdate, Sem.run_bind, run_underlying (rI hm), Result.andThen_ok, hg, hchk, hfind]
        exact MapKept.run_setObj_map _ hb
      rw [Array.getElem?_push] at hj; split at hj
      . cases hj
        refine ⟨Nat.lt_succ_self _, fun i' d hi' hd => ?_⟩
        rw [Array.getElem?_push] at hi'
        split at hi'
        . omega
        have := (hborn i' d hi').1
        simp only at hd
        omega
      obtain ⟨q1, q2⟩ := hborn j e hj
      refine ⟨og, fun i' d hi' hd => ?_⟩
      rw [Array.getElem?_push] at hi'
      split at hi'
      . cases hi'
        simp only at hd
        omega
      exact q2 i' d hi' hd
    | some p =>
      obtain ⟨j, y'⟩ := p
      obtain ⟨e, he, hke, _, hf⟩ := hfind
      refine ⟨es.modify j fun e => { e with key := k, val := a.eval z }, clock, ?_, p1, by simpa using hlt, p2, fun j' e' hj' => ?_⟩
      . have hst : (Instr.keyThatStays k k).run P w = .ok k w := by simp [Instr.keyThatStays, hK.bits k hkk]
        have hke' : ((es[j]?).map (·.key)).getD k = k := by rw [he]; exact hke
        simp only [Instr.mapUpdate, Sem.run_bind, run_underlying (rI hm), Result.andThen_ok, hg, hchk, hf, hke', hst]
        exact MapKept.run_setObj_map _ hb
      have at' : ∀ (q : Nat) (d : MapEntry), (es.modify j fun e => { e with key := k, val := a.eval z })[q]? = some d -> ∃ d', es[q]? = some d' /\ d'.born = d.born := fun q d hq => by
        rw [Array.getElem?_modify] at hq; split at hq
        . obtain ⟨d', hd', rfl⟩ := B3.1 hq
          exact ⟨d', hd', rfl⟩
        exact ⟨d, hq, rfl⟩
      obtain ⟨d, hd, hbd⟩ := at' j' e' hj'
      obtain ⟨q1, q2⟩ := hborn j' d hd
      refine ⟨og, fun i' d2 hi' hd2 => ?_⟩
      obtain ⟨d3, hd3, hbd3⟩ := at' i' d2 hi'
      exact q2 i' d3 hd3 og
  obtain ⟨es', clock', hrun, k1, k2, k3, k4⟩ := key
  have hother : ∀ q, q ≠ b -> (w.heap.setIfInBounds b (.map es' clock'))[q]? = w.heap[q]? := fun q hq => by rw [H3, if_neg (fun e => hq e.symm)]
  have hkeep : ∀ q, q ∉ C.own i -> ({ w with heap := w.heap.setIfInBounds b (.map es' clock') } : World).heap[q]? = w.heap[q]? := fun q hq => hother q (fun e => hq (by rw [hown, e]; simp))
  have hs := StepR.inPlace (o' := .map kt et (iC m k v r)) hR.toRelH (w' := { w with heap := w.heap.setIfInBounds b (.map es' clock') }) rfl rfl rfl (aAk w b _) hH hkeep
  have hav : ∀ q, q < w.heap.size -> ¬ C.avoid H q -> ({ w with heap := w.heap.setIfInBounds b (.map es' clock') } : World).heap[q]? = w.heap[q]? := fun q _ hn => hkeep q (fun hb' => hn (.inr ⟨i, _, hH, hb'⟩))
  have hbel' : (AObj.map kt et (iC m k v r)).bel U := by
    have hbelm : aI U (m.map (·.2)) := hbelm
    show aI U _
    rw [bLi] at hbelm ⊢
    intro q hq
    cases r with
    | none =>
      simp only [iC, D5, List.map_cons, List.map_nil, A7, B6] at hq
      rcases hq with h | h
      . exact hbelm q h
      rw [h]; exact h3b
    | some p =>
      simp only [iC, List.map_set] at hq
      rcases List.mem_or_eq_of_mem_set hq with h | h
      . exact hbelm q h
      rw [h]; exact h3b
  have hRH := hR.toRelH.inPlace (w' := { w with heap := w.heap.setIfInBounds b (.map es' clock') }) rfl rfl rfl (aAk w b _) hH (o' := .map kt et (iC m k v r)) hkeep
    ⟨b, es', clock', hρ, hown, by show (w.heap.setIfInBounds b _)[b]? = _; simp [hblt], k1, k2, fun j k' x hj => by obtain ⟨e, he, hke, hx⟩ := k3 j k' x hj; exact ⟨e, he, hke, hx.mono (fun _ _ h => h) hav⟩, k4⟩ hbel'
  have hR' := hR.change hs (fun _ h => h) hRH
  refine rJ (by simp [ho, Op.noDefer]) (w' := { w with heap := w.heap.setIfInBounds b (.map es' clock') }) (by simp [execOp, ho, hev, hkey, hrun]) (hnext C _ _ (hR'.put hN (.raw _) trivial) hs)
end
end
section
variable [Globals]
variable {k : Value} {t kt et : TypeId} {x y : Operand} {i : Nat}
section
variable {P : Program} {ro : Option Nat} {N : Nat} {o : Oper} {E : Env} {H : Heap} {nx b0 : Nat} {ds : List (Option Tmp)}
def lsO {rt rd : List Nat} {val : AV} {ps : Heap} {nw : Nat} (hg : o.guard = none)
    (h : ∀ (E' : Env) (H' : Heap) (U : Nat -> Prop), (∀ t ∈ rt, get E' t = get E t) -> (∀ i ∈ rd, get H' i = get H i) -> (∀ j, nx <= j -> j < nx + nw -> ¬ U j) -> OpT P ro N o E' H' U (aU E' o.dst val) (over H' ps) (sR U nx nw)) :
    aY P ro N ds o b0 E H rt rd val ps nx nw :=
  fun E' H' U hE hH hU hnx C a w next Q hR hK => rS hg (h E' H' U hE hH hnx C a w next Q hR hK)
def bKs : AV -> Option Value
  | .raw v => some v
  | _ => none
def aVn : AV -> Option Value
  | .raw v => some v
  | .agg cs => (cs.mapM bKs).map fun vs => .agg vs.toArray
  | _ => none
def aYp {ρ : Nat -> Value} {av : Nat -> Prop} {hp : Array Obj} : ∀ (cs : List AV) (vs us : List Value), (cs.mapM bKs) = some vs -> us.length = cs.length -> (∀ (j : Nat) (x : AV), cs[j]? = some x -> Rep ρ av hp x (us.getD j undef)) -> us = vs
  | [], vs, us, h, hl, _ => by
    simp at h; subst h
    exact G8 hl
  | c :: cs, vs, [], h, hl, _ => by simp at hl
  | c :: cs, vs, u :: us, h, hl, hr => by
    simp only [List.mapM_cons, Option.pure_def, Option.bind_eq_bind] at h
    obtain ⟨v, hv, h⟩ := G9.1 h
    obtain ⟨vs', hvs, h⟩ := G9.1 h
    cases h
    have h0 := hr 0 c rfl
    have ih := aYp cs vs' us hvs (by simpa using hl) fun j x hj => by simpa using hr (j + 1) x (by simpa using hj)
    cases c with
    | raw w =>
      simp only [bKs, B9] at hv
      subst hv
      simp only [List.getD_cons_zero] at h0
      cases h0; rw [ih]
    | _ => cases hv
def aYz {x : AV} (h : aVn x = some k) (ρ : Nat -> Value) (av : Nat -> Prop) (hp : Array Obj) (v : Value) (hr : Rep ρ av hp x v) : v = k := by
  cases x with
  | raw u => simp only [aVn, B9] at h; subst h; cases hr; rfl
  | agg cs =>
    simp only [aVn] at h
    obtain ⟨vs, hvs, rfl⟩ := B3.1 h
    cases hr with
    | agg _ us hn hrep =>
      have := aYp cs vs us.toList hvs (by simpa using hn) fun j x hj => by
        have := hrep j x hj
        simpa [B5, E7] using this
      rw [<- this]
  | _ => simp [aVn] at h
def aSu {ok : Bool} {m : List (Value × AV)} {isKey : Value -> Prop} {z kav : AV} {r : Option (Nat × AV)} (hg : o.guard = none) (ho : o.op = .lookup t x y ok) (hN : oD o N) (hm : mC P t = some (kt, et)) (hz : zE P et = some z)
    (hK : KeyT P kt isKey) (hx : opv E x = some (.ref i)) (hH : get H i = some (.map kt et m)) (hy : opv E y = some kav) (hkv : aVn kav = some k) (hkk : isKey k) (hk : ∀ p ∈ m, isKey p.1) (hnd : (m.map (·.1)).Nodup) (hr : aOc m k r) :
    aY P ro N ds o b0 E H (aF [x, y]) [i] (aLz z ok r) [] nx 0 := by
  refine lsO hg fun E' H' U hE hH' _ => ?_
  rw [aU0]
  have hops := oCg hE
  exact bAd ho hN hm hz hK (by rw [hops x oS]; exact hx) (by rw [hH' i oS]; exact hH) (by rw [hops y oS]; exact hy) (aYz hkv) hkk hk hnd hr
def aHx {x y z : Operand} {m : List (Value × AV)} {isKey : Value -> Prop} {kav v : AV} {r : Option (Nat × AV)} (hg : o.guard = none) (ho : o.op = .mapUpdate t x y z) (hN : oD o N) (hm : mC P t = some (kt, et))
    (hK : KeyT P kt isKey) (hx : opv E x = some (.ref i)) (hH : get H i = some (.map kt et m)) (hy : opv E y = some kav) (hkv : aVn kav = some k) (hz : opv E z = some v) (hkk : isKey k) (hk : ∀ p ∈ m, isKey p.1) (hnd : (m.map (·.1)).Nodup) (hr : aOc m k r) (hlen : m.length + 1 < maxLen) :
    aY P ro N ds o b0 E H (aF [x, y, z]) [i] (.raw undef) [(i, .map kt et (iC m k v r))] nx 0 := by
  refine lsO hg fun E' H' U hE hH' _ => ?_
  rw [aU0]
  have hops := oCg hE
  exact aOd ho hN hm hK (by rw [hops x oS]; exact hx) (by rw [hH' i oS]; exact hH) (by rw [hops y oS]; exact hy) (aYz hkv) (by rw [hops z oS]; exact hz) hkk hk hnd hr hlen
end
end
section
variable [Globals]
variable {P : Program}
def aYw {kt : TypeId} (hu : P.underlying kt = some .string) : KeyT P kt (IsKey .string) :=
  bAy hu fun v hv => by
    cases v <;> simp [IsKey] at hv
    rename_i s
    have hss : (s == s) = true := (bytes_beq s s).2 rfl
    rw [show (10000 : Nat) = 9999 + 1 from rfl]
    simp [Instr.sameBits, hss]
end
end Go.Abs
end
section
open Go
namespace Go.Abs
section
variable [Globals]
variable {f m0 n1 : Nat} {args xs : List AV} {nd H1 : Heap} {r0 : AV}
section
variable {P : Program} {ro : Option Nat} {N : Nat} {o : Oper} {E : Env} {H : Heap} {nx b0 : Nat} {ds : List (Option Tmp)}
def aNb {vals : Array Value} {a : Act} {w : World} {next : Act -> World -> Prop} {Q : Exit -> Act -> World -> Prop} {R : Value -> World -> Prop} (hd : Op.noDefer o.op = true) (hr : (execOp a.eval o).run P w = .ok (.enter f vals) w)
    (h : Calls P f vals w fun e w' => ∃ v, e = .returned v /\ R v w') (hn : ∀ v w', R v w' -> next (a.put o.dst v) w') : o.wpIn (FW ro) 0 P a w next Q := by
  refine ⟨fun _ _ => trivial, ?_⟩
  rw [sZ hd, hr, Oper.uponIn_enter]
  exact ⟨fun hh => (by cases hh), aMs (h.mono fun e w' ⟨v, he, hv⟩ => by subst he; exact hn v w' hv)⟩
def aVv {rt : List Nat} (s : List (Nat × Nat)) (nw : Nat) (hg : o.guard = none) (hd : Op.noDefer o.op = true) (hN : oD o N)
    (hent : ∀ (E' : Env) (H' : Heap) (U : Nat -> Prop) (C : Conc) (a : Act) (w : World), (∀ t ∈ rt, get E' t = get E t) -> Rel C N E' H' U a w -> ∃ vals, (execOp a.eval o).run P w = .ok (.enter f vals) w /\ eB C.ρ (C.avoid H') w.heap (aB (sg s) args) vals)
    (hM : aO P f args nd m0 r0 H1 n1) (hn1 : n1 = m0 + nw) (hab : aI (UU m0) args) (hF : FitC H s nd m0 nw H1) :
    aY P ro N ds o b0 E H rt (nd.map fun p => sg s p.1) (r0.ren (shift (sg s) m0 nx nw)) (H1.map fun p => (shift (sg s) m0 nx nw p.1, p.2.ren (shift (sg s) m0 nx nw))) nx nw := by
  subst hn1
  intro E' H' U hE hH hU hnx C a w next Q hR hK
  have hfit := hF.fit hR.toRelH (fun j hj => hU j (.inr hj)) (fun p hp => hH _ (A9.2 ⟨p, hp, rfl⟩)) hnx
  have hRc := hR.toRelH.callee hfit
  obtain ⟨vals, hrun, hvals⟩ := hent E' H' U C a w hE hR
  have hargsR : eB (callee C H' (sg s) nd).ρ ((callee C H' (sg s) nd).avoid nd) w.heap args vals :=
    (hvals.mono (av' := (callee C H' (sg s) nd).avoid nd) (fun b _ hb => (iB hfit b).1 hb) (fun _ _ _ => rfl)).unren (ρ := C.ρ)
  refine rS hg (aNb (R := fun v w' => ∃ C1, RelH C1 H1 (UU (m0 + nw)) w' /\ StepR (callee C H' (sg s) nd) nd (UU m0) w C1 H1 w' /\ Rep C1.ρ (C1.avoid H1) w'.heap r0 v /\ r0.bel (UU (m0 + nw))) hd hrun
    ((hM _ w _ hRc hargsR hab).mono fun e w' ⟨v, r, H2, n', C1, he, hn', ⟨hr, hH2, hn2⟩, h1, h2, h3, h4⟩ => ?_) fun v w' ⟨C1, h1, h2, h3, h4⟩ => ?_)
  . subst hr; subst hH2; subst hn2
    exact ⟨v, he, C1, h1, h2, h3, h4⟩
  obtain ⟨k1, k2, k3⟩ := hR.toRelH.back hfit h1 h2
  obtain ⟨k4, k5⟩ := k3 r0 v h4 h3
  have hRel := hR.change k2 (fun i hi => .inl hi) k1
  exact hK _ _ w' (hRel.put hN k4 k5) k2
def eB.append {ρ : Nat -> Value} {av : Nat -> Prop} {hp : Array Obj} {xs ys : List AV} {vs us : Array Value} (h : eB ρ av hp xs vs) (k : eB ρ av hp ys us) : eB ρ av hp (xs ++ ys) (vs ++ us) := by
  refine ⟨by simp [h.1, k.1], fun j x hj => ?_⟩
  rcases Nat.lt_or_ge j xs.length with h1 | h1
  . rw [G6 h1] at hj
    have := h.2 j x hj
    rw [B5, Array.getElem?_append_left (by rw [h.1]; exact h1), <- B5]
    exact this
  rw [G7 h1] at hj
  have := k.2 _ x hj
  rw [B5, Array.getElem?_append_right (by rw [h.1]; exact h1), h.1, <- B5]
  exact this
def aTb {c : Call} {y : Operand} {fn : Func} {code : Code} {first cap : List AV} (s : List (Nat × Nat)) (nw : Nat) (hg : o.guard = none) (ho : o.op = .call c) (hc : c.callee = .value y) (hy : opv E y = some (.fn (.func f) first cap))
    (hT : FnT P f fn code) (hN : oD o N) (hM : aO P f args nd m0 r0 H1 n1) (hn1 : n1 = m0 + nw) (hxs : c.args.toList.map (opv E) = xs.map some) (hargs : first ++ xs ++ cap = aB (sg s) args) (hab : aI (UU m0) args) (hF : FitC H s nd m0 nw H1) :
    aY P ro N ds o b0 E H (aF (y :: c.args.toList)) (nd.map fun p => sg s p.1) (r0.ren (shift (sg s) m0 nx nw)) (H1.map fun p => (shift (sg s) m0 nx nw p.1, p.2.ren (shift (sg s) m0 nx nw))) nx nw := by
  refine aVv s nw hg (by simp [ho, Op.noDefer]) hN (fun E' H' U C a w hE hR => ?_) hM hn1 hab hF
  have hops := oCg hE
  obtain ⟨h1, _⟩ := hR.opv (x := y) (r := .fn (.func f) first cap) (by rw [hops y oS]; exact hy)
  have hxs' : c.args.toList.map (opv E') = xs.map some := by
    rw [<- hxs]
    exact E8 fun x hx => hops x (A4 _ hx)
  obtain ⟨h2, _⟩ := uD hR hxs'
  generalize hev : a.eval y = u at h1
  cases h1 with
  | fn _ _ _ vs us hn hr hn' hr' =>
    refine ⟨vs ++ c.args.map a.eval ++ us, ?_, by rw [<- hargs]; exact (eB.append (eB.append ⟨hn, hr⟩ h2) ⟨hn', hr'⟩)⟩
    simp [execOp, ho, resolve, hc, hev, Deferred.ofValue, invoke, hT.run]
end
end
section
variable [Globals]
variable {ρ : Nat -> Value} {av av' : Nat -> Prop} {hp hp' : Array Obj} {x : AV} {v : Value} {ow : List Nat}
mutual
def AV.fz : AV -> AV
  | .own _ sz xs => .sl sz (fzL xs)
  | .agg cs => .agg (fzL cs)
  | .tup cs => .tup (fzL cs)
  | .sl sz xs => .sl sz (fzL xs)
  | .fp sz xs j off => .fp sz (fzL xs) j off
  | .iface t x => .iface t x.fz
  | .fn f a b => .fn f (fzL a) (fzL b)
  | .when c x => .when c x.fz
  | .any => .any
  | .raw v => .raw v
  | .ptr i off => .ptr i off
  | .ep i sz j off => .ep i sz j off
  | .ref i => .ref i
def fzL : List AV -> List AV
  | [] => []
  | x :: xs => x.fz :: fzL xs
end
def aIy : ∀ (xs : List AV) (j : Nat), (fzL xs)[j]? = (xs[j]?).map AV.fz
  | [], j => rfl
  | x :: xs, 0 => rfl
  | x :: xs, j + 1 => by simpa [fzL] using aIy xs j
def cN : ∀ xs : List AV, (fzL xs).length = xs.length
  | [] => rfl
  | x :: xs => by simp [fzL, cN xs]
def tC {α : Type} (f : α -> AV) : ∀ l : List α, fzL (l.map f) = l.map fun a => (f a).fz
  | [] => rfl
  | a :: l => by simp [fzL, tC f l]
def Rep.fz (h : Rep ρ av hp x v) : Rep ρ av hp x.fz v := by
  have aux : ∀ {xs : List AV} {g : Nat -> Value}, (∀ (j : Nat) (y : AV), xs[j]? = some y -> Rep ρ av hp y.fz (g j)) -> ∀ (j : Nat) (y : AV), (fzL xs)[j]? = some y -> Rep ρ av hp y (g j) := fun hh j y hy => by
    rw [aIy] at hy
    obtain ⟨z, hz, rfl⟩ := B3.1 hy
    exact hh j z hz
  induction h with
  | any v => exact .any v
  | raw v => exact .raw v
  | agg cs vs hn _ ih => exact .agg _ vs (by rw [cN]; exact hn) (aux (g := fun j => vs.getD j undef) ih)
  | tup cs vs hn _ ih => exact .tup _ vs (by rw [cN]; exact hn) (aux (g := fun j => vs.getD j undef) ih)
  | sl0 sz A c hc => exact .sl0 sz A c hc
  | sl sz xs b off c cells t fr vals h0 hc hm hb hh _ hcells ih =>
    have := Rep.sl (ρ := ρ) sz (fzL xs) b off c cells t fr vals (by rw [cN]; exact h0) (by rw [cN]; exact hc) hm hb hh (aux ih) (by rw [cN]; exact hcells)
    rw [cN] at this; exact this
  | fp sz xs j d b off cells t fr vals hb hh _ hcells ih => exact .fp sz _ j d b off cells t fr vals hb hh (aux ih) (by rw [cN]; exact hcells)
  | ptr i off b h => exact .ptr _ off b h
  | ep i sz j off b h => exact .ep _ sz j off b h
  | ref i => exact .ref _
  | iface t x v _ ih => exact .iface t _ v ih
  | fn f first cap vs us hn _ hn' _ ih ih' => exact .fn f _ _ vs us (by rw [cN]; exact hn) (aux (g := fun j => vs.getD j undef) ih) (by rw [cN]; exact hn') (aux (g := fun j => us.getD j undef) ih')
  | when c x v _ h' ih => exact .when c _ v ih h'
def RepO.fz (h : RepO ρ av hp x v ow) (hn : ∀ b, b ∈ ow -> ¬ av b) : Rep ρ av hp x.fz v := by
  have aux : ∀ {xs : List AV} {g : Nat -> Value}, (∀ (j : Nat) (y : AV), xs[j]? = some y -> Rep ρ av hp y.fz (g j)) -> ∀ (j : Nat) (y : AV), (fzL xs)[j]? = some y -> Rep ρ av hp y (g j) := fun hh j y hy => by
    rw [aIy] at hy
    obtain ⟨z, hz, rfl⟩ := B3.1 hy
    exact hh j z hz
  induction h with
  | leaf x v h => exact h.fz
  | agg cs vs ows hl _ ih => exact .agg _ vs (by rw [cN]; exact hl) (aux (g := fun j => vs.getD j undef) fun j x hj => ih j x hj fun b hb => hn b (mFl.2 ⟨j, (B2.1 hj).1, hb⟩))
  | own0 e sz => exact .sl0 sz none 0 (A5 _)
  | own e sz xs b c cells vals ows hh hs hc hm hx hcells ih =>
    have hrep : ∀ (j : Nat) (y : AV), (fzL xs)[j]? = some y -> Rep ρ av hp y (vals j) := aux fun j x hj => ih j x hj fun b' hb => hn b' (A4 _ (mFl.2 ⟨j, (B2.1 hj).1, hb⟩))
    show Rep ρ av hp (.sl sz (fzL xs)) _
    rcases Nat.eq_zero_or_pos xs.length with h0 | h0
    . have : fzL xs = [] := G8 (by rw [cN]; exact h0)
      rw [this, h0]
      exact .sl0 sz _ c hm
    have := Rep.sl (ρ := ρ) (av := av) (hp := hp) sz (fzL xs) b 0 c cells e (0, 0) vals (by rw [cN]; exact h0) (by rw [cN]; exact hc) hm (hn b A3) hh hrep (by rw [cN]; exact hcells)
    rw [cN] at this; exact this
mutual
def AV.noFz : AV -> Bool
  | .sl _ _ => false
  | .fp _ _ _ _ => false
  | .agg cs => sB cs
  | .tup cs => sB cs
  | .iface _ x => x.noFz
  | .fn _ a b => sB a && sB b
  | .when _ x => x.noFz
  | .own _ _ xs => sB xs
  | _ => true
def sB : List AV -> Bool
  | [] => true
  | x :: xs => x.noFz && sB xs
end
def lI : ∀ {xs : List AV}, sB xs = true -> ∀ {j : Nat} {x : AV}, xs[j]? = some x -> x.noFz = true
  | [], _, j, x, h => by simp at h
  | y :: ys, hf, j, x, h => by
    simp only [sB, B7] at hf
    cases j with
    | zero => simp at h; subst h; exact hf.1
    | succ j => exact lI hf.2 (by simpa using h)
def Rep.anywhere (h : Rep ρ av hp x v) (hx : x.noFz = true) : Rep ρ av' hp' x v := by
  induction h with
  | any v => exact .any v
  | raw v => exact .raw v
  | agg cs vs hn _ ih => exact .agg cs vs hn fun j x hj => ih j x hj (lI (by simpa [AV.noFz] using hx) hj)
  | tup cs vs hn _ ih => exact .tup cs vs hn fun j x hj => ih j x hj (lI (by simpa [AV.noFz] using hx) hj)
  | sl0 sz A c hc => simp [AV.noFz] at hx
  | sl sz xs b off c cells t fr vals h0 hc hm hb hh _ hcells ih => simp [AV.noFz] at hx
  | fp sz xs j d b off cells t fr vals hb hh _ hcells ih => simp [AV.noFz] at hx
  | ptr i off b h => exact .ptr _ off b h
  | ep i sz j off b h => exact .ep _ sz j off b h
  | ref i => exact .ref _
  | iface t x v _ ih => exact .iface t _ v (ih (by simpa [AV.noFz] using hx))
  | fn f first cap vs us hn _ hn' _ ih ih' =>
    have hx' : sB first = true /\ sB cap = true := by simpa [AV.noFz] using hx
    exact .fn f _ _ vs us hn (fun j x hj => ih j x hj (lI hx'.1 hj)) hn' (fun j x hj => ih' j x hj (lI hx'.2 hj))
  | when c x v _ h' ih => exact .when c x v (fun hc => ih hc (by simpa [AV.noFz] using hx)) h'
def RepO.anywhere (h : RepO ρ av hp x v ow) (hx : x.noFz = true) (hown : ∀ b, b ∈ ow -> hp'[b]? = hp[b]?) : RepO ρ av' hp' x v ow := by
  induction h with
  | leaf x v h => exact .leaf x v (h.anywhere hx)
  | agg cs vs ows hn _ ih => exact .agg cs vs ows hn fun j x hj => ih j x hj (lI (by simpa [AV.noFz] using hx) hj) fun b hb => hown b (mFl.2 ⟨j, (B2.1 hj).1, hb⟩)
  | own0 e sz => exact .own0 e sz
  | own e sz xs b c cells vals ows hh hs hc hm _ hcells ih =>
    exact .own e sz xs b c cells vals ows ((hown b oS).trans hh) hs hc hm (fun j x hj => ih j x hj (lI (by simpa [AV.noFz] using hx) hj) fun b' hb => hown b' (A4 _ (mFl.2 ⟨j, (B2.1 hj).1, hb⟩))) hcells
end
section
variable [Globals]
def AObj.noFz : AObj -> Bool
  | .dead => true
  | .cells _ cs => sB cs
  | .row _ _ xs => sB xs
  | .map _ _ m => sB (m.map (·.2))
  | .mapS _ _ _ _ _ => false
  | .other _ _ => true
  | .loop _ _ _ _ => false
  | .pool _ _ _ _ _ _ _ => false
def cR.anywhere {ρ : Nat -> Value} {av av' : Nat -> Prop} {hp : Array Obj} {own : List Nat} {o : AObj} {v : Value} (h : cR ρ av hp own o v) (ho : o.noFz = true) : cR ρ av' hp own o v := by
  cases o with
  | dead => exact h
  | cells t cs => obtain ⟨b, vs, h1, h2, h3, h4⟩ := h; exact ⟨b, vs, h1, h2, h3, h4.1, fun j x hj => (h4.2 j x hj).anywhere (lI ho hj)⟩
  | row e sz xs => exact ⟨h.1.anywhere ho (fun _ _ => rfl), h.2⟩
  | map kt et m =>
    obtain ⟨b, es, clock, h1, h2, h3, h4, h5, h6, h7⟩ := h
    refine ⟨b, es, clock, h1, h2, h3, h4, h5, fun j k x hj => ?_, h7⟩
    obtain ⟨e, he, hk, hr⟩ := h6 j k x hj
    exact ⟨e, he, hk, hr.anywhere (lI ho (j := j) (by rw [B4, hj]; rfl))⟩
  | mapS kt et m k st => cases ho
  | other b o => exact h
  | loop l rec No Eo => cases ho
  | pool => cases ho
section
variable {bw : List Nat} {C : Conc} {H : Heap} {U : Nat -> Prop} {w : World} {σ : Nat -> Nat} {nd : Heap} {n0 nx nw : Nat} {H1 : Heap}
def calleeB (bw : List Nat) (C : Conc) (H : Heap) (σ : Nat -> Nat) (nd : Heap) : Conc :=
  { ρ := fun i => C.ρ (σ i), one := fun i => C.one (σ i), own := fun i => C.own (σ i), B := C.B
    X := fun b => C.X b ∨ ∃ i o, get H i = some o /\ i ∉ bw /\ (∀ j o', get nd j = some o' -> σ j ≠ i) /\ b ∈ C.own i }
def pW (hF : Fit U H σ nd n0 nx nw H1) (b : Nat) (h : (calleeB bw C H σ nd).avoid nd b) : C.avoid H b := by
  rcases h with (h | ⟨i, o, hi, _, _, hb⟩) | ⟨i, o, hi, hb⟩
  . exact .inl h
  . exact .inr ⟨i, o, hi, hb⟩
  exact .inr ⟨σ i, _, (hF.objs i o hi).1, hb⟩
def aUv (hR : RelH C H U w) (hF : Fit U H σ nd n0 nx nw H1) (hbw : ∀ i ∈ bw, ∀ j o', get nd j = some o' -> σ j ≠ i) {i : Nat} {o : AObj} (hi : i ∈ bw) (ho : get H i = some o) {b : Nat} (hb : b ∈ C.own i) : ¬ (calleeB bw C H σ nd).avoid nd b := by
  rintro ((h | ⟨i', o', hi', hn, _, hb'⟩) | ⟨j, o', hj, hb'⟩)
  . exact hR.xapart i o b ho hb h
  . exact hR.apart i i' o o' b (fun e => hn (e ▸ hi)) ho hi' hb hb'
  exact hR.apart i (σ j) o _ b (fun e => hbw i hi j o' hj e.symm) ho (hF.objs j o' hj).1 hb hb'
def RelH.calleeB (hR : RelH C H U w) (hF : Fit U H σ nd n0 nx nw H1) : RelH (calleeB bw C H σ nd) nd (UU n0) w where
  obj := fun i o hi => ((hR.obj _ _ (hF.objs i o hi).1).mono (av' := (Abs.calleeB bw C H σ nd).avoid nd) (fun b _ hb => pW hF b hb) (fun _ _ _ => rfl) (fun _ _ => rfl)).unren (ρ := C.ρ)
  apart := fun i j oi oj b hne hi hj hb hb' => hR.apart (σ i) (σ j) _ _ b (fun e => hne (hF.inj i j oi oj hi hj e)) (hF.objs i oi hi).1 (hF.objs j oj hj).1 hb hb'
  xapart := fun i o b hi hb hx => by
    rcases hx with hx | ⟨j, oj, hj, _, hn, hb'⟩
    . exact hR.xapart _ _ b (hF.objs i o hi).1 hb hx
    exact hR.apart (σ i) j _ oj b (hn i o hi) (hF.objs i o hi).1 hj hb hb'
  xlt := fun b hx => by
    rcases hx with hx | ⟨j, oj, hj, _, hn, hb'⟩
    . exact hR.xlt b hx
    exact (hR.obj j oj hj).own_lt b hb'
  objb := fun i o hi => (hF.objs i o hi).2
  gl := hR.glK (fun b _ hb => pW hF b hb) (fun _ _ _ _ _ _ => rfl)
open Classical in
def RelH.backB (hR : RelH C H U w) (hF : Fit U H σ nd n0 nx nw H1) {C1 : Conc} {w' : World} (hR1 : RelH C1 H1 (UU (n0 + nw)) w') (hs : StepR (Abs.calleeB bw C H σ nd) nd (UU n0) w C1 H1 w') (hbw : ∀ i ∈ bw, ∀ j o', get nd j = some o' -> σ j ≠ i) (hfz : ∀ i o, get H1 i = some o -> o.noFz = true) :
    let H2 := over H (H1.map fun p => (shift σ n0 nx nw p.1, p.2.ren (shift σ n0 nx nw)))
    let C2 := Abs.back C C1 σ nd n0 nx nw
    RelH C2 H2 (sR U nx nw) w' /\ StepR C H U w C2 H2 w' /\ ∀ r v, r.noFz = true -> r.bel (UU (n0 + nw)) -> Rep C1.ρ (C1.avoid H1) w'.heap r v -> Rep C2.ρ (C2.avoid H2) w'.heap (r.ren (shift σ n0 nx nw)) v /\ (r.ren (shift σ n0 nx nw)).bel (sR U nx nw) := by
  intro H2 C2
  have hnew : ∀ i, U i -> ¬ (nx <= i /\ i < nx + nw) := fun i hu ⟨h1, h2⟩ => hF.fresh i h1 h2 hu
  have hτold : ∀ i, UU n0 i -> shift σ n0 nx nw i = σ i := fun i hu => by
    unfold shift; rw [if_neg]
    rintro ⟨h1, h2⟩
    have := hF.far
    rcases hu with hu | hu <;> omega
  have hτnew : ∀ i, n0 <= i -> i < n0 + nw -> shift σ n0 nx nw i = nx + (i - n0) := fun i h1 h2 => if_pos ⟨h1, h2⟩
  have hsplit : ∀ i, UU (n0 + nw) i -> UU n0 i ∨ (n0 <= i /\ i < n0 + nw) := fun i hu => by
    rcases hu with hu | hu
    . rcases Nat.lt_or_ge i n0 with h | h
      . exact .inl (.inl h)
      exact .inr ⟨h, hu⟩
    exact .inl (.inr hu)
  have hknown : ∀ i, UU (n0 + nw) i -> sR U nx nw (shift σ n0 nx nw i) := fun i hu => by
    rcases hsplit i hu with h | ⟨h1, h2⟩
    . rw [hτold i h]; exact .inl (hF.known i h)
    rw [hτnew i h1 h2]; exact .inr og
  have hρ : ∀ i, UU (n0 + nw) i -> C2.ρ (shift σ n0 nx nw i) = C1.ρ i := fun i hu => by
    rcases hsplit i hu with h | ⟨h1, h2⟩
    . rw [hτold i h]
      show (if _ then _ else _) = _
      rw [if_neg (hnew _ (hF.known i h))]
      exact (hs.ρ i h).symm
    rw [hτnew i h1 h2]
    show (if _ then _ else _) = _
    rw [if_pos og]
    congr 1
    omega
  have hmem1 : ∀ i o, get H1 i = some o -> UU (n0 + nw) i := fun i o hi => (hR1.objb i o hi).1
  have hown1 : ∀ i o, get H1 i = some o -> C2.own (shift σ n0 nx nw i) = C1.own i := fun i o hi => by
    rcases hF.dom i o hi with ⟨o', ho'⟩ | ⟨h1, h2⟩
    . have hu := (hF.objs i o' ho').2.1
      rw [hτold i hu]
      show (if _ then _ else if h : _ then _ else _) = _
      have hex : ∃ j o'', get nd j = some o'' /\ σ j = σ i := ⟨i, o', ho', rfl⟩
      rw [if_neg (hnew _ (hF.known i hu)), dif_pos hex]
      obtain ⟨o2, h1, h2⟩ := Classical.choose_spec hex
      rw [hF.inj _ i _ _ h1 ho' h2]
    rw [hτnew i h1 h2]
    show (if _ then _ else _) = _
    rw [if_pos og]
    congr 1
    omega
  have hinj1 : ∀ i j oi oj, get H1 i = some oi -> get H1 j = some oj -> shift σ n0 nx nw i = shift σ n0 nx nw j -> i = j := fun i j oi oj hi hj e => by
    rcases hF.dom i oi hi with ⟨o1, ho1⟩ | ⟨h1, h2⟩
    . have hu := (hF.objs i o1 ho1).2.1
      rcases hF.dom j oj hj with ⟨o2, ho2⟩ | ⟨h3, h4⟩
      . have hu2 := (hF.objs j o2 ho2).2.1
        rw [hτold i hu, hτold j hu2] at e
        exact hF.inj i j _ _ ho1 ho2 e
      rw [hτold i hu, hτnew j h3 h4] at e
      exact absurd ⟨og, og⟩ (hnew _ (hF.known i hu))
    rcases hF.dom j oj hj with ⟨o2, ho2⟩ | ⟨h3, h4⟩
    . have hu2 := (hF.objs j o2 ho2).2.1
      rw [hτold j hu2, hτnew i h1 h2] at e
      exact absurd ⟨og, og⟩ (hnew _ (hF.known j hu2))
    rw [hτnew i h1 h2, hτnew j h3 h4] at e; omega
  have hcase : ∀ i o, get H2 i = some o -> (∃ j o', get H1 j = some o' /\ shift σ n0 nx nw j = i /\ o'.ren (shift σ n0 nx nw) = o) ∨
      (get H i = some o /\ C2.own i = C.own i /\ ∀ j o', get nd j = some o' -> σ j ≠ i) := fun i o hi => by
    rw [cJ] at hi
    cases hm : get (H1.map fun p => (shift σ n0 nx nw p.1, p.2.ren (shift σ n0 nx nw))) i with
    | some y =>
      rw [hm] at hi; cases hi
      exact .inl (aDa _ _ _ _ _ hm)
    | none =>
      rw [hm] at hi
      have hun : ∀ j o', get nd j = some o' -> σ j ≠ i := fun j o' hj e => by
        obtain ⟨o2, ho2⟩ := hF.all j o' hj
        have := aKu (shift σ n0 nx nw) (AObj.ren (shift σ n0 nx nw)) H1 j o2 hinj1 ho2
        rw [hτold j (hF.objs j o' hj).2.1, e, hm] at this; cases this
      refine .inr ⟨hi, ?_, hun⟩
      show (if _ then _ else if h : _ then _ else _) = _
      rw [if_neg (hnew _ (hR.objb i o hi).1), dif_neg]
      rintro ⟨j, o', hj, e⟩
      exact hun j o' hj e
  have hW1 : ∀ b, (Abs.calleeB bw C H σ nd).W nd b -> C.W H b := fun b ⟨i, o, hi, hb⟩ => ⟨σ i, _, (hF.objs i o hi).1, hb⟩
  have hav2 : ∀ b, b < w.heap.size -> C2.avoid H2 b -> C.avoid H b := fun b hlt hb => by
    rcases hb with hb | ⟨i, o, hi, hb⟩
    . exact .inl hb
    rcases hcase i o hi with ⟨j, o', hj, rfl, _⟩ | ⟨hi', hown, hun⟩
    . rcases hs.wr b ⟨j, o', hj, by rw [<- hown1 j o' hj]; exact hb⟩ with h1 | h1
      . exact .inr (hW1 b h1)
      omega
    rw [hown] at hb
    exact .inr ⟨i, o, hi', hb⟩
  have hstep : StepR C H U w C2 H2 w' :=
    { os := hs.os, tape := hs.tape, output := hs.output, size := hs.size
      keep := fun k hk hn => hs.keep k hk fun q => hn (hW1 k q)
      wr := fun b ⟨i, o, hi, hb⟩ => by
        rcases hcase i o hi with ⟨j, o', hj, rfl, _⟩ | ⟨hi', hown, hun⟩
        . rcases hs.wr b ⟨j, o', hj, by rw [<- hown1 j o' hj]; exact hb⟩ with h1 | h1
          . exact .inl (hW1 b h1)
          exact .inr h1
        exact .inl ⟨i, o, hi', by rw [<- hown]; exact hb⟩
      X := rfl, B := rfl
      ρ := fun i hi => if_neg (hnew i hi) }
  have hrep : ∀ r v, r.noFz = true -> r.bel (UU (n0 + nw)) -> Rep C1.ρ (C1.avoid H1) w'.heap r v -> Rep C2.ρ (C2.avoid H2) w'.heap (r.ren (shift σ n0 nx nw)) v := fun r v hf hr hrr =>
    Rep.ren (ρ := C2.ρ) ((hrr.anywhere (av' := C2.avoid H2) hf).named (ρ' := fun i => C2.ρ (shift σ n0 nx nw i)) hρ hr)
  have cross : ∀ i oi, get H i = some oi -> (∀ j o', get nd j = some o' -> σ j ≠ i) -> ∀ j oj, get H1 j = some oj -> ∀ b, b ∈ C.own i -> b ∈ C1.own j -> False := fun i oi hi hun j oj hj b hb hb' => by
    rcases hs.wr b ⟨j, oj, hj, hb'⟩ with ⟨q, oq, hq, hbq⟩ | h1
    . exact hR.apart i (σ q) oi _ b (fun e => hun q oq hq e.symm) hi (hF.objs q oq hq).1 hb hbq
    have := (hR.obj i oi hi).own_lt b hb; omega
  refine ⟨{ obj := fun i o hi => ?_, apart := fun i j oi oj b hne hi hj hb hb' => ?_, xapart := fun i o b hi hb hx => ?_, xlt := fun b hx => Nat.lt_of_lt_of_le (hR.xlt b hx) hs.size, objb := fun i o hi => ?_, gl := hR.glK hav2 fun b _ _ _ hb hn => hs.keep b (ltB hb) fun q => hn (.inr (hW1 b q)) }, hstep, fun r v hf hr hrr => ⟨hrep r v hf hr hrr, AV.bel_ren.2 (AV.bel_mono hknown r hr)⟩⟩
  . rcases hcase i o hi with ⟨j, o', hj, rfl, rfl⟩ | ⟨hi', hown, hun⟩
    . rw [hown1 j o' hj, hρ j (hmem1 j o' hj)]
      exact cR.ren (ρ := C2.ρ) (((hR1.obj j o' hj).anywhere (av' := C2.avoid H2) (hfz j o' hj)).named (ρ' := fun i => C2.ρ (shift σ n0 nx nw i)) hρ (hR1.objb j o' hj).2)
    have hkeep : ∀ b, b ∈ C.own i -> w'.heap[b]? = w.heap[b]? := fun b hb => hs.keep b ((hR.obj i o hi').own_lt b hb) fun ⟨j, oj, hj, hb'⟩ =>
      hR.apart i (σ j) o _ b (fun e => hun j oj hj e.symm) hi' (hF.objs j oj hj).1 hb hb'
    have hρi : C2.ρ i = C.ρ i := if_neg (hnew i (hR.objb i o hi').1)
    rw [hown, hρi]
    exact ((hR.obj i o hi').mono (av' := C2.avoid H2) (fun b hb hq => hav2 b hb hq) (fun b hb hn => hs.keep b hb fun q => hn (.inr (hW1 b q))) hkeep).named (ρ' := C2.ρ) (fun j hj => if_neg (hnew j hj)) (hR.objb i o hi').2
  . rcases hcase i oi hi with ⟨i', oi', hi', rfl, _⟩ | ⟨hi', hown, hun⟩
    . rw [hown1 i' oi' hi'] at hb
      rcases hcase j oj hj with ⟨j', oj', hj', rfl, _⟩ | ⟨hj', hown2, hun2⟩
      . rw [hown1 j' oj' hj'] at hb'
        exact hR1.apart i' j' oi' oj' b (fun e => hne (by rw [e])) hi' hj' hb hb'
      rw [hown2] at hb'
      exact cross j oj hj' hun2 i' oi' hi' b hb' hb
    rw [hown] at hb
    rcases hcase j oj hj with ⟨j', oj', hj', rfl, _⟩ | ⟨hj', hown2, hun2⟩
    . rw [hown1 j' oj' hj'] at hb'
      exact cross i oi hi' hun j' oj' hj' b hb hb'
    rw [hown2] at hb'
    exact hR.apart i j oi oj b hne hi' hj' hb hb'
  . rcases hcase i o hi with ⟨j, o', hj, rfl, _⟩ | ⟨hi', hown, hun⟩
    . rw [hown1 j o' hj] at hb
      exact hR1.xapart j o' b hj hb (by rw [hs.X]; exact .inl hx)
    rw [hown] at hb
    exact hR.xapart i o b hi' hb hx
  rcases hcase i o hi with ⟨j, o', hj, rfl, rfl⟩ | ⟨hi', hown, hun⟩
  . exact ⟨hknown j (hmem1 j o' hj), AObj.bel_ren.2 (AObj.bel_mono hknown o' (hR1.objb j o' hj).2)⟩
  exact ⟨.inl (hR.objb i o hi').1, AObj.bel_mono (fun _ h => .inl h) o (hR.objb i o hi').2⟩
end
end
section
variable [Globals]
variable {x : AV} {v : Value}
def xU (h : Nat -> Option AObj) (bw : List Nat) : AV -> AV
  | .ref i => if i ∈ bw then (match h i with
    | some (.row _ sz xs) => .sl sz (fzL xs)
    | _ => .ref i) else .ref i
  | x => x
def wY (h : Nat -> Option AObj) (bw : List Nat) : List AV -> List AV
  | [] => []
  | x :: r => xU h bw x :: wY h bw r
def aIm (h : Nat -> Option AObj) (bw : List Nat) : AV -> AV
  | .agg cs => .agg (wY h bw cs)
  | x => xU h bw x
def aRf (h : Nat -> Option AObj) (bw : List Nat) : ∀ (xs : List AV) (j : Nat), (wY h bw xs)[j]? = (xs[j]?).map (xU h bw)
  | [], j => rfl
  | x :: xs, 0 => rfl
  | x :: xs, j + 1 => by simpa [wY] using aRf h bw xs j
def aCw (h : Nat -> Option AObj) (bw : List Nat) : ∀ xs : List AV, (wY h bw xs).length = xs.length
  | [] => rfl
  | x :: xs => by simp [wY, aCw h bw xs]
section
variable {P : Program} {ro : Option Nat} {N : Nat} {o : Oper} {E : Env} {H : Heap} {nx b0 : Nat} {ds : List (Option Tmp)} {C : Conc} {U : Nat -> Prop} {a : Act} {w : World} {bw : List Nat} {σ : Nat -> Nat} {nd H1 : Heap} {n0 nw : Nat}
def aRs (hR : RelH C H U w) (hF : Fit U H σ nd n0 nx nw H1) (hbw : ∀ i ∈ bw, ∀ j o', get nd j = some o' -> σ j ≠ i) (h : Rep C.ρ (C.avoid H) w.heap x v) : Rep C.ρ ((calleeB bw C H σ nd).avoid nd) w.heap (xU (get H) bw x) v := by
  have plain : Rep C.ρ ((calleeB bw C H σ nd).avoid nd) w.heap x v := h.mono (fun b _ hb => pW hF b hb) (fun _ _ _ => rfl)
  cases x with
  | ref i =>
    simp only [xU]; split
    . rename_i hi
      split
      . rename_i e sz xs hH
        cases h
        obtain ⟨h1, _⟩ := hR.obj i _ hH
        have h2 : RepO C.ρ ((calleeB bw C H σ nd).avoid nd) w.heap (.own e sz xs) (C.ρ i) (C.own i) := h1.mono' (fun b _ hb => pW hF b hb) (fun _ _ _ _ _ _ => rfl) (fun _ _ => rfl)
        exact h2.fz fun b hb => aUv hR hF hbw hi hH hb
      exact plain
    exact plain
  | _ => exact plain
def bKt (hR : RelH C H U w) (hF : Fit U H σ nd n0 nx nw H1) (hbw : ∀ i ∈ bw, ∀ j o', get nd j = some o' -> σ j ≠ i) (h : Rep C.ρ (C.avoid H) w.heap x v) : Rep C.ρ ((calleeB bw C H σ nd).avoid nd) w.heap (aIm (get H) bw x) v := by
  cases x with
  | agg cs =>
    cases h with
    | agg _ vs hn hr =>
      refine .agg _ vs (by rw [aCw]; exact hn) fun j y hy => ?_
      rw [aRf] at hy
      obtain ⟨z, hz, rfl⟩ := B3.1 hy
      exact aRs hR hF hbw (hr j z hz)
  | _ => exact aRs hR hF hbw h
def aMo {c : Call} {f : Nat} {fn : Func} {code : Code} {args xs : List AV} {m0 n1 : Nat} {r0 : AV} (s : List (Nat × Nat)) (bw : List Nat) (nw : Nat) (hg : o.guard = none) (ho : o.op = .call c) (hc : c.callee = .value (.func f)) (hT : FnT P f fn code)
    (hN : oD o N) (hM : aO P f args nd m0 r0 H1 n1) (hn1 : n1 = m0 + nw) (hxs : c.args.toList.map (opv E) = xs.map some) (hargs : xs.map (aIm (get H) bw) = aB (sg s) args) (hab : aI (UU m0) args) (hF : FitC H s nd m0 nw H1)
    (hbw : ∀ i ∈ bw, ∀ p ∈ nd, sg s p.1 ≠ i) (hfr : r0.noFz = true) (hfo : ∀ p ∈ H1, p.2.noFz = true) :
    aY P ro N ds o b0 E H (aF c.args.toList) ((nd.map fun p => sg s p.1) ++ bw) (r0.ren (shift (sg s) m0 nx nw)) (H1.map fun p => (shift (sg s) m0 nx nw p.1, p.2.ren (shift (sg s) m0 nx nw))) nx nw := by
  subst hn1
  intro E' H' U hE hH hU hnx C a w next Q hR hK
  have hops := oCg hE
  have hfit := hF.fit hR.toRelH (fun j hj => hU j (.inr hj)) (fun p hp => hH _ (A7.2 (.inl (A9.2 ⟨p, hp, rfl⟩)))) hnx
  have hbw' : ∀ i ∈ bw, ∀ j o', get nd j = some o' -> sg s j ≠ i := fun i hi j o' hj => hbw i hi _ (dS hj)
  have hRc := hR.toRelH.calleeB (bw := bw) hfit
  have hxs' : c.args.toList.map (opv E') = xs.map some := by
    rw [<- hxs]
    exact E8 fun x hx => hops x hx
  obtain ⟨h2, _⟩ := uD hR hxs'
  have hlend : ∀ x : AV, aIm (get H') bw x = aIm (get H) bw x := by
    have h1 : ∀ x : AV, xU (get H') bw x = xU (get H) bw x := fun x => by
      cases x with
      | ref i =>
        simp only [xU]; split
        . rename_i hi
          rw [hH i (A7.2 (.inr hi))]
        rfl
      | _ => rfl
    have h2 : ∀ l : List AV, wY (get H') bw l = wY (get H) bw l := fun l => by
      induction l with
      | nil => rfl
      | cons x r ih => rw [wY, wY, h1, ih]
    intro x; unfold aIm; split
    . rw [h2]
    exact h1 _
  have hvals : eB C.ρ ((calleeB bw C H' (sg s) nd).avoid nd) w.heap (aB (sg s) args) (c.args.map a.eval) := by
    rw [<- hargs]
    refine ⟨by rw [A6]; exact h2.1, fun j y hy => ?_⟩
    rw [B4] at hy
    obtain ⟨z, hz, rfl⟩ := B3.1 hy
    have := bKt (bw := bw) hR.toRelH hfit hbw' (h2.2 j z hz)
    rwa [hlend] at this
  have hargsR : eB (calleeB bw C H' (sg s) nd).ρ ((calleeB bw C H' (sg s) nd).avoid nd) w.heap args (c.args.map a.eval) := hvals.unren (ρ := C.ρ)
  refine rS hg (aFe (R := fun v w' => ∃ C1, RelH C1 H1 (UU (m0 + nw)) w' /\ StepR (calleeB bw C H' (sg s) nd) nd (UU m0) w C1 H1 w' /\ Rep C1.ρ (C1.avoid H1) w'.heap r0 v /\ r0.bel (UU (m0 + nw))) ho hc hT
    ((hM _ w _ hRc hargsR hab).mono fun e w' ⟨v, r, H2, n', C1, he, hn', ⟨hr, hH2, hn2⟩, h1, h2, h3, h4⟩ => ?_) fun v w' ⟨C1, h1, h2, h3, h4⟩ => ?_)
  . subst hr; subst hH2; subst hn2
    exact ⟨v, he, C1, h1, h2, h3, h4⟩
  obtain ⟨k1, k2, k3⟩ := hR.toRelH.backB hfit h1 h2 hbw' (fun i o hi => hfo _ (dS hi))
  obtain ⟨k4, k5⟩ := k3 r0 v hfr h4 h3
  have hRel := hR.change k2 (fun i hi => .inl hi) k1
  exact hK _ _ w' (hRel.put hN k4 k5) k2
end
end
section
variable [Globals]
section
variable {C : Conc} {N : Nat} {E : Env} {H : Heap} {U : Nat -> Prop} {a : Act} {w : World}
end
end
section
variable [Globals]
def aMk (H : Heap) : Heap -> Prop
  | [] => True
  | (i, o) :: r => get H i = some o /\ aMk H r
def bPf (P : Program) (l : Nat) (args : List AV) (nd : Heap) (n0 : Nat) (r0 : AV) (H1 : Heap) : Prop :=
  ∀ (C : Conc) (w : World) (vals : Array Value), RelH C nd (UU n0) w -> eB C.ρ (C.avoid nd) w.heap args vals -> aI (UU n0) args ->
    YieldAt (FW none) 0 P l vals w fun e w' => ∃ v C', e = .returned v /\ RelH C' H1 (UU n0) w' /\ StepR C nd (UU n0) w C' H1 w' /\ Rep C'.ρ (C'.avoid H1) w'.heap r0 v /\ r0.bel (UU n0)
def bPf.mono {P : Program} {l : Nat} {vals : Array Value} {w : World} {R R' : Ending -> World -> Prop} (h : YieldAt (FW none) 0 P l vals w R) (hr : ∀ e w', R e w' -> R' e w') : YieldAt (FW none) 0 P l vals w R' := by
  obtain ⟨fn, tmps, assign, body, h1, h2⟩ := h
  exact ⟨fn, tmps, assign, body, h1, h2.mono hr⟩
section
variable {P : Program} {N : Nat} {o : Oper} {E : Env} {H : Heap} {nx b0 : Nat} {ds : List (Option Tmp)}
def bPu (Ho : Heap) (j : Option Code) : AQ := fun e E H nx =>
  match e with
  | .normal => j = none /\ aMk H Ho
  | .ret => j = some .ret /\ aMk H Ho
  | .exit id => j = some (.exit id) /\ aMk H Ho
  | _ => False
def bJp : List Nat -> List AV -> Env -> Env
  | p :: ps, x :: xs, E => bJp ps xs ((p, x) :: E)
  | _, _, E => E
def Rel.params {C : Conc} {U : Nat -> Prop} {w : World} : ∀ (ps : List Nat) (xs : List AV) (vs : List Value) (E : Env) (tmps : Array Value), (∀ p ∈ ps, p < N) -> xs.length = ps.length -> vs.length = xs.length ->
    (∀ (j : Nat) (x : AV), xs[j]? = some x -> x.bel U /\ Rep C.ρ (C.avoid H) w.heap x (vs.getD j undef)) -> Rel C N E H U { tmps := tmps, defers := [] } w ->
    Rel C N (bJp ps xs E) H U { tmps := (ps.zip vs).foldl (fun t (q : Nat × Value) => t.setIfInBounds q.1 q.2) tmps, defers := [] } w
  | [], [], vs, E, tmps, _, _, _, _, h => by simpa [bJp] using h
  | p :: ps, x :: xs, v :: vs, E, tmps, hp, hl, hv, hx, h => by
    simp only [bJp, List.zip_cons_cons, List.foldl_cons]
    have hx0 := hx 0 x rfl
    refine Rel.params ps xs vs _ _ (fun q hq => hp q (A4 _ hq)) (by simpa using hl) (by simpa using hv) (fun j y hj => hx (j + 1) y (by simpa using hj)) ?_
    have := h.put (dst := some p) (r := x) (v := v) (fun d hd => by cases hd; exact hp p A3) (by simpa using hx0.2) hx0.1
    exact this
  | [], _ :: _, _, _, _, _, hl, _, _, _ => by simp at hl
  | _ :: _, [], _, _, _, _, hl, _, _, _ => by simp at hl
  | _ :: _, _ :: _, [], _, _, _, _, hv, _, _ => by simp at hv
end
end
section
variable [Globals]
def upσ (m : Nat) : Nat -> Nat := fun i => if i < m then i + 1000 else i
def upH (m : Nat) (H : Heap) : Heap := H.map fun p => (upσ m p.1, p.2.ren (upσ m))
def vJ {α : Type} : ∀ {l : List (Nat × α)} {i : Nat}, i ∈ l.map (·.1) -> ∃ o, get l i = some o
  | (k, x) :: r, i, h => by
    rw [dZ]
    by_cases e : k = i
    . exact ⟨x, if_pos e⟩
    rw [if_neg e]; refine vJ ?_
    simp only [List.map_cons, A8] at h
    rcases h with h | h
    . exact absurd h.symm e
    exact h
def vW {α β : Type} {f : α -> β} : ∀ {l : List α}, (∀ x, x ∈ l -> ∀ y, y ∈ l -> f x = f y -> x = y) -> l.Nodup -> (l.map f).Nodup
  | [], _, _ => E5
  | x :: r, h, hn => by
    rw [C7] at hn; rw [List.map_cons, C7]
    refine ⟨fun hm => ?_, vW (fun a ha b hb => h a (A4 _ ha) b (A4 _ hb)) hn.2⟩
    obtain ⟨y, hy, e⟩ := A9.1 hm
    have := h y (A4 _ hy) x A3 e
    exact hn.1 (this ▸ hy)
def bRa (Q : AQ) : Option Code -> AK
  | none => Q .normal
  | some .ret => Q .ret
  | some (.exit id) => Q (.exit id)
  | _ => fun _ _ _ => False
end
section
variable [Globals]
def aFi {n1 : Nat} {H : Heap} : ∀ (H1 : Heap), (∀ p ∈ H1, get H p.1 = some p.2 /\ UU n1 p.1 /\ p.2.bel (UU n1)) -> qV (sg []) n1 H H1
  | [], _ => trivial
  | (i, o) :: r, h => by
    obtain ⟨h1, h2, h3⟩ := h _ A3
    exact ⟨by rw [AObj.ren_nil]; exact h1, h2, h3, aFi r fun p hp => h p (A4 _ hp)⟩
structure Far (H : Heap) (F : Heap) : Prop where
  at' : ∀ p ∈ F, get H p.1 = some p.2
  far : ∀ p ∈ F, 1000 <= p.1 /\ p.2.bel (UU 0)
  nodup : (F.map (·.1)).Nodup
def Far.put {H F : Heap} (h : Far H F) {n : Nat} (hn : n < 1000) (o : AObj) : Far (put H n o) F :=
  ⟨fun p hp => by rw [eX (by have := (h.far p hp).1; omega)]; exact h.at' p hp, h.far, h.nodup⟩
def Far.over {H F' : Heap} (h : Far F' F') : Far (over H F') F' :=
  ⟨fun p hp => by rw [cJ, h.at' p hp], h.far, h.nodup⟩
def Far.fit {H F F' : Heap} (h : Far H F) (hk : F.map (·.1) = F'.map (·.1)) : FitC H [] F 0 0 F' where
  objs := aFi F fun p hp => ⟨h.at' p hp, .inr (h.far p hp).1, (h.far p hp).2⟩
  inj := h.nodup
  cov := fun i hi => by omega
  sk := fun p hp => by cases hp
  dom := fun p hp => .inl (by
    obtain ⟨o, ho⟩ := vJ (l := F) (i := p.1) (by rw [hk]; exact D3 hp)
    rw [ho]; rfl)
  all := fun p hp => by
    obtain ⟨o, ho⟩ := vJ (l := F') (i := p.1) (by rw [<- hk]; exact D3 hp)
    rw [ho]; rfl
  far := by omega
def Far.heap {H F : Heap} (h : Far H F) (n1 : Nat) : qV (sg []) n1 H F := aFi F fun p hp => ⟨h.at' p hp, .inr (h.far p hp).1, AObj.bel_mono (eD (A5 _)) _ (h.far p hp).2⟩
attribute [go_sem] aMk bJp bRa bPu upσ upH
end
end Go.Abs
end
section
open Go Go.MapKept
namespace Go.Abs
section
variable [Globals]
variable {t kt et : TypeId} {x y : Operand} {i : Nat} {kav : AV}
section
variable {K V : Type} [DecidableEq K]
def wZ : List (K × V) -> K -> Option (Nat × V)
  | [], _ => none
  | (k, v) :: r, q => if k = q then some (0, v) else (wZ r q).map fun p => (p.1 + 1, p.2)
def yY : List (K × V) -> K -> V -> List (K × V)
  | [], q, w => [(q, w)]
  | (k, v) :: r, q, w => if k = q then (q, w) :: r else (k, v) :: yY r q w
def aAa (m : List (K × V)) (q : K) (z : V) : V := match wZ m q with | some p => p.2 | none => z
def mAV (eK : K -> Value) (eV : V -> AV) (m : List (K × V)) : List (Value × AV) := m.map fun p => (eK p.1, eV p.2)
def uT (k : K) (v : V) (r : List (K × V)) (q : K) (z : V) : aAa ((k, v) :: r) q z = if k = q then v else aAa r q z := by
  unfold aAa; rw [wZ]
  by_cases h : k = q
  . simp [h]
  simp only [h, if_false]
  cases wZ r q <;> rfl
def bIr (q : K) (z : V) : aAa ([] : List (K × V)) q z = z := rfl
def aRd (k : K) (v : V) (q : K) (z : V) : ∀ m : List (K × V), aAa (yY m k v) q z = if k = q then v else aAa m q z
  | [] => by rw [yY, uT]
  | (k', v') :: r => by
    unfold yY
    by_cases h : k' = k
    . subst h; simp only [if_true]; rw [uT, uT]
      by_cases h2 : k' = q <;> simp [h2]
    simp only [h, if_false]; rw [uT, uT, aRd k v q z r]
    by_cases h2 : k' = q
    . subst h2; simp only [if_true]; rw [if_neg (fun e => h e.symm)]
    simp [h2]
def aHg (k : K) (v : V) : ∀ m : List (K × V), (yY m k v).length <= m.length + 1
  | [] => by simp [yY]
  | (k', v') :: r => by
    unfold yY; split
    . simp
    have := aHg k v r; simp; omega
def aXj (k : K) (v : V) (q : K) : ∀ m : List (K × V), q ∈ (yY m k v).map (·.1) -> q = k ∨ q ∈ m.map (·.1)
  | [], h => by simp [yY] at h; exact .inl h
  | (k', v') :: r, h => by
    unfold yY at h; split at h
    . rename_i e
      simp only [List.map_cons, A8] at h ⊢
      rcases h with h | h
      . exact .inl h
      exact .inr (.inr h)
    simp only [List.map_cons, A8] at h ⊢
    rcases h with h | h
    . exact .inr (.inl h)
    rcases aXj k v q r h with h | h
    . exact .inl h
    exact .inr (.inr h)
def aNs (k : K) (v : V) : ∀ m : List (K × V), (m.map (·.1)).Nodup -> ((yY m k v).map (·.1)).Nodup
  | [], _ => by simp [yY]
  | (k', v') :: r, h => by
    simp only [List.map_cons, C7] at h
    unfold yY; split
    . rename_i e
      subst e
      simpa using h
    rename_i e
    simp only [List.map_cons, C7]
    refine ⟨fun hm => ?_, aNs k v r h.2⟩
    rcases aXj k v k' r hm with h' | h'
    . exact e h'
    exact h.1 h'
variable {eK : K -> Value} {eV : V -> AV}
def aSz (hi : ∀ a b, eK a = eK b -> a = b) (k : K) : ∀ m : List (K × V), aOc (mAV eK eV m) (eK k) ((wZ m k).map fun p => (p.1, eV p.2))
  | [] => fun p hp => by cases hp
  | (k', v') :: r => by
    have ih := aSz hi k r
    unfold wZ
    by_cases h : k' = k
    . subst h
      simp [aOc, mAV]
    simp only [h, if_false]
    cases hf : wZ r k with
    | none =>
      rw [hf] at ih; intro p hp
      simp only [mAV, List.map_cons, A8] at hp
      rcases hp with rfl | hp
      . exact fun e => h (hi _ _ e)
      exact ih p hp
    | some q =>
      rw [hf] at ih
      simpa [aOc, mAV] using ih
def bDx (k : K) (v : V) : ∀ m : List (K × V), iC (mAV eK eV m) (eK k) (eV v) ((wZ m k).map fun p => (p.1, eV p.2)) = mAV eK eV (yY m k v)
  | [] => rfl
  | (k', v') :: r => by
    have ih := bDx k v r
    unfold wZ yY
    by_cases h : k' = k
    . subst h
      simp [iC, mAV]
    simp only [h, if_false]
    cases hf : wZ r k with
    | none =>
      rw [hf] at ih
      simp only [Option.map_none, iC, mAV] at ih ⊢
      simp [ih]
    | some q =>
      rw [hf] at ih
      simp only [Option.map_some, iC, mAV] at ih ⊢
      simp [ih]
def bNm (m : List (K × V)) (k : K) (z : V) : aLz (eV z) false ((wZ m k).map fun p => (p.1, eV p.2)) = eV (aAa m k z) := by
  unfold aLz aAa
  cases wZ m k <;> rfl
def bNg {U : Nat -> Prop} (h : ∀ v, (eV v).bel U) (m : List (K × V)) : aI U ((mAV eK eV m).map (·.2)) := by
  rw [bLi]; intro x hx
  obtain ⟨p, hp, rfl⟩ := A9.1 hx
  obtain ⟨q, hq, rfl⟩ := A9.1 hp
  exact h _
def bOm (σ : Nat -> Nat) (h : ∀ v, (eV v).ren σ = eV v) (m : List (K × V)) : ((mAV eK eV m).map fun p => (p.1, p.2.ren σ)) = mAV eK eV m := by
  unfold mAV; rw [List.map_map]
  exact E8 fun p _ => by simp [h]
variable {P : Program} {ro : Option Nat} {N : Nat} {o : Oper} {E : Env} {H : Heap} {nx b0 : Nat} {ds : List (Option Tmp)}
def aLl {m : List (K × V)} {isKey : Value -> Prop} {k : K} {z : V} (hg : o.guard = none) (ho : o.op = .lookup t x y false) (hN : oD o N) (hm : mC P t = some (kt, et)) (hz : zE P et = some (eV z))
    (hK : KeyT P kt isKey) (hi : ∀ a b, eK a = eK b -> a = b) (hk : ∀ a, isKey (eK a)) (hx : opv E x = some (.ref i)) (hH : get H i = some (.map kt et (mAV eK eV m))) (hnd : (m.map (·.1)).Nodup) (hy : opv E y = some kav) (hkv : aVn kav = some (eK k)) :
    aY P ro N ds o b0 E H (aF [x, y]) [i] (eV (aAa m k z)) [] nx 0 := by
  rw [<- bNm (eV := eV) m k z]
  refine aSu hg ho hN hm hz hK hx hH hy hkv (hk k) (fun p hp => ?_) ?_ (aSz hi k m)
  . obtain ⟨q, _, rfl⟩ := A9.1 hp
    exact hk _
  rw [show ((mAV eK eV m).map (·.1)) = (m.map (·.1)).map eK by simp [mAV]]
  exact vW (fun a _ b _ => hi a b) hnd
def bFr {x y z : Operand} {m : List (K × V)} {isKey : Value -> Prop} {k : K} {v : V} (hg : o.guard = none) (ho : o.op = .mapUpdate t x y z) (hN : oD o N) (hm : mC P t = some (kt, et))
    (hK : KeyT P kt isKey) (hi : ∀ a b, eK a = eK b -> a = b) (hk : ∀ a, isKey (eK a)) (hx : opv E x = some (.ref i)) (hH : get H i = some (.map kt et (mAV eK eV m))) (hnd : (m.map (·.1)).Nodup) (hy : opv E y = some kav) (hkv : aVn kav = some (eK k)) (hz : opv E z = some (eV v)) (hlen : m.length + 1 < maxLen) :
    aY P ro N ds o b0 E H (aF [x, y, z]) [i] (.raw undef) [(i, .map kt et (mAV eK eV (yY m k v)))] nx 0 := by
  rw [<- bDx (eK := eK) (eV := eV) k v m]
  refine aHx hg ho hN hm hK hx hH hy hkv hz (hk k) (fun p hp => ?_) ?_ (aSz hi k m) (by simpa [mAV] using hlen)
  . obtain ⟨q, _, rfl⟩ := A9.1 hp
    exact hk _
  rw [show ((mAV eK eV m).map (·.1)) = (m.map (·.1)).map eK by simp [mAV]]
  exact vW (fun a _ b _ => hi a b) hnd
end
end
section
variable [Globals]
section
variable {P : Program} {ro : Option Nat} {N : Nat} {o : Oper} {E : Env} {H : Heap} {nx b0 : Nat} {ds : List (Option Tmp)} {U : Nat -> Prop}
end
end
section
variable [Globals]
section
variable {K V : Type} [DecidableEq K] {eK : K -> Value} {eV : V -> AV}
variable {P : Program} {ro : Option Nat} {N : Nat} {o : Oper} {E : Env} {H : Heap} {nx b0 : Nat} {ds : List (Option Tmp)}
end
end
end Go.Abs
end
section
open Go
namespace Go.Abs
section
variable [Globals]
section
variable {C : Conc} {H : Heap} {U : Nat -> Prop} {w w' : World}
def RelH.grow (h : RelH C H U w) (hsz : w.heap.size <= w'.heap.size) (hk : ∀ k, k < w.heap.size -> w'.heap[k]? = w.heap[k]?) : RelH C H U w' where
  obj := fun i o hi => (h.obj i o hi).mono (fun _ _ h => h) (fun b hb _ => hk b hb) (fun b hb => hk b ((h.obj i o hi).own_lt b hb))
  apart := h.apart
  xapart := h.xapart
  xlt := fun b hb => Nat.lt_of_lt_of_le (h.xlt b hb) hsz
  objb := h.objb
  gl := h.glK (fun _ _ h => h) fun b _ _ _ hb _ => hk b (ltB hb)
def StepR.grow (ho : w'.os = w.os) (ht : w'.tape = w.tape) (hout : w'.output = w.output) (hsz : w.heap.size <= w'.heap.size) (hk : ∀ k, k < w.heap.size -> w'.heap[k]? = w.heap[k]?) : StepR C H U w C H w' :=
  ⟨ho, ht, hout, hsz, fun k hk' _ => hk k hk', fun _ h => .inl h, rfl, rfl, fun _ _ => rfl⟩
end
def bHl {α : Type} (n : Nat) : get ([] : List (Nat × α)) n = none := rfl
attribute [go_sem] bHl Option.getD_none Option.getD_some
def aCt {H H1 : Heap} {nw : Nat} (h : ∀ i ∈ H1.map (·.1), i < nw) (hm : nw <= 1000) : FitC H [] [] 0 nw H1 where
  objs := trivial
  inj := E5
  cov := fun i hi => by omega
  sk := fun p hp => by cases hp
  dom := fun p hp => .inr ⟨A5 _, by have := h _ (D3 hp); omega⟩
  all := fun p hp => by cases hp
  far := by omega
end
section
variable [Globals]
variable {α : Type} {j e sz e' sz' n i q : Nat} {xs ys cs : List AV} {ρ : Nat -> Value} {av U : Nat -> Prop} {hp : Array Obj} {v : Value} {ow g ow2 : List Nat} {c : Code} {y : α}
def nW {xs : List α} {j k : Nat} (h : k ≠ j) : (xs.set j y)[k]? = xs[k]? := by
  rw [F9, if_neg (fun e => h e.symm)]
def pP {xs : List α} {x y : α} (h : xs[j]? = some x) : (xs.set j y)[j]? = some y := by
  rw [F9, if_pos rfl, if_pos (B2.1 h).1]
def nE {f : Nat -> List Nat} {b : Nat} (h : b ∈ bA n fun k => if k = j then g else f k) (hg : ∀ b, b ∈ g -> b ∈ f j) : b ∈ bA n f := by
  obtain ⟨k, hk, hb⟩ := mFl.1 h
  by_cases e : k = j
  . rw [if_pos e] at hb
    exact mFl.2 ⟨k, hk, by rw [e]; exact hg b hb⟩
  rw [if_neg e] at hb
  exact mFl.2 ⟨k, hk, hb⟩
def sK {f : Nat -> List Nat} (h : (bA n f).Nodup) (hg : ∀ b, b ∈ g -> b ∈ f j) (hgn : g.Nodup) : (bA n fun k => if k = j then g else f k).Nodup := by
  rw [aV] at h ⊢
  refine ⟨fun k hk => ?_, fun k l hk hl hne b hb hb' => ?_⟩
  . split
    . exact hgn
    exact h.1 k hk
  refine h.2 k l hk hl hne b ?_ ?_
  . split at hb
    . rename_i e; rw [e]; exact hg b hb
    exact hb
  split at hb'
  . rename_i e; rw [e]; exact hg b hb'
  exact hb'
def RepO.split (h : RepO ρ av hp (.own e sz xs) v ow) (hnd : ow.Nodup) (hb : aI U xs)
    (hj : xs[j]? = some (.agg cs)) (hq : cs[q]? = some (.own e' sz' ys)) :
    ∃ u ow1 ow2, RepO ρ av hp (.own e' sz' ys) u ow2 /\ u.oneCell' = true /\ ow1.Nodup /\ ow2.Nodup /\ (∀ b, b ∈ ow1 -> b ∈ ow) /\ (∀ b, b ∈ ow2 -> b ∈ ow) /\ (∀ b, b ∈ ow1 -> b ∉ ow2) /\
      ∀ (ρ' : Nat -> Value) (n : Nat), (∀ i, U i -> ρ' i = ρ i) -> ρ' n = u -> RepO ρ' av hp (.own e sz (xs.set j (.agg (cs.set q (.ref n))))) v ow1 := by
  have hjl := (B2.1 hj).1
  have hql := (B2.1 hq).1
  cases h with
  | leaf _ _ h => cases h
  | own0 => simp at hj
  | own _ _ _ b c cells vals ows hh hs hc hm hx hcells =>
    obtain ⟨vs, ows', hvj, hvn, hoj, hvx⟩ := (hx j _ hj).agg_inv
    have hqx := hvx q _ hq
    obtain ⟨hn1, hn2⟩ := C7.1 hnd
    have hnj : (bA cs.length ows').Nodup := by rw [<- hoj]; exact (aV.1 hn2).1 j hjl
    have hinj : ∀ b', b' ∈ (bA cs.length fun q2 => if q2 = q then [] else ows' q2) -> b' ∈ ows j := fun b' hb' => by rw [hoj]; exact nE hb' oS
    have hq2 : ∀ b', b' ∈ ows' q -> b' ∈ bA xs.length ows := fun b' hb' => mFl.2 ⟨j, hjl, by rw [hoj]; exact mFl.2 ⟨q, hql, hb'⟩⟩
    refine ⟨vs.getD q undef, b :: bA xs.length (fun k => if k = j then (bA cs.length fun q2 => if q2 = q then [] else ows' q2) else ows k), ows' q, hqx, ?_, ?_, (aV.1 hnj).1 q hql, ?_, ?_, ?_, ?_⟩
    . clear hnj hinj hq2
      generalize vs.getD q undef = u0 at hqx ⊢
      generalize ows' q = oo at hqx
      cases hqx with
      | leaf _ _ h => cases h
      | own0 => rfl
      | own => rfl
    . refine C7.2 ⟨fun hb' => hn1 (nE hb' hinj), sK hn2 hinj (sK hnj oS E5)⟩
    . intro b' hb'
      rcases A8.1 hb' with e1 | e1
      . rw [e1]; exact A3
      exact A4 _ (nE e1 hinj)
    . exact fun b' hb' => A4 _ (hq2 b' hb')
    . intro b' hb' hb2
      rcases A8.1 hb' with e1 | e1
      . rw [e1] at hb2; exact hn1 (hq2 b hb2)
      obtain ⟨k, hk, hbk⟩ := mFl.1 e1
      by_cases ek : k = j
      . rw [if_pos ek] at hbk
        obtain ⟨q2, hq2l, hbq⟩ := mFl.1 hbk
        by_cases eq : q2 = q
        . rw [if_pos eq] at hbq; cases hbq
        rw [if_neg eq] at hbq
        exact (aV.1 hnj).2 q2 q hq2l hql eq b' hbq hb2
      rw [if_neg ek] at hbk
      exact (aV.1 hn2).2 k j hk hjl ek b' hbk (by rw [hoj]; exact mFl.2 ⟨q, hql, hb2⟩)
    intro ρ' n hρ hn
    have hlen : (xs.set j (.agg (cs.set q (.ref n)))).length = xs.length := D0 ..
    have := RepO.own (ρ := ρ') (av := av) (hp := hp) e sz (xs.set j (.agg (cs.set q (.ref n)))) b c cells vals (fun k => if k = j then (bA cs.length fun q2 => if q2 = q then [] else ows' q2) else ows k) hh hs (by rw [hlen]; exact hc) hm (fun k x hk => ?_) (by rw [hlen]; exact hcells)
    . rw [hlen] at this; exact this
    by_cases ek : k = j
    . subst ek; rw [pP hj] at hk; cases hk; simp only [if_true]; rw [hvj]
      have hlc : (cs.set q (.ref n)).length = cs.length := D0 ..
      have hbc : aI U cs := bG hb hj
      have := RepO.agg (ρ := ρ') (av := av) (hp := hp) (cs.set q (.ref n)) vs (fun q2 => if q2 = q then [] else ows' q2) (by rw [hlc]; exact hvn) (fun q2 y hy => ?_)
      . rw [hlc] at this; exact this
      by_cases eq : q2 = q
      . subst eq; rw [pP hq] at hy; cases hy; simp only [if_true]
        refine .leaf _ _ ?_
        rw [<- hn]
        exact .ref n
      rw [nW eq] at hy; simp only [if_neg eq]
      exact (hvx q2 y hy).named hρ (bG hbc hy)
    rw [nW ek] at hk; simp only [if_neg ek]
    exact (hx k x hk).named hρ (bG hb hk)
def RepO.join (h : RepO ρ av hp (.own e sz xs) v ow) (hnd : ow.Nodup) (h2 : RepO ρ av hp (.own e' sz' ys) (ρ n) ow2) (hnd2 : ow2.Nodup) (hdis : ∀ b, b ∈ ow -> b ∉ ow2)
    (hj : xs[j]? = some (.agg cs)) (hq : cs[q]? = some (.ref n)) :
    ∃ ow1, RepO ρ av hp (.own e sz (xs.set j (.agg (cs.set q (.own e' sz' ys))))) v ow1 /\ ow1.Nodup /\ (∀ b, b ∈ ow1 -> b ∈ ow ∨ b ∈ ow2) := by
  have hjl := (B2.1 hj).1
  have hql := (B2.1 hq).1
  cases h with
  | leaf _ _ h => cases h
  | own0 => simp at hj
  | own _ _ _ b c cells vals ows hh hs hc hm hx hcells =>
    obtain ⟨vs, ows', hvj, hvn, hoj, hvx⟩ := (hx j _ hj).agg_inv
    have hqx := hvx q _ hq
    obtain ⟨hn1, hn2⟩ := C7.1 hnd
    have hnj : (bA cs.length ows').Nodup := by rw [<- hoj]; exact (aV.1 hn2).1 j hjl
    have hold : ∀ q2 b', q2 < cs.length -> b' ∈ ows' q2 -> b' ∈ bA xs.length ows := fun q2 b' hq2 hb' => mFl.2 ⟨j, hjl, by rw [hoj]; exact mFl.2 ⟨q2, hq2, hb'⟩⟩
    have hd : ∀ b', b' ∈ bA xs.length ows -> b' ∉ ow2 := fun b' hb' => hdis b' (A4 _ hb')
    have hin : ∀ b', b' ∈ (bA cs.length fun q2 => if q2 = q then ow2 else ows' q2) -> b' ∈ ows j ∨ b' ∈ ow2 := fun b' hb' => by
      obtain ⟨q2, hq2, hb2⟩ := mFl.1 hb'
      split at hb2
      . exact .inr hb2
      exact .inl (by rw [hoj]; exact mFl.2 ⟨q2, hq2, hb2⟩)
    have hin2 : ∀ b', b' ∈ (bA xs.length fun k => if k = j then (bA cs.length fun q2 => if q2 = q then ow2 else ows' q2) else ows k) -> b' ∈ bA xs.length ows ∨ b' ∈ ow2 := fun b' hb' => by
      obtain ⟨k, hk, hb2⟩ := mFl.1 hb'
      split at hb2
      . rcases hin b' hb2 with h3 | h3
        . exact .inl (mFl.2 ⟨j, hjl, h3⟩)
        exact .inr h3
      exact .inl (mFl.2 ⟨k, hk, hb2⟩)
    refine ⟨b :: bA xs.length (fun k => if k = j then (bA cs.length fun q2 => if q2 = q then ow2 else ows' q2) else ows k), ?_, ?_, ?_⟩
    . have hlen : (xs.set j (.agg (cs.set q (.own e' sz' ys)))).length = xs.length := D0 ..
      have := RepO.own (ρ := ρ) (av := av) (hp := hp) e sz (xs.set j (.agg (cs.set q (.own e' sz' ys)))) b c cells vals (fun k => if k = j then (bA cs.length fun q2 => if q2 = q then ow2 else ows' q2) else ows k) hh hs (by rw [hlen]; exact hc) hm (fun k x hk => ?_) (by rw [hlen]; exact hcells)
      . rw [hlen] at this; exact this
      by_cases ek : k = j
      . subst ek; rw [pP hj] at hk; cases hk; simp only [if_true]; rw [hvj]
        have hlc : (cs.set q (.own e' sz' ys)).length = cs.length := D0 ..
        have := RepO.agg (ρ := ρ) (av := av) (hp := hp) (cs.set q (.own e' sz' ys)) vs (fun q2 => if q2 = q then ow2 else ows' q2) (by rw [hlc]; exact hvn) (fun q2 y hy => ?_)
        . rw [hlc] at this; exact this
        by_cases eq : q2 = q
        . subst eq; rw [pP hq] at hy; cases hy; simp only [if_true]
          have hv : vs.getD q2 undef = ρ n := by
            generalize vs.getD q2 undef = u at hqx
            generalize ows' q2 = oo at hqx
            cases hqx with
            | leaf _ _ h => cases h; rfl
          rw [hv]; exact h2
        rw [nW eq] at hy; simp only [if_neg eq]
        exact hvx q2 y hy
      rw [nW ek] at hk; simp only [if_neg ek]
      exact hx k x hk
    . refine C7.2 ⟨fun hb' => ?_, ?_⟩
      . rcases hin2 b hb' with h3 | h3
        . exact hn1 h3
        exact hdis b A3 h3
      rw [aV]
      refine ⟨fun k hk => ?_, fun k l hk hl hne b' hb1 hb2 => ?_⟩
      . split
        . rw [aV]
          refine ⟨fun q2 hq2 => ?_, fun q2 q3 h2l h3l hne b' hb1 hb2 => ?_⟩
          . split
            . exact hnd2
            exact (aV.1 hnj).1 q2 hq2
          split at hb1
          . rename_i e1
            rw [if_neg (fun e2 => hne (e1.trans e2.symm))] at hb2
            exact hd b' (hold q3 b' h3l hb2) hb1
          split at hb2
          . exact hd b' (hold q2 b' h2l hb1) hb2
          exact (aV.1 hnj).2 q2 q3 h2l h3l hne b' hb1 hb2
        exact (aV.1 hn2).1 k hk
      split at hb1
      . rename_i e1
        rw [if_neg (fun e2 => hne (e1.trans e2.symm))] at hb2
        rcases hin b' hb1 with h3 | h3
        . exact (aV.1 hn2).2 j l hjl hl (fun e2 => hne (e1.trans e2)) b' h3 hb2
        exact hd b' (mFl.2 ⟨l, hl, hb2⟩) h3
      split at hb2
      . rename_i e1 e2
        rcases hin b' hb2 with h3 | h3
        . exact (aV.1 hn2).2 k j hk hjl e1 b' hb1 h3
        exact hd b' (mFl.2 ⟨k, hk, hb1⟩) h3
      exact (aV.1 hn2).2 k l hk hl hne b' hb1 hb2
    intro b' hb'
    rcases A8.1 hb' with e1 | e1
    . exact .inl (by rw [e1]; exact A3)
    rcases hin2 b' e1 with h3 | h3
    . exact .inl (A4 _ h3)
    exact .inr h3
def aWc {U U' : Nat -> Prop} {x : AV} (hU : ∀ i, U i -> U' i) (h : aI U xs) (hx : x.bel U') : aI U' (xs.set j x) := by
  rw [bLi]; intro y hy
  rcases List.mem_or_eq_of_mem_set hy with h5 | h5
  . exact AV.bel_mono hU y (bLi.1 h y h5)
  rw [h5]; exact hx
def RepO.split1 (h : RepO ρ av hp (.own e sz xs) v ow) (hnd : ow.Nodup) (hb : aI U xs)
    (hj : xs[j]? = some (.own e' sz' ys)) :
    ∃ u ow1 ow2, RepO ρ av hp (.own e' sz' ys) u ow2 /\ u.oneCell' = true /\ ow1.Nodup /\ ow2.Nodup /\ (∀ b, b ∈ ow1 -> b ∈ ow) /\ (∀ b, b ∈ ow2 -> b ∈ ow) /\ (∀ b, b ∈ ow1 -> b ∉ ow2) /\
      ∀ (ρ' : Nat -> Value) (n : Nat), (∀ i, U i -> ρ' i = ρ i) -> ρ' n = u -> RepO ρ' av hp (.own e sz (xs.set j (.ref n))) v ow1 := by
  have hjl := (B2.1 hj).1
  cases h with
  | leaf _ _ h => cases h
  | own0 => simp at hj
  | own _ _ _ b c cells vals ows hh hs hc hm hx hcells =>
    have hjx := hx j _ hj
    obtain ⟨hn1, hn2⟩ := C7.1 hnd
    have hin : ∀ b', b' ∈ ows j -> b' ∈ bA xs.length ows := fun b' hb' => mFl.2 ⟨j, hjl, hb'⟩
    refine ⟨vals j, b :: bA xs.length (fun k => if k = j then [] else ows k), ows j, hjx, ?_, ?_, (aV.1 hn2).1 j hjl, ?_, ?_, ?_, ?_⟩
    . generalize vals j = u0 at hjx ⊢
      generalize ows j = oo at hjx
      cases hjx with
      | leaf _ _ h => cases h
      | own0 => rfl
      | own => rfl
    . exact C7.2 ⟨fun hb' => hn1 (nE hb' oS), sK hn2 oS E5⟩
    . intro b' hb'
      rcases A8.1 hb' with e1 | e1
      . rw [e1]; exact A3
      exact A4 _ (nE e1 oS)
    . exact fun b' hb' => A4 _ (hin b' hb')
    . intro b' hb' hb2
      rcases A8.1 hb' with e1 | e1
      . rw [e1] at hb2; exact hn1 (hin b hb2)
      obtain ⟨k, hk, hbk⟩ := mFl.1 e1
      by_cases ek : k = j
      . rw [if_pos ek] at hbk; cases hbk
      rw [if_neg ek] at hbk
      exact (aV.1 hn2).2 k j hk hjl ek b' hbk hb2
    intro ρ' n hρ hn
    have hlen : (xs.set j (.ref n)).length = xs.length := D0 ..
    have := RepO.own (ρ := ρ') (av := av) (hp := hp) e sz (xs.set j (.ref n)) b c cells vals (fun k => if k = j then [] else ows k) hh hs (by rw [hlen]; exact hc) hm (fun k x hk => ?_) (by rw [hlen]; exact hcells)
    . rw [hlen] at this; exact this
    by_cases ek : k = j
    . subst ek; rw [pP hj] at hk; cases hk; simp only [if_true]
      refine .leaf _ _ ?_
      rw [<- hn]
      exact .ref n
    rw [nW ek] at hk; simp only [if_neg ek]
    exact (hx k x hk).named hρ (bG hb hk)
def RepO.join1 (h : RepO ρ av hp (.own e sz xs) v ow) (hnd : ow.Nodup) (h2 : RepO ρ av hp (.own e' sz' ys) (ρ n) ow2) (hnd2 : ow2.Nodup) (hdis : ∀ b, b ∈ ow -> b ∉ ow2)
    (hj : xs[j]? = some (.ref n)) :
    ∃ ow1, RepO ρ av hp (.own e sz (xs.set j (.own e' sz' ys))) v ow1 /\ ow1.Nodup /\ (∀ b, b ∈ ow1 -> b ∈ ow ∨ b ∈ ow2) := by
  have hjl := (B2.1 hj).1
  cases h with
  | leaf _ _ h => cases h
  | own0 => simp at hj
  | own _ _ _ b c cells vals ows hh hs hc hm hx hcells =>
    have hjx := hx j _ hj
    obtain ⟨hn1, hn2⟩ := C7.1 hnd
    have hd : ∀ b', b' ∈ bA xs.length ows -> b' ∉ ow2 := fun b' hb' => hdis b' (A4 _ hb')
    have hin2 : ∀ b', b' ∈ (bA xs.length fun k => if k = j then ow2 else ows k) -> b' ∈ bA xs.length ows ∨ b' ∈ ow2 := fun b' hb' => by
      obtain ⟨k, hk, hb2⟩ := mFl.1 hb'
      split at hb2
      . exact .inr hb2
      exact .inl (mFl.2 ⟨k, hk, hb2⟩)
    refine ⟨b :: bA xs.length (fun k => if k = j then ow2 else ows k), ?_, ?_, ?_⟩
    . have hlen : (xs.set j (.own e' sz' ys)).length = xs.length := D0 ..
      have := RepO.own (ρ := ρ) (av := av) (hp := hp) e sz (xs.set j (.own e' sz' ys)) b c cells vals (fun k => if k = j then ow2 else ows k) hh hs (by rw [hlen]; exact hc) hm (fun k x hk => ?_) (by rw [hlen]; exact hcells)
      . rw [hlen] at this; exact this
      by_cases ek : k = j
      . subst ek; rw [pP hj] at hk; cases hk; simp only [if_true]
        have hv : vals k = ρ n := by
          generalize vals k = u at hjx
          generalize ows k = oo at hjx
          cases hjx with
          | leaf _ _ h => cases h; rfl
        rw [hv]; exact h2
      rw [nW ek] at hk; simp only [if_neg ek]
      exact hx k x hk
    . refine C7.2 ⟨fun hb' => ?_, ?_⟩
      . rcases hin2 b hb' with h3 | h3
        . exact hn1 h3
        exact hdis b A3 h3
      rw [aV]
      refine ⟨fun k hk => ?_, fun k l hk hl hne b' hb1 hb2 => ?_⟩
      . split
        . exact hnd2
        exact (aV.1 hn2).1 k hk
      split at hb1
      . rename_i e1
        rw [if_neg (fun e2 => hne (e1.trans e2.symm))] at hb2
        exact hd b' (mFl.2 ⟨l, hl, hb2⟩) hb1
      split at hb2
      . exact hd b' (mFl.2 ⟨k, hk, hb1⟩) hb2
      exact (aV.1 hn2).2 k l hk hl hne b' hb1 hb2
    intro b' hb'
    rcases A8.1 hb' with e1 | e1
    . exact .inl (by rw [e1]; exact A3)
    rcases hin2 b' e1 with h3 | h3
    . exact .inl (A4 _ h3)
    exact .inr h3
section
variable {P : Program} {ro : Option Nat} {N n0 : Nat} {Q : AQ} {E : Env} {H : Heap} {nx : Nat}
def aZn (xs' : List AV) (hn : nx < 1000) (hi : get H i = some (.row e sz xs)) (hys : aI (UU nx) xs -> aI (UU nx) ys) (hxs' : aI (UU nx) xs -> aI (UU (nx + 1)) xs')
    (hsp : ∀ {ρ : Nat -> Value} {av : Nat -> Prop} {hp : Array Obj} {v : Value} {ow : List Nat}, RepO ρ av hp (.own e sz xs) v ow -> ow.Nodup -> aI (UU nx) xs ->
      ∃ u ow1 ow2, RepO ρ av hp (.own e' sz' ys) u ow2 /\ u.oneCell' = true /\ ow1.Nodup /\ ow2.Nodup /\ (∀ b, b ∈ ow1 -> b ∈ ow) /\ (∀ b, b ∈ ow2 -> b ∈ ow) /\ (∀ b, b ∈ ow1 -> b ∉ ow2) /\
        ∀ (ρ' : Nat -> Value), (∀ i, UU nx i -> ρ' i = ρ i) -> ρ' nx = u -> RepO ρ' av hp (.own e sz xs') v ow1)
    (h : AWP P ro N n0 c Q E (put (put H i (.row e sz xs')) nx (.row e' sz' ys)) (nx + 1)) : AWP P ro N n0 c Q E H nx := by
  intro C a w Qc hn0 hR hK
  obtain ⟨h1, hnd⟩ := hR.obj i _ hi
  obtain ⟨hUi, hbx⟩ := hR.objb i _ hi
  have hbx : aI (UU nx) xs := hbx
  have hnU : ¬ UU nx nx := bPq hn
  have hine : i ≠ nx := fun e => hnU (e ▸ hUi)
  obtain ⟨u, ow1, ow2, k1, k2, k3, k4, k5, k6, k7, k8⟩ := hsp h1 hnd hbx
  obtain ⟨C', hC'⟩ : ∃ C' : Conc, C' = { C with ρ := upd C.ρ nx u, one := aJb C.one k2, own := upd (upd C.own i ow1) nx ow2 } := ⟨_, rfl⟩
  have hρ : ∀ k, UU nx k -> C'.ρ k = C.ρ k := fun k hk => by rw [hC']; exact bT _ _ (fun e => hnU (e ▸ hk))
  have hρn : C'.ρ nx = u := by rw [hC']; exact cY _ _ _
  have hoi : C'.own i = ow1 := by rw [hC']; show upd (upd C.own i ow1) nx ow2 i = _; rw [bT _ _ hine, cY]
  have hon : C'.own nx = ow2 := by rw [hC']; exact cY _ _ _
  have hoo : ∀ k, k ≠ i -> k ≠ nx -> C'.own k = C.own k := fun k h2 h3 => by rw [hC']; show upd (upd C.own i ow1) nx ow2 k = _; rw [bT _ _ h3, bT _ _ h2]
  have hX : C'.X = C.X := by rw [hC']
  have hB : C'.B = C.B := by rw [hC']
  generalize hH' : put (put H i (.row e sz xs')) nx (.row e' sz' ys) = H' at h
  have hget : ∀ k ob, get H' k = some ob -> (k = nx /\ ob = .row e' sz' ys) ∨ (k = i /\ ob = .row e sz xs') ∨ (k ≠ i /\ k ≠ nx /\ get H k = some ob) := fun k ob hk => by
    rw [<- hH', dU] at hk; split at hk
    . rename_i e1; exact .inl ⟨e1.symm, (Option.some.inj hk).symm⟩
    rename_i e1
    rw [dU] at hk; split at hk
    . rename_i e2; exact .inr (.inl ⟨e2.symm, (Option.some.inj hk).symm⟩)
    rename_i e2; exact .inr (.inr ⟨fun e => e2 e.symm, fun e => e1 e.symm, hk⟩)
  have hWs : ∀ k ob b, get H' k = some ob -> b ∈ C'.own k -> C.W H b := fun k ob b hk hb => by
    rcases hget k ob hk with ⟨rfl, _⟩ | ⟨rfl, _⟩ | ⟨h2, h3, h4⟩
    . rw [hon] at hb; exact ⟨i, _, hi, k6 b hb⟩
    . rw [hoi] at hb; exact ⟨k, _, hi, k5 b hb⟩
    rw [hoo k h2 h3] at hb; exact ⟨k, _, h4, hb⟩
  have hav : ∀ b, C'.avoid H' b -> C.avoid H b := fun b hb => by
    rcases hb with hb | ⟨k, ob, hk, hb⟩
    . exact .inl (by rw [<- hX]; exact hb)
    exact .inr (hWs k ob b hk hb)
  have hRH : RelH C' H' (UU (nx + 1)) w :=
    { obj := fun k ob hk => by
        rcases hget k ob hk with ⟨rfl, rfl⟩ | ⟨rfl, rfl⟩ | ⟨h2, h3, h4⟩
        . rw [hon, hρn]
          have hby : aI (UU k) ys := hys hbx
          exact ⟨((k1.named hρ hby).mono' (fun b _ hb => hav b hb) (fun _ _ _ _ _ _ => rfl) (fun _ _ => rfl)), k4⟩
        . rw [hoi, hρ k hUi]
          exact ⟨(k8 C'.ρ hρ hρn).mono' (fun b _ hb => hav b hb) (fun _ _ _ _ _ _ => rfl) (fun _ _ => rfl), k3⟩
        rw [hoo k h2 h3, hρ k (hR.objb k ob h4).1]
        exact ((hR.obj k ob h4).named hρ (hR.objb k ob h4).2).mono (fun b _ hb => hav b hb) (fun _ _ _ => rfl) (fun _ _ => rfl)
      apart := fun k l ok ol b hne hk hl hbk hbl => by
        rcases hget k ok hk with ⟨rfl, rfl⟩ | ⟨rfl, rfl⟩ | ⟨h2, h3, h4⟩
        . rw [hon] at hbk
          rcases hget l ol hl with ⟨rfl, rfl⟩ | ⟨rfl, rfl⟩ | ⟨m2, m3, m4⟩
          . exact hne rfl
          . rw [hoi] at hbl; exact k7 b hbl hbk
          rw [hoo l m2 m3] at hbl; exact hR.apart i l _ _ b (fun e => m2 e.symm) hi m4 (k6 b hbk) hbl
        . rw [hoi] at hbk
          rcases hget l ol hl with ⟨rfl, rfl⟩ | ⟨rfl, rfl⟩ | ⟨m2, m3, m4⟩
          . rw [hon] at hbl; exact k7 b hbk hbl
          . exact hne rfl
          rw [hoo l m2 m3] at hbl; exact hR.apart k l _ _ b (fun e => m2 e.symm) hi m4 (k5 b hbk) hbl
        rw [hoo k h2 h3] at hbk
        rcases hget l ol hl with ⟨rfl, rfl⟩ | ⟨rfl, rfl⟩ | ⟨m2, m3, m4⟩
        . rw [hon] at hbl; exact hR.apart k i _ _ b h2 h4 hi hbk (k6 b hbl)
        . rw [hoi] at hbl; exact hR.apart k l _ _ b h2 h4 hi hbk (k5 b hbl)
        rw [hoo l m2 m3] at hbl; exact hR.apart k l _ _ b hne h4 m4 hbk hbl
      xapart := fun k ob b hk hb hx => by
        rw [hX] at hx
        obtain ⟨l, ol, hl, hbl⟩ := hWs k ob b hk hb
        exact hR.xapart l ol b hl hbl hx
      xlt := fun b hb => hR.xlt b (by rw [<- hX]; exact hb)
      gl := hR.toRelH.glK (fun b _ hb => hav b hb) (fun _ _ _ _ _ _ => rfl)
      objb := fun k ob hk => by
        rcases hget k ob hk with ⟨rfl, rfl⟩ | ⟨rfl, rfl⟩ | ⟨h2, h3, h4⟩
        . refine ⟨.inl og, ?_⟩
          exact eU (eD (Nat.le_succ _)) ys (hys hbx)
        . refine ⟨eD (Nat.le_succ _) _ hUi, ?_⟩
          show aI (UU (nx + 1)) _
          exact hxs' hbx
        exact ⟨eD (Nat.le_succ _) _ (hR.objb k ob h4).1, AObj.bel_mono (eD (Nat.le_succ _)) _ (hR.objb k ob h4).2⟩ }
  have hs : StepR C H (UU nx) w C' H' w :=
    ⟨rfl, rfl, rfl, A0 _, fun _ _ _ => rfl, fun b ⟨k, ob, hk, hb⟩ => .inl (hWs k ob b hk hb), hX, hB, hρ⟩
  have hR' := hR.change hs (eD (Nat.le_succ _)) hRH
  exact h C' a w Qc og hR' fun e1 E1 H1 nx1 C1 a1 w1 hn1 hR1 hs1 hQ => hK e1 E1 H1 nx1 C1 a1 w1 hn1 hR1 ((hs.fewerNames (eD hn0)).trans (fun _ h => h) hs1) hQ
def bAr (hn : nx < 1000) (hi : get H i = some (.row e sz xs)) (hj : xs[j]? = some (.own e' sz' ys))
    (h : AWP P ro N n0 c Q E (put (put H i (.row e sz (xs.set j (.ref nx)))) nx (.row e' sz' ys)) (nx + 1)) : AWP P ro N n0 c Q E H nx := by
  refine aZn _ hn hi (fun hb => bG hb hj) (fun hb => aWc (x := .ref nx) (eD (Nat.le_succ _)) hb (show UU (nx + 1) nx from .inl (Nat.lt_succ_self _))) (fun h1 hnd hb => ?_) h
  obtain ⟨u, ow1, ow2, k1, k2, k3, k4, k5, k6, k7, k8⟩ := h1.split1 hnd hb hj
  exact ⟨u, ow1, ow2, k1, k2, k3, k4, k5, k6, k7, fun ρ' => k8 ρ' nx⟩
def bEw {C : Conc} {a : Act} {w : World} (xs' : List AV) (hne : i ≠ n) (hi : get H i = some (.row e sz xs)) (hni : get H n = some (.row e' sz' ys)) (hxs' : aI (UU nx) xs -> aI (UU nx) ys -> aI (UU nx) xs')
    (hjn : ∀ {ρ : Nat -> Value} {av : Nat -> Prop} {hp : Array Obj} {v : Value} {ow ow2 : List Nat}, RepO ρ av hp (.own e sz xs) v ow -> ow.Nodup -> RepO ρ av hp (.own e' sz' ys) (ρ n) ow2 -> ow2.Nodup -> (∀ b, b ∈ ow -> b ∉ ow2) ->
      ∃ ow1, RepO ρ av hp (.own e sz xs') v ow1 /\ ow1.Nodup /\ (∀ b, b ∈ ow1 -> b ∈ ow ∨ b ∈ ow2))
    (hR : Rel C N E H (UU nx) a w) : ∃ C', Rel C' N E (put (put H i (.row e sz xs')) n .dead) (UU nx) a w /\ StepR C H (UU nx) w C' (put (put H i (.row e sz xs')) n .dead) w := by
  obtain ⟨h1, hnd⟩ := hR.obj i _ hi
  obtain ⟨g1, gnd⟩ := hR.obj n _ hni
  obtain ⟨hUi, hbx⟩ := hR.objb i _ hi
  obtain ⟨hUn, hby⟩ := hR.objb n _ hni
  have hbx : aI (UU nx) xs := hbx
  have hby : aI (UU nx) ys := hby
  obtain ⟨ow1, k1, k2, k3⟩ := hjn h1 hnd g1 gnd (fun b hb hb' => hR.apart i n _ _ b hne hi hni hb hb')
  obtain ⟨C', hC'⟩ : ∃ C' : Conc, C' = { C with own := upd (upd C.own i ow1) n [] } := ⟨_, rfl⟩
  have hρ : C'.ρ = C.ρ := by rw [hC']
  have hoi : C'.own i = ow1 := by rw [hC']; show upd (upd C.own i ow1) n [] i = _; rw [bT _ _ hne, cY]
  have hon : C'.own n = [] := by rw [hC']; exact cY _ _ _
  have hoo : ∀ k, k ≠ i -> k ≠ n -> C'.own k = C.own k := fun k h2 h3 => by rw [hC']; show upd (upd C.own i ow1) n [] k = _; rw [bT _ _ h3, bT _ _ h2]
  have hX : C'.X = C.X := by rw [hC']
  have hB : C'.B = C.B := by rw [hC']
  generalize hH' : put (put H i (.row e sz xs')) n .dead = H'
  have hget : ∀ k ob, get H' k = some ob -> (k = n /\ ob = .dead) ∨ (k = i /\ ob = .row e sz xs') ∨ (k ≠ i /\ k ≠ n /\ get H k = some ob) := fun k ob hk => by
    rw [<- hH', dU] at hk; split at hk
    . rename_i e1; exact .inl ⟨e1.symm, (Option.some.inj hk).symm⟩
    rename_i e1
    rw [dU] at hk; split at hk
    . rename_i e2; exact .inr (.inl ⟨e2.symm, (Option.some.inj hk).symm⟩)
    rename_i e2; exact .inr (.inr ⟨fun e => e2 e.symm, fun e => e1 e.symm, hk⟩)
  have hWs : ∀ k ob b, get H' k = some ob -> b ∈ C'.own k -> C.W H b := fun k ob b hk hb => by
    rcases hget k ob hk with ⟨rfl, _⟩ | ⟨rfl, _⟩ | ⟨h2, h3, h4⟩
    . rw [hon] at hb; cases hb
    . rw [hoi] at hb
      rcases k3 b hb with h5 | h5
      . exact ⟨k, _, hi, h5⟩
      exact ⟨n, _, hni, h5⟩
    rw [hoo k h2 h3] at hb; exact ⟨k, _, h4, hb⟩
  have hav : ∀ b, C'.avoid H' b -> C.avoid H b := fun b hb => by
    rcases hb with hb | ⟨k, ob, hk, hb⟩
    . exact .inl (by rw [<- hX]; exact hb)
    exact .inr (hWs k ob b hk hb)
  have hap : ∀ l ol b, l ≠ i -> l ≠ n -> get H l = some ol -> b ∈ C.own l -> b ∈ ow1 -> False := fun l ol b h2 h3 hl hbl hb1 => by
    rcases k3 b hb1 with h5 | h5
    . exact hR.apart l i _ _ b h2 hl hi hbl h5
    exact hR.apart l n _ _ b h3 hl hni hbl h5
  have hRH : RelH C' H' (UU nx) w :=
    { obj := fun k ob hk => by
        rw [hρ]
        rcases hget k ob hk with ⟨rfl, rfl⟩ | ⟨rfl, rfl⟩ | ⟨h2, h3, h4⟩
        . exact hon
        . rw [hoi]
          exact ⟨k1.mono' (fun b _ hb => hav b hb) (fun _ _ _ _ _ _ => rfl) (fun _ _ => rfl), k2⟩
        rw [hoo k h2 h3]
        exact (hR.obj k ob h4).mono (fun b _ hb => hav b hb) (fun _ _ _ => rfl) (fun _ _ => rfl)
      apart := fun k l ok ol b hne' hk hl hbk hbl => by
        rcases hget k ok hk with ⟨rfl, rfl⟩ | ⟨rfl, rfl⟩ | ⟨h2, h3, h4⟩
        . rw [hon] at hbk; cases hbk
        . rw [hoi] at hbk
          rcases hget l ol hl with ⟨rfl, rfl⟩ | ⟨rfl, rfl⟩ | ⟨m2, m3, m4⟩
          . rw [hon] at hbl; cases hbl
          . exact hne' rfl
          rw [hoo l m2 m3] at hbl; exact hap l ol b m2 m3 m4 hbl hbk
        rw [hoo k h2 h3] at hbk
        rcases hget l ol hl with ⟨rfl, rfl⟩ | ⟨rfl, rfl⟩ | ⟨m2, m3, m4⟩
        . rw [hon] at hbl; cases hbl
        . rw [hoi] at hbl; exact hap k ok b h2 h3 h4 hbk hbl
        rw [hoo l m2 m3] at hbl; exact hR.apart k l _ _ b hne' h4 m4 hbk hbl
      xapart := fun k ob b hk hb hx => by
        rw [hX] at hx
        obtain ⟨l, ol, hl, hbl⟩ := hWs k ob b hk hb
        exact hR.xapart l ol b hl hbl hx
      xlt := fun b hb => hR.xlt b (by rw [<- hX]; exact hb)
      gl := hR.toRelH.glK (fun b _ hb => hav b hb) (fun _ _ _ _ _ _ => rfl)
      objb := fun k ob hk => by
        rcases hget k ob hk with ⟨rfl, rfl⟩ | ⟨rfl, rfl⟩ | ⟨h2, h3, h4⟩
        . exact ⟨hUn, trivial⟩
        . refine ⟨hUi, ?_⟩
          show aI (UU nx) _
          exact hxs' hbx hby
        exact hR.objb k ob h4 }
  have hs : StepR C H (UU nx) w C' H' w :=
    ⟨rfl, rfl, rfl, A0 _, fun _ _ _ => rfl, fun b ⟨k, ob, hk, hb⟩ => .inl (hWs k ob b hk hb), hX, hB, fun k _ => by rw [hρ]⟩
  have hR' := hR.change hs (fun _ h => h) hRH
  exact ⟨C', hR', hs⟩
def bFa (xs' : List AV) (hne : i ≠ n) (hi : get H i = some (.row e sz xs)) (hni : get H n = some (.row e' sz' ys)) (hxs' : aI (UU nx) xs -> aI (UU nx) ys -> aI (UU nx) xs')
    (hjn : ∀ {ρ : Nat -> Value} {av : Nat -> Prop} {hp : Array Obj} {v : Value} {ow ow2 : List Nat}, RepO ρ av hp (.own e sz xs) v ow -> ow.Nodup -> RepO ρ av hp (.own e' sz' ys) (ρ n) ow2 -> ow2.Nodup -> (∀ b, b ∈ ow -> b ∉ ow2) ->
      ∃ ow1, RepO ρ av hp (.own e sz xs') v ow1 /\ ow1.Nodup /\ (∀ b, b ∈ ow1 -> b ∈ ow ∨ b ∈ ow2))
    (h : AWP P ro N n0 c Q E (put (put H i (.row e sz xs')) n .dead) nx) : AWP P ro N n0 c Q E H nx := by
  intro C a w Qc hn0 hR hK
  obtain ⟨C', hR', hs⟩ := bEw xs' hne hi hni hxs' hjn hR
  exact h C' a w Qc hn0 hR' fun e1 E1 H1 nx1 C1 a1 w1 hn1 hR1 hs1 hQ => hK e1 E1 H1 nx1 C1 a1 w1 hn1 hR1 ((hs.fewerNames (eD hn0)).trans (fun _ h => h) hs1) hQ
def aAv {o : Oper} {b0 : Nat} {ds : List (Option Tmp)} {t s e : TypeId} {x : Operand} {n : Int} (hg : o.guard = none) (ho : o.op = .convert t s x) (hN : oD o N) (hs : P.underlying t = some (.slice e)) (he : P.underlying e = some (.int .u8)) (hd : P.underlying s = some .string)
    (hx : opv E x = some (.ref i)) (hH : get H i = some (.row e 1 [.raw (.int .u8 n)])) :
    aY P ro N ds o b0 E H (aF [x]) [i] (.raw (.string (ByteArray.empty.push (UInt8.ofNat n.toNat)))) [] nx 0 := by
  refine lsO hg fun E' H' U hE hH' _ => ?_
  rw [aU0]
  have hops := oCg hE
  refine aT (by simp [ho, Op.noDefer]) hN fun C a w hR => ?_
  obtain ⟨h1, _⟩ := hR.opv (x := x) (r := .ref i) (by rw [hops x oS]; exact hx)
  have hev : a.eval x = C.ρ i := by generalize a.eval x = v at h1; cases h1; rfl
  obtain ⟨h2, _⟩ := hR.obj i _ ((hH' i oS).trans hH)
  refine ⟨trivial, _, ?_, .raw _⟩
  generalize C.ρ i = v at h2 hev
  generalize C.own i = oo at h2
  cases h2 with
  | leaf _ _ h => cases h
  | own _ _ _ b c cells vals ows hh hsz hc hm hxx hcells =>
    have hv0 : vals 0 = .int .u8 n := by
      have := hxx 0 _ rfl
      generalize vals 0 = u at this
      generalize ows 0 = oo at this
      cases this with
      | leaf _ _ h => cases h; rfl
    obtain ⟨q1, q2⟩ := hcells 0 oS
    have hc0 : cells[0]? = some (.int .u8 n) := by
      have := q2 0 og
      rw [hv0] at this
      simpa [Value.cells] using this
    have hl := run_loadCells_list (P := P) w ⟨b, 0, none⟩ ([n].map (Value.int .u8)) (fun j v hj => by
      cases j with
      | zero => simp at hj; subst hj; simp [World.cell?, Addr.add, hh, hc0]
      | succ j => simp at hj)
    have hb := run_bytesToString (P := P) w ⟨b, 0, none⟩ 1 c [n] hl
    simp [execOp, ho, hev, run_convert_bytes_string w t s e (some ⟨b, 0, none⟩) 1 c hs he hd, hb]
def bEk (hne : i ≠ n) (hi : get H i = some (.row e sz xs)) (hni : get H n = some (.row e' sz' ys)) (hj : xs[j]? = some (.ref n))
    (h : AWP P ro N n0 c Q E (put (put H i (.row e sz (xs.set j (.own e' sz' ys)))) n .dead) nx) : AWP P ro N n0 c Q E H nx :=
  bFa _ hne hi hni (fun hb hby => aWc (x := .own e' sz' ys) (fun _ h => h) hb hby) (fun h1 hnd g1 gnd hd => h1.join1 hnd g1 gnd hd hj) h
end
end
section
variable [Globals]
variable {c : Call} {f : Nat} {code : Code} {args xs : List AV} {r0 : AV}
section
variable {P : Program} {ro : Option Nat} {N : Nat} {o : Oper} {E : Env} {H : Heap} {nx b0 : Nat} {ds : List (Option Tmp)}
def aPq {fn : Func} (bw : List Nat) (hg : o.guard = none) (ho : o.op = .call c) (hc : c.callee = .value (.func f)) (hT : FnT P f fn code)
    (hN : oD o N) (hM : aK P f args [] 0 r0) (hxs : c.args.toList.map (opv E) = xs.map some) (hargs : xs.map (aIm (get H) bw) = args) (hab : aI (UU 0) args) (hfr : r0.noFz = true) :
    aY P ro N ds o b0 E H (aF c.args.toList) bw r0 [] nx 0 := by
  have := aMo (P := P) (ro := ro) (N := N) (o := o) (E := E) (H := H) (nx := nx) (b0 := b0) (ds := ds) (s := []) (nd := []) (H1 := []) (m0 := 0) (n1 := 0) bw 0 hg ho hc hT hN hM rfl hxs (by rw [hargs]; exact (qC args).symm) hab (aCt oS og) (fun i hi p hp => by cases hp) hfr (fun p hp => by cases hp)
  rw [jN, AV.ren_nil] at this; exact this
def bLn {fn : Func} {H1 : Heap} {nw : Nat} (bw : List Nat) (hg : o.guard = none) (ho : o.op = .call c) (hc : c.callee = .value (.func f)) (hT : FnT P f fn code)
    (hN : oD o N) (hM : aO P f args [] 0 r0 H1 nw) (hk : ∀ i ∈ H1.map (·.1), i < nw) (hw : nw <= 1000) (hxs : c.args.toList.map (opv E) = xs.map some) (hargs : xs.map (aIm (get H) bw) = args) (hab : aI (UU 0) args) (hfr : r0.noFz = true) (hfo : ∀ p ∈ H1, p.2.noFz = true) :
    aY P ro N ds o b0 E H (aF c.args.toList) bw (r0.ren (shift id 0 nx nw)) (H1.map fun p => (shift id 0 nx nw p.1, p.2.ren (shift id 0 nx nw))) nx nw := by
  have := aMo (P := P) (ro := ro) (N := N) (o := o) (E := E) (H := H) (nx := nx) (b0 := b0) (ds := ds) (s := []) (nd := []) (H1 := H1) (m0 := 0) (n1 := nw) bw nw hg ho hc hT hN hM (C3 _).symm hxs (by rw [hargs]; exact (qC args).symm) hab (aCt hk hw) (fun i hi p hp => by cases hp) hfr hfo
  exact this
end
end
section
variable [Globals]
variable {e sz : Nat} {xs : List AV}
mutual
def AV.sub (i : Nat) (y : AV) : AV -> AV
  | .ref j => if j = i then y else .ref j
  | .agg cs => .agg (aLy i y cs)
  | .tup cs => .tup (aLy i y cs)
  | .iface t x => .iface t (AV.sub i y x)
  | .any => .any
  | .raw v => .raw v
  | .sl sz xs => .sl sz xs
  | .fp sz xs j off => .fp sz xs j off
  | .ptr j off => .ptr j off
  | .ep j sz k off => .ep j sz k off
  | .fn f a b => .fn f a b
  | .when c x => .when c x
  | .own e sz xs => .own e sz xs
def aLy (i : Nat) (y : AV) : List AV -> List AV
  | [] => []
  | x :: xs => AV.sub i y x :: aLy i y xs
end
def AObj.sub (i : Nat) (y : AV) : AObj -> AObj
  | .cells t cs => .cells t (aLy i y cs)
  | o => o
def aYt (i : Nat) (y : AV) : Env -> Env
  | [] => []
  | (t, x) :: r => (t, AV.sub i y x) :: aYt i y r
def xA (i : Nat) (y : AV) : Heap -> Heap
  | [] => []
  | (j, o) :: r => (j, if j = i then .dead else o.sub i y) :: xA i y r
def aMf (i : Nat) (y : AV) : ∀ (xs : List AV) (j : Nat), (aLy i y xs)[j]? = (xs[j]?).map (AV.sub i y)
  | [], j => rfl
  | x :: xs, 0 => rfl
  | x :: xs, j + 1 => by simpa [aLy] using aMf i y xs j
def sS (i : Nat) (y : AV) : ∀ xs : List AV, (aLy i y xs).length = xs.length
  | [] => rfl
  | x :: xs => by simp [aLy, sS i y xs]
def aVe (i : Nat) (y : AV) (t : Nat) : ∀ E : Env, get (aYt i y E) t = (get E t).map (AV.sub i y)
  | [] => rfl
  | (k, x) :: r => by
    simp only [aYt, get]; split
    . rfl
    exact aVe i y t r
def uC (i : Nat) (y : AV) (t : Nat) : ∀ H : Heap, get (xA i y H) t = (get H t).map fun o => if t = i then .dead else o.sub i y
  | [] => rfl
  | (k, x) :: r => by
    simp only [xA, get]; split
    . rename_i h; subst h; rfl
    exact uC i y t r
mutual
theorem AV.fz_bel {U : Nat -> Prop} : ∀ {x : AV}, x.bel U -> x.fz.bel U
  | .any, _ => trivial
  | .raw _, _ => trivial
  | .agg cs, h => by rw [AV.fz]; exact pU (xs := cs) h
  | .tup cs, h => by rw [AV.fz]; exact pU (xs := cs) h
  | .sl _ xs, h => by rw [AV.fz]; exact pU (xs := xs) h
  | .fp _ xs _ _, h => by rw [AV.fz]; exact pU (xs := xs) h
  | .ptr _ _, h => h
  | .ep _ _ _ _, h => h
  | .ref _, h => h
  | .iface _ x, h => by rw [AV.fz]; exact AV.fz_bel (x := x) h
  | .fn _ a b, h => by rw [AV.fz]; exact ⟨pU (xs := a) h.1, pU (xs := b) h.2⟩
  | .when _ x, h => by rw [AV.fz]; exact AV.fz_bel (x := x) h
  | .own _ _ xs, h => by rw [AV.fz]; exact pU (xs := xs) h
theorem pU {U : Nat -> Prop} : ∀ {xs : List AV}, aI U xs -> aI U (fzL xs)
  | [], _ => trivial
  | x :: xs, h => ⟨AV.fz_bel h.1, pU h.2⟩
end
mutual
theorem AV.sub_bel {U : Nat -> Prop} {i : Nat} {y : AV} (hy : y.bel U) : ∀ {x : AV}, x.bel U -> (AV.sub i y x).bel U
  | .ref j, h => by
    rw [AV.sub]; split
    . exact hy
    exact h
  | .agg cs, h => by rw [AV.sub]; exact aDm hy (xs := cs) h
  | .tup cs, h => by rw [AV.sub]; exact aDm hy (xs := cs) h
  | .iface _ x, h => by rw [AV.sub]; exact AV.sub_bel hy (x := x) h
  | .any, h => h
  | .raw _, h => h
  | .sl _ _, h => h
  | .fp _ _ _ _, h => h
  | .ptr _ _, h => h
  | .ep _ _ _ _, h => h
  | .fn _ _ _, h => h
  | .when _ _, h => h
  | .own _ _ _, h => h
theorem aDm {U : Nat -> Prop} {i : Nat} {y : AV} (hy : y.bel U) : ∀ {xs : List AV}, aI U xs -> aI U (aLy i y xs)
  | [], _ => trivial
  | x :: xs, h => ⟨AV.sub_bel hy h.1, aDm hy h.2⟩
end
def Rep.sub {ρ : Nat -> Value} {av : Nat -> Prop} {hp : Array Obj} {i : Nat} {y : AV} (hy : Rep ρ av hp y (ρ i)) {x : AV} {v : Value} (h : Rep ρ av hp x v) : Rep ρ av hp (AV.sub i y x) v := by
  have aux : ∀ {xs : List AV} {g : Nat -> Value}, (∀ (j : Nat) (z : AV), xs[j]? = some z -> Rep ρ av hp (AV.sub i y z) (g j)) -> ∀ (j : Nat) (z : AV), (aLy i y xs)[j]? = some z -> Rep ρ av hp z (g j) := fun hh j z hz => by
    rw [aMf] at hz
    obtain ⟨u, hu, rfl⟩ := B3.1 hz
    exact hh j u hu
  induction h with
  | agg cs vs hn _ ih => exact .agg _ vs (by rw [sS]; exact hn) (aux (g := fun j => vs.getD j undef) ih)
  | tup cs vs hn _ ih => exact .tup _ vs (by rw [sS]; exact hn) (aux (g := fun j => vs.getD j undef) ih)
  | ref j =>
    rw [AV.sub]; split
    . rename_i e; subst e; exact hy
    exact .ref j
  | iface t x v _ ih => exact .iface t _ v ih
  | any v => exact .any v
  | raw v => exact .raw v
  | sl0 sz A c hc => exact .sl0 sz A c hc
  | sl sz xs b off c cells t fr vals h0 hc hm hb hh h hcells _ => exact .sl sz xs b off c cells t fr vals h0 hc hm hb hh h hcells
  | fp sz xs j d b off cells t fr vals hb hh h hcells _ => exact .fp sz xs j d b off cells t fr vals hb hh h hcells
  | ptr i off b h => exact .ptr _ off b h
  | ep i sz j off b h => exact .ep _ sz j off b h
  | fn f first cap vs us hn h hn' h' _ _ => exact .fn f _ _ vs us hn h hn' h'
  | when c x v h h' _ => exact .when c x v h h'
section
variable {P : Program} {ro : Option Nat} {N n0 : Nat} {Q : AQ} {E : Env} {H : Heap} {nx : Nat}
def Rel.freeze {C : Conc} {U : Nat -> Prop} {a : Act} {w : World} (hR : Rel C N E H U a w) (i : Nat) (hi : get H i = some (.row e sz xs)) :
    ∃ C', Rel C' N (aYt i (.sl sz (fzL xs)) E) (xA i (.sl sz (fzL xs)) H) U a w /\ ∀ {V : Nat -> Prop} {C1 : Conc} {H1 : Heap} {w1 : World}, StepR C' (xA i (.sl sz (fzL xs)) H) V w C1 H1 w1 -> StepR C H V w C1 H1 w1 := by
  let y : AV := .sl sz (fzL xs)
  let C' : Conc := { C with own := fun j => if j = i then [] else C.own j }
  have hW : ∀ b, C'.W (xA i y H) b -> ∃ j o, j ≠ i /\ get H j = some o /\ b ∈ C.own j := by
    rintro b ⟨j, o, hj, hb⟩
    have hb' : b ∈ (if j = i then [] else C.own j) := hb
    by_cases hji : j = i
    . rw [if_pos hji] at hb'; cases hb'
    rw [if_neg hji] at hb'
    rw [uC] at hj
    obtain ⟨o', ho', _⟩ := B3.1 hj
    exact ⟨j, o', hji, ho', hb'⟩
  have hWW : ∀ b, C'.W (xA i y H) b -> C.W H b := fun b hb => by
    obtain ⟨j, o, _, h1, h2⟩ := hW b hb
    exact ⟨j, o, h1, h2⟩
  have hav : ∀ b, C'.avoid (xA i y H) b -> C.avoid H b := fun b hb => hb.imp id (hWW b)
  have hbel := (hR.objb i _ hi).2
  have hyb : y.bel U := pU (xs := xs) hbel
  have hy : Rep C.ρ (C'.avoid (xA i y H)) w.heap y (C.ρ i) := by
    obtain ⟨h1, _⟩ := hR.obj i _ hi
    have h2 : RepO C.ρ (C'.avoid (xA i y H)) w.heap (.own e sz xs) (C.ρ i) (C.own i) := h1.mono' (fun b _ hb => hav b hb) (fun _ _ _ _ _ _ => rfl) (fun _ _ => rfl)
    refine h2.fz fun b hb hb' => ?_
    rcases hb' with hb' | hb'
    . exact hR.xapart i _ b hi hb hb'
    obtain ⟨j, o, hji, hj, hbj⟩ := hW b hb'
    exact hR.apart i j _ _ b (fun q => hji q.symm) hi hj hb hbj
  have hsub : ∀ {x : AV} {v : Value}, Rep C.ρ (C.avoid H) w.heap x v -> Rep C.ρ (C'.avoid (xA i y H)) w.heap (AV.sub i y x) v := fun hx => Rep.sub hy (hx.mono (fun b _ hb => hav b hb) (fun _ _ _ => rfl))
  have hRH : RelH C' (xA i y H) U w := by
    refine { obj := fun j o hj => ?_, apart := fun j k oj ok b hjk hj hk hbj hbk => ?_, xapart := fun j o b hj hb => ?_, xlt := hR.xlt, objb := fun j o hj => ?_, gl := hR.toRelH.glK (fun b _ hb => hav b hb) (fun _ _ _ _ _ _ => rfl) }
    . rw [uC] at hj
      obtain ⟨o', ho', rfl⟩ := B3.1 hj
      by_cases hji : j = i
      . rw [if_pos hji]
        show (if j = i then [] else C.own j) = []
        rw [if_pos hji]
      rw [if_neg hji]
      have hown : C'.own j = C.own j := if_neg hji
      rw [hown]
      have h1 := (hR.obj j o' ho').mono' (av' := C'.avoid (xA i y H)) (hp' := w.heap) (fun b _ hb => hav b hb) (fun _ _ _ _ _ _ => rfl) (fun _ _ => rfl)
      cases o' with
      | cells t cs =>
        obtain ⟨b, vs, e1, e2, e3, e4⟩ := h1
        refine ⟨b, vs, e1, e2, e3, by rw [sS]; exact e4.1, fun k x hk => ?_⟩
        rw [aMf] at hk
        obtain ⟨u, hu, rfl⟩ := B3.1 hk
        exact Rep.sub hy (e4.2 k u hu)
      | _ => exact h1
    . obtain ⟨j', oj', _, h1, h2⟩ := hW b ⟨j, oj, hj, hbj⟩
      have e1 : ∀ l ol, get (xA i y H) l = some ol -> b ∈ C'.own l -> ∃ o, get H l = some o /\ b ∈ C.own l := fun l ol hl hbl => by
        have hb' : b ∈ (if l = i then [] else C.own l) := hbl
        by_cases hli : l = i
        . rw [if_pos hli] at hb'; cases hb'
        rw [if_neg hli] at hb'
        rw [uC] at hl
        obtain ⟨o', ho', _⟩ := B3.1 hl
        exact ⟨o', ho', hb'⟩
      obtain ⟨o1, p1, p2⟩ := e1 j oj hj hbj
      obtain ⟨o2, p3, p4⟩ := e1 k ok hk hbk
      exact hR.apart j k _ _ b hjk p1 p3 p2 p4
    . have hb' : b ∈ (if j = i then [] else C.own j) := hb
      by_cases hji : j = i
      . rw [if_pos hji] at hb'; cases hb'
      rw [if_neg hji] at hb'
      rw [uC] at hj
      obtain ⟨o', ho', _⟩ := B3.1 hj
      exact hR.xapart j o' b ho' hb'
    rw [uC] at hj
    obtain ⟨o', ho', rfl⟩ := B3.1 hj
    obtain ⟨h1, h2⟩ := hR.objb j o' ho'
    refine ⟨h1, ?_⟩
    split
    . trivial
    cases o' with
    | cells t cs => exact aDm hyb (xs := cs) h2
    | _ => exact h2
  have hRel : Rel C' N (aYt i y E) (xA i y H) U a w :=
    { toRelH := hRH, size := hR.size, hB := hR.hB, nodup := hR.nodup
      marks := fun d hd => by
        obtain ⟨r, h1, h2, h3, h4⟩ := hR.marks d hd
        exact ⟨r, h1, h2, h3, fun q => h4 (hav r q)⟩
      env := fun t x ht => by
        rw [aVe] at ht
        obtain ⟨u, hu, rfl⟩ := B3.1 ht
        obtain ⟨h1, h2, h3⟩ := hR.env t u hu
        exact ⟨h1, AV.sub_bel hyb h2, hsub h3⟩ }
  refine ⟨C', hRel, fun hs => ?_⟩
  exact { os := hs.os, tape := hs.tape, output := hs.output, size := hs.size, keep := fun k hk hkW => hs.keep k hk (fun q => hkW (hWW k q))
          wr := fun b hb => (hs.wr b hb).imp (hWW b) id
          X := hs.X, B := hs.B, ρ := hs.ρ }
def aFz {c : Code} (i : Nat) (hi : get H i = some (.row e sz xs)) (h : AWP P ro N n0 c Q (aYt i (.sl sz (fzL xs)) E) (xA i (.sl sz (fzL xs)) H) nx) : AWP P ro N n0 c Q E H nx := by
  intro C a w Qc hn hR hK
  obtain ⟨C', hR', hs⟩ := hR.freeze i hi
  exact h C' a w Qc hn hR' fun e' E' H' nx' C1 a' w' hn' hR2 hs2 hQ => hK e' E' H' nx' C1 a' w' hn' hR2 (hs hs2) hQ
end
attribute [go_sem] AV.sub aLy AObj.sub aYt xA
end
section
variable [Globals]
def iia (a b : Prop) : (a -> b -> a /\ b) = True := by simp; exact fun h1 h2 => ⟨h1, h2⟩
attribute [go_sem] iia
mutual
def AV.frz (h : Nat -> Option AObj) : AV -> AV
  | .ref i => match h i with
    | some (.row _ sz xs) => .sl sz (fzL xs)
    | _ => .ref i
  | .agg cs => .agg (aSv h cs)
  | .tup cs => .tup (aSv h cs)
  | .any => .any
  | .raw v => .raw v
  | .sl sz xs => .sl sz xs
  | .fp sz xs j off => .fp sz xs j off
  | .ptr j off => .ptr j off
  | .ep j sz k off => .ep j sz k off
  | .iface t x => .iface t x
  | .fn f a b => .fn f a b
  | .when c x => .when c x
  | .own e sz xs => .own e sz xs
def aSv (h : Nat -> Option AObj) : List AV -> List AV
  | [] => []
  | x :: xs => AV.frz h x :: aSv h xs
end
def aZd (h : Nat -> Option AObj) : ∀ (xs : List AV) (j : Nat), (aSv h xs)[j]? = (xs[j]?).map (AV.frz h)
  | [], j => rfl
  | x :: xs, 0 => rfl
  | x :: xs, j + 1 => by simpa [aSv] using aZd h xs j
def xL (h : Nat -> Option AObj) : ∀ xs : List AV, (aSv h xs).length = xs.length
  | [] => rfl
  | x :: xs => by simp [aSv, xL h xs]
def Rep.frz {ρ : Nat -> Value} {av : Nat -> Prop} {hp : Array Obj} {h : Nat -> Option AObj} (hh : ∀ i e sz xs, h i = some (.row e sz xs) -> Rep ρ av hp (.sl sz (fzL xs)) (ρ i)) {x : AV} {v : Value} (hr : Rep ρ av hp x v) : Rep ρ av hp (AV.frz h x) v := by
  have aux : ∀ {xs : List AV} {g : Nat -> Value}, (∀ (j : Nat) (z : AV), xs[j]? = some z -> Rep ρ av hp (AV.frz h z) (g j)) -> ∀ (j : Nat) (z : AV), (aSv h xs)[j]? = some z -> Rep ρ av hp z (g j) := fun hk j z hz => by
    rw [aZd] at hz
    obtain ⟨u, hu, rfl⟩ := B3.1 hz
    exact hk j u hu
  induction hr with
  | agg cs vs hn _ ih => exact .agg _ vs (by rw [xL]; exact hn) (aux (g := fun j => vs.getD j undef) ih)
  | tup cs vs hn _ ih => exact .tup _ vs (by rw [xL]; exact hn) (aux (g := fun j => vs.getD j undef) ih)
  | ref j =>
    rw [AV.frz]; split
    . rename_i e sz xs hj
      exact hh j e sz xs hj
    exact .ref j
  | any v => exact .any v
  | raw v => exact .raw v
  | iface t x v h _ => exact .iface t x v h
  | sl0 sz A c hc => exact .sl0 sz A c hc
  | sl sz xs b off c cells t fr vals h0 hc hm hb hh' h hcells _ => exact .sl sz xs b off c cells t fr vals h0 hc hm hb hh' h hcells
  | fp sz xs j d b off cells t fr vals hb hh' h hcells _ => exact .fp sz xs j d b off cells t fr vals hb hh' h hcells
  | ptr i off b h => exact .ptr _ off b h
  | ep i sz j off b h => exact .ep _ sz j off b h
  | fn f first cap vs us hn h hn' h' _ _ => exact .fn f _ _ vs us hn h hn' h'
  | when c x v h h' _ => exact .when c x v h h'
def cC {P : Program} {f : Nat} {args : List AV} {r0 r1 : AV} {H1 : Heap} {n1 : Nat} (h : aO P f args [] 0 r0 H1 n1) (hr : AV.frz (get H1) r0 = r1) (hb : r1.bel (UU 0)) : aK P f args [] 0 r1 := by
  intro C w vals hR hargs hbel
  refine (h C w vals hR hargs hbel).mono fun e w' ⟨v, r, H', n', C', he, hn, ⟨e1, e2, e3⟩, h1, h2, h3, h4⟩ => ?_
  subst e1; subst e2; subst e3
  have hX : ∀ b, ({ C' with own := fun _ => [] } : Conc).avoid [] b -> C'.avoid H' b := fun b hb => by
    rcases hb with hb | ⟨i, o, hi, _⟩
    . exact .inl hb
    cases hi
  have hX' : ∀ b, ({ C' with own := fun _ => [] } : Conc).avoid [] b -> C'.X b := fun b hb => by
    rcases hb with hb | ⟨i, o, hi, _⟩
    . exact hb
    cases hi
  refine ⟨v, r1, [], 0, { C' with own := fun _ => [] }, he, A0 _, ⟨rfl, rfl, rfl⟩, ?_, ?_, ?_, hb⟩
  . exact { obj := fun i o hi => by cases hi
            apart := fun i j oi oj b _ hi => by cases hi
            xapart := fun i o b hi => by cases hi
            xlt := h1.xlt
            gl := h1.glK (fun b _ hb => hX b hb) (fun _ _ _ _ _ _ => rfl)
            objb := fun i o hi => by cases hi }
  . exact { os := h2.os, tape := h2.tape, output := h2.output, size := h2.size, keep := h2.keep
            wr := fun b ⟨i, o, hi, _⟩ => by cases hi
            X := h2.X, B := h2.B, ρ := h2.ρ }
  rw [<- hr]
  refine Rep.frz (fun i e sz xs hi => ?_) (h3.mono (fun b _ hb => hX b hb) (fun _ _ _ => rfl))
  obtain ⟨k1, _⟩ := h1.obj i _ hi
  have k2 : RepO C'.ρ (({ C' with own := fun _ => [] } : Conc).avoid []) w'.heap (.own e sz xs) (C'.ρ i) (C'.own i) := k1.mono' (fun b _ hb => hX b hb) (fun _ _ _ _ _ _ => rfl) (fun _ _ => rfl)
  exact k2.fz fun b hb hb' => h1.xapart i _ b hi hb (hX' b hb')
attribute [go_sem] AV.frz aSv
end
section
variable [Globals]
variable {xs ys args : List AV} {x y : AV} {ρ : Nat -> Value} {av : Nat -> Prop} {hp : Array Obj} {f : Nat} {nd : Heap}
inductive Le : AV -> AV -> Prop
  | refl (x : AV) : Le x x
  | nil (sz : Nat) : Le (.raw (.slice none 0 0)) (.sl sz [])
  | agg (xs ys : List AV) (hl : xs.length = ys.length) (h : ∀ (j : Nat) (x y : AV), xs[j]? = some x -> ys[j]? = some y -> Le x y) : Le (.agg xs) (.agg ys)
  | tup (xs ys : List AV) (hl : xs.length = ys.length) (h : ∀ (j : Nat) (x y : AV), xs[j]? = some x -> ys[j]? = some y -> Le x y) : Le (.tup xs) (.tup ys)
def LeL (xs ys : List AV) : Prop := xs.length = ys.length /\ ∀ (j : Nat) (x y : AV), xs[j]? = some x -> ys[j]? = some y -> Le x y
def LeL.nil : LeL [] [] := ⟨rfl, fun j x y h => by simp at h⟩
def LeL.cons (h : Le x y) (hr : LeL xs ys) : LeL (x :: xs) (y :: ys) :=
  ⟨by simp [hr.1], fun j u v hu hv => by
    cases j with
    | zero => simp at hu hv; subst hu; subst hv; exact h
    | succ j => exact hr.2 j u v (by simpa using hu) (by simpa using hv)⟩
def Le.aggL (h : LeL xs ys) : Le (.agg xs) (.agg ys) := .agg _ _ h.1 h.2
def Le.rep (h : Le x y) : ∀ {v : Value}, Rep ρ av hp x v -> Rep ρ av hp y v := by
  induction h with
  | refl x => exact fun h => h
  | nil sz => intro v h; cases h; exact .sl0 sz none 0 (A5 _)
  | agg xs ys hl _ ih =>
    intro v h
    cases h with
    | agg _ vs hn hr =>
      refine .agg ys vs (hn.trans hl) fun j y hy => ?_
      have hj : j < xs.length := by rw [hl]; exact (B2.1 hy).1
      exact ih j _ y (A1 hj) hy (hr j _ (A1 hj))
  | tup xs ys hl _ ih =>
    intro v h
    cases h with
    | tup _ vs hn hr =>
      refine .tup ys vs (hn.trans hl) fun j y hy => ?_
      have hj : j < xs.length := by rw [hl]; exact (B2.1 hy).1
      exact ih j _ y (A1 hj) hy (hr j _ (A1 hj))
def LeL.rep (h : LeL xs ys) {vs : Array Value} (hr : eB ρ av hp xs vs) : eB ρ av hp ys vs := by
  refine ⟨hr.1.trans h.1, fun j y hy => ?_⟩
  have hj : j < xs.length := by rw [h.1]; exact (B2.1 hy).1
  exact (h.2 j _ y (A1 hj) hy).rep (hr.2 j _ (A1 hj))
def uE.args_le {P : Program} {n0 : Nat} {R : AV -> Heap -> Nat -> Prop} (h : uE P f args nd n0 R) (hle : LeL xs args) (hb : aI (UU n0) args) : uE P f xs nd n0 R :=
  fun C w vals h1 h2 _ => h C w vals h1 (hle.rep h2) hb
def aK.args_le {P : Program} {n0 : Nat} {r : AV} (h : aK P f args nd n0 r) (hle : LeL xs args) (hb : aI (UU n0) args) : aK P f xs nd n0 r := uE.args_le h hle hb
section
variable {P : Program} {ro : Option Nat} {N n0 : Nat} {Q : AQ} {E : Env} {H : Heap} {nx : Nat}
def dI {c : Code} (i : Nat) {t : TypeId} {cs ds : List AV} (hi : get H i = some (.cells t cs)) (hle : LeL cs ds) (hb : aI (UU nx) ds) (h : AWP P ro N n0 c Q E (put H i (.cells t ds)) nx) : AWP P ro N n0 c Q E H nx := by
  intro C a w Qc hn hR hK
  have hdom : ∀ j o, get (put H i (.cells t ds)) j = some o -> ∃ o', get H j = some o' := fun j o hj => by
    rw [dU] at hj; split at hj
    . rename_i e; subst e; exact ⟨_, hi⟩
    exact ⟨o, hj⟩
  have hdom' : ∀ j o, get H j = some o -> ∃ o', get (put H i (.cells t ds)) j = some o' := fun j o hj => by
    rw [dU]; split
    . exact ⟨_, rfl⟩
    exact ⟨o, hj⟩
  have hW : ∀ b, C.W (put H i (.cells t ds)) b -> C.W H b := fun b ⟨j, o, hj, hb⟩ => by
    obtain ⟨o', ho'⟩ := hdom j o hj
    exact ⟨j, o', ho', hb⟩
  have hW' : ∀ b, C.W H b -> C.W (put H i (.cells t ds)) b := fun b ⟨j, o, hj, hb⟩ => by
    obtain ⟨o', ho'⟩ := hdom' j o hj
    exact ⟨j, o', ho', hb⟩
  have hav : ∀ b, C.avoid (put H i (.cells t ds)) b -> C.avoid H b := fun b hb => hb.imp id (hW b)
  have hRel : Rel C N E (put H i (.cells t ds)) (UU nx) a w :=
    { obj := fun j o hj => by
        rw [dU] at hj; split at hj
        . rename_i e
          subst e; cases hj
          obtain ⟨b, vs, e1, e2, e3, e4⟩ := hR.obj i _ hi
          exact ⟨b, vs, e1, e2, e3, hle.rep (e4.mono (fun b _ hb => hav b hb) (fun _ _ _ => rfl))⟩
        exact (hR.obj j o hj).mono (fun b _ hb => hav b hb) (fun _ _ _ => rfl) (fun _ _ => rfl)
      apart := fun j k oj ok b hjk hj hk h1 h2 => by
        obtain ⟨o1, g1⟩ := hdom j oj hj
        obtain ⟨o2, g2⟩ := hdom k ok hk
        exact hR.apart j k o1 o2 b hjk g1 g2 h1 h2
      xapart := fun j o b hj h1 => by
        obtain ⟨o1, g1⟩ := hdom j o hj
        exact hR.xapart j o1 b g1 h1
      xlt := hR.xlt
      gl := hR.toRelH.glK (fun b _ hb => hav b hb) (fun _ _ _ _ _ _ => rfl)
      objb := fun j o hj => by
        rw [dU] at hj; split at hj
        . rename_i e
          subst e; cases hj
          exact ⟨(hR.objb i _ hi).1, hb⟩
        exact hR.objb j o hj
      size := hR.size, hB := hR.hB, nodup := hR.nodup
      marks := fun d hd => by
        obtain ⟨r, h1, h2, h3, h4⟩ := hR.marks d hd
        exact ⟨r, h1, h2, h3, fun q => h4 (hav r q)⟩
      env := fun t x ht => by
        obtain ⟨h1, h2, h3⟩ := hR.env t x ht
        exact ⟨h1, h2, h3.mono (fun b _ hb => hav b hb) (fun _ _ _ => rfl)⟩ }
  refine h C a w Qc hn hRel fun e' E' H' nx' C1 a' w' hn' hR' hs hQ => hK e' E' H' nx' C1 a' w' hn' hR' ?_ hQ
  exact { os := hs.os, tape := hs.tape, output := hs.output, size := hs.size, keep := fun k hk hkW => hs.keep k hk (fun q => hkW (hW k q))
          wr := fun b hb => (hs.wr b hb).imp (hW b) id
          X := hs.X, B := hs.B, ρ := hs.ρ }
end
end
section
variable [Globals]
attribute [go_sem] Nat.reduceAdd Nat.reduceMul Nat.reduceSub Nat.reduceLeDiff Nat.reduceEqDiff Nat.reduceLT lO iD
attribute [push_cast] Bool.or_eq_false_iff Bool.and_eq_true Bool.or_eq_true decide_eq_true_eq decide_eq_false_iff_not
variable {α : Type} {G R A q : Prop} {c : Call} {f i g : Nat} {code y x : Code} {args : List AV} {r0 : AV} {b want : Bool} {H1 : Heap}
section
variable {P : Program} {ro : Option Nat} {N n0 : Nat} {Q : AQ} {E : Env} {H : Heap} {nx b0 : Nat} {o : Oper} {ds : List (Option Tmp)}
def cdS {c : Operand} (hc : opv E c = some (.raw (.bool b))) (hf : b = false -> AWP P ro N n0 y Q E H nx) (ht : b = true -> AWP P ro N n0 x Q E H nx) : AWP P ro N n0 (.cond c x y) Q E H nx := cd hc ht hf
def sr {id : Nat} {ops : Array Oper} (hd : aGu N ops.toList = true) (h : ∀ {K : AK}, (∀ {E H nx}, AWP P ro N n0 y Q E H nx -> K E H nx) -> lO P ro N (ops.toList.map (·.dst)) ops.toList K E H nx) :
    AWP P ro N n0 (.seq (.region id ops false) y) Q E H nx := aA fun hK => wg hd (h hK)
def sd {id : Nat} {ops : Array Oper} (hm : P.follows .mixedOrders = true) (hd : aGu N ops.toList = true)
    (h : ∀ {K : AK}, (∀ {E H nx}, AWP P ro N n0 y Q E H nx -> K E H nx) -> iD P ro N (ops.toList.map (·.dst)) nx ops.toList [] (drawn (ops.toList.map (·.after.toList)) K) E H nx) :
    AWP P ro N n0 (.seq (.region id ops true) y) Q E H nx := aA fun hK => cQ hm hd (h hK)
def aCh (n0 : Nat) (Inv : α -> Prop) (S : α -> Env × Heap) (n1 : Nat) (Q : AQ) : AQ
  | .normal => fun E H nx => ∃ x, Inv x /\ ∃ s, bFy n0 s E H (S x).1 (S x).2 n1
  | e => Q e
def uY (Inv : α -> Prop) (S : α -> Env × Heap) (n1 : Nat) (h : AWP P ro N n0 x (aCh n0 Inv S n1 Q) E H nx) (h2 : ∀ a, Inv a -> AWP P ro N n0 y Q (S a).1 (S a).2 n1) : AWP P ro N n0 (.seq x y) Q E H nx :=
  bCm (aEt h fun e E' H' nx' hq => by
    cases e with
    | normal => obtain ⟨a, h1, s, h3⟩ := hq; exact aYo s h3 (h2 a h1)
    | _ => exact hq)
def vp {l : List Oper} {K : AK} {fn : Func} (hg : o.guard = none) (ho : o.op = .call c) (hc : c.callee = .value (.func f)) (hT : FnT P f fn code)
    (hM : aK P f args [] 0 r0) (hargs : c.args.toList.map (opv E) = args.map some) (hab : aI (UU 0) args) (h : lO P ro N ds l K (aU E o.dst r0) (over H []) (nx + 0)) : qL P ro N ds (o :: l) K E H nx :=
  vC (fun hN => tA hg ho hc hT hN hM hargs hab) (.inl rfl) h
def tp {l : List Oper} {acc : List Rec} {K : List Rec -> AK} {fn : Func} (hg : o.guard = none) (ho : o.op = .call c) (hc : c.callee = .value (.func f)) (hT : FnT P f fn code)
    (hM : aK P f args [] 0 r0) (hargs : c.args.toList.map (opv E) = args.map some) (hab : aI (UU 0) args)
    (h : iD P ro N ds b0 l (⟨aF c.args.toList, [], o.dst, [], [], []⟩ :: acc) K (aU E o.dst r0) (over H []) (nx + 0)) : VTr P ro N ds b0 (o :: l) acc K E H nx :=
  aN (fun hN => tA hg ho hc hT hN hM hargs hab) (.inl rfl) h
def vpg {l : List Oper} {K : AK} {x : AV} {fn : Func} 
    (hg : o.guard = some (i, want)) (ho : o.op = .call c) (hc : c.callee = .value (.func f)) (hi : (ds[i]?).join = some g) (hE : get E g = some x) (hs : jB x = some (q, b)) (hT : FnT P f fn code)
    (hM : q /\ b = want -> aK P f args [] 0 r0) (hun : aIj (q /\ b = want) E (aF c.args.toList)) (hargs : q /\ b = want -> c.args.toList.map (opv (unE E (aF c.args.toList))) = args.map some) (hab : aI (UU 0) args) (hr : r0.bel (UU nx))
    (h : lO P ro N ds l K (aU E o.dst (.when (q /\ b = want) r0)) (over H []) (nx + 0)) : qL P ro N ds (o :: l) K E H nx :=
  vC (fun hN => dK hN hg hi hE hs hun (fun hq => tA rfl ho hc hT hN (hM hq) (hargs hq) hab) hr) (.inl rfl) h
def tpg {l : List Oper} {acc : List Rec} {K : List Rec -> AK} {x : AV} {fn : Func} 
    (hg : o.guard = some (i, want)) (ho : o.op = .call c) (hc : c.callee = .value (.func f)) (hi : (ds[i]?).join = some g) (hE : get E g = some x) (hs : jB x = some (q, b)) (hT : FnT P f fn code)
    (hM : q /\ b = want -> aK P f args [] 0 r0) (hun : aIj (q /\ b = want) E (aF c.args.toList)) (hargs : q /\ b = want -> c.args.toList.map (opv (unE E (aF c.args.toList))) = args.map some) (hab : aI (UU 0) args) (hr : r0.bel (UU b0))
    (h : iD P ro N ds b0 l (⟨g :: aF c.args.toList, [], o.dst, [], [], []⟩ :: acc) K (aU E o.dst (.when (q /\ b = want) r0)) (over H []) (nx + 0)) : VTr P ro N ds b0 (o :: l) acc K E H nx :=
  aN (fun hN => dK hN hg hi hE hs hun (fun hq => tA rfl ho hc hT hN (hM hq) (hargs hq) hab) hr) (.inl rfl) h
def vn {l : List Oper} {K : AK} (nw : Nat) {fn : Func} (hg : o.guard = none) (ho : o.op = .call c) (hc : c.callee = .value (.func f)) (hT : FnT P f fn code)
    (hM : aO P f args [] 0 r0 H1 nw) (hargs : c.args.toList.map (opv E) = args.map some) (hab : aI (UU 0) args) (hk : ∀ i ∈ H1.map (·.1), i < nw) (hw : nw <= 900 /\ nx + nw <= 1000)
    (h : lO P ro N ds l K (aU E o.dst (r0.ren (shift (sg []) 0 nx nw))) (over H (H1.map fun p => (shift (sg []) 0 nx nw p.1, p.2.ren (shift (sg []) 0 nx nw)))) (nx + nw)) : qL P ro N ds (o :: l) K E H nx :=
  vC (fun hN => qR (s := []) nw hg ho hc hT hN hM (C3 _).symm (by rw [qC]; exact hargs) hab (aCt hk og)) (.inr hw.2) h
def tn {l : List Oper} {acc : List Rec} {K : List Rec -> AK} (nw : Nat) {fn : Func} (hg : o.guard = none) (ho : o.op = .call c) (hc : c.callee = .value (.func f)) (hT : FnT P f fn code)
    (hM : aO P f args [] 0 r0 H1 nw) (hargs : c.args.toList.map (opv E) = args.map some) (hab : aI (UU 0) args) (hk : ∀ i ∈ H1.map (·.1), i < nw) (hw : nw <= 900 /\ nx + nw <= 1000)
    (h : iD P ro N ds b0 l (⟨aF c.args.toList, [], o.dst, (H1.map fun p => (shift (sg []) 0 nx nw p.1, p.2.ren (shift (sg []) 0 nx nw))).map (·.1), [], H1.map fun p => (shift (sg []) 0 nx nw p.1, p.2.ren (shift (sg []) 0 nx nw))⟩ :: acc) K (aU E o.dst (r0.ren (shift (sg []) 0 nx nw))) (over H (H1.map fun p => (shift (sg []) 0 nx nw p.1, p.2.ren (shift (sg []) 0 nx nw)))) (nx + nw)) : VTr P ro N ds b0 (o :: l) acc K E H nx :=
  aN (fun hN => qR (s := []) nw hg ho hc hT hN hM (C3 _).symm (by rw [qC]; exact hargs) hab (aCt hk og)) (.inr hw.2) h
def aj (h : R -> G := by intro k; refine sr rfl fun J => ?_; simp only [go_sem]; exact J k) : R -> G := h
def ja (h : R -> G := by intro k; simp only [go_sem]; exact k) : R -> G := h
def jt (h : R -> G := by intro k; (try simp only [go_sem, lQ]); exact k) : R -> G := h
def jr (h : R -> G := by intro k; (repeat refine ⟨by clear k; first | omega | (intro hg; simp at hg; omega), ?_⟩); exact k) : R -> G := h
def jw (e : A) (h : A -> R -> G := by intro hw k; refine wg rfl ?_; simp only [go_sem, hw]; exact k) : R -> G := h e
def jh (e : A) (h : A -> R -> G := by intro e k; simp only [go_sem, e]; exact k) : R -> G := h e
def ji {R G A B : Prop} (e : A) (f : B) (h : A -> B -> R -> G := by intro e f k; simp only [go_sem, e, f]; exact k) : R -> G := h e f
def jn (h : R -> G := by intro k; simp only [go_sem, AV.ren, AObj.ren, aB, shift, sg, A0, Nat.add_zero, Nat.sub_self]; exact k) : R -> G := h
def jy {a b : Prop} (h : a := by rfl) : b -> a /\ b := fun k => ⟨h, k⟩
def cdA {c : Operand} (hc : opv E c = some (.raw (.bool b)) := by rfl) : (b = true -> AWP P ro N n0 x Q E H nx) -> (b = false -> AWP P ro N n0 y Q E H nx) -> AWP P ro N n0 (.cond c x y) Q E H nx := cd hc
def cdB {c : Operand} (hc : opv E c = some (.raw (.bool b)) := by rfl) : (b = false -> AWP P ro N n0 y Q E H nx) -> (b = true -> AWP P ro N n0 x Q E H nx) -> AWP P ro N n0 (.cond c x y) Q E H nx := cdS hc
def vq {l : List Oper} {K : AK} {fn : Func} (hf : P.funcs[f]? = some fn)
    (hM : aK P f args [] 0 r0) (hg : o.guard = none := by rfl) (ho : o.op = .call c := by rfl) (hc : c.callee = .value (.func f) := by rfl) (hb : fn.body = some code := by rfl) (hn : (fn.name == "runtime.NumGoroutine") = false := by rfl)
    (hargs : c.args.toList.map (opv E) = args.map some := by simp only [go_sem]) (hab : aI (UU 0) args := by simp only [go_sem]) (h : R -> lO P ro N ds l K (aU E o.dst r0) (over H []) (nx + 0) := by intro k; simp only [go_sem]; exact k) : R -> qL P ro N ds (o :: l) K E H nx :=
  fun k => vC (fun hN => tA hg ho hc ⟨hf, hb, hn⟩ hN hM hargs hab) (.inl rfl) (h k)
def vr {l : List Oper} {K : AK} {fn : Func} (hg : o.guard = none) (ho : o.op = .call c) (hc : c.callee = .value (.func f)) (hf : P.funcs[f]? = some fn)
    (hM : aK P f args [] 0 r0) (hargs : c.args.toList.map (opv E) = args.map some) (hab : aI (UU 0) args) (hb : fn.body = some code := by rfl) (hn : (fn.name == "runtime.NumGoroutine") = false := by rfl)
    (h : R -> lO P ro N ds l K (aU E o.dst r0) (over H []) (nx + 0) := by intro k; simp only [go_sem]; exact k) : R -> qL P ro N ds (o :: l) K E H nx :=
  fun k => vC (fun hN => tA hg ho hc ⟨hf, hb, hn⟩ hN hM hargs hab) (.inl rfl) (h k)
def vs {l : List Oper} {K : AK} {fn : Func} (hg : o.guard = none) (ho : o.op = .call c) (hc : c.callee = .value (.func f)) (hf : P.funcs[f]? = some fn)
    (hM : aK P f args [] 0 r0) (hargs : c.args.toList.map (opv E) = args.map some) (hab : aI (UU 0) args) (h : lO P ro N ds l K (aU E o.dst r0) (over H []) (nx + 0)) (hb : fn.body = some code := by rfl) (hn : (fn.name == "runtime.NumGoroutine") = false := by rfl) : qL P ro N ds (o :: l) K E H nx :=
  vC (fun hN => tA hg ho hc ⟨hf, hb, hn⟩ hN hM hargs hab) (.inl rfl) h
def jz (h : G := by simp only [go_sem, AObj.bel, AObj.ren, AV.ren, aB, sg] <;> simp) : G := h
def jc (h : G := by simp only [go_sem, Int.natCast_zero] <;> simp) : G := h
def jo (h : G := by simp only [go_sem] <;> simp) : G := h
def jp (h : G := by simp only [go_sem, AObj.bel, AObj.ren, AV.ren, aB, sg, Int.natCast_zero] <;> simp) : G := h
def fq (e : A) (h : A -> G := by intro e; refine fO ?_ trivial; simp only [go_sem, e]) : G := h e
def fy (e : A) (h : A -> G := by intro e; refine (aj) (wR ?_); refine fO ?_ trivial; simp only [go_sem, e]) : G := h e
def wn {N n0 : Nat} {Q : AQ} {E : Env} {H : Heap} {nx : Nat} {c : Code} (n : Nat) (S : Nat -> Env × Heap) (n1 : Nat) (s : List (Nat × Nat)) (h0 : bFy n0 s E H (S 0).1 (S 0).2 n1)
    (h : ∀ a, a <= n -> AWP P ro N n0 c (lQ n0 (fun x => x <= n) (fun x => n - x) S n1 a Q) (S a).1 (S a).2 n1) : AWP P ro N n0 (.loop c) Q E H nx := wl (α := Nat) (fun x => x <= n) (fun x => n - x) S n1 0 (A5 _) s h0 h
def wa {N n0 : Nat} {Q : AQ} {E : Env} {H : Heap} {nx : Nat} {c : Code} (n : Nat) (p : Nat -> Bool) (S : Nat -> Env × Heap) (n1 : Nat) (s : List (Nat × Nat)) (h0 : bFy n0 s E H (S 0).1 (S 0).2 n1)
    (h : ∀ a, (a <= n /\ ∀ j, j < a -> p j = true) -> AWP P ro N n0 c (lQ n0 (fun x => x <= n /\ ∀ j, j < x -> p j = true) (fun x => n - x) S n1 a Q) (S a).1 (S a).2 n1) : AWP P ro N n0 (.loop c) Q E H nx :=
  wl (α := Nat) (fun x => x <= n /\ ∀ j, j < x -> p j = true) (fun x => n - x) S n1 0 ⟨A5 _, fun j hj => absurd hj (H7 _)⟩ s h0 h
end
end
section
variable [Globals]
variable {c : Call} {f m0 n1 : Nat} {code : Code} {args xs first cap : List AV} {r0 : AV} {y : Operand} {H1 nd : Heap}
section
variable {P : Program} {ro : Option Nat} {N n0 : Nat} {Q : AQ} {E : Env} {H : Heap} {nx b0 : Nat} {o : Oper} {ds : List (Option Tmp)}
def aFx {fn : Func} (hg : o.guard = none) (ho : o.op = .call c) (hc : c.callee = .value y) (hy : opv E y = some (.fn (.func f) first cap))
    (hT : FnT P f fn code) (hN : oD o N) (hM : aK P f args [] 0 r0) (hxs : c.args.toList.map (opv E) = xs.map some) (hargs : first ++ xs ++ cap = args) (hab : aI (UU 0) args) :
    aY P ro N ds o b0 E H (aF (y :: c.args.toList)) [] r0 [] nx 0 := by
  have := aTb (P := P) (ro := ro) (N := N) (o := o) (E := E) (H := H) (nx := nx) (b0 := b0) (ds := ds) (nd := []) (H1 := []) (m0 := 0) (n1 := 0) [] 0 hg ho hc hy hT hN hM rfl hxs (by rw [qC]; exact hargs) hab (aCt oS og)
  rw [jN, AV.ren_nil] at this; exact this
def vf {l : List Oper} {K : AK} {fn : Func} (hg : o.guard = none) (ho : o.op = .call c) (hc : c.callee = .value y) (hy : opv E y = some (.fn (.func f) first cap))
    (hT : FnT P f fn code) (hM : aK P f args [] 0 r0) (hxs : c.args.toList.map (opv E) = xs.map some) (hargs : first ++ xs ++ cap = args) (hab : aI (UU 0) args)
    (h : lO P ro N ds l K (aU E o.dst r0) (over H []) (nx + 0)) : qL P ro N ds (o :: l) K E H nx := vC (fun hN => aFx hg ho hc hy hT hN hM hxs hargs hab) (.inl rfl) h
def tf {l : List Oper} {acc : List Rec} {K : List Rec -> AK} {fn : Func} (hg : o.guard = none) (ho : o.op = .call c) (hc : c.callee = .value y) (hy : opv E y = some (.fn (.func f) first cap))
    (hT : FnT P f fn code) (hM : aK P f args [] 0 r0) (hxs : c.args.toList.map (opv E) = xs.map some) (hargs : first ++ xs ++ cap = args) (hab : aI (UU 0) args)
    (h : iD P ro N ds b0 l (⟨aF (y :: c.args.toList), [], o.dst, [], [], []⟩ :: acc) K (aU E o.dst r0) (over H []) (nx + 0)) : VTr P ro N ds b0 (o :: l) acc K E H nx := aN (fun hN => aFx hg ho hc hy hT hN hM hxs hargs hab) (.inl rfl) h
def tfg {l : List Oper} {acc : List Rec} {K : List Rec -> AK} {i g : Nat} {want b : Bool} {q : Prop} {x : AV} {fn : Func} 
    (hg : o.guard = some (i, want)) (ho : o.op = .call c) (hc : c.callee = .value y) (hi : (ds[i]?).join = some g) (hE : get E g = some x) (hs : jB x = some (q, b)) (hy : q /\ b = want -> opv (unE E (aF (y :: c.args.toList))) y = some (.fn (.func f) first cap)) (hT : FnT P f fn code)
    (hM : q /\ b = want -> aK P f args [] 0 r0) (hun : aIj (q /\ b = want) E (aF (y :: c.args.toList))) (hxs : q /\ b = want -> c.args.toList.map (opv (unE E (aF (y :: c.args.toList)))) = xs.map some) (hargs : first ++ xs ++ cap = args) (hab : aI (UU 0) args) (hr : r0.bel (UU b0))
    (h : iD P ro N ds b0 l (⟨g :: aF (y :: c.args.toList), [], o.dst, [], [], []⟩ :: acc) K (aU E o.dst (.when (q /\ b = want) r0)) (over H []) (nx + 0)) : VTr P ro N ds b0 (o :: l) acc K E H nx :=
  aN (fun hN => dK hN hg hi hE hs hun (fun hq => aFx rfl ho hc (hy hq) hT hN (hM hq) (hxs hq) hargs hab) hr) (.inl rfl) h
def vl {l : List Oper} {K : AK} (bw : List Nat) {fn : Func} (hg : o.guard = none) (ho : o.op = .call c) (hc : c.callee = .value (.func f)) (hT : FnT P f fn code)
    (hM : aK P f args [] 0 r0) (hxs : c.args.toList.map (opv E) = xs.map some) (hargs : xs.map (aIm (get H) bw) = args) (hab : aI (UU 0) args) (hfr : r0.noFz = true)
    (h : lO P ro N ds l K (aU E o.dst r0) (over H []) (nx + 0)) : qL P ro N ds (o :: l) K E H nx := vC (fun hN => aPq bw hg ho hc hT hN hM hxs hargs hab hfr) (.inl rfl) h
def tl {l : List Oper} {acc : List Rec} {K : List Rec -> AK} (bw : List Nat) {fn : Func} (hg : o.guard = none) (ho : o.op = .call c) (hc : c.callee = .value (.func f)) (hT : FnT P f fn code)
    (hM : aK P f args [] 0 r0) (hxs : c.args.toList.map (opv E) = xs.map some) (hargs : xs.map (aIm (get H) bw) = args) (hab : aI (UU 0) args) (hfr : r0.noFz = true)
    (h : iD P ro N ds b0 l (⟨aF c.args.toList, bw, o.dst, [], [], []⟩ :: acc) K (aU E o.dst r0) (over H []) (nx + 0)) : VTr P ro N ds b0 (o :: l) acc K E H nx := aN (fun hN => aPq bw hg ho hc hT hN hM hxs hargs hab hfr) (.inl rfl) h
def vg {l : List Oper} {K : AK} (s : List (Nat × Nat)) (nw : Nat) {fn : Func} (hg : o.guard = none) (ho : o.op = .call c) (hc : c.callee = .value (.func f)) (hT : FnT P f fn code)
    (hM : aO P f args nd m0 r0 H1 n1) (hn : n1 = m0 + nw) (hargs : c.args.toList.map (opv E) = (aB (sg s) args).map some) (hab : aI (UU m0) args) (hF : FitC H s nd m0 nw H1) (hnw : nw = 0 ∨ nx + nw <= 1000)
    (h : lO P ro N ds l K (aU E o.dst (r0.ren (shift (sg s) m0 nx nw))) (over H (H1.map fun p => (shift (sg s) m0 nx nw p.1, p.2.ren (shift (sg s) m0 nx nw)))) (nx + nw)) : qL P ro N ds (o :: l) K E H nx :=
  vC (fun hN => qR s nw hg ho hc hT hN hM hn hargs hab hF) hnw h
def tg {l : List Oper} {acc : List Rec} {K : List Rec -> AK} (s : List (Nat × Nat)) (nw : Nat) {fn : Func} (hg : o.guard = none) (ho : o.op = .call c) (hc : c.callee = .value (.func f)) (hT : FnT P f fn code)
    (hM : aO P f args nd m0 r0 H1 n1) (hn : n1 = m0 + nw) (hargs : c.args.toList.map (opv E) = (aB (sg s) args).map some) (hab : aI (UU m0) args) (hF : FitC H s nd m0 nw H1) (hnw : nw = 0 ∨ nx + nw <= 1000)
    (h : iD P ro N ds b0 l (⟨aF c.args.toList, nd.map fun p => sg s p.1, o.dst, (H1.map fun p => (shift (sg s) m0 nx nw p.1, p.2.ren (shift (sg s) m0 nx nw))).map (·.1), [], H1.map fun p => (shift (sg s) m0 nx nw p.1, p.2.ren (shift (sg s) m0 nx nw))⟩ :: acc) K (aU E o.dst (r0.ren (shift (sg s) m0 nx nw))) (over H (H1.map fun p => (shift (sg s) m0 nx nw p.1, p.2.ren (shift (sg s) m0 nx nw)))) (nx + nw)) : VTr P ro N ds b0 (o :: l) acc K E H nx :=
  aN (fun hN => qR s nw hg ho hc hT hN hM hn hargs hab hF) hnw h
def mZ {H H1 : Heap} {s : List (Nat × Nat)} {g g1 : AObj} (hs : s = [] ∨ ∃ j, s = [(0, j)]) (ho : get H (sg s 0) = some (g.ren (sg s))) (hb : g.bel (UU 1)) : FitC H s [(0, g)] 1 0 [(0, g1)] where
  objs := ⟨ho, .inl og, hb, trivial⟩
  inj := by simp
  cov := fun i hi => by have : i = 0 := by omega
                        subst this; rfl
  sk := fun p hp => by
    rcases hs with rfl | ⟨j, rfl⟩
    . cases hp
    rw [B6.1 hp]; rfl
  dom := fun p hp => by rw [B6.1 hp]; exact .inl rfl
  all := fun p hp => by rw [B6.1 hp]; rfl
  far := by omega
end
end
end Go.Abs
end
