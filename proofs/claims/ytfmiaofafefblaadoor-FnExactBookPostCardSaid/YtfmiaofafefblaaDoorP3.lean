/-
  The abstract layer and the walks that the claim leans on, part 3 of 6 (merged out of the working texts Abs16, Abs17, Abs18, Abs19, Abs20, Abs21, Abs22, Abs23, Abs24, Abs25, Abs26, Abs27, Abs28, Abs29, Abs30, Abs31, Abs32, Abs33, Abs34). It proves lemmas alone; no condition of its own.
-/
import Derived.Test.YtfmiaofafefblaaDoorP2
import Derived.MapKept
import Derived.WideKeyRuns
import Derived.RangeFuncSeq
set_option linter.all false

/- Abs16 -/
section
/- The abstract layer, sixteenth part: a region that draws, reckoned. -/
set_option linter.unusedVariables false
set_option linter.unusedSimpArgs false
namespace Go.Abs
open Go

section
variable {P : Program} {ro : Option Nat} {N n0 : Nat} {o : Oper} {E : Env} {H : Heap} {nx b0 : Nat} {ds : List (Option Tmp)}

/-- The rest of a region that draws. -/
def VTr (P : Program) (ro : Option Nat) (N : Nat) (ds : List (Option Tmp)) (b0 : Nat) (l : List Oper) (acc : List Rec) (K : List Rec → AK) (E : Env) (H : Heap) (nx : Nat) : Prop :=
  (∀ o ∈ l, ∀ d, o.dst = some d → d < N) → ∃ ss E' H' nx', Chain P ro N ds b0 l E H nx ss E' H' nx' ∧ K (acc.reverse ++ ss.map St.row) E' H' nx'

def vcDraw (P : Program) (ro : Option Nat) (N : Nat) (ds : List (Option Tmp)) (b0 : Nat) : List Oper → List Rec → (List Rec → AK) → AK
  | [], acc, K, E, H, nx => K acc.reverse E H nx
  | o :: l, acc, K, E, H, nx =>
    match o.guard with
    | none => match evOp P (opv E) (get H) nx o.op with
      | some r => r.ok ∧ (r.nw = 0 ∨ nx + r.nw ≤ 1000) ∧ vcDraw P ro N ds b0 l (⟨tmpsOf (opnds o.op), topsOf E (opnds o.op), o.dst, r.ps.map (·.1), [], r.ps⟩ :: acc) K (putO E o.dst r.val) (over H r.ps) (nx + r.nw)
      | none => VTr P ro N ds b0 (o :: l) acc K E H nx
    | some (i, want) => match (ds[i]?).join with
      | some g => match (get E g).bind strip with
        | some (c, b) => match evOp P (opv (unE E (tmpsOf (opnds o.op)))) (get H) nx o.op with
          | some ⟨ok, val, [], 0⟩ => ((c ∧ b = want) → ok) ∧ unOk (c ∧ b = want) E (tmpsOf (opnds o.op)) ∧ val.bel (UU b0) ∧
              vcDraw P ro N ds b0 l (⟨g :: tmpsOf (opnds o.op), topsOf (unE E (tmpsOf (opnds o.op))) (opnds o.op), o.dst, [], [], []⟩ :: acc) K (putO E o.dst (.when (c ∧ b = want) val)) H nx
          | _ => VTr P ro N ds b0 (o :: l) acc K E H nx
        | none => VTr P ro N ds b0 (o :: l) acc K E H nx
      | none => VTr P ro N ds b0 (o :: l) acc K E H nx

theorem vtr_stepA {l : List Oper} {acc : List Rec} {K : List Rec → AK} {rt rd : List Nat} {al : Heap} {val : AV} {ps : Heap} {nw : Nat} (hl : (∀ d, o.dst = some d → d < N) → LStepA P ro N ds o b0 E H rt rd al val ps nx nw) (hn : nw = 0 ∨ nx + nw ≤ 1000)
    (h : VTr P ro N ds b0 l (⟨rt, rd, o.dst, ps.map (·.1), al, ps⟩ :: acc) K (putO E o.dst val) (over H ps) (nx + nw)) : VTr P ro N ds b0 (o :: l) acc K E H nx := by
  intro hd
  obtain ⟨ss, E', H', nx', h1, h2⟩ := h fun o' ho' => hd o' (List.mem_cons_of_mem _ ho')
  refine ⟨⟨rt, rd, o.dst, al, val, ps, nx, nw⟩ :: ss, E', H', nx', ⟨rfl, rfl, hn, hl (hd o List.mem_cons_self), h1⟩, ?_⟩
  simpa [St.row] using h2
theorem vtr_step {l : List Oper} {acc : List Rec} {K : List Rec → AK} {rt rd : List Nat} {val : AV} {ps : Heap} {nw : Nat} (hl : (∀ d, o.dst = some d → d < N) → LStep P ro N ds o b0 E H rt rd val ps nx nw) (hn : nw = 0 ∨ nx + nw ≤ 1000)
    (h : VTr P ro N ds b0 l (⟨rt, rd, o.dst, ps.map (·.1), [], ps⟩ :: acc) K (putO E o.dst val) (over H ps) (nx + nw)) : VTr P ro N ds b0 (o :: l) acc K E H nx :=
  vtr_stepA (fun hN => (hl hN).toA) hn h

theorem vtr_dst {l : List Oper} {acc : List Rec} {K : List Rec → AK} (h : (∀ o ∈ l, ∀ d, o.dst = some d → d < N) → VTr P ro N ds b0 l acc K E H nx) : VTr P ro N ds b0 l acc K E H nx := fun hd => h hd hd

theorem vtr_vc : ∀ (l : List Oper) (acc : List Rec) (K : List Rec → AK) (E : Env) (H : Heap) (nx : Nat), vcDraw P ro N ds b0 l acc K E H nx → VTr P ro N ds b0 l acc K E H nx
  | [], acc, K, E, H, nx, h => fun _ => ⟨[], E, H, nx, ⟨rfl, rfl, rfl⟩, by rw [List.map_nil, List.append_nil]; exact h⟩
  | o :: l, acc, K, E, H, nx, h => vtr_dst fun hd => by
    have hN := hd o List.mem_cons_self
    simp only [vcDraw] at h
    split at h
    · rename_i hg
      split at h
      · rename_i r hr
        obtain ⟨hok, hnx, hrest⟩ := h
        exact vtr_step (fun hN => lstep_ev hg hN hr hok) hnx (vtr_vc l _ K _ _ _ hrest)
      · exact h
    · rename_i i want hg
      split at h
      · rename_i g hgi
        split at h
        · rename_i c b hs
          obtain ⟨x, hx, hsx⟩ := Option.bind_eq_some_iff.1 hs
          split at h
          · rename_i ok val hr
            obtain ⟨hok, hun, hb, hrest⟩ := h
            exact vtr_step (fun hN => lstep_guard (rt := tmpsOf (opnds o.op)) hN hg hgi hx hsx hun (fun hG => lstep_ev (o := { o with guard := none }) rfl hN hr (hok hG)) hb) (.inl rfl) (vtr_vc l _ K _ _ _ hrest)
          · exact h
        · exact h
      · exact h

/-- A call within a region that draws. -/
theorem vtr_call {l : List Oper} {acc : List Rec} {K : List Rec → AK} {rt rd : List Nat} {val : AV} {ps : Heap} {nw : Nat} (hl : (∀ d, o.dst = some d → d < N) → LStep P ro N ds o b0 E H rt rd val ps nx nw) (hn : nw = 0 ∨ nx + nw ≤ 1000)
    (h : vcDraw P ro N ds b0 l (⟨rt, rd, o.dst, ps.map (·.1), [], ps⟩ :: acc) K (putO E o.dst val) (over H ps) (nx + nw)) : VTr P ro N ds b0 (o :: l) acc K E H nx :=
  vtr_step hl hn (vtr_vc l _ K _ _ _ h)

/-- A call within a region that draws; objects that it reads may lie otherwise. -/
theorem vtr_callA {l : List Oper} {acc : List Rec} {K : List Rec → AK} {rt rd : List Nat} {al : Heap} {val : AV} {ps : Heap} {nw : Nat} (hl : (∀ d, o.dst = some d → d < N) → LStepA P ro N ds o b0 E H rt rd al val ps nx nw) (hn : nw = 0 ∨ nx + nw ≤ 1000)
    (h : vcDraw P ro N ds b0 l (⟨rt, rd, o.dst, ps.map (·.1), al, ps⟩ :: acc) K (putO E o.dst val) (over H ps) (nx + nw)) : VTr P ro N ds b0 (o :: l) acc K E H nx :=
  vtr_stepA hl hn (vtr_vc l _ K _ _ _ h)

/-- The end of a region that draws: its order does not count. -/
def drawn (afts : List (List Edge)) (K : AK) : List Rec → AK := fun rs E H nx => indep afts rs = true ∧ K E H nx
def drawnX (x : Nat × Nat) (afts : List (List Edge)) (K : AK) : List Rec → AK := fun rs E H nx => indepX x afts rs = true ∧ (x.1 < x.2 → (rs[x.1]?).map Rec.al = (rs[x.2]?).map Rec.ps) ∧ K E H nx

theorem indepX_of {afts : List (List Edge)} {rs : List Rec} (h : indep afts rs = true) : indepX (0, 0) afts rs = true := by
  simp only [indep, indepX, Bool.and_eq_true] at h ⊢
  refine ⟨h.1, List.all_eq_true.2 fun j hj => List.all_eq_true.2 fun i hi => ?_⟩
  have := List.all_eq_true.1 (List.all_eq_true.1 h.2 j hj) i hi
  have hne : ((0, 0) : Nat × Nat) ≠ (i, j) := fun e => by
    have hij := List.mem_range.1 hi
    simp only [Prod.mk.injEq] at e
    omega
  simp only [if_neg hne]
  exact this

theorem awp_drawG {Q : AQ} {id : Nat} {ops : Array Oper} (x : Nat × Nat) (hm : P.follows .mixedOrders = true) (hd : dstOk N ops.toList = true)
    (h : VTr P ro N (ops.toList.map (·.dst)) nx ops.toList [] (drawnX x (ops.toList.map (·.after.toList)) (Q .normal)) E H nx) : AWP P ro N n0 (.region id ops true) Q E H nx := by
  intro C a w Qc hn hR hK
  obtain ⟨ss, E', H', nx', hC, hI, hX, hQ⟩ := h (dstOk_iff hd)
  have hR' : Rel C N E H (UU nx) a { w with drawn := w.drawn + 1 } := hR.heap_eq rfl
  have hnx' : nx ≤ nx' := (Chain.at' _ _ _ _ _ _ _ _ 0 hC).2.1
  have hf : ∀ j, (Array.replicate ops.size false).getD j false = false := fun j => by
    rw [Array.getD_eq_getD_getElem?, Array.getElem?_replicate]
    split <;> rfl
  have hE0 : stE (fun j => (Array.replicate ops.size false).getD j false) 0 ss E = E := by
    have : ∀ (r : List St) (q : Nat) (E : Env), stE (fun j => (Array.replicate ops.size false).getD j false) q r E = E := by
      intro r
      induction r with
      | nil => intro q E; rfl
      | cons a r ih => intro q E; unfold stE; rw [hf, if_neg (by simp)]; exact ih _ _
    exact this ss 0 E
  have hH0 : stH (fun j => (Array.replicate ops.size false).getD j false) 0 ss H = H := by
    have : ∀ (r : List St) (q : Nat) (H : Heap), stH (fun j => (Array.replicate ops.size false).getD j false) q r H = H := by
      intro r
      induction r with
      | nil => intro q H; rfl
      | cons a r ih => intro q H; unfold stH; rw [hf, if_neg (by simp)]; exact ih _ _
    exact this ss 0 H
  have hU0 : stU (fun j => (Array.replicate ops.size false).getD j false) (UU nx) ss = UU nx := by
    funext m
    refine propext ⟨?_, .inl⟩
    rintro (h | ⟨k, s, _, hD, _⟩)
    · exact h
    · simp only [hf] at hD; cases hD
  refine wpIn_region_any hm (draw_any (x := x) (n0 := n0) (dstOk_iff hd) hn hC (by simpa using hI) (fun s s' h1 h2 h3 m _ _ => by
    have hX := hX h3
    simp only [List.reverse_nil, List.nil_append, List.getElem?_map, h1, h2, Option.map_some, Option.some.injEq] at hX
    have hX' : s.al = s'.ps := hX
    rw [hX']) (C0 := C) (w0 := w) (fun C' a' w' hR2 hs2 => hK .normal E' H' nx' C' a' w' (by omega) hR2 hs2 hQ) ops.size _ C a _ (by simp) (fun j o e ho hD => ?_) ?_ ?_ ?_)
  · rw [hf] at hD; cases hD
  · rw [hE0, hH0, hU0]; exact hR'
  · rw [hH0]
    exact ⟨rfl, rfl, rfl, Nat.le_refl _, fun _ _ _ => rfl, fun _ h => .inl h, rfl, rfl, fun _ _ => rfl⟩
  · exact Nat.le_trans (List.length_filter_le _ _) (by simp)

theorem awp_drawX {Q : AQ} {id : Nat} {ops : Array Oper} (x : Nat × Nat) (hm : P.follows .mixedOrders = true) (hd : dstOk N ops.toList = true)
    (h : vcDraw P ro N (ops.toList.map (·.dst)) nx ops.toList [] (drawnX x (ops.toList.map (·.after.toList)) (Q .normal)) E H nx) : AWP P ro N n0 (.region id ops true) Q E H nx :=
  awp_drawG x hm hd (vtr_vc _ _ _ _ _ _ h)

theorem awp_draw {Q : AQ} {id : Nat} {ops : Array Oper} (hm : P.follows .mixedOrders = true) (hd : dstOk N ops.toList = true)
    (h : vcDraw P ro N (ops.toList.map (·.dst)) nx ops.toList [] (drawn (ops.toList.map (·.after.toList)) (Q .normal)) E H nx) : AWP P ro N n0 (.region id ops true) Q E H nx :=
  awp_drawG (0, 0) hm hd fun hd' => by
    obtain ⟨ss, E', H', nx', h1, h2, h3⟩ := vtr_vc _ _ _ _ _ _ h hd'
    exact ⟨ss, E', H', nx', h1, indepX_of h2, fun hlt => absurd hlt (by decide), h3⟩

end
end Go.Abs
end

/- Abs17 -/
section
/- The abstract layer, seventeenth part: a function's end, told in fixed names. -/
set_option linter.unusedVariables false
set_option linter.unusedSimpArgs false
namespace Go.Abs
open Go

section
variable {P : Program} {N n0 : Nat}

/-- The end of a function: its value and its objects under fixed names, by the renaming s. -/
def Final (P : Program) (vs : List ResultVar) (n0 : Nat) (r0 : AV) (H1 : Heap) (n1 : Nat) (E : Env) (H : Heap) : Prop :=
  ∃ s : List (Nat × Nat), (resAV P E H vs).map packAV = some (r0.ren (sg s)) ∧ heapOk (sg s) n1 H H1 ∧ (H1.map fun p => sg s p.1).Nodup ∧ r0.bel (UU n1) ∧ (∀ p ∈ s, n0 ≤ p.1 ∧ p.1 < 1000) ∧ n0 ≤ n1

def endC (P : Program) (vs : List ResultVar) (n0 : Nat) (r0 : AV) (H1 : Heap) (n1 : Nat) : AQ := fun e E H nx =>
  match e with
  | .ret => Final P vs n0 r0 H1 n1 E H
  | .normal => Final P vs n0 r0 H1 n1 E H
  | _ => False

/-- 'It returns this, with these objects.' -/
abbrev Gives (P : Program) (f : Nat) (args : List AV) (nd : Heap) (n0 : Nat) (r0 : AV) (H1 : Heap) (n1 : Nat) : Prop := Meets P f args nd n0 fun r H n => r = r0 ∧ H = H1 ∧ n = n1

theorem gives_of_awp {f : Nat} {fn : Func} {c : Code} {args : List AV} {nd : Heap} {vs : List ResultVar} {r0 : AV} {H1 : Heap} {n1 : Nat} (hf : FnT P f fn c) (hN : fn.ntmps = N) (hv : fn.results.toList = vs) (hl : args.length ≤ N)
    (h : AWP P none N n0 c (endC P vs n0 r0 H1 n1) (enumE 0 args) nd n0) : Gives P f args nd n0 r0 H1 n1 := by
  have h1 := meets_of_awp (R := fun r H n => ∃ s : List (Nat × Nat), r = r0.ren (sg s) ∧ heapOk (sg s) n1 H H1 ∧ (H1.map fun p => sg s p.1).Nodup ∧ r0.bel (UU n1) ∧ (∀ p ∈ s, n0 ≤ p.1 ∧ p.1 < 1000) ∧ n0 ≤ n1) hf hN hv hl
    (awp_mono h fun e E H nx hQ => by
      cases e with
      | ret => obtain ⟨s, q0, q3⟩ := hQ; obtain ⟨rs, q1, q2⟩ := Option.map_eq_some_iff.1 q0; exact ⟨rs, q1, s, q2, q3⟩
      | normal => obtain ⟨s, q0, q3⟩ := hQ; obtain ⟨rs, q1, q2⟩ := Option.map_eq_some_iff.1 q0; exact ⟨rs, q1, s, q2, q3⟩
      | _ => exact hQ)
  intro C w vals hR hargs hb
  refine (h1 C w vals hR hargs hb).mono fun e w' ⟨v, r, H', n', C', he, hn, ⟨s, hr, hH, hi, hbel, hs, hn1⟩, a1, a2, a3, a4⟩ => ?_
  have hσ : ∀ i, UU n0 i → sg s i = i := fun i hu => by
    unfold sg
    cases hg : get s i with
    | none => rfl
    | some j =>
      have := hs _ (get_mem hg)
      rcases hu with hu | hu <;> simp at this <;> omega
  have hHH : ∀ i o, get H1 i = some o → get H' (sg s i) = some (o.ren (sg s)) ∧ UU n1 i ∧ o.bel (UU n1) := fun i o hi' => heapOk_iff hH i o (get_mem hi')
  have hav : ∀ b, (C'.ren (sg s)).avoid H1 b → C'.avoid H' b := fun b hb => hb.imp id (fun ⟨i, o, hi, hb⟩ => ⟨sg s i, _, (hHH i o hi).1, hb⟩)
  refine ⟨v, r0, H1, n1, C'.ren (sg s), he, hn1, ⟨rfl, rfl, rfl⟩, a1.ren hHH (inj_of_nodup hi), ?_, ?_, hbel⟩
  · exact { os := a2.os, tape := a2.tape, output := a2.output, size := a2.size, keep := a2.keep
            wr := fun b ⟨i, o, hi', hb'⟩ => a2.wr b ⟨sg s i, _, (hHH i o hi').1, hb'⟩
            X := a2.X, B := a2.B, ρ := fun i hi' => (congrArg C'.ρ (hσ i hi')).trans (a2.ρ i hi') }
  · subst hr
    exact (a3.mono (av' := (C'.ren (sg s)).avoid H1) (fun b _ => hav b) (fun _ _ _ => rfl)).unren (ρ := C'.ρ) r0 rfl

/-- A pure function, from its walk. -/
theorem pure_of_awp {f : Nat} {fn : Func} {c : Code} {args : List AV} {nd : Heap} {vs : List ResultVar} {r0 : AV} (hf : FnT P f fn c) (hN : fn.ntmps = N) (hv : fn.results.toList = vs) (hl : args.length ≤ N)
    (h : AWP P none N n0 c (endC P vs n0 r0 nd n0) (enumE 0 args) nd n0) : Pure P f args nd n0 r0 := gives_of_awp hf hN hv hl h

end
end Go.Abs
end

/- Abs18 -/
section
/- The abstract layer, eighteenth part: loops in fixed names; a nil slice becomes a row. -/
set_option linter.unusedVariables false
set_option linter.unusedSimpArgs false
namespace Go.Abs
open Go

/-- The state may be told so, by the renaming s. -/
def Told (n0 : Nat) (s : List (Nat × Nat)) (E : Env) (H : Heap) (E1 : Env) (H1 : Heap) (n1 : Nat) : Prop :=
  envOk (sg s) n1 E E1 ∧ heapOk (sg s) n1 H H1 ∧ (H1.map fun p => sg s p.1).Nodup ∧ (∀ p ∈ s, n0 ≤ p.1 ∧ p.1 < 1000) ∧ n0 ≤ n1

section
variable {P : Program} {ro : Option Nat} {N n0 : Nat} {Q : AQ} {E : Env} {H : Heap} {nx : Nat}

theorem awp_told {c : Code} {E1 : Env} {H1 : Heap} {n1 : Nat} (s : List (Nat × Nat)) (ht : Told n0 s E H E1 H1 n1) (h : AWP P ro N n0 c Q E1 H1 n1) : AWP P ro N n0 c Q E H nx :=
  awp_ren s ht.2.2.2.2 ht.1 ht.2.1 ht.2.2.1 ht.2.2.2.1 h

def loopQ {α : Type} (n0 : Nat) (Inv : α → Prop) (μ : α → Nat) (S : α → Env × Heap) (n1 : Nat) (x : α) (Q : AQ) : AQ
  | .normal => fun E H nx => ∃ x', Inv x' ∧ μ x' < μ x ∧ ∃ s, Told n0 s E H (S x').1 (S x').2 n1
  | e => Q e

/-- A loop, by the states at its head under fixed names. -/
theorem awp_loop_c {α : Type} {c : Code} (Inv : α → Prop) (μ : α → Nat) (S : α → Env × Heap) (n1 : Nat) (x0 : α) (hi : Inv x0) (s0 : List (Nat × Nat)) (h0 : Told n0 s0 E H (S x0).1 (S x0).2 n1)
    (h : ∀ x, Inv x → AWP P ro N n0 c (loopQ n0 Inv μ S n1 x Q) (S x).1 (S x).2 n1) : AWP P ro N n0 (.loop c) Q E H nx := by
  refine awp_loop (fun m E H nx => ∃ x s, Inv x ∧ μ x = m ∧ Told n0 s E H (S x).1 (S x).2 n1) (μ x0) ⟨x0, s0, hi, rfl, h0⟩ fun m E H nx hn ⟨x, s, hx, hm, ht⟩ => ?_
  subst hm
  refine awp_told s ht (awp_mono (h x hx) fun e E' H' nx' hq => ?_)
  cases e with
  | normal =>
    obtain ⟨x', h1, h2, s', h3⟩ := hq
    exact ⟨μ x', h2, x', s', h1, rfl, h3⟩
  | _ => exact hq

/-- A nil slice is a row of nothing. -/
theorem awp_nil {c : Code} {t : Nat} (e sz : Nat) (ht : get E t = some (.raw (.slice none 0 0))) (hn : nx < 1000) (h : AWP P ro N n0 c Q ((t, .ref nx) :: E) (put H nx (.row e sz [])) (nx + 1)) : AWP P ro N n0 c Q E H nx := by
  intro C a w Qc hn0 hR hK
  obtain ⟨h1, _, h3⟩ := hR.env t _ ht
  have hnx : ¬ UU nx nx := fun hu => by rcases hu with hu | hu <;> omega
  have hs := StepR.new (U := UU nx) (w' := w) hR.toRelH rfl rfl rfl (Nat.le_refl _) (fun _ _ => rfl) hnx (v := .slice none 0 0) (own := []) rfl (by simp) (.row e sz [])
  have hH := RelH.new (U := UU nx) (w' := w) hR.toRelH rfl rfl rfl (Nat.le_refl _) (fun _ _ => rfl) hnx (v := .slice none 0 0) (own := []) rfl (by simp) (o := .row e sz []) ⟨.own0 e sz, List.nodup_nil⟩ trivial
  have hR' := hR.change hs (fun _ h => .inl h) hH
  have hU : (fun j => UU nx j ∨ j = nx) = UU (nx + 1) := by rw [← addU_one, addU_UU]
  rw [hU] at hR' hH
  have hR2 : Rel (C.new nx (.slice none 0 0) [] rfl) N ((t, .ref nx) :: E) (put H nx (.row e sz [])) (UU (nx + 1)) a w :=
    { toRelH := hH, size := hR'.size, hB := hR'.hB, nodup := hR'.nodup, marks := hR'.marks
      env := fun t' x' ht' => by
        rw [get_cons] at ht'
        split at ht'
        · rename_i e'
          subst e'
          cases ht'
          refine ⟨h1, .inl (by omega), ?_⟩
          generalize a.tmps.getD t undef = v at h3
          cases h3
          have : Rep (C.new nx (.slice none 0 0) [] rfl).ρ ((C.new nx (.slice none 0 0) [] rfl).avoid (put H nx (.row e sz []))) w.heap (.ref nx) ((C.new nx (.slice none 0 0) [] rfl).ρ nx) := .ref nx
          rwa [show (C.new nx (.slice none 0 0) [] rfl).ρ nx = .slice none 0 0 from upd_same _ _ _] at this
        · exact hR'.env t' x' ht' }
  exact h _ a w Qc (by omega) hR2 fun e' E' H' nx' C' a' w' hn' hR3 hs3 hQ => hK e' E' H' nx' C' a' w' hn' hR3 ((hs.fewerNames (UU_mono hn0)).trans (fun _ h => h) hs3) hQ

/-- A call, by what the function gives. -/
theorem lstep_gives {o : Oper} {b0 : Nat} {ds : List (Option Tmp)} {c : Call} {f : Nat} {fn : Func} {code : Code} {args : List AV} {nd H1 : Heap} {m0 n1 : Nat} {r0 : AV} (s : List (Nat × Nat)) (nw : Nat) (hg : o.guard = none) (ho : o.op = .call c) (hc : c.callee = .value (.func f)) (hT : FnT P f fn code)
    (hN : ∀ d, o.dst = some d → d < N) (hM : Gives P f args nd m0 r0 H1 n1) (hn : n1 = m0 + nw) (hargs : c.args.toList.map (opv E) = (renL (sg s) args).map some) (hab : belL (UU m0) args) (hF : FitC H s nd m0 nw H1) :
    LStep P ro N ds o b0 E H (tmpsOf c.args.toList) (nd.map fun p => sg s p.1) (r0.ren (shift (sg s) m0 nx nw)) (H1.map fun p => (shift (sg s) m0 nx nw p.1, p.2.ren (shift (sg s) m0 nx nw))) nx nw := by
  subst hn
  exact lstep_call s hg ho hc hT hN hM hargs hab hF

end
end Go.Abs
end

/- Abs19 -/
section
/- The abstract layer, nineteenth part: what the reckoning unfolds. -/
namespace Go.Abs
open Go

attribute [go_sem] List.toList_toArray List.map_cons List.map_nil evOp evField evLoad evStore evBuild evCall evAppend evBin evNil evUn evPick evIndex evMakeSlice evSlice boundV nilOf nilCmp pk_true pk_false strip iop sop evIndexAddr evBuildSlice app1 app2 appRow appRaw appRaw2 absorbs absorb absorbL absorb1 isEnum opsL AV.fitsEl AV.width AV.solid AV.elem AV.scO AV.notAgg elSet isPtr lenAV lenRaw buildL opsV elPart addF opv get_cons Option.map_some Option.map_none over Abs.put putO Bool.and_true Bool.true_and if_true or_true true_and if_false reduceIte Nat.zero_add List.getElem?_cons_zero List.getElem?_cons_succ Bool.false_eq_true true_or Option.join_some Option.bind_some tmpsOf opnds topsOf idsOf refsIn AV.bel belL UU unE unwhen unOk whenOk imp_self List.length_cons List.length_nil deads List.append_nil List.nil_append List.not_mem_nil forall_const cellsL AV.sc AV.free freeL Value.oneCell' List.all_cons List.all_nil splice List.take_succ_cons List.take_zero List.drop_succ_cons List.drop_zero List.cons_append not_false_eq_true List.take_nil List.drop_nil Option.toList List.append_eq List.reverse_cons List.reverse_nil false_implies beq_self_eq_true decide_true List.nodup_cons List.nodup_nil List.mem_singleton forall_eq Nat.one_ne_zero List.set_cons_zero List.set_cons_succ List.length_map Int.toNat_natCast List.getElem?_map
theorem AV.ren_nil (x : AV) : x.ren (sg []) = x := AV.ren_id x
theorem renL_nil (xs : List AV) : renL (sg []) xs = xs := renL_id xs
theorem AObj.ren_nil (o : AObj) : o.ren (sg []) = o := by
  cases o with
  | cells t cs => show AObj.cells t (renL (sg []) cs) = _; rw [renL_nil]
  | row e sz xs => show AObj.row e sz (renL (sg []) xs) = _; rw [renL_nil]
  | map kt et m =>
    show AObj.map kt et (m.map fun p => (p.1, p.2.ren (sg []))) = _
    congr 1
    conv => rhs; rw [← List.map_id m]
    exact List.map_congr_left fun p _ => by rw [AV.ren_nil]; rfl
  | mapS kt et m k st =>
    show AObj.mapS kt et (m.map fun p => (p.1, p.2.ren (sg []))) k st = _
    congr 1
    conv => rhs; rw [← List.map_id m]
    exact List.map_congr_left fun p _ => by rw [AV.ren_nil]; rfl
  | loop l rec No m =>
    show AObj.loop l rec No (m.map fun p => (p.1, p.2.ren (sg []))) = _
    congr 1
    conv => rhs; rw [← List.map_id m]
    exact List.map_congr_left fun p _ => by rw [AV.ren_nil]; rfl
  | _ => rfl
theorem sg_nil_at (i : Nat) : sg [] i = i := rfl
attribute [go_sem] AV.ren_nil renL_nil AObj.ren_nil sg_nil_at Told envOk heapOk

/-- The end of a function of data alone. -/
theorem final0 {P : Program} {vs : List ResultVar} {r0 : AV} {E : Env} {H : Heap} (h : (resAV P E H vs).map packAV = some r0) (hb : r0.bel (UU 0)) : Final P vs 0 r0 [] 0 E H :=
  ⟨[], by rw [AV.ren_nil]; exact h, trivial, List.nodup_nil, hb, (fun p hp => by cases hp), Nat.le_refl _⟩
attribute [go_sem] resAV packAV opsO

attribute [go_sem] implies_true and_true and_self athen inBlk

end Go.Abs
end

/- Abs20 -/
section
/- The abstract layer, twentieth part: maps. -/
set_option linter.unusedVariables false
set_option linter.unusedSimpArgs false
namespace Go.Abs
open Go Go.MapKept

/-- What keys of a type are: how they are found. -/
structure KeyT (P : Program) (kt : TypeId) (isKey : Value → Prop) : Prop where
  check : ∀ k, isKey k → ∀ (e : Bool) (w : World), (Instr.checkKey e 10000 kt k).run P w = .ok () w
  find : ∀ (k : Value) (es : List MapEntry) (w : World), isKey k → (∀ e ∈ es, isKey e.key) → ∃ r, (Instr.findKey kt k es).run P w = .ok r w ∧
    ((r = none ∧ ∀ e ∈ es, e.key ≠ k) ∨ ∃ (j : Nat) (e : MapEntry), r = some (j, e.val) ∧ es[j]? = some e ∧ e.key = k)
  bits : ∀ k, isKey k → Instr.sameBits 10000 k k = true

theorem keyT_plain {P : Program} {kt : TypeId} {d : TypeDesc} (hd : P.underlying kt = some d) (hb : ∀ k, IsKey d k → Instr.sameBits 10000 k k = true) : KeyT P kt (IsKey d) where
  check := fun k hk e w => run_checkKey hd hk e 9999
  find := fun k es w hk hes => by
    rcases findNow_spec hk es 0 hes with ⟨h1, h2⟩ | ⟨j, e, h1, h2, h3⟩
    · exact ⟨none, run_findKey hd h1, .inl ⟨rfl, h2⟩⟩
    · rw [Nat.zero_add] at h1
      exact ⟨_, run_findKey hd h1, .inr ⟨j, e, rfl, h2, h3⟩⟩
  bits := hb

section
variable {P : Program} {ro : Option Nat} {N : Nat} {o : Oper} {E : Env} {H : Heap} {U : Nat → Prop}

/-- The entries of a map as it is told. -/
theorem map_at {C : Conc} {a : Act} {w : World} {i : Nat} {kt et : TypeId} {m : List (Value × AV)} (hR : RelH C H U w) (hH : get H i = some (.map kt et m)) : ∃ b es clock, C.ρ i = .map (some b) ∧ C.own i = [b] ∧ w.heap[b]? = some (.map es clock) ∧ es.size = m.length ∧ es.size < maxLen ∧
    (∀ (j : Nat) (k : Value) (x : AV), m[j]? = some (k, x) → ∃ e, es[j]? = some e ∧ e.key = k ∧ Rep C.ρ (C.avoid H) w.heap x e.val) ∧
    (∀ (j : Nat) (e : MapEntry), es[j]? = some e → e.born < clock ∧ ∀ (i : Nat) (d : MapEntry), es[i]? = some d → d.born = e.born → i = j) := hR.obj i _ hH

theorem keys_of {es : Array MapEntry} {m : List (Value × AV)} {ρ : Nat → Value} {av : Nat → Prop} {hp : Array Obj} (hsz : es.size = m.length) (h : ∀ (j : Nat) (k : Value) (x : AV), m[j]? = some (k, x) → ∃ e, es[j]? = some e ∧ e.key = k ∧ Rep ρ av hp x e.val) {isKey : Value → Prop} (hk : ∀ p ∈ m, isKey p.1) :
    ∀ e ∈ es.toList, isKey e.key := fun e he => by
  obtain ⟨j, hj⟩ := List.getElem?_of_mem he
  rw [Array.getElem?_toList] at hj
  have hjl := (Array.getElem?_eq_some_iff.1 hj).1
  have hm : m[j]? = some (m[j]'(by omega)) := List.getElem?_eq_getElem (by omega)
  obtain ⟨e', he', hke, _⟩ := h j (m[j]'(by omega)).1 (m[j]'(by omega)).2 hm
  rw [hj] at he'
  cases he'
  rw [hke]
  exact hk _ (List.getElem_mem _)

/-- Where a key is, or that it is nowhere. -/
def MGet (m : List (Value × AV)) (k : Value) (r : Option (Nat × AV)) : Prop :=
  match r with
  | none => ∀ p ∈ m, p.1 ≠ k
  | some (j, x) => m[j]? = some (k, x)

/-- What a lookup gives. -/
def lookAV (z : AV) (ok : Bool) (r : Option (Nat × AV)) : AV :=
  let v := match r with | some (_, x) => x | none => z
  if ok then .tup [v, .raw (.bool r.isSome)] else v

theorem run_find {kt : TypeId} {isKey : Value → Prop} (hK : KeyT P kt isKey) {k : Value} {es : Array MapEntry} {m : List (Value × AV)} {ρ : Nat → Value} {av : Nat → Prop} {w : World} (hsz : es.size = m.length)
    (h : ∀ (j : Nat) (k : Value) (x : AV), m[j]? = some (k, x) → ∃ e, es[j]? = some e ∧ e.key = k ∧ Rep ρ av w.heap x e.val) (hk : ∀ p ∈ m, isKey p.1) (hkk : isKey k) (hnd : (m.map (·.1)).Nodup) {r : Option (Nat × AV)} (hr : MGet m k r) :
    match r with
    | none => (Instr.findKey kt k es.toList).run P w = .ok none w
    | some (j, x) => ∃ e, es[j]? = some e ∧ e.key = k ∧ Rep ρ av w.heap x e.val ∧ (Instr.findKey kt k es.toList).run P w = .ok (some (j, e.val)) w := by
  obtain ⟨r', h1, h2⟩ := hK.find k es.toList w hkk (keys_of hsz h hk)
  have at_m : ∀ (j : Nat) (e : MapEntry), es[j]? = some e → ∃ x, m[j]? = some (e.key, x) := fun j e hj => by
    have hjl := (Array.getElem?_eq_some_iff.1 hj).1
    have hm : m[j]? = some (m[j]'(by omega)) := List.getElem?_eq_getElem (by omega)
    obtain ⟨e', he', hke, _⟩ := h j (m[j]'(by omega)).1 (m[j]'(by omega)).2 hm
    rw [hj] at he'
    cases he'
    exact ⟨(m[j]'(by omega)).2, by rw [hm, hke]⟩
  cases r with
  | none =>
    rcases h2 with ⟨rfl, _⟩ | ⟨j, e, rfl, hj, hke⟩
    · exact h1
    · rw [Array.getElem?_toList] at hj
      obtain ⟨x, hx⟩ := at_m j e hj
      exact absurd hke (hr _ (List.mem_of_getElem? hx))
  | some p =>
    obtain ⟨j, x⟩ := p
    obtain ⟨e, he, hke, hrep⟩ := h j k x hr
    refine ⟨e, he, hke, hrep, ?_⟩
    rcases h2 with ⟨rfl, hno⟩ | ⟨j', e', rfl, hj', hke'⟩
    · exact absurd hke (hno e (by rw [Array.mem_toList_iff]; exact Array.mem_of_getElem? he))
    · rw [Array.getElem?_toList] at hj'
      obtain ⟨x', hx'⟩ := at_m j' e' hj'
      have hjj : j' = j := by
        have a1 := (List.getElem?_eq_some_iff.1 hx').1
        have a2 := (List.getElem?_eq_some_iff.1 hr).1
        have q1 : (m.map (·.1))[j']? = some k := by rw [List.getElem?_map, hx', ← hke']; rfl
        have q2 : (m.map (·.1))[j]? = some k := by
          have : m[j]? = some (k, x) := hr
          rw [List.getElem?_map, this]; rfl
        obtain ⟨l1, e1⟩ := List.getElem?_eq_some_iff.1 q1
        obtain ⟨l2, e2⟩ := List.getElem?_eq_some_iff.1 q2
        exact (List.getElem_inj hnd).mp (e1.trans e2.symm)
      subst hjj
      rw [he] at hj'
      cases hj'
      exact h1

theorem opT_lookupG {t kt et : TypeId} {x y : Operand} {ok : Bool} {i : Nat} {m : List (Value × AV)} {isKey : Value → Prop} {k : Value} {z : AV} {r : Option (Nat × AV)} (ho : o.op = .lookup t x y ok) (hN : ∀ d, o.dst = some d → d < N) (hm : mapInfo P t = some (kt, et)) (hz : zeroEl P et = some z)
    (hK : KeyT P kt isKey) (hx : opv E x = some (.ref i)) (hat : ∀ (C : Conc) (a : Act) (w : World), Rel C N E H U a w → (∃ b es clock, C.ρ i = .map (some b) ∧ w.heap[b]? = some (.map es clock) ∧ es.size = m.length ∧
      (∀ (j : Nat) (k : Value) (x : AV), m[j]? = some (k, x) → ∃ e, es[j]? = some e ∧ e.key = k ∧ Rep C.ρ (C.avoid H) w.heap x e.val)) ∧ belL U (m.map (·.2))) {kav : AV} (hy : opv E y = some kav) (hkv : ∀ (ρ : Nat → Value) (av : Nat → Prop) (hp : Array Obj) (v : Value), Rep ρ av hp kav v → v = k)
    (hkk : isKey k) (hk : ∀ p ∈ m, isKey p.1) (hnd : (m.map (·.1)).Nodup) (hr : MGet m k r) : OpT P ro N o E H U (putO E o.dst (lookAV z ok r)) H U := by
  obtain ⟨iz, zv, hiz, hzz, _, hzr, hzb⟩ := zeroEl_open hz
  refine opT_val (by simp [ho, Op.noDefer]) hN fun C a w hR => ?_
  obtain ⟨h1, _⟩ := hR.opv hx
  obtain ⟨h2, _⟩ := hR.opv hy
  have hkey := hkv _ _ _ _ h2
  obtain ⟨⟨b, es, clock, hρ, hb, hsz, hent⟩, hbelm⟩ := hat C a w hR
  have hev : a.eval x = .map (some b) := by generalize a.eval x = v at h1; cases h1; exact hρ
  have hfind := run_find (P := P) (w := w) hK hsz hent hk hkk hnd hr
  have hchk := hK.check k hkk es.isEmpty w
  have hzv : (zeroValue et).run P w = .ok zv w := by simp [zeroValue, typeInfo, hiz, hzz]
  have hg := MapKept.run_getObj_map (P := P) (w := w) hb
  have hbase : ∀ (v : Value) (f : Bool), (match r with | none => v = zv ∧ f = false | some (j, x) => ∃ e, es[j]? = some e ∧ v = e.val ∧ f = true) → (Instr.lookup t (.map (some b)) k ok).run P w = .ok (if ok then .tuple #[v, .bool f] else v) w := fun v f hv => by
    simp only [Instr.lookup, Sem.run_bind, run_underlying (mapInfo_open hm), Result.andThen_ok, hg, Sem.run_pure, hchk]
    cases r with
    | none =>
      obtain ⟨rfl, rfl⟩ := hv
      simp only [hfind, Result.andThen_ok, Sem.run_bind, hzv, Sem.run_pure]
    | some p =>
      obtain ⟨j, xx⟩ := p
      obtain ⟨e, he, rfl, rfl⟩ := hv
      obtain ⟨e', he', _, _, hf⟩ := hfind
      rw [he] at he'
      cases he'
      simp only [hf, Result.andThen_ok, Sem.run_bind, Sem.run_pure]
  cases r with
  | none =>
    have hl := hbase zv false ⟨rfl, rfl⟩
    cases ok with
    | true =>
      refine ⟨⟨hzb U, trivial, trivial⟩, .tuple #[zv, .bool false], by simp [execOp, ho, hev, hkey, hl], ?_⟩
      refine .tup _ _ rfl fun j q hj => ?_
      match j, hj with
      | 0, hj => cases hj; exact hzr _ _ _
      | 1, hj => cases hj; exact .raw _
      | j + 2, hj => cases hj
    | false => exact ⟨hzb U, _, by simp [execOp, ho, hev, hkey, hl], hzr _ _ _⟩
  | some p =>
    obtain ⟨j, xx⟩ := p
    obtain ⟨e, he, hke, hrep, _⟩ := hfind
    have hl := hbase e.val true ⟨e, he, rfl, rfl⟩
    have hbx : xx.bel U := belL_get hbelm (j := j) (by rw [List.getElem?_map, show m[j]? = some (k, xx) from hr]; rfl)
    cases ok with
    | true =>
      refine ⟨⟨hbx, trivial, trivial⟩, .tuple #[e.val, .bool true], by simp [execOp, ho, hev, hkey, hl], ?_⟩
      refine .tup _ _ rfl fun j q hj => ?_
      match j, hj with
      | 0, hj => cases hj; exact hrep
      | 1, hj => cases hj; exact .raw _
      | j + 2, hj => cases hj
    | false => exact ⟨hbx, _, by simp [execOp, ho, hev, hkey, hl], hrep⟩

theorem opT_lookup {t kt et : TypeId} {x y : Operand} {ok : Bool} {i : Nat} {m : List (Value × AV)} {isKey : Value → Prop} {k : Value} {z : AV} {r : Option (Nat × AV)} (ho : o.op = .lookup t x y ok) (hN : ∀ d, o.dst = some d → d < N) (hm : mapInfo P t = some (kt, et)) (hz : zeroEl P et = some z)
    (hK : KeyT P kt isKey) (hx : opv E x = some (.ref i)) (hH : get H i = some (.map kt et m)) {kav : AV} (hy : opv E y = some kav) (hkv : ∀ (ρ : Nat → Value) (av : Nat → Prop) (hp : Array Obj) (v : Value), Rep ρ av hp kav v → v = k)
    (hkk : isKey k) (hk : ∀ p ∈ m, isKey p.1) (hnd : (m.map (·.1)).Nodup) (hr : MGet m k r) : OpT P ro N o E H U (putO E o.dst (lookAV z ok r)) H U :=
  opT_lookupG ho hN hm hz hK hx (fun C a w hR => by
    obtain ⟨b, es, clock, hρ, hown, hb, hsz, hlt, hent, hborn⟩ := map_at (a := a) hR.toRelH hH
    exact ⟨⟨b, es, clock, hρ, hb, hsz, hent⟩, (hR.objb i _ hH).2⟩) hy hkv hkk hk hnd hr

theorem size_setBlock (w : World) (b : Nat) (o : Obj) : ({ w with heap := w.heap.setIfInBounds b o } : World).heap.size = w.heap.size := by simp

/-- What an update makes of a map. -/
def mapPut (m : List (Value × AV)) (k : Value) (v : AV) : Option (Nat × AV) → List (Value × AV)
  | some (j, _) => m.set j (k, v)
  | none => m ++ [(k, v)]

theorem mapPut_rep {ρ : Nat → Value} {av : Nat → Prop} {hp : Array Obj} {es : Array MapEntry} {m : List (Value × AV)} {k u : Value} {v : AV} {clock : Nat} {r : Option (Nat × AV)} (hsz : es.size = m.length)
    (h : ∀ (j : Nat) (k : Value) (x : AV), m[j]? = some (k, x) → ∃ e, es[j]? = some e ∧ e.key = k ∧ Rep ρ av hp x e.val) (hv : Rep ρ av hp v u) (hr : MGet m k r) :
    let es' := match r with | some (j, _) => es.modify j fun e => { e with key := k, val := u } | none => es.push { key := k, val := u, born := clock }
    es'.size = (mapPut m k v r).length ∧ ∀ (j : Nat) (k' : Value) (x : AV), (mapPut m k v r)[j]? = some (k', x) → ∃ e, es'[j]? = some e ∧ e.key = k' ∧ Rep ρ av hp x e.val := by
  cases r with
  | none =>
    refine ⟨by simp [mapPut, hsz], fun j k' x hj => ?_⟩
    simp only [mapPut] at hj ⊢
    rcases Nat.lt_or_ge j m.length with h1 | h1
    · rw [List.getElem?_append_left h1] at hj
      obtain ⟨e, he, hk, hx⟩ := h j k' x hj
      exact ⟨e, by rw [Array.getElem?_push, if_neg (by omega)]; exact he, hk, hx⟩
    · rw [List.getElem?_append_right h1] at hj
      have hj0 : j = m.length := by
        have := (List.getElem?_eq_some_iff.1 hj).1
        simp at this
        omega
      subst hj0
      simp only [Nat.sub_self, List.getElem?_cons_zero, Option.some.injEq, Prod.mk.injEq] at hj
      obtain ⟨rfl, rfl⟩ := hj
      exact ⟨_, by rw [Array.getElem?_push, if_pos (by omega)], rfl, hv⟩
  | some p =>
    obtain ⟨q, y⟩ := p
    refine ⟨by simp [mapPut, hsz], fun j k' x hj => ?_⟩
    simp only [mapPut] at hj ⊢
    rw [List.getElem?_set] at hj
    by_cases e : q = j
    · subst e
      rw [if_pos rfl] at hj
      split at hj
      · cases hj
        obtain ⟨e, he, _, _⟩ := h q k y hr
        exact ⟨{ e with key := k, val := u }, by rw [Array.getElem?_modify, if_pos rfl, he]; rfl, rfl, hv⟩
      · cases hj
    · rw [if_neg e] at hj
      obtain ⟨e', he, hk, hx⟩ := h j k' x hj
      exact ⟨e', by rw [Array.getElem?_modify, if_neg e]; exact he, hk, hx⟩

theorem opT_mapUpdate {t kt et : TypeId} {x y z : Operand} {i : Nat} {m : List (Value × AV)} {isKey : Value → Prop} {k : Value} {kav v : AV} {r : Option (Nat × AV)} (ho : o.op = .mapUpdate t x y z) (hN : ∀ d, o.dst = some d → d < N) (hm : mapInfo P t = some (kt, et))
    (hK : KeyT P kt isKey) (hx : opv E x = some (.ref i)) (hH : get H i = some (.map kt et m)) (hy : opv E y = some kav) (hkv : ∀ (ρ : Nat → Value) (av : Nat → Prop) (hp : Array Obj) (v : Value), Rep ρ av hp kav v → v = k) (hz : opv E z = some v)
    (hkk : isKey k) (hk : ∀ p ∈ m, isKey p.1) (hnd : (m.map (·.1)).Nodup) (hr : MGet m k r) (hlen : m.length + 1 < maxLen) : OpT P ro N o E H U (putO E o.dst (.raw undef)) (put H i (.map kt et (mapPut m k v r))) U := by
  intro C a w next Q hR hnext
  obtain ⟨h1, _⟩ := hR.opv hx
  obtain ⟨h2, _⟩ := hR.opv hy
  obtain ⟨h3, h3b⟩ := hR.opv hz
  have hkey := hkv _ _ _ _ h2
  obtain ⟨b, es, clock, hρ, hown, hb, hsz, hlt, hent, hborn⟩ := map_at (a := a) hR.toRelH hH
  have hev : a.eval x = .map (some b) := by generalize a.eval x = v at h1; cases h1; exact hρ
  have hbelm := (hR.objb i _ hH).2
  have hfind := run_find (P := P) (w := w) hK hsz hent hk hkk hnd hr
  have hchk := hK.check k hkk false w
  have hg := MapKept.run_getObj_map (P := P) (w := w) hb
  obtain ⟨p1, p2⟩ := mapPut_rep (clock := clock) hsz hent h3 hr
  have hblt := lt_of_block hb
  -- the entries behind it
  have key : ∃ es' clock', (Instr.mapUpdate t (.map (some b)) k (a.eval z)).run P w = .ok () { w with heap := w.heap.setIfInBounds b (.map es' clock') } ∧ es'.size = (mapPut m k v r).length ∧ es'.size < maxLen ∧
      (∀ (j : Nat) (k' : Value) (x : AV), (mapPut m k v r)[j]? = some (k', x) → ∃ e, es'[j]? = some e ∧ e.key = k' ∧ Rep C.ρ (C.avoid H) w.heap x e.val) ∧
      (∀ (j : Nat) (e : MapEntry), es'[j]? = some e → e.born < clock' ∧ ∀ (i : Nat) (d : MapEntry), es'[i]? = some d → d.born = e.born → i = j) := by
    cases r with
    | none =>
      refine ⟨es.push { key := k, val := a.eval z, born := clock }, clock + 1, ?_, p1, by simp; omega, p2, fun j e hj => ?_⟩
      · simp only [Instr.mapUpdate, Sem.run_bind, run_underlying (mapInfo_open hm), Result.andThen_ok, hg, hchk, hfind]
        exact MapKept.run_setObj_map _ hb
      · rw [Array.getElem?_push] at hj
        split at hj
        · cases hj
          refine ⟨Nat.lt_succ_self _, fun i' d hi' hd => ?_⟩
          rw [Array.getElem?_push] at hi'
          split at hi'
          · omega
          · have := (hborn i' d hi').1
            simp only at hd
            omega
        · obtain ⟨q1, q2⟩ := hborn j e hj
          refine ⟨by omega, fun i' d hi' hd => ?_⟩
          rw [Array.getElem?_push] at hi'
          split at hi'
          · cases hi'
            simp only at hd
            omega
          · exact q2 i' d hi' hd
    | some p =>
      obtain ⟨j, y'⟩ := p
      obtain ⟨e, he, hke, _, hf⟩ := hfind
      refine ⟨es.modify j fun e => { e with key := k, val := a.eval z }, clock, ?_, p1, by simpa using hlt, p2, fun j' e' hj' => ?_⟩
      · have hst : (Instr.keyThatStays k k).run P w = .ok k w := by simp [Instr.keyThatStays, hK.bits k hkk]
        have hke' : ((es[j]?).map (·.key)).getD k = k := by rw [he]; exact hke
        simp only [Instr.mapUpdate, Sem.run_bind, run_underlying (mapInfo_open hm), Result.andThen_ok, hg, hchk, hf, hke', hst]
        exact MapKept.run_setObj_map _ hb
      · have at' : ∀ (q : Nat) (d : MapEntry), (es.modify j fun e => { e with key := k, val := a.eval z })[q]? = some d → ∃ d', es[q]? = some d' ∧ d'.born = d.born := fun q d hq => by
          rw [Array.getElem?_modify] at hq
          split at hq
          · obtain ⟨d', hd', rfl⟩ := Option.map_eq_some_iff.1 hq
            exact ⟨d', hd', rfl⟩
          · exact ⟨d, hq, rfl⟩
        obtain ⟨d, hd, hbd⟩ := at' j' e' hj'
        obtain ⟨q1, q2⟩ := hborn j' d hd
        refine ⟨by omega, fun i' d2 hi' hd2 => ?_⟩
        obtain ⟨d3, hd3, hbd3⟩ := at' i' d2 hi'
        exact q2 i' d3 hd3 (by omega)
  obtain ⟨es', clock', hrun, k1, k2, k3, k4⟩ := key
  have hother : ∀ q, q ≠ b → (w.heap.setIfInBounds b (.map es' clock'))[q]? = w.heap[q]? := fun q hq => by rw [Array.getElem?_setIfInBounds, if_neg (fun e => hq e.symm)]
  have hkeep : ∀ q, q ∉ C.own i → ({ w with heap := w.heap.setIfInBounds b (.map es' clock') } : World).heap[q]? = w.heap[q]? := fun q hq => hother q (fun e => hq (by rw [hown, e]; simp))
  have hs := StepR.inPlace (o' := .map kt et (mapPut m k v r)) hR.toRelH (w' := { w with heap := w.heap.setIfInBounds b (.map es' clock') }) rfl rfl rfl (size_setBlock w b _) hH hkeep
  have hav : ∀ q, q < w.heap.size → ¬ C.avoid H q → ({ w with heap := w.heap.setIfInBounds b (.map es' clock') } : World).heap[q]? = w.heap[q]? := fun q _ hn => hkeep q (fun hb' => hn (.inr ⟨i, _, hH, hb'⟩))
  have hbel' : (AObj.map kt et (mapPut m k v r)).bel U := by
    have hbelm : belL U (m.map (·.2)) := hbelm
    show belL U _
    rw [belL_iff] at hbelm ⊢
    intro q hq
    cases r with
    | none =>
      simp only [mapPut, List.map_append, List.map_cons, List.map_nil, List.mem_append, List.mem_singleton] at hq
      rcases hq with h | h
      · exact hbelm q h
      · rw [h]; exact h3b
    | some p =>
      simp only [mapPut, List.map_set] at hq
      rcases List.mem_or_eq_of_mem_set hq with h | h
      · exact hbelm q h
      · rw [h]; exact h3b
  have hRH := hR.toRelH.inPlace (w' := { w with heap := w.heap.setIfInBounds b (.map es' clock') }) rfl rfl rfl (size_setBlock w b _) hH (o' := .map kt et (mapPut m k v r)) hkeep
    ⟨b, es', clock', hρ, hown, by show (w.heap.setIfInBounds b _)[b]? = _; simp [hblt], k1, k2, fun j k' x hj => by obtain ⟨e, he, hke, hx⟩ := k3 j k' x hj; exact ⟨e, he, hke, hx.mono (fun _ _ h => h) hav⟩, k4⟩ hbel'
  have hR' := hR.change hs (fun _ h => h) hRH
  refine wpIn_skipped (by simp [ho, Op.noDefer]) (w' := { w with heap := w.heap.setIfInBounds b (.map es' clock') }) (by simp [execOp, ho, hev, hkey, hrun]) (hnext C _ _ (hR'.put hN (.raw _) trivial) hs)

end
end Go.Abs
end

/- Abs21 -/
section
/- The abstract layer, twenty-first part: maps' operations as steps. -/
set_option linter.unusedVariables false
set_option linter.unusedSimpArgs false
namespace Go.Abs
open Go Go.MapKept

section
variable {P : Program} {ro : Option Nat} {N : Nat} {o : Oper} {E : Env} {H : Heap} {nx b0 : Nat} {ds : List (Option Tmp)}

theorem lstep_of_opT {rt rd : List Nat} {val : AV} {ps : Heap} {nw : Nat} (hg : o.guard = none)
    (h : ∀ (E' : Env) (H' : Heap) (U : Nat → Prop), (∀ t ∈ rt, get E' t = get E t) → (∀ i ∈ rd, get H' i = get H i) → (∀ j, nx ≤ j → j < nx + nw → ¬ U j) → OpT P ro N o E' H' U (putO E' o.dst val) (over H' ps) (addU U nx nw)) :
    LStep P ro N ds o b0 E H rt rd val ps nx nw :=
  fun E' H' U hE hH hU hnx C a w next Q hR hK => GS_plain hg (h E' H' U hE hH hnx C a w next Q hR hK)

def rawOf : AV → Option Value
  | .raw v => some v
  | _ => none
/-- A value of known parts is one value. -/
def keyV : AV → Option Value
  | .raw v => some v
  | .agg cs => (cs.mapM rawOf).map fun vs => .agg vs.toArray
  | _ => none

theorem keyV_aux {ρ : Nat → Value} {av : Nat → Prop} {hp : Array Obj} : ∀ (cs : List AV) (vs us : List Value), (cs.mapM rawOf) = some vs → us.length = cs.length → (∀ (j : Nat) (x : AV), cs[j]? = some x → Rep ρ av hp x (us.getD j undef)) → us = vs
  | [], vs, us, h, hl, _ => by
    simp at h
    subst h
    exact List.eq_nil_of_length_eq_zero hl
  | c :: cs, vs, [], h, hl, _ => by simp at hl
  | c :: cs, vs, u :: us, h, hl, hr => by
    simp only [List.mapM_cons, Option.pure_def, Option.bind_eq_bind] at h
    obtain ⟨v, hv, h⟩ := Option.bind_eq_some_iff.1 h
    obtain ⟨vs', hvs, h⟩ := Option.bind_eq_some_iff.1 h
    cases h
    have h0 := hr 0 c rfl
    have ih := keyV_aux cs vs' us hvs (by simpa using hl) fun j x hj => by simpa using hr (j + 1) x (by simpa using hj)
    cases c with
    | raw w =>
      simp only [rawOf, Option.some.injEq] at hv
      subst hv
      simp only [List.getD_cons_zero] at h0
      cases h0
      rw [ih]
    | _ => cases hv

theorem keyV_rep {x : AV} {k : Value} (h : keyV x = some k) (ρ : Nat → Value) (av : Nat → Prop) (hp : Array Obj) (v : Value) (hr : Rep ρ av hp x v) : v = k := by
  cases x with
  | raw u => simp only [keyV, Option.some.injEq] at h; subst h; cases hr; rfl
  | agg cs =>
    simp only [keyV] at h
    obtain ⟨vs, hvs, rfl⟩ := Option.map_eq_some_iff.1 h
    cases hr with
    | agg _ us hn hrep =>
      have := keyV_aux cs vs us.toList hvs (by simpa using hn) fun j x hj => by
        have := hrep j x hj
        simpa [Array.getD_eq_getD_getElem?, List.getD_eq_getElem?_getD] using this
      rw [← this]
  | _ => simp [keyV] at h

theorem lstep_lookup {t kt et : TypeId} {x y : Operand} {ok : Bool} {i : Nat} {m : List (Value × AV)} {isKey : Value → Prop} {k : Value} {z kav : AV} {r : Option (Nat × AV)} (hg : o.guard = none) (ho : o.op = .lookup t x y ok) (hN : ∀ d, o.dst = some d → d < N) (hm : mapInfo P t = some (kt, et)) (hz : zeroEl P et = some z)
    (hK : KeyT P kt isKey) (hx : opv E x = some (.ref i)) (hH : get H i = some (.map kt et m)) (hy : opv E y = some kav) (hkv : keyV kav = some k) (hkk : isKey k) (hk : ∀ p ∈ m, isKey p.1) (hnd : (m.map (·.1)).Nodup) (hr : MGet m k r) :
    LStep P ro N ds o b0 E H (tmpsOf [x, y]) [i] (lookAV z ok r) [] nx 0 := by
  refine lstep_of_opT hg fun E' H' U hE hH' _ => ?_
  rw [addU_zero]
  have hops := opv_congr hE
  exact opT_lookup ho hN hm hz hK (by rw [hops x (by simp)]; exact hx) (by rw [hH' i (by simp)]; exact hH) (by rw [hops y (by simp)]; exact hy) (keyV_rep hkv) hkk hk hnd hr

theorem lstep_mapUpdate {t kt et : TypeId} {x y z : Operand} {i : Nat} {m : List (Value × AV)} {isKey : Value → Prop} {k : Value} {kav v : AV} {r : Option (Nat × AV)} (hg : o.guard = none) (ho : o.op = .mapUpdate t x y z) (hN : ∀ d, o.dst = some d → d < N) (hm : mapInfo P t = some (kt, et))
    (hK : KeyT P kt isKey) (hx : opv E x = some (.ref i)) (hH : get H i = some (.map kt et m)) (hy : opv E y = some kav) (hkv : keyV kav = some k) (hz : opv E z = some v) (hkk : isKey k) (hk : ∀ p ∈ m, isKey p.1) (hnd : (m.map (·.1)).Nodup) (hr : MGet m k r) (hlen : m.length + 1 < maxLen) :
    LStep P ro N ds o b0 E H (tmpsOf [x, y, z]) [i] (.raw undef) [(i, .map kt et (mapPut m k v r))] nx 0 := by
  refine lstep_of_opT hg fun E' H' U hE hH' _ => ?_
  rw [addU_zero]
  have hops := opv_congr hE
  exact opT_mapUpdate ho hN hm hK (by rw [hops x (by simp)]; exact hx) (by rw [hH' i (by simp)]; exact hH) (by rw [hops y (by simp)]; exact hy) (keyV_rep hkv) (by rw [hops z (by simp)]; exact hz) hkk hk hnd hr hlen

end
end Go.Abs
end

/- Abs22 -/
section
/- The abstract layer, twenty-second part: which keys are found how. -/
set_option linter.unusedVariables false
set_option linter.unusedSimpArgs false
namespace Go.Abs
open Go Go.MapKept
variable {P : Program}
def isSI (v : Value) : Prop := ∃ s n, v = .agg #[.string s, .int .i64 n]

theorem check_SI {kt : TypeId} {f1 f2 : Field} (hu : P.underlying kt = some (.struct #[f1, f2])) (h1 : f1.name ≠ "_") (h2 : f2.name ≠ "_") (t1 : P.underlying f1.type = some .string) (t2 : P.underlying f2.type = some (.int .i64)) (o1 : f1.offset = 0) (o2 : f2.offset = 1)
   (k : Value) (hk : isSI k) (e : Bool) (w : World) : (Instr.checkKey e 10000 kt k).run P w = .ok () w := by
  obtain ⟨s, n, rfl⟩ := hk
  have c1 : ∀ w, (Instr.checkKey e 9999 f1.type (.string s)).run P w = .ok () w := fun w => by
    rw [show (9999 : Nat) = 9998 + 1 from rfl, Instr.checkKey, Sem.run_bind, run_underlying t1]; rfl
  have c2 : ∀ w, (Instr.checkKey e 9999 f2.type (.int .i64 n)).run P w = .ok () w := fun w => by
    rw [show (9999 : Nat) = 9998 + 1 from rfl, Instr.checkKey, Sem.run_bind, run_underlying t2]; rfl
  have p1 : ∀ w, (part f1.type #[.string s, .int .i64 n] f1.offset).run P w = .ok (.string s) w := fun w => by
    simp [part, isAgg, run_underlying t1, o1]
  have p2 : ∀ w, (part f2.type #[.string s, .int .i64 n] f2.offset).run P w = .ok (.int .i64 n) w := fun w => by
    simp [part, isAgg, run_underlying t2, o2]
  rw [show (10000 : Nat) = 9999 + 1 from rfl, Instr.checkKey, Sem.run_bind, run_underlying hu]
  simp [Result.andThen, h1, h2, p1, p2, c1, c2]

theorem equal_SI {kt : TypeId} {f1 f2 : Field} (hu : P.underlying kt = some (.struct #[f1, f2])) (hf : P.fieldsOf kt = #[f1, f2]) (hs : P.stoodInHeld kt = false) (h1 : f1.name ≠ "_") (h2 : f2.name ≠ "_") (t1 : P.underlying f1.type = some .string) (t2 : P.underlying f2.type = some (.int .i64)) (o1 : f1.offset = 0) (o2 : f2.offset = 1)
   (s s' : ByteArray) (n n' : Int) (w : World) : (Op.equal kt (.agg #[.string s, .int .i64 n]) (.agg #[.string s', .int .i64 n'])).run P w = .ok (s.toList == s'.toList && n == n') w := by
  have p1 : ∀ (s : ByteArray) (n : Int) w, (part f1.type #[.string s, .int .i64 n] f1.offset).run P w = .ok (.string s) w := fun s n w => by
    simp [part, isAgg, run_underlying t1, o1]
  have p2 : ∀ (s : ByteArray) (n : Int) w, (part f2.type #[.string s, .int .i64 n] f2.offset).run P w = .ok (.int .i64 n) w := fun s n w => by
    simp [part, isAgg, run_underlying t2, o2]
  unfold Op.equal
  rw [show Op.maxDepth = 9999 + 1 from rfl, run_equalIn_struct w 9999 kt _ _ (by rw [hf]; exact hu) hs, hf]
  have e1 : ∀ w, (Op.equalIn 9999 f1.type (.string s) (.string s')).run P w = .ok (s.toList == s'.toList) w := fun w => run_equalIn_string w 9998 f1.type s s' t1
  have e2 : ∀ w, (Op.equalIn 9999 f2.type (.int .i64 n) (.int .i64 n')).run P w = .ok (n == n') w := fun w => run_equalIn_int w 9998 f2.type .i64 .i64 n n' t2
  simp [Op.eqFields, h1, h2, p1, p2, e1, e2, Result.andThen]
  cases hss : (s.toList == s'.toList) <;> cases hnn : (n == n') <;> simp only [beq_eq_false_iff_ne, beq_iff_eq, ne_eq] at hss hnn <;> simp [hss, hnn]

theorem keyT_SI {kt : TypeId} {f1 f2 : Field} (hu : P.underlying kt = some (.struct #[f1, f2])) (hf : P.fieldsOf kt = #[f1, f2]) (hs : P.stoodInHeld kt = false) (h1 : f1.name ≠ "_") (h2 : f2.name ≠ "_") (t1 : P.underlying f1.type = some .string) (t2 : P.underlying f2.type = some (.int .i64)) (o1 : f1.offset = 0) (o2 : f2.offset = 1) : KeyT P kt isSI where
  check := fun k hk e w => check_SI hu h1 h2 t1 t2 o1 o2 k hk e w
  bits := fun k ⟨s, n, hk⟩ => by
    subst hk
    have hss : (s == s) = true := (bytes_beq s s).2 rfl
    rw [show (10000 : Nat) = 9998 + 1 + 1 from rfl]
    simp [Instr.sameBits, hss]
  find := fun k es w hk hes => by
    have hask : ∀ (es : List MapEntry) (i : Nat), (∀ e ∈ es, isSI e.key) → ∃ r, (Instr.findAsking kt k es i).run P w = .ok r w ∧ ((r = none ∧ ∀ e ∈ es, e.key ≠ k) ∨ ∃ (j : Nat) (e : MapEntry), r = some (i + j, e.val) ∧ es[j]? = some e ∧ e.key = k) := by
      intro es
      induction es with
      | nil => intro i _; exact ⟨none, rfl, .inl ⟨rfl, by simp⟩⟩
      | cons e es ih =>
        intro i hes
        obtain ⟨s, n, rfl⟩ := hk
        obtain ⟨s', n', he⟩ := hes e List.mem_cons_self
        have heq := equal_SI hu hf hs h1 h2 t1 t2 o1 o2 s s' n n' w
        have hiff : (s.toList == s'.toList && n == n') = true ↔ e.key = .agg #[.string s, .int .i64 n] := by
          rw [he, ← beq_toListBytes, Bool.and_eq_true, bytes_beq, beq_iff_eq]
          constructor
          · rintro ⟨rfl, rfl⟩; rfl
          · intro h; simp at h; exact ⟨h.1.symm, h.2.symm⟩
        cases hb' : (s.toList == s'.toList && n == n') with
        | true =>
          rw [hb'] at heq
          refine ⟨some (i, e.val), ?_, .inr ⟨0, e, rfl, rfl, hiff.1 hb'⟩⟩
          rw [Instr.findAsking, Sem.run_bind, he, heq]
          rfl
        | false =>
          rw [hb'] at heq
          obtain ⟨r, hr, hcase⟩ := ih (i + 1) (fun e' he' => hes e' (List.mem_cons_of_mem _ he'))
          refine ⟨r, ?_, ?_⟩
          · rw [Instr.findAsking, Sem.run_bind, he, heq]
            exact hr
          · have hne : e.key ≠ .agg #[.string s, .int .i64 n] := fun h => by rw [hiff.2 h] at hb'; cases hb'
            rcases hcase with ⟨rfl, h⟩ | ⟨j, e', rfl, hj, hke⟩
            · refine .inl ⟨rfl, fun e' he' => ?_⟩
              rcases List.mem_cons.1 he' with h' | h'
              · rw [h']; exact hne
              · exact h e' h'
            · exact .inr ⟨j + 1, e', by rw [show i + 1 + j = i + (j + 1) by omega], by simpa using hj, hke⟩
    obtain ⟨r, hr, hcase⟩ := hask es 0 hes
    refine ⟨r, ?_, ?_⟩
    · rw [run_findKey_eq (P := P) (w := w) (by rw [hu])]
      exact hr
    · rcases hcase with h | ⟨j, e, h3, h4, h5⟩
      · exact .inl h
      · exact .inr ⟨j, e, by rw [h3, Nat.zero_add], h4, h5⟩

theorem keyT_int {kt : TypeId} {k : IntKind} (hu : P.underlying kt = some (.int k)) : KeyT P kt (IsKey (.int k)) :=
  keyT_plain hu fun v hv => by
    cases v <;> simp [IsKey] at hv
    rw [show (10000 : Nat) = 9999 + 1 from rfl]
    simp [Instr.sameBits]
theorem keyT_string {kt : TypeId} (hu : P.underlying kt = some .string) : KeyT P kt (IsKey .string) :=
  keyT_plain hu fun v hv => by
    cases v <;> simp [IsKey] at hv
    rename_i s
    have hss : (s == s) = true := (bytes_beq s s).2 rfl
    rw [show (10000 : Nat) = 9999 + 1 from rfl]
    simp [Instr.sameBits, hss]
end Go.Abs
end

/- Abs23 -/
section
/- The abstract layer, twenty-third part: calls of function values. -/
set_option linter.unusedVariables false
set_option linter.unusedSimpArgs false
namespace Go.Abs
open Go

section
variable {P : Program} {ro : Option Nat} {N : Nat} {o : Oper} {E : Env} {H : Heap} {nx b0 : Nat} {ds : List (Option Tmp)}

theorem wpIn_enter {f : Nat} {vals : Array Value} {a : Act} {w : World} {next : Act → World → Prop} {Q : Exit → Act → World → Prop} {R : Value → World → Prop} (hd : Op.noDefer o.op = true) (hr : (execOp a.eval o).run P w = .ok (.enter f vals) w)
    (h : Calls P f vals w fun e w' => ∃ v, e = .returned v ∧ R v w') (hn : ∀ v w', R v w' → next (a.put o.dst v) w') : o.wpIn (FW ro) 0 P a w next Q := by
  refine ⟨fun _ _ => trivial, ?_⟩
  rw [semAt_plain hd, hr, Oper.uponIn_enter]
  exact ⟨fun hh => (by cases hh), callsIn_FW (h.mono fun e w' ⟨v, he, hv⟩ => by subst he; exact hn v w' hv)⟩

/-- Whatever enters a function with a contract. -/
theorem lstep_enter {f : Nat} {args : List AV} {nd H1 : Heap} {m0 n1 : Nat} {r0 : AV} {rt : List Nat} (s : List (Nat × Nat)) (nw : Nat) (hg : o.guard = none) (hd : Op.noDefer o.op = true) (hN : ∀ d, o.dst = some d → d < N)
    (hent : ∀ (E' : Env) (H' : Heap) (U : Nat → Prop) (C : Conc) (a : Act) (w : World), (∀ t ∈ rt, get E' t = get E t) → Rel C N E' H' U a w → ∃ vals, (execOp a.eval o).run P w = .ok (.enter f vals) w ∧ RepL C.ρ (C.avoid H') w.heap (renL (sg s) args) vals)
    (hM : Gives P f args nd m0 r0 H1 n1) (hn1 : n1 = m0 + nw) (hab : belL (UU m0) args) (hF : FitC H s nd m0 nw H1) :
    LStep P ro N ds o b0 E H rt (nd.map fun p => sg s p.1) (r0.ren (shift (sg s) m0 nx nw)) (H1.map fun p => (shift (sg s) m0 nx nw p.1, p.2.ren (shift (sg s) m0 nx nw))) nx nw := by
  subst hn1
  intro E' H' U hE hH hU hnx C a w next Q hR hK
  have hfit := hF.fit hR.toRelH (fun j hj => hU j (.inr hj)) (fun p hp => hH _ (List.mem_map.2 ⟨p, hp, rfl⟩)) hnx
  have hRc := hR.toRelH.callee hfit
  obtain ⟨vals, hrun, hvals⟩ := hent E' H' U C a w hE hR
  have hargsR : RepL (callee C H' (sg s) nd).ρ ((callee C H' (sg s) nd).avoid nd) w.heap args vals :=
    (hvals.mono (av' := (callee C H' (sg s) nd).avoid nd) (fun b _ hb => (callee_avoid hfit b).1 hb) (fun _ _ _ => rfl)).unren (ρ := C.ρ)
  refine GS_plain hg (wpIn_enter (R := fun v w' => ∃ C1, RelH C1 H1 (UU (m0 + nw)) w' ∧ StepR (callee C H' (sg s) nd) nd (UU m0) w C1 H1 w' ∧ Rep C1.ρ (C1.avoid H1) w'.heap r0 v ∧ r0.bel (UU (m0 + nw))) hd hrun
    ((hM _ w _ hRc hargsR hab).mono fun e w' ⟨v, r, H2, n', C1, he, hn', ⟨hr, hH2, hn2⟩, h1, h2, h3, h4⟩ => ?_) fun v w' ⟨C1, h1, h2, h3, h4⟩ => ?_)
  · subst hr; subst hH2; subst hn2
    exact ⟨v, he, C1, h1, h2, h3, h4⟩
  · obtain ⟨k1, k2, k3⟩ := hR.toRelH.back hfit h1 h2
    obtain ⟨k4, k5⟩ := k3 r0 v h4 h3
    have hRel := hR.change k2 (fun i hi => .inl hi) k1
    exact hK _ _ w' (hRel.put hN k4 k5) k2

theorem RepL.append {ρ : Nat → Value} {av : Nat → Prop} {hp : Array Obj} {xs ys : List AV} {vs us : Array Value} (h : RepL ρ av hp xs vs) (k : RepL ρ av hp ys us) : RepL ρ av hp (xs ++ ys) (vs ++ us) := by
  refine ⟨by simp [h.1, k.1], fun j x hj => ?_⟩
  rcases Nat.lt_or_ge j xs.length with h1 | h1
  · rw [List.getElem?_append_left h1] at hj
    have := h.2 j x hj
    rw [Array.getD_eq_getD_getElem?, Array.getElem?_append_left (by rw [h.1]; exact h1), ← Array.getD_eq_getD_getElem?]
    exact this
  · rw [List.getElem?_append_right h1] at hj
    have := k.2 _ x hj
    rw [Array.getD_eq_getD_getElem?, Array.getElem?_append_right (by rw [h.1]; exact h1), h.1, ← Array.getD_eq_getD_getElem?]
    exact this

/-- A call of a function value. -/
theorem lstep_callFn {c : Call} {y : Operand} {f : Nat} {fn : Func} {code : Code} {first cap : List AV} {xs : List AV} {args : List AV} {nd H1 : Heap} {m0 n1 : Nat} {r0 : AV} (s : List (Nat × Nat)) (nw : Nat) (hg : o.guard = none) (ho : o.op = .call c) (hc : c.callee = .value y) (hy : opv E y = some (.fn (.func f) first cap))
    (hT : FnT P f fn code) (hN : ∀ d, o.dst = some d → d < N) (hM : Gives P f args nd m0 r0 H1 n1) (hn1 : n1 = m0 + nw) (hxs : c.args.toList.map (opv E) = xs.map some) (hargs : first ++ xs ++ cap = renL (sg s) args) (hab : belL (UU m0) args) (hF : FitC H s nd m0 nw H1) :
    LStep P ro N ds o b0 E H (tmpsOf (y :: c.args.toList)) (nd.map fun p => sg s p.1) (r0.ren (shift (sg s) m0 nx nw)) (H1.map fun p => (shift (sg s) m0 nx nw p.1, p.2.ren (shift (sg s) m0 nx nw))) nx nw := by
  refine lstep_enter s nw hg (by simp [ho, Op.noDefer]) hN (fun E' H' U C a w hE hR => ?_) hM hn1 hab hF
  have hops := opv_congr hE
  obtain ⟨h1, _⟩ := hR.opv (x := y) (r := .fn (.func f) first cap) (by rw [hops y (by simp)]; exact hy)
  have hxs' : c.args.toList.map (opv E') = xs.map some := by
    rw [← hxs]
    exact List.map_congr_left fun x hx => hops x (List.mem_cons_of_mem _ hx)
  obtain ⟨h2, _⟩ := repL_ops hR hxs'
  generalize hev : a.eval y = u at h1
  cases h1 with
  | fn _ _ _ vs us hn hr hn' hr' =>
    refine ⟨vs ++ c.args.map a.eval ++ us, ?_, by rw [← hargs]; exact (RepL.append (RepL.append ⟨hn, hr⟩ h2) ⟨hn', hr'⟩)⟩
    simp [execOp, ho, resolve, hc, hev, Deferred.ofValue, invoke, hT.run]

end
end Go.Abs
end

/- Abs24 -/
section
/- The abstract layer, twenty-fourth part: what is owned, read as what is frozen. -/
set_option linter.unusedVariables false
set_option linter.unusedSimpArgs false
namespace Go.Abs
open Go

mutual
/-- Owned slices told as frozen ones. -/
def AV.fz : AV → AV
  | .own _ sz xs => .sl sz (fzL xs)
  | .agg cs => .agg (fzL cs)
  | .tup cs => .tup (fzL cs)
  | .sl sz xs => .sl sz (fzL xs)
  | .fp sz xs j off => .fp sz (fzL xs) j off
  | .iface t x => .iface t x.fz
  | .fn f a b => .fn f (fzL a) (fzL b)
  | .when c x => .when c x.fz
  | .any => .any
  | .raw v => .raw v
  | .ptr i off => .ptr i off
  | .ep i sz j off => .ep i sz j off
  | .ref i => .ref i
def fzL : List AV → List AV
  | [] => []
  | x :: xs => x.fz :: fzL xs
end

theorem fzL_get : ∀ (xs : List AV) (j : Nat), (fzL xs)[j]? = (xs[j]?).map AV.fz
  | [], j => rfl
  | x :: xs, 0 => rfl
  | x :: xs, j + 1 => by simpa [fzL] using fzL_get xs j
theorem fzL_length : ∀ xs : List AV, (fzL xs).length = xs.length
  | [] => rfl
  | x :: xs => by simp [fzL, fzL_length xs]
theorem fzL_map {α : Type} (f : α → AV) : ∀ l : List α, fzL (l.map f) = l.map fun a => (f a).fz
  | [] => rfl
  | a :: l => by simp [fzL, fzL_map f l]

theorem Rep.fz {ρ : Nat → Value} {av : Nat → Prop} {hp : Array Obj} {x : AV} {v : Value} (h : Rep ρ av hp x v) : Rep ρ av hp x.fz v := by
  have aux : ∀ {xs : List AV} {g : Nat → Value}, (∀ (j : Nat) (y : AV), xs[j]? = some y → Rep ρ av hp y.fz (g j)) → ∀ (j : Nat) (y : AV), (fzL xs)[j]? = some y → Rep ρ av hp y (g j) := fun hh j y hy => by
    rw [fzL_get] at hy
    obtain ⟨z, hz, rfl⟩ := Option.map_eq_some_iff.1 hy
    exact hh j z hz
  induction h with
  | any v => exact .any v
  | raw v => exact .raw v
  | agg cs vs hn _ ih => exact .agg _ vs (by rw [fzL_length]; exact hn) (aux (g := fun j => vs.getD j undef) ih)
  | tup cs vs hn _ ih => exact .tup _ vs (by rw [fzL_length]; exact hn) (aux (g := fun j => vs.getD j undef) ih)
  | sl0 sz A c hc => exact .sl0 sz A c hc
  | sl sz xs b off c cells t fr vals h0 hc hm hb hh _ hcells ih =>
    have := Rep.sl (ρ := ρ) sz (fzL xs) b off c cells t fr vals (by rw [fzL_length]; exact h0) (by rw [fzL_length]; exact hc) hm hb hh (aux ih) (by rw [fzL_length]; exact hcells)
    rw [fzL_length] at this
    exact this
  | fp sz xs j d b off cells t fr vals hb hh _ hcells ih => exact .fp sz _ j d b off cells t fr vals hb hh (aux ih) (by rw [fzL_length]; exact hcells)
  | ptr i off b h => exact .ptr _ off b h
  | ep i sz j off b h => exact .ep _ sz j off b h
  | ref i => exact .ref _
  | iface t x v _ ih => exact .iface t _ v ih
  | fn f first cap vs us hn _ hn' _ ih ih' => exact .fn f _ _ vs us (by rw [fzL_length]; exact hn) (aux (g := fun j => vs.getD j undef) ih) (by rw [fzL_length]; exact hn') (aux (g := fun j => us.getD j undef) ih')
  | when c x v _ h' ih => exact .when c _ v ih h'

theorem RepO.fz {ρ : Nat → Value} {av : Nat → Prop} {hp : Array Obj} {x : AV} {v : Value} {ow : List Nat} (h : RepO ρ av hp x v ow) (hn : ∀ b, b ∈ ow → ¬ av b) : Rep ρ av hp x.fz v := by
  have aux : ∀ {xs : List AV} {g : Nat → Value}, (∀ (j : Nat) (y : AV), xs[j]? = some y → Rep ρ av hp y.fz (g j)) → ∀ (j : Nat) (y : AV), (fzL xs)[j]? = some y → Rep ρ av hp y (g j) := fun hh j y hy => by
    rw [fzL_get] at hy
    obtain ⟨z, hz, rfl⟩ := Option.map_eq_some_iff.1 hy
    exact hh j z hz
  induction h with
  | leaf x v h => exact h.fz
  | agg cs vs ows hl _ ih => exact .agg _ vs (by rw [fzL_length]; exact hl) (aux (g := fun j => vs.getD j undef) fun j x hj => ih j x hj fun b hb => hn b (mem_flat.2 ⟨j, (List.getElem?_eq_some_iff.1 hj).1, hb⟩))
  | own0 e sz => exact .sl0 sz none 0 (Nat.zero_le _)
  | own e sz xs b c cells vals ows hh hs hc hm hx hcells ih =>
    have hrep : ∀ (j : Nat) (y : AV), (fzL xs)[j]? = some y → Rep ρ av hp y (vals j) := aux fun j x hj => ih j x hj fun b' hb => hn b' (List.mem_cons_of_mem _ (mem_flat.2 ⟨j, (List.getElem?_eq_some_iff.1 hj).1, hb⟩))
    show Rep ρ av hp (.sl sz (fzL xs)) _
    rcases Nat.eq_zero_or_pos xs.length with h0 | h0
    · have : fzL xs = [] := List.eq_nil_of_length_eq_zero (by rw [fzL_length]; exact h0)
      rw [this, h0]
      exact .sl0 sz _ c hm
    · have := Rep.sl (ρ := ρ) (av := av) (hp := hp) sz (fzL xs) b 0 c cells e (0, 0) vals (by rw [fzL_length]; exact h0) (by rw [fzL_length]; exact hc) hm (hn b List.mem_cons_self) hh hrep (by rw [fzL_length]; exact hcells)
      rw [fzL_length] at this
      exact this

mutual
/-- No frozen part. -/
def AV.noFz : AV → Bool
  | .sl _ _ => false
  | .fp _ _ _ _ => false
  | .agg cs => noFzL cs
  | .tup cs => noFzL cs
  | .iface _ x => x.noFz
  | .fn _ a b => noFzL a && noFzL b
  | .when _ x => x.noFz
  | .own _ _ xs => noFzL xs
  | _ => true
def noFzL : List AV → Bool
  | [] => true
  | x :: xs => x.noFz && noFzL xs
end
theorem noFzL_get : ∀ {xs : List AV}, noFzL xs = true → ∀ {j : Nat} {x : AV}, xs[j]? = some x → x.noFz = true
  | [], _, j, x, h => by simp at h
  | y :: ys, hf, j, x, h => by
    simp only [noFzL, Bool.and_eq_true] at hf
    cases j with
    | zero => simp at h; subst h; exact hf.1
    | succ j => exact noFzL_get hf.2 (by simpa using h)
theorem noFzL_map {α : Type} (f : α → AV) (h : ∀ a, (f a).noFz = true) : ∀ l : List α, noFzL (l.map f) = true
  | [] => rfl
  | a :: l => by simp [noFzL, h a, noFzL_map f h l]

/-- What has no frozen part is so in any world. -/
theorem Rep.anywhere {ρ : Nat → Value} {av av' : Nat → Prop} {hp hp' : Array Obj} {x : AV} {v : Value} (h : Rep ρ av hp x v) (hx : x.noFz = true) : Rep ρ av' hp' x v := by
  induction h with
  | any v => exact .any v
  | raw v => exact .raw v
  | agg cs vs hn _ ih => exact .agg cs vs hn fun j x hj => ih j x hj (noFzL_get (by simpa [AV.noFz] using hx) hj)
  | tup cs vs hn _ ih => exact .tup cs vs hn fun j x hj => ih j x hj (noFzL_get (by simpa [AV.noFz] using hx) hj)
  | sl0 sz A c hc => simp [AV.noFz] at hx
  | sl sz xs b off c cells t fr vals h0 hc hm hb hh _ hcells ih => simp [AV.noFz] at hx
  | fp sz xs j d b off cells t fr vals hb hh _ hcells ih => simp [AV.noFz] at hx
  | ptr i off b h => exact .ptr _ off b h
  | ep i sz j off b h => exact .ep _ sz j off b h
  | ref i => exact .ref _
  | iface t x v _ ih => exact .iface t _ v (ih (by simpa [AV.noFz] using hx))
  | fn f first cap vs us hn _ hn' _ ih ih' =>
    have hx' : noFzL first = true ∧ noFzL cap = true := by simpa [AV.noFz] using hx
    exact .fn f _ _ vs us hn (fun j x hj => ih j x hj (noFzL_get hx'.1 hj)) hn' (fun j x hj => ih' j x hj (noFzL_get hx'.2 hj))
  | when c x v _ h' ih => exact .when c x v (fun hc => ih hc (by simpa [AV.noFz] using hx)) h'

theorem RepO.anywhere {ρ : Nat → Value} {av av' : Nat → Prop} {hp hp' : Array Obj} {x : AV} {v : Value} {ow : List Nat} (h : RepO ρ av hp x v ow) (hx : x.noFz = true) (hown : ∀ b, b ∈ ow → hp'[b]? = hp[b]?) : RepO ρ av' hp' x v ow := by
  induction h with
  | leaf x v h => exact .leaf x v (h.anywhere hx)
  | agg cs vs ows hn _ ih => exact .agg cs vs ows hn fun j x hj => ih j x hj (noFzL_get (by simpa [AV.noFz] using hx) hj) fun b hb => hown b (mem_flat.2 ⟨j, (List.getElem?_eq_some_iff.1 hj).1, hb⟩)
  | own0 e sz => exact .own0 e sz
  | own e sz xs b c cells vals ows hh hs hc hm _ hcells ih =>
    exact .own e sz xs b c cells vals ows ((hown b (by simp)).trans hh) hs hc hm (fun j x hj => ih j x hj (noFzL_get (by simpa [AV.noFz] using hx) hj) fun b' hb => hown b' (List.mem_cons_of_mem _ (mem_flat.2 ⟨j, (List.getElem?_eq_some_iff.1 hj).1, hb⟩))) hcells

end Go.Abs
end

/- Abs25 -/
section
/- The abstract layer, twenty-fifth part: a call that is lent owned objects to read. -/
set_option linter.unusedVariables false
set_option linter.unusedSimpArgs false
namespace Go.Abs
open Go

def AObj.noFz : AObj → Bool
  | .dead => true
  | .cells _ cs => noFzL cs
  | .row _ _ xs => noFzL xs
  | .map _ _ m => noFzL (m.map (·.2))
  | .mapS _ _ _ _ _ => false
  | .other _ _ => true
  | .loop _ _ _ _ => false

theorem RepObj.anywhere {ρ : Nat → Value} {av av' : Nat → Prop} {hp : Array Obj} {own : List Nat} {o : AObj} {v : Value} (h : RepObj ρ av hp own o v) (ho : o.noFz = true) : RepObj ρ av' hp own o v := by
  cases o with
  | dead => exact h
  | cells t cs => obtain ⟨b, vs, h1, h2, h3, h4⟩ := h; exact ⟨b, vs, h1, h2, h3, h4.1, fun j x hj => (h4.2 j x hj).anywhere (noFzL_get ho hj)⟩
  | row e sz xs => exact ⟨h.1.anywhere ho (fun _ _ => rfl), h.2⟩
  | map kt et m =>
    obtain ⟨b, es, clock, h1, h2, h3, h4, h5, h6, h7⟩ := h
    refine ⟨b, es, clock, h1, h2, h3, h4, h5, fun j k x hj => ?_, h7⟩
    obtain ⟨e, he, hk, hr⟩ := h6 j k x hj
    exact ⟨e, he, hk, hr.anywhere (noFzL_get ho (j := j) (by rw [List.getElem?_map, hj]; rfl))⟩
  | mapS kt et m k st => cases ho
  | other b o => exact h
  | loop l rec No Eo => cases ho

section
variable {bw : List Nat} {C : Conc} {H : Heap} {U : Nat → Prop} {w : World} {σ : Nat → Nat} {nd : Heap} {n0 nx nw : Nat} {H1 : Heap}

def calleeB (bw : List Nat) (C : Conc) (H : Heap) (σ : Nat → Nat) (nd : Heap) : Conc :=
  { ρ := fun i => C.ρ (σ i), one := fun i => C.one (σ i), own := fun i => C.own (σ i), B := C.B
    X := fun b => C.X b ∨ ∃ i o, get H i = some o ∧ i ∉ bw ∧ (∀ j o', get nd j = some o' → σ j ≠ i) ∧ b ∈ C.own i }

theorem calleeB_avoid (hF : Fit U H σ nd n0 nx nw H1) (b : Nat) (h : (calleeB bw C H σ nd).avoid nd b) : C.avoid H b := by
  rcases h with (h | ⟨i, o, hi, _, _, hb⟩) | ⟨i, o, hi, hb⟩
  · exact .inl h
  · exact .inr ⟨i, o, hi, hb⟩
  · exact .inr ⟨σ i, _, (hF.objs i o hi).1, hb⟩

/-- What is lent is not written by the callee. -/
theorem calleeB_lent (hR : RelH C H U w) (hF : Fit U H σ nd n0 nx nw H1) (hbw : ∀ i ∈ bw, ∀ j o', get nd j = some o' → σ j ≠ i) {i : Nat} {o : AObj} (hi : i ∈ bw) (ho : get H i = some o) {b : Nat} (hb : b ∈ C.own i) : ¬ (calleeB bw C H σ nd).avoid nd b := by
  rintro ((h | ⟨i', o', hi', hn, _, hb'⟩) | ⟨j, o', hj, hb'⟩)
  · exact hR.xapart i o b ho hb h
  · exact hR.apart i i' o o' b (fun e => hn (e ▸ hi)) ho hi' hb hb'
  · exact hR.apart i (σ j) o _ b (fun e => hbw i hi j o' hj e.symm) ho (hF.objs j o' hj).1 hb hb'

theorem RelH.calleeB (hR : RelH C H U w) (hF : Fit U H σ nd n0 nx nw H1) : RelH (calleeB bw C H σ nd) nd (UU n0) w where
  obj := fun i o hi => ((hR.obj _ _ (hF.objs i o hi).1).mono (av' := (Abs.calleeB bw C H σ nd).avoid nd) (fun b _ hb => calleeB_avoid hF b hb) (fun _ _ _ => rfl) (fun _ _ => rfl)).unren (ρ := C.ρ)
  apart := fun i j oi oj b hne hi hj hb hb' => hR.apart (σ i) (σ j) _ _ b (fun e => hne (hF.inj i j oi oj hi hj e)) (hF.objs i oi hi).1 (hF.objs j oj hj).1 hb hb'
  xapart := fun i o b hi hb hx => by
    rcases hx with hx | ⟨j, oj, hj, _, hn, hb'⟩
    · exact hR.xapart _ _ b (hF.objs i o hi).1 hb hx
    · exact hR.apart (σ i) j _ oj b (hn i o hi) (hF.objs i o hi).1 hj hb hb'
  xlt := fun b hx => by
    rcases hx with hx | ⟨j, oj, hj, _, hn, hb'⟩
    · exact hR.xlt b hx
    · exact (hR.obj j oj hj).own_lt b hb'
  objb := fun i o hi => (hF.objs i o hi).2

open Classical in
/-- Behind the call: the caller's whole heap. -/
theorem RelH.backB (hR : RelH C H U w) (hF : Fit U H σ nd n0 nx nw H1) {C1 : Conc} {w' : World} (hR1 : RelH C1 H1 (UU (n0 + nw)) w') (hs : StepR (Abs.calleeB bw C H σ nd) nd (UU n0) w C1 H1 w') (hbw : ∀ i ∈ bw, ∀ j o', get nd j = some o' → σ j ≠ i) (hfz : ∀ i o, get H1 i = some o → o.noFz = true) :
    let H2 := over H (H1.map fun p => (shift σ n0 nx nw p.1, p.2.ren (shift σ n0 nx nw)))
    let C2 := Abs.back C C1 σ nd n0 nx nw
    RelH C2 H2 (addU U nx nw) w' ∧ StepR C H U w C2 H2 w' ∧ ∀ r v, r.noFz = true → r.bel (UU (n0 + nw)) → Rep C1.ρ (C1.avoid H1) w'.heap r v → Rep C2.ρ (C2.avoid H2) w'.heap (r.ren (shift σ n0 nx nw)) v ∧ (r.ren (shift σ n0 nx nw)).bel (addU U nx nw) := by
  intro H2 C2
  have hnew : ∀ i, U i → ¬ (nx ≤ i ∧ i < nx + nw) := fun i hu ⟨h1, h2⟩ => hF.fresh i h1 h2 hu
  -- names
  have hτold : ∀ i, UU n0 i → shift σ n0 nx nw i = σ i := fun i hu => by
    unfold shift
    rw [if_neg]
    rintro ⟨h1, h2⟩
    have := hF.far
    rcases hu with hu | hu <;> omega
  have hτnew : ∀ i, n0 ≤ i → i < n0 + nw → shift σ n0 nx nw i = nx + (i - n0) := fun i h1 h2 => if_pos ⟨h1, h2⟩
  have hsplit : ∀ i, UU (n0 + nw) i → UU n0 i ∨ (n0 ≤ i ∧ i < n0 + nw) := fun i hu => by
    rcases hu with hu | hu
    · rcases Nat.lt_or_ge i n0 with h | h
      · exact .inl (.inl h)
      · exact .inr ⟨h, hu⟩
    · exact .inl (.inr hu)
  have hknown : ∀ i, UU (n0 + nw) i → addU U nx nw (shift σ n0 nx nw i) := fun i hu => by
    rcases hsplit i hu with h | ⟨h1, h2⟩
    · rw [hτold i h]; exact .inl (hF.known i h)
    · rw [hτnew i h1 h2]; exact .inr (by omega)
  have hρ : ∀ i, UU (n0 + nw) i → C2.ρ (shift σ n0 nx nw i) = C1.ρ i := fun i hu => by
    rcases hsplit i hu with h | ⟨h1, h2⟩
    · rw [hτold i h]
      show (if _ then _ else _) = _
      rw [if_neg (hnew _ (hF.known i h))]
      exact (hs.ρ i h).symm
    · rw [hτnew i h1 h2]
      show (if _ then _ else _) = _
      rw [if_pos (by omega)]
      congr 1
      omega
  have hmem1 : ∀ i o, get H1 i = some o → UU (n0 + nw) i := fun i o hi => (hR1.objb i o hi).1
  have hown1 : ∀ i o, get H1 i = some o → C2.own (shift σ n0 nx nw i) = C1.own i := fun i o hi => by
    rcases hF.dom i o hi with ⟨o', ho'⟩ | ⟨h1, h2⟩
    · have hu := (hF.objs i o' ho').2.1
      rw [hτold i hu]
      show (if _ then _ else if h : _ then _ else _) = _
      have hex : ∃ j o'', get nd j = some o'' ∧ σ j = σ i := ⟨i, o', ho', rfl⟩
      rw [if_neg (hnew _ (hF.known i hu)), dif_pos hex]
      obtain ⟨o2, h1, h2⟩ := Classical.choose_spec hex
      rw [hF.inj _ i _ _ h1 ho' h2]
    · rw [hτnew i h1 h2]
      show (if _ then _ else _) = _
      rw [if_pos (by omega)]
      congr 1
      omega
  have hinj1 : ∀ i j oi oj, get H1 i = some oi → get H1 j = some oj → shift σ n0 nx nw i = shift σ n0 nx nw j → i = j := fun i j oi oj hi hj e => by
    rcases hF.dom i oi hi with ⟨o1, ho1⟩ | ⟨h1, h2⟩
    · have hu := (hF.objs i o1 ho1).2.1
      rcases hF.dom j oj hj with ⟨o2, ho2⟩ | ⟨h3, h4⟩
      · have hu2 := (hF.objs j o2 ho2).2.1
        rw [hτold i hu, hτold j hu2] at e
        exact hF.inj i j _ _ ho1 ho2 e
      · rw [hτold i hu, hτnew j h3 h4] at e
        exact absurd ⟨by omega, by omega⟩ (hnew _ (hF.known i hu))
    · rcases hF.dom j oj hj with ⟨o2, ho2⟩ | ⟨h3, h4⟩
      · have hu2 := (hF.objs j o2 ho2).2.1
        rw [hτold j hu2, hτnew i h1 h2] at e
        exact absurd ⟨by omega, by omega⟩ (hnew _ (hF.known j hu2))
      · rw [hτnew i h1 h2, hτnew j h3 h4] at e
        omega
  -- the objects behind the call: the callee's, or old ones that it did not see
  have hcase : ∀ i o, get H2 i = some o → (∃ j o', get H1 j = some o' ∧ shift σ n0 nx nw j = i ∧ o'.ren (shift σ n0 nx nw) = o) ∨
      (get H i = some o ∧ C2.own i = C.own i ∧ ∀ j o', get nd j = some o' → σ j ≠ i) := fun i o hi => by
    rw [over_get] at hi
    cases hm : get (H1.map fun p => (shift σ n0 nx nw p.1, p.2.ren (shift σ n0 nx nw))) i with
    | some y =>
      rw [hm] at hi
      cases hi
      exact .inl (get_map _ _ _ _ _ hm)
    | none =>
      rw [hm] at hi
      have hun : ∀ j o', get nd j = some o' → σ j ≠ i := fun j o' hj e => by
        obtain ⟨o2, ho2⟩ := hF.all j o' hj
        have := get_map_of (shift σ n0 nx nw) (AObj.ren (shift σ n0 nx nw)) H1 j o2 hinj1 ho2
        rw [hτold j (hF.objs j o' hj).2.1, e, hm] at this
        cases this
      refine .inr ⟨hi, ?_, hun⟩
      show (if _ then _ else if h : _ then _ else _) = _
      rw [if_neg (hnew _ (hR.objb i o hi).1), dif_neg]
      rintro ⟨j, o', hj, e⟩
      exact hun j o' hj e
  have hW1 : ∀ b, (Abs.calleeB bw C H σ nd).W nd b → C.W H b := fun b ⟨i, o, hi, hb⟩ => ⟨σ i, _, (hF.objs i o hi).1, hb⟩
  have hav2 : ∀ b, b < w.heap.size → C2.avoid H2 b → C.avoid H b := fun b hlt hb => by
    rcases hb with hb | ⟨i, o, hi, hb⟩
    · exact .inl hb
    · rcases hcase i o hi with ⟨j, o', hj, rfl, _⟩ | ⟨hi', hown, hun⟩
      · rcases hs.wr b ⟨j, o', hj, by rw [← hown1 j o' hj]; exact hb⟩ with h1 | h1
        · exact .inr (hW1 b h1)
        · omega
      · rw [hown] at hb
        exact .inr ⟨i, o, hi', hb⟩
  have hstep : StepR C H U w C2 H2 w' :=
    { os := hs.os, tape := hs.tape, output := hs.output, size := hs.size
      keep := fun k hk hn => hs.keep k hk fun q => hn (hW1 k q)
      wr := fun b ⟨i, o, hi, hb⟩ => by
        rcases hcase i o hi with ⟨j, o', hj, rfl, _⟩ | ⟨hi', hown, hun⟩
        · rcases hs.wr b ⟨j, o', hj, by rw [← hown1 j o' hj]; exact hb⟩ with h1 | h1
          · exact .inl (hW1 b h1)
          · exact .inr h1
        · exact .inl ⟨i, o, hi', by rw [← hown]; exact hb⟩
      X := rfl, B := rfl
      ρ := fun i hi => if_neg (hnew i hi) }
  have hrep : ∀ r v, r.noFz = true → r.bel (UU (n0 + nw)) → Rep C1.ρ (C1.avoid H1) w'.heap r v → Rep C2.ρ (C2.avoid H2) w'.heap (r.ren (shift σ n0 nx nw)) v := fun r v hf hr hrr =>
    Rep.ren (ρ := C2.ρ) ((hrr.anywhere (av' := C2.avoid H2) hf).named (ρ' := fun i => C2.ρ (shift σ n0 nx nw i)) hρ hr)
  have cross : ∀ i oi, get H i = some oi → (∀ j o', get nd j = some o' → σ j ≠ i) → ∀ j oj, get H1 j = some oj → ∀ b, b ∈ C.own i → b ∈ C1.own j → False := fun i oi hi hun j oj hj b hb hb' => by
    rcases hs.wr b ⟨j, oj, hj, hb'⟩ with ⟨q, oq, hq, hbq⟩ | h1
    · exact hR.apart i (σ q) oi _ b (fun e => hun q oq hq e.symm) hi (hF.objs q oq hq).1 hb hbq
    · have := (hR.obj i oi hi).own_lt b hb; omega
  refine ⟨{ obj := fun i o hi => ?_, apart := fun i j oi oj b hne hi hj hb hb' => ?_, xapart := fun i o b hi hb hx => ?_, xlt := fun b hx => Nat.lt_of_lt_of_le (hR.xlt b hx) hs.size, objb := fun i o hi => ?_ }, hstep, fun r v hf hr hrr => ⟨hrep r v hf hr hrr, AV.bel_ren.2 (AV.bel_mono hknown r hr)⟩⟩
  · rcases hcase i o hi with ⟨j, o', hj, rfl, rfl⟩ | ⟨hi', hown, hun⟩
    · rw [hown1 j o' hj, hρ j (hmem1 j o' hj)]
      exact RepObj.ren (ρ := C2.ρ) (((hR1.obj j o' hj).anywhere (av' := C2.avoid H2) (hfz j o' hj)).named (ρ' := fun i => C2.ρ (shift σ n0 nx nw i)) hρ (hR1.objb j o' hj).2)
    · have hkeep : ∀ b, b ∈ C.own i → w'.heap[b]? = w.heap[b]? := fun b hb => hs.keep b ((hR.obj i o hi').own_lt b hb) fun ⟨j, oj, hj, hb'⟩ =>
        hR.apart i (σ j) o _ b (fun e => hun j oj hj e.symm) hi' (hF.objs j oj hj).1 hb hb'
      have hρi : C2.ρ i = C.ρ i := if_neg (hnew i (hR.objb i o hi').1)
      rw [hown, hρi]
      exact ((hR.obj i o hi').mono (av' := C2.avoid H2) (fun b hb hq => hav2 b hb hq) (fun b hb hn => hs.keep b hb fun q => hn (.inr (hW1 b q))) hkeep).named (ρ' := C2.ρ) (fun j hj => if_neg (hnew j hj)) (hR.objb i o hi').2
  · rcases hcase i oi hi with ⟨i', oi', hi', rfl, _⟩ | ⟨hi', hown, hun⟩
    · rw [hown1 i' oi' hi'] at hb
      rcases hcase j oj hj with ⟨j', oj', hj', rfl, _⟩ | ⟨hj', hown2, hun2⟩
      · rw [hown1 j' oj' hj'] at hb'
        exact hR1.apart i' j' oi' oj' b (fun e => hne (by rw [e])) hi' hj' hb hb'
      · rw [hown2] at hb'
        exact cross j oj hj' hun2 i' oi' hi' b hb' hb
    · rw [hown] at hb
      rcases hcase j oj hj with ⟨j', oj', hj', rfl, _⟩ | ⟨hj', hown2, hun2⟩
      · rw [hown1 j' oj' hj'] at hb'
        exact cross i oi hi' hun j' oj' hj' b hb hb'
      · rw [hown2] at hb'
        exact hR.apart i j oi oj b hne hi' hj' hb hb'
  · rcases hcase i o hi with ⟨j, o', hj, rfl, _⟩ | ⟨hi', hown, hun⟩
    · rw [hown1 j o' hj] at hb
      exact hR1.xapart j o' b hj hb (by rw [hs.X]; exact .inl hx)
    · rw [hown] at hb
      exact hR.xapart i o b hi' hb hx
  · rcases hcase i o hi with ⟨j, o', hj, rfl, rfl⟩ | ⟨hi', hown, hun⟩
    · exact ⟨hknown j (hmem1 j o' hj), AObj.bel_ren.2 (AObj.bel_mono hknown o' (hR1.objb j o' hj).2)⟩
    · exact ⟨.inl (hR.objb i o hi').1, AObj.bel_mono (fun _ h => .inl h) o (hR.objb i o hi').2⟩

end
end Go.Abs
end

/- Abs26 -/
section
/- The abstract layer, twenty-sixth part: calls that are lent owned rows. -/
set_option linter.unusedVariables false
set_option linter.unusedSimpArgs false
namespace Go.Abs
open Go

/-- A row that is lent, told as frozen data. -/
def lend1 (h : Nat → Option AObj) (bw : List Nat) : AV → AV
  | .ref i => if i ∈ bw then (match h i with
    | some (.row _ sz xs) => .sl sz (fzL xs)
    | _ => .ref i) else .ref i
  | x => x
def lendL (h : Nat → Option AObj) (bw : List Nat) : List AV → List AV
  | [] => []
  | x :: r => lend1 h bw x :: lendL h bw r
def lend (h : Nat → Option AObj) (bw : List Nat) : AV → AV
  | .agg cs => .agg (lendL h bw cs)
  | x => lend1 h bw x

theorem lendL_get (h : Nat → Option AObj) (bw : List Nat) : ∀ (xs : List AV) (j : Nat), (lendL h bw xs)[j]? = (xs[j]?).map (lend1 h bw)
  | [], j => rfl
  | x :: xs, 0 => rfl
  | x :: xs, j + 1 => by simpa [lendL] using lendL_get h bw xs j
theorem lendL_length (h : Nat → Option AObj) (bw : List Nat) : ∀ xs : List AV, (lendL h bw xs).length = xs.length
  | [] => rfl
  | x :: xs => by simp [lendL, lendL_length h bw xs]

section
variable {P : Program} {ro : Option Nat} {N : Nat} {o : Oper} {E : Env} {H : Heap} {nx b0 : Nat} {ds : List (Option Tmp)} {C : Conc} {U : Nat → Prop} {a : Act} {w : World} {bw : List Nat} {σ : Nat → Nat} {nd H1 : Heap} {n0 nw : Nat}

theorem lend1_rep (hR : RelH C H U w) (hF : Fit U H σ nd n0 nx nw H1) (hbw : ∀ i ∈ bw, ∀ j o', get nd j = some o' → σ j ≠ i) {x : AV} {v : Value} (h : Rep C.ρ (C.avoid H) w.heap x v) : Rep C.ρ ((calleeB bw C H σ nd).avoid nd) w.heap (lend1 (get H) bw x) v := by
  have plain : Rep C.ρ ((calleeB bw C H σ nd).avoid nd) w.heap x v := h.mono (fun b _ hb => calleeB_avoid hF b hb) (fun _ _ _ => rfl)
  cases x with
  | ref i =>
    simp only [lend1]
    split
    · rename_i hi
      split
      · rename_i e sz xs hH
        cases h
        obtain ⟨h1, _⟩ := hR.obj i _ hH
        have h2 : RepO C.ρ ((calleeB bw C H σ nd).avoid nd) w.heap (.own e sz xs) (C.ρ i) (C.own i) := h1.mono' (fun b _ hb => calleeB_avoid hF b hb) (fun _ _ _ _ _ _ => rfl) (fun _ _ => rfl)
        exact h2.fz fun b hb => calleeB_lent hR hF hbw hi hH hb
      · exact plain
    · exact plain
  | _ => exact plain

theorem lend_rep (hR : RelH C H U w) (hF : Fit U H σ nd n0 nx nw H1) (hbw : ∀ i ∈ bw, ∀ j o', get nd j = some o' → σ j ≠ i) {x : AV} {v : Value} (h : Rep C.ρ (C.avoid H) w.heap x v) : Rep C.ρ ((calleeB bw C H σ nd).avoid nd) w.heap (lend (get H) bw x) v := by
  cases x with
  | agg cs =>
    cases h with
    | agg _ vs hn hr =>
      refine .agg _ vs (by rw [lendL_length]; exact hn) fun j y hy => ?_
      rw [lendL_get] at hy
      obtain ⟨z, hz, rfl⟩ := Option.map_eq_some_iff.1 hy
      exact lend1_rep hR hF hbw (hr j z hz)
  | _ => exact lend1_rep hR hF hbw h

/-- A call by a contract, some rows lent to it. -/
theorem lstep_lend {c : Call} {f : Nat} {fn : Func} {code : Code} {args xs : List AV} {m0 n1 : Nat} {r0 : AV} (s : List (Nat × Nat)) (bw : List Nat) (nw : Nat) (hg : o.guard = none) (ho : o.op = .call c) (hc : c.callee = .value (.func f)) (hT : FnT P f fn code)
    (hN : ∀ d, o.dst = some d → d < N) (hM : Gives P f args nd m0 r0 H1 n1) (hn1 : n1 = m0 + nw) (hxs : c.args.toList.map (opv E) = xs.map some) (hargs : xs.map (lend (get H) bw) = renL (sg s) args) (hab : belL (UU m0) args) (hF : FitC H s nd m0 nw H1)
    (hbw : ∀ i ∈ bw, ∀ p ∈ nd, sg s p.1 ≠ i) (hfr : r0.noFz = true) (hfo : ∀ p ∈ H1, p.2.noFz = true) :
    LStep P ro N ds o b0 E H (tmpsOf c.args.toList) ((nd.map fun p => sg s p.1) ++ bw) (r0.ren (shift (sg s) m0 nx nw)) (H1.map fun p => (shift (sg s) m0 nx nw p.1, p.2.ren (shift (sg s) m0 nx nw))) nx nw := by
  subst hn1
  intro E' H' U hE hH hU hnx C a w next Q hR hK
  have hops := opv_congr hE
  have hfit := hF.fit hR.toRelH (fun j hj => hU j (.inr hj)) (fun p hp => hH _ (List.mem_append.2 (.inl (List.mem_map.2 ⟨p, hp, rfl⟩)))) hnx
  have hbw' : ∀ i ∈ bw, ∀ j o', get nd j = some o' → sg s j ≠ i := fun i hi j o' hj => hbw i hi _ (get_mem hj)
  have hRc := hR.toRelH.calleeB (bw := bw) hfit
  have hxs' : c.args.toList.map (opv E') = xs.map some := by
    rw [← hxs]
    exact List.map_congr_left fun x hx => hops x hx
  obtain ⟨h2, _⟩ := repL_ops hR hxs'
  have hlend : ∀ x : AV, lend (get H') bw x = lend (get H) bw x := by
    have h1 : ∀ x : AV, lend1 (get H') bw x = lend1 (get H) bw x := fun x => by
      cases x with
      | ref i =>
        simp only [lend1]
        split
        · rename_i hi
          rw [hH i (List.mem_append.2 (.inr hi))]
        · rfl
      | _ => rfl
    have h2 : ∀ l : List AV, lendL (get H') bw l = lendL (get H) bw l := fun l => by
      induction l with
      | nil => rfl
      | cons x r ih => rw [lendL, lendL, h1, ih]
    intro x
    unfold lend
    split
    · rw [h2]
    · exact h1 _
  have hvals : RepL C.ρ ((calleeB bw C H' (sg s) nd).avoid nd) w.heap (renL (sg s) args) (c.args.map a.eval) := by
    rw [← hargs]
    refine ⟨by rw [List.length_map]; exact h2.1, fun j y hy => ?_⟩
    rw [List.getElem?_map] at hy
    obtain ⟨z, hz, rfl⟩ := Option.map_eq_some_iff.1 hy
    have := lend_rep (bw := bw) hR.toRelH hfit hbw' (h2.2 j z hz)
    rwa [hlend] at this
  have hargsR : RepL (calleeB bw C H' (sg s) nd).ρ ((calleeB bw C H' (sg s) nd).avoid nd) w.heap args (c.args.map a.eval) := hvals.unren (ρ := C.ρ)
  refine GS_plain hg (wpIn_call (R := fun v w' => ∃ C1, RelH C1 H1 (UU (m0 + nw)) w' ∧ StepR (calleeB bw C H' (sg s) nd) nd (UU m0) w C1 H1 w' ∧ Rep C1.ρ (C1.avoid H1) w'.heap r0 v ∧ r0.bel (UU (m0 + nw))) ho hc hT
    ((hM _ w _ hRc hargsR hab).mono fun e w' ⟨v, r, H2, n', C1, he, hn', ⟨hr, hH2, hn2⟩, h1, h2, h3, h4⟩ => ?_) fun v w' ⟨C1, h1, h2, h3, h4⟩ => ?_)
  · subst hr; subst hH2; subst hn2
    exact ⟨v, he, C1, h1, h2, h3, h4⟩
  · obtain ⟨k1, k2, k3⟩ := hR.toRelH.backB hfit h1 h2 hbw' (fun i o hi => hfo _ (get_mem hi))
    obtain ⟨k4, k5⟩ := k3 r0 v hfr h4 h3
    have hRel := hR.change k2 (fun i hi => .inl hi) k1
    exact hK _ _ w' (hRel.put hN k4 k5) k2

end
end Go.Abs
end

/- Abs27 -/
section
/- The abstract layer, twenty-seventh part: what others write. -/
set_option linter.unusedVariables false
set_option linter.unusedSimpArgs false
namespace Go.Abs
open Go

section
variable {C : Conc} {N : Nat} {E : Env} {H : Heap} {U : Nat → Prop} {a : Act} {w : World}

/-- A block of others that holds no cells is turned: nothing that is told changes. -/
theorem Rel.xturn (hR : Rel C N E H U a w) {l : Nat} {o o' : Obj} (hl : w.heap[l]? = some o) (ho : ∀ cells t fr, o ≠ .cells cells t fr) (hd : ∀ ds, o ≠ .deferred ds) (hx : C.X l) : Rel C N E H U a (w.putObj l o') := by
  have hother : ∀ k, k ≠ l → (w.putObj l o').heap[k]? = w.heap[k]? := fun k hk => by
    show (w.heap.setIfInBounds l _)[k]? = _
    rw [Array.getElem?_setIfInBounds, if_neg (fun e => hk e.symm)]
  have hsz : (w.putObj l o').heap.size = w.heap.size := by show (w.heap.setIfInBounds l _).size = _; simp
  have heq : ∀ b cells t fr, w.heap[b]? = some (.cells cells t fr) → ¬ C.avoid H b → (w.putObj l o').heap[b]? = w.heap[b]? := fun b cells t fr hb _ => hother b (fun e => by rw [e, hl] at hb; cases hb; exact ho _ _ _ rfl)
  exact {
    obj := fun i ob hi => (hR.obj i ob hi).mono' (fun _ _ h => h) heq (fun b hb => hother b (fun e => hR.xapart i ob b hi hb (e ▸ hx)))
    apart := hR.apart
    xapart := hR.xapart
    xlt := fun b hb => by rw [hsz]; exact hR.xlt b hb
    objb := hR.objb
    size := hR.size
    hB := by rw [hsz]; exact hR.hB
    nodup := hR.nodup
    marks := fun d hd' => by
      obtain ⟨r, h1, h2, h3, h4⟩ := hR.marks d hd'
      exact ⟨r, h1, h2, (hother r (fun e => h4 (.inl (e ▸ hx)))).trans h3, h4⟩
    env := fun t x ht => by
      obtain ⟨h1, h2, h3⟩ := hR.env t x ht
      exact ⟨h1, h2, h3.mono' (fun _ _ h => h) heq⟩ }

end
end Go.Abs
end

/- Abs28 -/
section
/- The abstract layer, twenty-eighth part: rounds of a range over a function. -/
set_option linter.unusedVariables false
set_option linter.unusedSimpArgs false
namespace Go.Abs
open Go

/-- These objects lie so. -/
def hasAll (H : Heap) : Heap → Prop
  | [] => True
  | (i, o) :: r => get H i = some o ∧ hasAll H r
theorem hasAll_get {H : Heap} : ∀ {H1 : Heap}, hasAll H H1 → ∀ i o, get H1 i = some o → get H i = some o
  | [], _, _, _, h => by cases h
  | (k, x) :: r, h, i, o, hi => by
    unfold Abs.get at hi
    split at hi
    · rename_i e; subst e; cases hi; exact h.1
    · exact hasAll_get h.2 i o hi

/-- A call of yield gives. -/
def YGives (P : Program) (l : Nat) (args : List AV) (nd : Heap) (n0 : Nat) (r0 : AV) (H1 : Heap) : Prop :=
  ∀ (C : Conc) (w : World) (vals : Array Value), RelH C nd (UU n0) w → RepL C.ρ (C.avoid nd) w.heap args vals → belL (UU n0) args →
    YieldAt (FW none) 0 P l vals w fun e w' => ∃ v C', e = .returned v ∧ RelH C' H1 (UU n0) w' ∧ StepR C nd (UU n0) w C' H1 w' ∧ Rep C'.ρ (C'.avoid H1) w'.heap r0 v ∧ r0.bel (UU n0)

theorem YGives.mono {P : Program} {l : Nat} {vals : Array Value} {w : World} {R R' : Ending → World → Prop} (h : YieldAt (FW none) 0 P l vals w R) (hr : ∀ e w', R e w' → R' e w') : YieldAt (FW none) 0 P l vals w R' := by
  obtain ⟨fn, tmps, assign, body, h1, h2⟩ := h
  exact ⟨fn, tmps, assign, body, h1, h2.mono hr⟩

section
variable {P : Program} {N : Nat} {o : Oper} {E : Env} {H : Heap} {nx b0 : Nat} {ds : List (Option Tmp)}

theorem AObj.ren_id' (o : AObj) : o.ren id = o := by
  cases o with
  | dead => rfl
  | cells t cs => simp [AObj.ren, renL_id]
  | row e sz xs => simp [AObj.ren, renL_id]
  | map kt et m =>
    simp only [AObj.ren, AObj.map.injEq, true_and]
    induction m with
    | nil => rfl
    | cons p r ih => simp [AV.ren_id, ih]
  | mapS kt et m k st =>
    simp only [AObj.ren, AObj.mapS.injEq, true_and, and_true, id]
    induction m with
    | nil => rfl
    | cons p r ih =>
      have e : (fun i : Nat => i) = id := rfl
      simp [AV.ren_id, ih]
  | other b ob => rfl
  | loop l rec No Eo =>
    simp only [AObj.ren, AObj.loop.injEq, true_and]
    induction Eo with
    | nil => rfl
    | cons p r ih => simp [AV.ren_id, ih]

/-- A call of yield, all of whose objects are from far. -/
theorem lstep_yield {c : Call} {y : Operand} {l : Nat} {args : List AV} {nd H1 : Heap} {r0 : AV} (hg : o.guard = none) (ho : o.op = .call c) (hc : c.callee = .value y) (hy : opv E y = some (.raw (.func (.yield l) #[] #[])))
    (hN : ∀ d, o.dst = some d → d < N) (hM : YGives P l args nd 0 r0 H1) (hargs : c.args.toList.map (opv E) = args.map some) (hab : belL (UU 0) args) (hF : FitC H [] nd 0 0 H1) :
    LStep P none N ds o b0 E H (tmpsOf (y :: c.args.toList)) (nd.map (·.1)) r0 H1 nx 0 := by
  intro E' H' U hE hH hU hnx C a w next Q hR hK
  have hops := opv_congr hE
  have hfit := hF.fit (nx := nx) hR.toRelH (fun j hj => hU j (.inr hj)) (fun p hp => hH _ (List.mem_map.2 ⟨p, hp, rfl⟩)) hnx
  rw [sg_nil] at hfit
  have hRc := hR.toRelH.callee hfit
  obtain ⟨h1, _⟩ := hR.opv (x := y) (r := .raw (.func (.yield l) #[] #[])) (by rw [hops y (by simp)]; exact hy)
  have hev : a.eval y = .func (.yield l) #[] #[] := by generalize a.eval y = v at h1; cases h1; rfl
  have hxs' : c.args.toList.map (opv E') = args.map some := by
    rw [← hargs]
    exact List.map_congr_left fun x hx => hops x (List.mem_cons_of_mem _ hx)
  obtain ⟨h2, _⟩ := repL_ops hR hxs'
  have hargsR : RepL (callee C H' id nd).ρ ((callee C H' id nd).avoid nd) w.heap args (c.args.map a.eval) :=
    h2.mono (av' := (callee C H' id nd).avoid nd) (fun b _ hb => (callee_avoid hfit b).1 hb) (fun _ _ _ => rfl)
  refine GS_plain hg ⟨fun _ _ => trivial, ?_⟩
  obtain ⟨fn, tmps, assign, body, hy2, hround⟩ := hM _ w _ hRc hargsR hab
  have hrun : (execOp a.eval o).run P w = .ok (.round l fn tmps assign body) w := by
    simp [execOp, ho, resolve, hc, hev, Deferred.ofValue, invoke, hy2]
  rw [semAt_plain (by simp [ho, Op.noDefer]), hrun, Oper.uponIn_round]
  refine ⟨fun hh => (by cases hh), hround.mono fun e w' ⟨v, C1, he, k1, k2, k3, k4⟩ => ?_⟩
  subst he
  obtain ⟨q1, q2, q3⟩ := hR.toRelH.back hfit k1 k2
  rw [shift_zero] at q1 q2 q3
  obtain ⟨q4, q5⟩ := q3 r0 v k4 k3
  have hmap : (H1.map fun p => (id p.1, p.2.ren id)) = H1 := by
    conv => rhs; rw [← List.map_id H1]
    exact List.map_congr_left fun p _ => by rw [AObj.ren_id']; rfl
  rw [hmap] at q1 q2 q4
  rw [AV.ren_id] at q4 q5
  exact hK _ _ w' ((hR.change q2 (fun i hi => .inl hi) q1).put hN q4 q5) q2

/-! ### The round, from the walk of the body -/
def roundQ (Ho : Heap) (j : Option Code) : AQ := fun e E H nx =>
  match e with
  | .normal => j = none ∧ hasAll H Ho
  | .ret => j = some .ret ∧ hasAll H Ho
  | .exit id => j = some (.exit id) ∧ hasAll H Ho
  | _ => False

def parE : List Nat → List AV → Env → Env
  | p :: ps, x :: xs, E => parE ps xs ((p, x) :: E)
  | _, _, E => E

theorem Rel.params {C : Conc} {U : Nat → Prop} {w : World} : ∀ (ps : List Nat) (xs : List AV) (vs : List Value) (E : Env) (tmps : Array Value), (∀ p ∈ ps, p < N) → xs.length = ps.length → vs.length = xs.length →
    (∀ (j : Nat) (x : AV), xs[j]? = some x → x.bel U ∧ Rep C.ρ (C.avoid H) w.heap x (vs.getD j undef)) → Rel C N E H U { tmps := tmps, defers := [] } w →
    Rel C N (parE ps xs E) H U { tmps := (ps.zip vs).foldl (fun t (q : Nat × Value) => t.setIfInBounds q.1 q.2) tmps, defers := [] } w
  | [], [], vs, E, tmps, _, _, _, _, h => by simpa [parE] using h
  | p :: ps, x :: xs, v :: vs, E, tmps, hp, hl, hv, hx, h => by
    simp only [parE, List.zip_cons_cons, List.foldl_cons]
    have hx0 := hx 0 x rfl
    refine Rel.params ps xs vs _ _ (fun q hq => hp q (List.mem_cons_of_mem _ hq)) (by simpa using hl) (by simpa using hv) (fun j y hj => hx (j + 1) y (by simpa using hj)) ?_
    have := h.put (dst := some p) (r := x) (v := v) (fun d hd => by cases hd; exact hp p List.mem_cons_self) (by simpa using hx0.2) hx0.1
    exact this
  | [], _ :: _, _, _, _, _, hl, _, _, _ => by simp at hl
  | _ :: _, [], _, _, _, _, hl, _, _, _ => by simp at hl
  | _ :: _, _ :: _, [], _, _, _, _, hv, _, _ => by simp at hv

/-- A block that is none of the objects' and holds no cells is turned. -/
theorem Rel.turn {C : Conc} {U : Nat → Prop} {a : Act} {w : World} (hR : Rel C N E H U a w) {l : Nat} {o o' : Obj} (hl : w.heap[l]? = some o) (ho : ∀ cells t fr, o ≠ .cells cells t fr) (hd : ∀ ds, o ≠ .deferred ds)
    (hx : ∀ i ob, get H i = some ob → l ∉ C.own i) : Rel C N E H U a (w.putObj l o') := by
  have hother : ∀ k, k ≠ l → (w.putObj l o').heap[k]? = w.heap[k]? := fun k hk => by
    show (w.heap.setIfInBounds l _)[k]? = _
    rw [Array.getElem?_setIfInBounds, if_neg (fun e => hk e.symm)]
  have hsz : (w.putObj l o').heap.size = w.heap.size := by show (w.heap.setIfInBounds l _).size = _; simp
  have heq : ∀ b cells t fr, w.heap[b]? = some (.cells cells t fr) → ¬ C.avoid H b → (w.putObj l o').heap[b]? = w.heap[b]? := fun b cells t fr hb _ => hother b (fun e => by rw [e, hl] at hb; cases hb; exact ho _ _ _ rfl)
  exact {
    obj := fun i ob hi => (hR.obj i ob hi).mono' (fun _ _ h => h) heq (fun b hb => hother b (fun e => hx i ob hi (e ▸ hb)))
    apart := hR.apart
    xapart := hR.xapart
    xlt := fun b hb => by rw [hsz]; exact hR.xlt b hb
    objb := hR.objb
    size := hR.size
    hB := by rw [hsz]; exact hR.hB
    nodup := hR.nodup
    marks := fun d hd' => by
      obtain ⟨r, h1, h2, h3, h4⟩ := hR.marks d hd'
      exact ⟨r, h1, h2, (hother r (fun e => by rw [e, hl] at h3; exact hd _ (Option.some.inj h3))).trans h3, h4⟩
    env := fun t x ht => by
      obtain ⟨h1, h2, h3⟩ := hR.env t x ht
      exact ⟨h1, h2, h3.mono' (fun _ _ h => h) heq⟩ }

theorem Rep.step' {C : Conc} {U : Nat → Prop} {w : World} {C' : Conc} {H' : Heap} {w' : World} (hs : StepR C H U w C' H' w') {x : AV} {v : Value} (hx : x.bel U) (hr : Rep C.ρ (C.avoid H) w.heap x v) : Rep C'.ρ (C'.avoid H') w'.heap x v := by
  refine (hr.mono (fun b hb hq => ?_) (fun b hb hn => hs.keep b hb (fun q => hn (.inr q)))).named hs.ρ hx
  rcases hq with hq | hq
  · exact .inl (by rw [← hs.X]; exact hq)
  · rcases hs.wr b hq with h1 | h1
    · exact .inr h1
    · omega

theorem ygives_of_awp {l nL : Nat} {rec : Loop} {Eo : Env} {Ho Ho' : Heap} {n0 : Nat} {xs : List AV} {j : Option Code} (hst : rec.state = .ready) (hpd : rec.pending = none) (hpl : xs.length = rec.params.size) (hpN : ∀ p ∈ rec.params.toList, p < N)
    (hnL : ∀ o, get Ho nL ≠ some o) (hnL' : ∀ o, get Ho' nL ≠ some o) (hUL : UU n0 nL) (hb' : ∀ i o, get Ho' i = some o → UU n0 i ∧ o.bel (UU n0))
    (h : AWP P (some l) N n0 rec.assign (athen (AWP P (some l) N n0 rec.body (roundQ Ho' j)) (fun _ _ _ _ => False)) (parE rec.params.toList xs Eo) Ho n0) :
    YGives P l xs ((nL, .loop l rec N Eo) :: Ho) n0 (.raw (.bool j.isNone)) ((nL, .loop l { rec with state := if j.isNone then .ready else .done, pending := j } N Eo) :: Ho') := by
  intro C w vals hRH hargs hb
  have hgL : get ((nL, AObj.loop l rec N Eo) :: Ho) nL = some (.loop l rec N Eo) := by rw [get_cons, if_pos rfl]
  have hgo : ∀ i ob, get Ho i = some ob → i ≠ nL ∧ get ((nL, AObj.loop l rec N Eo) :: Ho) i = some ob := fun i ob hi => by
    have hne : i ≠ nL := fun e => by rw [e] at hi; exact hnL _ hi
    exact ⟨hne, by rw [get_cons, if_neg (fun e => hne e.symm)]; exact hi⟩
  obtain ⟨hv, hown, hl, hsz, hslots⟩ := hRH.obj nL _ hgL
  have hlt := lt_of_block hl
  have hlown : ∀ i ob, get Ho i = some ob → l ∉ C.own i := fun i ob hi hli => hRH.apart i nL _ _ l (hgo i ob hi).1 (hgo i ob hi).2 hgL hli (by rw [hown]; exact List.mem_singleton.2 rfl)
  obtain ⟨Cr, hCr⟩ : ∃ Cr : Conc, Cr = { C with X := fun b => C.X b ∨ b = l, B := w.heap.size } := ⟨_, rfl⟩
  have hCX : ∀ b, Cr.X b ↔ C.X b ∨ b = l := fun b => by rw [hCr]
  have hCρ : Cr.ρ = C.ρ := by rw [hCr]
  have hCo : Cr.own = C.own := by rw [hCr]
  have hCB : Cr.B = w.heap.size := by rw [hCr]
  have hWW : ∀ b, Cr.W Ho b → C.W ((nL, AObj.loop l rec N Eo) :: Ho) b := fun b ⟨i, ob, hi, hb⟩ => ⟨i, ob, (hgo i ob hi).2, by rw [← hCo]; exact hb⟩
  have hlW : C.W ((nL, AObj.loop l rec N Eo) :: Ho) l := ⟨nL, _, hgL, by rw [hown]; exact List.mem_singleton.2 rfl⟩
  have hav : ∀ b, Cr.avoid Ho b → C.avoid ((nL, AObj.loop l rec N Eo) :: Ho) b := fun b hb => by
    rcases hb with hb | hb
    · rcases (hCX b).1 hb with hb | hb
      · exact .inl hb
      · subst hb; exact .inr hlW
    · exact .inr (hWW b hb)
  have hRr : RelH Cr Ho (UU n0) w :=
    { obj := fun i ob hi => by rw [hCρ, hCo]; exact (hRH.obj i ob (hgo i ob hi).2).mono (fun b _ => hav b) (fun _ _ _ => rfl) (fun _ _ => rfl)
      apart := fun i k oi ok b hne hi hk => by rw [hCo]; exact hRH.apart i k oi ok b hne (hgo i oi hi).2 (hgo k ok hk).2
      xapart := fun i ob b hi hb hx => by
        rw [hCo] at hb
        rcases (hCX b).1 hx with hx | hx
        · exact hRH.xapart i ob b (hgo i ob hi).2 hb hx
        · subst hx; exact hlown i ob hi hb
      xlt := fun b hx => by
        rcases (hCX b).1 hx with hx | hx
        · exact hRH.xlt b hx
        · subst hx; exact hlt
      objb := fun i ob hi => hRH.objb i ob (hgo i ob hi).2 }
  have hEb : belL (UU n0) (Eo.map (·.2)) := (hRH.objb nL _ hgL).2
  have hslot : ∀ (k t : Nat) (x : AV), Eo[k]? = some (t, x) → t < N ∧ x.bel (UU n0) ∧ Rep Cr.ρ (Cr.avoid Ho) w.heap x (rec.tmps.getD t undef) := fun k t x hk =>
    ⟨(hslots k t x hk).1, belL_get hEb (j := k) (by simp [hk]), by rw [hCρ]; exact (hslots k t x hk).2.mono (fun b _ => hav b) (fun _ _ _ => rfl)⟩
  have hRo : Rel Cr N Eo Ho (UU n0) { tmps := rec.tmps, defers := [] } w :=
    { toRelH := hRr, size := hsz, hB := by rw [hCB]; exact Nat.le_refl _, nodup := List.nodup_nil, marks := fun d hd => by cases hd
      env := fun t x ht => by
        obtain ⟨k, hk⟩ := List.getElem?_of_mem (get_mem ht)
        exact hslot k t x hk }
  have hvl : vals.size = xs.length := hargs.1
  have hR0 := Rel.params rec.params.toList xs vals.toList Eo rec.tmps hpN (by simpa using hpl) (by simpa using hvl) (fun k x hk => ⟨belL_get hb hk, by
    have := (hargs.2 k x hk).mono (av' := Cr.avoid Ho) (fun b _ => hav b) (fun _ _ _ => rfl)
    rw [hCρ]
    simpa [Array.getD_eq_getD_getElem?] using this⟩) hRo
  have htm : (rec.params.zip vals).foldl (fun tmps (q : Nat × Value) => tmps.setIfInBounds q.1 q.2) rec.tmps = (rec.params.toList.zip vals.toList).foldl (fun t (q : Nat × Value) => t.setIfInBounds q.1 q.2) rec.tmps := by
    rw [← Array.foldl_toList, Array.toList_zip]
  have hyr := run_yield (P := P) (args := vals) hl (by rw [hvl, hpl])
  refine ⟨rec.fn, _, rec.assign, rec.body, hyr, roundIn_of_wpIn trivial ?_⟩
  have htm' : (Array.foldl (fun tmps (x : Tmp × Value) => match x with | (t, a) => tmps.setIfInBounds t a) rec.tmps (rec.params.zip vals)) = (rec.params.toList.zip vals.toList).foldl (fun t (q : Nat × Value) => t.setIfInBounds q.1 q.2) rec.tmps := htm
  rw [htm']
  refine h Cr _ w _ (Nat.le_refl _) hR0 fun e E1 H1 nx1 C1 a1 w1 hn1 hR1 hs1 hQ1 => ?_
  cases e with
  | normal =>
    have hl1 : w1.heap[l]? = some (.loop rec) := (hs1.keep l hlt (fun ⟨i, ob, hi, hb⟩ => hlown i ob hi (by rw [← hCo]; exact hb))).trans hl
    have hX1 : C1.X = Cr.X := hs1.X
    have hXl1 : C1.X l := by rw [hX1]; exact (hCX l).2 (.inr rfl)
    have hR2 := hR1.xturn (o' := .loop { rec with state := .busy }) hl1 (fun _ _ _ e => by cases e) (fun _ e => by cases e) hXl1
    refine ⟨_, run_beginRound hl1 hst, hQ1 C1 a1 _ _ hn1 hR2 fun e E2 H2 nx2 C2 a2 w2 hn2 hR3 hs2 hQ2 => ?_⟩
    have hlt1 : l < w1.heap.size := lt_of_block hl1
    have hsz1 : (w1.putObj l (.loop { rec with state := .busy })).heap.size = w1.heap.size := World.putObj_size
    have hlW1 : ¬ C1.W H1 l := fun ⟨i, ob, hi, hb⟩ => hR1.xapart i ob l hi hb hXl1
    have hl2 : w2.heap[l]? = some (.loop { rec with state := .busy }) := (hs2.keep l (by rw [hsz1]; exact hlt1) hlW1).trans (World.putObj_heap_same hlt1)
    have hlt2 := lt_of_block hl2
    have hX2 : C2.X = Cr.X := hs2.X.trans hX1
    have hXl2 : C2.X l := by rw [hX2]; exact (hCX l).2 (.inr rfl)
    have hρ2 : ∀ i, UU n0 i → C2.ρ i = C.ρ i := fun i hi => by rw [hs2.ρ i hi, hs1.ρ i hi, hCρ]
    have hother1 : ∀ (o' : Obj) (k : Nat), k ≠ l → (w1.putObj l o').heap[k]? = w1.heap[k]? := fun o' k hk => World.putObj_heap_other hk
    have hother2 : ∀ (o' : Obj) (k : Nat), k ≠ l → (w2.putObj l o').heap[k]? = w2.heap[k]? := fun o' k hk => World.putObj_heap_other hk
    -- the slots through it all
    have hslot2 : ∀ (k t : Nat) (x : AV), Eo[k]? = some (t, x) → t < N ∧ x.bel (UU n0) ∧ Rep C2.ρ (C2.avoid H2) w2.heap x (rec.tmps.getD t undef) := fun k t x hk => by
      obtain ⟨h1, h2, h3⟩ := hslot k t x hk
      refine ⟨h1, h2, Rep.step' hs2 h2 ((Rep.step' hs1 h2 h3).mono' (fun _ _ h => h) fun b cells t fr hb _ => hother1 _ b fun e => by rw [e, hl1] at hb; cases hb)⟩
    have fin : hasAll H2 Ho' → ∃ v w', (Instr.endRound l j).run P w2 = .ok v w' ∧ ∃ v' C', Ending.returned v = .returned v' ∧ RelH C' ((nL, .loop l { rec with state := if j.isNone then .ready else .done, pending := j } N Eo) :: Ho') (UU n0) w' ∧
        StepR C ((nL, .loop l rec N Eo) :: Ho) (UU n0) w C' ((nL, .loop l { rec with state := if j.isNone then .ready else .done, pending := j } N Eo) :: Ho') w' ∧
        Rep C'.ρ (C'.avoid ((nL, .loop l { rec with state := if j.isNone then .ready else .done, pending := j } N Eo) :: Ho')) w'.heap (.raw (.bool j.isNone)) v' ∧ (AV.raw (.bool j.isNone)).bel (UU n0) := fun hall => by
      have her := run_endRound (P := P) j hl2
      refine ⟨_, _, her, .bool j.isNone, { C2 with X := C.X, B := C.B, own := upd C2.own nL [l] }, rfl, ?_⟩
      generalize hrec1 : ({ rec with state := if j.isNone then .ready else .done, pending := j } : Loop) = rec1
      have hts : rec1.tmps = rec.tmps := by rw [← hrec1]
      have hR4 := hR3.xturn (o' := .loop rec1) hl2 (fun _ _ _ e => by cases e) (fun _ e => by cases e) hXl2
      have hszz : (w2.putObj l (.loop rec1)).heap.size = w2.heap.size := World.putObj_size
      have hown3 : ∀ i, i ≠ nL → upd C2.own nL [l] i = C2.own i := fun i hi => upd_other _ _ hi
      have hgL' : get ((nL, AObj.loop l rec1 N Eo) :: Ho') nL = some (.loop l rec1 N Eo) := by rw [get_cons, if_pos rfl]
      have hcase : ∀ i ob, get ((nL, AObj.loop l rec1 N Eo) :: Ho') i = some ob → (i = nL ∧ ob = .loop l rec1 N Eo) ∨ (i ≠ nL ∧ get Ho' i = some ob ∧ get H2 i = some ob) := fun i ob hi => by
        rw [get_cons] at hi
        split at hi
        · rename_i e; exact .inl ⟨e.symm, (Option.some.inj hi).symm⟩
        · rename_i e; exact .inr ⟨fun e' => e e'.symm, hi, hasAll_get hall i ob hi⟩
      have hav3 : ∀ b, (C.X b ∨ ∃ i ob, get ((nL, AObj.loop l rec1 N Eo) :: Ho') i = some ob ∧ b ∈ upd C2.own nL [l] i) → C2.avoid H2 b := fun b hb => by
        rcases hb with hb | ⟨i, ob, hi, hb⟩
        · exact .inl (by rw [hX2]; exact (hCX b).2 (.inl hb))
        · rcases hcase i ob hi with ⟨rfl, rfl⟩ | ⟨hne, h1, h2⟩
          · rw [upd_same] at hb
            rw [List.mem_singleton.1 hb]
            exact .inl hXl2
          · rw [hown3 i hne] at hb
            exact .inr ⟨i, ob, h2, hb⟩
      refine ⟨?_, ?_, .raw _, trivial⟩
      · exact {
          obj := fun i ob hi => by
            rcases hcase i ob hi with ⟨rfl, rfl⟩ | ⟨hne, h1, h2⟩
            · refine ⟨?_, upd_same _ _ _, World.putObj_heap_same hlt2, by rw [hts]; exact hsz, fun k t x hk => ?_⟩
              · show C2.ρ i = _
                rw [hρ2 i hUL]; exact hv
              · obtain ⟨h1, _, h3⟩ := hslot2 k t x hk
                rw [hts]
                exact ⟨h1, h3.mono' (fun b _ hb => hav3 b hb) fun b cells t fr hb _ => hother2 _ b fun e => by rw [e, hl2] at hb; cases hb⟩
            · show RepObj _ _ _ (upd C2.own nL [l] i) _ _
              rw [hown3 i hne]
              exact (hR4.obj i ob h2).mono (fun b _ hb => hav3 b hb) (fun _ _ _ => rfl) (fun _ _ => rfl)
          apart := fun i k oi ok b hne hi hk hbi hbk => by
            change b ∈ upd C2.own nL [l] i at hbi
            change b ∈ upd C2.own nL [l] k at hbk
            rcases hcase i oi hi with ⟨rfl, rfl⟩ | ⟨h0, h1, h2⟩
            · rcases hcase k ok hk with ⟨rfl, rfl⟩ | ⟨k0, k1, k2⟩
              · exact hne rfl
              · rw [upd_same] at hbi
                rw [hown3 k k0] at hbk
                exact hR3.xapart k ok b k2 hbk (by rw [List.mem_singleton.1 hbi]; exact hXl2)
            · rw [hown3 i h0] at hbi
              rcases hcase k ok hk with ⟨rfl, rfl⟩ | ⟨k0, k1, k2⟩
              · rw [upd_same] at hbk
                exact hR3.xapart i oi b h2 hbi (by rw [List.mem_singleton.1 hbk]; exact hXl2)
              · rw [hown3 k k0] at hbk
                exact hR3.apart i k oi ok b hne h2 k2 hbi hbk
          xapart := fun i ob b hi hb hx => by
            change b ∈ upd C2.own nL [l] i at hb
            rcases hcase i ob hi with ⟨rfl, rfl⟩ | ⟨h0, h1, h2⟩
            · rw [upd_same] at hb
              exact hRH.xapart i _ b hgL (by rw [hown]; exact hb) hx
            · rw [hown3 i h0] at hb
              exact hR3.xapart i ob b h2 hb (by rw [hX2]; exact (hCX b).2 (.inl hx))
          xlt := fun b hx => by rw [hszz]; exact hR3.xlt b (by rw [hX2]; exact (hCX b).2 (.inl hx))
          objb := fun i ob hi => by
            rcases hcase i ob hi with ⟨rfl, rfl⟩ | ⟨h0, h1, h2⟩
            · exact ⟨hUL, hEb⟩
            · exact hb' i ob h1 }
      · exact {
          os := hs2.os.trans hs1.os
          tape := hs2.tape.trans hs1.tape
          output := hs2.output.trans hs1.output
          size := by rw [hszz]; exact Nat.le_trans (Nat.le_trans hs1.size (by rw [← hsz1]; exact Nat.le_refl _)) hs2.size
          keep := fun k hk hn => by
            have hkl : k ≠ l := fun e => hn (e ▸ hlW)
            have h1 := hs1.keep k hk (fun q => hn (hWW k q))
            have hk1 : k < w1.heap.size := Nat.lt_of_lt_of_le hk hs1.size
            have h2 := hs2.keep k (by rw [hsz1]; exact hk1) (fun q => by rcases hs1.wr k q with h' | h'; exact hn (hWW k h'); omega)
            rw [hother2 _ k hkl, h2, hother1 _ k hkl, h1]
          wr := fun b ⟨i, ob, hi, hb⟩ => by
            change b ∈ upd C2.own nL [l] i at hb
            rcases hcase i ob hi with ⟨rfl, rfl⟩ | ⟨h0, h1, h2⟩
            · rw [upd_same] at hb
              rw [List.mem_singleton.1 hb]
              exact .inl hlW
            · rw [hown3 i h0] at hb
              rcases hs2.wr b ⟨i, ob, h2, hb⟩ with h3 | h3
              · rcases hs1.wr b h3 with h4 | h4
                · exact .inl (hWW b h4)
                · exact .inr h4
              · rw [hsz1] at h3
                exact .inr (Nat.le_trans hs1.size h3)
          X := rfl
          B := rfl
          ρ := fun i hi => hρ2 i hi }
    cases e with
    | normal =>
      obtain ⟨rfl, hall⟩ := hQ2
      obtain ⟨v, w', h1, h2⟩ := fin hall
      exact ⟨v, w', h1, h2⟩
    | ret =>
      obtain ⟨rfl, hall⟩ := hQ2
      obtain ⟨v, w', h1, h2⟩ := fin hall
      exact ⟨v, w', h1, h2⟩
    | exit id =>
      obtain ⟨rfl, hall⟩ := hQ2
      obtain ⟨v, w', h1, h2⟩ := fin hall
      exact ⟨v, w', h1, h2⟩
    | _ => exact hQ2.elim
  | _ => exact hQ1.elim

end
end Go.Abs
end

/- Abs29 -/
section
/- The abstract layer, twenty-ninth part: a range over a function, by the contract of the function that is ranged over. -/
set_option linter.unusedVariables false
set_option linter.unusedSimpArgs false
namespace Go.Abs
open Go

/-- The elements in turn, until a round refuses. -/
def runL {α S : Type} (nxt : S → α → S × Bool) : List α → S → S
  | [], s => s
  | x :: r, s => if (nxt s x).2 then runL nxt r (nxt s x).1 else (nxt s x).1

/-- A function that hands elements to yield in turn, until it refuses. -/
def Iter {α : Type} (P : Program) (gf : Nat) (cap : List AV) (CH : Heap) (enc : α → List AV) (xs : List α) : Prop :=
  ∀ (S : Type) (Hx : S → Heap) (Inv : List α → S → Prop) (nxt : S → α → S × Bool) (l : Nat) (s0 : S),
    (∀ s, hasAll (Hx s) CH) → (∀ s, ∀ p ∈ Hx s, get (Hx s) p.1 = some p.2 ∧ 1000 ≤ p.1 ∧ p.2.bel (UU 0)) → (∀ s, ((Hx s).map (·.1)).Nodup) → (∀ s s', (Hx s).map (·.1) = (Hx s').map (·.1)) →
    (∀ s x r, Inv (x :: r) s → x ∈ xs → YGives P l (enc x) (Hx s) 0 (.raw (.bool (nxt s x).2)) (Hx (nxt s x).1) ∧ ((nxt s x).2 = true → Inv r (nxt s x).1)) →
    Inv xs s0 → Gives P gf (.raw (.func (.yield l) #[] #[]) :: cap) (Hx s0) 0 (.tup []) (Hx (runL nxt xs s0)) 0

def upσ (m : Nat) : Nat → Nat := fun i => if i < m then i + 1000 else i
def dnσ (m : Nat) : Nat → Nat := fun i => if 1000 ≤ i ∧ i < 1000 + m then i - 1000 else i
def upH (m : Nat) (H : Heap) : Heap := H.map fun p => (upσ m p.1, p.2.ren (upσ m))

mutual
theorem AV.ren_comp (σ τ : Nat → Nat) : ∀ x : AV, (x.ren σ).ren τ = x.ren fun i => τ (σ i)
  | .any => rfl
  | .raw _ => rfl
  | .agg cs => by simp only [AV.ren]; rw [renL_comp σ τ cs]
  | .tup cs => by simp only [AV.ren]; rw [renL_comp σ τ cs]
  | .sl _ xs => by simp only [AV.ren]; rw [renL_comp σ τ xs]
  | .fp _ xs _ _ => by simp only [AV.ren]; rw [renL_comp σ τ xs]
  | .ptr i _ => rfl
  | .ep i _ _ _ => rfl
  | .ref i => rfl
  | .iface _ x => by simp only [AV.ren]; rw [AV.ren_comp σ τ x]
  | .fn _ a b => by simp only [AV.ren]; rw [renL_comp σ τ a, renL_comp σ τ b]
  | .when _ x => by simp only [AV.ren]; rw [AV.ren_comp σ τ x]
  | .own _ _ xs => by simp only [AV.ren]; rw [renL_comp σ τ xs]
theorem renL_comp (σ τ : Nat → Nat) : ∀ xs : List AV, renL τ (renL σ xs) = renL (fun i => τ (σ i)) xs
  | [] => rfl
  | x :: xs => by simp only [renL]; rw [AV.ren_comp σ τ x, renL_comp σ τ xs]
end

theorem AObj.ren_comp (σ τ : Nat → Nat) (o : AObj) : (o.ren σ).ren τ = o.ren fun i => τ (σ i) := by
  cases o with
  | dead => rfl
  | cells t cs => simp only [AObj.ren, renL_comp]
  | row e sz xs => simp only [AObj.ren, renL_comp]
  | map kt et m => simp only [AObj.ren, List.map_map, AObj.map.injEq, true_and]; exact List.map_congr_left fun p _ => by simp [AV.ren_comp]
  | mapS kt et m k st => simp only [AObj.ren, List.map_map, AObj.mapS.injEq, true_and, and_true]; exact List.map_congr_left fun p _ => by simp [AV.ren_comp]
  | other b ob => rfl
  | loop l rec No Eo => simp only [AObj.ren, List.map_map, AObj.loop.injEq, true_and]; exact List.map_congr_left fun p _ => by simp [AV.ren_comp]

theorem dn_up {m i : Nat} (h : i < m) : dnσ m (upσ m i) = i := by
  simp only [dnσ, upσ, if_pos h]
  rw [if_pos ⟨by omega, by omega⟩]
  omega
theorem up_ge {m i : Nat} (h : i < m) : upσ m i = i + 1000 := by simp [upσ, h]
theorem up_inj {m i j : Nat} (hi : i < m) (hj : j < m) (e : upσ m i = upσ m j) : i = j := by rw [up_ge hi, up_ge hj] at e; omega

theorem AObj.dn_up {m : Nat} (o : AObj) (h : o.bel (· < m)) : (o.ren (upσ m)).ren (dnσ m) = o := by
  rw [AObj.ren_comp]
  exact (AObj.ren_congr (U := (· < m)) (τ := id) (fun i hi => Abs.dn_up hi) o h).trans (AObj.ren_id' o)
theorem renL_dn_up {m : Nat} (xs : List AV) (h : belL (· < m) xs) : renL (dnσ m) (renL (upσ m) xs) = xs := by
  rw [renL_comp]
  exact (renL_congr (U := (· < m)) (τ := id) (fun i hi => Abs.dn_up hi) xs h).trans (renL_id xs)
theorem upH_dn {m : Nat} (K : Heap) (h : ∀ p ∈ K, p.1 < m ∧ p.2.bel (· < m)) : ((upH m K).map fun p => (dnσ m p.1, p.2.ren (dnσ m))) = K := by
  unfold upH
  rw [List.map_map]
  conv => rhs; rw [← List.map_id K]
  exact List.map_congr_left fun p hp => by
    obtain ⟨h1, h2⟩ := h p hp
    simp [dn_up h1, AObj.dn_up p.2 h2]
theorem up_bel {m : Nat} {o : AObj} (h : o.bel (· < m)) : (o.ren (upσ m)).bel (UU 0) := AObj.bel_ren.2 (AObj.bel_mono (fun i hi => .inr (by rw [up_ge hi]; omega)) o h)
theorem upH_get {m : Nat} {K : Heap} (h : ∀ p ∈ K, p.1 < m ∧ p.2.bel (· < m)) {j : Nat} {o : AObj} (hj : get K j = some o) : get (upH m K) (upσ m j) = some (o.ren (upσ m)) :=
  get_map_of (upσ m) (AObj.ren (upσ m)) K j o (fun i j oi oj hi hj e => up_inj (h _ (get_mem hi)).1 (h _ (get_mem hj)).1 e) hj
theorem upH_inv {m : Nat} {K : Heap} (h : ∀ p ∈ K, p.1 < m ∧ p.2.bel (· < m)) {i : Nat} {o : AObj} (hi : get (upH m K) i = some o) : ∃ j oj, get K j = some oj ∧ j < m ∧ i = upσ m j ∧ dnσ m i = j ∧ o.ren (dnσ m) = oj ∧ oj.bel (· < m) ∧ o = oj.ren (upσ m) := by
  obtain ⟨j, oj, h1, h2, h3⟩ := get_map _ _ _ _ _ hi
  obtain ⟨h4, h5⟩ := h _ (get_mem h1)
  exact ⟨j, oj, h1, h4, h2.symm, by rw [← h2]; exact dn_up h4, by rw [← h3]; exact AObj.dn_up oj h5, h5, h3.symm⟩
theorem get_key {α : Type} : ∀ {l : List (Nat × α)} {i : Nat}, i ∈ l.map (·.1) → ∃ o, get l i = some o
  | (k, x) :: r, i, h => by
    rw [get_cons]
    by_cases e : k = i
    · exact ⟨x, if_pos e⟩
    · rw [if_neg e]
      refine get_key ?_
      simp only [List.map_cons, List.mem_cons] at h
      rcases h with h | h
      · exact absurd h.symm e
      · exact h
theorem key_get {α : Type} {l : List (Nat × α)} {i : Nat} {o : α} (h : get l i = some o) : i ∈ l.map (·.1) := List.mem_map.2 ⟨_, get_mem h, rfl⟩
theorem get_of_mem {α : Type} : ∀ {l : List (Nat × α)} {p : Nat × α}, (l.map (·.1)).Nodup → p ∈ l → get l p.1 = some p.2
  | q :: r, p, hn, hp => by
    rw [List.map_cons, List.nodup_cons] at hn
    rw [show (q :: r : List (Nat × α)) = (q.1, q.2) :: r from rfl, get_cons]
    rcases List.mem_cons.1 hp with e | e
    · subst e; exact if_pos rfl
    · rw [if_neg (fun e' => hn.1 (by rw [e']; exact List.mem_map_of_mem e))]
      exact get_of_mem hn.2 e

theorem nodup_map_on {α β : Type} {f : α → β} : ∀ {l : List α}, (∀ x, x ∈ l → ∀ y, y ∈ l → f x = f y → x = y) → l.Nodup → (l.map f).Nodup
  | [], _, _ => List.nodup_nil
  | x :: r, h, hn => by
    rw [List.nodup_cons] at hn
    rw [List.map_cons, List.nodup_cons]
    refine ⟨fun hm => ?_, nodup_map_on (fun a ha b hb => h a (List.mem_cons_of_mem _ ha) b (List.mem_cons_of_mem _ hb)) hn.2⟩
    obtain ⟨y, hy, e⟩ := List.mem_map.1 hm
    have := h y (List.mem_cons_of_mem _ hy) x List.mem_cons_self e
    exact hn.1 (this ▸ hy)

/-- A round, told from far. -/
theorem ygives_up {P : Program} {l m : Nat} {args : List AV} {nd H1 : Heap} {r0 : AV} (hm : m ≤ 1000) (hM : YGives P l args nd m r0 H1) (ha : belL (fun _ => False) args) (hr : r0.bel fun _ => False)
    (hnd : ∀ p ∈ nd, p.1 < m ∧ p.2.bel (· < m)) (hH1 : ∀ p ∈ H1, p.1 < m ∧ p.2.bel (· < m)) (hk : nd.map (·.1) = H1.map (·.1)) : YGives P l args (upH m nd) 0 r0 (upH m H1) := by
  intro C w vals hRH hargs hb
  have hfit : Fit (UU 0) (upH m nd) (upσ m) nd m 0 0 H1 :=
    { objs := fun i o hi => ⟨upH_get hnd hi, .inl (hnd _ (get_mem hi)).1, AObj.bel_mono (fun j hj => .inl hj) o (hnd _ (get_mem hi)).2⟩
      inj := fun i j oi oj hi hj e => up_inj (hnd _ (get_mem hi)).1 (hnd _ (get_mem hj)).1 e
      known := fun i hi => by
        unfold upσ
        split
        · exact .inr (by omega)
        · rcases hi with hi | hi
          · omega
          · exact .inr hi
      dom := fun i o hi => .inl (get_key (by rw [hk]; exact key_get hi))
      all := fun i o hi => get_key (by rw [← hk]; exact key_get hi)
      fresh := fun j h1 h2 => by omega
      far := by omega }
  have hRc := hRH.callee hfit
  have hargsR : RepL (callee C (upH m nd) (upσ m) nd).ρ ((callee C (upH m nd) (upσ m) nd).avoid nd) w.heap args vals :=
    (RepL.mono (av' := (callee C (upH m nd) (upσ m) nd).avoid nd) (fun b _ hb => (callee_avoid hfit b).1 hb) (fun _ _ _ => rfl) (show RepL C.ρ (C.avoid (upH m nd)) w.heap (renL (upσ m) args) vals by rw [renL_closed _ ha]; exact hargs)).unren (ρ := C.ρ)
  refine YGives.mono (hM _ w vals hRc hargsR (belL_mono (fun _ h => h.elim) args ha)) fun e w' ⟨v, C1, he, k1, k2, k3, k4⟩ => ?_
  obtain ⟨q1, q2, q3⟩ := hRH.back hfit k1 k2
  rw [shift_zero] at q1 q2 q3
  obtain ⟨q4, q5⟩ := q3 r0 v k4 k3
  rw [AV.ren_closed _ hr] at q4 q5
  rw [addU_zero] at q1 q5
  have hext : ∀ k, get (upH m H1) k = get (over (upH m nd) (H1.map fun p => (upσ m p.1, p.2.ren (upσ m)))) k := fun k => by
    rw [over_get]
    show _ = match get (upH m H1) k with | some o => some o | none => get (upH m nd) k
    cases h1 : get (upH m H1) k with
    | some o => rfl
    | none =>
      cases h2 : get (upH m nd) k with
      | none => rfl
      | some o =>
        exfalso
        obtain ⟨j, oj, h3, h4, h5, _⟩ := upH_inv hnd h2
        obtain ⟨o', ho'⟩ := get_key (l := H1) (i := j) (by rw [← hk]; exact key_get h3)
        have := upH_get hH1 ho'
        rw [← h5, h1] at this
        cases this
  refine ⟨v, _, he, q1.ext hext, q2.ext hext, ?_, q5⟩
  rw [avoid_ext hext]
  exact q4

/-- What is done behind the loop. -/
def jumpQ (Q : AQ) : Option Code → AK
  | none => Q .normal
  | some .ret => Q .ret
  | some (.exit id) => Q (.exit id)
  | _ => fun _ _ _ => False

theorem awp_rangeFunc {P : Program} {N n0 nx : Nat} {Q : AQ} {E : Env} {H : Heap} {α S : Type} {g : Operand} {ps : Array Tmp} {assign body : Code} {gf : Nat} {fn : Func} {code : Code} {cap : List AV} {CH : Heap} {enc : α → List AV} {xs : List α}
    (Ho : S → Heap) (Eo : Env) (Inv : List α → S → Prop) (jmp : S → Option Code) (nxt : S → α → S × Bool) (s0 : S) (hnx : nx + 1 ≤ 1000)
    (hg : opv E g = some (.fn (.func gf) [] cap)) (hT : FnT P gf fn code) (hcap : belL (· < nx) cap) (hit : Iter P gf (renL (upσ (nx + 1)) cap) CH enc xs)
    (hxs : ∀ x ∈ xs, (enc x).length = ps.size ∧ belL (fun _ => False) (enc x)) (hps : ∀ p ∈ ps.toList, p < N)
    (hEo : ∀ p ∈ Eo, get E p.1 = some p.2 ∧ p.2.bel (· < nx)) (hH0 : hasAll H (Ho s0))
    (hHo : ∀ s, ∀ p ∈ Ho s, p.1 < nx ∧ p.2.bel (· < nx)) (hkn : ∀ s, ((Ho s).map (·.1)).Nodup) (hkk : ∀ s s', (Ho s).map (·.1) = (Ho s').map (·.1))
    (hCH : ∀ s, hasAll (upH (nx + 1) (Ho s)) CH)
    (hI0 : Inv xs s0) (hIj : ∀ r s, Inv r s → jmp s = none)
    (hround : ∀ s x r l, Inv (x :: r) s → x ∈ xs → AWP P (some l) N (nx + 1) assign (athen (AWP P (some l) N (nx + 1) body (roundQ (Ho (nxt s x).1) (jmp (nxt s x).1))) fun _ _ _ _ => False) (parE ps.toList (enc x) Eo) (Ho s) (nx + 1) ∧
      (nxt s x).2 = (jmp (nxt s x).1).isNone ∧ ((nxt s x).2 = true → Inv r (nxt s x).1))
    (hdone : jumpQ Q (jmp (runL nxt xs s0)) E (over H (Ho (runL nxt xs s0))) (nx + 1)) :
    AWP P none N n0 (.rangeFunc g ps assign body) Q E H nx := by
  intro C a w Qc hn hR hK
  refine wpIn_rangeFunc ?_
  intro fnr hfnr
  obtain ⟨hrg, _⟩ := hR.opv hg
  generalize hev : a.eval g = gv at hrg
  cases hrg with
  | fn _ _ _ vs us hvs _ hus hus' =>
  have hvs0 : vs = #[] := Array.eq_empty_of_size_eq_zero hvs
  subst hvs0
  obtain ⟨rec0, hrec0⟩ : ∃ rec0 : Loop, rec0 = { state := .ready, pending := none, fn := fnr, tmps := a.tmps, params := ps, assign, body, defers := w.heap.size } := ⟨_, rfl⟩
  obtain ⟨recS, hrecS⟩ : ∃ recS : S → Loop, recS = fun s => { rec0 with state := if (jmp s).isNone then .ready else .done, pending := jmp s } := ⟨_, rfl⟩
  have hrs0 : ∀ s, jmp s = none → recS s = rec0 := fun s hs => by rw [hrecS]; simp only [hs]; rw [hrec0]; rfl
  obtain ⟨l, hl⟩ : ∃ l, l = w.heap.size + 1 := ⟨_, rfl⟩
  obtain ⟨m, hm⟩ : ∃ m, m = nx + 1 := ⟨_, rfl⟩
  rw [← hm] at hit hCH hround hdone hnx
  obtain ⟨W1, hW1⟩ : ∃ W1, (w.alloc (.deferred (some []))).alloc (.loop rec0) = W1 := ⟨_, rfl⟩
  have hsz1 : W1.heap.size = w.heap.size + 2 := by rw [← hW1]; simp
  have hk1 : ∀ k, k < w.heap.size → W1.heap[k]? = w.heap[k]? := fun k hk => by
    rw [← hW1]
    show ((w.heap.push _).push _)[k]? = _
    rw [Array.getElem?_push, if_neg (by simp; omega), Array.getElem?_push, if_neg (by omega)]
  have hD1 : W1.heap[w.heap.size]? = some (.deferred (some [])) := by
    rw [← hW1]
    show ((w.heap.push _).push _)[w.heap.size]? = _
    rw [Array.getElem?_push, if_neg (by simp), Array.getElem?_push, if_pos rfl]
  have hL1 : W1.heap[l]? = some (.loop rec0) := by
    rw [← hW1, hl]
    show ((w.heap.push _).push _)[w.heap.size + 1]? = _
    rw [Array.getElem?_push, if_pos (by simp)]
  have hUm : (fun j => UU nx j ∨ j = nx) = UU m := by rw [hm, ← addU_one, addU_UU]
  have hnU : ¬ UU nx nx := UU_new (by omega)
  have hown : ∀ b, b ∈ [l] → w.heap.size ≤ b := fun b hb => by rw [List.mem_singleton.1 hb, hl]; omega
  have hos : W1.os = w.os := by rw [← hW1]; rfl
  have htp : W1.tape = w.tape := by rw [← hW1]; rfl
  have hout : W1.output = w.output := by rw [← hW1]; rfl
  obtain ⟨HL, hHL⟩ : ∃ HL, HL = put H nx (.loop l rec0 N Eo) := ⟨_, rfl⟩
  obtain ⟨C1, hC1⟩ : ∃ C1, C1 = C.new nx (.pointer (some ⟨l, 0, none⟩)) [l] rfl := ⟨_, rfl⟩
  have hs1 : StepR C H (UU nx) w C1 HL W1 := by
    rw [hC1, hHL]
    exact StepR.new hR.toRelH hos htp hout (by omega) hk1 hnU rfl hown _
  have hEob : belL (UU nx) (Eo.map (·.2)) := belL_iff.2 fun x hx => by
    obtain ⟨p, hp, rfl⟩ := List.mem_map.1 hx
    exact AV.bel_mono (fun i hi => .inl hi) _ (hEo p hp).2
  have hRo : ∀ (j t : Nat) (x : AV), Eo[j]? = some (t, x) → t < N ∧ x.bel (UU nx) ∧ Rep C.ρ (C.avoid H) w.heap x (a.tmps.getD t undef) := fun j t x hj => hR.env t x (hEo _ (List.mem_of_getElem? hj)).1
  have hR1 : RelH C1 HL (UU m) W1 := by
    rw [← hUm, hC1, hHL]
    refine RelH.new hR.toRelH hos htp hout (by omega) hk1 hnU rfl hown ⟨rfl, rfl, hL1, by rw [hrec0]; exact hR.size, fun j t x hj => ?_⟩ (belL_mono (fun i hi => .inl hi) _ hEob)
    obtain ⟨h1, h2, h3⟩ := hRo j t x hj
    refine ⟨h1, ?_⟩
    rw [show rec0.tmps = a.tmps by rw [hrec0]]
    have := Rep.step' hs1 h2 h3
    rw [hC1, hHL] at this
    exact this
  have hav1 : ¬ C1.avoid HL w.heap.size := fun hq => by
    rcases hq with hq | ⟨i, o, hi, hb⟩
    · rw [hs1.X] at hq
      exact absurd (hR.xlt _ hq) (by omega)
    · rw [hHL] at hi
      by_cases e : i = nx
      · rw [e, hC1] at hb
        have : w.heap.size ∈ [l] := by rw [← show (C.new nx (.pointer (some ⟨l, 0, none⟩)) [l] rfl).own nx = [l] from upd_same _ _ _]; exact hb
        rw [List.mem_singleton] at this
        omega
      · rw [get_put_ne e] at hi
        rw [hC1] at hb
        have hb' : w.heap.size ∈ C.own i := by rw [← show (C.new nx (.pointer (some ⟨l, 0, none⟩)) [l] rfl).own i = C.own i from upd_other _ _ e]; exact hb
        exact absurd ((hR.obj i o hi).own_lt _ hb') (by omega)
  have hRel1 := hR.change hs1 (U' := UU m) (fun i hi => by rw [hm]; exact UU_mono (Nat.le_succ _) i hi) hR1
  have hRel1' : Rel C1 N E HL (UU m) { a with defers := [{ target := .collected w.heap.size, args := #[] }] ++ a.defers } W1 :=
    { toRelH := hR1, size := hRel1.size, hB := hRel1.hB, env := hRel1.env
      nodup := by
        refine List.nodup_cons.2 ⟨fun hmem => ?_, hR.nodup⟩
        obtain ⟨r, h1, _, h3, _⟩ := hR.marks _ hmem
        have : w.heap.size = r := by simpa using h1
        exact absurd (lt_of_block h3) (by omega)
      marks := fun d hd => by
        rcases List.mem_cons.1 hd with e | e
        · exact ⟨w.heap.size, e, by rw [hs1.B]; exact hR.hB, hD1, hav1⟩
        · exact hRel1.marks d e }
  obtain ⟨K, hK0⟩ : ∃ K : S → Heap, K = fun s => (nx, .loop l (recS s) N Eo) :: Ho s := ⟨_, rfl⟩
  have hKm : ∀ s, ∀ p ∈ K s, p.1 < m ∧ p.2.bel (· < m) := fun s p hp => by
    rw [hK0] at hp
    rcases List.mem_cons.1 hp with e | e
    · rw [e]
      exact ⟨by show nx < m; omega, belL_iff.2 fun x hx => by
        obtain ⟨q, hq, rfl⟩ := List.mem_map.1 hx
        exact AV.bel_mono (fun i hi => by omega) _ (hEo q hq).2⟩
    · obtain ⟨h1, h2⟩ := hHo s p e
      exact ⟨by omega, AObj.bel_mono (fun i hi => by omega) _ h2⟩
  have hKn : ∀ s, ((K s).map (·.1)).Nodup := fun s => by
    rw [hK0]
    refine List.nodup_cons.2 ⟨fun hmem => ?_, hkn s⟩
    obtain ⟨p, hp, he⟩ := List.mem_map.1 hmem
    have := (hHo s p hp).1
    have he' : p.1 = nx := he
    omega
  have hKk : ∀ s s', (K s).map (·.1) = (K s').map (·.1) := fun s s' => by rw [hK0]; simp [hkk s s']
  have hnone : ∀ s o, get (Ho s) nx ≠ some o := fun s o ho => by have := (hHo s _ (get_mem ho)).1; simp at this
  have hupK : ∀ s, (upH m (K s)).map (·.1) = ((K s).map (·.1)).map (upσ m) := fun s => by unfold upH; simp
  -- the iterator
  have hG := hit S (fun s => upH m (K s)) Inv nxt l s0 (fun s => by
      have := hCH s
      rw [hK0]
      have aux : ∀ {A B : Heap}, (∀ i o, get A i = some o → get B i = some o) → ∀ {D : Heap}, hasAll A D → hasAll B D := fun {A B} hab => by
        intro D
        induction D with
        | nil => exact fun _ => trivial
        | cons p r ih => exact fun h => ⟨hab _ _ h.1, ih h.2⟩
      refine aux (fun i o hi => ?_) this
      obtain ⟨j, oj, h1, h2, h3, _⟩ := upH_inv (m := m) (fun p hp => ⟨by have := (hHo s p hp).1; omega, AObj.bel_mono (fun i hi => by omega) _ (hHo s p hp).2⟩) hi
      show get ((upσ m nx, _) :: upH m (Ho s)) i = _
      rw [get_cons, if_neg]
      · exact hi
      · rw [h3]
        intro e
        have := up_inj (m := m) (by omega) h2 e
        exact hnone s _ (by rw [this]; exact h1))
    (fun s p hp => by
      obtain ⟨q, hq, rfl⟩ := List.mem_map.1 hp
      obtain ⟨h1, h2⟩ := hKm s q hq
      refine ⟨upH_get (hKm s) (get_of_mem (hKn s) hq), ?_, up_bel h2⟩
      show 1000 ≤ upσ m q.1
      rw [up_ge h1]; omega)
    (fun s => by
      rw [hupK]
      refine nodup_map_on ?_ (hKn s)
      intro x hx y hy e
      obtain ⟨p, hp, rfl⟩ := List.mem_map.1 hx
      obtain ⟨q, hq, rfl⟩ := List.mem_map.1 hy
      exact up_inj (hKm s p hp).1 (hKm s q hq).1 e)
    (fun s s' => by rw [hupK, hupK, hKk s s'])
    (fun s x r hI hx => by
      obtain ⟨h1, h2, h3⟩ := hround s x r l hI hx
      refine ⟨?_, h3⟩
      have hy := ygives_of_awp (l := l) (nL := nx) (rec := rec0) (Eo := Eo) (Ho := Ho s) (Ho' := Ho (nxt s x).1) (n0 := m) (xs := enc x) (j := jmp (nxt s x).1) (by rw [hrec0]) (by rw [hrec0]) (by rw [hrec0]; exact (hxs x hx).1) (by rw [hrec0]; exact hps)
        (hnone s) (hnone _) (.inl (by omega)) (fun i o hi => ⟨.inl (by have := (hHo _ _ (get_mem hi)).1; simp at this; omega), AObj.bel_mono (fun k hk => .inl (by omega)) _ (hHo _ _ (get_mem hi)).2⟩) (by rw [hrec0]; exact h1)
      rw [← h2] at hy
      have hy2 : YGives P l (enc x) (K s) m (.raw (.bool (nxt s x).2)) (K (nxt s x).1) := by
        rw [hK0]
        show YGives P l (enc x) ((nx, .loop l (recS s) N Eo) :: Ho s) m _ ((nx, .loop l (recS (nxt s x).1) N Eo) :: Ho (nxt s x).1)
        rw [hrs0 s (hIj _ s hI), hrecS]
        simp only
        rw [← h2]
        exact hy
      exact ygives_up (by omega) hy2 (hxs x hx).2 trivial (hKm _) (hKm _) (hKk _ _))
    hI0
  generalize hse : runL nxt xs s0 = se at hG hdone
  have hfit : Fit (UU m) HL (dnσ m) (upH m (K s0)) 0 0 0 (upH m (K se)) :=
    { objs := fun i o hi => by
        obtain ⟨j, oj, h1, h2, h3, h4, h5, h6, h7⟩ := upH_inv (hKm s0) hi
        refine ⟨?_, .inr (by rw [h3, up_ge h2]; omega), by rw [h7]; exact up_bel h6⟩
        rw [h4, h5, hHL]
        rw [hK0] at h1
        simp only [get_cons] at h1
        split at h1
        · rename_i e
          rw [get_put, if_pos e, ← h1, hrs0 s0 (hIj _ s0 hI0)]
        · rename_i e
          rw [get_put_ne (fun e' => e e'.symm)]
          exact hasAll_get hH0 j oj h1
      inj := fun i j oi oj hi hj e => by
        obtain ⟨i', _, _, h2, h3, h4, _⟩ := upH_inv (hKm s0) hi
        obtain ⟨j', _, _, k2, k3, k4, _⟩ := upH_inv (hKm s0) hj
        rw [h4, k4] at e
        rw [h3, k3, e]
      known := fun i hi => by
        rcases hi with hi | hi
        · omega
        · unfold dnσ
          split
          · exact .inl (by omega)
          · exact .inr hi
      dom := fun i o hi => .inl (get_key (by rw [hupK, hKk s0 se, ← hupK]; exact key_get hi))
      all := fun i o hi => get_key (by rw [hupK, hKk se s0, ← hupK]; exact key_get hi)
      fresh := fun j h1 h2 => by omega
      far := by omega }
  have hRc := hR1.callee hfit
  have hvals : RepL (callee C1 HL (dnσ m) (upH m (K s0))).ρ ((callee C1 HL (dnσ m) (upH m (K s0))).avoid (upH m (K s0))) W1.heap (.raw (.func (.yield l) #[] #[]) :: renL (upσ m) cap) (#[.func (.yield l) #[] #[]] ++ us) := by
    have h1 : RepL C1.ρ (C1.avoid HL) W1.heap cap us := ⟨hus, fun j x hj => Rep.step' hs1 (AV.bel_mono (fun i hi => .inl hi) x (belL_get hcap hj)) (hus' j x hj)⟩
    have h2 : RepL C1.ρ (C1.avoid HL) W1.heap (renL (dnσ m) (.raw (.func (.yield l) #[] #[]) :: renL (upσ m) cap)) (#[.func (.yield l) #[] #[]] ++ us) := by
      rw [renL, renL_dn_up cap (belL_mono (fun i hi => by omega) cap hcap)]
      have h3 : RepL C1.ρ (C1.avoid HL) W1.heap [.raw (.func (.yield l) #[] #[])] #[.func (.yield l) #[] #[]] := ⟨rfl, fun j x hj => by
        cases j with
        | zero => cases hj; exact .raw _
        | succ j => simp at hj⟩
      exact RepL.append h3 h1
    exact (h2.mono (av' := (callee C1 HL (dnσ m) (upH m (K s0))).avoid (upH m (K s0))) (fun b _ hb => (callee_avoid hfit b).1 hb) (fun _ _ _ => rfl)).unren (ρ := C1.ρ)
  have hbel : belL (UU 0) (AV.raw (.func (.yield l) #[] #[]) :: renL (upσ m) cap) := ⟨trivial, belL_ren.2 (belL_mono (fun i hi => .inr (by rw [up_ge (by omega)]; omega)) cap hcap)⟩
  refine ⟨l, [{ target := .collected w.heap.size, args := #[] }], W1, { target := .fn (.func gf) us, args := #[.func (.yield l) #[] #[]] }, W1, gf, #[.func (.yield l) #[] #[]] ++ us, W1, ?_, ?_, fun _ _ => trivial, ?_, fun hh => (by cases hh), ?_⟩
  · rw [← hW1, hrec0, hl]; exact run_enterLoop_outer _ _ _ _ _
  · simp only [resolve, hev]
    simp [go_sem]
  · have := hT.run (P := P)
    simp [invoke, go_sem, this]
  · refine callsIn_FW ((hG _ W1 _ hRc hvals hbel).mono fun e w3 ⟨v, r, H3, n3, C3, he, hn3, ⟨hr, hH3, hn3'⟩, k1, k2, k3, k4⟩ => ?_)
    subst he; subst hr; subst hH3; subst hn3'
    obtain ⟨q1, q2, _⟩ := hR1.back hfit k1 k2
    rw [shift_zero] at q1 q2
    rw [addU_zero, upH_dn _ (hKm se)] at q1
    rw [upH_dn _ (hKm se)] at q2
    generalize back C1 C3 (dnσ m) (upH m (K s0)) 0 0 0 = Cb at q1 q2
    have hgl : get (over HL (K se)) nx = some (.loop l (recS se) N Eo) := by
      rw [over_get, hK0]
      simp only [get_cons, if_true]
    obtain ⟨z1, z2, z3, _⟩ := q1.obj nx _ hgl
    have hst : (recS se).state ≠ .busy := by
      rw [hrecS]
      simp only
      split <;> simp
    refine ⟨_, _, run_endLoop z3 hst, ?_⟩
    have hfor : ∀ i o, get (over H (Ho se)) i = some o → i ≠ nx ∧ get (over HL (K se)) i = some o := fun i o hi => by
      have hne : i ≠ nx := fun e => by
        rw [over_get] at hi
        cases h1 : get (Ho se) i with
        | some o' => exact hnone se o' (by rw [← e]; exact h1)
        | none =>
          rw [h1] at hi
          have := (hR.objb i o hi).1
          rw [e] at this
          exact hnU this
      refine ⟨hne, ?_⟩
      rw [over_get] at hi
      rw [over_get, hK0]
      simp only [get_cons, if_neg (fun e => hne (Eq.symm e))]
      rw [hHL, get_put_ne hne]
      exact hi
    have hRel3 := (hRel1'.change q2 (fun _ h => h) q1)
    have hRel4 := hRel3.forget (E' := E) (H' := over H (Ho se)) (U' := UU m) (fun _ _ h => h) (fun t x ht => (hRel3.env t x ht).2.1) (fun i o hi => (hfor i o hi).2) (fun i o hi => q1.objb i o (hfor i o hi).2)
    have hRel5 := hRel4.turn (o' := .loop { recS se with state := .exhausted }) z3 (fun _ _ _ e => by cases e) (fun _ e => by cases e) (fun i o hi hb => q1.apart i nx _ _ l (hfor i o hi).1 (hfor i o hi).2 hgl hb (by rw [z2]; exact List.mem_singleton.2 rfl))
    have hall : StepR C H (UU nx) w Cb (over HL (K se)) w3 := hs1.trans (fun i hi => by rw [hm]; exact UU_mono (Nat.le_succ _) i hi) q2
    have hlge : w.heap.size ≤ l := by omega
    have hstep : StepR C H (UU n0) w Cb (over H (Ho se)) (w3.putObj l (.loop { recS se with state := .exhausted })) :=
      { os := hall.os, tape := hall.tape, output := hall.output
        size := by rw [World.putObj_size]; exact hall.size
        keep := fun k hk hn => (World.putObj_heap_other (by omega)).trans (hall.keep k hk hn)
        wr := fun b ⟨i, o, hi, hb⟩ => hall.wr b ⟨i, o, (hfor i o hi).2, hb⟩
        X := hall.X, B := hall.B
        ρ := fun i hi => hall.ρ i (UU_mono hn i hi) }
    have hpend : (recS se).pending = jmp se := by rw [hrecS]
    have key : ∀ jj : Option Code, jumpQ Q jj E (over H (Ho se)) m → (match jj with
        | none => Qc .normal { a with defers := [{ target := .collected w.heap.size, args := #[] }] ++ a.defers } (w3.putObj l (.loop { recS se with state := .exhausted }))
        | some c => c.wpIn (FW none) 0 P Qc { a with defers := [{ target := .collected w.heap.size, args := #[] }] ++ a.defers } (w3.putObj l (.loop { recS se with state := .exhausted }))) := fun jj hjj => by
      cases jj with
      | none => exact hK .normal E _ m Cb _ _ (by omega) hRel5 hstep hjj
      | some c =>
        cases c with
        | ret => exact wpIn_ret (hK .ret E _ m Cb _ _ (by omega) hRel5 hstep hjj)
        | exit id => exact wpIn_exit (hK (.exit id) E _ m Cb _ _ (by omega) hRel5 hstep hjj)
        | _ => exact hjj.elim
    exact key _ (by rw [hpend]; exact hdone)

end Go.Abs
end

/- Abs30 -/
section
/- The abstract layer, thirtieth part: objects from far. -/
set_option linter.unusedVariables false
set_option linter.unusedSimpArgs false
namespace Go.Abs
open Go

theorem heapOk_of {n1 : Nat} {H : Heap} : ∀ (H1 : Heap), (∀ p ∈ H1, get H p.1 = some p.2 ∧ UU n1 p.1 ∧ p.2.bel (UU n1)) → heapOk (sg []) n1 H H1
  | [], _ => trivial
  | (i, o) :: r, h => by
    obtain ⟨h1, h2, h3⟩ := h _ List.mem_cons_self
    exact ⟨by rw [AObj.ren_nil]; exact h1, h2, h3, heapOk_of r fun p hp => h p (List.mem_cons_of_mem _ hp)⟩

theorem sg_nil_map (H : Heap) : (H.map fun p => sg [] p.1) = H.map (·.1) := rfl

/-- The far objects lie in a heap. -/
structure Far (H : Heap) (F : Heap) : Prop where
  at' : ∀ p ∈ F, get H p.1 = some p.2
  far : ∀ p ∈ F, 1000 ≤ p.1 ∧ p.2.bel (UU 0)
  nodup : (F.map (·.1)).Nodup

theorem Far.put {H F : Heap} (h : Far H F) {n : Nat} (hn : n < 1000) (o : AObj) : Far (put H n o) F :=
  ⟨fun p hp => by rw [get_put_ne (by have := (h.far p hp).1; omega)]; exact h.at' p hp, h.far, h.nodup⟩
theorem Far.over {H F' : Heap} (h : Far F' F') : Far (over H F') F' :=
  ⟨fun p hp => by rw [over_get, h.at' p hp], h.far, h.nodup⟩

theorem Far.fit {H F F' : Heap} (h : Far H F) (hk : F.map (·.1) = F'.map (·.1)) : FitC H [] F 0 0 F' where
  objs := heapOk_of F fun p hp => ⟨h.at' p hp, .inr (h.far p hp).1, (h.far p hp).2⟩
  inj := h.nodup
  cov := fun i hi => by omega
  sk := fun p hp => by cases hp
  dom := fun p hp => .inl (by
    obtain ⟨o, ho⟩ := get_key (l := F) (i := p.1) (by rw [hk]; exact List.mem_map_of_mem hp)
    rw [ho]; rfl)
  all := fun p hp => by
    obtain ⟨o, ho⟩ := get_key (l := F') (i := p.1) (by rw [← hk]; exact List.mem_map_of_mem hp)
    rw [ho]; rfl
  far := by omega

theorem Far.heap {H F : Heap} (h : Far H F) (n1 : Nat) : heapOk (sg []) n1 H F := heapOk_of F fun p hp => ⟨h.at' p hp, .inr (h.far p hp).1, AObj.bel_mono (UU_mono (Nat.zero_le _)) _ (h.far p hp).2⟩
theorem Far.told {H F : Heap} (h : Far H F) {E E1 : Env} (he : envOk (sg []) 0 E E1) : Told 0 [] E H E1 F 0 :=
  ⟨he, h.heap 0, h.nodup, (fun p hp => by cases hp), Nat.le_refl _⟩
theorem Far.final {P : Program} {vs : List ResultVar} {r0 : AV} {H F : Heap} (h : Far H F) {E : Env} (hr : (resAV P E H vs).map packAV = some r0) (hb : r0.bel (UU 0)) : Final P vs 0 r0 F 0 E H :=
  ⟨[], by rw [AV.ren_nil]; exact hr, h.heap 0, h.nodup, hb, (fun p hp => by cases hp), Nat.le_refl _⟩

attribute [go_sem] hasAll parE jumpQ roundQ upσ upH
end Go.Abs
end

/- Abs31 -/
section
/- The abstract layer, thirty-first part: maps of data. -/
set_option linter.unusedVariables false
set_option linter.unusedSimpArgs false
namespace Go.Abs
open Go Go.MapKept

section
variable {K V : Type} [DecidableEq K]
def mfind : List (K × V) → K → Option (Nat × V)
  | [], _ => none
  | (k, v) :: r, q => if k = q then some (0, v) else (mfind r q).map fun p => (p.1 + 1, p.2)
def mset : List (K × V) → K → V → List (K × V)
  | [], q, w => [(q, w)]
  | (k, v) :: r, q, w => if k = q then (q, w) :: r else (k, v) :: mset r q w
def mval (m : List (K × V)) (q : K) (z : V) : V := match mfind m q with | some p => p.2 | none => z
def mAV (eK : K → Value) (eV : V → AV) (m : List (K × V)) : List (Value × AV) := m.map fun p => (eK p.1, eV p.2)

theorem mval_cons (k : K) (v : V) (r : List (K × V)) (q : K) (z : V) : mval ((k, v) :: r) q z = if k = q then v else mval r q z := by
  unfold mval
  rw [mfind]
  by_cases h : k = q
  · simp [h]
  · simp only [h, if_false]
    cases mfind r q <;> rfl
theorem mval_nil (q : K) (z : V) : mval ([] : List (K × V)) q z = z := rfl
theorem mval_mset (k : K) (v : V) (q : K) (z : V) : ∀ m : List (K × V), mval (mset m k v) q z = if k = q then v else mval m q z
  | [] => by rw [mset, mval_cons]
  | (k', v') :: r => by
    unfold mset
    by_cases h : k' = k
    · subst h
      simp only [if_true]
      rw [mval_cons, mval_cons]
      by_cases h2 : k' = q <;> simp [h2]
    · simp only [h, if_false]
      rw [mval_cons, mval_cons, mval_mset k v q z r]
      by_cases h2 : k' = q
      · subst h2
        simp only [if_true]
        rw [if_neg (fun e => h e.symm)]
      · simp [h2]
theorem mset_length (k : K) (v : V) : ∀ m : List (K × V), (mset m k v).length ≤ m.length + 1
  | [] => by simp [mset]
  | (k', v') :: r => by
    unfold mset
    split
    · simp
    · have := mset_length k v r; simp; omega
theorem mset_key (k : K) (v : V) (q : K) : ∀ m : List (K × V), q ∈ (mset m k v).map (·.1) → q = k ∨ q ∈ m.map (·.1)
  | [], h => by simp [mset] at h; exact .inl h
  | (k', v') :: r, h => by
    unfold mset at h
    split at h
    · rename_i e
      simp only [List.map_cons, List.mem_cons] at h ⊢
      rcases h with h | h
      · exact .inl h
      · exact .inr (.inr h)
    · simp only [List.map_cons, List.mem_cons] at h ⊢
      rcases h with h | h
      · exact .inr (.inl h)
      · rcases mset_key k v q r h with h | h
        · exact .inl h
        · exact .inr (.inr h)
theorem mset_nodup (k : K) (v : V) : ∀ m : List (K × V), (m.map (·.1)).Nodup → ((mset m k v).map (·.1)).Nodup
  | [], _ => by simp [mset]
  | (k', v') :: r, h => by
    simp only [List.map_cons, List.nodup_cons] at h
    unfold mset
    split
    · rename_i e
      subst e
      simpa using h
    · rename_i e
      simp only [List.map_cons, List.nodup_cons]
      refine ⟨fun hm => ?_, mset_nodup k v r h.2⟩
      rcases mset_key k v k' r hm with h' | h'
      · exact e h'
      · exact h.1 h'

variable {eK : K → Value} {eV : V → AV}
theorem mget_of (hi : ∀ a b, eK a = eK b → a = b) (k : K) : ∀ m : List (K × V), MGet (mAV eK eV m) (eK k) ((mfind m k).map fun p => (p.1, eV p.2))
  | [] => fun p hp => by cases hp
  | (k', v') :: r => by
    have ih := mget_of hi k r
    unfold mfind
    by_cases h : k' = k
    · subst h
      simp [MGet, mAV]
    · simp only [h, if_false]
      cases hf : mfind r k with
      | none =>
        rw [hf] at ih
        intro p hp
        simp only [mAV, List.map_cons, List.mem_cons] at hp
        rcases hp with rfl | hp
        · exact fun e => h (hi _ _ e)
        · exact ih p hp
      | some q =>
        rw [hf] at ih
        simpa [MGet, mAV] using ih
theorem mput_of (k : K) (v : V) : ∀ m : List (K × V), mapPut (mAV eK eV m) (eK k) (eV v) ((mfind m k).map fun p => (p.1, eV p.2)) = mAV eK eV (mset m k v)
  | [] => rfl
  | (k', v') :: r => by
    have ih := mput_of k v r
    unfold mfind mset
    by_cases h : k' = k
    · subst h
      simp [mapPut, mAV]
    · simp only [h, if_false]
      cases hf : mfind r k with
      | none =>
        rw [hf] at ih
        simp only [Option.map_none, mapPut, mAV] at ih ⊢
        simp [ih]
      | some q =>
        rw [hf] at ih
        simp only [Option.map_some, mapPut, mAV] at ih ⊢
        simp [ih]
theorem look_of (m : List (K × V)) (k : K) (z : V) : lookAV (eV z) false ((mfind m k).map fun p => (p.1, eV p.2)) = eV (mval m k z) := by
  unfold lookAV mval
  cases mfind m k <;> rfl

theorem mAV_bel {U : Nat → Prop} (h : ∀ v, (eV v).bel U) (m : List (K × V)) : belL U ((mAV eK eV m).map (·.2)) := by
  rw [belL_iff]
  intro x hx
  obtain ⟨p, hp, rfl⟩ := List.mem_map.1 hx
  obtain ⟨q, hq, rfl⟩ := List.mem_map.1 hp
  exact h _
theorem mAV_ren (σ : Nat → Nat) (h : ∀ v, (eV v).ren σ = eV v) (m : List (K × V)) : ((mAV eK eV m).map fun p => (p.1, p.2.ren σ)) = mAV eK eV m := by
  unfold mAV
  rw [List.map_map]
  exact List.map_congr_left fun p _ => by simp [h]

variable {P : Program} {ro : Option Nat} {N : Nat} {o : Oper} {E : Env} {H : Heap} {nx b0 : Nat} {ds : List (Option Tmp)}

theorem lstep_look {t kt et : TypeId} {x y : Operand} {i : Nat} {m : List (K × V)} {isKey : Value → Prop} {kav : AV} {k : K} {z : V} (hg : o.guard = none) (ho : o.op = .lookup t x y false) (hN : ∀ d, o.dst = some d → d < N) (hm : mapInfo P t = some (kt, et)) (hz : zeroEl P et = some (eV z))
    (hK : KeyT P kt isKey) (hi : ∀ a b, eK a = eK b → a = b) (hk : ∀ a, isKey (eK a)) (hx : opv E x = some (.ref i)) (hH : get H i = some (.map kt et (mAV eK eV m))) (hnd : (m.map (·.1)).Nodup) (hy : opv E y = some kav) (hkv : keyV kav = some (eK k)) :
    LStep P ro N ds o b0 E H (tmpsOf [x, y]) [i] (eV (mval m k z)) [] nx 0 := by
  rw [← look_of (eV := eV) m k z]
  refine lstep_lookup hg ho hN hm hz hK hx hH hy hkv (hk k) (fun p hp => ?_) ?_ (mget_of hi k m)
  · obtain ⟨q, _, rfl⟩ := List.mem_map.1 hp
    exact hk _
  · rw [show ((mAV eK eV m).map (·.1)) = (m.map (·.1)).map eK by simp [mAV]]
    exact nodup_map_on (fun a _ b _ => hi a b) hnd

theorem lstep_upd {t kt et : TypeId} {x y z : Operand} {i : Nat} {m : List (K × V)} {isKey : Value → Prop} {kav : AV} {k : K} {v : V} (hg : o.guard = none) (ho : o.op = .mapUpdate t x y z) (hN : ∀ d, o.dst = some d → d < N) (hm : mapInfo P t = some (kt, et))
    (hK : KeyT P kt isKey) (hi : ∀ a b, eK a = eK b → a = b) (hk : ∀ a, isKey (eK a)) (hx : opv E x = some (.ref i)) (hH : get H i = some (.map kt et (mAV eK eV m))) (hnd : (m.map (·.1)).Nodup) (hy : opv E y = some kav) (hkv : keyV kav = some (eK k)) (hz : opv E z = some (eV v)) (hlen : m.length + 1 < maxLen) :
    LStep P ro N ds o b0 E H (tmpsOf [x, y, z]) [i] (.raw undef) [(i, .map kt et (mAV eK eV (mset m k v)))] nx 0 := by
  rw [← mput_of (eK := eK) (eV := eV) k v m]
  refine lstep_mapUpdate hg ho hN hm hK hx hH hy hkv hz (hk k) (fun p hp => ?_) ?_ (mget_of hi k m) (by simpa [mAV] using hlen)
  · obtain ⟨q, _, rfl⟩ := List.mem_map.1 hp
    exact hk _
  · rw [show ((mAV eK eV m).map (·.1)) = (m.map (·.1)).map eK by simp [mAV]]
    exact nodup_map_on (fun a _ b _ => hi a b) hnd
end
end Go.Abs
end

/- Abs32 -/
section
/- The abstract layer, thirty-second part: an entry of a map, and a store into it by its stamp. -/
set_option linter.unusedVariables false
set_option linter.unusedSimpArgs false
namespace Go.Abs
open Go Go.MapKept

section
variable {P : Program} {ro : Option Nat} {N : Nat} {o : Oper} {E : Env} {H : Heap} {nx b0 : Nat} {ds : List (Option Tmp)} {U : Nat → Prop}

/-- The map has the key. -/
def mapGot (m : List (Value × AV)) (k : Value) (z : AV) : Option (Nat × AV) → List (Value × AV)
  | some _ => m
  | none => m ++ [(k, z)]

theorem lstep_mapEntry {t kt et : TypeId} {x y : Operand} {i : Nat} {m : List (Value × AV)} {isKey : Value → Prop} {k zv : Value} {kav : AV} {r : Option (Nat × AV)} (hg : o.guard = none) (ho : o.op = .mapEntry t x y) (hN : ∀ d, o.dst = some d → d < N) (hm : mapInfo P t = some (kt, et))
    (hz : ∀ w, (zeroValue et).run P w = .ok zv w) (hK : KeyT P kt isKey) (hx : opv E x = some (.ref i)) (hH : get H i = some (.map kt et m)) (hy : opv E y = some kav) (hkv : keyV kav = some k) (hkk : isKey k) (hk : ∀ p ∈ m, isKey p.1) (hnd : (m.map (·.1)).Nodup) (hr : MGet m k r) (hlen : m.length + 1 < maxLen) :
    LStep P ro N ds o b0 E H (tmpsOf [x, y]) [i] (.tup [.any, .ref nx]) [(i, .mapS kt et (mapGot m k (.raw zv) r) k nx)] nx 1 := by
  refine fun E' H' U hE hH' _ hnx C a w next Q hR hnext => GS_plain hg ?_
  have hops := opv_congr hE
  have hHi : get H' i = some (.map kt et m) := (hH' i (by simp)).trans hH
  obtain ⟨h1, _⟩ := hR.opv (x := x) (r := .ref i) (by rw [hops x (by simp)]; exact hx)
  obtain ⟨h2, _⟩ := hR.opv (x := y) (r := kav) (by rw [hops y (by simp)]; exact hy)
  have hkey := keyV_rep hkv _ _ _ _ h2
  obtain ⟨b, es, clock, hρ, hown, hb, hsz, hlt, hent, hborn⟩ := map_at (a := a) hR.toRelH hHi
  have hev : a.eval x = .map (some b) := by generalize a.eval x = v at h1; cases h1; exact hρ
  have hbelm := (hR.objb i _ hHi).2
  have hUi := (hR.objb i _ hHi).1
  have hfind := run_find (P := P) (w := w) hK hsz hent hk hkk hnd hr
  have hchk := hK.check k hkk false w
  have hg := MapKept.run_getObj_map (P := P) (w := w) hb
  have hblt := lt_of_block hb
  have hUnx : ¬ U nx := hnx nx (Nat.le_refl _) (by omega)
  have key : ∃ es' clock' v born, (Instr.mapEntry t (.map (some b)) k).run P w = .ok (.tuple #[v, goInt (born : Nat)]) { w with heap := w.heap.setIfInBounds b (.map es' clock') } ∧ es'.size = (mapGot m k (.raw zv) r).length ∧ es'.size < maxLen ∧
      (∀ (j : Nat) (k' : Value) (x : AV), (mapGot m k (.raw zv) r)[j]? = some (k', x) → ∃ e, es'[j]? = some e ∧ e.key = k' ∧ Rep C.ρ (C.avoid H') w.heap x e.val) ∧
      (∀ (j : Nat) (e : MapEntry), es'[j]? = some e → e.born < clock' ∧ ∀ (i : Nat) (d : MapEntry), es'[i]? = some d → d.born = e.born → i = j) ∧ ∃ (q : Nat) (e : MapEntry), es'[q]? = some e ∧ e.key = k ∧ e.born = born := by
    cases r with
    | none =>
      refine ⟨es.push { key := k, val := zv, born := clock }, clock + 1, zv, clock, ?_, by simp [mapGot, hsz], by simp; omega, fun j k' x hj => ?_, fun j e hj => ?_, es.size, { key := k, val := zv, born := clock }, by simp, rfl, rfl⟩
      · simp only [Instr.mapEntry, Sem.run_bind, run_underlying (mapInfo_open hm), Result.andThen_ok, hg, hchk, hfind, hz]
        rw [MapKept.run_setObj_map _ hb]
        rfl
      · simp only [mapGot] at hj
        rcases Nat.lt_or_ge j m.length with h1 | h1
        · rw [List.getElem?_append_left h1] at hj
          obtain ⟨e, he, hk, hx⟩ := hent j k' x hj
          exact ⟨e, by rw [Array.getElem?_push, if_neg (by omega)]; exact he, hk, hx⟩
        · rw [List.getElem?_append_right h1] at hj
          have hj0 : j = m.length := by
            have := (List.getElem?_eq_some_iff.1 hj).1
            simp at this
            omega
          subst hj0
          simp only [Nat.sub_self, List.getElem?_cons_zero, Option.some.injEq, Prod.mk.injEq] at hj
          obtain ⟨rfl, rfl⟩ := hj
          exact ⟨_, by rw [Array.getElem?_push, if_pos (by omega)], rfl, .raw _⟩
      · rw [Array.getElem?_push] at hj
        split at hj
        · cases hj
          refine ⟨Nat.lt_succ_self _, fun i' d hi' hd => ?_⟩
          rw [Array.getElem?_push] at hi'
          split at hi'
          · omega
          · have := (hborn i' d hi').1
            simp only at hd
            omega
        · obtain ⟨q1, q2⟩ := hborn j e hj
          refine ⟨by omega, fun i' d hi' hd => ?_⟩
          rw [Array.getElem?_push] at hi'
          split at hi'
          · cases hi'
            simp only at hd
            omega
          · exact q2 i' d hi' hd
    | some p =>
      obtain ⟨j, y'⟩ := p
      obtain ⟨e, he, hke, _, hf⟩ := hfind
      have at' : ∀ (q : Nat) (d : MapEntry), (es.modify j fun e => { e with key := k })[q]? = some d → ∃ d', es[q]? = some d' ∧ d'.born = d.born := fun q d hq => by
        rw [Array.getElem?_modify] at hq
        split at hq
        · obtain ⟨d', hd', rfl⟩ := Option.map_eq_some_iff.1 hq
          exact ⟨d', hd', rfl⟩
        · exact ⟨d, hq, rfl⟩
      refine ⟨es.modify j fun e => { e with key := k }, clock, e.val, e.born, ?_, by simpa [mapGot] using hsz, by simpa using hlt, fun j' k' x hj' => ?_, fun j' e' hj' => ?_, j, { e with key := k }, by rw [Array.getElem?_modify, if_pos rfl, he]; rfl, rfl, rfl⟩
      · have hst : (Instr.keyThatStays k k).run P w = .ok k w := by simp [Instr.keyThatStays, hK.bits k hkk]
        have hke' : ((es[j]?).map (·.key)).getD k = k := by rw [he]; exact hke
        have hbo : ((es[j]?).map (fun x => (x.born : Int))).getD 0 = (e.born : Int) := by rw [he]; rfl
        simp only [Instr.mapEntry, Sem.run_bind, run_underlying (mapInfo_open hm), Result.andThen_ok, hg, hchk, hf, hke', hst]
        rw [MapKept.run_setObj_map _ hb, hbo]
        rfl
      · obtain ⟨e', he', hk', hr'⟩ := hent j' k' x hj'
        by_cases hjj : j = j'
        · subst hjj
          rw [he] at he'
          cases he'
          exact ⟨{ e with key := k }, by rw [Array.getElem?_modify, if_pos rfl, he]; rfl, hke.symm.trans hk', hr'⟩
        · exact ⟨e', by rw [Array.getElem?_modify, if_neg hjj]; exact he', hk', hr'⟩
      · obtain ⟨d, hd, hbd⟩ := at' j' e' hj'
        obtain ⟨q1, q2⟩ := hborn j' d hd
        refine ⟨by omega, fun i' d2 hi' hd2 => ?_⟩
        obtain ⟨d3, hd3, hbd3⟩ := at' i' d2 hi'
        exact q2 i' d3 hd3 (by omega)
  obtain ⟨es', clock', v, born, hrun, k1, k2, k3, k4, q, e, k5, k6, k7⟩ := key
  have hother : ∀ q, q ≠ b → (w.heap.setIfInBounds b (.map es' clock'))[q]? = w.heap[q]? := fun q hq => by rw [Array.getElem?_setIfInBounds, if_neg (fun e => hq e.symm)]
  have hkeep : ∀ q, q ∉ C.own i → ({ w with heap := w.heap.setIfInBounds b (.map es' clock') } : World).heap[q]? = w.heap[q]? := fun q hq => hother q (fun e => hq (by rw [hown, e]; simp))
  have hav : ∀ q, q < w.heap.size → ¬ C.avoid H' q → ({ w with heap := w.heap.setIfInBounds b (.map es' clock') } : World).heap[q]? = w.heap[q]? := fun q _ hn => hkeep q (fun hb' => hn (.inr ⟨i, _, hHi, hb'⟩))
  -- the stamp's name
  have hine : i ≠ nx := fun e => hUnx (e ▸ hUi)
  have hs0 := StepR.new (w' := w) hR.toRelH rfl rfl rfl (Nat.le_refl _) (fun _ _ => rfl) hUnx (v := .int .i64 (born : Int)) (own := []) rfl (by simp) .dead
  have hH0 := RelH.new (w' := w) hR.toRelH rfl rfl rfl (Nat.le_refl _) (fun _ _ => rfl) hUnx (v := .int .i64 (born : Int)) (own := []) rfl (by simp) (o := .dead) rfl trivial
  have hR0 := hR.change hs0 (fun _ h => .inl h) hH0
  have hHi0 : get (put H' nx .dead) i = some (.map kt et m) := by rw [get_put_ne hine]; exact hHi
  have hown0 : (C.new nx (.int .i64 (born : Int)) [] rfl).own i = C.own i := upd_other _ _ hine
  have hρ0 : (C.new nx (.int .i64 (born : Int)) [] rfl).ρ i = C.ρ i := upd_other _ _ hine
  have hρn : (C.new nx (.int .i64 (born : Int)) [] rfl).ρ nx = .int .i64 (born : Int) := upd_same _ _ _
  generalize C.new nx (.int .i64 (born : Int)) [] rfl = C0 at hs0 hH0 hR0 hown0 hρ0 hρn
  have hkeep0 : ∀ q, q ∉ C0.own i → ({ w with heap := w.heap.setIfInBounds b (.map es' clock') } : World).heap[q]? = w.heap[q]? := fun q hq => hkeep q (by rw [← hown0]; exact hq)
  have hav0 : ∀ q, q < w.heap.size → ¬ C0.avoid (put H' nx .dead) q → ({ w with heap := w.heap.setIfInBounds b (.map es' clock') } : World).heap[q]? = w.heap[q]? := fun q _ hn => hkeep0 q (fun hb' => hn (.inr ⟨i, _, hHi0, hb'⟩))
  have hbelm' : belL U (m.map (·.2)) := hbelm
  have hs := StepR.inPlace (o' := .mapS kt et (mapGot m k (.raw zv) r) k nx) hH0 (w' := { w with heap := w.heap.setIfInBounds b (.map es' clock') }) rfl rfl rfl (size_setBlock w b _) hHi0 hkeep0
  have hRH := hH0.inPlace (w' := { w with heap := w.heap.setIfInBounds b (.map es' clock') }) rfl rfl rfl (size_setBlock w b _) hHi0 (o' := .mapS kt et (mapGot m k (.raw zv) r) k nx) hkeep0
    ⟨b, es', clock', hρ0.trans hρ, hown0.trans hown, by show (w.heap.setIfInBounds b _)[b]? = _; simp [hblt], k1, k2, fun j k' x hj => by
      obtain ⟨e, he, hke, hx⟩ := k3 j k' x hj
      have hxb : x.bel U := by
        cases r with
        | some p =>
          have hj' : m[j]? = some (k', x) := hj
          exact belL_get hbelm' (j := j) (by rw [List.getElem?_map, hj']; rfl)
        | none =>
          simp only [mapGot] at hj
          rcases Nat.lt_or_ge j m.length with h1 | h1
          · rw [List.getElem?_append_left h1] at hj
            exact belL_get hbelm' (j := j) (by rw [List.getElem?_map, hj]; rfl)
          · rw [List.getElem?_append_right h1] at hj
            have := List.mem_of_getElem? hj
            simp only [List.mem_singleton, Prod.mk.injEq] at this
            rw [this.2]; trivial
      exact ⟨e, he, hke, (Rep.step hR.toRelH hs0 hxb hx).mono (fun _ _ h => h) hav0⟩, k4, q, e, k5, k6, by rw [hρn, k7]⟩ ⟨by
      show belL _ _
      cases r with
      | some p => exact belL_mono (fun _ h => .inl h) _ hbelm'
      | none =>
        simp only [mapGot, List.map_append, List.map_cons, List.map_nil]
        rw [belL_iff]
        intro y hy
        rcases List.mem_append.1 hy with hy | hy
        · exact AV.bel_mono (fun _ h => .inl h) _ (belL_iff.1 hbelm' y hy)
        · rw [List.mem_singleton.1 hy]; trivial, .inr rfl⟩
  have hR' := hR0.change hs (fun _ h => h) hRH
  have hall := hs0.trans (U₁ := fun j => U j ∨ j = nx) (fun _ h => .inl h) hs
  refine wpIn_value (w' := { w with heap := w.heap.setIfInBounds b (.map es' clock') }) (by simp [ho, Op.noDefer]) (v := .tuple #[v, goInt (born : Nat)]) (by simp [execOp, ho, hev, hkey, hrun]) ?_
  have hfor : ∀ j ob, get (over H' [(i, .mapS kt et (mapGot m k (.raw zv) r) k nx)]) j = some ob → get (put (put H' nx .dead) i (.mapS kt et (mapGot m k (.raw zv) r) k nx)) j = some ob := fun j ob hj => by
    have hj' : get (put H' i (.mapS kt et (mapGot m k (.raw zv) r) k nx)) j = some ob := hj
    rw [get_put] at hj' ⊢
    by_cases e : i = j
    · rw [if_pos e] at hj' ⊢; exact hj'
    · rw [if_neg e] at hj' ⊢
      rw [get_put_ne (fun e' => hUnx (by rw [← e']; exact (hR.objb j ob hj').1))]
      exact hj'
  rw [addU_one] at hnext
  have hR2 := hR'.forget (E' := E') (H' := over H' [(i, .mapS kt et (mapGot m k (.raw zv) r) k nx)]) (U' := fun j => U j ∨ j = nx) (fun _ _ h => h) (fun t x ht => (hR'.env t x ht).2.1) hfor (fun j ob hj => hRH.objb j ob (hfor j ob hj))
  refine hnext C0 _ _ (hR2.put hN (r := .tup [.any, .ref nx]) (.tup _ _ rfl fun j x hj => ?_) ⟨trivial, .inr rfl, trivial⟩) (hall.forget hfor)
  match j, hj with
  | 0, hj => cases hj; exact .any _
  | 1, hj =>
    cases hj
    have : Rep C0.ρ (C0.avoid (over H' [(i, .mapS kt et (mapGot m k (.raw zv) r) k nx)])) ({ w with heap := w.heap.setIfInBounds b (.map es' clock') } : World).heap (.ref nx) (C0.ρ nx) := .ref nx
    rw [hρn] at this
    exact this
  | j + 2, hj => simp at hj

theorem lstep_entryStore {t kt et : TypeId} {x y z : Operand} {i st : Nat} {m : List (Value × AV)} {k : Value} {j0 : Nat} {x0 v : AV} (hg : o.guard = none) (ho : o.op = .entryStore t x y z) (hN : ∀ d, o.dst = some d → d < N)
    (hx : opv E x = some (.ref i)) (hH : get H i = some (.mapS kt et m k st)) (hy : opv E y = some (.ref st)) (hz : opv E z = some v) (hnd : (m.map (·.1)).Nodup) (hr : m[j0]? = some (k, x0)) :
    LStep P ro N ds o b0 E H (tmpsOf [x, y, z]) [i] (.raw undef) [(i, .map kt et (m.set j0 (k, v)))] nx 0 := by
  refine lstep_of_opT hg fun E' H' U hE hH' _ => ?_
  rw [addU_zero]
  have hops := opv_congr hE
  intro C a w next Q hR hnext
  have hHi : get H' i = some (.mapS kt et m k st) := (hH' i (by simp)).trans hH
  obtain ⟨h1, _⟩ := hR.opv (x := x) (r := .ref i) (by rw [hops x (by simp)]; exact hx)
  obtain ⟨h2, _⟩ := hR.opv (x := y) (r := .ref st) (by rw [hops y (by simp)]; exact hy)
  obtain ⟨h3, h3b⟩ := hR.opv (x := z) (r := v) (by rw [hops z (by simp)]; exact hz)
  obtain ⟨b, es, clock, hρ, hown, hb, hsz, hlt, hent, hborn, q, e, hq, hqk, hqs⟩ := hR.obj i _ hHi
  have hev : a.eval x = .map (some b) := by generalize a.eval x = v at h1; cases h1; exact hρ
  have hevy : a.eval y = .int .i64 (e.born : Int) := by generalize a.eval y = v at h2; cases h2; exact hqs
  have hbelm := (hR.objb i _ hHi).2.1
  have hblt := lt_of_block hb
  have hql := (Array.getElem?_eq_some_iff.1 hq).1
  -- the entry is the key's
  obtain ⟨e0, he0, hek0, _⟩ := hent j0 k x0 hr
  have hqj : q = j0 := by
    have hmq : m[q]? = some (m[q]'(by omega)) := List.getElem?_eq_getElem (by omega)
    obtain ⟨e1, he1, hk1, _⟩ := hent q (m[q]'(by omega)).1 (m[q]'(by omega)).2 hmq
    rw [hq] at he1
    cases he1
    have q1 : (m.map (·.1))[q]? = some k := by rw [List.getElem?_map, hmq, ← hqk, hk1]; rfl
    have q2 : (m.map (·.1))[j0]? = some k := by rw [List.getElem?_map, hr]; rfl
    obtain ⟨l1, e1⟩ := List.getElem?_eq_some_iff.1 q1
    obtain ⟨l2, e2⟩ := List.getElem?_eq_some_iff.1 q2
    exact (List.getElem_inj hnd).mp (e1.trans e2.symm)
  subst hqj
  have hfi : es.findIdx? (fun d => (d.born : Int) == (e.born : Int)) = some q := by
    rw [Array.findIdx?_eq_some_iff_getElem]
    refine ⟨hql, ?_, fun j hj => ?_⟩
    · have : es[q] = e := by rw [Array.getElem?_eq_getElem hql] at hq; exact Option.some.inj hq
      simp [this]
    · have hjl : j < es.size := by omega
      simp only [beq_iff_eq, Int.natCast_inj, Bool.not_eq_true, beq_eq_false_iff_ne, ne_eq]
      intro hb'
      have := (hborn q e hq).2 j es[j] (Array.getElem?_eq_getElem hjl) hb'
      omega
  have hrun : (Instr.entryStore t (.map (some b)) (.int .i64 (e.born : Int)) (a.eval z)).run P w = .ok () { w with heap := w.heap.setIfInBounds b (.map (es.modify q fun e => { e with val := a.eval z }) clock) } := by
    have hai : (asInt (.int .i64 (e.born : Int))).run P w = .ok (e.born : Int) w := by simp [asInt, asIntOf]
    simp only [Instr.entryStore, Sem.run_bind, MapKept.run_getObj_map (P := P) (w := w) hb, Result.andThen_ok, hai, hfi]
    exact MapKept.run_setObj_map _ hb
  have hother : ∀ p, p ≠ b → (w.heap.setIfInBounds b (.map (es.modify q fun e => { e with val := a.eval z }) clock))[p]? = w.heap[p]? := fun p hp => by rw [Array.getElem?_setIfInBounds, if_neg (fun e => hp e.symm)]
  have hkeep : ∀ p, p ∉ C.own i → ({ w with heap := w.heap.setIfInBounds b (.map (es.modify q fun e => { e with val := a.eval z }) clock) } : World).heap[p]? = w.heap[p]? := fun p hp => hother p (fun e => hp (by rw [hown, e]; simp))
  have hav : ∀ p, p < w.heap.size → ¬ C.avoid H' p → ({ w with heap := w.heap.setIfInBounds b (.map (es.modify q fun e => { e with val := a.eval z }) clock) } : World).heap[p]? = w.heap[p]? := fun p _ hn => hkeep p (fun hb' => hn (.inr ⟨i, _, hHi, hb'⟩))
  have hs := StepR.inPlace (o' := .map kt et (m.set q (k, v))) hR.toRelH (w' := { w with heap := w.heap.setIfInBounds b (.map (es.modify q fun e => { e with val := a.eval z }) clock) }) rfl rfl rfl (size_setBlock w b _) hHi hkeep
  have hRH := hR.toRelH.inPlace (w' := { w with heap := w.heap.setIfInBounds b (.map (es.modify q fun e => { e with val := a.eval z }) clock) }) rfl rfl rfl (size_setBlock w b _) hHi (o' := .map kt et (m.set q (k, v))) hkeep
    ⟨b, es.modify q fun e => { e with val := a.eval z }, clock, hρ, hown, by show (w.heap.setIfInBounds b _)[b]? = _; simp [hblt], by simpa using hsz, by simpa using hlt, fun j k' y hj => by
      rw [List.getElem?_set] at hj
      by_cases hjq : q = j
      · subst hjq
        rw [if_pos rfl] at hj
        split at hj
        · cases hj
          exact ⟨{ e with val := a.eval z }, by rw [Array.getElem?_modify, if_pos rfl, hq]; rfl, hqk, h3.mono (fun _ _ h => h) hav⟩
        · cases hj
      · rw [if_neg hjq] at hj
        obtain ⟨e', he', hk', hr'⟩ := hent j k' y hj
        exact ⟨e', by rw [Array.getElem?_modify, if_neg hjq]; exact he', hk', hr'.mono (fun _ _ h => h) hav⟩, fun j e' hj => by
      have at' : ∀ (p : Nat) (d : MapEntry), (es.modify q fun e => { e with val := a.eval z })[p]? = some d → ∃ d', es[p]? = some d' ∧ d'.born = d.born := fun p d hp => by
        rw [Array.getElem?_modify] at hp
        split at hp
        · obtain ⟨d', hd', rfl⟩ := Option.map_eq_some_iff.1 hp
          exact ⟨d', hd', rfl⟩
        · exact ⟨d, hp, rfl⟩
      obtain ⟨d, hd, hbd⟩ := at' j e' hj
      obtain ⟨q1, q2⟩ := hborn j d hd
      refine ⟨by omega, fun i' d2 hi' hd2 => ?_⟩
      obtain ⟨d3, hd3, hbd3⟩ := at' i' d2 hi'
      exact q2 i' d3 hd3 (by omega)⟩ (by
      show belL U _
      rw [belL_iff]
      intro p hp
      rw [List.map_set] at hp
      rcases List.mem_or_eq_of_mem_set hp with h | h
      · exact belL_iff.1 hbelm p h
      · rw [h]; exact h3b)
  have hR' := hR.change hs (fun _ h => h) hRH
  exact wpIn_skipped (by simp [ho, Op.noDefer]) (w' := { w with heap := w.heap.setIfInBounds b (.map (es.modify q fun e => { e with val := a.eval z }) clock) }) (by simp [execOp, ho, hev, hevy, hrun]) (hnext C _ _ (hR'.put hN (.raw _) trivial) hs)

end
end Go.Abs
end

/- Abs33 -/
section
/- The abstract layer, thirty-third part: entries of maps of data. -/
set_option linter.unusedVariables false
set_option linter.unusedSimpArgs false
namespace Go.Abs
open Go Go.MapKept

section
variable {K V : Type} [DecidableEq K] {eK : K → Value} {eV : V → AV}
def mgot (m : List (K × V)) (k : K) (z : V) : List (K × V) := match mfind m k with | some _ => m | none => m ++ [(k, z)]

theorem mfind_none {k : K} : ∀ {m : List (K × V)}, mfind m k = none → ∀ p ∈ m, p.1 ≠ k
  | [], _, p, hp => by cases hp
  | (k', v') :: r, h, p, hp => by
    unfold mfind at h
    split at h
    · cases h
    · rename_i e
      rcases List.mem_cons.1 hp with e' | e'
      · rw [e']; exact e
      · exact mfind_none (by simpa using h) p e'
theorem mfind_some {k : K} : ∀ {m : List (K × V)} {j : Nat} {v : V}, mfind m k = some (j, v) → m[j]? = some (k, v)
  | [], _, _, h => by cases h
  | (k', v') :: r, j, v, h => by
    unfold mfind at h
    split at h
    · rename_i e; cases h; rw [e]; rfl
    · obtain ⟨⟨j', v''⟩, h1, h2⟩ := Option.map_eq_some_iff.1 h
      cases h2
      simpa using mfind_some h1
theorem mgot_nodup {k : K} {z : V} {m : List (K × V)} (h : (m.map (·.1)).Nodup) : ((mgot m k z).map (·.1)).Nodup := by
  unfold mgot
  split
  · exact h
  · rename_i hn
    simp only [List.map_append, List.map_cons, List.map_nil]
    rw [List.nodup_append]
    refine ⟨h, by simp, fun a ha b hb => ?_⟩
    obtain ⟨p, hp, rfl⟩ := List.mem_map.1 ha
    rw [List.mem_singleton.1 hb]
    exact mfind_none hn p hp
theorem mgot_at (m : List (K × V)) (k : K) (z : V) : ∃ j, (mgot m k z)[j]? = some (k, mval m k z) ∧ ∀ v : V, (mgot m k z).set j (k, v) = mset m k v := by
  unfold mgot mval
  cases h : mfind m k with
  | some p =>
    obtain ⟨j, x⟩ := p
    refine ⟨j, mfind_some h, fun v => ?_⟩
    simp only
    induction m generalizing j with
    | nil => cases h
    | cons q r ih =>
      obtain ⟨k', v'⟩ := q
      unfold mfind at h
      unfold mset
      split at h
      · rename_i e; cases h; rw [if_pos e]; rfl
      · rename_i e
        obtain ⟨⟨j', v''⟩, h1, h2⟩ := Option.map_eq_some_iff.1 h
        cases h2
        rw [if_neg e]
        simp [ih j' h1]
  | none =>
    refine ⟨m.length, by simp, fun v => ?_⟩
    simp only
    induction m with
    | nil => rfl
    | cons q r ih =>
      obtain ⟨k', v'⟩ := q
      unfold mfind at h
      unfold mset
      split at h
      · cases h
      · rename_i e
        rw [if_neg e]
        simp [ih (by simpa using h)]

theorem mapGot_of (m : List (K × V)) (k : K) (z : V) : mapGot (mAV eK eV m) (eK k) (eV z) ((mfind m k).map fun p => (p.1, eV p.2)) = mAV eK eV (mgot m k z) := by
  unfold mgot
  cases mfind m k with
  | none => simp [mapGot, mAV]
  | some p => rfl

variable {P : Program} {ro : Option Nat} {N : Nat} {o : Oper} {E : Env} {H : Heap} {nx b0 : Nat} {ds : List (Option Tmp)}

theorem mAV_keys (m : List (K × V)) : ((mAV eK eV m).map (·.1)) = (m.map (·.1)).map eK := by simp [mAV]
theorem mAV_nodup (hi : ∀ a b, eK a = eK b → a = b) {m : List (K × V)} (hnd : (m.map (·.1)).Nodup) : ((mAV eK eV m).map (·.1)).Nodup := by
  rw [mAV_keys]
  exact nodup_map_on (fun a _ b _ => hi a b) hnd

theorem zeroValue_of {t : TypeId} {zv : Value} (h : zeroEl P t = some (.raw zv)) (w : World) : (zeroValue t).run P w = .ok zv w := by
  obtain ⟨iz, zv', hiz, hzz, _, hzr, hzb⟩ := zeroEl_open h
  have := hzr (fun _ => .int .i64 0) (fun _ => False) #[]
  cases this
  simp [zeroValue, typeInfo, hiz, hzz]

/-- A lookup that may stand before or behind the making of the entry. -/
theorem lstepA_look {t kt et : TypeId} {x y : Operand} {i st : Nat} {m : List (K × V)} {isKey : Value → Prop} {kav : AV} {k : K} {z : V} (hg : o.guard = none) (ho : o.op = .lookup t x y false) (hN : ∀ d, o.dst = some d → d < N) (hm : mapInfo P t = some (kt, et)) (hz : zeroEl P et = some (eV z))
    (hK : KeyT P kt isKey) (hi : ∀ a b, eK a = eK b → a = b) (hk : ∀ a, isKey (eK a)) (hx : opv E x = some (.ref i)) (hH : get H i = some (.map kt et (mAV eK eV m))) (hnd : (m.map (·.1)).Nodup) (hy : opv E y = some kav) (hkv : keyV kav = some (eK k)) :
    LStepA P ro N ds o b0 E H (tmpsOf [x, y]) [i] [(i, .mapS kt et (mAV eK eV (mgot m k z)) (eK k) st)] (eV (mval m k z)) [] nx 0 := by
  intro E' H' U hE hH' hU hnx
  have hops := opv_congr hE
  have hkeys : ∀ m' : List (K × V), ∀ p ∈ mAV eK eV m', isKey p.1 := fun m' p hp => by
    obtain ⟨q, _, rfl⟩ := List.mem_map.1 hp
    exact hk _
  rcases hH' i (by simp) with h | ⟨ob, h1, h2⟩
  · rw [← look_of (eV := eV) m k z]
    have := opT_lookup (P := P) (ro := ro) (N := N) (o := o) (E := E') (H := H') (U := U) ho hN hm hz hK (by rw [hops x (by simp)]; exact hx) (h.trans hH) (by rw [hops y (by simp)]; exact hy) (keyV_rep hkv) (hk k) (hkeys m) (mAV_nodup hi hnd) (mget_of hi k m)
    rw [addU_zero]
    exact fun C a w next Q hR hK => GS_plain hg (this C a w next Q hR hK)
  · rw [get_cons, if_pos rfl] at h1
    cases h1
    have hmv : mval (mgot m k z) k z = mval m k z := by
      obtain ⟨j, hj, _⟩ := mgot_at m k z
      unfold mgot
      unfold mgot at hj
      cases hf : mfind m k with
      | some p => rfl
      | none =>
        have hmz : mval m k z = z := by unfold mval; rw [hf]
        rw [hmz]
        have : ∀ r : List (K × V), mfind r k = none → mval (r ++ [(k, z)]) k z = z := by
          intro r
          induction r with
          | nil => intro _; simp [mval_cons]
          | cons q r ih =>
            obtain ⟨k', v'⟩ := q
            intro h
            unfold mfind at h
            split at h
            · cases h
            · rename_i e
              rw [List.cons_append, mval_cons, if_neg e]
              exact ih (by simpa using h)
        exact this m hf
    rw [← hmv, ← look_of (eV := eV) (mgot m k z) k z]
    have := opT_lookupG (P := P) (ro := ro) (N := N) (o := o) (E := E') (H := H') (U := U) ho hN hm hz hK (by rw [hops x (by simp)]; exact hx) (fun C a w hR => by
      obtain ⟨b, es, clock, q1, q2, q3, q4, q5, q6, q7, q8⟩ := hR.obj i _ h2
      exact ⟨⟨b, es, clock, q1, q3, q4, q6⟩, (hR.objb i _ h2).2.1⟩) (by rw [hops y (by simp)]; exact hy) (keyV_rep hkv) (hk k) (hkeys _) (mAV_nodup hi (mgot_nodup hnd)) (mget_of hi k _)
    rw [addU_zero]
    exact fun C a w next Q hR hK => GS_plain hg (this C a w next Q hR hK)

theorem lstep_entry {t kt et : TypeId} {x y : Operand} {i : Nat} {m : List (K × V)} {isKey : Value → Prop} {kav : AV} {k : K} {z : V} {zv : Value} (hg : o.guard = none) (ho : o.op = .mapEntry t x y) (hN : ∀ d, o.dst = some d → d < N) (hm : mapInfo P t = some (kt, et)) (hzv : eV z = .raw zv)
    (hz : ∀ w, (zeroValue et).run P w = .ok zv w) (hK : KeyT P kt isKey) (hi : ∀ a b, eK a = eK b → a = b) (hk : ∀ a, isKey (eK a)) (hx : opv E x = some (.ref i)) (hH : get H i = some (.map kt et (mAV eK eV m))) (hnd : (m.map (·.1)).Nodup) (hy : opv E y = some kav) (hkv : keyV kav = some (eK k)) (hlen : m.length + 1 < maxLen) :
    LStep P ro N ds o b0 E H (tmpsOf [x, y]) [i] (.tup [.any, .ref nx]) [(i, .mapS kt et (mAV eK eV (mgot m k z)) (eK k) nx)] nx 1 := by
  rw [← mapGot_of (eK := eK) (eV := eV) m k z, hzv]
  refine lstep_mapEntry hg ho hN hm hz hK hx hH hy hkv (hk k) (fun p hp => ?_) (mAV_nodup hi hnd) (mget_of hi k m) (by simpa [mAV] using hlen)
  obtain ⟨q, _, rfl⟩ := List.mem_map.1 hp
  exact hk _

theorem lstep_entrySet {t kt et : TypeId} {x y z : Operand} {i st : Nat} {m : List (K × V)} {k : K} {v z0 : V} (hg : o.guard = none) (ho : o.op = .entryStore t x y z) (hN : ∀ d, o.dst = some d → d < N) (hi : ∀ a b, eK a = eK b → a = b)
    (hx : opv E x = some (.ref i)) (hH : get H i = some (.mapS kt et (mAV eK eV (mgot m k z0)) (eK k) st)) (hy : opv E y = some (.ref st)) (hz : opv E z = some (eV v)) (hnd : (m.map (·.1)).Nodup) :
    LStep P ro N ds o b0 E H (tmpsOf [x, y, z]) [i] (.raw undef) [(i, .map kt et (mAV eK eV (mset m k v)))] nx 0 := by
  obtain ⟨j, hj, hset⟩ := mgot_at m k z0
  have he : mAV eK eV (mset m k v) = (mAV eK eV (mgot m k z0)).set j (eK k, eV v) := by
    rw [← hset v]
    simp [mAV, List.map_set]
  rw [he]
  exact lstep_entryStore hg ho hN hx hH hy hz (mAV_nodup hi (mgot_nodup hnd)) (j0 := j) (x0 := eV (mval m k z0)) (by simp [mAV, hj])
end
end Go.Abs
end

/- Abs34 -/
section
/- The abstract layer, thirty-fourth part: new blocks that nothing names. -/
set_option linter.unusedVariables false
set_option linter.unusedSimpArgs false
namespace Go.Abs
open Go
section
variable {C : Conc} {H : Heap} {U : Nat → Prop} {w w' : World}
theorem RelH.grow (h : RelH C H U w) (hsz : w.heap.size ≤ w'.heap.size) (hk : ∀ k, k < w.heap.size → w'.heap[k]? = w.heap[k]?) : RelH C H U w' where
  obj := fun i o hi => (h.obj i o hi).mono (fun _ _ h => h) (fun b hb _ => hk b hb) (fun b hb => hk b ((h.obj i o hi).own_lt b hb))
  apart := h.apart
  xapart := h.xapart
  xlt := fun b hb => Nat.lt_of_lt_of_le (h.xlt b hb) hsz
  objb := h.objb
theorem StepR.grow (ho : w'.os = w.os) (ht : w'.tape = w.tape) (hout : w'.output = w.output) (hsz : w.heap.size ≤ w'.heap.size) (hk : ∀ k, k < w.heap.size → w'.heap[k]? = w.heap[k]?) : StepR C H U w C H w' :=
  ⟨ho, ht, hout, hsz, fun k hk' _ => hk k hk', fun _ h => .inl h, rfl, rfl, fun _ _ => rfl⟩
end

theorem get_nilE {α : Type} (n : Nat) : get ([] : List (Nat × α)) n = none := rfl
attribute [go_sem] get_nilE Option.getD_none Option.getD_some

/-- A call that touches objects under their own names. -/
theorem fit_same {H nd H1 : Heap} {m0 : Nat} (h : hasAll H nd) (hb : ∀ p ∈ nd, UU m0 p.1 ∧ p.2.bel (UU m0)) (hn : (nd.map (·.1)).Nodup) (hc : ∀ i, i < m0 → i ∈ nd.map (·.1)) (hk : nd.map (·.1) = H1.map (·.1)) (hm : m0 ≤ 1000) : FitC H [] nd m0 0 H1 where
  objs := heapOk_of nd fun p hp => ⟨hasAll_get h _ _ (get_of_mem hn hp), hb p hp⟩
  inj := hn
  cov := fun i hi => by obtain ⟨o, ho⟩ := get_key (hc i hi); rw [ho]; rfl
  sk := fun p hp => by cases hp
  dom := fun p hp => .inl (by obtain ⟨o, ho⟩ := get_key (l := nd) (i := p.1) (by rw [hk]; exact List.mem_map_of_mem hp); rw [ho]; rfl)
  all := fun p hp => by obtain ⟨o, ho⟩ := get_key (l := H1) (i := p.1) (by rw [← hk]; exact List.mem_map_of_mem hp); rw [ho]; rfl
  far := by omega
/-- A call that makes objects. -/
theorem fit_new {H H1 : Heap} {nw : Nat} (h : ∀ i ∈ H1.map (·.1), i < nw) (hm : nw ≤ 1000) : FitC H [] [] 0 nw H1 where
  objs := trivial
  inj := List.nodup_nil
  cov := fun i hi => by omega
  sk := fun p hp => by cases hp
  dom := fun p hp => .inr ⟨Nat.zero_le _, by have := h _ (List.mem_map_of_mem hp); omega⟩
  all := fun p hp => by cases hp
  far := by omega
end Go.Abs
end
