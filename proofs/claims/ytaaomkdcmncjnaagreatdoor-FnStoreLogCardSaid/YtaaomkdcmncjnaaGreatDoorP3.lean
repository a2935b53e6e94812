/-
  The abstract layer, the walks and the plain laws that the claim leans on, part 3 of 7 (working texts Abs42 to S9). It proves lemmas alone; no condition of its own.
-/
import Derived.Test.YtaaomkdcmncjnaaGreatDoorP2
import Derived.Below
import Derived.Sort.Grow
import Derived.Deep.Draws
import Derived.Lib.AppendStr
import Derived.Lib.UnsafeStr
import Derived.Lib.Builder
import Derived.Laws.Externs
import Derived.Test.YtaaomkdcmncjnaaGreatDoorProg
import Derived.KernelRfl
import Derived.Lib.LaidTab
import Derived.Lib.ItoaNum
import Derived.Laws.StructEq
import Derived.ChangeKeysEq
set_option linter.all false
set_option maxRecDepth 20000
section
open Go
namespace Go.Abs
section
variable [Globals]
variable {T e t : TypeId} {y x : Operand} {r v : Value} {w : World} {pr : Bool} {code : Code} {f i m0 n1 sz by' : Nat} {xs args cs : List AV} {nd H1 : Heap} {r0 : AV} {c : Call} {rt : List Nat} {k : IntKind} {h : Int}
def lK (P : Program) (t : TypeId) (name : String) : Option (FuncId × Bool) :=
  match P.info? t with
  | some ti => match ti.methods.find? (fun m => m.name == name) with
    | some m => if m.path.size = 0 then m.func else none
    | none => none
  | none => none
def xY (P : Program) (t : TypeId) : Option TypeId := match P.underlying t with
  | some (.pointer e) => some e
  | _ => none
def bAx {P : Program} {name : String} {f : FuncId} {k : Nat} (hm : lK P T name = some (f, pr))
    (hr : ∀ nm, (receiverAt T (.val v) pr (some nm)).run P w = .ok r w) : (method (k + 1) T v name).run P w = .ok (f, r) w := by
  unfold lK at hm; split at hm
  . rename_i ti hti
    split at hm
    . rename_i m hfm
      split at hm
      . rename_i hp
        have hp0 : m.path = #[] := Array.eq_empty_of_size_eq_zero hp
        unfold method; simp only [Sem.run_bind, run_typeInfo w hti, Result.andThen_ok, hfm, hp0, List.toList_toArray, follow, Sem.run_pure, hm, hr, Array.isEmpty_empty, if_true]
      cases hm
    cases hm
  cases hm
def bEt {P : Program} {b : Nat} (hp : P.underlying T = some (.pointer e)) (hl : (loadVar e ⟨b, 0, none⟩).run P w = .ok r w) (nm : String) :
    (receiverAt T (.val (.pointer (some ⟨b, 0, none⟩))) false (some nm)).run P w = .ok r w := by
  unfold receiverAt; rw [Sem.run_bind, run_underlying hp, Result.andThen_ok]
  have h1 : ((Builtin.ssaWrapNilChk_ #[T] T #[.pointer (some ⟨b, 0, none⟩), strVal "", strVal nm] : Sem Value)).run P w = .ok (.pointer (some ⟨b, 0, none⟩)) w := rfl
  have h2 : ((Place.val (.pointer (some ⟨b, 0, none⟩))).get T).run P w = .ok (.pointer (some ⟨b, 0, none⟩)) w := rfl
  show (do
    let ptr <- (Place.val (.pointer (some ⟨b, 0, none⟩))).get T
    let ptr <- Builtin.ssaWrapNilChk_ #[T] T #[ptr, strVal "", strVal nm]
    loadVar e (<- asAddr ptr)).run P w = _
  rw [Sem.run_bind, h2, Result.andThen_ok, Sem.run_bind, h1, Result.andThen_ok]; exact hl
def aLh {P : Program} {name : String} {args : Array Value} {f : FuncId} {fn : Func} (hm : lK P T name = some (f, pr))
    (hr : ∀ nm, (receiverAt T (.val v) pr (some nm)).run P w = .ok r w) (hT : FnT P f fn code) : (callMethod (.iface T v) name args).run P w = .ok (.enter f (#[r] ++ args)) w := by
  unfold callMethod
  have h0 : 0 < Made.depth := by decide
  obtain ⟨k, hk⟩ : ∃ k, P.types.size + Made.depth = k + 1 := ⟨P.types.size + Made.depth - 1, og⟩
  simp only [Sem.run_bind, run_program, Result.andThen_ok, hk, bAx hm hr, hT.run]
section
variable {P : Program} {ro : Option Nat} {N n0 : Nat} {Q : AQ} {E : Env} {H : Heap} {nx b0 : Nat} {o : Oper} {ds : List (Option Tmp)}
def aEa (s : List (Nat × Nat)) (nw : Nat) (hg : o.guard = none) (hd : Op.noDefer o.op = true) (hN : oD o N)
    (hent : ∀ (E' : Env) (H' : Heap) (U : Nat -> Prop) (C : Conc) (a : Act) (w : World), (∀ t ∈ rt, get E' t = get E t) -> (∀ i ∈ nd.map (fun p => sg s p.1), get H' i = get H i) -> Rel C N E' H' U a w -> ∃ vals, (execOp a.eval o).run P w = .ok (.enter f vals) w /\ eB C.ρ (C.avoid H') w.heap (aB (sg s) args) vals)
    (hM : aO P f args nd m0 r0 H1 n1) (hn1 : n1 = m0 + nw) (hab : aI (UU m0) args) (hF : FitC H s nd m0 nw H1) :
    aY P ro N ds o b0 E H rt (nd.map fun p => sg s p.1) (r0.ren (shift (sg s) m0 nx nw)) (H1.map fun p => (shift (sg s) m0 nx nw p.1, p.2.ren (shift (sg s) m0 nx nw))) nx nw := by
  subst hn1
  intro E' H' U hE hH hU hnx C a w next Q hR hK
  have hfit := hF.fit hR.toRelH (fun j hj => hU j (.inr hj)) (fun p hp => hH _ (A9.2 ⟨p, hp, rfl⟩)) hnx
  have hRc := hR.toRelH.callee hfit
  obtain ⟨vals, hrun, hvals⟩ := hent E' H' U C a w hE hH hR
  have hargsR : eB (callee C H' (sg s) nd).ρ ((callee C H' (sg s) nd).avoid nd) w.heap args vals :=
    (hvals.mono (av' := (callee C H' (sg s) nd).avoid nd) (fun b _ hb => (iB hfit b).1 hb) (fun _ _ _ => rfl)).unren (ρ := C.ρ)
  refine rS hg (aNb (R := fun v w' => ∃ C1, RelH C1 H1 (UU (m0 + nw)) w' /\ StepR (callee C H' (sg s) nd) nd (UU m0) w C1 H1 w' /\ Rep C1.ρ (C1.avoid H1) w'.heap r0 v /\ r0.bel (UU (m0 + nw))) hd hrun
    ((hM _ w _ hRc hargsR hab).mono fun e w' ⟨v, r, H2, n', C1, he, hn', ⟨hr, hH2, hn2⟩, h1, h2, h3, h4⟩ => ?_) fun v w' ⟨C1, h1, h2, h3, h4⟩ => ?_)
  . subst hr; subst hH2; subst hn2
    exact ⟨v, he, C1, h1, h2, h3, h4⟩
  obtain ⟨k1, k2, k3⟩ := hR.toRelH.back hfit h1 h2
  obtain ⟨k4, k5⟩ := k3 r0 v h4 h3
  have hRel := hR.change k2 (fun i hi => .inl hi) k1
  exact hK _ _ w' (hRel.put hN k4 k5) k2
def aHn {name : String} (ho : o.op = .call c) (hc : c.callee = .invoke y name) {a : Act} {fn : Func} (hy : a.eval y = .iface T v) (hm : lK P T name = some (f, pr))
    (hr : ∀ nm, (receiverAt T (.val v) pr (some nm)).run P w = .ok r w) (hT : FnT P f fn code) : (execOp a.eval o).run P w = .ok (.enter f (#[r] ++ c.args.map a.eval)) w := by
  have he : (#[Value.iface T v] ++ c.args.map a.eval).extract 1 (#[Value.iface T v] ++ c.args.map a.eval).size = c.args.map a.eval := by
    apply Array.ext'
    simp [List.take_of_length_le]
  simp only [execOp, ho, resolve, hc, hy, Sem.run_bind, Sem.run_pure, Result.andThen_ok, invoke]
  have h0 : (#[Value.iface T v] ++ c.args.map a.eval)[0]? = some (Value.iface T v) := by rw [Array.getElem?_append_left oS]; rfl
  simp only [h0, he, aLh hm hr hT]
def aSn {name : String} {x : AV} {fn : Func} (s : List (Nat × Nat)) (nw : Nat) (hg : o.guard = none) (ho : o.op = .call c) (hc : c.callee = .invoke y name)
    (hy : opv E y = some (.iface T x)) (hm : lK P T name = some (f, pr)) (hp : xY P T = none /\ pr = false ∨ (xY P T).isSome = true /\ pr = true) (hT : FnT P f fn code) (hN : oD o N) (hM : aO P f args nd m0 r0 H1 n1) (hn1 : n1 = m0 + nw)
    (hxs : c.args.toList.map (opv E) = xs.map some) (hargs : x :: xs = aB (sg s) args) (hab : aI (UU m0) args) (hF : FitC H s nd m0 nw H1) (hund : (P.underlying T).isSome = true) :
    aY P ro N ds o b0 E H (aF (y :: c.args.toList)) (nd.map fun p => sg s p.1) (r0.ren (shift (sg s) m0 nx nw)) (H1.map fun p => (shift (sg s) m0 nx nw p.1, p.2.ren (shift (sg s) m0 nx nw))) nx nw := by
  refine aEa s nw hg (by simp [ho, Op.noDefer]) hN (fun E' H' U C a w hE hH hR => ?_) hM hn1 hab hF
  have hops := oCg hE
  obtain ⟨h1, _⟩ := hR.opv (x := y) (r := .iface T x) (by rw [hops y oS]; exact hy)
  have hxs' : c.args.toList.map (opv E') = xs.map some := by
    rw [<- hxs]
    exact E8 fun x hx => hops x (A4 _ hx)
  obtain ⟨h2, _⟩ := uD hR hxs'
  generalize hev : a.eval y = u at h1
  cases h1 with
  | iface _ _ v hv =>
    obtain ⟨d, hd⟩ := Option.isSome_iff_exists.1 hund
    have hrv : ∀ nm, (receiverAt T (.val v) pr (some nm)).run P w = .ok v w := fun nm => by
      unfold receiverAt; rw [Sem.run_bind, run_underlying hd, Result.andThen_ok]
      rcases hp with ⟨hp, rfl⟩ | ⟨hp, rfl⟩
      . cases d with
        | pointer e => unfold xY at hp; rw [hd] at hp; cases hp
        | _ => simp [Place.get]
      unfold xY at hp; rw [hd] at hp
      cases d with
      | pointer e => simp [Place.get]
      | _ => cases hp
    refine ⟨#[v] ++ c.args.map a.eval, aHn ho hc hev hm hrv hT, ?_⟩
    rw [<- hargs]
    refine ⟨by simp [h2.1]; omega, fun j z hj => ?_⟩
    cases j with
    | zero => simp at hj; subst hj; rw [B5, Array.getElem?_append_left oS]; exact hv
    | succ j =>
      have := h2.2 j z (by simpa using hj)
      rw [B5, Array.getElem?_append_right oS]
      simpa [B5] using this
def aBf {name : String} {t0 : TypeId} {r : AV} {fn : Func} {ag : Bool} (s : List (Nat × Nat)) (nw : Nat) (hg : o.guard = none) (ho : o.op = .call c) (hc : c.callee = .invoke y name)
    (hy : opv E y = some (.iface T (.ptr i 0))) (hm : lK P T name = some (f, false)) (hp : xY P T = some e) (hi : i ∈ nd.map fun p => sg s p.1) (hHi : get H i = some (.cells t0 cs)) (hv : vI P e = some (sz, ag)) (hel : eH (.agg cs) 0 sz ag = some r)
    (hT : FnT P f fn code) (hN : oD o N) (hM : aO P f args nd m0 r0 H1 n1) (hn1 : n1 = m0 + nw)
    (hxs : c.args.toList.map (opv E) = xs.map some) (hargs : r :: xs = aB (sg s) args) (hab : aI (UU m0) args) (hF : FitC H s nd m0 nw H1) :
    aY P ro N ds o b0 E H (aF (y :: c.args.toList)) (nd.map fun p => sg s p.1) (r0.ren (shift (sg s) m0 nx nw)) (H1.map fun p => (shift (sg s) m0 nx nw p.1, p.2.ren (shift (sg s) m0 nx nw))) nx nw := by
  refine aEa s nw hg (by simp [ho, Op.noDefer]) hN (fun E' H' U C a w hE hH hR => ?_) hM hn1 hab hF
  have hops := oCg hE
  obtain ⟨h1, _⟩ := hR.opv (x := y) (r := .iface T (.ptr i 0)) (by rw [hops y oS]; exact hy)
  have hxs' : c.args.toList.map (opv E') = xs.map some := by
    rw [<- hxs]
    exact E8 fun x hx => hops x (A4 _ hx)
  obtain ⟨h2, _⟩ := uD hR hxs'
  have hH' : get H' i = some (.cells t0 cs) := (hH i hi).trans hHi
  obtain ⟨b, vs, hval, _, hb, hrep⟩ := hR.obj i _ hH'
  obtain ⟨hr1, hr2, hr3⟩ := pF (v := .agg vs) (.agg cs vs hrep.1 hrep.2) C.one (U := U) (hR.objb i _ hH').2 hel
  have hload := mX (P := P) (w := w) (gM hv) hb (v := .agg vs) (o := 0) (off := 0) (fun k _ => rfl) hr3 (fun e => by rw [nV hel e]; omega)
  generalize hev : a.eval y = u at h1
  cases h1 with
  | iface _ _ v hvv =>
    have hvp := aBi hvv (b := b) (by rw [hval]; rfl)
    subst hvp
    have hpt : P.underlying T = some (.pointer e) := by
      unfold xY at hp; split at hp
      . rename_i e' he; cases hp; exact he
      cases hp
    have hrv := bEt hpt hload
    refine ⟨#[iX (.agg vs) 0 sz ag] ++ c.args.map a.eval, aHn ho hc hev hm hrv hT, ?_⟩
    rw [<- hargs]
    refine ⟨by simp [h2.1]; omega, fun j z hj => ?_⟩
    cases j with
    | zero => simp at hj; subst hj; rw [B5, Array.getElem?_append_left oS]; exact hr1
    | succ j =>
      have := h2.2 j z (by simpa using hj)
      rw [B5, Array.getElem?_append_right oS]
      simpa [B5] using this
def bAe {rt rd : List Nat} {val : AV} {ps : Heap} (h : aY P ro N ds o b0 E H rt rd val ps nx 0) (hp : ∀ m ob, get ps m = some ob -> m ∈ rd /\ get H m = some ob) : aY P ro N ds o b0 E H rt rd val [] nx 0 := by
  intro E' H' U hE hH hU hnx C a w next Q hR hK
  have hext : ∀ m, get (over H' []) m = get (over H' ps) m := fun m => by
    rw [cJ, cJ]
    show get H' m = _
    cases hm : get ps m with
    | none => rfl
    | some ob =>
      obtain ⟨h1, h2⟩ := hp m ob hm
      exact (hH m h1).trans h2
  exact h E' H' U hE hH hU hnx C a w next Q hR fun C' a' w' hR' hs' => hK C' a' w' (hR'.ext hext) (hs'.ext hext)
def bHf {f : Nat -> List Nat} {h n : Nat} (hn : h <= n) : (bA h f).Sublist (bA n f) := by
  obtain ⟨d, rfl⟩ : ∃ d, n = h + d := ⟨n - h, og⟩
  unfold bA; rw [List.range_add, List.flatMap_append]
  exact List.sublist_append_left _ _
def bNk {U : Nat -> Prop} (ho : o.op = .slice t x none (some y) none) (hN : oD o N) (hs : cL P t = some (e, some (sz, by'))) (hx : opv E x = some (.ref i)) (hi : get H i = some (.row e sz xs))
    (hy : opv E y = some (.raw (.int k h))) (h0 : 0 <= h) (h2 : h <= xs.length) (hnx : ¬ U nx) : OpT P ro N o E H U (aU E o.dst (.ref nx)) (over H [(nx, .row e sz (xs.take h.toNat)), (i, .dead)]) (fun j => U j ∨ j = nx) := by
  intro C a w next Q hR hK
  obtain ⟨r1, _⟩ := hR.opv hx
  obtain ⟨q1, _⟩ := hR.opv hy
  obtain ⟨hu, ti, hi', hisz, _⟩ := gN hs
  obtain ⟨hO, hnd⟩ := hR.obj i _ hi
  have hbel := (hR.objb i _ hi).2
  have hxv : a.eval x = C.ρ i := by
    generalize a.eval x = v at r1
    cases r1; rfl
  have hyv : a.eval y = .int k h := by
    generalize a.eval y = v at q1
    cases q1; rfl
  have hrun : ∀ A c, xs.length <= c -> (Instr.slice t (.slice A xs.length c) none (some (.int k h)) none).run P w = .ok (.slice (if c = 0 then A else A.map (·.add 0)) h.toNat c) w := fun A c hc => by
    have hb : (Instr.sliceBounds true xs.length c none (some (.int k h)) none).run P w = .ok (0, h.toNat, c) w := by
      simp [Instr.sliceBounds, Instr.sliceBound, asIntOf, h0, show h <= (c : Int) by omega]
    simp [Instr.slice, run_underlying hu, hb, sizeOf, typeInfo, hi', hisz]
  have hex : ∀ v', (Instr.slice t (C.ρ i) none (some (.int k h)) none).run P w = .ok v' w -> (execOp a.eval o).run P w = .ok (.value v') w := fun v' q2 => by
    simp [execOp, ho, hxv, hyv, Instr.sliceAt, run_underlying hu, q2]
  have key : ∃ v' own', (Instr.slice t (C.ρ i) none (some (.int k h)) none).run P w = .ok v' w /\ v'.oneCell' = true /\ own'.Sublist (C.own i) /\ RepO C.ρ (C.avoid H) w.heap (.own e sz (xs.take h.toNat)) v' own' := by
    rcases hO.row_inv with ⟨hn, hv, hw⟩ | ⟨b, c, cells, vals, ows, hv, hw, hh, hsz, hc, hm, hr, hcs⟩
    . subst hn
      refine ⟨.slice none 0 0, [], ?_, rfl, List.nil_sublist _, ?_⟩
      . rw [hv]
        have := hrun none 0 (A0 _)
        simp only [List.length_nil] at this h2
        have h3 : h.toNat = 0 := by omega
        rw [h3] at this
        simpa using this
      rw [List.take_nil]; exact .own0 e sz
    have hlen : (xs.take h.toNat).length = h.toNat := by rw [B0]; omega
    refine ⟨.slice (some ⟨b, 0, none⟩) h.toNat c, b :: bA h.toNat ows, ?_, rfl, ?_, ?_⟩
    . rw [hv, hrun (some ⟨b, 0, none⟩) c hc]; split
      . rfl
      simp [jV]
    . rw [hw]; exact (bHf og).cons_cons b
    have := RepO.own (ρ := C.ρ) (av := C.avoid H) (hp := w.heap) e sz (xs.take h.toNat) b c cells vals ows hh hsz og hm (fun j z hj => by
      rw [G1] at hj; split at hj
      . exact hr j z hj
      cases hj) (fun j hj => hcs j og)
    rw [hlen] at this; exact this
  obtain ⟨v', own', g1, g2, g3, g4⟩ := key
  obtain ⟨k1, hs'⟩ := Rel.out (nx := nx) (k := [i]) (ob := .row e sz (xs.take h.toNat)) (w' := w) hR g2 hnx (fun j hj => by rw [B6.1 hj]; exact ⟨_, hi⟩) rfl rfl rfl (A0 _) (fun _ _ _ => rfl)
    (own := own') (fun b hb => .inl ⟨i, B6.2 rfl, g3.subset hb⟩) (bLi.2 fun z hz => bLi.1 hbel z (D1 hz))
    (fun av' hav => ⟨g4.mono' (fun b hb => hav b hb) (fun _ _ _ _ _ _ => rfl) (fun _ _ => rfl), hnd.sublist g3⟩)
  refine eW (by simp [ho, Op.noDefer]) (hex v' g1) (hK _ _ _ (k1.put hN ?_ (Or.inr rfl)) hs')
  have : Rep (C.out nx v' own' [i] g2).ρ ((C.out nx v' own' [i] g2).avoid (over H ((nx, AObj.row e sz (xs.take h.toNat)) :: cA [i]))) w.heap (.ref nx) ((C.out nx v' own' [i] g2).ρ nx) := .ref nx
  rwa [show (C.out nx v' own' [i] g2).ρ nx = v' from cY _ _ _] at this
def aPi (hg : o.guard = none) (ho : o.op = .slice t x none (some y) none) (hN : oD o N) (hs : cL P t = some (e, some (sz, by'))) (hx : opv E x = some (.ref i)) (hi : get H i = some (.row e sz xs))
    (hy : opv E y = some (.raw (.int k h))) (h0 : 0 <= h) (h2 : h <= xs.length) : aY P ro N ds o b0 E H (aF [x, y]) [i] (.ref nx) [(nx, .row e sz (xs.take h.toNat)), (i, .dead)] nx 1 := by
  refine lsO hg fun E' H' U hE hH hnx => ?_
  rw [gO]
  have hops := oCg hE
  exact bNk ho hN hs (by rw [hops x oS]; exact hx) ((hH i oS).trans hi) (by rw [hops y oS]; exact hy) h0 h2 (hnx nx (A0 _) og)
def aVf {c : Code} {i j : Nat} (e sz : Nat) (hi : get H i = some (.cells t cs)) (hj : cs[j]? = some (.raw (.slice none 0 0))) (hn : nx < 1000)
    (h : AWP P ro N n0 c Q E (put (put H i (.cells t (cs.set j (.ref nx)))) nx (.row e sz [])) (nx + 1)) : AWP P ro N n0 c Q E H nx := by
  intro C a w Qc hn0 hR hK
  have hnx : ¬ UU nx nx := fun hu => by rcases hu with hu | hu <;> omega
  have hs := StepR.new (U := UU nx) (w' := w) hR.toRelH rfl rfl rfl (A0 _) (fun _ _ => rfl) hnx (v := .slice none 0 0) (own := []) rfl oS (.row e sz [])
  have hH := RelH.new (U := UU nx) (w' := w) hR.toRelH rfl rfl rfl (A0 _) (fun _ _ => rfl) hnx (v := .slice none 0 0) (own := []) rfl oS (o := .row e sz []) ⟨.own0 e sz, E5⟩ trivial
  have hR' := hR.change hs (fun _ h => .inl h) hH
  have hU : (fun j => UU nx j ∨ j = nx) = UU (nx + 1) := by rw [<- gO, aDh]
  rw [hU] at hR' hH
  have hin : i ≠ nx := fun e' => hnx (e' ▸ (hR.objb i _ hi).1)
  have hi2 : get (put H nx (.row e sz [])) i = some (.cells t cs) := by rw [dU, if_neg (fun e' => hin e'.symm)]; exact hi
  have hle : ∀ (m : Nat) (o' : AObj), get (put (put H i (.cells t (cs.set j (.ref nx)))) nx (.row e sz [])) m = some o' -> (m = i /\ o' = .cells t (cs.set j (.ref nx))) ∨ (m ≠ i /\ get (put H nx (.row e sz [])) m = some o') := fun m o' hm => by
    rw [dU] at hm; rw [dU]; split at hm
    . rename_i e1
      subst e1
      exact .inr ⟨fun e2 => hin e2.symm, by rw [if_pos rfl]; exact hm⟩
    rename_i e1
    rw [dU] at hm; split at hm
    . rename_i e2
      exact .inl ⟨e2.symm, (Option.some.inj hm).symm⟩
    rename_i e2
    exact .inr ⟨fun e3 => e2 e3.symm, by rw [if_neg e1]; exact hm⟩
  let C2 := C.new nx (.slice none 0 0) [] rfl
  have hdom : ∀ m o', get (put (put H i (.cells t (cs.set j (.ref nx)))) nx (.row e sz [])) m = some o' -> ∃ o'', get (put H nx (.row e sz [])) m = some o'' := fun m o' hm => by
    rcases hle m o' hm with ⟨rfl, _⟩ | ⟨_, h2⟩
    . exact ⟨_, hi2⟩
    exact ⟨_, h2⟩
  have hW : ∀ b, C2.W (put (put H i (.cells t (cs.set j (.ref nx)))) nx (.row e sz [])) b -> C2.W (put H nx (.row e sz [])) b := fun b ⟨m, o', hm, hb⟩ => by
    obtain ⟨o'', h2⟩ := hdom m o' hm
    exact ⟨m, o'', h2, hb⟩
  have hav : ∀ b, C2.avoid (put (put H i (.cells t (cs.set j (.ref nx)))) nx (.row e sz [])) b -> C2.avoid (put H nx (.row e sz [])) b := fun b hb => hb.imp id (hW b)
  have hnew : ∀ av hp, Rep C2.ρ av hp (.ref nx) (.slice none 0 0) := fun av hp => by
    have : Rep C2.ρ av hp (.ref nx) (C2.ρ nx) := .ref nx
    rwa [show C2.ρ nx = .slice none 0 0 from cY _ _ _] at this
  have hRel : Rel C2 N E (put (put H i (.cells t (cs.set j (.ref nx)))) nx (.row e sz [])) (UU (nx + 1)) a w :=
    { obj := fun m o' hm => by
        rcases hle m o' hm with ⟨rfl, rfl⟩ | ⟨_, h2⟩
        . obtain ⟨b, vs, e1, e2, e3, e4⟩ := hH.obj m _ hi2
          refine ⟨b, vs, e1, e2, e3, by rw [D0]; exact e4.1, fun q z hq => ?_⟩
          rw [F9] at hq; split at hq
          . rename_i ejq
            subst ejq; split at hq
            . cases hq
              have h9 := e4.2 j _ hj
              generalize vs.getD j undef = u at h9
              cases h9
              exact hnew _ _
            cases hq
          exact (e4.2 q z hq).mono (fun b _ hb => hav b hb) (fun _ _ _ => rfl)
        exact (hH.obj m o' h2).mono (fun b _ hb => hav b hb) (fun _ _ _ => rfl) (fun _ _ => rfl)
      apart := fun m k om ok b hmk hm hk h1 h2 => by
        obtain ⟨o1, g1⟩ := hdom m om hm
        obtain ⟨o2, g2⟩ := hdom k ok hk
        exact hH.apart m k o1 o2 b hmk g1 g2 h1 h2
      xapart := fun m o' b hm h1 => by
        obtain ⟨o1, g1⟩ := hdom m o' hm
        exact hH.xapart m o1 b g1 h1
      xlt := hH.xlt
      objb := fun m o' hm => by
        rcases hle m o' hm with ⟨rfl, rfl⟩ | ⟨_, h2⟩
        . refine ⟨(hH.objb m _ hi2).1, ?_⟩
          show aI _ _
          refine bLi.2 fun z hz => ?_
          rcases List.mem_or_eq_of_mem_set hz with h1 | h1
          . exact bLi.1 (hH.objb m _ hi2).2 z h1
          rw [h1]; exact .inl og
        exact hH.objb m o' h2
      gl := hH.glK (fun b _ hb => hav b hb) (fun _ _ _ _ _ _ => rfl)
      size := hR'.size, hB := hR'.hB, nodup := hR'.nodup
      marks := fun d hd => by
        obtain ⟨r, h1, h2, h3, h4⟩ := hR'.marks d hd
        exact ⟨r, h1, h2, h3, fun q => h4 (hav r q)⟩
      env := fun t' x' ht' => by
        obtain ⟨h1, h2, h3⟩ := hR'.env t' x' ht'
        exact ⟨h1, h2, h3.mono (fun b _ hb => hav b hb) (fun _ _ _ => rfl)⟩ }
  refine h C2 a w Qc og hRel fun e' E' H' nx' C' a' w' hn' hR3 hs3 hQ => hK e' E' H' nx' C' a' w' hn' hR3 ?_ hQ
  refine ((hs.fewerNames (eD hn0)).trans (fun _ h => h) ?_)
  exact { os := hs3.os, tape := hs3.tape, output := hs3.output, size := hs3.size, keep := fun k hk hkW => hs3.keep k hk (fun q => hkW (hW k q))
          wr := fun b hb => (hs3.wr b hb).imp (hW b) id
          X := hs3.X, B := hs3.B, ρ := hs3.ρ }
end
end
section
variable [Globals]
variable {H1 nd : Heap} {c : Call} {y : Operand} {T e t0 : TypeId} {f m0 i n1 sz : Nat} {code : Code} {xs args cs : List AV} {r0 r x : AV} {ag : Bool}
def rM {H H1 : Heap} {s : List (Nat × Nat)} {g0 g1 : AObj} {nw : Nat} (hs : s = [] ∨ ∃ i j, i ≠ j /\ s = [(0, i), (1, j)]) (h0 : get H (sg s 0) = some (g0.ren (sg s))) (h1 : get H (sg s 1) = some (g1.ren (sg s))) (b0 : g0.bel (UU 2)) (b1 : g1.bel (UU 2))
    (hk : ∀ i ∈ H1.map (·.1), i < 2 + nw) (ha : (get H1 0).isSome = true /\ (get H1 1).isSome = true) (hf : nw <= 900) : FitC H s [(0, g0), (1, g1)] 2 nw H1 where
  objs := ⟨h0, .inl og, b0, h1, .inl og, b1, trivial⟩
  inj := by
    rcases hs with rfl | ⟨i, j, hij, rfl⟩
    . simp [sg, Abs.get]
    simpa [sg, Abs.get] using hij
  cov := fun i hi => by
    have : i = 0 ∨ i = 1 := by omega
    rcases this with rfl | rfl <;> rfl
  sk := fun p hp => by
    rcases hs with rfl | ⟨i, j, hij, rfl⟩
    . cases hp
    simp only [A8, List.not_mem_nil, or_false] at hp
    rcases hp with rfl | rfl <;> rfl
  dom := fun p hp => by
    have := hk p.1 (A9.2 ⟨p, hp, rfl⟩)
    by_cases h : p.1 < 2
    . left
      have : p.1 = 0 ∨ p.1 = 1 := by omega
      rcases this with h | h <;> rw [h] <;> rfl
    exact .inr ⟨og, this⟩
  all := fun p hp => by
    simp only [A8, List.not_mem_nil, or_false] at hp
    rcases hp with rfl | rfl
    . exact ha.1
    exact ha.2
  far := by omega
section
variable {P : Program} {ro : Option Nat} {N n0 : Nat} {E : Env} {H : Heap} {nx b0 : Nat} {o : Oper} {ds : List (Option Tmp)}
def vi {l : List Oper} {K : AK} (s : List (Nat × Nat)) (nw : Nat) {name : String} {fn : Func} (hg : o.guard = none) (ho : o.op = .call c) (hc : c.callee = .invoke y name)
    (hy : opv E y = some (.iface T (.ptr i 0))) (hm : lK P T name = some (f, false)) (hp : xY P T = some e) (hv : vI P e = some (sz, ag)) (hT : FnT P f fn code) (hM : aO P f args nd m0 r0 H1 n1) (hn1 : n1 = m0 + nw) (hi : i ∈ nd.map fun p => sg s p.1) (hHi : get H i = some (.cells t0 cs)) (hel : eH (.agg cs) 0 sz ag = some r)
    (hxs : c.args.toList.map (opv E) = xs.map some) (hargs : r :: xs = aB (sg s) args) (hab : aI (UU m0) args) (hF : FitC H s nd m0 nw H1) (hnw : nw = 0 ∨ nx + nw <= 1000)
    (h : lO P ro N ds l K (aU E o.dst (r0.ren (shift (sg s) m0 nx nw))) (over H (H1.map fun p => (shift (sg s) m0 nx nw p.1, p.2.ren (shift (sg s) m0 nx nw)))) (nx + nw)) : qL P ro N ds (o :: l) K E H nx :=
  vC (fun hN => aBf s nw hg ho hc hy hm hp hi hHi hv hel hT hN hM hn1 hxs hargs hab hF) hnw h
def vj {l : List Oper} {K : AK} (s : List (Nat × Nat)) (nw : Nat) {name : String} {fn : Func} (hg : o.guard = none) (ho : o.op = .call c) (hc : c.callee = .invoke y name)
    (hy : opv E y = some (.iface T x)) (hm : lK P T name = some (f, true)) (hp : (xY P T).isSome = true) (hund : (P.underlying T).isSome = true) (hT : FnT P f fn code) (hM : aO P f args nd m0 r0 H1 n1) (hn1 : n1 = m0 + nw)
    (hxs : c.args.toList.map (opv E) = xs.map some) (hargs : x :: xs = aB (sg s) args) (hab : aI (UU m0) args) (hF : FitC H s nd m0 nw H1) (hnw : nw = 0 ∨ nx + nw <= 1000)
    (h : lO P ro N ds l K (aU E o.dst (r0.ren (shift (sg s) m0 nx nw))) (over H (H1.map fun p => (shift (sg s) m0 nx nw p.1, p.2.ren (shift (sg s) m0 nx nw)))) (nx + nw)) : qL P ro N ds (o :: l) K E H nx :=
  vC (fun hN => aSn s nw hg ho hc hy hm (.inr ⟨hp, rfl⟩) hT hN hM hn1 hxs hargs hab hF hund) hnw h
def vig {l : List Oper} {K : AK} (s : List (Nat × Nat)) {j g : Nat} {want b : Bool} {q : Prop} {name : String} {fn : Func} (hg : o.guard = some (j, want)) (ho : o.op = .call c) (hc : c.callee = .invoke y name)
    (hj : (ds[j]?).join = some g) (hE : get E g = some x) (hs : jB x = some (q, b))
    (hy : q /\ b = want -> opv (unE E (aF (y :: c.args.toList))) y = some (.iface T (.ptr i 0))) (hm : lK P T name = some (f, false)) (hp : xY P T = some e) (hv : vI P e = some (sz, ag)) (hT : FnT P f fn code) (hM : q /\ b = want -> aO P f args nd m0 r0 nd m0) (hi : i ∈ nd.map fun p => sg s p.1) (hHi : get H i = some (.cells t0 cs)) (hel : eH (.agg cs) 0 sz ag = some r)
    (hun : aIj (q /\ b = want) E (aF (y :: c.args.toList))) (hxs : q /\ b = want -> c.args.toList.map (opv (unE E (aF (y :: c.args.toList)))) = xs.map some) (hargs : r :: xs = aB (sg s) args) (hab : aI (UU m0) args) (hF : FitC H s nd m0 0 nd)
    (hsame : ∀ m ob, get (nd.map fun p => (shift (sg s) m0 nx 0 p.1, p.2.ren (shift (sg s) m0 nx 0))) m = some ob -> m ∈ (nd.map fun p => sg s p.1) /\ get H m = some ob) (hr : (r0.ren (shift (sg s) m0 nx 0)).bel (UU nx))
    (h : lO P ro N ds l K (aU E o.dst (.when (q /\ b = want) (r0.ren (shift (sg s) m0 nx 0)))) (over H []) (nx + 0)) : qL P ro N ds (o :: l) K E H nx :=
  vC (fun hN => dK hN hg hj hE hs hun (fun hq => bAe (aBf s 0 rfl ho hc (hy hq) hm hp hi hHi hv hel hT hN (hM hq) rfl (hxs hq) hargs hab hF) hsame) hr) (.inl rfl) h
end
end
end Go.Abs
end
section
open Go Go.RowKit
namespace Go.Abs
section
variable [Globals]
def pX {P : Program} {f : Nat} {args : List AV} {nd : Heap} {n0 : Nat} {r : AV} (hb : r.bel (UU n0))
    (h : ∀ (C : Conc) (w : World) (vals : Array Value), RelH C nd (UU n0) w -> eB C.ρ (C.avoid nd) w.heap args vals -> Calls P f vals w fun e w' => ∃ v, e = .returned v /\ Rep C.ρ (C.avoid nd) w'.heap r v /\ Below w.heap.size w w') : aK P f args nd n0 r := by
  intro C w vals hR hv hab
  refine (h C w vals hR hv).mono fun e w' ⟨v, he, hr, hB⟩ => ⟨v, r, nd, n0, C, he, A0 _, ⟨rfl, rfl, rfl⟩, hR.grow hB.size hB.block, StepR.grow hB.os hB.tape hB.output hB.size hB.block, hr, hb⟩
def bAl (w : World) (k : Nat) (os : Array Obj) : RowKit.Below w.heap.size w (Sort.grow (w.drewN k) os) :=
  ⟨rfl, rfl, rfl, by simp [Sort.grow, World.drewN], fun j hj => by
    show ((w.drewN k).heap ++ os)[j]? = _
    show (w.heap ++ os)[j]? = _
    rw [Array.getElem?_append_left hj]⟩
end
section
variable [Globals]
variable {ρ : Nat -> Value} {av : Nat -> Prop} {hp : Array Obj} {e : Nat}
def byteAV (b : UInt8) : AV := .raw (.int .u8 (b.toNat : Int))
def aQm (n : Nat) {f : Nat -> List Nat} (h : ∀ j, j < n -> f j = []) : bA n f = [] := by
  refine List.eq_nil_iff_forall_not_mem.2 fun b hb => ?_
  obtain ⟨j, hj, hbj⟩ := mFl.1 hb
  rw [h j hj] at hbj; cases hbj
def aKe {l : List UInt8} {v : Value} {own : List Nat} (h : RepO ρ av hp (.own e 1 (l.map byteAV)) v own) :
    (l = [] /\ v = .slice none 0 0 /\ own = []) ∨ ∃ b c cells, v = .slice (some ⟨b, 0, none⟩) l.length c /\ own = [b] /\ hp[b]? = some (.cells cells e (0, 0)) /\ cells.size = c /\ l.length <= c /\ c <= maxLen /\ cells.toList.take l.length = Lib.byteCells l := by
  rcases h.row_inv with ⟨h1, h2, h3⟩ | ⟨b, c, cells, vals, ows, hv, ho, hh, hcs, hc, hm, hrep, hca⟩
  . exact .inl ⟨List.map_eq_nil_iff.1 h1, h2, h3⟩
  right
  rw [A6] at hv ho hc hca
  have key : ∀ j x, l[j]? = some x -> vals j = .int .u8 (x.toNat : Int) /\ ows j = [] := fun j x hj => by
    have h9 := hrep j (byteAV x) (by rw [B4, hj]; rfl)
    unfold byteAV at h9
    generalize vals j = u at h9
    generalize ows j = w at h9
    cases h9 with
    | leaf _ _ h10 => cases h10; exact ⟨rfl, rfl⟩
  refine ⟨b, c, cells, hv, by rw [ho, aQm l.length fun j hj => (key j _ (A1 hj)).2], hh, by rw [hcs, Nat.mul_one], hc, hm, ?_⟩
  have h8 := hca.take (by rw [hcs]; exact D9 _ hc)
  rw [Nat.mul_one] at h8; rw [h8]
  refine List.ext_getElem? fun j => ?_
  by_cases hj : j < l.length
  . have h7 := nH (vals := vals) hj (Nat.zero_lt_one)
    rw [Nat.mul_one, Nat.add_zero] at h7; rw [h7, (key j _ (A1 hj)).1]
    simp [Lib.byteCells, A1 hj, Value.cells]
  rw [E3 (by rw [cU]; omega), E3 (by rw [Lib.byteCells_length]; omega)]
def bFk {e b c : Nat} {cells : Array Value} {l : List UInt8} (hh : hp[b]? = some (.cells cells e (0, 0))) (hcs : cells.size = c) (hc : l.length <= c) (hm : c <= maxLen) (ht : cells.toList.take l.length = Lib.byteCells l) :
    RepO ρ av hp (.own e 1 (l.map byteAV)) (.slice (some ⟨b, 0, none⟩) l.length c) [b] := by
  have h := RepO.own (ρ := ρ) (av := av) e 1 (l.map byteAV) b c cells (fun j => .int .u8 ((l.getD j 0).toNat : Int)) (fun _ => []) hh (by rw [hcs, Nat.mul_one]) (by rw [A6]; exact hc) hm (fun j x hj => by
    rw [B4] at hj
    obtain ⟨y, hy, rfl⟩ := B3.1 hj
    rw [E7, hy]
    exact .leaf _ _ (.raw _)) (fun j hj => by
    rw [A6] at hj
    refine ⟨rfl, fun k hk => ?_⟩
    have hk0 : k = 0 := by omega
    subst hk0
    have h1 : (cells.toList.take l.length)[j]? = cells[j]? := by rw [G1, if_pos hj, D8]
    rw [ht] at h1; rw [C3, Nat.mul_one, Nat.add_zero, <- h1]
    simp [Lib.byteCells, A1 hj, Value.cells, E7])
  rw [A6, aQm l.length fun _ _ => rfl] at h; exact h
def pD (U : Nat -> Prop) (l : List UInt8) : aI U (l.map byteAV) := by
  rw [bLi]; intro x hx; obtain ⟨k, _, rfl⟩ := A9.1 hx; trivial
def aRv (σ : Nat -> Nat) (l : List UInt8) : aB σ (l.map byteAV) = l.map byteAV := dJ σ (pD _ l)
section
variable {P : Program} {ro : Option Nat} {N n0 : Nat} {E : Env} {H : Heap} {nx b0 : Nat} {o : Oper} {ds : List (Option Tmp)}
def aJq {U : Nat -> Prop} {c : Call} {x y : Operand} {t u e : TypeId} {l : List UInt8} {k1 : List Nat} {s : ByteArray} (ho : o.op = .call c) (hc : c.callee = .builtin .append) (hargs : c.args = #[x, y]) (hts : c.argTypes = #[t, u]) (hN : oD o N)
    (ht : P.underlying t = some (.slice e)) (hu : P.underlying u = some .string) (hi : ∃ i, P.info? e = some i /\ i.zero = some (.int .u8 0) /\ i.size = 1 /\ i.bytes = 1) (h1 : App1 E H x e 1 (l.map byteAV) k1) (hy : opv E y = some (.raw (.string s)))
    (hlen : l.length + s.size <= 140737488355328) (hnx : ¬ U nx) : OpT P ro N o E H U (aU E o.dst (.ref nx)) (over H ((nx, .row e 1 ((l ++ s.data.toList).map byteAV)) :: cA k1)) (fun j => U j ∨ j = nx) := by
  intro C a w next Q hR hK
  obtain ⟨i, hi1, hi2, hi3, hi4⟩ := hi
  obtain ⟨own1, r1, r2, r3, r4, r5⟩ := h1.rep hR
  obtain ⟨q1, _⟩ := hR.opv hy
  have hyv : a.eval y = .string s := by
    generalize a.eval y = v at q1
    cases q1; rfl
  have hown : w.ownsRow 0 e 1 (a.eval x) l.length (Lib.byteCells l) /\ (∀ b, (a.eval x).ownBlock = some b -> b ∈ own1) := by
    rcases aKe r1 with ⟨rfl, hv, ho'⟩ | ⟨b, c', cells, hv, ho', hh, hcs, hc', hm, htk⟩
    . exact ⟨⟨rfl, .inl ⟨hv, rfl⟩⟩, fun b hb => by rw [hv] at hb; simp [Value.ownBlock] at hb⟩
    refine ⟨⟨by simp [Lib.byteCells], .inr ⟨b, c', cells, hv, A5 _, hh, hc', hm, og, by rw [Nat.mul_one]; exact htk⟩⟩, fun b' hb => ?_⟩
    rw [hv] at hb
    simp only [Value.ownBlock, B9] at hb
    subst hb
    rw [ho']; exact A3
  have hmax : maxLen = 9223372036854775807 := rfl
  obtain ⟨v', w', hrun, hor, hg, _⟩ := Lib.run_append_own_string (P := P) w 0 t u o.type e i ht hu hi1 hi2 hi3 hi4 (a.eval x) l.length (Lib.byteCells l) hown.1 s og hlen (A5 _)
  have hexec : (execOp a.eval o).run P w = .ok (.value v') w' := by
    simp [execOp, ho, resolve, hc, hargs, hts, invoke, builtin, hyv, hrun]
  have hll : (l ++ s.data.toList).length = l.length + s.size := by rw [A2, Array.length_toList]; rfl
  have hbc : Lib.byteCells l ++ Lib.strCells s = Lib.byteCells (l ++ s.data.toList) := by rw [Lib.byteCells_append, Lib.strCells_eq]
  have hblk : ∀ g n' c', v' = .slice (some ⟨g, 0, none⟩) n' c' -> g ∈ own1 ∨ w.heap.size <= g := fun g n' c' hv' => by
    rcases aKe r1 with ⟨rfl, hv, ho'⟩ | ⟨b, c', cells, hv, ho', hh, hcs, hc', hm, htk⟩
    . right
      obtain ⟨v2, w2, hrun2, hor2, _, _⟩ := Lib.run_append_own_string (P := P) w w.heap.size t u o.type e i ht hu hi1 hi2 hi3 hi4 (a.eval x) 0 [] ⟨rfl, .inl ⟨hv, rfl⟩⟩ s (by simp at hlen ⊢; omega) (by simpa using hlen) (A0 _)
      rw [hrun] at hrun2; cases hrun2
      rcases hor2.2 with ⟨h9, _⟩ | ⟨g2, _, _, h9, hge, _⟩
      . rw [hv'] at h9; cases h9
      rw [hv'] at h9; cases h9; exact hge
    by_cases hroom : l.length + s.size <= c'
    . have hr := Lib.run_append_room_string (P := P) w t u o.type e i ht hu hi1 hi3 b l.length c' cells hh s hroom og
      rw [<- hv, hrun] at hr; cases hr
      cases hv'
      left; rw [ho']; exact A3
    have holds : ∀ j q, (Lib.byteCells l)[j]? = some q -> w.cell? ((⟨b, 0, none⟩ : Addr).add j) = some q := by
      have := hown.1.cells (g := b) (by rw [hv]; rfl)
      exact this
    have hr := Lib.run_append_grow_string (P := P) w t u o.type e i (.int .u8 0) ht hu hi1 hi2 ⟨b, 0, none⟩ l.length c' (Lib.byteCells l) (by rw [hi3]; simp [Lib.byteCells]) holds s og og (by rw [hi4]; exact growslice_fits og og)
    rw [<- hv, hrun] at hr; cases hr
    cases hv'
    exact .inr (A0 _)
  have hrep : ∃ own', (∀ b, b ∈ own' -> b ∈ own1 ∨ w.heap.size <= b) /\ own'.Nodup /\ v'.oneCell' = true /\ ∀ av' : Nat -> Prop, RepO C.ρ av' w'.heap (.own e 1 ((l ++ s.data.toList).map byteAV)) v' own' := by
    obtain ⟨hl2, hcase⟩ := hor
    rcases hcase with ⟨hv', hn0⟩ | ⟨g, cap, cur, hv', _, hg', hle, hcap, hcs, htk⟩
    . refine ⟨[], fun b hb => (by cases hb), E5, by rw [hv']; rfl, fun av' => ?_⟩
      have : l ++ s.data.toList = [] := G8 og
      rw [this, hv']; exact .own0 e 1
    refine ⟨[g], fun b hb => by rw [B6.1 hb]; exact hblk g _ _ hv', by simp, by rw [hv']; rfl, fun av' => ?_⟩
    rw [hv', <- hll]
    exact bFk hg' og og hcap (by rw [hll, <- hbc]; rw [Nat.mul_one] at htk; exact htk)
  obtain ⟨own', g1, g2, g3, g4⟩ := hrep
  obtain ⟨k, hs'⟩ := Rel.out (nx := nx) (k := k1) (ob := .row e 1 ((l ++ s.data.toList).map byteAV)) hR g3 hnx r4 hg.os hg.tape hg.output hg.size
    (fun b hb hn => hg.block b hb fun e' => by
      obtain ⟨i', hi', hbi⟩ := (r3 b).1 (hown.2 b e'.symm)
      exact hn i' hi' hbi)
    (own := own') (fun b hb => by
      rcases g1 b hb with h | h
      . obtain ⟨i', hi', hbi⟩ := (r3 b).1 h
        exact .inl ⟨i', hi', hbi⟩
      exact .inr h)
    (pD _ _) (fun av' hav => ⟨g4 av', g2⟩)
  refine eW (by simp [ho, Op.noDefer]) hexec (hK _ _ _ (k.put hN ?_ (Or.inr rfl)) hs')
  have : Rep (C.out nx v' own' k1 g3).ρ ((C.out nx v' own' k1 g3).avoid (over H ((nx, AObj.row e 1 ((l ++ s.data.toList).map byteAV)) :: cA k1))) w'.heap (.ref nx) ((C.out nx v' own' k1 g3).ρ nx) := .ref nx
  rwa [show (C.out nx v' own' k1 g3).ρ nx = v' from cY _ _ _] at this
end
end
section
variable [Globals]
variable {x y : Operand} {e i t u src dst : Nat} {c : Call} {ty : TypeId} {s : ByteArray} {cs : List AV}
section
variable {P : Program} {ro : Option Nat} {N n0 : Nat} {E : Env} {H : Heap} {nx b0 : Nat} {o : Oper} {ds : List (Option Tmp)}
def aDy {l : List UInt8} (hg : o.guard = none) (ho : o.op = .call c) (hc : c.callee = .builtin .append) (hargs : c.args = #[x, y]) (hts : c.argTypes = #[t, u]) (hN : oD o N)
    (ht : P.underlying t = some (.slice e)) (hu : P.underlying u = some .string) (hi : ∃ i, P.info? e = some i /\ i.zero = some (.int .u8 0) /\ i.size = 1 /\ i.bytes = 1) (hx : opv E x = some (.ref i)) (hH : get H i = some (.row e 1 (l.map byteAV))) (hy : opv E y = some (.raw (.string s)))
    (hlen : l.length + s.size <= 140737488355328) : aY P ro N ds o b0 E H (aF [x, y]) [i] (.ref nx) [(nx, .row e 1 ((l ++ s.data.toList).map byteAV)), (i, .dead)] nx 1 := by
  refine lsO hg fun E' H' U hE hH' hnx => ?_
  rw [gO]
  have hops := oCg hE
  exact aJq ho hc hargs hts hN ht hu hi (.row i _ (by rw [hops x oS]; exact hx) ((hH' i oS).trans hH)) (by rw [hops y oS]; exact hy) hlen (hnx nx (A0 _) og)
def aOe (hg : o.guard = none) (ho : o.op = .call c) (hc : c.callee = .builtin .append) (hargs : c.args = #[x, y]) (hts : c.argTypes = #[t, u]) (hN : oD o N)
    (ht : P.underlying t = some (.slice e)) (hu : P.underlying u = some .string) (hi : ∃ i, P.info? e = some i /\ i.zero = some (.int .u8 0) /\ i.size = 1 /\ i.bytes = 1) (hx : opv E x = some (.raw (.slice none 0 0))) (hy : opv E y = some (.raw (.string s)))
    (hlen : s.size <= 140737488355328) : aY P ro N ds o b0 E H (aF [x, y]) [] (.ref nx) [(nx, .row e 1 (s.data.toList.map byteAV))] nx 1 := by
  refine lsO hg fun E' H' U hE hH' hnx => ?_
  rw [gO]
  have hops := oCg hE
  exact aJq (l := []) ho hc hargs hts hN ht hu hi (.nil (by rw [hops x oS]; exact hx)) (by rw [hops y oS]; exact hy) (by simpa using hlen) (hnx nx (A0 _) og)
def Rel.bytes {C : Conc} {U : Nat -> Prop} {a : Act} {w : World} {l : List UInt8} (hR : Rel C N E H U a w) (hi : get H i = some (.row e 1 (l.map byteAV))) (h0 : l ≠ []) :
    ∃ b c cells, C.ρ i = .slice (some ⟨b, 0, none⟩) l.length c /\ C.own i = [b] /\ w.heap[b]? = some (.cells cells e (0, 0)) /\ cells.size = c /\ l.length <= c /\ c <= maxLen /\ cells.toList.take l.length = Lib.byteCells l := by
  obtain ⟨h1, _⟩ := hR.obj i _ hi
  rcases aKe h1 with ⟨h2, _⟩ | h2
  . exact absurd h2 h0
  exact h2
def wS {l : List UInt8} (hg : o.guard = none) (ho : o.op = .call c) (hc : c.callee = .builtin .unsafeSliceData) (hargs : c.args = #[x]) (hN : oD o N)
    (hx : opv E x = some (.ref i)) (hH : get H i = some (.row e 1 (l.map byteAV))) (h0 : l ≠ []) (hb : UU b0 i) : aY P ro N ds o b0 E H (aF [x]) [i] (.ep i 1 0 0) [] nx 0 := by
  refine lsO hg fun E' H' U hE hH' hnx => ?_
  rw [aU0]
  have hops := oCg hE
  refine aT (by simp [ho, Op.noDefer]) hN fun C a w hR => ?_
  obtain ⟨h1, h2⟩ := hR.opv (x := x) (r := .ref i) (by rw [hops x oS]; exact hx)
  have hi' := (hH' i oS).trans hH
  obtain ⟨b, c', cells, hv, _, hh, hcs, hc', _, _⟩ := Rel.bytes hR hi' h0
  have hl := F7.2 h0
  refine ⟨h2, .pointer (some ⟨b, 0, none⟩), ?_, ?_⟩
  . have hev : a.eval x = .slice (some ⟨b, 0, none⟩) l.length c' := by
      generalize a.eval x = v at h1
      cases h1; exact hv
    have hr := Lib.run_unsafeSliceData_row (P := P) w c.argTypes o.type ⟨b, 0, none⟩ l.length c' og
    simp [execOp, ho, resolve, hc, hargs, invoke, builtin, hev, hr]
  . have := Rep.ep (ρ := C.ρ) (av := C.avoid H') (hp := w.heap) i 1 0 0 b (by rw [hv]; rfl)
    exact this
def aGy (w : World) (a : Addr) (n k : Nat) (h : k ≠ a.block) : (w.freeze a n).heap[k]? = w.heap[k]? := by
  unfold World.freeze; split
  . rfl
  show (w.heap.modify a.block _)[k]? = _
  rw [Array.getElem?_modify, if_neg (fun e => h e.symm)]
def aGs (w : World) (a : Addr) (n : Nat) : (w.freeze a n).heap.size = w.heap.size := by
  unfold World.freeze; split
  . rfl
  simp
def aPz (w : World) (a : Addr) (n : Nat) : (w.freeze a n).os = w.os /\ (w.freeze a n).tape = w.tape /\ (w.freeze a n).output = w.output := by
  unfold World.freeze
  split <;> exact ⟨rfl, rfl, rfl⟩
def aHw {pt it i e : Nat} {l : List UInt8} (hg : o.guard = none) (ho : o.op = .call c) (hc : c.callee = .builtin .unsafeString) (hargs : c.args = #[x, y]) (hts : c.argTypes = #[pt, it]) (hN : oD o N)
    (hp : P.underlying pt = some (.pointer e)) (hce : P.cellsOf e = 1) (hx : opv E x = some (.ep i 1 0 0)) (hy : opv E y = some (.raw (.int .i64 (l.length : Int)))) (hH : get H i = some (.row e 1 (l.map byteAV))) (h0 : l ≠ []) :
    aY P ro N ds o b0 E H (aF [x, y]) [i] (.raw (.string ⟨l.toArray⟩)) [(nx, .dead), (i, .dead)] nx 1 := by
  refine lsO hg fun E' H' U hE hH' hnx => ?_
  rw [gO]
  have hops := oCg hE
  intro C a w next Q hR hK
  obtain ⟨h1, _⟩ := hR.opv (x := x) (r := .ep i 1 0 0) (by rw [hops x oS]; exact hx)
  obtain ⟨h2, _⟩ := hR.opv (x := y) (by rw [hops y oS]; exact hy)
  have hi' := (hH' i oS).trans hH
  obtain ⟨b, c', cells, hv, hown, hh, hcs, hc', hcm, htk⟩ := Rel.bytes hR hi' h0
  have hev : a.eval x = .pointer (some ⟨b, 0, none⟩) := by
    generalize a.eval x = v at h1
    cases h1 with
    | ep _ _ _ _ b' hb =>
      rw [hv] at hb
      cases hb; rfl
  have hey : a.eval y = .int .i64 (l.length : Int) := by
    generalize a.eval y = v at h2
    cases h2; rfl
  have hmax : maxLen = 9223372036854775807 := rfl
  have hor : w.ownsRow 0 e 1 (C.ρ i) l.length (Lib.byteCells l) := ⟨by simp [Lib.byteCells], .inr ⟨b, c', cells, hv, A5 _, hh, hc', hcm, og, by rw [Nat.mul_one]; exact htk⟩⟩
  have hr := Lib.run_unsafeString_row (P := P) w pt it o.type e hp hce b cells.size (by simp [World.shape?, hh]) l h0 og og (fun j z hz => hor.cells (g := b) (by rw [hv]; rfl) j _ (by simp [Lib.byteCells, hz]))
  have hexec : (execOp a.eval o).run P w = .ok (.value (.string ⟨l.toArray⟩)) (w.freeze ⟨b, 0, none⟩ l.length) := by
    simp [execOp, ho, resolve, hc, hargs, hts, invoke, builtin, hev, hey, hr]
  obtain ⟨f1, f2, f3⟩ := aPz w ⟨b, 0, none⟩ l.length
  obtain ⟨k, hs'⟩ := Rel.out (nx := nx) (v := .int .i64 0) (own := []) (k := [i]) (ob := .dead) hR rfl (hnx nx (A0 _) og) (fun j hj => by rw [B6.1 hj]; exact ⟨_, hi'⟩) f1 f2 f3 (by rw [aGs]; exact A0 _)
    (fun b' hb' hn => aGy w _ _ b' fun e' => hn i oS (by rw [hown]; subst e'; exact A3)) (fun b' hb' => by cases hb') trivial (fun _ _ => rfl)
  exact eW (by simp [ho, Op.noDefer]) hexec (hK _ _ _ (k.put hN (.raw _) trivial) hs')
def xP {j : TypeInfo} (hg : o.guard = none) (ho : o.op = .convert src dst x) (hN : oD o N) (hs : P.underlying src = some (.pointer t)) (hd : P.underlying dst = some .unsafePointer) (ht : P.info? t = some j) (hj : j.size ≠ 0)
    (hx : opv E x = some (.ptr i 0)) (hH : get H i = some (.cells e cs)) (hcs : 0 < cs.length) : aY P ro N ds o b0 E H (aF [x]) [i] (.ptr i 0) [] nx 0 := by
  refine lsO hg fun E' H' U hE hH' hnx => ?_
  rw [aU0]
  have hops := oCg hE
  refine aT (by simp [ho, Op.noDefer]) hN fun C a w hR => ?_
  obtain ⟨h1, h2⟩ := hR.opv (x := x) (r := .ptr i 0) (by rw [hops x oS]; exact hx)
  obtain ⟨b, vs, hv, _, hh, hrep⟩ := hR.obj i _ ((hH' i oS).trans hH)
  have hev : a.eval x = .pointer (some ⟨b, 0, none⟩) := by
    generalize a.eval x = v at h1
    cases h1 with
    | ptr _ _ b' hb => rw [hv] at hb; cases hb; rfl
  have hr := Lib.run_to_unsafe (P := P) w (e := e) (cells := vs.size) ⟨b, 0, none⟩ hs hd ht hj (by simp [World.shape?, hh]) (by rw [hrep.1]; exact hcs)
  refine ⟨h2, .pointer (some ⟨b, 0, none⟩), by simp only [execOp, ho, hev, Sem.run_bind, hr, Result.andThen_ok, Sem.run_pure], ?_⟩
  have := Rep.ptr (ρ := C.ρ) (av := C.avoid H') (hp := w.heap) i 0 b (by rw [hv]; rfl)
  exact this
def uP {j : TypeInfo} (hg : o.guard = none) (ho : o.op = .convert src dst x) (hN : oD o N) (hs : P.underlying src = some .unsafePointer) (hd : P.underlying dst = some (.pointer u)) (hu : P.info? u = some j)
    (hx : opv E x = some (.ptr i 0)) (hH : get H i = some (.cells e cs)) (hl : liesAt P P.depth e (cs.length / P.cellsOf e) 0 u 1 = true) : aY P ro N ds o b0 E H (aF [x]) [i] (.ptr i 0) [] nx 0 := by
  refine lsO hg fun E' H' U hE hH' hnx => ?_
  rw [aU0]
  have hops := oCg hE
  refine aT (by simp [ho, Op.noDefer]) hN fun C a w hR => ?_
  obtain ⟨h1, h2⟩ := hR.opv (x := x) (r := .ptr i 0) (by rw [hops x oS]; exact hx)
  obtain ⟨b, vs, hv, _, hh, hrep⟩ := hR.obj i _ ((hH' i oS).trans hH)
  have hev : a.eval x = .pointer (some ⟨b, 0, none⟩) := by
    generalize a.eval x = v at h1
    cases h1 with
    | ptr _ _ b' hb => rw [hv] at hb; cases hb; rfl
  have hr := Lib.run_from_unsafe (P := P) w (e := e) (cells := vs.size) ⟨b, 0, none⟩ hs hd hu (by simp [World.shape?, hh]) (by rw [hrep.1]; exact hl)
  refine ⟨h2, .pointer (some ⟨b, 0, none⟩), by simp only [execOp, ho, hev, Sem.run_bind, hr, Result.andThen_ok, Sem.run_pure], ?_⟩
  have := Rep.ptr (ρ := C.ρ) (av := C.avoid H') (hp := w.heap) i 0 b (by rw [hv]; rfl)
  exact this
def xT {f : Nat} {fn : Func} {r : AV} (hg : o.guard = none) (ho : o.op = .call c) (hc : c.callee = .value (.func f)) (hargs : c.args = #[x]) (hN : oD o N)
    (hf : P.funcs[f]? = some fn) (hname : (fn.name == "runtime.NumGoroutine") = false) (hb : fn.body.isNone = true) (hn : Extern.findNext fn = none) (he : Extern.find fn = some Extern.AbiNoEscape.same) (hx : opv E x = some r) : aY P ro N ds o b0 E H (aF [x]) [] r [] nx 0 := by
  refine lsO hg fun E' H' U hE hH' hnx => ?_
  rw [aU0]
  have hops := oCg hE
  refine aT (by simp [ho, Op.noDefer]) hN fun C a w hR => ?_
  obtain ⟨h1, h2⟩ := hR.opv (x := x) (r := r) (by rw [hops x oS]; exact hx)
  have hr := run_callFunc_extern hf hname hb hn he #[a.eval x] w
  rw [Lib.run_noEscape, Result.andThen_ok] at hr
  have h3 : a.eval (.func f) = .func (.func f) #[] #[] := rfl
  refine ⟨h2, _, ?_, h1⟩
  simp [execOp, ho, resolve, hc, hargs, invoke, Deferred.ofValue, h3, hr]
def yB (op : BinOp) (t : TypeId) (x y : Operand) (p : Option Addr) (v : Value) : eqGuard op t x y (.pointer p) v = pure () := by
  unfold eqGuard
  split <;> rfl
def aHi (hg : o.guard = none) (ho : o.op = .binOp .eql t x (.const (.pointer none)) ty) (hN : oD o N) (ht : P.underlying t = some (.pointer e)) (hx : opv E x = some (.raw (.pointer none))) : aY P ro N ds o b0 E H (aF [x]) [] (.raw (.bool true)) [] nx 0 := by
  refine lsO hg fun E' H' U hE hH' hnx => ?_
  rw [aU0]
  have hops := oCg hE
  refine aT (by simp [ho, Op.noDefer]) hN fun C a w hR => ?_
  obtain ⟨h1, h2⟩ := hR.opv (x := x) (by rw [hops x oS]; exact hx)
  have hev : a.eval x = .pointer none := by
    generalize a.eval x = v at h1
    cases h1; rfl
  have h : ∀ d : Nat, (Op.equalIn (d + 1) t (.pointer none) (.pointer none)).run P w = .ok true w := fun d => by simp [Op.equalIn, run_underlying ht]
  have hc : a.eval (.const (.pointer none)) = .pointer none := rfl
  have hr : (binOp .eql t (.pointer none) (.pointer none)).run P w = .ok (.bool true) w := by simp [binOp, Op.equal, Op.maxDepth, h 9999]
  refine ⟨trivial, .bool true, ?_, .raw _⟩
  simp only [execOp, ho, hev, hc, yB, Sem.run_bind, hr, Result.andThen_ok, Sem.run_pure]
def aTv (hg : o.guard = none) (ho : o.op = .binOp .eql t x (.const (.pointer none)) ty) (hN : oD o N) (ht : P.underlying t = some (.pointer e)) (hx : opv E x = some (.ptr i 0)) : aY P ro N ds o b0 E H (aF [x]) [] (.raw (.bool false)) [] nx 0 := by
  refine lsO hg fun E' H' U hE hH' hnx => ?_
  rw [aU0]
  have hops := oCg hE
  refine aT (by simp [ho, Op.noDefer]) hN fun C a w hR => ?_
  obtain ⟨h1, h2⟩ := hR.opv (x := x) (by rw [hops x oS]; exact hx)
  obtain ⟨b, hev⟩ : ∃ b, a.eval x = .pointer (some ⟨b, 0, none⟩) := by
    generalize a.eval x = v at h1
    cases h1 with
    | ptr _ _ b' hb => exact ⟨b', rfl⟩
  have h : ∀ d : Nat, (Op.equalIn (d + 1) t (.pointer (some ⟨b, 0, none⟩)) (.pointer none)).run P w = .ok false w := fun d => by simp [Op.equalIn, run_underlying ht]
  have hc : a.eval (.const (.pointer none)) = .pointer none := rfl
  have hr : (binOp .eql t (.pointer (some ⟨b, 0, none⟩)) (.pointer none)).run P w = .ok (.bool false) w := by simp [binOp, Op.equal, Op.maxDepth, h 9999]
  refine ⟨trivial, .bool false, ?_, .raw _⟩
  simp only [execOp, ho, hev, hc, yB, Sem.run_bind, hr, Result.andThen_ok, Sem.run_pure]
def aSy {j : TypeInfo} (hg : o.guard = none) (ho : o.op = .binOp .neq t x y ty) (hN : oD o N) (ht : P.underlying t = some (.pointer e)) (hte : P.info? e = some j) (hx : opv E x = some (.ptr i 0)) (hy : opv E y = some (.ptr i 0)) : aY P ro N ds o b0 E H (aF [x, y]) [] (.raw (.bool false)) [] nx 0 := by
  refine lsO hg fun E' H' U hE hH' hnx => ?_
  rw [aU0]
  have hops := oCg hE
  refine aT (by simp [ho, Op.noDefer]) hN fun C a w hR => ?_
  obtain ⟨h1, h2⟩ := hR.opv (x := x) (by rw [hops x oS]; exact hx)
  obtain ⟨h3, _⟩ := hR.opv (x := y) (by rw [hops y oS]; exact hy)
  obtain ⟨b, hb, hev⟩ : ∃ b, blk (C.ρ i) = some b /\ a.eval x = .pointer (some ⟨b, 0, none⟩) := by
    generalize a.eval x = v at h1
    cases h1 with
    | ptr _ _ b' hb => exact ⟨b', hb, rfl⟩
  have hey : a.eval y = .pointer (some ⟨b, 0, none⟩) := by
    generalize a.eval y = v at h3
    cases h3 with
    | ptr _ _ b' hb' => rw [hb] at hb'; cases hb'; rfl
  have hr := Lib.run_neq_ptr_same (P := P) w ⟨b, 0, none⟩ ht hte
  refine ⟨trivial, .bool false, ?_, .raw _⟩
  simp only [execOp, ho, hev, hey, yB, Sem.run_bind, hr, Result.andThen_ok, Sem.run_pure]
end
end
section
variable [Globals]
section
variable {P : Program} {ro : Option Nat} {N n0 : Nat} {E : Env} {H : Heap} {nx b0 : Nat} {o : Oper} {ds : List (Option Tmp)}
def jO {t el len sz i off : Nat} {x y : Operand} {k : IntKind} {n : Int} (hg : o.guard = none) (ho : o.op = .indexAddr t x y) (hN : oD o N) (ht : P.underlying t = some (.array len el)) (hi : (P.info? el).map (·.size) = some sz)
    (hx : opv E x = some (.ptr i off)) (hy : opv E y = some (.raw (.int k n))) (h0 : 0 <= n) (h1 : n < len) : aY P ro N ds o b0 E H (aF [x, y]) [] (.ptr i (off + n.toNat * sz)) [] nx 0 := by
  refine lsO hg fun E' H' U hE hH' hnx => ?_
  rw [aU0]
  have hops := oCg hE
  refine aT (by simp [ho, Op.noDefer]) hN fun C a w hR => ?_
  obtain ⟨r1, r2⟩ := hR.opv (x := x) (by rw [hops x oS]; exact hx)
  obtain ⟨q1, _⟩ := hR.opv (x := y) (by rw [hops y oS]; exact hy)
  obtain ⟨j, hj, hs⟩ := B3.1 hi
  have hyv : a.eval y = .int k n := by
    generalize a.eval y = v at q1
    cases q1; rfl
  obtain ⟨b, hb, hxv⟩ : ∃ b, blk (C.ρ i) = some b /\ a.eval x = .pointer (some ⟨b, off, none⟩) := by
    generalize a.eval x = v at r1
    cases r1 with
    | ptr _ _ b' hb => exact ⟨b', hb, rfl⟩
  refine ⟨r2, .pointer (some ⟨b, off + n.toNat * sz, none⟩), ?_, .ptr i _ b hb⟩
  have hr : (Instr.indexAt t (.pointer (some ⟨b, off, none⟩)) (.int k n)).run P w = .ok (.pointer (some ⟨b, off + n.toNat * sz, none⟩)) w := by
    simp [Instr.indexAt, run_underlying ht, Instr.sureAddr, asIntOf, h0, h1, sizeOf, typeInfo, hj, hs, jV]
  simp only [execOp, ho, hxv, hyv, Sem.run_bind, hr, Result.andThen_ok, Sem.run_pure]
end
end
section
variable [Globals]
section
variable {P : Program} {ro : Option Nat} {N n0 : Nat} {E : Env} {H : Heap} {nx b0 : Nat} {o : Oper} {ds : List (Option Tmp)}
def bPx {C : Conc} {U : Nat -> Prop} {a : Act} {w : World} {i t : Nat} {cs ds : List AV} (hR : Rel C N E H U a w) (hi : get H i = some (.cells t cs)) (hle : ∀ vs, eB C.ρ (C.avoid H) w.heap cs vs -> eB C.ρ (C.avoid H) w.heap ds vs) (hb : aI U ds) :
    Rel C N E (put H i (.cells t ds)) U a w /\ ∀ {C0 : Conc} {H0 : Heap} {U0 : Nat -> Prop} {w0 : World}, StepR C0 H0 U0 w0 C H w -> StepR C0 H0 U0 w0 C (put H i (.cells t ds)) w := by
  have hdom : ∀ j o, get (put H i (.cells t ds)) j = some o -> ∃ o', get H j = some o' := fun j o hj => by
    rw [dU] at hj; split at hj
    . rename_i e; subst e; exact ⟨_, hi⟩
    exact ⟨o, hj⟩
  have hW : ∀ b, C.W (put H i (.cells t ds)) b -> C.W H b := fun b ⟨j, o, hj, hb⟩ => by
    obtain ⟨o', ho'⟩ := hdom j o hj
    exact ⟨j, o', ho', hb⟩
  have hav : ∀ b, C.avoid (put H i (.cells t ds)) b -> C.avoid H b := fun b hb => hb.imp id (hW b)
  have hRel : Rel C N E (put H i (.cells t ds)) U a w :=
    { obj := fun j o hj => by
        rw [dU] at hj; split at hj
        . rename_i e
          subst e; cases hj
          obtain ⟨b, vs, e1, e2, e3, e4⟩ := hR.obj i _ hi
          exact ⟨b, vs, e1, e2, e3, (hle vs e4).mono (fun b _ hb => hav b hb) (fun _ _ _ => rfl)⟩
        exact (hR.obj j o hj).mono (fun b _ hb => hav b hb) (fun _ _ _ => rfl) (fun _ _ => rfl)
      apart := fun j k oj ok b hjk hj hk h1 h2 => by
        obtain ⟨o1, g1⟩ := hdom j oj hj
        obtain ⟨o2, g2⟩ := hdom k ok hk
        exact hR.apart j k o1 o2 b hjk g1 g2 h1 h2
      xapart := fun j o b hj h1 => by
        obtain ⟨o1, g1⟩ := hdom j o hj
        exact hR.xapart j o1 b g1 h1
      xlt := hR.xlt
      gl := hR.toRelH.glK (fun b _ hb => hav b hb) (fun _ _ _ _ _ _ => rfl)
      objb := fun j o hj => by
        rw [dU] at hj; split at hj
        . rename_i e
          subst e; cases hj
          exact ⟨(hR.objb i _ hi).1, hb⟩
        exact hR.objb j o hj
      size := hR.size, hB := hR.hB, nodup := hR.nodup
      marks := fun d hd => by
        obtain ⟨r, h1, h2, h3, h4⟩ := hR.marks d hd
        exact ⟨r, h1, h2, h3, fun q => h4 (hav r q)⟩
      env := fun t x ht => by
        obtain ⟨h1, h2, h3⟩ := hR.env t x ht
        exact ⟨h1, h2, h3.mono (fun b _ hb => hav b hb) (fun _ _ _ => rfl)⟩ }
  refine ⟨hRel, fun {C0 H0 U0 w0} hs => ?_⟩
  exact { os := hs.os, tape := hs.tape, output := hs.output, size := hs.size, keep := hs.keep, wr := fun b hb => hs.wr b (hW b hb), X := hs.X, B := hs.B, ρ := hs.ρ }
def aGf {c : Call} {x y : Operand} {pt it i e m t0 jj : Nat} {cs : List AV} {l : List UInt8} (hg : o.guard = none) (ho : o.op = .call c) (hc : c.callee = .builtin .unsafeString) (hargs : c.args = #[x, y]) (hts : c.argTypes = #[pt, it]) (hN : oD o N)
    (hp : P.underlying pt = some (.pointer e)) (hce : P.cellsOf e = 1) (hx : opv E x = some (.ep i 1 0 0)) (hy : opv E y = some (.raw (.int .i64 (l.length : Int)))) (hH : get H i = some (.row e 1 (l.map byteAV))) (h0 : l ≠ [])
    (hm : get H m = some (.cells t0 cs)) (hj : cs[jj]? = some (.ref i)) (hmi : m ≠ i) :
    aY P ro N ds o b0 E H (aF [x, y]) [i, m] (.raw (.string ⟨l.toArray⟩)) [(nx, .dead), (i, .dead), (m, .cells t0 (cs.set jj (.sl 1 (l.map byteAV))))] nx 1 := by
  refine lsO hg fun E' H' U hE hH' hnx => ?_
  rw [gO]
  have hops := oCg hE
  intro C a w next Q hR hK
  have hnx' := hnx nx (A0 _) og
  obtain ⟨h1, _⟩ := hR.opv (x := x) (r := .ep i 1 0 0) (by rw [hops x oS]; exact hx)
  obtain ⟨h2, _⟩ := hR.opv (x := y) (by rw [hops y oS]; exact hy)
  have hi' := (hH' i oS).trans hH
  have hm' := (hH' m oS).trans hm
  obtain ⟨b, c', cells, hv, hown, hh, hcs, hc', hcm, htk⟩ := Rel.bytes hR hi' h0
  have hev : a.eval x = .pointer (some ⟨b, 0, none⟩) := by
    generalize a.eval x = v at h1
    cases h1 with
    | ep _ _ _ _ b' hb =>
      rw [hv] at hb
      cases hb; rfl
  have hey : a.eval y = .int .i64 (l.length : Int) := by
    generalize a.eval y = v at h2
    cases h2; rfl
  have hone : (Value.int IntKind.i64 0).oneCell' = true := rfl
  have hmax : maxLen = 9223372036854775807 := rfl
  have hor : w.ownsRow 0 e 1 (C.ρ i) l.length (Lib.byteCells l) := ⟨by simp [Lib.byteCells], .inr ⟨b, c', cells, hv, A5 _, hh, hc', hcm, og, by rw [Nat.mul_one]; exact htk⟩⟩
  have hr := Lib.run_unsafeString_row (P := P) w pt it o.type e hp hce b cells.size (by simp [World.shape?, hh]) l h0 og og (fun j z hz => hor.cells (g := b) (by rw [hv]; rfl) j _ (by simp [Lib.byteCells, hz]))
  have hexec : (execOp a.eval o).run P w = .ok (.value (.string ⟨l.toArray⟩)) (w.freeze ⟨b, 0, none⟩ l.length) := by
    simp [execOp, ho, resolve, hc, hargs, hts, invoke, builtin, hev, hey, hr]
  obtain ⟨f1, f2, f3⟩ := aPz w ⟨b, 0, none⟩ l.length
  have hlp := F7.2 h0
  have hfr : ∃ fr, (w.freeze ⟨b, 0, none⟩ l.length).heap[b]? = some (.cells cells e fr) := by
    unfold World.freeze; rw [if_neg og]
    refine ⟨(0, 0 + l.length), ?_⟩
    show (w.heap.modify b _)[b]? = _
    rw [Array.getElem?_modify, if_pos rfl, hh]; rfl
  obtain ⟨fr, hfr⟩ := hfr
  obtain ⟨k, hs'⟩ := Rel.out (nx := nx) (v := .int .i64 0) (own := []) (k := [i]) (ob := .dead) hR hone hnx' (fun j hj => by rw [B6.1 hj]; exact ⟨_, hi'⟩) f1 f2 f3 (by rw [aGs]; exact A0 _)
    (fun b' hb' hn => aGy w _ _ b' fun e' => hn i oS (by rw [hown]; subst e'; exact A3)) (fun b' hb' => by cases hb') trivial (fun _ _ => rfl)
  have hUi : U i := (hR.objb i _ hi').1
  have hUm : U m := (hR.objb m _ hm').1
  have hin : i ≠ nx := fun e' => hnx' (e' ▸ hUi)
  have hmn : m ≠ nx := fun e' => hnx' (e' ▸ hUm)
  have hg1 : get (over H' ((nx, AObj.dead) :: cA [i])) m = some (.cells t0 cs) := by
    rw [cJ]
    show (match get [(nx, AObj.dead), (i, AObj.dead)] m with | some o => some o | none => get H' m) = _
    simp only [Abs.get, if_neg (Ne.symm hmn), if_neg (Ne.symm hmi)]
    exact hm'
  have hav : ¬ (C.out nx (.int .i64 0) [] [i] hone).avoid (over H' ((nx, AObj.dead) :: cA [i])) b := by
    have hbi : b ∈ C.own i := by rw [hown]; exact A3
    rintro (hX | ⟨j, oj, hj', hbj⟩)
    . exact hR.xapart i _ b hi' hbi hX
    by_cases e1 : j = nx
    . subst e1; rw [rU] at hbj; cases hbj
    by_cases e2 : j ∈ [i]
    . rw [lD e1 e2] at hbj; cases hbj
    rw [mM e1 e2] at hbj
    have hgj : get H' j = some oj := by
      rw [cJ] at hj'
      have : get ((nx, AObj.dead) :: cA [i]) j = none := by
        show get [(nx, AObj.dead), (i, AObj.dead)] j = none
        simp only [Abs.get, if_neg (Ne.symm e1), if_neg (fun e' : i = j => e2 (by rw [e']; simp))]
      rw [this] at hj'
      exact hj'
    exact hR.apart i j _ oj b (fun e' => e2 (by rw [e']; simp)) hi' hgj hbi hbj
  have hρ : (C.out nx (.int .i64 0) [] [i] hone).ρ i = C.ρ i := bT _ _ hin
  obtain ⟨k2, hs2⟩ := bPx k hg1 (ds := cs.set jj (.sl 1 (l.map byteAV))) (fun vs hvs => by
    refine ⟨by rw [D0]; exact hvs.1, fun q z hq => ?_⟩
    rw [F9] at hq; split at hq
    . rename_i ejq
      subst ejq; split at hq
      . cases hq
        have h9 := hvs.2 jj _ hj
        generalize vs.getD jj undef = u at h9
        cases h9; rw [hρ, hv]
        have h10 := Rep.sl (ρ := (C.out nx (.int .i64 0) [] [i] hone).ρ) (av := (C.out nx (.int .i64 0) [] [i] hone).avoid (over H' ((nx, AObj.dead) :: cA [i]))) (hp := (w.freeze ⟨b, 0, none⟩ l.length).heap) 1 (l.map byteAV) b 0 c' cells e fr (fun j => .int .u8 ((l.getD j 0).toNat : Int)) (by rw [A6]; exact hlp) (by rw [A6]; exact hc') hcm hav hfr
          (fun j z hz => by
            rw [B4] at hz
            obtain ⟨y', hy', rfl⟩ := B3.1 hz
            rw [E7, hy']
            exact .raw _)
          (fun j hjl => by
            rw [A6] at hjl
            refine ⟨rfl, fun q hq => ?_⟩
            have hq0 : q = 0 := by omega
            subst hq0
            have h11 : (cells.toList.take l.length)[j]? = cells[j]? := by rw [G1, if_pos hjl, D8]
            rw [htk] at h11; rw [C3, Nat.mul_one, Nat.add_zero, <- h11]
            simp [Lib.byteCells, A1 hjl, Value.cells, E7])
        rw [A6] at h10; exact h10
      cases hq
    exact hvs.2 q z hq) (by
    have hbl := (hR.objb m _ hm').2
    show aI _ _
    refine bLi.2 fun z hz => ?_
    rcases List.mem_or_eq_of_mem_set hz with h | h
    . exact AV.bel_mono (fun j hj => .inl hj) z (bLi.1 hbl z h)
    rw [h]; exact pD _ _)
  have hext : ∀ q, get (over H' [(nx, AObj.dead), (i, AObj.dead), (m, .cells t0 (cs.set jj (.sl 1 (l.map byteAV))))]) q = get (put (over H' ((nx, AObj.dead) :: cA [i])) m (.cells t0 (cs.set jj (.sl 1 (l.map byteAV))))) q := fun q => by
    rw [dU, cJ, cJ]
    show (match get [(nx, AObj.dead), (i, AObj.dead), (m, .cells t0 (cs.set jj (.sl 1 (l.map byteAV))))] q with | some o => some o | none => get H' q) = if m = q then _ else (match get [(nx, AObj.dead), (i, AObj.dead)] q with | some o => some o | none => get H' q)
    by_cases e1 : nx = q
    . subst e1; simp only [Abs.get, if_true, if_neg hmn]
    by_cases e2 : i = q
    . subst e2; simp only [Abs.get, if_true, if_neg e1, if_neg hmi]
    by_cases e3 : m = q
    . subst e3; simp only [Abs.get, if_true, if_neg e1, if_neg e2]
    simp only [Abs.get, if_neg e1, if_neg e2, if_neg e3]
  exact eW (by simp [ho, Op.noDefer]) hexec (hK _ _ _ (((k2.ext hext)).put hN (.raw _) trivial) ((hs2 hs').ext hext))
end
end
end Go.Abs
end
section
open Go
namespace Go.Abs
section
variable [Globals]
variable {P : Program} {ro : Option Nat} {N : Nat} {E : Env} {H : Heap} {nx : Nat}
def bE {ds : List (Option Tmp)} {l : List Oper} {K : AK} (i : Nat) {e sz : Nat} {xs : List AV} (hi : get H i = some (.row e sz xs)) (h : qL P ro N ds l K (aYt i (.sl sz (fzL xs)) E) (xA i (.sl sz (fzL xs)) H) nx) : qL P ro N ds l K E H nx := by
  intro ops n1 Q C a w hd hb hn hR hK
  obtain ⟨C', hR', hs⟩ := hR.freeze i hi
  exact h ops n1 Q C' a w hd hb hn hR' fun E' H' nx' C1 a' w' hn' hR2 hs2 hQ => hK E' H' nx' C1 a' w' hn' hR2 (hs hs2) hQ
end
section
variable [Globals]
section
variable {P : Program} {ro : Option Nat} {N n0 : Nat} {Q : AQ} {E : Env} {H : Heap} {nx : Nat}
end
end
end Go.Abs
end
section
open Go Go.RowKit
namespace Go.Abs
section
variable [Globals]
end
end Go.Abs
end
section
open Go
namespace Go.Abs
section
variable [Globals]
section
variable {P : Program} {ro : Option Nat} {N n0 : Nat} {E : Env} {H : Heap} {nx : Nat}
end
end
section
variable [Globals]
variable {b0 e sz : Nat} {o : Oper} {xs : List AV}
section
variable {P : Program} {ro : Option Nat} {N : Nat} {E : Env} {H : Heap} {nx : Nat}
def aY.froze {ds : List (Option Tmp)} {rt rd : List Nat} (h : aY P ro N ds o b0 E H rt rd (.ref nx) [(nx, .row e sz xs)] nx 1) (ho : o.dst ≠ none) : aY P ro N ds o b0 E H rt rd (.sl sz (fzL xs)) [(nx, .dead)] nx 1 := by
  intro E' H' U hE hH hU hnx C a w next Q hR hK
  refine h E' H' U hE hH hU hnx C a w next Q hR fun C' a' w' hR' hs => ?_
  let C2 : Conc := { C' with own := fun j => if j = nx then [] else C'.own j }
  have hg : ∀ (x : AObj) j, get (over H' [(nx, x)]) j = if nx = j then some x else get H' j := fun x j => dU nx j x H'
  have hW : ∀ b, C2.W (over H' [(nx, .dead)]) b -> ∃ j o, j ≠ nx /\ get (over H' [(nx, .row e sz xs)]) j = some o /\ b ∈ C'.own j := by
    rintro b ⟨j, o, hj, hb⟩
    have hb' : b ∈ (if j = nx then [] else C'.own j) := hb
    by_cases hji : j = nx
    . rw [if_pos hji] at hb'; cases hb'
    rw [if_neg hji] at hb'
    rw [hg, if_neg (fun q => hji q.symm)] at hj
    exact ⟨j, o, hji, by rw [hg, if_neg (fun q => hji q.symm)]; exact hj, hb'⟩
  have hWW : ∀ b, C2.W (over H' [(nx, .dead)]) b -> C'.W (over H' [(nx, .row e sz xs)]) b := fun b hb => by
    obtain ⟨j, o, _, h1, h2⟩ := hW b hb
    exact ⟨j, o, h1, h2⟩
  have hav : ∀ b, C2.avoid (over H' [(nx, .dead)]) b -> C'.avoid (over H' [(nx, .row e sz xs)]) b := fun b hb => hb.imp id (hWW b)
  have hrow : get (over H' [(nx, .row e sz xs)]) nx = some (.row e sz xs) := by rw [hg, if_pos rfl]
  have hbel := (hR'.objb nx _ hrow).2
  have hy : Rep C'.ρ (C2.avoid (over H' [(nx, .dead)])) w'.heap (.sl sz (fzL xs)) (C'.ρ nx) := by
    have h1 := hR'.obj nx _ hrow
    have h2 : RepO C'.ρ (C2.avoid (over H' [(nx, .dead)])) w'.heap (.own e sz xs) (C'.ρ nx) (C'.own nx) := h1.1.mono' (fun b _ hb => hav b hb) (fun _ _ _ _ _ _ => rfl) (fun _ _ => rfl)
    refine h2.fz fun b hb hb' => ?_
    rcases hb' with hb' | hb'
    . exact hR'.xapart nx _ b hrow hb hb'
    obtain ⟨j, o, hji, hj, hbj⟩ := hW b hb'
    exact hR'.apart nx j _ _ b (fun q => hji q.symm) hrow hj hb hbj
  have hold : ∀ j o, j ≠ nx -> get (over H' [(nx, .dead)]) j = some o -> get (over H' [(nx, .row e sz xs)]) j = some o := fun j o hj h => by
    rw [hg, if_neg (fun q => hj q.symm)] at h ⊢; exact h
  have hRel : Rel C2 N (aU E' o.dst (.sl sz (fzL xs))) (over H' [(nx, .dead)]) (sR U nx 1) a' w' :=
    { obj := fun j ob hj => by
        by_cases hji : j = nx
        . subst hji; rw [hg, if_pos rfl] at hj; cases hj
          show (if j = j then [] else C'.own j) = []
          rw [if_pos rfl]
        have hown : C2.own j = C'.own j := if_neg hji
        rw [hown]
        exact (hR'.obj j ob (hold j ob hji hj)).mono' (fun b _ hb => hav b hb) (fun _ _ _ _ _ _ => rfl) (fun _ _ => rfl)
      apart := fun j k oj ok b hjk hj hk hbj hbk => by
        have e1 : ∀ l ol, get (over H' [(nx, .dead)]) l = some ol -> b ∈ C2.own l -> ∃ o, get (over H' [(nx, .row e sz xs)]) l = some o /\ b ∈ C'.own l := fun l ol hl hbl => by
          have hb' : b ∈ (if l = nx then [] else C'.own l) := hbl
          by_cases hli : l = nx
          . rw [if_pos hli] at hb'; cases hb'
          rw [if_neg hli] at hb'; exact ⟨ol, hold l ol hli hl, hb'⟩
        obtain ⟨o1, p1, p2⟩ := e1 j oj hj hbj
        obtain ⟨o2, p3, p4⟩ := e1 k ok hk hbk
        exact hR'.apart j k _ _ b hjk p1 p3 p2 p4
      xapart := fun j ob b hj hb => by
        have hb' : b ∈ (if j = nx then [] else C'.own j) := hb
        by_cases hji : j = nx
        . rw [if_pos hji] at hb'; cases hb'
        rw [if_neg hji] at hb'; exact hR'.xapart j ob b (hold j ob hji hj) hb'
      xlt := hR'.xlt
      objb := fun j ob hj => by
        by_cases hji : j = nx
        . subst hji; rw [hg, if_pos rfl] at hj; cases hj
          exact ⟨(hR'.objb j _ hrow).1, trivial⟩
        exact hR'.objb j ob (hold j ob hji hj)
      gl := hR'.toRelH.glK (fun b _ hb => hav b hb) (fun _ _ _ _ _ _ => rfl)
      size := hR'.size, hB := hR'.hB, nodup := hR'.nodup
      marks := fun d hd => by
        obtain ⟨r, h1, h2, h3, h4⟩ := hR'.marks d hd
        exact ⟨r, h1, h2, h3, fun q => h4 (hav r q)⟩
      env := fun t x ht => by
        by_cases hd : o.dst = some t
        . have e1 : get (aU E' o.dst (.sl sz (fzL xs))) t = some (.sl sz (fzL xs)) := by rw [hd]; simp [aU, put, Abs.get]
          have e2 : get (aU E' o.dst (.ref nx)) t = some (.ref nx) := by rw [hd]; simp [aU, put, Abs.get]
          rw [e1] at ht; cases ht
          obtain ⟨h1, _, h3⟩ := hR'.env t _ e2
          refine ⟨h1, pU (xs := xs) hbel, ?_⟩
          generalize a'.tmps.getD t undef = v at h3
          cases h3; exact hy
        rw [qQ hd] at ht
        have e2 : get (aU E' o.dst (.ref nx)) t = some x := by rw [qQ hd]; exact ht
        obtain ⟨h1, h2, h3⟩ := hR'.env t x e2
        exact ⟨h1, h2, h3.mono (fun b _ hb => hav b hb) (fun _ _ _ => rfl)⟩ }
  refine hK C2 a' w' hRel ?_
  exact { os := hs.os, tape := hs.tape, output := hs.output, size := hs.size, keep := hs.keep
          wr := fun b hb => hs.wr b (hWW b hb)
          X := hs.X, B := hs.B, ρ := hs.ρ }
def rO {ds : List (Option Tmp)} {c' : Prop} (hg : o.guard = none) (hN : oD o N) (h : wG P (opv E) (get H) nx o.op = some ⟨c', .ref nx, [(nx, .row e sz xs)], 1⟩) (hok : c') (ho : o.dst ≠ none) :
    aY P ro N ds o b0 E H (aF (jG o.op)) (aRp E o.op) (.sl sz (fzL xs)) [(nx, .dead)] nx 1 := aY.froze (uQ (r := ⟨c', .ref nx, [(nx, .row e sz xs)], 1⟩) hg hN h hok) ho
def aRg {ds : List (Option Tmp)} {b0 : Nat} : ∀ {l m : List Oper} {E : Env} {H : Heap} {nx : Nat} {ss tt : List St} {E1 E2 : Env} {H1 H2 : Heap} {n1 n2 : Nat}, tW P ro N ds b0 l E H nx ss E1 H1 n1 -> tW P ro N ds b0 m E1 H1 n1 tt E2 H2 n2 -> tW P ro N ds b0 (l ++ m) E H nx (ss ++ tt) E2 H2 n2
  | [], m, E, H, nx, [], tt, E1, E2, H1, H2, n1, n2, h, k => by obtain ⟨rfl, rfl, rfl⟩ := h; exact k
  | o :: l, m, E, H, nx, s :: ss, tt, E1, E2, H1, H2, n1, n2, h, k => ⟨h.1, h.2.1, h.2.2.1, h.2.2.2.1, aRg h.2.2.2.2 k⟩
def bIf {ds : List (Option Tmp)} {l : List Oper} {acc : List Rec} {K : List Rec -> AK} (n : Nat) (h : iD P ro N ds b0 (l.take n) acc (fun rs => VTr P ro N ds b0 (l.drop n) rs.reverse K) E H nx) : VTr P ro N ds b0 l acc K E H nx := by
  intro hd
  obtain ⟨ss, E', H', nx', h1, h2⟩ := aMe _ _ _ _ _ _ h fun o ho => hd o (D1 ho)
  obtain ⟨ss2, E2, H2, nx2, h3, h4⟩ := h2 fun o ho => hd o (D2 ho)
  refine ⟨ss ++ ss2, E2, H2, nx2, by have := aRg h1 h3; rwa [List.take_append_drop] at this, ?_⟩
  simpa using h4
def sdT {n0 : Nat} {Q : AQ} {id : Nat} {ops : Array Oper} {y : Code} (n : Nat) (hm : P.follows .mixedOrders = true) (hd : aGu N ops.toList = true)
    (h : ∀ {K : AK}, (∀ {E H nx}, AWP P ro N n0 y Q E H nx -> K E H nx) -> iD P ro N (ops.toList.map (·.dst)) nx (ops.toList.take n) [] (fun rs => VTr P ro N (ops.toList.map (·.dst)) nx (ops.toList.drop n) rs.reverse (drawn (ops.toList.map (·.after.toList)) K)) E H nx) :
    AWP P ro N n0 (.seq (.region id ops true) y) Q E H nx := aA fun hK => aGb (0, 0) hm hd fun hd' => by
  obtain ⟨ss, E', H', nx', h1, h2, h3⟩ := bIf n (h hK) hd'
  exact ⟨ss, E', H', nx', h1, aFj h2, fun hlt => absurd hlt dg, h3⟩
attribute [go_sem] List.take_succ_cons List.take_zero List.drop_succ_cons List.drop_zero List.reverse_reverse
end
end
section
variable [Globals]
def aPw (x : AV) : Prop := ∀ (ρ : Nat -> Value) (av : Nat -> Prop) (hp : Array Obj) (v : Value) (ow : List Nat), RepO ρ av hp x v ow -> ow = [] /\ Rep ρ av hp x v
def bJb (sz : Nat) (xs : List AV) : aPw (.sl sz xs) := fun ρ av hp v ow h => by cases h with | leaf _ _ h => exact ⟨rfl, h⟩
def bEi (v : Value) : aPw (.raw v) := fun ρ av hp v ow h => by cases h with | leaf _ _ h => exact ⟨rfl, h⟩
def bGz {cs : List AV} (h : ∀ x ∈ cs, aPw x) : aPw (.agg cs) := fun ρ av hp v ow hr => by
  cases hr with
  | leaf _ _ h => exact ⟨rfl, h⟩
  | agg _ vs ows hn hh =>
    refine ⟨?_, .agg _ vs hn fun j x hj => (h x (E4 hj) _ _ _ _ _ (hh j x hj)).2⟩
    unfold bA; rw [List.flatMap_eq_nil_iff]; intro j hj
    have hlt := List.mem_range.1 hj
    exact (h cs[j] (C9 hlt) _ _ _ _ _ (hh j _ (A1 hlt))).1
section
variable {P : Program} {ro : Option Nat} {N : Nat} {E : Env} {H : Heap} {nx : Nat}
def bFg {ds : List (Option Tmp)} {o1 o2 : Oper} {l : List Oper} {K : AK} {c : Call} {t e : TypeId} {x y z : Operand} {d1 i j sz by' : Nat} {k : IntKind} {lo : Int} {zs : List Value} {xs ys : List AV}
    (g1 : o1.guard = none) (p1 : o1.op = .slice t x (some y) none none) (e1 : o1.dst = some d1) (g2 : o2.guard = none) (p2 : o2.op = .call c) (hc : c.callee = .builtin .append) (hargs : c.args = #[z, .tmp d1]) (hts : c.argTypes = #[t, t])
    (hs : cL P t = some (e, some (sz, by'))) (hz : zC P e = some zs) (hzl : zs.length = sz) (h0 : 0 < sz) (hx : opv E x = some (.ref i)) (hi : get H i = some (.row e sz xs)) (hy : opv E y = some (.raw (.int k lo)))
    (hzz : opv (aU E (some d1) .any) z = some (.ref j)) (hj : get H j = some (.row e sz ys)) (hij : i ≠ j) (hl0 : 0 <= lo) (hl1 : lo <= xs.length) (hel : xs.all AV.elem = true) (hfl : ∀ x ∈ xs, aPw x)
    (hlen : ys.length + xs.length <= maxLen) (hby : (ys.length + xs.length) * by' <= 140737488355328) (hn9 : nx < 1000)
    (h : lO P ro N ds l K (aU (aU E (some d1) .any) o2.dst (.ref nx)) (over H [(nx, .row e sz (ys ++ xs.drop lo.toNat)), (j, .dead)]) (nx + 1)) : qL P ro N ds (o1 :: o2 :: l) K E H nx := by
  intro ops n0 Q C a w hds hd hn hR hk; subst hds
  have hnx : ¬ UU nx nx := fun hu => by rcases hu with hu | hu <;> omega
  obtain ⟨r1, _⟩ := hR.opv hx
  obtain ⟨q1, _⟩ := hR.opv hy
  obtain ⟨hu, ti, hti, hisz, _⟩ := gN hs
  obtain ⟨hO, hnd⟩ := hR.obj i _ hi
  have hbel := (hR.objb i _ hi).2
  have hxv : a.eval x = C.ρ i := by
    generalize a.eval x = v at r1
    cases r1; rfl
  have hyv : a.eval y = .int k lo := by
    generalize a.eval y = v at q1
    cases q1; rfl
  have hrun : ∀ A cp, xs.length <= cp -> (Instr.slice t (.slice A xs.length cp) (some (.int k lo)) none none).run P w = .ok (.slice (if cp = lo.toNat then A else A.map (·.add (lo.toNat * sz))) (xs.length - lo.toNat) (cp - lo.toNat)) w := fun A cp hcp => by
    have hb : (Instr.sliceBounds true xs.length cp (some (.int k lo)) none none).run P w = .ok (lo.toNat, xs.length, cp) w := by
      simp [Instr.sliceBounds, Instr.sliceBound, asIntOf, hl0, hl1]
    have hiff : (cp - lo.toNat = 0) = (cp = lo.toNat) := by apply propext; omega
    simp [Instr.slice, run_underlying hu, hb, sizeOf, typeInfo, hti, hisz, hiff]
  have key : ∃ v1 vals, (Instr.slice t (C.ρ i) (some (.int k lo)) none none).run P w = .ok v1 w /\ News C.ρ (C.avoid H) w sz (xs.drop lo.toNat) v1 vals (fun _ => []) := by
    rcases hO.row_inv with ⟨hn', hv, _⟩ | ⟨b, cp, cells, vals, ows, hv, ho', hh, hsz, hcp, hm, hr, hcs⟩
    . subst hn'
      have hl : lo.toNat = 0 := by simp only [List.length_nil] at hl1; omega
      refine ⟨.slice none 0 0, fun _ => undef, ?_, ⟨.inl ⟨by simp, 0, rfl⟩, fun j hj => by simp at hj, fun j x hj => by simp at hj⟩⟩
      rw [hv]
      have := hrun none 0 (A0 _)
      simp only [List.length_nil, hl] at this
      simpa using this
    refine ⟨_, fun q => vals (lo.toNat + q), by rw [hv]; exact hrun _ cp hcp, ⟨?_, fun q hq => ?_, fun q u hq => ?_⟩⟩
    . have hlen' : (xs.drop lo.toNat).length = xs.length - lo.toNat := B1
      by_cases hcl : cp = lo.toNat
      . rw [if_pos hcl]
        refine .inr ⟨⟨b, 0, none⟩, cp - lo.toNat, by rw [hlen'], fun q m hq hm => ?_⟩
        rw [hlen'] at hq; omega
      rw [if_neg hcl]
      refine .inr ⟨(⟨b, 0, none⟩ : Addr).add (lo.toNat * sz), cp - lo.toNat, by rw [hlen']; rfl, fun q m hq hm => ?_⟩
      rw [hlen'] at hq
      have hq2 := hcs (lo.toNat + q) og
      rw [jV, jV, cell_of_row w b _ cells e (0, 0) hh]
      have e2 : 0 + lo.toNat * sz + (q * sz + m) = 0 + (lo.toNat + q) * sz + m := by rw [Nat.add_mul]; omega
      rw [e2, hq2.2 m hm, B5, D4 (by rw [hq2.1]; exact hm)]
      rfl
    . rw [B1] at hq
      exact (hcs (lo.toNat + q) og).1
    rw [H4] at hq
    exact .leaf _ _ (hfl u (E4 hq) _ _ _ _ _ (hr _ u hq)).2
  obtain ⟨v1, vals, hv1, hnews⟩ := key
  have hex1 : (execOp a.eval o1).run P w = .ok (.value v1) w := by simp [execOp, p1, hxv, hyv, Instr.sliceAt, run_underlying hu, hv1]
  have hR1 : Rel C N (aU E (some d1) .any) H (UU nx) (a.put (some d1) v1) w := hR.put (fun d h => hd o1 A3 d (e1.trans h)) (.any v1) trivial
  have hev1 : (a.put (some d1) v1).eval (.tmp d1) = v1 := by
    have hdl : d1 < N := hd o1 A3 d1 e1
    simp [Act.put, Act.eval, hR.size, hdl]
  have hApp : App1 (aU E (some d1) .any) H z e sz ys [j] := .row j ys hzz hj
  obtain ⟨own1, s1, s2, s3, s4, s5⟩ := hApp.rep hR1
  have hflat : bA (xs.drop lo.toNat).length (fun _ => ([] : List Nat)) = [] := by simp [bA]
  obtain ⟨v', w', own', hrun2, hg, hob, hv, hrep, hown, hnd2⟩ := aMh (P := P) (w := w) (ty := o2.type) hs hz hzl h0 C.one s1 s2 (fun b hb => by obtain ⟨i', hi', hbi⟩ := (s3 b).1 hb; obtain ⟨oi, hoi⟩ := s4 i' hi'; exact .inr ⟨i', oi, hoi, hbi⟩) hnews
    (C8.2 fun u hu => C8.1 hel u (D2 hu)) (fun b hb => by rw [hflat] at hb; cases hb) (by rw [B1]; omega)
    (F6 (D9 _ (by rw [B1]; omega)) hby)
  have hex2 : (execOp (a.put (some d1) v1).eval o2).run P w = .ok (.value v') w' := by
    simp [execOp, p2, resolve, hc, hargs, hts, invoke, builtin, hev1, hrun2]
  obtain ⟨k1, hs'⟩ := Rel.out (nx := nx) (k := [j]) (ob := .row e sz (ys ++ xs.drop lo.toNat)) hR1 hv hnx (fun i' hi' => s4 i' hi') hg.os hg.tape hg.output hg.size
    (fun b hb hn' => hg.block b hb fun e' => by
      obtain ⟨i', hi', hbi⟩ := (s3 b).1 (hob b e'.symm)
      exact hn' i' hi' hbi)
    (own := own') (fun b hb => by
      rcases hown b hb with (h' | h') | h'
      . exact .inl ((s3 b).1 h')
      . rw [hflat] at h'; cases h'
      exact .inr og)
    (by show aI (UU nx) (ys ++ xs.drop lo.toNat); rw [bLi] at s5 ⊢; intro u hu; rcases A7.1 hu with h' | h'; exact s5 u h'; exact bLi.1 hbel u (D2 h'))
    (fun av' hav => ⟨hrep av' hav, hnd2 (by rw [hflat]; exact E5) (fun b _ hb => by rw [hflat] at hb; cases hb)⟩)
  have hR2 := k1.put (dst := o2.dst) (r := .ref nx) (v := v') (fun d h => hd o2 (A4 _ A3) d h) (by
    have : Rep (C.out nx v' own' [j] hv).ρ ((C.out nx v' own' [j] hv).avoid (over H ((nx, AObj.row e sz (ys ++ xs.drop lo.toNat)) :: cA [j]))) w'.heap (.ref nx) ((C.out nx v' own' [j] hv).ρ nx) := .ref nx
    rwa [show (C.out nx v' own' [j] hv).ρ nx = v' from cY _ _ _] at this) (Or.inr rfl)
  rw [<- gO, aDh] at hR2
  have hfin := zS l K _ _ _ h ops n0 Q _ _ _ rfl (fun o' ho' => hd o' (A4 _ (A4 _ ho'))) og hR2 fun E2 H2 nx2 C2 a2 w2 hn2 hR3 hs2 hK2 =>
    hk E2 H2 nx2 C2 a2 w2 hn2 hR3 ((hs'.fewerNames (eD hn)).trans (fun _ h => h) hs2) hK2
  have hG2 : GS P ro (ops.toList.map (·.dst)) o2 (a.put (some d1) v1) w (wpListIn (FW ro) 0 P ops Q l) Q := by
    unfold GS
    rw [if_pos (by simp [Region.wanted, g2])]
    exact eW (by simp [p2, Op.noDefer]) hex2 hfin
  have hG1 : GS P ro (ops.toList.map (·.dst)) o1 a w (wpListIn (FW ro) 0 P ops Q (o2 :: l)) Q := by
    unfold GS
    rw [if_pos (by simp [Region.wanted, g1])]
    refine eW (by simp [p1, Op.noDefer]) hex1 ?_
    rw [e1]; unfold GS at hG2
    have hy : sI (ops.toList.map (·.dst)) (a.put (some d1) v1).tmps = yielded ops (a.put (some d1) v1).tmps := by funext q; rw [sJ]
    rw [hy] at hG2; exact hG2
  unfold GS at hG1
  have hy : sI (ops.toList.map (·.dst)) a.tmps = yielded ops a.tmps := by funext q; rw [sJ]
  rw [hy] at hG1; exact hG1
end
end
section
variable [Globals]
variable {α : Type} {c : Call} {f : Nat} {code : Code} {args : List AV} {φ : α -> Prop} {r0 : α -> AV}
section
variable {P : Program} {ro : Option Nat} {N : Nat} {o : Oper} {E : Env} {H : Heap} {nx : Nat} {ds : List (Option Tmp)} {K : AK}
def aNp {l : List Oper} {fn : Func} {nd : Heap} {m0 nw : Nat} {H1 : α -> Heap} (s : List (Nat × Nat)) (hg : o.guard = none) (ho : o.op = .call c) (hc : c.callee = .value (.func f)) (hT : FnT P f fn code)
    (hM : uW P f args nd m0 φ r0 H1 (m0 + nw)) (hargs : c.args.toList.map (opv E) = (aB (sg s) args).map some) (hab : aI (UU m0) args) (hF0 : FitC H s nd m0 nw nd) (hF : ∀ g, φ g -> FitC H s nd m0 nw (H1 g)) (hn : nw = 0 ∨ nx + nw <= 1000)
    (h : ∀ g, φ g -> lO P ro N ds l K (aU E o.dst ((r0 g).ren (shift (sg s) m0 nx nw))) (over H ((H1 g).map fun p => (shift (sg s) m0 nx nw p.1, p.2.ren (shift (sg s) m0 nx nw)))) (nx + nw)) :
    qL P ro N ds (o :: l) K E H nx := by
  intro ops n0 Q C a w hds hd hn0 hR hk; subst hds
  have hN := hd o A3
  have hfr : ∀ j, nx <= j -> j < nx + nw -> ¬ UU nx j := fun j h1 h2 h3 => by rcases h3 with h3 | h3 <;> omega
  have hfit0 := hF0.fit (nx := nx) hR.toRelH (fun j hj => .inr hj) (fun p hp => rfl) hfr
  have hRc := hR.toRelH.callee hfit0
  have hlen : c.args.toList.length = args.length := by have := congrArg List.length hargs; simpa [rnl] using this
  have hargsR : eB (callee C H (sg s) nd).ρ ((callee C H (sg s) nd).avoid nd) w.heap args (c.args.map a.eval) := by
    refine ⟨by simpa using hlen, fun j x hj => ?_⟩
    have hjl : j < c.args.toList.length := by rw [hlen]; exact (B2.1 hj).1
    have h1 : (c.args.toList.map (opv E))[j]? = some (some (x.ren (sg s))) := by rw [hargs, B4, qD, hj]; rfl
    rw [B4, A1 hjl] at h1
    simp only [Option.map_some, B9] at h1
    obtain ⟨h3, _⟩ := hR.opv h1
    have hv : (c.args.map a.eval).getD j undef = a.eval c.args.toList[j] := by
      simp at hjl
      simp [B5, hjl]
    rw [hv]
    exact (h3.mono (av' := (callee C H (sg s) nd).avoid nd) (fun b _ hb => (iB hfit0 b).1 hb) (fun _ _ _ => rfl)).unren (ρ := C.ρ) x rfl
  have hstep : GS P ro (ops.toList.map (·.dst)) o a w (wpListIn (FW ro) 0 P ops Q l) Q := by
    refine rS hg (aFe (R := fun v w' => ∃ C1 g, φ g /\ RelH C1 (H1 g) (UU (m0 + nw)) w' /\ StepR (callee C H (sg s) nd) nd (UU m0) w C1 (H1 g) w' /\ Rep C1.ρ (C1.avoid (H1 g)) w'.heap (r0 g) v /\ (r0 g).bel (UU (m0 + nw))) ho hc hT
      ((hM _ w _ hRc hargsR hab).mono fun e w' ⟨v, r, H2, n', C1, he, hn', ⟨g, hφ, hr, hH2, hn2⟩, h1, h2, h3, h4⟩ => ?_) fun v w' ⟨C1, g, hφ, h1, h2, h3, h4⟩ => ?_)
    . subst hr; subst hH2; subst hn2
      exact ⟨v, he, C1, g, hφ, h1, h2, h3, h4⟩
    have hfit := (hF g hφ).fit (nx := nx) hR.toRelH (fun j hj => .inr hj) (fun p hp => rfl) hfr
    obtain ⟨k1, k2, k3⟩ := hR.toRelH.back hfit h1 h2
    obtain ⟨k4, k5⟩ := k3 (r0 g) v h4 h3
    have hRel := (hR.change k2 (fun i hi => .inl hi) k1).put hN k4 k5
    rw [aDh] at hRel
    exact zS l K _ _ _ (h g hφ) ops n0 Q _ _ w' rfl (fun o ho => hd o (A4 _ ho)) og hRel fun E2 H2 nx2 C2 a2 w2 hn2 hR2 hs2 hK2 =>
      hk E2 H2 nx2 C2 a2 w2 hn2 hR2 ((k2.fewerNames (eD hn0)).trans (fun _ h => h) hs2) hK2
  unfold GS at hstep
  have hy : sI (ops.toList.map (·.dst)) a.tmps = yielded ops a.tmps := by funext j; rw [sJ]
  rw [hy] at hstep; exact hstep
def aVt {l : List Oper} {fn : Func} (hg : o.guard = none) (ho : o.op = .call c) (hc : c.callee = .value (.func f)) (hT : FnT P f fn code)
    (hM : uW P f args [] 0 φ r0 (fun _ => []) 0) (hargs : c.args.toList.map (opv E) = args.map some) (hab : aI (UU 0) args) (hb : ∀ g, φ g -> (r0 g).bel (UU 0)) (h : ∀ g, φ g -> lO P ro N ds l K (aU E o.dst (r0 g)) H nx) : qL P ro N ds (o :: l) K E H nx := by
  have hf : FitC H [] [] 0 0 [] := ⟨trivial, E5, (fun i hi => by omega), (fun p hp => by cases hp), (fun p hp => by cases hp), (fun p hp => by cases hp), og⟩
  refine aNp [] hg ho hc hT hM (by rw [aSp, lB]; exact hargs) hab hf (fun _ _ => hf) (.inl rfl) fun g hφ => ?_
  rw [jN, aSp, AV.ren_id]
  exact h g hφ
end
end
section
variable [Globals]
def aRo {j n k sz : Nat} (hj : j < n) (hk : k < sz) : j * sz + k < n * sz := by
  calc j * sz + k < j * sz + sz := by omega
    _ = (j + 1) * sz := by rw [Nat.add_mul, Nat.one_mul]
    _ <= n * sz := D9 _ hj
def yJ {cur cur' : Array Value} {sz n m : Nat} {vals : Nat -> Value} {v : Value} (hv : v.cells.size = sz) (hk : ∀ q, q < n * sz ∨ n * sz + sz <= q -> q < m * sz -> cur'[q]? = cur[q]?) (hn : ∀ k, k < sz -> cur'[n * sz + k]? = v.cells[k]?)
    (h : ∀ j, j < m -> j ≠ n -> (vals j).cells.size = sz /\ ∀ k, k < sz -> cur[0 + j * sz + k]? = (vals j).cells[k]?) : lH cur' 0 sz m (fun j => if j = n then v else vals j) := fun j hj => by
  by_cases e : j = n
  . subst e; simp only [if_true, C3]
    exact ⟨hv, hn⟩
  simp only [if_neg e]
  obtain ⟨h1, h2⟩ := h j hj e
  refine ⟨h1, fun k hk' => ?_⟩
  rw [<- h2 k hk', C3]
  refine hk _ ?_ (aRo hj hk')
  rcases Nat.lt_or_ge j n with h3 | h3
  . exact .inl (aRo h3 hk')
  refine .inr ?_
  calc n * sz + sz = (n + 1) * sz := by rw [Nat.add_mul, Nat.one_mul]
    _ <= j * sz := D9 _ og
    _ <= j * sz + k := by omega
section
variable {P : Program} {w : World}
def aYr {t ty e : TypeId} {sz by' : Nat} {zs : List Value} (hs : cL P t = some (e, some (sz, by'))) (hz : zC P e = some zs) (hzl : zs.length = sz) (h0 : 0 < sz) {ρ : Nat -> Value} {av : Nat -> Prop} {Q : AV -> Prop} {L : Nat} {bs : List Nat} {v u : Value} {y : AV} {val : Value}
    (hv : gR ρ av w.heap e sz Q L bs v) (hbs : ∀ b, b ∈ bs -> av b /\ ∃ o, w.heap[b]? = some o) (hnd : bs.Nodup) (hu : ∃ ad c, u = .slice (some ad) 1 c /\ ∀ k, k < sz -> w.cell? (ad.add k) = some (val.cells.getD k undef)) (hvs : val.cells.size = sz) (h1 : ∀ c ∈ val.cells.toList, c.oneCell' = true)
    (hQ : Q y) (hyb : y.bel fun _ => False) (hyr : Rep ρ av w.heap y val) (hL : L + 1 <= maxLen) (hby : (L + 1) * by' <= 140737488355328) :
    ∃ v' w' bs', (Builtin.append_ #[t, t] ty #[v, u]).run P w = .ok v' w' /\ w.grownBy w' v.ownBlock /\ (∀ b, v.ownBlock = some b -> b ∈ bs) /\ v'.oneCell' = true /\ (∀ b, b ∈ bs' -> b ∈ bs ∨ b = w.heap.size) /\ bs'.Nodup /\ (∀ b, b ∈ bs' -> ∃ o, w'.heap[b]? = some o) /\
      ∀ av' : Nat -> Prop, (∀ b, b < w.heap.size -> av' b -> av b) -> gR ρ av' w'.heap e sz Q (L + 1) bs' v' /\ ∀ v2, gR ρ av w.heap e sz Q L bs v2 -> gR ρ av' w'.heap e sz Q (L + 1) bs' v2 := by
  obtain ⟨ad, c', rfl, hcell⟩ := hu
  obtain ⟨hut, i, hi, hisz, hiby⟩ := gN hs
  obtain ⟨i', z, hi', hzz, hzc⟩ := uN hz
  rw [hi] at hi'
  cases hi'
  have hzs : z.cells.size = sz := by rw [<- hzl, hzc]; simp
  subst hisz; subst hiby
  have hnl : val.cells.toList.length = 1 * i.size := by simp [hvs]
  have hnews : ∀ q x, val.cells.toList[q]? = some x -> w.cell? (ad.add q) = some x := fun q x hq => by
    have hql := (B2.1 hq).1
    rw [hnl, Nat.one_mul] at hql; rw [hcell q hql, <- hq, D8, B5, D4 og]; rfl
  have hbl : ∀ b, b ∈ bs -> b < w.heap.size := fun b hb => let ⟨_, o, ho⟩ := hbs b hb; ltB ho
  have grown : ∀ (n old : Nat) (olds : List Value) (vals : Nat -> Value) (cur : Array Value) (row : Option Nat), n <= L -> olds.length = n * i.size -> (∀ q, q < n * i.size -> olds[q]? = cur[q]?) -> lH cur 0 i.size n vals -> (∀ j, j < n -> ∃ x, Q x /\ x.bel (fun _ => False) /\ Rep ρ av w.heap x (vals j)) ->
      let w' := w.drew.alloc (.cells (olds.toArray ++ val.cells.toList.toArray ++ Builtin.zeroCells z.cells (grownCap w (n + 1) old e - (n + 1))) e)
      w.grownBy w' row /\ (∀ b, b ∈ w.heap.size :: bs -> ∃ o, w'.heap[b]? = some o) /\ ∀ av' : Nat -> Prop, (∀ b, b < w.heap.size -> av' b -> av b) -> gR ρ av' w'.heap e i.size Q (L + 1) (w.heap.size :: bs) (.slice (some ⟨w.heap.size, 0, none⟩) (n + 1) (grownCap w (n + 1) old e)) /\
        ∀ v2, gR ρ av w.heap e i.size Q L bs v2 -> gR ρ av' w'.heap e i.size Q (L + 1) (w.heap.size :: bs) v2 := by
    intro n old olds vals cur row hn hol hoc hcur hel w'
    have hold : ∀ k, k < w.heap.size -> w'.heap[k]? = w.heap[k]? := fun k hk => by first | exact heap_alloc_old w.drew _ hk | exact heap_alloc_old w.drew _ k hk
    have hge := grownCap_ge w (n + 1) old e
    have hcm : grownCap w (n + 1) old e <= maxLen := grownCap_le_maxLen w (n + 1) old e og
    refine ⟨⟨rfl, rfl, rfl, by simp [w'], fun k hk _ => hold k hk⟩, fun b hb => ?_, fun av' hav => ⟨.inr ⟨w.heap.size, n + 1, _, _, (fun j => if j = n then val else vals j), rfl, A3, og, hge, hcm, heap_alloc_new w.drew _, ?_, ?_, fun j hj => ?_⟩, fun v2 h2 => ?_⟩⟩
    . rcases A8.1 hb with rfl | hb
      . exact ⟨_, heap_alloc_new w.drew _⟩
      obtain ⟨_, o, ho⟩ := hbs b hb
      exact ⟨o, (hold b (ltB ho)).trans ho⟩
    . simp only [Array.size_append, List.size_toArray, size_zeroCells, hzs, hol, hnl, Nat.one_mul]; rw [Nat.sub_mul, Nat.add_mul, Nat.one_mul]
      have : (n + 1) * i.size <= grownCap w (n + 1) old e * i.size := D9 _ hge
      rw [Nat.add_mul, Nat.one_mul] at this; omega
    . refine yJ (cur := cur) hvs (fun q hq hm => ?_) (fun k hk => ?_) (fun j hj hne => hcur j og)
      . rw [Nat.add_mul, Nat.one_mul] at hm
        have hq' : q < n * i.size := by omega
        rw [<- hoc q hq', Array.append_assoc, Array.getElem?_append_left (by simp [hol]; exact hq'), List.getElem?_toArray]
      rw [Array.append_assoc, Array.getElem?_append_right (by simp [hol]), List.size_toArray, hol, Nat.add_sub_cancel_left, Array.getElem?_append_left (by simp; omega)]
    . by_cases e1 : j = n
      . simp only [if_pos e1]
        exact ⟨y, hQ, hyb, hyr.mono hav (fun b hb _ => hold b hb)⟩
      simp only [if_neg e1]
      obtain ⟨x, g1, g2, g3⟩ := hel j og
      exact ⟨x, g1, g2, g3.mono hav (fun b hb _ => hold b hb)⟩
    rcases h2.mono' (hp' := w'.heap) hav (fun b _ _ _ hb _ => hold b (ltB hb)) (fun b hb => hold b (hbl b hb)) with h | ⟨b, n2, c2, cells, qF, k1, k2, k3, k4, k5, k6, k7, k8, k9⟩
    . exact .inl h
    exact .inr ⟨b, n2, c2, cells, qF, k1, A4 _ k2, og, k4, k5, k6, k7, k8, k9⟩
  have hnd2 : (w.heap.size :: bs).Nodup := C7.2 ⟨fun hb => absurd (hbl _ hb) (Nat.lt_irrefl _), hnd⟩
  rcases hv with rfl | ⟨g, n, cap, cur, vals, rfl, hgb, hnL, hnc, hcm, hg, hcs, hca, hel⟩
  . have hr := run_append_nil (P := P) w t ty e i z hut hi hzz ad 1 c' val.cells.toList hnl hnews og og (by have := D9 i.bytes (show 1 <= L + 1 by omega); omega)
    have hgr := grown 0 0 [] (fun _ => undef) #[] (Value.ownBlock (.slice none 0 0)) (A5 _) oS (fun q hq => by simp at hq) (fun j hj => by omega) (fun j hj => by omega)
    simp only [C3, List.nil_append, Array.empty_append] at hgr
    exact ⟨_, _, _, hr, hgr.1, fun b hb => by simp [Value.ownBlock] at hb, rfl, fun b hb => (A8.1 hb).symm, hnd2, hgr.2.1, hgr.2.2⟩
  have hob : ∀ b, Value.ownBlock (.slice (some ⟨g, 0, none⟩) n cap) = some b -> b ∈ bs := fun b hb => by
    simp only [Value.ownBlock, B9] at hb
    rw [<- hb]; exact hgb
  have hlt : n * i.size <= cur.size := by rw [hcs]; exact D9 _ hnc
  by_cases hroom : n + 1 <= cap
  . have hfit : n * i.size + val.cells.toList.length <= cur.size := by
      rw [hnl, hcs, <- Nat.add_mul]; exact D9 _ hroom
    have hr := run_append_room (P := P) w t ty e i hut hi g n cap cur hg ad 1 c' val.cells.toList hnl hnews h1 hroom hfit
    have hheap : (w.setRow g (cur.toList.take (n * i.size) ++ val.cells.toList ++ cur.toList.drop (n * i.size + val.cells.toList.length)).toArray).heap[g]? = some (.cells (bM cur.toList (n * i.size) val.cells.toList).toArray e (0, 0)) := setRow_heap w g cur _ e _ hg
    have hoth : ∀ k, k ≠ g -> (w.setRow g (cur.toList.take (n * i.size) ++ val.cells.toList ++ cur.toList.drop (n * i.size + val.cells.toList.length)).toArray).heap[k]? = w.heap[k]? := fun k hk => setRow_other w g k _ hk
    have hsize : (w.setRow g (cur.toList.take (n * i.size) ++ val.cells.toList ++ cur.toList.drop (n * i.size + val.cells.toList.length)).toArray).heap.size = w.heap.size := by simp
    generalize hw' : w.setRow g (cur.toList.take (n * i.size) ++ val.cells.toList ++ cur.toList.drop (n * i.size + val.cells.toList.length)).toArray = w' at hr hheap hoth hsize
    have hgrow : w.grownBy w' (Value.ownBlock (.slice (some ⟨g, 0, none⟩) n cap)) := by
      rw [<- hw']
      exact ⟨rfl, rfl, rfl, by simp, fun k _ hk => setRow_other w g k _ (fun e => hk (by simp [Value.ownBlock, e]))⟩
    have hget : ∀ q, (bM cur.toList (n * i.size) val.cells.toList).toArray[q]? = if q < n * i.size then cur[q]? else if q < n * i.size + i.size then val.cells[q - n * i.size]? else cur[q]? := fun q => by
      rw [List.getElem?_toArray, lA _ _ _ (by simpa using hfit), hnl, Nat.one_mul]
      simp
    have hkeep : ∀ m q, q < n * i.size ∨ n * i.size + i.size <= q -> q < m * i.size -> (bM cur.toList (n * i.size) val.cells.toList).toArray[q]? = cur[q]? := fun m q hq _ => by
      rw [hget]
      rcases hq with hq | hq
      . rw [if_pos hq]
      rw [if_neg og, if_neg og]
    have hnew : ∀ k, k < i.size -> (bM cur.toList (n * i.size) val.cells.toList).toArray[n * i.size + k]? = val.cells[k]? := fun k hk => by
      rw [hget, if_neg og, if_pos og, Nat.add_sub_cancel_left]
    have hcs' : (bM cur.toList (n * i.size) val.cells.toList).toArray.size = cap * i.size := by
      rw [List.size_toArray, iM _ _ _ (by simpa using hfit), Array.length_toList, hcs]
    have hmono : ∀ {av' : Nat -> Prop}, (∀ b, b < w.heap.size -> av' b -> av b) -> ∀ {x : AV} {u : Value}, Rep ρ av w.heap x u -> Rep ρ av' w'.heap x u := fun hav x u hr => hr.mono' hav fun b _ _ _ _ hnb => hoth b fun e => hnb (by rw [e]; exact (hbs g hgb).1)
    refine ⟨_, _, bs, hr, hgrow, hob, rfl, fun b hb => .inl hb, hnd, fun b hb => ?_, fun av' hav => ⟨.inr ⟨g, n + 1, cap, _, (fun j => if j = n then val else vals j), rfl, hgb, og, hroom, hcm, hheap, hcs', yJ (cur := cur) hvs (hkeep _) hnew (fun j hj hne => hca j og), fun j hj => ?_⟩, fun v2 h2 => ?_⟩⟩
    . obtain ⟨_, o, ho⟩ := hbs b hb
      by_cases e : b = g
      . exact ⟨_, by rw [e]; exact hheap⟩
      exact ⟨o, (hoth b e).trans ho⟩
    . by_cases e1 : j = n
      . simp only [if_pos e1]
        exact ⟨y, hQ, hyb, hmono hav hyr⟩
      simp only [if_neg e1]
      obtain ⟨x, g1, g2, g3⟩ := hel j og
      exact ⟨x, g1, g2, hmono hav g3⟩
    rcases h2 with rfl | ⟨b, n2, c2, cells, qF, rfl, k2, k3, k4, k5, k6, k7, k8, k9⟩
    . exact .inl rfl
    by_cases e : b = g
    . subst e; rw [hg] at k6; cases k6
      have hcc : c2 * i.size = cap * i.size := by rw [<- k7, hcs]
      refine .inr ⟨b, n2, c2, _, (fun j => if j = n then val else qF j), rfl, k2, og, k4, k5, hheap, by rw [hcs', hcc], yJ (cur := cur) hvs (hkeep _) hnew (fun j hj _ => k8 j hj), fun j hj => ?_⟩
      by_cases e1 : j = n
      . simp only [if_pos e1]
        exact ⟨y, hQ, hyb, hmono hav hyr⟩
      simp only [if_neg e1]
      obtain ⟨x, g1, g2, g3⟩ := k9 j hj
      exact ⟨x, g1, g2, hmono hav g3⟩
    exact .inr ⟨b, n2, c2, cells, qF, rfl, k2, og, k4, k5, (hoth b e).trans k6, k7, k8, fun j hj => let ⟨x, g1, g2, g3⟩ := k9 j hj; ⟨x, g1, g2, hmono hav g3⟩⟩
  . have hol : (cur.toList.take (n * i.size)).length = n * i.size := by simp; omega
    have hoc : ∀ q, q < n * i.size -> (cur.toList.take (n * i.size))[q]? = cur[q]? := fun q hq => by rw [G1, if_pos hq, D8]
    have holds : ∀ j u, (cur.toList.take (n * i.size))[j]? = some u -> w.cell? ((⟨g, 0, none⟩ : Addr).add j) = some u := fun j u hj => by
      have hjl := (B2.1 hj).1
      rw [hol] at hjl; rw [jV, cell_of_row w g _ cur e (0, 0) hg, C3, <- hoc j hjl, hj]
    have hr := run_append_grow (P := P) w t ty e i z hut hi hzz ⟨g, 0, none⟩ n cap _ hol holds ad 1 c' val.cells.toList hnl hnews og (by simp only [maxLen] at hL; omega) (growslice_fits og (by have := D9 i.bytes (show n + 1 <= L + 1 by omega); omega))
    have hgr := grown n cap _ vals cur (Value.ownBlock (.slice (some ⟨g, 0, none⟩) n cap)) hnL hol hoc hca hel
    exact ⟨_, _, _, hr, hgr.1, hob, rfl, fun b hb => (A8.1 hb).symm, hnd2, hgr.2.1, hgr.2.2⟩
end
end
section
variable [Globals]
variable {e sz L i e0 : Nat} {ob ob' : AObj}
section
variable {P : Program} {ro : Option Nat} {N n0 : Nat} {o : Oper} {E : Env} {H : Heap} {nx b0 : Nat} {ds : List (Option Tmp)} {U : Nat -> Prop} {Q : AQ} {c : Code}
def Rel.tell {C : Conc} {a : Act} {w : World} (hR : Rel C N E H U a w) {w' : World} {U' : Nat -> Prop} {own k : List Nat} {ρ' : Nat -> Value} (hi : get H i = some ob) (hik : i ∉ k) (hk : ∀ j ∈ k, ∃ o, get H j = some o)
    (ho : w'.os = w.os) (ht : w'.tape = w.tape) (hout : w'.output = w.output) (hsz : w.heap.size <= w'.heap.size) (hkeep : ∀ b, b < w.heap.size -> b ∉ C.own i -> w'.heap[b]? = w.heap[b]?)
    (hown : ∀ b, b ∈ own -> b ∈ C.own i ∨ (∃ j ∈ k, b ∈ C.own j) ∨ w.heap.size <= b) (hU : ∀ j, U j -> U' j) (hρ : ∀ j, U j -> ρ' j = C.ρ j) (hone : ∀ j, (ρ' j).oneCell' = true) (hb : ob'.bel U')
    (hrep : ∀ av' : Nat -> Prop, (∀ b, b < w.heap.size -> av' b -> C.X b ∨ (∃ j o, j ≠ i /\ j ∉ k /\ get H j = some o /\ b ∈ C.own j) ∨ b ∈ own) -> cR ρ' av' w'.heap own ob' (C.ρ i)) :
    ∃ C', C'.ρ = ρ' /\ Rel C' N E (over H ((i, ob') :: cA k)) U' a w' /\ StepR C H U w C' (over H ((i, ob') :: cA k)) w' := by
  classical
  let C' : Conc := { C with ρ := ρ', one := hone, own := fun j => if j = i then own else if j ∈ k then [] else C.own j }
  have own_i : C'.own i = own := by simp [C']
  have own_k : ∀ j, j ≠ i -> j ∈ k -> C'.own j = [] := fun j h1 h2 => by simp [C', h1, h2]
  have own_o : ∀ j, j ≠ i -> j ∉ k -> C'.own j = C.own j := fun j h1 h2 => by simp [C', h1, h2]
  have hcase : ∀ j o', get (over H ((i, ob') :: cA k)) j = some o' -> (j = i /\ o' = ob') ∨ (j ≠ i /\ j ∈ k /\ o' = .dead) ∨ (j ≠ i /\ j ∉ k /\ get H j = some o') := fun j o' hj => by
    rw [cJ, show get ((i, ob') :: cA k) j = if i = j then some ob' else get (cA k) j from rfl] at hj
    by_cases e : i = j
    . rw [if_pos e] at hj; cases hj
      exact .inl ⟨e.symm, rfl⟩
    rw [if_neg e, aGe] at hj
    by_cases hm : j ∈ k
    . rw [if_pos hm] at hj; cases hj
      exact .inr (.inl ⟨fun e' => e e'.symm, hm, rfl⟩)
    rw [if_neg hm] at hj
    exact .inr (.inr ⟨fun e' => e e'.symm, hm, hj⟩)
  have hkW : ∀ j ∈ k, ∀ b, b ∈ C.own j -> C.W H b := fun j hj b hb => let ⟨o', ho'⟩ := hk j hj; ⟨j, o', ho', hb⟩
  have hs : StepR C H U w C' (over H ((i, ob') :: cA k)) w' :=
    { os := ho, tape := ht, output := hout, size := hsz
      keep := fun b hb hn => hkeep b hb fun hbi => hn ⟨i, ob, hi, hbi⟩
      wr := fun b ⟨j, o', hj, hb'⟩ => by
        rcases hcase j o' hj with ⟨rfl, _⟩ | ⟨h1, h2, _⟩ | ⟨h1, h2, h3⟩
        . rw [own_i] at hb'
          rcases hown b hb' with h | ⟨q, hq, hb2⟩ | h
          . exact .inl ⟨j, ob, hi, h⟩
          . exact .inl (hkW q hq b hb2)
          exact .inr h
        . rw [own_k j h1 h2] at hb'; cases hb'
        rw [own_o j h1 h2] at hb'; exact .inl ⟨j, o', h3, hb'⟩
      X := rfl, B := rfl, ρ := fun j hj => hρ j hj }
  have hav : ∀ b, b < w.heap.size -> C'.avoid (over H ((i, ob') :: cA k)) b -> C.X b ∨ (∃ j o, j ≠ i /\ j ∉ k /\ get H j = some o /\ b ∈ C.own j) ∨ b ∈ own := fun b hb hq => by
    rcases hq with hq | ⟨j, o', hj, hb'⟩
    . exact .inl hq
    rcases hcase j o' hj with ⟨rfl, _⟩ | ⟨h1, h2, _⟩ | ⟨h1, h2, h3⟩
    . rw [own_i] at hb'; exact .inr (.inr hb')
    . rw [own_k j h1 h2] at hb'; cases hb'
    rw [own_o j h1 h2] at hb'; exact .inr (.inl ⟨j, o', h1, h2, h3, hb'⟩)
  have hRH : RelH C' (over H ((i, ob') :: cA k)) U' w' := by
    refine hR.toRelH.change hs hU (fun j o' hj => ?_) (fun p q op oq b hne hp hq hbp hbq => ?_)
    . rcases hcase j o' hj with ⟨rfl, rfl⟩ | ⟨h1, h2, rfl⟩ | ⟨h1, h2, h3⟩
      . refine .inr ⟨?_, hU _ (hR.objb j ob hi).1, hb⟩
        rw [own_i, show C'.ρ j = C.ρ j from hρ j (hR.objb j ob hi).1]
        exact hrep _ hav
      . obtain ⟨o2, ho2⟩ := hk j h2
        exact .inr ⟨own_k j h1 h2, hU _ (hR.objb j o2 ho2).1, trivial⟩
      exact .inl ⟨(hR.objb j o' h3).1, h3, own_o j h1 h2, fun b hb' => hkeep b ((hR.obj j o' h3).own_lt b hb') fun hbi => hR.apart j i o' ob b h1 h3 hi hb' hbi⟩
    have key : ∀ p q op oq, p ≠ q -> get (over H ((i, ob') :: cA k)) p = some op -> get (over H ((i, ob') :: cA k)) q = some oq -> p = i -> b ∈ C'.own p -> b ∈ C'.own q -> False := fun p q op oq hne hp hq e hbp hbq => by
      subst e; rw [own_i] at hbp
      rcases hcase q oq hq with ⟨h1, _⟩ | ⟨h1, h2, _⟩ | ⟨h1, h2, h3⟩
      . exact hne h1.symm
      . rw [own_k q h1 h2] at hbq; cases hbq
      rw [own_o q h1 h2] at hbq
      rcases hown b hbp with h | ⟨r, hr, hb2⟩ | h
      . exact hR.apart q p oq ob b h1 h3 hi hbq h
      . obtain ⟨o2, ho2⟩ := hk r hr
        exact hR.apart q r oq o2 b (fun e => h2 (e ▸ hr)) h3 ho2 hbq hb2
      have := (hR.obj q oq h3).own_lt b hbq; omega
    rcases hcase p op hp with ⟨h1, _⟩ | ⟨h1, h2, _⟩ | ⟨h1, h2, h3⟩
    . exact key p q op oq hne hp hq h1 hbp hbq
    . rw [own_k p h1 h2] at hbp; cases hbp
    rcases hcase q oq hq with ⟨h1', _⟩ | ⟨h1', h2', _⟩ | ⟨h1', h2', h3'⟩
    . exact key q p oq op hne.symm hq hp h1' hbq hbp
    . rw [own_k q h1' h2'] at hbq; cases hbq
    rw [own_o p h1 h2] at hbp; rw [own_o q h1' h2'] at hbq
    exact hR.apart p q op oq b hne h3 h3' hbp hbq
  exact ⟨C', rfl, hR.change hs hU hRH, hs⟩
def aUy {nw i : Nat} (hn : nx + nw <= 1000) (hi : get H i = some ob) (hb : ob.bel (UU nx) -> ob'.bel (UU (nx + nw)))
    (hrep : ∀ (C : Conc) (w : World), RelH C H (UU nx) w -> ∃ own ρ', (∀ b, b ∈ own -> b ∈ C.own i) /\ (∀ j, UU nx j -> ρ' j = C.ρ j) /\ (∀ j, (ρ' j).oneCell' = true) /\
      ∀ av' : Nat -> Prop, (∀ b, b < w.heap.size -> av' b -> C.X b ∨ (∃ j o, j ≠ i /\ get H j = some o /\ b ∈ C.own j) ∨ b ∈ own) -> cR ρ' av' w.heap own ob' (C.ρ i))
    (h : AWP P ro N n0 c Q E (put H i ob') (nx + nw)) : AWP P ro N n0 c Q E H nx := by
  intro C a w Qc hn0 hR hK
  obtain ⟨own, ρ', h1, h2, h3, h4⟩ := hrep C w hR.toRelH
  obtain ⟨C', _, hR', hs⟩ := hR.tell (w' := w) (U' := UU (nx + nw)) (k := []) (ob' := ob') hi oS oS rfl rfl rfl (A0 _) (fun _ _ _ => rfl) (fun b hb => .inl (h1 b hb)) (eD (Nat.le_add_right _ _)) h2 h3 (hb (hR.objb i ob hi).2)
    (fun av' hav => h4 av' fun b hb hq => by
      rcases hav b hb hq with h | ⟨j, o, h5, _, h6, h7⟩ | h
      . exact .inl h
      . exact .inr (.inl ⟨j, o, h5, h6, h7⟩)
      exact .inr (.inr h))
  exact h C' a w Qc (F6 hn0 (Nat.le_add_right _ _)) hR' fun e1 E1 H1 nx1 C1 a1 w1 hn1 hR1 hs1 hQ => hK e1 E1 H1 nx1 C1 a1 w1 hn1 hR1 ((hs.fewerNames (eD hn0)).trans (fun _ h => h) hs1) hQ
def aYd (i : Nat) {W : AV -> Prop} {yss : List (List AV)} (hn : nx + yss.length <= 1000) (hne : 0 < yss.length) (hi : get H i = some (.row e0 1 (yss.map (.own e sz)))) (hQ : ∀ ys ∈ yss, ys.length <= L /\ ∀ y ∈ ys, W y.fz /\ y.fz.bel fun _ => False)
    (h : AWP P ro N n0 c Q E (put H i (.pool e0 e sz W L ((List.range yss.length).map (nx + ·)) [])) (nx + yss.length)) : AWP P ro N n0 c Q E H nx := by
  refine aUy (ob' := .pool e0 e sz W L ((List.range yss.length).map (nx + ·)) []) hn hi (fun _ => show (∀ j, j ∈ (List.range yss.length).map (nx + ·) -> _) /\ ∀ j, j ∈ [] -> _ from ⟨fun j hj => ?_, fun j hj => by cases hj⟩) (fun C w hR => ?_) h
  . obtain ⟨q, hq, rfl⟩ := A9.1 hj
    exact .inl (by have := List.mem_range.1 hq; omega)
  obtain ⟨hO, hnd⟩ := hR.obj i _ hi
  rcases hO.row_inv with ⟨h1, _⟩ | ⟨b, c0, cells, vals, ows, hval, hown, hh, hcs, hc, hm, hrep, hcells⟩
  . rw [List.map_eq_nil_iff] at h1; rw [h1] at hne; cases hne
  rw [A6] at hval hown hc hcells
  rw [hown] at hnd
  obtain ⟨hnd1, hnd2⟩ := C7.1 hnd
  obtain ⟨hf1, hf2⟩ := aV.1 hnd2
  have hin : ∀ j (hj : j < yss.length), RepO C.ρ (C.avoid H) w.heap (.own e sz yss[j]) (vals j) (ows j) := fun j hj => hrep j _ (by rw [B4, A1 hj]; rfl)
  have hsub : ∀ b', b' ∈ bA yss.length (fun j => (ows j).take 1) -> ∃ j, j < yss.length /\ b' ∈ (ows j).take 1 /\ b' ∈ ows j := fun b' hb => by
    obtain ⟨j, hj, hb⟩ := mFl.1 hb
    exact ⟨j, hj, hb, D1 hb⟩
  have hone1 : ∀ j, j < yss.length -> (vals j).oneCell' = true := fun j hj => by
    rcases (hin j hj).row_inv with ⟨_, hv, _⟩ | ⟨_, _, _, _, _, hv, _⟩ <;> rw [hv] <;> rfl
  refine ⟨b :: bA yss.length (fun j => (ows j).take 1), fun q => if nx <= q /\ q < nx + yss.length then vals (q - nx) else C.ρ q, fun b' hb => ?_, fun j hj => ?_, fun j => ?_, fun av' hav => ?_⟩
  . rw [hown]
    rcases A8.1 hb with rfl | hb
    . exact A3
    obtain ⟨j, hj, _, hb⟩ := hsub b' hb
    exact A4 _ (mFl.2 ⟨j, hj, hb⟩)
  . show (if nx <= j /\ j < nx + yss.length then vals (j - nx) else C.ρ j) = _
    rw [if_neg]; rcases hj with hj | hj <;> omega
  . show (if _ then _ else _ : Value).oneCell' = true
    split
    . exact hone1 _ og
    exact C.one j
  have hav2 : ∀ b', b' < w.heap.size -> av' b' -> C.avoid H b' := fun b' hb hq => by
    rcases hav b' hb hq with h | ⟨j, o, _, h5, h6⟩ | h
    . exact .inl h
    . exact .inr ⟨j, o, h5, h6⟩
    refine .inr ⟨i, _, hi, ?_⟩
    rw [hown]
    rcases A8.1 h with rfl | h
    . exact A3
    obtain ⟨j, hj, _, hb⟩ := hsub b' h
    exact A4 _ (mFl.2 ⟨j, hj, hb⟩)
  have hl : ((List.range yss.length).map (nx + ·)).length = yss.length := by simp
  refine ⟨b, c0, cells, bA yss.length (fun j => (ows j).take 1), by rw [hl]; exact hval, rfl, ?_, hh, by rw [hcs, Nat.mul_one], by rw [hl]; exact hc, hm, fun b' hb => ?_, fun j q hj => ?_, fun q hq => ?_, fun q hq => by cases hq⟩
  . refine C7.2 ⟨fun hb => ?_, aV.2 ⟨fun j hj => (hf1 j hj).sublist (List.take_sublist _ _), fun p q hp hq hne b' hb hb' => hf2 p q hp hq hne b' (D1 hb) (D1 hb')⟩⟩
    obtain ⟨j, hj, _, hb⟩ := hsub b hb
    exact hnd1 (mFl.2 ⟨j, hj, hb⟩)
  . obtain ⟨j, hj, _, hb⟩ := hsub b' hb
    have := (hin j hj).own_lt b' hb
    exact ⟨_, D4 this⟩
  . rw [B4] at hj
    obtain ⟨q', hq', rfl⟩ := B3.1 hj
    have hjl := (B2.1 hq').1
    rw [D7] at hjl
    rw [C6 hjl] at hq'
    cases hq'
    have h7 := (hcells j hjl).2 0 og
    rw [Nat.mul_one, C3, Nat.add_zero, dF (hone1 j hjl)] at h7; rw [h7]
    show _ = some (if nx <= nx + j /\ nx + j < nx + yss.length then vals (nx + j - nx) else C.ρ (nx + j))
    rw [if_pos og, Nat.add_sub_cancel_left]; rfl
  obtain ⟨j, hj, rfl⟩ := A9.1 hq
  have hjl := List.mem_range.1 hj
  show gR _ av' w.heap e sz W L _ (if _ then _ else _)
  rw [if_pos og, Nat.add_sub_cancel_left]
  have hQj := hQ yss[j] (C9 hjl)
  rcases (hin j hjl).row_inv with ⟨_, hv, _⟩ | ⟨b2, c2, cells2, qF, ows2, hv, ho2, hh2, hcs2, hc2, hm2, hrep2, hcells2⟩
  . exact .inl hv
  refine .inr ⟨b2, yss[j].length, c2, cells2, qF, hv, mFl.2 ⟨j, hjl, by rw [ho2]; simp⟩, hQj.1, hc2, hm2, hh2, hcs2, hcells2, fun q hq => ?_⟩
  obtain ⟨hw1, hw2⟩ := hQj.2 _ (C9 hq)
  refine ⟨_, hw1, hw2, Rep.named (ρ := C.ρ) (U := fun _ => False) (fun _ h => h.elim) (RepO.fz ((hrep2 q _ (A1 hq)).mono' (av' := av') hav2 (fun _ _ _ _ _ _ => rfl) (fun _ _ => rfl)) fun b3 hb3 hq3 => ?_) hw2⟩
  have hb3j : b3 ∈ ows j := by rw [ho2]; exact A4 _ (mFl.2 ⟨q, hq, hb3⟩)
  have hb3i : b3 ∈ C.own i := by rw [hown]; exact A4 _ (mFl.2 ⟨j, hjl, hb3j⟩)
  rcases hav b3 ((hin j hjl).own_lt b3 hb3j) hq3 with h | ⟨j', o, h4, h5, h6⟩ | h
  . exact hR.xapart i _ b3 hi hb3i h
  . exact hR.apart j' i o _ b3 h4 h5 hi h6 hb3i
  rcases A8.1 h with rfl | h
  . exact hnd1 (mFl.2 ⟨j, hjl, hb3j⟩)
  obtain ⟨j', hj', ht, hb'⟩ := hsub b3 h
  by_cases e : j' = j
  . subst e; rw [ho2] at ht; simp at ht
    have := hf1 j' hjl
    rw [ho2] at this
    exact (C7.1 this).1 (by rw [<- ht]; exact mFl.2 ⟨q, hq, hb3⟩)
  exact hf2 j' j hj' hjl e b3 hb' hb3j
def gR.mono_L {ρ : Nat -> Value} {av : Nat -> Prop} {hp : Array Obj} {W : AV -> Prop} {L L' : Nat} {bs : List Nat} {v : Value} (h : gR ρ av hp e sz W L bs v) (hL : L <= L') : gR ρ av hp e sz W L' bs v := by
  rcases h with h | ⟨b, n, c, cells, vals, h1, h2, h3, h4, h5, h6, h7, h8, h9⟩
  . exact .inl h
  exact .inr ⟨b, n, c, cells, vals, h1, h2, og, h4, h5, h6, h7, h8, h9⟩
def zB (i : Nat) {W : AV -> Prop} (L' : Nat) {lv more : List Nat} (more' : List Nat) (hi : get H i = some (.pool e0 e sz W L lv more)) (hL : L <= L') (hm : ∀ j ∈ more', j ∈ lv ∨ j ∈ more)
    (h : AWP P ro N n0 c Q E (put H i (.pool e0 e sz W L' lv more')) nx) : AWP P ro N n0 c Q E H nx := by
  by_cases hn : nx <= 1000
  . refine aUy (nw := 0) (ob' := .pool e0 e sz W L' lv more') og hi (fun hb => show (∀ j, j ∈ lv -> _) /\ ∀ j, j ∈ more' -> _ from ⟨hb.1, fun j hj => (hm j hj).elim (hb.1 j) (hb.2 j)⟩) (fun C w hR => ?_) h
    refine ⟨C.own i, C.ρ, fun _ h => h, fun _ _ => rfl, C.one, fun av' hav => ?_⟩
    have hO := (hR.obj i _ hi).mono' (av' := av') (hp' := w.heap) (fun b hb hq => by
      rcases hav b hb hq with h | ⟨j, o, _, h5, h6⟩ | h
      . exact .inl h
      . exact .inr ⟨j, o, h5, h6⟩
      exact .inr ⟨i, _, hi, h⟩) (fun _ _ _ _ _ _ => rfl) (fun _ _ => rfl)
    obtain ⟨b1, c0, cells0, bs, h1, h0, h2, h3, h4, h5, h6, h7, h8, h9, h10⟩ := hO
    exact ⟨b1, c0, cells0, bs, h1, h0, h2, h3, h4, h5, h6, h7, h8, fun j hj => (h9 j hj).mono_L hL, fun j hj => ((hm j hj).elim (h9 j) (h10 j)).mono_L hL⟩
  intro C a w Qc hn0 hR hK
  obtain ⟨C', _, hR', hs⟩ := hR.tell (w' := w) (U' := UU nx) (k := []) (own := C.own i) (ob' := .pool e0 e sz W L' lv more') hi oS oS rfl rfl rfl (A0 _) (fun _ _ _ => rfl) (fun b hb => .inl hb) (fun _ h => h) (fun _ _ => rfl) C.one
    (show (∀ j, j ∈ lv -> _) /\ ∀ j, j ∈ more' -> _ from let hb := (hR.objb i _ hi).2; ⟨hb.1, fun j hj => (hm j hj).elim (hb.1 j) (hb.2 j)⟩) (fun av' hav => by
    have hO := (hR.obj i _ hi).mono' (av' := av') (hp' := w.heap) (fun b hb hq => by
      rcases hav b hb hq with h | ⟨j, o, _, _, h5, h6⟩ | h
      . exact .inl h
      . exact .inr ⟨j, o, h5, h6⟩
      exact .inr ⟨i, _, hi, h⟩) (fun _ _ _ _ _ _ => rfl) (fun _ _ => rfl)
    obtain ⟨b1, c0, cells0, bs, h1, h0, h2, h3, h4, h5, h6, h7, h8, h9, h10⟩ := hO
    exact ⟨b1, c0, cells0, bs, h1, h0, h2, h3, h4, h5, h6, h7, h8, fun j hj => (h9 j hj).mono_L hL, fun j hj => ((hm j hj).elim (h9 j) (h10 j)).mono_L hL⟩)
  exact h C' a w Qc hn0 hR' fun e1 E1 H1 nx1 C1 a1 w1 hn1 hR1 hs1 hQ => hK e1 E1 H1 nx1 C1 a1 w1 hn1 hR1 ((hs.fewerNames (eD hn0)).trans (fun _ h => h) hs1) hQ
end
end
section
variable [Globals]
variable {e sz L t e' i j m by' : Nat} {lv more : List Nat} {x y : Operand}
section
variable {P : Program} {ro : Option Nat} {N n0 : Nat} {o : Oper} {E : Env} {H : Heap} {nx b0 : Nat} {ds : List (Option Tmp)} {U : Nat -> Prop} {Q : AQ} {c : Code}
def aWs (i : Nat) {e0 e sz : Nat} {W : AV -> Prop} (hn : nx <= 1000) (hi : get H i = some (.pool e0 e sz W L lv more))
    (h : ∀ yss : List (List AV), yss.length = lv.length -> (∀ ys ∈ yss, ys.length <= L /\ ∀ y ∈ ys, W y) -> AWP P ro N n0 c Q E (put H i (.row e0 1 (yss.map (.sl sz)))) nx) : AWP P ro N n0 c Q E H nx := by
  intro C a w Qc hn0 hR hK
  have key : ∃ yss : List (List AV), yss.length = lv.length /\ (∀ ys ∈ yss, ys.length <= L /\ ∀ y ∈ ys, W y) /\ (AObj.row e0 1 (yss.map (.sl sz))).bel (UU nx) /\ ∃ own, (∀ b, b ∈ own -> b ∈ C.own i) /\
      ∀ av' : Nat -> Prop, (∀ b, b < w.heap.size -> av' b -> C.X b ∨ (∃ j o, j ≠ i /\ j ∉ ([] : List Nat) /\ get H j = some o /\ b ∈ C.own j) ∨ b ∈ own) -> cR C.ρ av' w.heap own (.row e0 1 (yss.map (.sl sz))) (C.ρ i) := by
    obtain ⟨b1, c0, cells0, bs, h1, h0, h2, h3, h4, h5, h6, h7, h8, h9, h10⟩ := hR.obj i _ hi
    have hbel := (hR.objb i _ hi).2
    have hcell : ∀ j, j < lv.length -> ∃ q, lv[j]? = some q /\ q ∈ lv := fun j hj => ⟨lv[j], A1 hj, C9 hj⟩
    have one : ∀ q, q ∈ lv -> ∃ ys : List AV, (ys.length <= L /\ ∀ y ∈ ys, W y) /\ aI (fun _ => False) ys /\ ∀ av' : Nat -> Prop, (∀ b, b < w.heap.size -> av' b -> C.avoid H b) -> (∀ b, b ∈ bs -> ¬ av' b) -> Rep C.ρ av' w.heap (.sl sz ys) (C.ρ q) := fun q hq => by
      rcases h9 q hq with hv | ⟨b, n, cp, cells, vals, hv, k2, k3, k4, k5, k6, k7, k8, k9⟩
      . exact ⟨[], ⟨by simp, by simp⟩, trivial, fun av' _ _ => by rw [hv]; exact .sl0 _ _ _ (A5 _)⟩
      have hch : ∃ f : Nat -> AV, ∀ j, j < n -> W (f j) /\ (f j).bel (fun _ => False) /\ Rep C.ρ (C.avoid H) w.heap (f j) (vals j) := by
        classical
        exact ⟨fun j => if hj : j < n then Classical.choose (k9 j hj) else default, fun j hj => by simp only [dif_pos hj]; exact Classical.choose_spec (k9 j hj)⟩
      obtain ⟨f, hf⟩ := hch
      have hl : ((List.range n).map f).length = n := by simp
      have hget : ∀ (j : Nat) (x : AV), ((List.range n).map f)[j]? = some x -> j < n /\ x = f j := fun j x hj => by
        have hjl := (B2.1 hj).1
        rw [hl] at hjl; rw [B4, C6 hjl] at hj
        exact ⟨hjl, (Option.some.inj hj).symm⟩
      refine ⟨(List.range n).map f, ⟨by rw [hl]; exact k3, fun y hy => ?_⟩, bLi.2 fun y hy => ?_, fun av' hav hbs => ?_⟩
      . obtain ⟨j, hj, rfl⟩ := A9.1 hy; exact (hf j (List.mem_range.1 hj)).1
      . obtain ⟨j, hj, rfl⟩ := A9.1 hy; exact (hf j (List.mem_range.1 hj)).2.1
      rw [hv]
      rcases Nat.eq_zero_or_pos n with hz | hz
      . subst hz; exact .sl0 _ _ _ k5
      have := Rep.sl (ρ := C.ρ) (av := av') (hp := w.heap) sz ((List.range n).map f) b 0 cp cells e (0, 0) vals (by rw [hl]; exact hz) (by rw [hl]; exact k4) k5 (hbs b k2) k6 (fun j x hj => by
        obtain ⟨hjl, rfl⟩ := hget j x hj
        exact (hf j hjl).2.2.mono hav (fun _ _ _ => rfl)) (by rw [hl]; exact k8)
      rwa [hl] at this
    have hch : ∃ g : Nat -> List AV, ∀ q, q ∈ lv -> ((g q).length <= L /\ ∀ y ∈ g q, W y) /\ aI (fun _ => False) (g q) /\ ∀ av' : Nat -> Prop, (∀ b, b < w.heap.size -> av' b -> C.avoid H b) -> (∀ b, b ∈ bs -> ¬ av' b) -> Rep C.ρ av' w.heap (.sl sz (g q)) (C.ρ q) := by
      classical
      exact ⟨fun q => if hq : q ∈ lv then Classical.choose (one q hq) else [], fun q hq => by simp only [dif_pos hq]; exact Classical.choose_spec (one q hq)⟩
    obtain ⟨g, hg⟩ := hch
    refine ⟨lv.map g, by simp, fun ys hys => ?_, ?_, [b1], fun b hb => ?_, fun av' hav => ⟨?_, by simp⟩⟩
    . obtain ⟨q, hq, rfl⟩ := A9.1 hys; exact (hg q hq).1
    . show aI _ _
      refine bLi.2 fun x hx => ?_
      obtain ⟨ys, hys, rfl⟩ := A9.1 hx
      obtain ⟨q, hq, rfl⟩ := A9.1 hys
      exact eU (fun _ h => h.elim) _ (hg q hq).2.1
    . rw [h0, B6.1 hb]; exact A3
    have hll : ((lv.map g).map (AV.sl sz)).length = lv.length := by simp
    rw [h0] at h2
    have hav2 : ∀ b, b < w.heap.size -> av' b -> C.avoid H b := fun b hb hq => by
      rcases hav b hb hq with h | ⟨j, o, _, _, h5', h6'⟩ | h
      . exact .inl h
      . exact .inr ⟨j, o, h5', h6'⟩
      exact .inr ⟨i, _, hi, by rw [h0, B6.1 h]; exact A3⟩
    have hbs : ∀ b, b ∈ bs -> ¬ av' b := fun b hb hq => by
      obtain ⟨ob, hob⟩ := h7 b hb
      have hbi : b ∈ C.own i := by rw [h0]; exact A4 _ hb
      rcases hav b (ltB hob) hq with h | ⟨j, o, h3', _, h5', h6'⟩ | h
      . exact hR.xapart i _ b hi hbi h
      . exact hR.apart j i o _ b h3' h5' hi h6' hbi
      rw [B6.1 h] at hb; exact (C7.1 h2).1 hb
    have := RepO.own (ρ := C.ρ) (av := av') (hp := w.heap) e0 1 ((lv.map g).map (AV.sl sz)) b1 c0 cells0 (fun j => C.ρ (lv.getD j 0)) (fun _ => []) h3 (by rw [h4, Nat.mul_one]) (by rw [hll]; exact h5) h6 (fun j x hj => by
      rw [List.map_map, B4] at hj
      obtain ⟨q, hq, rfl⟩ := B3.1 hj
      have hqd : lv.getD j 0 = q := by rw [E7, hq]; rfl
      rw [hqd]
      exact .leaf _ _ ((hg q (E4 hq)).2.2 av' hav2 hbs)) (fun j hj => by
      rw [hll] at hj
      obtain ⟨q, hq, _⟩ := hcell j hj
      have hqd : lv.getD j 0 = q := by rw [E7, hq]; rfl
      simp only [hqd]; rw [dF (C.one q)]
      refine ⟨rfl, fun k hk => ?_⟩
      have hk0 : k = 0 := by omega
      subst hk0; rw [Nat.mul_one, C3, Nat.add_zero, h8 j q hq]
      rfl)
    rw [hll] at this
    have hfl : bA lv.length (fun _ => ([] : List Nat)) = [] := by simp [bA]
    rw [hfl] at this; rw [h1]; exact this
  obtain ⟨yss, k1, k2, k3, own, k4, k5⟩ := key
  obtain ⟨C', _, hR', hs⟩ := hR.tell (w' := w) (U' := UU nx) (k := []) (own := own) (ob' := .row e0 1 (yss.map (.sl sz))) hi oS oS rfl rfl rfl (A0 _) (fun _ _ _ => rfl) (fun b hb => .inl (k4 b hb)) (fun _ h => h) (fun _ _ => rfl) C.one k3 k5
  exact h yss k1 k2 C' a w Qc hn0 hR' fun e1 E1 H1 nx1 C1 a1 w1 hn1 hR1 hs1 hQ => hK e1 E1 H1 nx1 C1 a1 w1 hn1 hR1 ((hs.fewerNames (eD hn0)).trans (fun _ h => h) hs1) hQ
def aJi {W : AV -> Prop} {k : IntKind} {n : Int} (hg : o.guard = none) (ho : o.op = .indexAddr t x y) (hN : oD o N) (hs : cL P t = some (e, some (1, by')))
    (hx : opv E x = some (.ref i)) (hH : get H i = some (.pool e e' sz W L lv more)) (hy : opv E y = some (.raw (.int k n))) (h0 : 0 <= n) (h1 : n < lv.length) : aY P ro N ds o b0 E H (aF [x, y]) [i] (.ep i 1 n.toNat 0) [] nx 0 := by
  refine lsO hg fun E' H' U hE hH' _ => ?_
  have hops := oCg hE
  have hHi : get H' i = some (.pool e e' sz W L lv more) := (hH' i oS).trans hH
  have hU : sR U nx 0 = U := by funext q; simp only [sR]; exact propext ⟨fun h => h.elim id fun h => absurd h.2 og, .inl⟩
  rw [hU]
  refine aT (by simp [ho, Op.noDefer]) hN fun C a w hR => ?_
  obtain ⟨h2, h3⟩ := hR.opv (x := x) (r := .ref i) (by rw [hops x oS]; exact hx)
  obtain ⟨h4, _⟩ := hR.opv (x := y) (r := .raw (.int k n)) (by rw [hops y oS]; exact hy)
  generalize hev : a.eval x = u at h2
  generalize hey : a.eval y = u' at h4
  cases h4; cases h2
  obtain ⟨b1, c0, cells0, bs, hval, _⟩ := hR.obj i _ hHi
  rw [hval] at hev
  have hrun := sD hs b1 0 _ c0 k n h0 h1 w
  rw [C3] at hrun
  exact ⟨h3, _, by simp [execOp, ho, hev, hey, hrun], .ep _ _ _ _ b1 (by rw [hval]; rfl)⟩
def aLp {W : AV -> Prop} (hg : o.guard = none) (ho : o.op = .load t x) (hN : oD o N) (hv : VarT P t 1 false)
    (hx : opv E x = some (.ep i 1 j 0)) (hH : get H i = some (.pool e e' sz W L lv more)) (hj : lv[j]? = some m) : aY P ro N ds o b0 E H (aF [x]) [i] (.ref m) [] nx 0 := by
  refine lsO hg fun E' H' U hE hH' _ => ?_
  have hops := oCg hE
  have hHi : get H' i = some (.pool e e' sz W L lv more) := (hH' i oS).trans hH
  have hU : sR U nx 0 = U := by funext q; simp only [sR]; exact propext ⟨fun h => h.elim id fun h => absurd h.2 og, .inl⟩
  rw [hU]
  refine aT (by simp [ho, Op.noDefer]) hN fun C a w hR => ?_
  obtain ⟨h2, h3⟩ := hR.opv (x := x) (r := .ep i 1 j 0) (by rw [hops x oS]; exact hx)
  have hbel := (hR.objb i _ hHi).2
  obtain ⟨b1, c0, cells0, bs, hval, k0, k2, k3, k4, k5, k6, k7, k8, k9, k10⟩ := hR.obj i _ hHi
  have hev := yZ h2 (b := b1) (by rw [hval]; rfl)
  refine ⟨hbel.1 m (E4 hj), _, ?_, .ref m⟩
  have hone := C.one m
  have := mX (P := P) (w := w) hv k3 (v := C.ρ m) (o := 0) (off := j * 1 + 0) (fun k hk => by
    have hk0 : k = 0 := by omega
    subst hk0; rw [Nat.mul_one, Nat.add_zero, Nat.add_zero, k8 j m hj, dF hone]
    rfl) (by rw [dF hone]; exact A0 _) (fun _ => Nat.one_pos)
  rw [Nat.mul_one, Nat.add_zero] at this hev
  simp [execOp, ho, hev, Instr.loadAt, Instr.sureAddr, this, iX, dF hone]
def aIi {W : AV -> Prop} (hg : o.guard = none) (ho : o.op = .store t x y) (hN : oD o N) (hv : VarT P t 1 false)
    (hx : opv E x = some (.ep i 1 j 0)) (hH : get H i = some (.pool e e' sz W L lv more)) (hj : j < lv.length) (hy : opv E y = some (.ref m)) (hm : m ∈ lv ∨ m ∈ more) : aY P ro N ds o b0 E H (aF [x, y]) [i] (.raw undef) [(i, .pool e e' sz W L (lv.set j m) more)] nx 0 := by
  refine lsO hg fun E' H' U hE hH' _ => ?_
  have hops := oCg hE
  have hHi : get H' i = some (.pool e e' sz W L lv more) := (hH' i oS).trans hH
  have hU : sR U nx 0 = U := by funext q; simp only [sR]; exact propext ⟨fun h => h.elim id fun h => absurd h.2 og, .inl⟩
  rw [hU]; intro C a w next Q hR hK
  obtain ⟨h2, h3⟩ := hR.opv (x := x) (r := .ep i 1 j 0) (by rw [hops x oS]; exact hx)
  obtain ⟨h4, h5⟩ := hR.opv (x := y) (r := .ref m) (by rw [hops y oS]; exact hy)
  have hbel := (hR.objb i _ hHi).2
  obtain ⟨b1, c0, cells0, bs, hval, k0, k2, k3, k4, k5, k6, k7, k8, k9, k10⟩ := hR.obj i _ hHi
  have hev := yZ h2 (b := b1) (by rw [hval]; rfl)
  have hey : a.eval y = C.ρ m := by generalize a.eval y = u at h4; cases h4; rfl
  have hone := C.one m
  have hroom : j * 1 + 0 + 1 <= cells0.size := by rw [k4]; omega
  have hrun := vF (P := P) (w := w) hv k3 (v := C.ρ m) (off := j * 1 + 0) (by rw [dF hone]; rfl) (by rw [dF hone]; simpa using hone) hroom
  have hget : ∀ q, (bM cells0.toList (j * 1 + 0) (C.ρ m).cells.toList).toArray[q]? = if q = j then some (C.ρ m) else cells0[q]? := fun q => by
    rw [List.getElem?_toArray, lA _ _ _ (by rw [dF hone]; simpa using hroom), dF hone]
    by_cases e1 : q = j
    . subst e1; simp
    rw [if_neg e1]
    rcases Nat.lt_or_ge q j with h | h
    . rw [if_pos og]; simp
    rw [if_neg og, if_neg (by simp; omega)]; simp
  have hsize : (bM cells0.toList (j * 1 + 0) (C.ρ m).cells.toList).toArray.size = c0 := by rw [List.size_toArray, iM _ _ _ (by rw [dF hone]; simpa using hroom), Array.length_toList, k4]
  generalize (bM cells0.toList (j * 1 + 0) (C.ρ m).cells.toList).toArray = cells' at hrun hget hsize
  rw [k0] at k2
  have hb1 : b1 ∈ C.own i := by rw [k0]; exact A3
  obtain ⟨C', hρ, hR', hs⟩ := hR.tell (w' := w.setRow b1 cells') (U' := U) (k := []) (own := C.own i) (ρ' := C.ρ) (ob' := .pool e e' sz W L (lv.set j m) more) hHi oS oS rfl rfl rfl oS (fun b hb hn => setRow_other w b1 b _ (fun e => hn (e ▸ hb1))) (fun b hb => .inl hb) (fun _ h => h) (fun _ _ => rfl) C.one
    (show (∀ q, q ∈ lv.set j m -> _) /\ ∀ q, q ∈ more -> _ from ⟨fun q hq => by
      rcases List.mem_or_eq_of_mem_set hq with h | rfl
      . exact hbel.1 q h
      exact h5, hbel.2⟩) (fun av' hav => by
    have hmo : ∀ {v : Value}, gR C.ρ (C.avoid H') w.heap e' sz W L bs v -> gR C.ρ av' (w.setRow b1 cells').heap e' sz W L bs v := fun h => h.mono' (fun b hb hq => by
      rcases hav b hb hq with h | ⟨j, o, _, _, h5, h6⟩ | h
      . exact .inl h
      . exact .inr ⟨j, o, h5, h6⟩
      exact .inr ⟨i, _, hHi, h⟩) (fun b _ _ _ hb hn => setRow_other w b1 b _ fun e => hn (.inr ⟨i, _, hHi, e ▸ hb1⟩)) (fun b hb => setRow_other w b1 b _ fun e => (C7.1 k2).1 (e ▸ hb))
    refine ⟨b1, c0, cells', bs, by rw [D0]; exact hval, k0, by rw [k0]; exact k2, setRow_heap w b1 cells0 _ e (0, 0) k3, hsize, by rw [D0]; exact k5, k6, fun b hb => ?_, fun q r hq => ?_, fun q hq => ?_, fun q hq => hmo (k10 q hq)⟩
    . obtain ⟨ob, hob⟩ := k7 b hb
      exact ⟨ob, (setRow_other w b1 b _ fun e => (C7.1 k2).1 (e ▸ hb)).trans hob⟩
    . rw [hget]
      by_cases e1 : q = j
      . subst e1; rw [List.getElem?_set_self hj] at hq; cases hq; rw [if_pos rfl]
      rw [List.getElem?_set_ne (fun e => e1 e.symm)] at hq; rw [if_neg e1]
      exact k8 q r hq
    rcases List.mem_or_eq_of_mem_set hq with h | rfl
    . exact hmo (k9 q h)
    exact hmo (hm.elim (k9 q) (k10 q)))
  rw [Nat.mul_one, Nat.add_zero] at hrun hev
  refine rJ (by simp [ho, Op.noDefer]) (w' := w.setRow b1 cells') (by simp [execOp, ho, hev, hey, Instr.storeAt, Instr.sureAddr, hrun]) ?_
  exact hK C' _ _ (hR'.put hN (.raw _) trivial) hs
def aPd {c : Call} {zs : List Value} {W : AV -> Prop} {el0 el : AV} (hg : o.guard = none) (ho : o.op = .call c) (hc : c.callee = .builtin .append) (hargs : c.args = #[x, y]) (hts : c.argTypes = #[t, t]) (hN : oD o N)
    (hs : cL P t = some (e', some (sz, by'))) (hz : zC P e' = some zs) (hzl : zs.length = sz) (h0 : 0 < sz) (hx : opv E x = some (.ref m)) (hy : opv E y = some (.ref j)) (hij : i ≠ j) (hH : get H i = some (.pool e e' sz W L lv more)) (hm : m ∈ lv ∨ m ∈ more) (hj : get H j = some (.row e' sz [el0]))
    (hle : ∀ (ρ : Nat -> Value) (av : Nat -> Prop) (hp : Array Obj) (v : Value), Rep ρ av hp el0 v -> Rep ρ av hp el v) (hW : W el) (hb : el.bel fun _ => False) (hf : el0.free = true) (hel : el0.elem = true) (hL : L + 1 <= maxLen) (hby : (L + 1) * by' <= 140737488355328) :
    aY P ro N ds o b0 E H (aF [x, y]) [i, j] (.ref nx) [(i, .pool e e' sz W (L + 1) lv (nx :: more)), (j, .dead)] nx 1 := by
  refine lsO hg fun E' H' U hE hH' hnx => ?_
  have hops := oCg hE
  have hHi : get H' i = some (.pool e e' sz W L lv more) := (hH' i oS).trans hH
  have hHj : get H' j = some (.row e' sz [el0]) := (hH' j oS).trans hj
  have hUnx : ¬ U nx := hnx nx (A0 _) og
  intro C a w next Q hR hK
  obtain ⟨h2, h3⟩ := hR.opv (x := x) (r := .ref m) (by rw [hops x oS]; exact hx)
  have hbel := (hR.objb i _ hHi).2
  obtain ⟨b1, c0, cells0, bs, hval, k0, k2, k3, k4, k5, k6, k7, k8, k9, k10⟩ := hR.obj i _ hHi
  have hex : a.eval x = C.ρ m := by generalize a.eval x = u at h2; cases h2; rfl
  obtain ⟨vals, ows, s1, s2, s3, s4, s5⟩ := (App2.row (E := E') (H := H') (y := y) j [el0] (by rw [hops y oS]; exact hy) hHj).rep hR
  have hu : ∃ ad c, a.eval y = .slice (some ad) 1 c /\ ∀ k, k < sz -> w.cell? (ad.add k) = some ((vals 0).cells.getD k undef) := by
    rcases s1.val with ⟨h, _⟩ | ⟨ad, cc, h, hcell⟩
    . cases h
    refine ⟨ad, cc, h, fun k hk => ?_⟩
    have := hcell 0 k oS hk
    rwa [Nat.zero_mul, C3] at this
  have hvs : (vals 0).cells.size = sz := s1.size 0 oS
  have hrep0 := s1.rep 0 el0 rfl
  have h1c : ∀ u ∈ (vals 0).cells.toList, u.oneCell' = true := fun u hu => by
    obtain ⟨k, hk'⟩ := G2 hu
    rw [D8] at hk'
    have hkl := (Array.getElem?_eq_some_iff.1 hk').1
    have := hrep0.elem C.one hel hkl
    rw [B5, hk'] at this; exact this
  rw [k0] at k2
  have hbi : ∀ b, b ∈ bs -> b ∈ C.own i := fun b hb => by rw [k0]; exact A4 _ hb
  obtain ⟨v', w', bs', hrun, hgr, hob, hv1, hbs', hnd', hex', hpool⟩ := aYr (P := P) (w := w) (ty := o.type) hs hz hzl h0 (hm.elim (k9 m) (k10 m)) (fun b hb => ⟨.inr ⟨i, _, hHi, hbi b hb⟩, k7 b hb⟩) (C7.1 k2).2 hu hvs h1c hW hb (hle _ _ _ _ (hrep0.free hf)) hL hby
  have hexec : (execOp a.eval o).run P w = .ok (.value v') w' := by
    simp [execOp, ho, resolve, hc, hargs, hts, invoke, builtin, hex, hrun]
  have hlt1 := ltB k3
  have hkeep : ∀ b, b < w.heap.size -> b ∉ bs -> w'.heap[b]? = w.heap[b]? := fun b hb hn => hgr.block b hb fun e => hn (hob b e.symm)
  have hine : ∀ q, U q -> q ≠ nx := fun q hq e => hUnx (e ▸ hq)
  obtain ⟨C', hρ, hR', hs'⟩ := hR.tell (w' := w') (U' := sR U nx 1) (k := [j]) (own := b1 :: bs') (ρ' := upd C.ρ nx v') (ob' := .pool e e' sz W (L + 1) lv (nx :: more)) hHi (by simpa using hij) (fun q hq => by rw [B6.1 hq]; exact ⟨_, hHj⟩) hgr.os hgr.tape hgr.output hgr.size
    (fun b hb hn => hkeep b hb fun h => hn (hbi b h)) (fun b hb => by
      rcases A8.1 hb with rfl | hb
      . exact .inl (by rw [k0]; exact A3)
      rcases hbs' b hb with h | h
      . exact .inl (hbi b h)
      exact .inr (.inr og)) (fun q hq => .inl hq) (fun q hq => bT _ _ (hine q hq)) (aJb C.one hv1)
    (show (∀ q, q ∈ lv -> _) /\ ∀ q, q ∈ nx :: more -> _ from ⟨fun q hq => .inl (hbel.1 q hq), fun q hq => by
      rcases A8.1 hq with rfl | hq
      . exact .inr ⟨A0 _, Nat.lt_succ_self _⟩
      exact .inl (hbel.2 q hq)⟩) (fun av' hav => by
    have hav2 : ∀ b, b < w.heap.size -> av' b -> C.avoid H' b := fun b hb hq => by
      rcases hav b hb hq with h | ⟨q, o, _, _, h5, h6⟩ | h
      . exact .inl h
      . exact .inr ⟨q, o, h5, h6⟩
      rcases A8.1 h with rfl | h
      . exact .inr ⟨i, _, hHi, by rw [k0]; exact A3⟩
      rcases hbs' b h with h | h
      . exact .inr ⟨i, _, hHi, hbi b h⟩
      omega
    obtain ⟨hp1, hp2⟩ := hpool av' hav2
    refine ⟨b1, c0, cells0, bs', hval, rfl, C7.2 ⟨fun hb => ?_, hnd'⟩, (hkeep b1 hlt1 fun hb => (C7.1 k2).1 hb).trans k3, k4, k5, k6, hex', fun q r hq => ?_, fun q hq => ?_, fun q hq => ?_⟩
    . rcases hbs' b1 hb with h | h
      . exact (C7.1 k2).1 h
      omega
    . rw [bT _ _ (hine r (hbel.1 r (E4 hq)))]; exact k8 q r hq
    . rw [bT _ _ (hine q (hbel.1 q hq))]; exact (hp2 _ (k9 q hq)).named
    rcases A8.1 hq with rfl | hq
    . rw [cY]; exact hp1.named
    rw [bT _ _ (hine q (hbel.2 q hq))]; exact (hp2 _ (k10 q hq)).named)
  refine eW (by simp [ho, Op.noDefer]) hexec (hK _ _ _ (hR'.put hN ?_ (Or.inr ⟨A0 _, Nat.lt_succ_self _⟩)) hs')
  have : Rep C'.ρ (C'.avoid (over H' [(i, .pool e e' sz W (L + 1) lv (nx :: more)), (j, .dead)])) w'.heap (.ref nx) (C'.ρ nx) := .ref nx
  rwa [show C'.ρ nx = v' from by rw [hρ]; exact cY _ _ _] at this
end
end
section
variable [Globals]
variable {args : List AV} {g g1 : AObj} {c : Call} {f i : Nat} {code : Code} {r0 : AV}
abbrev NoN : Nat -> Prop := fun _ => False
def AV.ren_no {x : AV} (h : x.bel NoN) (σ : Nat -> Nat) : x.ren σ = x := by
  rw [AV.ren_congr (σ := σ) (τ := id) (U := NoN) (fun _ h => h.elim) x h, AV.ren_id]
def AObj.ren_no {o : AObj} (h : o.bel NoN) (σ : Nat -> Nat) : o.ren σ = o := by
  rw [AObj.ren_congr (σ := σ) (τ := id) (U := NoN) (fun _ h => h.elim) o h]
  exact AObj.ren_nil o
def bMy {xs : List AV} (h : aI NoN xs) (σ : Nat -> Nat) : aB σ xs = xs := by
  rw [eJ (σ := σ) (τ := id) (U := NoN) (fun _ h => h.elim) xs h, lB]
def bPk {U : Nat -> Prop} {o : AObj} (h : o.bel NoN) : o.bel U := AObj.bel_mono (fun _ h => h.elim) o h
section
variable {P : Program} {ro : Option Nat} {N : Nat} {o : Oper} {E : Env} {H : Heap} {nx b0 : Nat} {ds : List (Option Tmp)}
def aTc (hg : g.bel NoN) (hH : get H i = some g) : FitC H [(0, i)] [(0, g)] 1 0 [(0, g1)] :=
  mZ (H1 := []) (.inr ⟨i, rfl⟩) (by rw [AObj.ren_no hg]; exact hH) (bPk hg)
def aUm (hargs : c.args.toList.map (opv E) = some (.ptr i 0) :: args.map some) (hab : aI NoN args) : c.args.toList.map (opv E) = (aB (sg [(0, i)]) (.ptr 0 0 :: args)).map some := by
  rw [hargs]; simp only [aB, AV.ren, List.map_cons, bMy hab]; rfl
def aTg (hab : aI NoN args) : aI (UU 1) (.ptr 0 0 :: args) := ⟨.inl Nat.one_pos, eU (fun _ h => h.elim) _ hab⟩
def vO {l : List Oper} {K : AK} (i : Nat) {fn : Func} (hg : o.guard = none) (ho : o.op = .call c) (hc : c.callee = .value (.func f)) (hT : FnT P f fn code)
    (hM : aO P f (.ptr 0 0 :: args) [(0, g)] 1 r0 [(0, g1)] 1) (hargs : c.args.toList.map (opv E) = some (.ptr i 0) :: args.map some) (hab : aI NoN args) (hb : g.bel NoN) (hb1 : g1.bel NoN) (hr : r0.bel NoN) (hH : get H i = some g)
    (h : lO P ro N ds l K (aU E o.dst r0) (over H [(i, g1)]) (nx + 0)) : qL P ro N ds (o :: l) K E H nx := by
  refine vg [(0, i)] 0 hg ho hc hT hM rfl (aUm hargs hab) (aTg hab) (aTc hb hH) (.inl rfl) ?_
  rw [AV.ren_no hr, jN]; simp only [List.map_cons, List.map_nil, AObj.ren_no hb1]; exact h
def tO {l : List Oper} {acc : List Rec} {K : List Rec -> AK} (i : Nat) {fn : Func} (hg : o.guard = none) (ho : o.op = .call c) (hc : c.callee = .value (.func f)) (hT : FnT P f fn code)
    (hM : aO P f (.ptr 0 0 :: args) [(0, g)] 1 r0 [(0, g1)] 1) (hargs : c.args.toList.map (opv E) = some (.ptr i 0) :: args.map some) (hab : aI NoN args) (hb : g.bel NoN) (hb1 : g1.bel NoN) (hr : r0.bel NoN) (hH : get H i = some g)
    (h : iD P ro N ds b0 l (⟨aF c.args.toList, [i], o.dst, [i], [], [(i, g1)]⟩ :: acc) K (aU E o.dst r0) (over H [(i, g1)]) (nx + 0)) : VTr P ro N ds b0 (o :: l) acc K E H nx := by
  refine tg [(0, i)] 0 hg ho hc hT hM rfl (aUm hargs hab) (aTg hab) (aTc hb hH) (.inl rfl) ?_
  rw [AV.ren_no hr, jN]; simp only [List.map_cons, List.map_nil, AObj.ren_no hb1]; exact h
def vX {l : List Oper} {K : AK} (i : Nat) {fn : Func} {α : Type} {φ : α -> Prop} {r0 : α -> AV} {g1 : α -> AObj} (hg : o.guard = none) (ho : o.op = .call c) (hc : c.callee = .value (.func f)) (hT : FnT P f fn code)
    (hM : uW P f (.ptr 0 0 :: args) [(0, g)] 1 φ r0 (fun x => [(0, g1 x)]) 1) (hargs : c.args.toList.map (opv E) = some (.ptr i 0) :: args.map some) (hab : aI NoN args) (hb : g.bel NoN) (hb1 : ∀ x, (g1 x).bel NoN) (hr : ∀ x, (r0 x).bel NoN) (hH : get H i = some g)
    (h : ∀ x, φ x -> lO P ro N ds l K (aU E o.dst (r0 x)) (over H [(i, g1 x)]) (nx + 0)) : qL P ro N ds (o :: l) K E H nx := by
  refine aNp (nw := 0) [(0, i)] hg ho hc hT hM (aUm hargs hab) (aTg hab) (aTc hb hH) (fun _ _ => aTc hb hH) (.inl rfl) fun x hx => ?_
  rw [AV.ren_no (hr x), jN]; simp only [List.map_cons, List.map_nil, AObj.ren_no (hb1 x)]
  exact h x hx
def ddT {n0 : Nat} {Q : AQ} {id : Nat} {ops : Array Oper} (n : Nat) (hm : P.follows .mixedOrders = true) (hd : aGu N ops.toList = true)
    (h : iD P ro N (ops.toList.map (·.dst)) nx (ops.toList.take n) [] (fun rs => VTr P ro N (ops.toList.map (·.dst)) nx (ops.toList.drop n) rs.reverse (drawn (ops.toList.map (·.after.toList)) (Q .normal))) E H nx) :
    AWP P ro N n0 (.region id ops true) Q E H nx := aGb (0, 0) hm hd fun hd' => by
  obtain ⟨ss, E', H', nx', h1, h2, h3⟩ := bIf n h hd'
  exact ⟨ss, E', H', nx', h1, aFj h2, fun hlt => absurd hlt dg, h3⟩
end
end
section
variable [Globals]
section
variable {P : Program} {ro : Option Nat} {N : Nat} {o : Oper} {E : Env} {H : Heap} {nx b0 : Nat} {ds : List (Option Tmp)}
def aLc {i g nw : Nat} {want : Bool} {val : AV} {rt rd : List Nat} {ps : Heap} (hg : o.guard = some (i, want)) (hi : (ds[i]?).join = some g) (hE : get E g = some (.raw (.bool want)))
    (h : aY P ro N ds { o with guard := none } b0 E H rt rd val ps nx nw) : aY P ro N ds o b0 E H (g :: rt) rd val ps nx nw := by
  intro E' H' U hE' hH' hU hnx C a w next Q hR hK
  have hEgg : get E' g = some (.raw (.bool want)) := (hE' g A3).trans hE
  have hw := aEc (o := o) (ds := ds) hR hg hi hEgg rfl
  unfold GS; rw [if_pos (hw.2 ⟨trivial, rfl⟩)]
  exact h E' H' U (fun t ht => hE' t (A4 _ ht)) hH' hU hnx C a w next Q hR hK
end
end
end Go.Abs
end
section
namespace Go.Plain
section
variable {a b x y z i j m : Nat} {σ τ : Nat -> Nat}
def swp (σ : Nat -> Nat) (i j : Nat) : Nat -> Nat := fun k => if k = i then σ j else if k = j then σ i else σ k
def rot (σ : Nat -> Nat) (a m b : Nat) : Nat -> Nat := fun k => if a <= k /\ k < a + (b - m) then σ (k + (m - a)) else if a + (b - m) <= k /\ k < b then σ (k - (b - m)) else σ k
def dC (a b : Nat) (σ σ' : Nat -> Nat) : Prop :=
  ∃ p q : Nat -> Nat, (∀ k, σ' k = σ (p k)) /\ (∀ k, p (q k) = k) /\ (∀ k, q (p k) = k) /\ (∀ k, a <= k -> k < b -> a <= p k /\ p k < b) /\ (∀ k, (k < a ∨ b <= k) -> p k = k)
def dC.refl (a b : Nat) (σ : Nat -> Nat) : dC a b σ σ := ⟨id, id, fun _ => rfl, fun _ => rfl, fun _ => rfl, fun _ h1 h2 => ⟨h1, h2⟩, fun _ _ => rfl⟩
def dC.trans {σ τ υ : Nat -> Nat} (h : dC a b σ τ) (h' : dC a b τ υ) : dC a b σ υ := by
  obtain ⟨p, q, h1, h2, h3, h4, h5⟩ := h
  obtain ⟨p', q', k1, k2, k3, k4, k5⟩ := h'
  refine ⟨fun k => p (p' k), fun k => q' (q k), fun k => by rw [k1, h1], fun k => by simp only [k2, h2], fun k => by simp only [h3, k3], fun k ha hb => ?_, fun k hk => by simp only [k5 k hk, h5 k hk]⟩
  have := k4 k ha hb
  exact h4 _ this.1 this.2
def dC.wide {a b a' b' : Nat} (h : dC a b σ τ) (ha : a' <= a) (hb : b <= b') : dC a' b' σ τ := by
  obtain ⟨p, q, h1, h2, h3, h4, h5⟩ := h
  refine ⟨p, q, h1, h2, h3, fun k h6 h7 => ?_, fun k hk => h5 k (by omega)⟩
  by_cases hk : k < a ∨ b <= k
  . rw [h5 k hk]; exact ⟨h6, h7⟩
  have := h4 k (by omega) (by omega)
  omega
def dC.all (h : dC a b σ τ) {φ : Nat -> Prop} (hφ : ∀ k, a <= k -> k < b -> φ (σ k)) : ∀ k, a <= k -> k < b -> φ (τ k) := by
  obtain ⟨p, q, h1, h2, h3, h4, h5⟩ := h
  intro k ha hb; rw [h1]
  exact hφ _ (h4 k ha hb).1 (h4 k ha hb).2
def dC.out (h : dC a b σ τ) {k : Nat} (hk : k < a ∨ b <= k) : τ k = σ k := by
  obtain ⟨p, q, h1, h2, h3, h4, h5⟩ := h
  rw [h1, h5 k hk]
def dC.swp (σ : Nat -> Nat) (hi : a <= i /\ i < b) (hj : a <= j /\ j < b) : dC a b σ (swp σ i j) := by
  refine ⟨fun k => if k = i then j else if k = j then i else k, fun k => if k = i then j else if k = j then i else k, fun k => ?_, fun k => ?_, fun k => ?_, fun k h1 h2 => ?_, fun k hk => ?_⟩
  . unfold Plain.swp
    by_cases h1 : k = i
    . simp [h1]
    by_cases h2 : k = j
    . subst h2; simp only [if_neg h1, if_true]
    simp [h1, h2]
  . simp only
    split <;> split <;> (try split) <;> omega
  . simp only
    split <;> split <;> (try split) <;> omega
  . simp only
    split <;> (try split) <;> omega
  simp only
  split <;> (try split) <;> omega
def dC.rot (σ : Nat -> Nat) (h1 : a <= m) (h2 : m <= b) : dC a b σ (rot σ a m b) := by
  refine ⟨fun k => if a <= k /\ k < a + (b - m) then k + (m - a) else if a + (b - m) <= k /\ k < b then k - (b - m) else k, fun k => if a <= k /\ k < m then k + (b - m) else if m <= k /\ k < b then k - (m - a) else k, fun k => ?_, fun k => ?_, fun k => ?_, fun k h3 h4 => ?_, fun k hk => ?_⟩
  . unfold Plain.rot
    simp only
    split
    . rfl
    split <;> rfl
  . simp only
    split <;> split <;> (try split) <;> (try split) <;> omega
  . simp only
    split <;> split <;> (try split) <;> (try split) <;> omega
  . simp only
    split <;> (try split) <;> omega
  simp only
  split <;> (try split) <;> omega
section
variable (l : Nat -> Nat -> Bool)
def cF (x y : Nat) : Prop := l x y = true ∨ (l y x = false /\ x < y)
structure Orders : Prop where
  irrefl : ∀ x, l x x = false
  trans : ∀ x y z, l x y = true -> l y z = true -> l x z = true
  neg : ∀ x y z, l x y = false -> l y z = false -> l x z = false
variable {l}
def Orders.asymm (h : Orders l) (h1 : l x y = true) : l y x = false := by
  cases h2 : l y x with
  | false => rfl
  | true => have := h.trans x y x h1 h2; rw [h.irrefl] at this; cases this
def cF.trans (h : Orders l) (h1 : cF l x y) (h2 : cF l y z) : cF l x z := by
  rcases h1 with h1 | ⟨h1, h1'⟩ <;> rcases h2 with h2 | ⟨h2, h2'⟩
  . exact .inl (h.trans _ _ _ h1 h2)
  . left
    cases hxz : l x z with
    | true => rfl
    | false =>
      have h3 := h.neg x z y hxz h2
      rw [h1] at h3; cases h3
  . left
    cases hxz : l x z with
    | true => rfl
    | false =>
      have h3 := h.neg y x z h1 hxz
      rw [h2] at h3; cases h3
  exact .inr ⟨h.neg _ _ _ h2 h1, by omega⟩
def cF.irrefl (h : Orders l) : ¬ cF l x x := by
  rintro (h1 | ⟨_, h1⟩)
  . rw [h.irrefl] at h1; cases h1
  omega
variable (l)
def Sor (σ : Nat -> Nat) (a b : Nat) : Prop := ∀ i j, a <= i -> i < j -> j < b -> cF l (σ i) (σ j)
def zV (a : Nat) : Nat -> (Nat -> Nat) -> (Nat -> Nat)
  | 0, σ => σ
  | j + 1, σ => if a < j + 1 /\ l (σ (j + 1)) (σ j) = true then zV a j (swp σ (j + 1) j) else σ
def yF (a : Nat) : Nat -> Nat -> (Nat -> Nat) -> (Nat -> Nat)
  | 0, _, σ => σ
  | c + 1, i, σ => yF a c (i + 1) (zV l a i σ)
def gL (σ : Nat -> Nat) (a b : Nat) : Nat -> Nat := yF l a (b - (a + 1)) (a + 1) σ
variable {l}
def bCi (ho : Orders l) (a i b : Nat) (hib : i < b) : ∀ (j : Nat) (σ : Nat -> Nat), a <= j -> j <= i -> Sor l σ a j -> (∀ u v, a <= u -> u < j -> j < v -> v <= i -> cF l (σ u) (σ v)) -> (∀ u v, j < u -> u < v -> v <= i -> cF l (σ u) (σ v)) ->
    (∀ v, j < v -> v <= i -> cF l (σ j) (σ v)) -> (∀ u, a <= u -> u < j -> σ u < σ j) -> dC a b σ (zV l a j σ) /\ Sor l (zV l a j σ) a (i + 1)
  | 0, σ, haj, hji, h1, h2, h3, h4, h5 => by
    refine ⟨.refl a b σ, fun u v hu huv hv => ?_⟩
    by_cases e : u = 0
    . subst e; exact h4 v huv (by omega)
    exact h3 u v (by omega) huv (by omega)
  | j + 1, σ, haj, hji, h1, h2, h3, h4, h5 => by
    unfold zV; split
    . rename_i hc
      have s0 : ∀ k, swp σ (j + 1) j k = if k = j + 1 then σ j else if k = j then σ (j + 1) else σ k := fun _ => rfl
      have hs := bCi ho a i b hib j (swp σ (j + 1) j) (by omega) (by omega) (fun u v hu huv hv => ?_) (fun u v hu huj hjv hv => ?_) (fun u v hu huv hv => ?_) (fun v hv hvi => ?_) (fun u hu huj => ?_)
      . exact ⟨(dC.swp σ (by omega) (by omega)).trans hs.1, hs.2⟩
      . simp only [s0, if_neg (show u ≠ j + 1 by omega), if_neg (show u ≠ j by omega), if_neg (show v ≠ j + 1 by omega), if_neg (show v ≠ j by omega)]
        exact h1 u v hu huv (by omega)
      . simp only [s0, if_neg (show u ≠ j + 1 by omega), if_neg (show u ≠ j by omega), if_neg (show v ≠ j by omega)]; split
        . exact h1 u j hu (by omega) (by omega)
        exact h2 u v hu (by omega) (by omega) (by omega)
      . simp only [s0, if_neg (show u ≠ j by omega), if_neg (show v ≠ j by omega), if_neg (show v ≠ j + 1 by omega)]; split
        . exact h2 j v (by omega) (by omega) (by omega) (by omega)
        exact h3 u v (by omega) huv hv
      . simp only [s0, if_neg (show j ≠ j + 1 by omega), if_true, if_neg (show v ≠ j by omega)]; split
        . exact .inl hc.2
        exact h4 v (by omega) hvi
      simp only [s0, if_neg (show u ≠ j + 1 by omega), if_neg (show u ≠ j by omega), if_neg (show j ≠ j + 1 by omega), if_true]
      exact h5 u hu (by omega)
    rename_i hc
    refine ⟨.refl a b σ, fun u v hu huv hv => ?_⟩
    rcases Nat.lt_trichotomy v (j + 1) with hv1 | hv1 | hv1
    . exact h1 u v hu huv hv1
    . subst hv1
      by_cases ha : a = j + 1
      . omega
      have hl : l (σ (j + 1)) (σ j) = false := by
        cases hx : l (σ (j + 1)) (σ j) with
        | false => rfl
        | true => exact absurd ⟨by omega, hx⟩ hc
      have hjj : cF l (σ j) (σ (j + 1)) := .inr ⟨hl, h5 j (by omega) (by omega)⟩
      by_cases e : u = j
      . subst e; exact hjj
      exact (h1 u j hu (by omega) (by omega)).trans ho hjj
    rcases Nat.lt_trichotomy u (j + 1) with hu1 | hu1 | hu1
    . exact h2 u v hu hu1 hv1 (by omega)
    . subst hu1; exact h4 v hv1 (by omega)
    exact h3 u v hu1 huv (by omega)
def aYs (ho : Orders l) (a b : Nat) : ∀ (c i : Nat) (σ : Nat -> Nat), a < i -> i + c = b -> Sor l σ a i -> (∀ u v, a <= u -> u < v -> i <= v -> v < b -> σ u < σ v) -> dC a b σ (yF l a c i σ) /\ Sor l (yF l a c i σ) a b
  | 0, i, σ, ha, hb, h1, h2 => ⟨.refl a b σ, (show i = b by omega) ▸ h1⟩
  | c + 1, i, σ, ha, hb, h1, h2 => by
    unfold yF
    obtain ⟨k1, k2⟩ := bCi ho a i (i + 1) (by omega) i σ (by omega) (Nat.le_refl _) h1 (fun u v _ _ h3 h4 => by omega) (fun u v h3 h4 h5 => by omega) (fun v h3 h4 => by omega) (fun u hu hui => h2 u i hu hui (Nat.le_refl _) (by omega))
    have hr := aYs ho a b c (i + 1) (zV l a i σ) (by omega) (by omega) k2 (fun u v hu huv hiv hv => by
      rw [k1.out (k := v) (by omega)]
      by_cases hu1 : u < i + 1
      . exact k1.all (φ := fun x => x < σ v) (fun k hk1 hk2 => h2 k v hk1 (by omega) (by omega) hv) u hu hu1
      rw [k1.out (k := u) (by omega)]
      exact h2 u v hu huv (by omega) hv)
    exact ⟨(k1.wide (Nat.le_refl _) (by omega)).trans hr.1, hr.2⟩
def aZv (ho : Orders l) (hab : a < b) (h : ∀ u v, a <= u -> u < v -> v < b -> σ u < σ v) : dC a b σ (gL l σ a b) /\ Sor l (gL l σ a b) a b :=
  aYs ho a b _ (a + 1) σ (by omega) (by omega) (fun u v h1 h2 h3 => by omega) (fun u v h1 h2 h3 h4 => h u v h1 h2 h4)
def gX (t : Nat -> Bool) : Nat -> Nat -> Nat -> Nat
  | 0, s, _ => s
  | f + 1, s, r => if s < r then (if t ((s + r) / 2) = true then gX t f s ((s + r) / 2) else gX t f ((s + r) / 2 + 1) r) else s
def aUn (t : Nat -> Bool) (s0 r0 : Nat) : ∀ (f s r : Nat), r - s <= f -> s <= r -> s0 <= s -> r <= r0 -> (s = s0 ∨ t (s - 1) = false) -> (r = r0 ∨ t r = true) ->
    s0 <= gX t f s r /\ gX t f s r <= r0 /\ (gX t f s r = s0 ∨ t (gX t f s r - 1) = false) /\ (gX t f s r = r0 ∨ t (gX t f s r) = true)
  | 0, s, r, hf, hsr, h0, h1, h2, h3 => by
    have : s = r := by omega
    subst this
    exact ⟨h0, h1, h2, h3⟩
  | f + 1, s, r, hf, hsr, h0, h1, h2, h3 => by
    unfold gX; split
    . split
      . rename_i ht
        exact aUn t s0 r0 f s _ (by omega) (by omega) h0 (by omega) h2 (.inr ht)
      rename_i ht
      exact aUn t s0 r0 f _ r (by omega) (by omega) (by omega) h1 (.inr (by simpa using ht)) h3
    have : s = r := by omega
    subst this
    exact ⟨h0, h1, h2, h3⟩
def bs_ok (t : Nat -> Bool) {f s r : Nat} (hf : r - s <= f) (hsr : s <= r) : s <= gX t f s r /\ gX t f s r <= r /\ (gX t f s r = s ∨ t (gX t f s r - 1) = false) /\ (gX t f s r = r ∨ t (gX t f s r) = true) :=
  aUn t s r f s r hf hsr (Nat.le_refl _) (Nat.le_refl _) (.inl rfl) (.inl rfl)
variable (l)
def iG (σ : Nat -> Nat) (a m b : Nat) : Nat :=
  gX (fun c => l (σ ((a + b) / 2 + m - 1 - c)) (σ c)) b (if (a + b) / 2 < m then (a + b) / 2 + m - b else a) (if (a + b) / 2 < m then (a + b) / 2 else m)
def lX : Nat -> (Nat -> Nat) -> Nat -> Nat -> Nat -> (Nat -> Nat)
  | 0, σ, _, _, _ => σ
  | f + 1, σ, a, m, b =>
    if m - a = 1 then rot σ a m (gX (fun h => !l (σ h) (σ a)) b m b)
    else if b - m = 1 then rot σ (gX (fun h => l (σ m) (σ h)) m a m) m b
    else
      let mid := (a + b) / 2
      let st := iG l σ a m b
      let en := mid + m - st
      let σ1 := if st < m /\ m < en then rot σ st m en else σ
      let σ2 := if a < st /\ st < mid then lX f σ1 a st mid else σ1
      if mid < en /\ en < b then lX f σ2 mid en b else σ2
variable {l}
def symCut_ok (h1 : a < m) (h2 : m < b) : a <= iG l σ a m b /\ iG l σ a m b <= m /\ iG l σ a m b <= (a + b) / 2 /\ m <= (a + b) / 2 + m - iG l σ a m b /\ (a + b) / 2 + m - iG l σ a m b <= b /\
    (a < iG l σ a m b -> (a + b) / 2 + m - iG l σ a m b < b -> l (σ ((a + b) / 2 + m - iG l σ a m b)) (σ (iG l σ a m b - 1)) = false) /\
    (iG l σ a m b < m -> m < (a + b) / 2 + m - iG l σ a m b -> l (σ ((a + b) / 2 + m - iG l σ a m b - 1)) (σ (iG l σ a m b)) = true) := by
  have hs : iG l σ a m b = gX (fun c => l (σ ((a + b) / 2 + m - 1 - c)) (σ c)) b (if (a + b) / 2 < m then (a + b) / 2 + m - b else a) (if (a + b) / 2 < m then (a + b) / 2 else m) := rfl
  have hb := bs_ok (fun c => l (σ ((a + b) / 2 + m - 1 - c)) (σ c)) (f := b) (s := if (a + b) / 2 < m then (a + b) / 2 + m - b else a) (r := if (a + b) / 2 < m then (a + b) / 2 else m) (by split <;> omega) (by split <;> omega)
  rw [<- hs] at hb
  generalize iG l σ a m b = c at hb ⊢
  obtain ⟨b1, b2, b3, b4⟩ := hb
  have b1' : a <= c := by split at b1 <;> omega
  have b2' : c <= m /\ c <= (a + b) / 2 := by split at b2 <;> omega
  refine ⟨b1', b2'.1, b2'.2, by omega, by split at b1 <;> omega, fun h3 h4 => ?_, fun h3 h4 => ?_⟩
  . rcases b3 with b3 | b3
    . split at b3 <;> omega
    have e : (a + b) / 2 + m - 1 - (c - 1) = (a + b) / 2 + m - c := by omega
    simp only [e] at b3
    exact b3
  rcases b4 with b4 | b4
  . split at b4 <;> omega
  have e : (a + b) / 2 + m - 1 - c = (a + b) / 2 + m - c - 1 := by omega
  simp only [e] at b4
  exact b4
def Sor.le (h : Sor l σ a b) (hi : a <= i) (hij : i <= j) (hj : j < b) : σ i = σ j ∨ cF l (σ i) (σ j) := by
  by_cases e : i = j
  . subst e; exact .inl rfl
  exact .inr (h i j hi (by omega) hj)
def cF.l1 (ho : Orders l) (h1 : x = y ∨ cF l x y) (h2 : cF l y z) : cF l x z := by
  rcases h1 with h1 | h1
  . rw [h1]; exact h2
  exact h1.trans ho h2
def cF.l2 (ho : Orders l) (h1 : cF l x y) (h2 : y = z ∨ cF l y z) : cF l x z := by
  rcases h2 with h2 | h2
  . rw [<- h2]; exact h1
  exact h1.trans ho h2
def aUt (ho : Orders l) : ∀ (f : Nat) (σ : Nat -> Nat) (a m b : Nat), b - a <= f -> a < m -> m < b -> Sor l σ a m -> Sor l σ m b -> (∀ i j, a <= i -> i < m -> m <= j -> j < b -> σ i < σ j) -> dC a b σ (lX l f σ a m b) /\ Sor l (lX l f σ a m b) a b
  | 0, σ, a, m, b, hf, h1, h2, _, _, _ => by omega
  | f + 1, σ, a, m, b, hf, h1, h2, hL, hR, hX => by
    unfold lX; split
    . rename_i hma
      have hm : m = a + 1 := by omega
      obtain ⟨b1, b2, b3, b4⟩ := bs_ok (fun h => !l (σ h) (σ a)) (f := b) (s := m) (r := b) (by omega) (by omega)
      generalize gX (fun h => !l (σ h) (σ a)) b m b = e at b1 b2 b3 b4
      refine ⟨(dC.rot σ (by omega) b1).wide (Nat.le_refl _) b2, ?_⟩
      have lo : ∀ j, m <= j -> j < e -> cF l (σ j) (σ a) := fun j hj1 hj2 => by
        have h9 : l (σ (e - 1)) (σ a) = true := by
          rcases b3 with b3 | b3
          . omega
          simpa using b3
        exact cF.l1 ho (hR.le hj1 (by omega) (by omega)) (.inl h9)
      have hi : ∀ j, e <= j -> j < b -> cF l (σ a) (σ j) := fun j hj1 hj2 => by
        have h9 : l (σ e) (σ a) = false := by
          rcases b4 with b4 | b4
          . omega
          simpa using b4
        exact cF.l2 ho (.inr ⟨h9, hX a e (Nat.le_refl _) h1 b1 (by omega)⟩) (hR.le b1 hj1 hj2)
      intro i j hi1 hij hjb; unfold rot; subst hm
      have q1 : ∀ k, a <= k -> k < e - 1 -> (a <= k /\ k < a + (e - (a + 1))) := fun k _ _ => by omega
      rcases Nat.lt_trichotomy j (e - 1) with hj | hj | hj
      . rw [if_pos (q1 i hi1 (by omega)), if_pos (q1 j (by omega) hj)]
        exact hR _ _ (by omega) (by omega) (by omega)
      . rw [if_pos (q1 i hi1 (by omega)), if_neg (by omega), if_pos (by omega)]
        have : j - (e - (a + 1)) = a := by omega
        rw [this]
        exact lo _ (by omega) (by omega)
      rw [if_neg (show ¬ (a <= j /\ j < a + (e - (a + 1))) by omega), if_neg (show ¬ (a + (e - (a + 1)) <= j /\ j < e) by omega)]
      rcases Nat.lt_trichotomy i (e - 1) with hi2 | hi2 | hi2
      . rw [if_pos (q1 i hi1 hi2)]
        exact hR _ _ (by omega) (by omega) hjb
      . rw [if_neg (by omega), if_pos (by omega)]
        have : i - (e - (a + 1)) = a := by omega
        rw [this]
        exact hi _ (by omega) hjb
      rw [if_neg (by omega), if_neg (by omega)]
      exact hR _ _ (by omega) hij hjb
    split
    . rename_i hn hbm
      have hb : b = m + 1 := by omega
      obtain ⟨b1, b2, b3, b4⟩ := bs_ok (fun h => l (σ m) (σ h)) (f := m) (s := a) (r := m) (by omega) (by omega)
      generalize gX (fun h => l (σ m) (σ h)) m a m = e at b1 b2 b3 b4
      refine ⟨(dC.rot σ b2 (by omega)).wide b1 (Nat.le_refl _), ?_⟩
      have lo : ∀ j, a <= j -> j < e -> cF l (σ j) (σ m) := fun j hj1 hj2 => by
        have h9 : l (σ m) (σ (e - 1)) = false := by
          rcases b3 with b3 | b3
          . omega
          exact b3
        exact cF.l1 ho (hL.le hj1 (show j <= e - 1 by omega) (by omega)) (.inr ⟨h9, hX (e - 1) m (by omega) (by omega) (Nat.le_refl _) h2⟩)
      have hi : ∀ j, e <= j -> j < m -> cF l (σ m) (σ j) := fun j hj1 hj2 => by
        have h9 : l (σ m) (σ e) = true := by
          rcases b4 with b4 | b4
          . omega
          exact b4
        exact cF.l2 ho (.inl h9) (hL.le b1 hj1 hj2)
      intro i j hi1 hij hjb; unfold rot; subst hb
      rcases Nat.lt_trichotomy i e with hi2 | hi2 | hi2
      . rw [if_neg (show ¬ (e <= i /\ i < e + (m + 1 - m)) by omega), if_neg (show ¬ (e + (m + 1 - m) <= i /\ i < m + 1) by omega)]
        rcases Nat.lt_trichotomy j e with hj2 | hj2 | hj2
        . rw [if_neg (by omega), if_neg (by omega)]; exact hL _ _ hi1 hij (by omega)
        . rw [if_pos (by omega)]
          have : j + (m - e) = m := by omega
          rw [this]; exact lo _ hi1 hi2
        rw [if_neg (by omega), if_pos (by omega)]; exact hL _ _ hi1 (by omega) (by omega)
      . rw [if_pos (show e <= i /\ i < e + (m + 1 - m) by omega), if_neg (by omega), if_pos (by omega)]
        have : i + (m - e) = m := by omega
        rw [this]; exact hi _ (by omega) (by omega)
      rw [if_neg (show ¬ (e <= i /\ i < e + (m + 1 - m)) by omega), if_pos (show e + (m + 1 - m) <= i /\ i < m + 1 by omega), if_neg (by omega), if_pos (by omega)]
      exact hL _ _ (by omega) (by omega) (by omega)
    rename_i hn1 hn2
    obtain ⟨c1, c2, c3, c4, c5, c6, c7⟩ := symCut_ok (l := l) (σ := σ) h1 h2
    generalize iG l σ a m b = st at c1 c2 c3 c4 c5 c6 c7
    simp only
    generalize hen : (a + b) / 2 + m - st = en at c4 c5 c6 c7
    generalize hmid : (a + b) / 2 = mid at c3 hen
    have hstep : st + (en - m) = mid := by omega
    have e1 : ∀ k, (if st < m /\ m < en then rot σ st m en else σ) k = if st <= k /\ k < mid then σ (k + (m - st)) else if mid <= k /\ k < en then σ (k - (en - m)) else σ k := fun k => by
      split
      . unfold rot; rw [hstep]
      rename_i hc
      by_cases hs : st = m
      . subst hs; split
        . rw [Nat.sub_self, Nat.add_zero]
        split
        . omega
        rfl
      have : en = m := by omega
      subst this; split
      . omega
      split
      . rw [Nat.sub_self, Nat.sub_zero]
      rfl
    have r1 : dC a b σ (if st < m /\ m < en then rot σ st m en else σ) := by
      split
      . exact (dC.rot σ c2 c4).wide c1 c5
      exact .refl a b σ
    generalize (if st < m /\ m < en then rot σ st m en else σ) = σ1 at e1 r1
    have x1 : ∀ i j, a <= i -> i < mid -> mid <= j -> j < b -> cF l (σ1 i) (σ1 j) := by
      intro i j hi1 hi2 hj1 hj2; rw [e1 i, e1 j, if_neg (show ¬ (st <= j /\ j < mid) by omega)]
      by_cases hi3 : st <= i
      . rw [if_pos ⟨hi3, hi2⟩]
        by_cases hj3 : j < en
        . rw [if_pos ⟨hj1, hj3⟩]
          have h9 := c7 (by omega) (by omega)
          exact cF.l1 ho (hR.le (by omega) (show i + (m - st) <= en - 1 by omega) (by omega)) (cF.l2 ho (.inl h9) (hL.le c1 (show st <= j - (en - m) by omega) (by omega)))
        rw [if_neg (by omega)]
        exact hR _ _ (by omega) (by omega) hj2
      rw [if_neg (by omega), if_neg (show ¬ (mid <= i /\ i < en) by omega)]
      by_cases hj3 : j < en
      . rw [if_pos ⟨hj1, hj3⟩]
        exact hL _ _ hi1 (by omega) (by omega)
      rw [if_neg (by omega)]
      have h9 := c6 (by omega) (by omega)
      exact cF.l1 ho (hL.le hi1 (show i <= st - 1 by omega) (by omega)) (cF.l2 ho (.inr ⟨h9, hX _ _ (by omega) (by omega) c4 (by omega)⟩) (hR.le c4 (show en <= j by omega) hj2))
    have s1 : Sor l σ1 a st := fun i j hi hij hj => by
      rw [e1 i, e1 j, if_neg (by omega), if_neg (by omega), if_neg (by omega), if_neg (by omega)]
      exact hL i j hi hij (by omega)
    have s2 : Sor l σ1 st mid := fun i j hi hij hj => by
      rw [e1 i, e1 j, if_pos ⟨hi, by omega⟩, if_pos ⟨by omega, hj⟩]
      exact hR _ _ (by omega) (by omega) (by omega)
    have s3 : Sor l σ1 mid en := fun i j hi hij hj => by
      rw [e1 i, e1 j, if_neg (by omega), if_pos ⟨hi, by omega⟩, if_neg (by omega), if_pos ⟨by omega, hj⟩]
      exact hL _ _ (by omega) (by omega) (by omega)
    have s4 : Sor l σ1 en b := fun i j hi hij hj => by
      rw [e1 i, e1 j, if_neg (by omega), if_neg (by omega), if_neg (by omega), if_neg (by omega)]
      exact hR i j (by omega) hij hj
    have x2 : ∀ i j, a <= i -> i < st -> st <= j -> j < mid -> σ1 i < σ1 j := fun i j hi hi2 hj hj2 => by
      rw [e1 i, e1 j, if_neg (by omega), if_neg (by omega), if_pos ⟨hj, hj2⟩]
      exact hX _ _ hi (by omega) (by omega) (by omega)
    have x3 : ∀ i j, mid <= i -> i < en -> en <= j -> j < b -> σ1 i < σ1 j := fun i j hi hi2 hj hj2 => by
      rw [e1 i, e1 j, if_neg (by omega), if_pos ⟨hi, hi2⟩, if_neg (by omega), if_neg (by omega)]
      exact hX _ _ (by omega) (by omega) (by omega) hj2
    have L : dC a mid σ1 (if a < st /\ st < mid then lX l f σ1 a st mid else σ1) /\ Sor l (if a < st /\ st < mid then lX l f σ1 a st mid else σ1) a mid := by
      split
      . rename_i hc
        exact aUt ho f σ1 a st mid (by omega) hc.1 hc.2 s1 s2 x2
      refine ⟨.refl _ _ _, ?_⟩
      by_cases hc : a = st
      . rw [hc]; exact s2
      have : st = mid := by omega
      rw [<- this]; exact s1
    generalize (if a < st /\ st < mid then lX l f σ1 a st mid else σ1) = σ2 at L
    have out2 : ∀ k, mid <= k -> σ2 k = σ1 k := fun k hk => L.1.out (.inr hk)
    have R : dC mid b σ2 (if mid < en /\ en < b then lX l f σ2 mid en b else σ2) /\ Sor l (if mid < en /\ en < b then lX l f σ2 mid en b else σ2) mid b := by
      have t3 : Sor l σ2 mid en := fun i j hi hij hj => by rw [out2 i hi, out2 j (by omega)]; exact s3 i j hi hij hj
      have t4 : Sor l σ2 en b := fun i j hi hij hj => by rw [out2 i (by omega), out2 j (by omega)]; exact s4 i j hi hij hj
      split
      . rename_i hc
        exact aUt ho f σ2 mid en b (by omega) hc.1 hc.2 t3 t4 fun i j hi hi2 hj hj2 => by rw [out2 i hi, out2 j (by omega)]; exact x3 i j hi hi2 hj hj2
      refine ⟨.refl _ _ _, ?_⟩
      by_cases hc : mid = en
      . rw [hc]; exact t4
      have : en = b := by omega
      rw [<- this]; exact t3
    generalize (if mid < en /\ en < b then lX l f σ2 mid en b else σ2) = σ3 at R
    refine ⟨(r1.trans (L.1.wide (Nat.le_refl _) (by omega))).trans (R.1.wide (by omega) (Nat.le_refl _)), fun i j hi hij hj => ?_⟩
    by_cases hj2 : j < mid
    . rw [R.1.out (.inl hj2), R.1.out (.inl (by omega))]
      exact L.2 i j hi hij hj2
    by_cases hi2 : mid <= i
    . exact R.2 i j hi2 hij hj
    rw [R.1.out (k := i) (.inl (by omega))]
    refine R.1.all (φ := fun x => cF l (σ2 i) x) (fun k hk1 hk2 => ?_) j (by omega) hj
    rw [out2 k hk1]
    exact L.1.all (φ := fun x => cF l x (σ1 k)) (fun k' hk1' hk2' => x1 k' k hk1' hk2' hk1 hk2) i hi (by omega)
end
end
section
variable {σ : Nat -> Nat} {a b : Nat}
section
variable (l : Nat -> Nat -> Bool)
def mV (n bs : Nat) : Nat -> (Nat -> Nat) -> Nat -> (Nat -> Nat) × Nat
  | 0, σ, a => (σ, a)
  | f + 1, σ, a => if a + bs <= n then mV n bs f (gL l σ a (a + bs)) (a + bs) else (σ, a)
def nF (n bs : Nat) : Nat -> (Nat -> Nat) -> Nat -> (Nat -> Nat) × Nat
  | 0, σ, a => (σ, a)
  | f + 1, σ, a => if a + 2 * bs <= n then nF n bs f (lX l n σ a (a + bs) (a + 2 * bs)) (a + 2 * bs) else (σ, a)
def pE (n bs : Nat) (p : (Nat -> Nat) × Nat) : Nat -> Nat := if p.2 + bs < n then lX l n p.1 p.2 (p.2 + bs) n else p.1
def nQ (n : Nat) : Nat -> Nat -> (Nat -> Nat) -> (Nat -> Nat)
  | 0, _, σ => σ
  | f + 1, bs, σ => if bs < n then nQ n f (2 * bs) (pE l n bs (nF l n bs n σ 0)) else σ
def aIl (n : Nat) : Nat -> Nat := nQ l n n 20 (gL l (mV l n 20 n id 0).1 (mV l n 20 n id 0).2 n)
def Bl (σ : Nat -> Nat) (c d : Nat) : Prop := Sor l σ c d /\ ∀ k, c <= k -> k < d -> c <= σ k /\ σ k < d
variable {l}
def Bl.out {σ τ : Nat -> Nat} {c d a b : Nat} (h : Bl l σ c d) (hr : dC a b σ τ) (hd : d <= a ∨ b <= c) : Bl l τ c d :=
  ⟨fun i j hi hij hj => by rw [hr.out (by omega), hr.out (by omega)]; exact h.1 i j hi hij hj, fun k h1 h2 => by rw [hr.out (by omega)]; exact h.2 k h1 h2⟩
def Bl.merge (ho : Orders l) {a m b f : Nat} (hf : b - a <= f) (h1 : a < m) (h2 : m < b) (hl : Bl l σ a m) (hr : Bl l σ m b) : dC a b σ (lX l f σ a m b) /\ Bl l (lX l f σ a m b) a b := by
  obtain ⟨k1, k2⟩ := aUt ho f σ a m b hf h1 h2 hl.1 hr.1 fun i j h3 h4 h5 h6 => by
    have := (hl.2 i h3 h4).2
    have := (hr.2 j h5 h6).1
    omega
  refine ⟨k1, k2, fun k hk1 hk2 => k1.all (φ := fun x => a <= x /\ x < b) (fun k h3 h4 => ?_) k hk1 hk2⟩
  by_cases hm : k < m
  . have := hl.2 k h3 hm; omega
  have := hr.2 k (by omega) h4; omega
def Bl.insert (ho : Orders l) (hab : a <= b) (h : ∀ k, a <= k -> k < b -> σ k = k) : dC a b σ (gL l σ a b) /\ Bl l (gL l σ a b) a b := by
  by_cases e : a = b
  . subst e
    have : gL l σ a a = σ := by unfold gL; rw [show a - (a + 1) = 0 by omega]; rfl
    rw [this]
    exact ⟨.refl _ _ _, fun i j h1 h2 h3 => by omega, fun k h1 h2 => by omega⟩
  obtain ⟨k1, k2⟩ := aZv ho (σ := σ) (a := a) (b := b) (by omega) (fun u v h1 h2 h3 => by rw [h u h1 (by omega), h v (by omega) h3]; exact h2)
  exact ⟨k1, k2, k1.all (φ := fun x => a <= x /\ x < b) fun k h1 h2 => by rw [h k h1 h2]; exact ⟨h1, h2⟩⟩
def aVh (ho : Orders l) (n bs : Nat) (hbs : 0 < bs) : ∀ (f : Nat) (σ : Nat -> Nat) (q : Nat), n <= f + q * bs -> q * bs <= n -> dC 0 n id σ -> (∀ k, q * bs <= k -> σ k = k) -> (∀ r, r < q -> Bl l σ (r * bs) (r * bs + bs)) ->
    ∃ q', (mV l n bs f σ (q * bs)).2 = q' * bs /\ q' * bs <= n /\ n < q' * bs + bs /\ dC 0 n id (mV l n bs f σ (q * bs)).1 /\ (∀ k, q' * bs <= k -> (mV l n bs f σ (q * bs)).1 k = k) /\ ∀ r, r < q' -> Bl l (mV l n bs f σ (q * bs)).1 (r * bs) (r * bs + bs)
  | 0, σ, q, hf, hq, h1, h2, h3 => ⟨q, rfl, hq, by omega, h1, h2, h3⟩
  | f + 1, σ, q, hf, hq, h1, h2, h3 => by
    unfold mV; split
    . rename_i hc
      obtain ⟨k1, k2⟩ := Bl.insert ho (σ := σ) (a := q * bs) (b := q * bs + bs) (by omega) (fun k hk1 _ => h2 k hk1)
      have e : q * bs + bs = (q + 1) * bs := by rw [Nat.succ_mul]
      rw [e] at k1 k2 hc ⊢
      refine aVh ho n bs hbs f _ (q + 1) (by rw [<- e]; omega) hc (h1.trans (k1.wide (Nat.zero_le _) hc)) (fun k hk => by rw [k1.out (.inr hk)]; exact h2 k (by omega)) fun r hr => ?_
      by_cases hrq : r = q
      . subst hrq; rw [e]; exact k2
      have : (r + 1) * bs <= q * bs := Nat.mul_le_mul_right bs (by omega)
      rw [Nat.succ_mul] at this
      exact (h3 r (by omega)).out k1 (.inl (by omega))
    rename_i hc
    exact ⟨q, rfl, hq, by omega, h1, h2, h3⟩
def Bls (l : Nat -> Nat -> Bool) (n bs : Nat) (σ : Nat -> Nat) : Prop := dC 0 n id σ /\ ∀ r, r * bs < n -> Bl l σ (r * bs) (min (r * bs + bs) n)
def bKz (ho : Orders l) (n bs : Nat) (hbs : 0 < bs) : Bls l n bs (gL l (mV l n bs n id 0).1 (mV l n bs n id 0).2 n) := by
  obtain ⟨q, e1, e2, e3, e4, e5, e6⟩ := aVh ho n bs hbs n id 0 (by omega) (by omega) (.refl _ _ _) (fun _ _ => rfl) (fun r hr => by omega)
  rw [Nat.zero_mul] at e1 e4 e5 e6
  rw [e1]
  obtain ⟨k1, k2⟩ := Bl.insert ho (σ := (mV l n bs n id 0).1) e2 (fun k hk _ => e5 k hk)
  refine ⟨e4.trans (k1.wide (Nat.zero_le _) (Nat.le_refl _)), fun r hr => ?_⟩
  by_cases hrq : r < q
  . have : (r + 1) * bs <= q * bs := Nat.mul_le_mul_right bs hrq
    rw [Nat.succ_mul] at this; rw [Nat.min_eq_left (by omega)]
    exact (e6 r hrq).out k1 (.inl (by omega))
  have hq : r = q := by
    rcases Nat.lt_or_ge q r with h | h
    . have : (q + 1) * bs <= r * bs := Nat.mul_le_mul_right bs h
      rw [Nat.succ_mul] at this; omega
    omega
  subst hq; rw [Nat.min_eq_right (by omega)]; exact k2
def aXn (ho : Orders l) (n bs : Nat) (hbs : 0 < bs) : ∀ (f : Nat) (σ : Nat -> Nat) (q : Nat), n <= f + q * (2 * bs) -> q * (2 * bs) <= n -> dC 0 n id σ -> (∀ r, r < q -> Bl l σ (r * (2 * bs)) (r * (2 * bs) + 2 * bs)) ->
    (∀ r, 2 * q <= r -> r * bs < n -> Bl l σ (r * bs) (min (r * bs + bs) n)) -> Bls l n (2 * bs) (pE l n bs (nF l n bs f σ (q * (2 * bs))))
  | 0, σ, q, hf, hq, h1, h2, h3 => by
    refine ⟨?_, ?_⟩
    . unfold pE nF
      simp only
      rw [if_neg (by omega)]; exact h1
    intro r hr; unfold pE nF
    simp only
    rw [if_neg (by omega)]
    have hrq : r < q := by
      rcases Nat.lt_or_ge r q with h | h
      . exact h
      have := Nat.mul_le_mul_right (2 * bs) h; omega
    have : (r + 1) * (2 * bs) <= q * (2 * bs) := Nat.mul_le_mul_right _ hrq
    rw [Nat.succ_mul] at this; rw [Nat.min_eq_left (by omega)]
    exact h2 r hrq
  | f + 1, σ, q, hf, hq, h1, h2, h3 => by
    have e1 : (2 * q) * bs = q * (2 * bs) := by rw [Nat.mul_comm 2 q, Nat.mul_assoc]
    have e2 : (2 * q + 1) * bs = q * (2 * bs) + bs := by rw [Nat.succ_mul, e1]
    have e3 : q * (2 * bs) + 2 * bs = (q + 1) * (2 * bs) := (Nat.succ_mul q (2 * bs)).symm
    unfold nF; split
    . rename_i hc
      have b1 := h3 (2 * q) (Nat.le_refl _) (by omega)
      have b2 := h3 (2 * q + 1) (by omega) (by omega)
      rw [e1, Nat.min_eq_left (by omega)] at b1; rw [e2, Nat.min_eq_left (by omega), show q * (2 * bs) + bs + bs = q * (2 * bs) + 2 * bs by omega] at b2
      obtain ⟨k1, k2⟩ := Bl.merge ho (f := n) (by omega) (by omega) (by omega) b1 b2
      rw [e3] at k1 k2 hc ⊢
      refine aXn ho n bs hbs f _ (q + 1) (by rw [<- e3]; omega) hc (h1.trans (k1.wide (Nat.zero_le _) hc)) (fun r hr => ?_) fun r hr hrn => ?_
      . by_cases hrq : r = q
        . subst hrq; rw [e3]; exact k2
        have : (r + 1) * (2 * bs) <= q * (2 * bs) := Nat.mul_le_mul_right _ (by omega)
        rw [Nat.succ_mul] at this
        exact (h2 r (by omega)).out k1 (.inl (by omega))
      have : (2 * (q + 1)) * bs <= r * bs := Nat.mul_le_mul_right bs hr
      rw [show (2 * (q + 1)) * bs = (q + 1) * (2 * bs) by rw [Nat.mul_comm 2, Nat.mul_assoc]] at this
      exact (h3 r (by omega) hrn).out k1 (.inr this)
    rename_i hc
    have last : ∀ r, r * (2 * bs) < n -> r < q ∨ r = q := fun r hr => by
      rcases Nat.lt_or_ge q r with h | h
      . have : (q + 1) * (2 * bs) <= r * (2 * bs) := Nat.mul_le_mul_right _ h
        rw [Nat.succ_mul] at this; omega
      omega
    have low : ∀ r, r < q -> r * (2 * bs) + 2 * bs <= q * (2 * bs) := fun r hr => by
      have : (r + 1) * (2 * bs) <= q * (2 * bs) := Nat.mul_le_mul_right _ hr
      rw [Nat.succ_mul] at this; exact this
    unfold pE
    simp only
    split
    . rename_i hd
      have b1 := h3 (2 * q) (Nat.le_refl _) (by omega)
      have b2 := h3 (2 * q + 1) (by omega) (by omega)
      rw [e1, Nat.min_eq_left (by omega)] at b1; rw [e2, Nat.min_eq_right (by omega)] at b2
      obtain ⟨k1, k2⟩ := Bl.merge ho (f := n) (by omega) (by omega) (by omega) b1 b2
      refine ⟨h1.trans (k1.wide (Nat.zero_le _) (Nat.le_refl _)), fun r hr => ?_⟩
      rcases last r hr with hrq | hrq
      . have := low r hrq
        rw [Nat.min_eq_left (by omega)]
        exact (h2 r hrq).out k1 (.inl this)
      subst hrq; rw [Nat.min_eq_right (by omega)]; exact k2
    rename_i hd
    refine ⟨h1, fun r hr => ?_⟩
    rcases last r hr with hrq | hrq
    . have := low r hrq
      rw [Nat.min_eq_left (by omega)]
      exact h2 r hrq
    subst hrq
    have b1 := h3 (2 * r) (Nat.le_refl _) (by omega)
    rw [e1, Nat.min_eq_right (by omega)] at b1; rw [Nat.min_eq_right (by omega)]; exact b1
def aRa (ho : Orders l) (n : Nat) : ∀ (f bs : Nat) (σ : Nat -> Nat), 0 < bs -> n <= f + bs -> Bls l n bs σ -> dC 0 n id (nQ l n f bs σ) /\ Sor l (nQ l n f bs σ) 0 n
  | 0, bs, σ, hbs, hf, h => by
    unfold nQ
    refine ⟨h.1, fun i j hi hij hj => ?_⟩
    have := (h.2 0 (by omega)).1
    rw [Nat.zero_mul, Nat.min_eq_right (by omega)] at this
    exact this i j hi hij hj
  | f + 1, bs, σ, hbs, hf, h => by
    unfold nQ; split
    . have := aXn ho n bs hbs n σ 0 (by omega) (by omega) h.1 (fun r hr => by omega) (fun r _ hr => h.2 r hr)
      rw [Nat.zero_mul] at this
      exact aRa ho n f (2 * bs) _ (by omega) (by omega) this
    refine ⟨h.1, fun i j hi hij hj => ?_⟩
    have := (h.2 0 (by omega)).1
    rw [Nat.zero_mul, Nat.min_eq_right (by omega)] at this
    exact this i j hi hij hj
def bBw (ho : Orders l) (n : Nat) : dC 0 n id (aIl l n) /\ Sor l (aIl l n) 0 n :=
  aRa ho n n 20 _ (by omega) (by omega) (bKz ho n 20 (by omega))
end
section
variable {α : Type} (lt : α -> α -> Bool)
def pos (ls : List α) (e : α) : Nat -> Nat
  | 0 => 0
  | k + 1 => match ls[k]? with
    | some x => if lt e x = true then pos ls e k else k + 1
    | none => k + 1
def put (ls : List α) (e : α) : List α := ls.take (pos lt ls e ls.length) ++ e :: ls.drop (pos lt ls e ls.length)
variable {lt}
def bIt (ls : List α) (e : α) : ∀ k, pos lt ls e k <= k
  | 0 => Nat.le_refl _
  | k + 1 => by
    unfold pos; split
    . split
      . have := bIt ls e k; omega
      omega
    omega
def bHz (ls : List α) (e : α) : ∀ k j x, pos lt ls e k <= j -> j < k -> ls[j]? = some x -> lt e x = true
  | 0, j, x, h1, h2, h3 => by omega
  | k + 1, j, x, h1, h2, h3 => by
    unfold pos at h1; split at h1
    . rename_i y hy
      split at h1
      . rename_i hl
        by_cases e' : j = k
        . subst e'; rw [hy] at h3; cases h3; exact hl
        exact bHz ls e k j x h1 (by omega) h3
      omega
    omega
def bLr (ls : List α) (e : α) : ∀ k x, k <= ls.length -> 0 < pos lt ls e k -> ls[pos lt ls e k - 1]? = some x -> lt e x = false
  | 0, x, hk, h1, h2 => by unfold pos at h1; omega
  | k + 1, x, hk, h1, h2 => by
    have hk' : ls[k]? = some ls[k] := List.getElem?_eq_getElem (by omega)
    unfold pos at h1 h2
    simp only [hk'] at h1 h2
    by_cases hl : lt e ls[k] = true
    . rw [if_pos hl] at h1 h2
      exact bLr ls e k x (by omega) h1 h2
    rw [if_neg hl, Nat.add_sub_cancel, hk'] at h2; cases h2
    simpa using hl
def bDd {β : Type} (f : β -> α) (ls : List β) (e : β) : ∀ k, pos lt (ls.map f) (f e) k = pos (fun x y => lt (f x) (f y)) ls e k
  | 0 => rfl
  | k + 1 => by
    unfold pos; rw [List.getElem?_map]
    cases ls[k]? with
    | none => rfl
    | some x => simp only [Option.map_some]; rw [bDd f ls e k]
def bMc {β : Type} (f : β -> α) (ls : List β) (e : β) : put lt (ls.map f) (f e) = (put (fun x y => lt (f x) (f y)) ls e).map f := by
  unfold put; rw [List.length_map, bDd]
  simp [List.map_take, List.map_drop]
def aVa {β : Type} (f : β -> α) : ∀ (r ls : List β), (r.map f).foldl (put lt) (ls.map f) = (r.foldl (put (fun x y => lt (f x) (f y))) ls).map f
  | [], ls => rfl
  | e :: r, ls => by
    rw [List.map_cons, List.foldl_cons, List.foldl_cons, bMc]
    exact aVa f r _
end
variable {l : Nat -> Nat -> Bool}
def bPl (ho : Orders l) {ls : List Nat} {e : Nat} (h : ls.Pairwise (cF l)) (hx : ∀ x ∈ ls, x < e) : (put l ls e).Pairwise (cF l) /\ (put l ls e).Perm (e :: ls) := by
  have hp := bIt (lt := l) ls e ls.length
  have hhi := bHz (lt := l) ls e ls.length
  have hlo := fun x => bLr (lt := l) ls e ls.length x (Nat.le_refl _)
  unfold put
  generalize pos l ls e ls.length = p at hp hhi hlo
  have hsplit : ls = ls.take p ++ ls.drop p := (List.take_append_drop p ls).symm
  have hd : ∀ x ∈ ls.drop p, cF l e x := fun x hxd => by
    obtain ⟨i, hi⟩ := List.getElem?_of_mem hxd
    rw [List.getElem?_drop] at hi
    exact .inl (hhi (p + i) x (by omega) (List.getElem?_eq_some_iff.1 hi).1 hi)
  have ht : ∀ x ∈ ls.take p, cF l x e := fun x hxt => by
    obtain ⟨i, hi⟩ := List.getElem?_of_mem hxt
    rw [List.getElem?_take] at hi; split at hi
    . rename_i hip
      have h1 : ls[p - 1]? = some ls[p - 1] := List.getElem?_eq_getElem (by omega)
      have h2 : cF l ls[p - 1] e := .inr ⟨hlo _ (by omega) h1, hx _ (List.getElem_mem _)⟩
      by_cases e' : i = p - 1
      . subst e'; rw [h1] at hi; cases hi; exact h2
      have h3 := List.pairwise_iff_getElem.1 h i (p - 1) (by omega) (by omega) (by omega)
      have : ls[i] = x := by rw [List.getElem?_eq_getElem (by omega)] at hi; exact Option.some.inj hi
      rw [<- this]
      exact h3.trans ho h2
    cases hi
  refine ⟨?_, ?_⟩
  . rw [hsplit, List.pairwise_append] at h; rw [List.pairwise_append]
    refine ⟨h.1, List.pairwise_cons.2 ⟨hd, h.2.1⟩, fun x hx1 y hy => ?_⟩
    rcases List.mem_cons.1 hy with hy | hy
    . rw [hy]; exact ht x hx1
    exact h.2.2 x hx1 y hy
  refine List.perm_middle.trans ?_
  rw [List.take_append_drop]
def bDy (ho : Orders l) : ∀ n, ((List.range n).foldl (put l) []).Pairwise (cF l) /\ ((List.range n).foldl (put l) []).Perm (List.range n)
  | 0 => ⟨List.Pairwise.nil, .refl _⟩
  | n + 1 => by
    obtain ⟨h1, h2⟩ := bDy ho n
    rw [List.range_succ, List.foldl_append]
    obtain ⟨k1, k2⟩ := bPl ho (e := n) h1 (fun x hx => List.mem_range.1 (h2.mem_iff.1 hx))
    refine ⟨k1, k2.trans ?_⟩
    exact (List.Perm.cons n h2).trans (List.perm_append_singleton n _).symm
def bFs (ho : Orders l) (n : Nat) : (List.range n).map (aIl l n) = (List.range n).foldl (put l) [] := by
  obtain ⟨h1, h2⟩ := bBw ho n
  obtain ⟨h3, h4⟩ := bDy ho n
  have hpw : ((List.range n).map (aIl l n)).Pairwise (cF l) := by
    rw [List.pairwise_map]
    exact List.pairwise_iff_getElem.2 fun i j hi hj hij => by simp at hi hj ⊢; exact h2 i j (Nat.zero_le _) hij hj
  have hnd : ∀ {ls : List Nat}, ls.Pairwise (cF l) -> ls.Nodup := fun {ls} h => h.imp fun {a b} hab e => by subst e; exact cF.irrefl ho hab
  refine List.Perm.eq_of_pairwise (le := cF l) (fun a b _ _ h5 h6 => absurd (h5.trans ho h6) (cF.irrefl ho)) hpw h3 ?_
  refine (List.perm_ext_iff_of_nodup (hnd hpw) (hnd h3)).2 fun x => ?_
  rw [h4.mem_iff, List.mem_map, List.mem_range]
  obtain ⟨p, q, e1, e2, e3, e4, e5⟩ := h1
  constructor
  . rintro ⟨k, hk, rfl⟩
    rw [e1]
    exact (e4 k (Nat.zero_le _) (List.mem_range.1 hk)).2
  intro hx
  refine ⟨q x, List.mem_range.2 ?_, by rw [e1, e2]; rfl⟩
  rcases Nat.lt_or_ge (q x) n with h | h
  . exact h
  have := e5 (q x) (.inr h)
  rw [e2] at this; omega
def stab_list {α : Type} {lt : α -> α -> Bool} (d : Nat -> α) (ls : List α) (hd : ∀ i, i < ls.length -> ls[i]? = some (d i)) (ho : Orders fun i j => lt (d i) (d j)) :
    (List.range ls.length).map (fun i => d (aIl (fun i j => lt (d i) (d j)) ls.length i)) = ls.foldl (put lt) [] := by
  have e1 : ls = (List.range ls.length).map d := by
    refine List.ext_getElem? fun i => ?_
    rw [List.getElem?_map]
    by_cases h : i < ls.length
    . rw [hd i h, List.getElem?_range h]; rfl
    rw [List.getElem?_eq_none (by omega), List.getElem?_eq_none (by simp; omega)]; rfl
  have e2 := aVa (lt := lt) d (List.range ls.length) []
  rw [<- e1, List.map_nil] at e2; rw [e2, <- bFs ho, List.map_map]; rfl
end
section
variable {n i : Nat}
structure WO {α : Type} (lt : α -> α -> Bool) (D : α -> Prop) : Prop where
  irrefl : ∀ x, D x -> lt x x = false
  trans : ∀ x y z, D x -> D y -> D z -> lt x y = true -> lt y z = true -> lt x z = true
  neg : ∀ x y z, D x -> D y -> D z -> lt x y = false -> lt y z = false -> lt x z = false
def WO.asymm {α : Type} {lt : α -> α -> Bool} {D : α -> Prop} (h : WO lt D) {x y : α} (hx : D x) (hy : D y) (h1 : lt x y = true) : lt y x = false := by
  cases h2 : lt y x with
  | false => rfl
  | true => have := h.trans x y x hx hy hx h1 h2; rw [h.irrefl x hx] at this; cases this
def WO.orders {α : Type} {lt : α -> α -> Bool} (h : WO lt fun _ => True) (d : Nat -> α) : Orders fun i j => lt (d i) (d j) :=
  ⟨fun x => h.irrefl _ trivial, fun x y z => h.trans _ _ _ trivial trivial trivial, fun x y z => h.neg _ _ _ trivial trivial trivial⟩
def aJu {p : Nat -> Nat} (h : dC 0 n id p) : ((List.range n).map p).Perm (List.range n) := by
  obtain ⟨u, q, e1, e2, e3, e4, e5⟩ := h
  have hp : ∀ k, p k = u k := fun k => e1 k
  have hnd : ((List.range n).map p).Nodup := by
    rw [List.nodup_iff_pairwise_ne, List.pairwise_map]
    refine List.pairwise_iff_getElem.2 fun i j hi hj hij e => ?_
    simp only [List.getElem_range, hp] at e
    have := congrArg q e
    rw [e3, e3] at this; omega
  refine (List.perm_ext_iff_of_nodup hnd List.nodup_range).2 fun x => ?_
  rw [List.mem_map, List.mem_range]
  constructor
  . rintro ⟨k, hk, rfl⟩
    rw [hp]
    exact (e4 k (Nat.zero_le _) (List.mem_range.1 hk)).2
  intro hx
  refine ⟨q x, List.mem_range.2 ?_, by rw [hp, e2]⟩
  rcases Nat.lt_or_ge (q x) n with h | h
  . exact h
  have := e5 (q x) (.inr h)
  rw [e2] at this; omega
section
variable {α : Type}
def swpA (h : Nat -> α) (i j : Nat) : Nat -> α := fun k => if k = i then h j else if k = j then h i else h k
def SameA (n : Nat) (h h' : Nat -> α) : Prop := ((List.range n).map h').Perm ((List.range n).map h) /\ ∀ k, n <= k -> h' k = h k
def SameA.refl (n : Nat) (h : Nat -> α) : SameA n h h := ⟨.refl _, fun _ _ => rfl⟩
def SameA.trans {h h' h'' : Nat -> α} (a : SameA n h h') (b : SameA n h' h'') : SameA n h h'' := ⟨b.1.trans a.1, fun k hk => (b.2 k hk).trans (a.2 k hk)⟩
def SameA.all {h h' : Nat -> α} (a : SameA n h h') {φ : α -> Prop} (hφ : ∀ k, k < n -> φ (h k)) : ∀ k, k < n -> φ (h' k) := fun k hk => by
  have h1 : h' k ∈ (List.range n).map h' := List.mem_map.2 ⟨k, List.mem_range.2 hk, rfl⟩
  obtain ⟨j, hj, e⟩ := List.mem_map.1 (a.1.mem_iff.1 h1)
  rw [<- e]
  exact hφ j (List.mem_range.1 hj)
def SameA.swp {n i j : Nat} (h : Nat -> α) (hi : i < n) (hj : j < n) : SameA n h (swpA h i j) := by
  refine ⟨?_, fun k hk => by unfold swpA; rw [if_neg (by omega), if_neg (by omega)]⟩
  have h1 := (aJu (dC.swp (a := 0) (b := n) id ⟨Nat.zero_le _, hi⟩ ⟨Nat.zero_le _, hj⟩)).map h
  rw [List.map_map] at h1
  have e : (h ∘ Plain.swp id i j) = swpA h i j := by
    funext k
    simp only [Function.comp, Plain.swp, swpA, id]; split
    . rfl
    split <;> rfl
  rw [e] at h1; exact h1
variable (less : α -> α -> Bool)
def kid (h : Nat -> α) (n i : Nat) : Nat := if 2 * i + 2 < n /\ less (h (2 * i + 2)) (h (2 * i + 1)) = true then 2 * i + 2 else 2 * i + 1
def downGo (n : Nat) : Nat -> (Nat -> α) -> Nat -> (Nat -> α) × Nat
  | 0, h, i => (h, i)
  | f + 1, h, i => if 2 * i + 1 < n then (if less (h (kid less h n i)) (h i) = true then downGo n f (swpA h i (kid less h n i)) (kid less h n i) else (h, i)) else (h, i)
def HPx (n lo : Nat) (h : Nat -> α) (i : Nat) : Prop := ∀ p c, lo <= p -> p ≠ i -> (c = 2 * p + 1 ∨ c = 2 * p + 2) -> c < n -> less (h c) (h p) = false
def HP (n lo : Nat) (h : Nat -> α) : Prop := ∀ p c, lo <= p -> (c = 2 * p + 1 ∨ c = 2 * p + 2) -> c < n -> less (h c) (h p) = false
variable {less}
def bPo {D : α -> Prop} (ho : WO less D) {h : Nat -> α} (hD : ∀ k, k < n -> D (h k)) (hn : 2 * i + 1 < n) :
    kid less h n i < n /\ (kid less h n i = 2 * i + 1 ∨ kid less h n i = 2 * i + 2) /\ ∀ c, (c = 2 * i + 1 ∨ c = 2 * i + 2) -> c < n -> less (h c) (h (kid less h n i)) = false := by
  unfold kid; split
  . rename_i hc
    refine ⟨hc.1, .inr rfl, fun c h1 h2 => ?_⟩
    rcases h1 with h1 | h1
    . subst h1; exact ho.asymm (hD _ hc.1) (hD _ hn) hc.2
    subst h1; exact ho.irrefl _ (hD _ hc.1)
  rename_i hc
  refine ⟨hn, .inl rfl, fun c h1 h2 => ?_⟩
  rcases h1 with h1 | h1
  . subst h1; exact ho.irrefl _ (hD _ hn)
  subst h1
  cases hx : less (h (2 * i + 2)) (h (2 * i + 1)) with
  | false => rfl
  | true => exact absurd ⟨h2, hx⟩ hc
def zQ {D : α -> Prop} (ho : WO less D) (n lo : Nat) : ∀ (f : Nat) (h : Nat -> α) (i : Nat), n <= f + i -> lo <= i -> (∀ k, k < n -> D (h k)) -> HPx less n lo h i ->
    (∀ p c, lo <= p -> (i = 2 * p + 1 ∨ i = 2 * p + 2) -> (c = 2 * i + 1 ∨ c = 2 * i + 2) -> c < n -> less (h c) (h p) = false) -> SameA n h (downGo less n f h i).1 /\ HP less n lo (downGo less n f h i).1
  | 0, h, i, hf, hlo, hD, h1, h2 => ⟨.refl _ _, fun p c hp hc hcn => by
      by_cases e : p = i
      . omega
      exact h1 p c hp e hc hcn⟩
  | f + 1, h, i, hf, hlo, hD, h1, h2 => by
    unfold downGo; split
    . rename_i hn
      obtain ⟨k1, k2, k3⟩ := bPo ho hD hn
      generalize kid less h n i = j at k1 k2 k3
      split
      . rename_i hl
        have hs := SameA.swp h (i := i) (j := j) (n := n) (by omega) k1
        have s0 : ∀ k, swpA h i j k = if k = i then h j else if k = j then h i else h k := fun _ => rfl
        have hr := zQ ho n lo f (swpA h i j) j (by omega) (by omega) (hs.all hD) (fun p c hp hpj hc hcn => ?_) (fun p c hp hjp hc hcn => ?_)
        . exact ⟨hs.trans hr.1, hr.2⟩
        . rw [s0 c, s0 p]
          by_cases hpi : p = i
          . subst hpi; rw [if_pos rfl]
            by_cases hcj : c = j
            . subst hcj; rw [if_neg (by omega), if_pos rfl]
              exact ho.asymm (hD _ k1) (hD _ (by omega)) hl
            rw [if_neg (by omega), if_neg hcj]
            exact k3 c hc hcn
          rw [if_neg hpi, if_neg hpj]
          by_cases hci : c = i
          . subst hci; rw [if_pos rfl]
            exact h2 p j hp hc k2 k1
          rw [if_neg hci, if_neg (by omega)]
          exact h1 p c hp hpi hc hcn
        have hpi : p = i := by omega
        subst hpi; rw [s0 c, s0 p, if_pos rfl, if_neg (by omega), if_neg (by omega)]
        exact h1 j c (by omega) (by omega) hc hcn
      rename_i hl
      refine ⟨.refl _ _, fun p c hp hc hcn => ?_⟩
      by_cases e : p = i
      . subst e
        exact ho.neg _ _ _ (hD _ hcn) (hD _ k1) (hD _ (by omega)) (k3 c hc hcn) (by simpa using hl)
      exact h1 p c hp e hc hcn
    rename_i hn
    exact ⟨.refl _ _, fun p c hp hc hcn => by
      by_cases e : p = i
      . omega
      exact h1 p c hp e hc hcn⟩
variable (less)
def initGo (n : Nat) : Nat -> (Nat -> α) -> (Nat -> α)
  | 0, h => h
  | i + 1, h => initGo n i (downGo less n n h i).1
variable {less}
def aQv {D : α -> Prop} (ho : WO less D) (n : Nat) : ∀ (i : Nat) (h : Nat -> α), (∀ k, k < n -> D (h k)) -> HP less n i h -> SameA n h (initGo less n i h) /\ HP less n 0 (initGo less n i h)
  | 0, h, hD, h1 => ⟨.refl _ _, h1⟩
  | i + 1, h, hD, h1 => by
    unfold initGo
    obtain ⟨k1, k2⟩ := zQ ho n i n h i (by omega) (Nat.le_refl _) hD (fun p c hp hpi hc hcn => h1 p c (by omega) hc hcn) (fun p c hp hip hc hcn => by omega)
    obtain ⟨k3, k4⟩ := aQv ho n i _ (k1.all hD) k2
    exact ⟨k1.trans k3, k4⟩
def HP.top {D : α -> Prop} (ho : WO less D) {h : Nat -> α} (hD : ∀ k, k < n -> D (h k)) (hh : HP less n 0 h) : ∀ k, k < n -> less (h k) (h 0) = false := by
  intro k
  induction k using Nat.strongRecOn with
  | _ k ih =>
    intro hk
    by_cases e : k = 0
    . subst e; exact ho.irrefl _ (hD 0 hk)
    have h1 := hh ((k - 1) / 2) k (Nat.zero_le _) (by omega) hk
    exact ho.neg _ _ _ (hD k hk) (hD _ (by omega)) (hD 0 (by omega)) h1 (ih _ (by omega) (by omega))
end
section
variable {ε : Type} (lt : ε -> ε -> Bool)
def hless (a b : List ε × Nat) : Bool := match a.1, b.1 with
  | x :: _, y :: _ => lt x y || (!lt y x && decide (a.2 < b.2))
  | _, _ => false
variable {lt}
def aXg (h : WO lt fun _ => True) : WO (hless lt) fun a => a.1 ≠ [] := by
  have tr := fun x y z => h.trans x y z trivial trivial trivial
  have ng := fun x y z => h.neg x y z trivial trivial trivial
  refine ⟨?_, ?_, ?_⟩
  . rintro ⟨_ | ⟨x, a⟩, i⟩ hx
    . exact absurd rfl hx
    simp [hless, h.irrefl x trivial]
  . rintro ⟨_ | ⟨x, a⟩, i⟩ ⟨_ | ⟨y, b⟩, j⟩ ⟨_ | ⟨z, c⟩, k⟩ hx hy hz
    . exact absurd rfl hx
    . exact absurd rfl hx
    . exact absurd rfl hx
    . exact absurd rfl hx
    . exact absurd rfl hy
    . exact absurd rfl hy
    . exact absurd rfl hz
    simp only [hless, Bool.or_eq_true, Bool.and_eq_true, Bool.not_eq_true', decide_eq_true_eq]
    rintro (h1 | ⟨h1, h1'⟩) (h2 | ⟨h2, h2'⟩)
    . exact .inl (tr _ _ _ h1 h2)
    . left
      cases hxz : lt x z with
      | true => rfl
      | false => have := ng _ _ _ hxz h2; rw [h1] at this; cases this
    . left
      cases hxz : lt x z with
      | true => rfl
      | false => have := ng _ _ _ h1 hxz; rw [h2] at this; cases this
    exact .inr ⟨ng _ _ _ h2 h1, by omega⟩
  rintro ⟨_ | ⟨x, a⟩, i⟩ ⟨_ | ⟨y, b⟩, j⟩ ⟨_ | ⟨z, c⟩, k⟩ hx hy hz
  . exact absurd rfl hx
  . exact absurd rfl hx
  . exact absurd rfl hx
  . exact absurd rfl hx
  . exact absurd rfl hy
  . exact absurd rfl hy
  . exact absurd rfl hz
  simp only [hless, Bool.or_eq_false_iff, Bool.and_eq_false_iff, Bool.not_eq_false', decide_eq_false_iff_not]
  rintro ⟨h1, h1'⟩ ⟨h2, h2'⟩
  refine ⟨ng _ _ _ h1 h2, ?_⟩
  cases hzx : lt z x with
  | true => exact .inl rfl
  | false =>
    right
    have hzy : lt z y = false := by
      cases hq : lt z y with
      | false => rfl
      | true =>
        have h3 := ng z x y hzx h1
        rw [hq] at h3; cases h3
    have hyx : lt y x = false := by
      cases hq : lt y x with
      | false => rfl
      | true =>
        have h3 := ng y z x h2 hzx
        rw [hq] at h3; cases h3
    rcases h1' with h1' | h1'
    . rw [hyx] at h1'; cases h1'
    rcases h2' with h2' | h2'
    . rw [hzy] at h2'; cases h2'
    omega
def bJl {a b : List ε × Nat} {x y : ε} {r s : List ε} (ha : a.1 = x :: r) (hb : b.1 = y :: s) (h : hless lt a b = false) : lt x y = false := by
  unfold hless at h; rw [ha, hb] at h
  simp only [Bool.or_eq_false_iff] at h
  exact h.1
def dD (n : Nat) (g : Nat -> List ε × Nat) : List ε := ((List.range n).map g).flatMap (·.1)
def updA {α : Type} (g : Nat -> α) (i : Nat) (x : α) : Nat -> α := fun k => if k = i then x else g k
variable (lt)
def dO (g : Nat -> List ε × Nat) : Nat -> List ε × Nat := updA g 0 ((g 0).1.tail, (g 0).2)
def mergeGo : Nat -> (Nat -> List ε × Nat) -> Nat -> List ε -> List ε
  | 0, _, _, all => all
  | f + 1, g, n, all => match n, (g 0).1 with
    | m + 1, e :: r => if r.length = 0 then mergeGo f (downGo (hless lt) m m (swpA (dO g) 0 m) 0).1 m (all ++ [e]) else mergeGo f (downGo (hless lt) (m + 1) (m + 1) (dO g) 0).1 (m + 1) (all ++ [e])
    | _, _ => all
def qA (lists : List (List ε)) : List (List ε × Nat) := (lists.zipIdx.filter fun p => !p.1.isEmpty)
def mergeAll (lists : List (List ε)) : List ε :=
  let hs := (qA lists).map fun p => (p.1.foldl (put lt) [], p.2)
  mergeGo lt (hs.flatMap (·.1)).length (initGo (hless lt) hs.length (hs.length / 2) fun k => hs.getD k ([], 0)) hs.length []
variable {lt}
def flatH_same {g g' : Nat -> List ε × Nat} (h : SameA n g g') : (dD n g').Perm (dD n g) := h.1.flatMap_right _
def flatH_succ (n : Nat) (g : Nat -> List ε × Nat) : dD (n + 1) g = dD n g ++ (g n).1 := by
  unfold dD; rw [List.range_succ, List.map_append, List.flatMap_append]; simp
def flatH_top {m : Nat} {g : Nat -> List ε × Nat} {e : ε} {r : List ε} (h : (g 0).1 = e :: r) : dD (m + 1) g = e :: dD (m + 1) (dO g) := by
  unfold dD; rw [List.range_succ_eq_map, List.map_cons, List.map_cons, List.flatMap_cons, List.flatMap_cons]
  have h1 : (dO g 0).1 = r := by simp [dO, updA, h]
  have h2 : (List.map Nat.succ (List.range m)).map (dO g) = (List.map Nat.succ (List.range m)).map g := by
    refine List.map_congr_left fun x hx => ?_
    obtain ⟨k, _, rfl⟩ := List.mem_map.1 hx
    simp [dO, updA]
  rw [h1, h2, h]; rfl
def leB (lt : ε -> ε -> Bool) (x y : ε) : Prop := lt y x = false
def bEv {g : Nat -> List ε × Nat} {x : ε} : x ∈ dD n g ↔ ∃ k, k < n /\ x ∈ (g k).1 := by
  unfold dD; simp only [List.mem_flatMap, List.mem_map, List.mem_range]
  constructor
  . rintro ⟨_, ⟨k, hk, rfl⟩, h⟩; exact ⟨k, hk, h⟩
  rintro ⟨k, hk, h⟩; exact ⟨_, ⟨k, hk, rfl⟩, h⟩
def aJg (ho : WO lt fun _ => True) : ∀ (f : Nat) (g : Nat -> List ε × Nat) (n : Nat) (all : List ε), (dD n g).length <= f -> (∀ k, k < n -> (g k).1 ≠ []) -> (∀ k, k < n -> (g k).1.Pairwise (leB lt)) -> HP (hless lt) n 0 g ->
    all.Pairwise (leB lt) -> (∀ x ∈ all, ∀ y ∈ dD n g, leB lt x y) -> (mergeGo lt f g n all).Perm (all ++ dD n g) /\ (mergeGo lt f g n all).Pairwise (leB lt)
  | 0, g, n, all, hf, hD, hs, hh, ha, hx => by
    have : dD n g = [] := List.eq_nil_of_length_eq_zero (by omega)
    unfold mergeGo; rw [this, List.append_nil]
    exact ⟨.refl _, ha⟩
  | f + 1, g, n, all, hf, hD, hs, hh, ha, hx => by
    unfold mergeGo; split
    . rename_i m e r he
      have htop := flatH_top (m := m) he
      have hw := aXg ho
      have hmin : ∀ y ∈ dD (m + 1) (dO g), leB lt e y := fun y hy => by
        obtain ⟨k, hk, hyk⟩ := bEv.1 hy
        by_cases e0 : k = 0
        . subst e0
          have h1 : (dO g 0).1 = r := by simp [dO, updA, he]
          rw [h1] at hyk
          have := hs 0 hk
          rw [he, List.pairwise_cons] at this
          exact this.1 y hyk
        have h1 : dO g k = g k := by simp [dO, updA, e0]
        rw [h1] at hyk
        have htp := hh.top hw hD k hk
        cases hgk : (g k).1 with
        | nil => exact absurd hgk (hD k hk)
        | cons z s =>
          have h2 := bJl hgk he htp
          rw [hgk] at hyk
          rcases List.mem_cons.1 hyk with hyz | hys
          . rw [hyz]; exact h2
          have := hs k hk
          rw [hgk, List.pairwise_cons] at this
          exact ho.neg _ _ _ trivial trivial trivial (this.1 y hys) h2
      have ha' : (all ++ [e]).Pairwise (leB lt) := by
        rw [List.pairwise_append]
        refine ⟨ha, List.pairwise_singleton _ _, fun x hx1 y hy => ?_⟩
        rw [List.mem_singleton.1 hy]
        exact hx x hx1 e (by rw [htop]; exact List.mem_cons_self)
      have hx' : ∀ x ∈ all ++ [e], ∀ y ∈ dD (m + 1) (dO g), leB lt x y := fun x hx1 y hy => by
        rcases List.mem_append.1 hx1 with h1 | h1
        . exact hx x h1 y (by rw [htop]; exact List.mem_cons_of_mem _ hy)
        rw [List.mem_singleton.1 h1]; exact hmin y hy
      have hlen : (dD (m + 1) (dO g)).length <= f := by rw [htop, List.length_cons] at hf; omega
      have hgk : ∀ k, k ≠ 0 -> dO g k = g k := fun k hk => by simp [dO, updA, hk]
      have hg0 : (dO g 0).1 = r := by simp [dO, updA, he]
      have fin : ∀ (n' : Nat) (g' : Nat -> List ε × Nat), (dD n' g').Perm (dD (m + 1) (dO g)) -> (∀ k, k < n' -> (g' k).1 ≠ []) -> (∀ k, k < n' -> (g' k).1.Pairwise (leB lt)) -> HP (hless lt) n' 0 g' ->
          (mergeGo lt f g' n' (all ++ [e])).Perm (all ++ dD (m + 1) g) /\ (mergeGo lt f g' n' (all ++ [e])).Pairwise (leB lt) := fun n' g' hp h1 h2 h3 => by
        have := aJg ho f g' n' (all ++ [e]) (by rw [hp.length_eq]; exact hlen) h1 h2 h3 ha' fun x hx1 y hy => hx' x hx1 y (hp.mem_iff.1 hy)
        refine ⟨this.1.trans ?_, this.2⟩
        rw [htop, List.append_assoc]
        exact List.Perm.append_left _ (List.Perm.cons e hp)
      split
      . rename_i hr
        have hr0 : r = [] := List.eq_nil_of_length_eq_zero hr
        have hsw := SameA.swp (dO g) (n := m + 1) (i := 0) (j := m) (by omega) (by omega)
        have hlast : (swpA (dO g) 0 m m).1 = [] := by
          unfold swpA; split
          . rename_i h0; rw [h0, hg0, hr0]
          rw [if_pos rfl, hg0, hr0]
        have hlow : ∀ k, k < m -> ∃ j, j < m + 1 /\ j ≠ 0 /\ swpA (dO g) 0 m k = g j := fun k hk => by
          unfold swpA; split
          . exact ⟨m, by omega, by omega, hgk m (by omega)⟩
          rename_i h0
          rw [if_neg (by omega)]
          exact ⟨k, by omega, h0, hgk k h0⟩
        have hDm : ∀ k, k < m -> (swpA (dO g) 0 m k).1 ≠ [] := fun k hk => by
          obtain ⟨j, hj, _, e1⟩ := hlow k hk
          rw [e1]; exact hD j hj
        have hsm : ∀ k, k < m -> (swpA (dO g) 0 m k).1.Pairwise (leB lt) := fun k hk => by
          obtain ⟨j, hj, _, e1⟩ := hlow k hk
          rw [e1]; exact hs j hj
        obtain ⟨k1, k2⟩ := zQ hw m 0 m (swpA (dO g) 0 m) 0 (by omega) (Nat.le_refl _) hDm (fun p c hp hp0 hc hcn => by
          have e1 : ∀ k, k ≠ 0 -> k < m -> swpA (dO g) 0 m k = g k := fun k hk hkm => by unfold swpA; rw [if_neg hk, if_neg (by omega)]; exact hgk k hk
          rw [e1 c (by omega) hcn, e1 p hp0 (by omega)]
          exact hh p c hp hc (by omega)) (fun p c hp h0 hc hcn => by omega)
        refine fin m _ ((flatH_same k1).trans ?_) (k1.all (φ := fun a => a.1 ≠ []) hDm) (k1.all (φ := fun a => a.1.Pairwise (leB lt)) hsm) k2
        have := flatH_same hsw
        rw [flatH_succ, hlast, List.append_nil] at this; exact this
      rename_i hr
      have hDm : ∀ k, k < m + 1 -> (dO g k).1 ≠ [] := fun k hk => by
        by_cases e0 : k = 0
        . subst e0; rw [hg0]; intro h; rw [h] at hr; exact hr rfl
        rw [hgk k e0]; exact hD k hk
      have hsm : ∀ k, k < m + 1 -> (dO g k).1.Pairwise (leB lt) := fun k hk => by
        by_cases e0 : k = 0
        . subst e0; rw [hg0]; have := hs 0 hk; rw [he, List.pairwise_cons] at this; exact this.2
        rw [hgk k e0]; exact hs k hk
      obtain ⟨k1, k2⟩ := zQ hw (m + 1) 0 (m + 1) (dO g) 0 (by omega) (Nat.le_refl _) hDm (fun p c hp hp0 hc hcn => by
        rw [hgk c (by omega), hgk p hp0]
        exact hh p c hp hc hcn) (fun p c hp h0 hc hcn => by omega)
      exact fin (m + 1) _ (flatH_same k1) (k1.all (φ := fun a => a.1 ≠ []) hDm) (k1.all (φ := fun a => a.1.Pairwise (leB lt)) hsm) k2
    rename_i n' n2 x' hno
    have hn : n' = 0 := by
      cases n' with
      | zero => rfl
      | succ m =>
        cases hg : (g 0).1 with
        | nil => exact absurd hg (hD 0 (by omega))
        | cons e r => exact (hno m e r rfl hg).elim
    subst hn
    have : dD 0 g = [] := rfl
    rw [this, List.append_nil]
    exact ⟨.refl _, ha⟩
def put_sorted (ho : WO lt fun _ => True) (ls : List ε) : (ls.foldl (put lt) []).Pairwise (leB lt) /\ (ls.foldl (put lt) []).Perm ls := by
  cases ls with
  | nil => exact ⟨List.Pairwise.nil, .refl _⟩
  | cons a r =>
    generalize hls : a :: r = ls
    let d : Nat -> ε := fun i => ls.getD i a
    have hd : ∀ i, i < ls.length -> ls[i]? = some (d i) := fun i hi => by simp [d, List.getD_eq_getElem?_getD, List.getElem?_eq_getElem hi]
    have hod := ho.orders d
    obtain ⟨h1, h2⟩ := bBw hod ls.length
    rw [<- stab_list d ls hd hod]
    refine ⟨?_, ?_⟩
    . rw [List.pairwise_map]
      refine List.pairwise_iff_getElem.2 fun i j hi hj hij => ?_
      simp at hi hj ⊢
      rcases h2 i j (Nat.zero_le _) hij hj with h3 | h3
      . exact hod.asymm h3
      exact h3.1
    have h3 := (aJu h1).map d
    rw [List.map_map] at h3
    have e1 : (List.range ls.length).map d = ls := by
      refine List.ext_getElem? fun i => ?_
      rw [List.getElem?_map]
      by_cases h : i < ls.length
      . rw [hd i h, List.getElem?_range h]; rfl
      rw [List.getElem?_eq_none (by simp; omega), List.getElem?_eq_none (by omega)]; rfl
    rw [e1] at h3; exact h3
def mergeAll_ok (ho : WO lt fun _ => True) (lists : List (List ε)) : (mergeAll lt lists).Perm (lists.flatMap id) /\ (mergeAll lt lists).Pairwise (leB lt) := by
  unfold mergeAll
  simp only
  generalize hhs : ((qA lists).map fun p => (p.1.foldl (put lt) [], p.2)) = hs
  have hmem : ∀ p ∈ hs, p.1 ≠ [] /\ p.1.Pairwise (leB lt) := fun p hp => by
    rw [<- hhs] at hp
    obtain ⟨q, hq, rfl⟩ := List.mem_map.1 hp
    have h1 := put_sorted ho q.1
    have h2 : q.1 ≠ [] := by
      have := (List.mem_filter.1 hq).2
      intro h; rw [h] at this; simp at this
    refine ⟨fun h => h2 ?_, h1.1⟩
    simp only at h
    rw [h] at h1
    exact List.eq_nil_of_length_eq_zero h1.2.length_eq.symm
  have hflat : (hs.flatMap (·.1)).Perm (lists.flatMap id) := by
    rw [<- hhs]
    have aux : ∀ (ls : List (List ε)) (k : Nat), ((((ls.zipIdx k).filter fun p => !p.1.isEmpty).map fun p => (p.1.foldl (put lt) [], p.2)).flatMap (·.1)).Perm (ls.flatMap id) := by
      intro ls
      induction ls with
      | nil => intro k; exact .refl _
      | cons a r ih =>
        intro k; rw [List.zipIdx_cons, List.filter_cons]; split
        . rw [List.map_cons, List.flatMap_cons, List.flatMap_cons]
          exact List.Perm.append (put_sorted ho a).2 (ih (k + 1))
        rename_i ha
        have ha0 : a = [] := by simpa using ha
        rw [List.flatMap_cons, ha0]
        exact ih (k + 1)
    exact aux lists 0
  have hget : (List.range hs.length).map (fun k => hs.getD k ([], 0)) = hs := by
    refine List.ext_getElem? fun i => ?_
    rw [List.getElem?_map]
    by_cases h : i < hs.length
    . rw [List.getElem?_range h]; simp [List.getD_eq_getElem?_getD, List.getElem?_eq_getElem h]
    rw [List.getElem?_eq_none (by simp; omega), List.getElem?_eq_none (by omega)]; rfl
  have hk : ∀ k, k < hs.length -> hs.getD k ([], 0) ∈ hs := fun k hk => by rw [List.getD_eq_getElem?_getD, List.getElem?_eq_getElem hk]; exact List.getElem_mem hk
  obtain ⟨k1, k2⟩ := aQv (aXg ho) hs.length (hs.length / 2) (fun k => hs.getD k ([], 0)) (fun k h => (hmem _ (hk k h)).1) (fun p c hp hc hcn => by omega)
  have hfe : dD hs.length (fun k => hs.getD k ([], 0)) = hs.flatMap (·.1) := by unfold dD; rw [hget]
  have hp := flatH_same k1
  rw [hfe] at hp
  obtain ⟨k3, k4⟩ := aJg ho (hs.flatMap (·.1)).length _ hs.length [] (by rw [hp.length_eq]; exact Nat.le_refl _) (k1.all (φ := fun a => a.1 ≠ []) fun k h => (hmem _ (hk k h)).1) (k1.all (φ := fun a => a.1.Pairwise (leB lt)) fun k h => (hmem _ (hk k h)).2) k2 List.Pairwise.nil (fun x hx => by cases hx)
  rw [List.nil_append] at k3
  exact ⟨(k3.trans hp).trans hflat, k4⟩
def mergeAll_put (ho : WO lt fun _ => True) (lists : List (List ε)) (hd : ∀ x ∈ lists.flatMap id, ∀ y ∈ lists.flatMap id, lt x y = false -> lt y x = false -> x = y) (ls : List ε) (hp : ls.Perm (lists.flatMap id)) : mergeAll lt lists = ls.foldl (put lt) [] := by
  obtain ⟨h1, h2⟩ := mergeAll_ok ho lists
  obtain ⟨h3, h4⟩ := put_sorted ho ls
  refine List.Perm.eq_of_pairwise (le := leB lt) (fun a b ha hb h5 h6 => hd a (h1.mem_iff.1 ha) b (hp.mem_iff.1 (h4.mem_iff.1 hb)) h6 h5) h2 h3 ((h1.trans hp.symm).trans h4.symm)
end
end
end Go.Plain
end
section
open Go Go.Abs Go.Proofs Go.Proofs.Tryz
namespace Go.Proofs.S
section
noncomputable abbrev P := Tryz.prog
def mxl : maxLen = 9223372036854775807 := rfl
def wr (a b : Int) (h : a = b /\ -9223372036854775808 <= b /\ b <= 9223372036854775807) : IntKind.i64.wrap a = b := by rw [IntKind.wrap_i64]; omega
abbrev Ni (n : Int) : AV := .raw (.int .i64 n)
abbrev Ns (s : ByteArray) : AV := .raw (.string s)
abbrev Nb (b : Bool) : AV := .raw (.bool b)
attribute [go_sem] Ni Ns Nb
def kr {p : Prop} (h : p := by kernel_rfl) : p := h
variable {G R A B : Prop}
def Dn (h : R -> G := by intro k; simp only [go_sem, Int.toNat_natCast, A6, List.nil_append, <- G5, <- E9]; exact k) : R -> G := h
def Dm (e : A) (h : A -> R -> G := by intro e k; simp only [go_sem, e, A2, B1, A6, B0, List.nil_append]; exact k) : R -> G := h e
def Dk (e : A) (h : A -> G := by intro e; simp only [go_sem, e, AObj.bel, AObj.ren, AV.ren, List.append_nil, List.cons_append, List.nil_append, aB, sg] <;> simp) : G := h e
def Dh (h : R -> G := by intro k; simp only [go_sem, A2, B1, A6, B0, D5, List.nil_append]; exact k) : R -> G := h
def Dg (h : R -> G := by intro k; simp only [go_sem, A2, B1, A6, H6, B0, List.nil_append]; exact k) : R -> G := h
def De (h : R -> G := by intro k; simp only [go_sem, Int.toNat_natCast, Int.toNat_zero, A2, B1, B0, <- G5, <- E9]; exact k) : R -> G := h
def Dd (h : R -> G := by intro k; simp only [go_sem, Int.toNat_natCast, A2, B1, B0, <- G5, <- E9]; exact k) : R -> G := h
def Ct (h : G := by simp only [go_sem, AObj.bel, Int.natCast_zero, List.map_nil, List.take_zero] <;> simp) : G := h
def Ce (e : A) (h : A -> G := by intro e; simp only [go_sem, e, C5, if_false, if_true] <;> simp) : G := h e
def Cc (h : G := by simp only [go_sem, AObj.bel, Int.natCast_zero] <;> simp) : G := h
def Ca (h : G := by simp only [go_sem, AV.ren, aB, sg] <;> simp [Abs.get]) : G := h
def Bw (h : G := by simp only [go_sem, Int.natCast_zero]) : G := h
def Bu (h : G := by simp only [go_sem, AObj.bel, Int.natCast_zero, List.map_nil] <;> simp) : G := h
def Bs (h : R -> G := by intro k; simp only [go_sem, Int.reduceToNat, Int.toNat_zero]; exact k) : R -> G := h
def Bp {R G A B C D : Prop} (e : A) (f : B) (g : C) (i : D) (h : A -> B -> C -> D -> R -> G := by intro e f g i k; simp only [go_sem, e, f, g, i]; exact k) : R -> G := h e f g i
def Bo (h : G := by simp only [go_sem, AObj.bel] <;> simp) : G := h
def Bk (h : R -> G := by intro k; simp only [go_sem, A6]; exact k) : R -> G := h
def Bj (e : A) (h : A -> G := by intro e; simp only [go_sem, e, AObj.bel, AObj.ren, AV.ren, aB, sg] <;> simp) : G := h e
def Be (e : A) (h : A -> R -> G := by intro e k; simp only [go_sem, e, Nat.add_zero]; exact k) : R -> G := h e
def Au (h : R -> G := by intro k; simp only [go_sem, A2, B1, A6, B0, List.nil_append]; exact k) : R -> G := h
def At (h : G := by simp only [go_sem]) : G := h
def Ar (h : R -> G := by intro k; simp only [go_sem, AObj.ren, AV.ren, Nat.add_zero, A0, Nat.sub_self, aB, sg, shift]; exact k) : R -> G := h
def Aq (e : A) (f : B) (h : A -> B -> R -> G := by intro e f k; simp only [go_sem, e, f]; exact k) : R -> G := h e f
def Ai (h : R -> G := by intro k; simp only [go_sem, Nat.add_zero]; exact k) : R -> G := h
def Ah (h : R -> G := by intro k; simp only [go_sem, lQ]; exact k) : R -> G := h
def Ac (h : R -> G := by intro k; simp only [go_sem, AV.fz, fzL]; exact k) : R -> G := h
def Ab (e : A) (h : A -> G := by intro e; simp only [go_sem, e]) : G := h e
def Aa (e : A) (h : A -> R -> G := by intro e k; simp only [go_sem, e]; exact k) : R -> G := h e
noncomputable instance : Globals where
  on := fun g => g = 0 ∨ g = 1 ∨ g = 2
  G0 := fun g o => (g = 0 -> ∃ t fr, o = .cells ((Lib.pow10Tab.map fun z => Value.int .u64 z).toArray) t fr) /\ (g = 1 ∨ g = 2 -> ∃ te pe t fr, o = .cells #[.iface te pe] t fr) /\ ∃ c t fr, o = .cells c t fr
  cells := fun g o h => h.2.2
def F0 : vI P 1 = some (1, false) /\
 zC P 1 = some [Value.nilFunc] /\
 zE P 1 = some (.raw Value.nilFunc) /\
 P.concrete 1 = true /\
 vI P 2 = some (1, false) /\
 zC P 2 = some [(Value.int IntKind.i64 0)] /\
 zE P 2 = some (.raw (Value.int IntKind.i64 0)) /\
 P.concrete 2 = true /\
 vI P 3 = some (1, false) /\
 zC P 3 = some [(Value.int IntKind.i64 0)] /\
 zE P 3 = some (.raw (Value.int IntKind.i64 0)) /\
 P.concrete 3 = true /\
 vI P 4 = some (1, false) /\
 zC P 4 = some [(Value.bool false)] /\
 zE P 4 = some (.raw (Value.bool false)) /\
 P.concrete 4 = true /\
 vI P 5 = some (1, false) /\
 zC P 5 = some [(Value.int IntKind.u8 0)] /\
 zE P 5 = some (.raw (Value.int IntKind.u8 0)) /\
 P.concrete 5 = true /\
 vI P 6 = some (1, false) /\
 zC P 6 = some [(Value.int IntKind.u8 0)] /\
 zE P 6 = some (.raw (Value.int IntKind.u8 0)) /\
 P.concrete 6 = true /\
 vI P 7 = some (4, true) /\
 zC P 7 = some [(Value.int IntKind.i64 0), (Value.int IntKind.i64 0), (Value.bool false), (Value.int IntKind.u8 0)] /\
 zE P 7 = some (.agg [.raw (Value.int IntKind.i64 0), .raw (Value.int IntKind.i64 0), .raw (Value.bool false), .raw (Value.int IntKind.u8 0)]) /\
 fI P 7 0 = some (0, some 1, some false) /\
 fI P 7 1 = some (1, some 1, some false) /\
 fI P 7 2 = some (2, some 1, some false) /\
 fI P 7 3 = some (3, some 1, some false) /\
 cX P 7 = some [(0, 1), (1, 1), (2, 1), (3, 1)] /\
 P.concrete 7 = true /\
 vI P 8 = some (4, true) /\
 zC P 8 = some [(Value.int IntKind.i64 0), (Value.int IntKind.i64 0), (Value.bool false), (Value.int IntKind.u8 0)] /\
 zE P 8 = some (.agg [.raw (Value.int IntKind.i64 0), .raw (Value.int IntKind.i64 0), .raw (Value.bool false), .raw (Value.int IntKind.u8 0)]) /\
 fI P 8 0 = some (0, some 1, some false) /\
 fI P 8 1 = some (1, some 1, some false) /\
 fI P 8 2 = some (2, some 1, some false) /\
 fI P 8 3 = some (3, some 1, some false) /\
 cX P 8 = some [(0, 1), (1, 1), (2, 1), (3, 1)] /\
 P.concrete 8 = true /\
 vI P 9 = some (1, false) /\
 zC P 9 = some [(Value.string ⟨#[]⟩)] /\
 zE P 9 = some (.raw (Value.string ⟨#[]⟩)) /\
 aGq P 9 = true /\
 P.concrete 9 = true /\
 vI P 10 = some (1, false) /\
 zC P 10 = some [(Value.string ⟨#[]⟩)] /\
 zE P 10 = some (.raw (Value.string ⟨#[]⟩)) /\
 aGq P 10 = true /\
 P.concrete 10 = true /\
 vI P 12 = some (1, false) /\
 zC P 12 = some [(Value.int IntKind.u64 0)] /\
 zE P 12 = some (.raw (Value.int IntKind.u64 0)) /\
 P.concrete 12 = true /\
 vI P 15 = some (1, false) /\
 zC P 15 = some [(Value.pointer none)] /\
 zE P 15 = some (.raw (Value.pointer none)) /\
 P.concrete 15 = true /\
 vI P 16 = some (1, false) /\
 zC P 16 = some [(Value.pointer none)] /\
 zE P 16 = some (.raw (Value.pointer none)) /\
 P.concrete 16 = true /\
 vI P 20 = some (1, false) /\
 zC P 20 = some [Value.nilIface] /\
 zE P 20 = some (.raw Value.nilIface) /\
 aWx P 20 = true /\
 vI P 21 = some (1, false) /\
 zC P 21 = some [(Value.int IntKind.i32 0)] /\
 zE P 21 = some (.raw (Value.int IntKind.i32 0)) /\
 P.concrete 21 = true /\
 vI P 22 = some (1, false) /\
 zC P 22 = some [(Value.slice none 0 0)] /\
 zE P 22 = some (.raw (Value.slice none 0 0)) /\
 cL P 22 = some (5, some (1, 1)) /\
 aBs P 22 = true /\
 P.concrete 22 = true /\
 vI P 23 = some (1, false) /\
 zC P 23 = some [(Value.slice none 0 0)] /\
 zE P 23 = some (.raw (Value.slice none 0 0)) /\
 cL P 23 = some (43, some (5, 56)) /\
 aBs P 23 = true /\
 P.concrete 23 = true /\
 vI P 24 = some (1, false) /\
 zC P 24 = some [(Value.slice none 0 0)] /\
 zE P 24 = some (.raw (Value.slice none 0 0)) /\
 cL P 24 = some (102, some (1, 24)) /\
 aBs P 24 = true /\
 P.concrete 24 = true /\
 vI P 25 = some (1, false) /\
 zC P 25 = some [(Value.slice none 0 0)] /\
 zE P 25 = some (.raw (Value.slice none 0 0)) /\
 cL P 25 = some (3, some (1, 8)) /\
 aBs P 25 = true /\
 P.concrete 25 = true /\
 vI P 27 = some (4, true) /\
 zC P 27 = some [(Value.int IntKind.i64 0), (Value.slice none 0 0), (Value.slice none 0 0), (Value.slice none 0 0)] /\
 zE P 27 = some (.agg [.raw (Value.int IntKind.i64 0), .raw (Value.slice none 0 0), .raw (Value.slice none 0 0), .raw (Value.slice none 0 0)]) /\
 fI P 27 0 = some (0, some 1, some false) := by
 and_intros <;> kernel_rfl
def F1 : fI P 27 1 = some (1, some 1, some false) /\
 fI P 27 2 = some (2, some 1, some false) /\
 fI P 27 3 = some (3, some 1, some false) /\
 cX P 27 = some [(0, 1), (1, 1), (2, 1), (3, 1)] /\
 P.concrete 27 = true /\
 vI P 29 = some (4, true) /\
 zC P 29 = some [(Value.string ⟨#[]⟩), (Value.int IntKind.i64 0), (Value.slice none 0 0), (Value.int IntKind.i64 0)] /\
 zE P 29 = some (.agg [.raw (Value.string ⟨#[]⟩), .raw (Value.int IntKind.i64 0), .raw (Value.slice none 0 0), .raw (Value.int IntKind.i64 0)]) /\
 fI P 29 0 = some (0, some 1, some false) /\
 fI P 29 1 = some (1, some 1, some false) /\
 fI P 29 2 = some (2, some 1, some false) /\
 fI P 29 3 = some (3, some 1, some false) /\
 cX P 29 = some [(0, 1), (1, 1), (2, 1), (3, 1)] /\
 P.concrete 29 = true /\
 vI P 31 = some (9, true) /\
 zC P 31 = some [(Value.bool false), (Value.int IntKind.i64 0), (Value.slice none 0 0), (Value.slice none 0 0), (Value.slice none 0 0), (Value.string ⟨#[]⟩), (Value.int IntKind.i64 0), (Value.slice none 0 0), (Value.int IntKind.i64 0)] /\
 zE P 31 = some (.agg [.raw (Value.bool false), .raw (Value.int IntKind.i64 0), .raw (Value.slice none 0 0), .raw (Value.slice none 0 0), .raw (Value.slice none 0 0), .raw (Value.string ⟨#[]⟩), .raw (Value.int IntKind.i64 0), .raw (Value.slice none 0 0), .raw (Value.int IntKind.i64 0)]) /\
 fI P 31 0 = some (0, some 1, some false) /\
 fI P 31 1 = some (1, some 4, some true) /\
 fI P 31 2 = some (5, some 4, some true) /\
 cX P 31 = some [(0, 1), (1, 4), (5, 4)] /\
 P.concrete 31 = true /\
 vI P 39 = some (1, false) /\
 zC P 39 = some [(Value.slice none 0 0)] /\
 zE P 39 = some (.raw (Value.slice none 0 0)) /\
 cL P 39 = some (23, some (1, 24)) /\
 aBs P 39 = true /\
 P.concrete 39 = true /\
 vI P 43 = some (5, true) /\
 zC P 43 = some [(Value.string ⟨#[]⟩), (Value.int IntKind.i64 0), (Value.int IntKind.i64 0), (Value.string ⟨#[]⟩), (Value.int IntKind.i64 0)] /\
 zE P 43 = some (.agg [.raw (Value.string ⟨#[]⟩), .raw (Value.int IntKind.i64 0), .raw (Value.int IntKind.i64 0), .raw (Value.string ⟨#[]⟩), .raw (Value.int IntKind.i64 0)]) /\
 fI P 43 0 = some (0, some 1, some false) /\
 fI P 43 1 = some (1, some 1, some false) /\
 fI P 43 2 = some (2, some 1, some false) /\
 fI P 43 3 = some (3, some 1, some false) /\
 fI P 43 4 = some (4, some 1, some false) /\
 cX P 43 = some [(0, 1), (1, 1), (2, 1), (3, 1), (4, 1)] /\
 P.concrete 43 = true /\
 vI P 55 = some (1, false) /\
 zC P 55 = some [(Value.pointer none)] /\
 zE P 55 = some (.raw (Value.pointer none)) /\
 P.concrete 55 = true /\
 vI P 60 = some (1, false) /\
 zC P 60 = some [Value.nilFunc] /\
 zE P 60 = some (.raw Value.nilFunc) /\
 P.concrete 60 = true /\
 vI P 64 = some (2, true) /\
 zC P 64 = some [(Value.string ⟨#[]⟩), (Value.int IntKind.i64 0)] /\
 zE P 64 = some (.agg [.raw (Value.string ⟨#[]⟩), .raw (Value.int IntKind.i64 0)]) /\
 fI P 64 0 = some (0, some 1, some false) /\
 fI P 64 1 = some (1, some 1, some false) /\
 cX P 64 = some [(0, 1), (1, 1)] /\
 P.concrete 64 = true /\
 vI P 65 = some (2, true) /\
 zC P 65 = some [(Value.string ⟨#[]⟩), (Value.int IntKind.i64 0)] /\
 zE P 65 = some (.agg [.raw (Value.string ⟨#[]⟩), .raw (Value.int IntKind.i64 0)]) /\
 fI P 65 0 = some (0, some 1, some false) /\
 fI P 65 1 = some (1, some 1, some false) /\
 cX P 65 = some [(0, 1), (1, 1)] /\
 P.concrete 65 = true /\
 vI P 72 = some (1, false) /\
 zC P 72 = some [(Value.slice none 0 0)] /\
 zE P 72 = some (.raw (Value.slice none 0 0)) /\
 cL P 72 = some (76, some (2, 32)) /\
 aBs P 72 = true /\
 P.concrete 72 = true /\
 vI P 74 = some (1, false) /\
 zC P 74 = some [Value.nilFunc] /\
 zE P 74 = some (.raw Value.nilFunc) /\
 P.concrete 74 = true /\
 vI P 76 = some (2, true) /\
 zC P 76 = some [(Value.slice none 0 0), (Value.int IntKind.i64 0)] /\
 zE P 76 = some (.agg [.raw (Value.slice none 0 0), .raw (Value.int IntKind.i64 0)]) /\
 fI P 76 0 = some (0, some 1, some false) /\
 fI P 76 1 = some (1, some 1, some false) /\
 cX P 76 = some [(0, 1), (1, 1)] /\
 P.concrete 76 = true /\
 vI P 78 = some (1, false) /\
 zC P 78 = some [(Value.pointer none)] /\
 zE P 78 = some (.raw (Value.pointer none)) /\
 P.concrete 78 = true /\
 vI P 83 = some (1, false) /\
 zC P 83 = some [Value.nilFunc] /\
 zE P 83 = some (.raw Value.nilFunc) /\
 P.concrete 83 = true /\
 vI P 85 = some (1, false) /\
 zC P 85 = some [(Value.pointer none)] /\
 zE P 85 = some (.raw (Value.pointer none)) /\
 P.concrete 85 = true /\
 vI P 87 = some (2, true) /\
 zC P 87 = some [(Value.pointer none), (Value.slice none 0 0)] /\
 zE P 87 = some (.agg [.raw (Value.pointer none), .raw (Value.slice none 0 0)]) /\
 fI P 87 0 = some (0, some 1, some false) /\
 fI P 87 1 = some (1, some 1, some false) /\
 cX P 87 = some [(0, 1), (1, 1)] /\
 P.concrete 87 = true /\
 vI P 89 = some (1, false) /\
 zC P 89 = some [Value.nilIface] /\
 zE P 89 = some (.raw Value.nilIface) /\
 aWx P 89 = true := by
 and_intros <;> kernel_rfl
def F2 : vI P 96 = some (2, true) /\
 zC P 96 = some [(Value.slice none 0 0), (Value.int IntKind.i64 0)] /\
 zE P 96 = some (.agg [.raw (Value.slice none 0 0), .raw (Value.int IntKind.i64 0)]) /\
 fI P 96 0 = some (0, some 1, some false) /\
 fI P 96 1 = some (1, some 1, some false) /\
 cX P 96 = some [(0, 1), (1, 1)] /\
 P.concrete 96 = true /\
 vI P 102 = some (1, false) /\
 zC P 102 = some [(Value.slice none 0 0)] /\
 zE P 102 = some (.raw (Value.slice none 0 0)) /\
 cL P 102 = some (105, some (2, 32)) /\
 aBs P 102 = true /\
 P.concrete 102 = true /\
 vI P 105 = some (2, true) /\
 zC P 105 = some [(Value.slice none 0 0), (Value.int IntKind.i64 0)] /\
 zE P 105 = some (.agg [.raw (Value.slice none 0 0), .raw (Value.int IntKind.i64 0)]) /\
 fI P 105 0 = some (0, some 1, some false) /\
 fI P 105 1 = some (1, some 1, some false) /\
 cX P 105 = some [(0, 1), (1, 1)] /\
 P.concrete 105 = true /\
 vI P 106 = some (1, false) /\
 zC P 106 = some [Value.nilFunc] /\
 zE P 106 = some (.raw Value.nilFunc) /\
 P.concrete 106 = true /\
 vI P 107 = some (1, false) /\
 zC P 107 = some [Value.nilFunc] /\
 zE P 107 = some (.raw Value.nilFunc) /\
 P.concrete 107 = true /\
 vI P 114 = some (1, false) /\
 zC P 114 = some [(Value.pointer none)] /\
 zE P 114 = some (.raw (Value.pointer none)) /\
 P.concrete 114 = true /\
 vI P 129 = some (1, false) /\
 zC P 129 = some [Value.nilIface] /\
 zE P 129 = some (.raw Value.nilIface) /\
 aWx P 129 = true /\
 vI P 137 = some (1, true) /\
 zC P 137 = some [(Value.string ⟨#[]⟩)] /\
 zE P 137 = some (.agg [.raw (Value.string ⟨#[]⟩)]) /\
 fI P 137 0 = some (0, some 1, some false) /\
 cX P 137 = some [(0, 1)] /\
 P.concrete 137 = true /\
 vI P 138 = some (1, false) /\
 zC P 138 = some [(Value.slice none 0 0)] /\
 zE P 138 = some (.raw (Value.slice none 0 0)) /\
 cL P 138 = some (164, some (1, 16)) /\
 aBs P 138 = true /\
 P.concrete 138 = true /\
 vI P 142 = some (1, false) /\
 zC P 142 = some [(Value.pointer none)] /\
 zE P 142 = some (.raw (Value.pointer none)) /\
 P.concrete 142 = true /\
 vI P 145 = some (1, false) /\
 zC P 145 = some [(Value.slice none 0 0)] /\
 zE P 145 = some (.raw (Value.slice none 0 0)) /\
 cL P 145 = some (9, some (1, 16)) /\
 aBs P 145 = true /\
 P.concrete 145 = true /\
 vI P 154 = some (4, true) /\
 zC P 154 = some [(Value.int IntKind.i64 0), (Value.int IntKind.i64 0), (Value.int IntKind.i64 0), (Value.int IntKind.i64 0)] /\
 zE P 154 = some (.agg [.raw (Value.int IntKind.i64 0), .raw (Value.int IntKind.i64 0), .raw (Value.int IntKind.i64 0), .raw (Value.int IntKind.i64 0)]) /\
 P.concrete 154 = true /\
 vI P 155 = some (1, false) /\
 zC P 155 = some [(Value.map none)] /\
 zE P 155 = some (.raw (Value.map none)) /\
 P.concrete 155 = true /\
 vI P 164 = some (1, false) /\
 zC P 164 = some [Value.nilIface] /\
 zE P 164 = some (.raw Value.nilIface) /\
 aWx P 164 = true /\
 vI P 166 = some (1, false) /\
 zC P 166 = some [(Value.pointer none)] /\
 zE P 166 = some (.raw (Value.pointer none)) /\
 P.concrete 166 = true /\
 vI P 181 = some (1, false) /\
 zC P 181 = some [(Value.int IntKind.u64 0)] /\
 zE P 181 = some (.raw (Value.int IntKind.u64 0)) /\
 P.concrete 181 = true /\
 vI P 182 = some (24, true) /\
 P.concrete 182 = true /\
 vI P 183 = some (1, false) /\
 zC P 183 = some [(Value.int IntKind.u64 0)] /\
 zE P 183 = some (.raw (Value.int IntKind.u64 0)) /\
 P.concrete 183 = true /\
 vI P 198 = some (1, false) /\
 zC P 198 = some [(Value.int IntKind.i64 0)] /\
 zE P 198 = some (.raw (Value.int IntKind.i64 0)) /\
 P.concrete 198 = true /\
 vI P 201 = some (1, false) /\
 zC P 201 = some [(Value.pointer none)] /\
 zE P 201 = some (.raw (Value.pointer none)) /\
 P.concrete 201 = true /\
 vI P 205 = some (20, true) /\
 P.concrete 205 = true /\
 vI P 206 = some (1, false) /\
 zC P 206 = some [(Value.int IntKind.u32 0)] := by
 and_intros <;> kernel_rfl
def F3 : zE P 206 = some (.raw (Value.int IntKind.u32 0)) /\
 P.concrete 206 = true /\
 vI P 207 = some (65, true) /\
 P.concrete 207 = true /\
 vI P 215 = some (3, true) /\
 zC P 215 = some [(Value.string ⟨#[]⟩), (Value.string ⟨#[]⟩), Value.nilIface] /\
 zE P 215 = some (.agg [.raw (Value.string ⟨#[]⟩), .raw (Value.string ⟨#[]⟩), .raw Value.nilIface]) /\
 fI P 215 0 = some (0, some 1, some false) /\
 fI P 215 1 = some (1, some 1, some false) /\
 fI P 215 2 = some (2, some 1, some false) /\
 cX P 215 = some [(0, 1), (1, 1), (2, 1)] /\
 P.concrete 215 = true /\
 vI P 222 = some (1, false) /\
 zC P 222 = some [(Value.pointer none)] /\
 zE P 222 = some (.raw (Value.pointer none)) /\
 P.concrete 222 = true /\
 vI P 224 = some (1, true) /\
 zC P 224 = some [(Value.string ⟨#[]⟩)] /\
 zE P 224 = some (.agg [.raw (Value.string ⟨#[]⟩)]) /\
 fI P 224 0 = some (0, some 1, some false) /\
 cX P 224 = some [(0, 1)] /\
 P.concrete 224 = true /\
 vI P 225 = some (32, true) /\
 P.concrete 225 = true /\
 vI P 226 = some (64, true) /\
 P.concrete 226 = true /\
 gE P 2 = some .i64 /\
 gE P 3 = some .i64 /\
 bJz P 4 = true /\
 gE P 5 = some .u8 /\
 gE P 6 = some .u8 /\
 gE P 12 = some .u64 /\
 gE P 21 = some .i32 /\
 mC P 155 = some (9, 3) /\
 gE P 181 = some .u64 /\
 gE P 183 = some .u64 /\
 gE P 198 = some .i64 /\
 gE P 206 = some .u32 := by
 and_intros <;> kernel_rfl
attribute [go_sem] F0 F1 F2 F3
def mixed : P.follows .mixedOrders = true := kr
end
section
structure Entry where
  key : ByteArray
  seq : Int
  kind : Int
  text : ByteArray
  n : Int
deriving DecidableEq
structure Run where
  ents : List Entry
  mask : Int
deriving DecidableEq
structure Tree where
  seq : Int
  mem : List Entry
  levels : List (List Run)
  snaps : List Int
deriving DecidableEq
structure Disk where
  log : ByteArray
  safe : Int
  levels : List (List Run)
  seq : Int
deriving DecidableEq
structure Store where
  up : Bool
  tree : Tree
  disk : Disk
deriving DecidableEq
variable {α : Type} {G R A B C D : Prop} {i : Nat} {xs : List α}
def inA (n : Int) : AV := .raw (.int .i64 n)
def Cb (h : G := by simp only [go_sem, List.map_cons, List.map_nil, inA]) : G := h
def enA (e : Entry) : AV := .agg [.raw (.string e.key), .raw (.int .i64 e.seq), .raw (.int .i64 e.kind), .raw (.string e.text), .raw (.int .i64 e.n)]
def Db (h : R -> G := by intro k; simp only [go_sem, A2, B1, A6, B0, List.nil_append, Nat.add_zero, enA]; exact k) : R -> G := h
def Cw {R G A B C D F : Prop} (e : A) (f : B) (g : C) (i : D) (j : F) (h : A -> B -> C -> D -> F -> R -> G := by intro e f g i j k; simp only [go_sem, e, f, g, i, j, A6, D7, D0, enA]; exact k) : R -> G := h e f g i j
def Cu (h : R -> G := by intro k; simp only [go_sem, A2, B1, A6, B0, List.nil_append, enA]; exact k) : R -> G := h
def Cq (e : A) (h : A -> R -> G := by intro e k; simp only [go_sem, e, Int.toNat_zero, Nat.add_zero, enA]; exact k) : R -> G := h e
def Co (h : G := by simp only [go_sem, AObj.bel, AObj.ren, AV.ren, aB, sg] <;> simp [enA, AV.ren, aB, AV.bel, aI]) : G := h
def Cf (e : A) (h : A -> R -> G := by intro e k; simp only [go_sem, e, Int.toNat_zero, enA]; exact k) : R -> G := h e
def Bv (e : A) (f : B) (h : A -> B -> G := by intro e f; simp only [go_sem, e, f, AObj.bel, AObj.ren, AV.ren, enA, aB, sg] <;> simp) : G := h e f
def Bt (e : A) (f : B) (g : C) (h : A -> B -> C -> R -> G := by intro e f g k; simp only [go_sem, e, f, g, enA]; exact k) : R -> G := h e f g
def Bn (e : A) (f : B) (h : A -> B -> R -> G := by intro e f k; simp only [go_sem, e, f, enA]; exact k) : R -> G := h e f
def Bg (h : R -> G := by intro k; simp only [go_sem, enA]; exact k) : R -> G := h
def Ay (e : A) (f : B) (g : C) (i : D) (h : A -> B -> C -> D -> R -> G := by intro e f g i k; simp only [go_sem, e, f, g, i, enA]; exact k) : R -> G := h e f g i
def An (e : A) (h : A -> R -> G := by intro e k; simp only [go_sem, e, enA]; exact k) : R -> G := h e
def Am (h : G := by simp only [go_sem, AObj.bel, AObj.ren, AV.ren, Int.natCast_zero, aB, sg] <;> simp [enA]) : G := h
def Ae (h : G := by simp only [go_sem, enA]) : G := h
def rA (r : Run) : AV := .agg [.sl 5 (r.ents.map enA), .raw (.int .i64 r.mask)]
def Do (h : R -> G := by intro k; simp only [go_sem, A2, B1, A6, B0, List.nil_append, rA]; exact k) : R -> G := h
def Cz (e : A) (h : A -> R -> G := by intro e k; simp only [go_sem, e, A2, B1, A6, B0, List.nil_append, rA]; exact k) : R -> G := h e
def Cp (e : A) (h : A -> G := by intro e; simp only [go_sem, e, AObj.bel, AObj.ren, AV.ren, aB, rA, sg] <;> simp) : G := h e
def Cn (h : G := by simp only [go_sem, AObj.bel, AObj.ren, AV.ren, Int.natCast_zero, aB, sg] <;> simp [rA]) : G := h
def Az (e : A) (f : B) (g : C) (i : D) (h : A -> B -> C -> D -> R -> G := by intro e f g i k; simp only [go_sem, e, f, g, i, rA]; exact k) : R -> G := h e f g i
def Ap (e : A) (h : A -> R -> G := by intro e k; simp only [go_sem, e, rA]; exact k) : R -> G := h e
def Ag (h : G := by simp only [go_sem, rA]) : G := h
def runOwn (r : Run) : AV := .agg [.own 43 5 (r.ents.map enA), .raw (.int .i64 r.mask)]
def rsA (rs : List Run) : AV := .sl 2 (rs.map rA)
def Df (e : A) (f : B) (h : A -> B -> R -> G := by intro e f k; simp only [go_sem, e, f, A2, B1, A6, H6, B0, List.nil_append, rA, rsA]; exact k) : R -> G := h e f
def Bf (e : A) (h : A -> R -> G := by intro e k; simp only [go_sem, e, rsA]; exact k) : R -> G := h e
def rsO (rs : List Run) : AV := .own 105 2 (rs.map runOwn)
def trA (t : Tree) : AV := .agg [.raw (.int .i64 t.seq), .sl 5 (t.mem.map enA), .sl 1 (t.levels.map rsA), .sl 1 (t.snaps.map inA)]
def Br (h : G := by simp only [go_sem, AObj.bel, AObj.ren, AV.ren, List.map_cons, List.map_nil, aB, rsA, rsO, sg, trA] <;> simp) : G := h
def Af (h : G := by simp only [go_sem, trA]) : G := h
def dkA (d : Disk) : AV := .agg [.raw (.string d.log), .raw (.int .i64 d.safe), .sl 1 (d.levels.map rsA), .raw (.int .i64 d.seq)]
def stA (s : Store) : AV := .agg [.raw (.bool s.up), .raw (.int .i64 s.tree.seq), .sl 5 (s.tree.mem.map enA), .sl 1 (s.tree.levels.map rsA), .sl 1 (s.tree.snaps.map inA), .raw (.string s.disk.log), .raw (.int .i64 s.disk.safe), .sl 1 (s.disk.levels.map rsA), .raw (.int .i64 s.disk.seq)]
def Cr (h : R -> G := by intro k; simp only [go_sem, Nat.add_zero, stA]; exact k) : R -> G := h
def Ax (e : A) (h : A -> G := by intro e; simp only [go_sem, e, AObj.bel, AObj.ren, AV.ren, aB, sg, stA] <;> simp) : G := h e
def Aw (e : A) (h : A -> G := by intro e; simp only [go_sem, e, stA]) : G := h e
def As (h : G := by simp only [go_sem, AObj.bel, AObj.ren, AV.ren, aB, sg, stA] <;> simp) : G := h
def Ao (h : R -> G := by intro k; simp only [go_sem, stA]; exact k) : R -> G := h
def Ad (h : G := by simp only [go_sem, stA]) : G := h
def pZ {f : α -> AV} (h : ∀ U a, (f a).bel U) (U : Nat -> Prop) (ls : List α) : aI U (ls.map f) := by
  rw [bLi]; intro x hx; obtain ⟨l, _, rfl⟩ := A9.1 hx; exact h U l
def dQ (U : Nat -> Prop) (e : Entry) : (enA e).bel U := ⟨trivial, trivial, trivial, trivial, trivial, trivial⟩
def enB (U : Nat -> Prop) (ls : List Entry) : aI U (ls.map enA) := pZ dQ U ls
def dN (U : Nat -> Prop) (ls : List Int) : aI U (ls.map inA) := pZ (f := inA) (fun _ _ => trivial) U ls
def zR (U : Nat -> Prop) (r : Run) : (rA r).bel U := ⟨enB _ _, trivial, trivial⟩
def bJm (U : Nat -> Prop) (r : Run) : (runOwn r).bel U := ⟨enB _ _, trivial, trivial⟩
def pA (U : Nat -> Prop) (ls : List Run) : aI U (ls.map rA) := pZ zR U ls
def aCn (U : Nat -> Prop) (ls : List Run) : aI U (ls.map runOwn) := pZ bJm U ls
def bC (U : Nat -> Prop) (ls : List (List Run)) : aI U (ls.map rsA) := pZ pA U ls
def xK (U : Nat -> Prop) (ls : List (List Run)) : aI U (ls.map rsO) := pZ aCn U ls
def aGd (σ : Nat -> Nat) (ls : List Entry) : aB σ (ls.map enA) = ls.map enA := dJ σ (enB _ ls)
def aFb (σ : Nat -> Nat) (ls : List Int) : aB σ (ls.map inA) = ls.map inA := dJ σ (dN _ ls)
def bEq (σ : Nat -> Nat) (ls : List Run) : aB σ (ls.map rA) = ls.map rA := dJ σ (pA _ ls)
def aZo (σ : Nat -> Nat) (ls : List Run) : aB σ (ls.map runOwn) = ls.map runOwn := dJ σ (aCn _ ls)
def aBk (σ : Nat -> Nat) (ls : List (List Run)) : aB σ (ls.map rsA) = ls.map rsA := dJ σ (bC _ ls)
def xW (σ : Nat -> Nat) (ls : List (List Run)) : aB σ (ls.map rsO) = ls.map rsO := dJ σ (xK _ ls)
def bAw (ls : List Entry) : (ls.map enA).all AV.elem = true := by
  rw [List.all_map, C8]; intro l _; rfl
def bAa (ls : List Int) : (ls.map inA).all AV.elem = true := by
  rw [List.all_map, C8]; intro l _; rfl
def aJh (ls : List Run) : (ls.map rA).all AV.elem = true := by
  rw [List.all_map, C8]; intro l _; rfl
def aWq (ls : List (List Run)) : (ls.map rsA).all AV.elem = true := by
  rw [List.all_map, C8]; intro l _; rfl
def eY (ls : List Entry) : fzL (ls.map enA) = ls.map enA := by rw [tC]; rfl
def qJ (ls : List Int) : fzL (ls.map inA) = ls.map inA := by rw [tC]; rfl
def bFb (r : Run) : (rA r).fz = rA r := by simp [rA, AV.fz, fzL, eY]
def aNk (r : Run) : (runOwn r).fz = rA r := by simp [rA, runOwn, AV.fz, fzL, eY]
def qP (ls : List Run) : fzL (ls.map rA) = ls.map rA := by rw [tC]; exact E8 fun r _ => bFb r
def Dc (h : R -> G := by intro k; simp only [go_sem, AV.fz, List.map_cons, List.map_nil, fzL, qP, rsA]; exact k) : R -> G := h
def dG (ls : List Run) : fzL (ls.map runOwn) = ls.map rA := by rw [tC]; exact E8 fun r _ => aNk r
def Cs (h : R -> G := by intro k; simp only [go_sem, AV.fz, fzL, dG, rsO]; exact k) : R -> G := h
def bEd (ls : List (List Run)) : fzL (ls.map rsA) = ls.map rsA := by rw [tC]; exact E8 fun r _ => by simp [rsA, AV.fz, qP]
def mI (ls : List (List Run)) : fzL (ls.map rsO) = ls.map rsA := by rw [tC]; exact E8 fun r _ => by simp [rsA, rsO, AV.fz, dG]
attribute [go_sem] enB dN pA aCn bC xK aGd aFb bEq aZo aBk xW bAw bAa aJh aWq eY qJ qP dG bEd mI
def aJr {x : α} (h : xs[i]? = some x) : xs.drop i = x :: xs.drop (i + 1) := by
  obtain ⟨hlt, he⟩ := B2.1 h
  rw [List.drop_eq_getElem_cons hlt, he]
def ix (h : i < xs.length) : ∃ x, xs[i]? = some x /\ xs.drop i = x :: xs.drop (i + 1) /\ x ∈ xs :=
  ⟨xs[i], A1 h, aJr (A1 h), C9 h⟩
def ixc (h : decide ((i : Int) < (xs.length : Int)) = true) : i < xs.length /\ ∃ x, xs[i]? = some x /\ xs.drop i = x :: xs.drop (i + 1) /\ x ∈ xs :=
  have hlt : i < xs.length := (by simpa using h)
  ⟨hlt, ix hlt⟩
def gec {n i : Nat} (h : decide ((i : Int) < (n : Int)) = false) : n <= i := Nat.not_lt.1 (by simpa using h)
def wiS (i : Nat) (h : (i : Int) < 9223372036854775807) : IntKind.i64.wrap ((i : Int) + 1) = ((i + 1 : Nat) : Int) := by rw [IntKind.wrap_i64]; omega
abbrev w64 := @IntKind.wrap_i64
end

def rB (ls : List Entry) : Prop := ls.length <= 1048576 /\ ∀ e ∈ ls, e.key.size <= 1048576 /\ e.text.size <= 1048576
def aGn (ls : List Run) : Prop := ls.length <= 1048576 /\ ∀ r ∈ ls, rB r.ents
def aKz (ls : List (List Run)) : Prop := ls.length <= 1048576 /\ ∀ r ∈ ls, aGn r
def FB : P.underlying 22 = some (.slice 5) /\ P.underlying 5 = some (.int .u8) /\ P.underlying 9 = some .string := by refine ⟨?_, ?_, ?_⟩ <;> kernel_rfl
def h10 : ((10 : Int) = 0) = False := by simp
def bMo {H H1 nd : Heap} {s : List (Nat × Nat)} {m0 : Nat} (ho : qV (sg s) m0 H nd) (hn : (nd.map fun p => sg s p.1).Nodup) (hc : ∀ i, i < m0 -> i ∈ nd.map (·.1)) (hs : ∀ p ∈ s, p.1 ∈ nd.map (·.1)) (hk : nd.map (·.1) = H1.map (·.1)) (hm : m0 <= 1000) : FitC H s nd m0 0 H1 where
  objs := ho
  inj := hn
  cov := fun i hi => by obtain ⟨o, ho⟩ := vJ (hc i hi); rw [ho]; rfl
  sk := fun p hp => by obtain ⟨o, ho⟩ := vJ (hs p hp); rw [ho]; rfl
  dom := fun p hp => .inl (by obtain ⟨o, ho⟩ := vJ (l := nd) (i := p.1) (by rw [hk]; exact D3 hp); rw [ho]; rfl)
  all := fun p hp => by obtain ⟨o, ho⟩ := vJ (l := H1) (i := p.1) (by rw [<- hk]; exact D3 hp); rw [ho]; rfl
  far := by omega
def gW (t : Tree) : Prop := rB t.mem /\ aKz t.levels /\ t.snaps.length <= 1048576
def gA (s : Store) : Prop := gW s.tree /\ aKz s.disk.levels
def e65 : P.underlying 43 = some (.struct (P.fieldsOf 43)) /\ P.stoodInHeld 43 = false /\ P.eqGuardType P.depth 43 = false /\ P.underlying 9 = some .string /\ P.underlying 3 = some (.int .i64) := by refine ⟨?_, ?_, ?_, ?_, ?_⟩ <;> kernel_rfl
def f65 : (P.fieldsOf 43).toList = [{ name := "Key", type := 9, offset := 0, embedded := false, tag := "", pkgPath := "", byteOffset := 0 }, { name := "Seq", type := 3, offset := 1, embedded := false, tag := "", pkgPath := "", byteOffset := 16 },
  { name := "Kind", type := 3, offset := 2, embedded := false, tag := "", pkgPath := "", byteOffset := 24 }, { name := "Text", type := 9, offset := 3, embedded := false, tag := "", pkgPath := "", byteOffset := 32 }, { name := "N", type := 3, offset := 4, embedded := false, tag := "", pkgPath := "", byteOffset := 48 }] := kr
def p65 : P.plainKey 9 = true /\ P.plainKey 3 = true := by refine ⟨?_, ?_⟩ <;> kernel_rfl
def aAn (e : Entry) : Array Value := #[.string e.key, .int .i64 e.seq, .int .i64 e.kind, .string e.text, .int .i64 e.n]
def aBv (a b : ByteArray) : (a.toList == b.toList) = decide (a = b) := by
  rw [<- beq_toListBytes]
  obtain ⟨⟨x⟩⟩ := a
  obtain ⟨⟨y⟩⟩ := b
  by_cases h : x = y
  . subst h; rw [decide_eq_true rfl]; show (({ toList := x } : Array UInt8) == { toList := x }) = true; simp
  have h1 : (({ data := { toList := x } } : ByteArray) = { data := { toList := y } }) ↔ x = y := by simp
  simp [h]
  show (({ toList := x } : Array UInt8) == { toList := y }) = false
  simpa using h
def bGx (e f : Entry) (w : World) : (Op.equalIn 10000 43 (.agg (aAn e)) (.agg (aAn f))).run P w = .ok (decide (e = f)) w := by
  rw [run_equalIn_agg w 9999 43 _ _ e65.1 e65.2.1, f65]
  have h0 : ∀ e : Entry, (part 9 (aAn e) 0).run P w = .ok (.string e.key) w := fun e => run_part_plain w p65.1 rfl
  have h1 : ∀ e : Entry, (part 3 (aAn e) 1).run P w = .ok (.int .i64 e.seq) w := fun e => run_part_plain w p65.2 rfl
  have h2 : ∀ e : Entry, (part 3 (aAn e) 2).run P w = .ok (.int .i64 e.kind) w := fun e => run_part_plain w p65.2 rfl
  have h3 : ∀ e : Entry, (part 9 (aAn e) 3).run P w = .ok (.string e.text) w := fun e => run_part_plain w p65.1 rfl
  have h4 : ∀ e : Entry, (part 3 (aAn e) 4).run P w = .ok (.int .i64 e.n) w := fun e => run_part_plain w p65.2 rfl
  have hs : ∀ a b : ByteArray, (Op.equalIn 9999 9 (.string a) (.string b)).run P w = .ok (decide (a = b)) w := fun a b => by rw [run_equalIn_string w 9998 9 a b e65.2.2.2.1, aBv]
  have hi : ∀ a b : Int, (Op.equalIn 9999 3 (.int .i64 a) (.int .i64 b)).run P w = .ok (a == b) w := fun a b => run_equalIn_int w 9998 3 .i64 .i64 a b e65.2.2.2.2
  have hd : decide (e = f) = (decide (e.key = f.key) && ((e.seq == f.seq) && ((e.kind == f.kind) && (decide (e.text = f.text) && (e.n == f.n))))) := by
    obtain ⟨a1, a2, a3, a4, a5⟩ := e
    obtain ⟨b1, b2, b3, b4, b5⟩ := f
    rw [Bool.eq_iff_iff]
    simp [and_assoc]
  rw [hd]; simp only [Op.eqFields, Sem.run_bind, Sem.run_ite, Sem.run_pure, h0, h1, h2, h3, h4, hs, hi, Result.andThen_ok, ne_eq, String.reduceEq, not_false_eq_true, if_true]
  generalize decide (e.key = f.key) = c1
  generalize (e.seq == f.seq) = c2
  generalize (e.kind == f.kind) = c3
  generalize decide (e.text = f.text) = c4
  generalize (e.n == f.n) = c5
  cases c1 <;> cases c2 <;> cases c3 <;> cases c4 <;> cases c5 <;> rfl
def vE {ro : Option Nat} {N : Nat} {E : Env} {H : Heap} {nx : Nat} {o : Oper} {b0 : Nat} {ds : List (Option Tmp)} {x y : Operand} {t' : TypeId} {e f : Entry} (hg : o.guard = none) (ho : o.op = .binOp .neq 43 x y t') (hN : ∀ d, o.dst = some d -> d < N)
    (hx : opv E x = some (enA e)) (hy : opv E y = some (enA f)) : aY P ro N ds o b0 E H (aF [x, y]) [] (Nb (!decide (e = f))) [] nx 0 := by
  refine lsO hg fun E' H' U hE hH' _ => ?_
  rw [aU0]
  have hops := oCg hE
  refine aT (by simp [ho, Op.noDefer]) hN fun C a w hR => ?_
  obtain ⟨h1, _⟩ := hR.opv (x := x) (r := enA e) (by rw [hops x oS]; exact hx)
  obtain ⟨h2, _⟩ := hR.opv (x := y) (r := enA f) (by rw [hops y oS]; exact hy)
  have hv : ∀ (e : Entry) (v : Value), Rep C.ρ (C.avoid H') w.heap (enA e) v -> v = .agg (aAn e) := fun e v h => by
    cases h with
    | agg _ vs hn hr =>
      have k0 := hr 0 _ rfl
      have k1 := hr 1 _ rfl
      have k2 := hr 2 _ rfl
      have k3 := hr 3 _ rfl
      have k4 := hr 4 _ rfl
      have hsz : vs.size = 5 := hn
      have g : ∀ j u, vs.getD j undef = u -> j < 5 -> vs[j]? = some u := fun j u h hj => by
        rw [B5, D4 og] at h; rw [D4 og]
        exact congrArg some h
      have i0 : vs.getD 0 undef = .string e.key := by generalize vs.getD 0 undef = u at k0; cases k0; rfl
      have i1 : vs.getD 1 undef = .int .i64 e.seq := by generalize vs.getD 1 undef = u at k1; cases k1; rfl
      have i2 : vs.getD 2 undef = .int .i64 e.kind := by generalize vs.getD 2 undef = u at k2; cases k2; rfl
      have i3 : vs.getD 3 undef = .string e.text := by generalize vs.getD 3 undef = u at k3; cases k3; rfl
      have i4 : vs.getD 4 undef = .int .i64 e.n := by generalize vs.getD 4 undef = u at k4; cases k4; rfl
      congr 1
      refine Array.ext_getElem? fun j => ?_
      match j with
      | 0 => exact g 0 _ i0 og
      | 1 => exact g 1 _ i1 og
      | 2 => exact g 2 _ i2 og
      | 3 => exact g 3 _ i3 og
      | 4 => exact g 4 _ i4 og
      | j + 5 => rw [Array.getElem?_eq_none og]; rfl
  have hev := hv e _ h1
  have hfv := hv f _ h2
  refine ⟨trivial, _, ?_, .raw _⟩
  have hgd := run_eqGuard_agg (P := P) w .neq 43 x y (aAn e) (aAn f) e65.2.2.1
  simp only [execOp, ho, hev, hfv, Sem.run_bind, hgd, Result.andThen_ok, run_neq_struct, bGx, Sem.run_pure]
def cG {p : Nat -> Bool} {i : Nat} (h : ∀ j, j < i -> p j = true) (hp : p i = true) : ∀ j, j < i + 1 -> p j = true := fun j hj => by
  by_cases e : j = i
  . rw [e]; exact hp
  exact h j og
def hZ {p : Nat -> Bool} {i n : Nat} (hi : i < n) (hp : p i = false) : (List.range n).all p = false := by
  rw [List.all_eq_false]
  exact ⟨i, List.mem_range.2 hi, by simp [hp]⟩
def gF {p : Nat -> Bool} {i n : Nat} (hi : n <= i) (h : ∀ j, j < i -> p j = true) : (List.range n).all p = true := by
  rw [C8]; intro j hj
  exact h j (by have := List.mem_range.1 hj; omega)
abbrev bRd (s : ByteArray) : Bool := s.toList == (⟨#[]⟩ : ByteArray).toList
def wM (s : ByteArray) (i : Nat) : Bool := !((decide (aS s i < 97) || decide (122 < aS s i)) && (decide (aS s i < 47) || decide (57 < aS s i)))
def jJ (s : ByteArray) : Bool := (List.range s.size).all (wM s) && (decide (1 <= (s.size : Int)) && decide ((s.size : Int) <= 8))
def nP (n : Int) : Bool := decide (-1000000 <= n) && decide (n <= 1000000)
def jS (e : Entry) : Bool := !jJ e.key || decide (e.seq < 1) || decide (100000 < e.seq) || !nP e.n || decide (60 < (e.text.size : Int))
def bJ (e : Entry) : Bool := if jS e = true then false else if e.kind = 1 then true else if e.kind = 2 then bRd e.text && decide (e.n = 0) else if e.kind = 3 then bRd e.text else false
def entLt (a b : Entry) : Bool := Op.bytesLess a.key.toList b.key.toList || (a.key.toList == b.key.toList && decide (b.seq < a.seq))
def bX (ls : List Entry) (i : Nat) : Entry := (ls[i - 1]?).getD ⟨⟨#[]⟩, 0, 0, ⟨#[]⟩, 0⟩
def zX (ls : List Entry) (i : Nat) : Bool := match ls[i]? with
  | some e => !(!bJ e || (decide (0 < (i : Int)) && !entLt (bX ls i) e))
  | none => true
def bU (ls : List Entry) : Bool := (List.range ls.length).all (zX ls)
def aNu (e : Entry) : Prop := e.key.size <= 4611686018427387904 /\ e.text.size <= 4611686018427387904
def cW (ls : List Entry) : Prop := ls.length <= 4611686018427387904 /\ ∀ e ∈ ls, aNu e
def qN {α : Type} [DecidableEq α] (a b : List α) (i : Nat) : Bool := decide (a[i]? = b[i]?)
def mS {α : Type} [DecidableEq α] {a b : List α} (hl : a.length = b.length) (h : ∀ j, j < a.length -> qN a b j = true) : a = b := by
  refine List.ext_getElem? fun j => ?_
  by_cases hj : j < a.length
  . simpa [qN] using h j hj
  rw [E3 og, E3 og]
def qK (ls : List Entry) (seq : Int) (i : Nat) : Bool := match ls[i]? with | some e => !decide (seq < e.seq) | none => true
def mK (ls : List Entry) (seq : Int) : Bool := (List.range ls.length).all (qK ls seq)
def aTo (s : ByteArray) (hz : s.size <= 4611686018427387904) : aK P 150 [Ns s] [] 0 (Nb (jJ s)) := by
 refine (pq 40 [.tmp 2] func150) ((aj) ?_)
 refine aA fun k2 => (aj) (wb ?_)
 refine wa s.size (wM s) (fun x => ([(0, Ns s), (3, Ni (x : Int))], [])) 0 [] ?_ ?_
 . exact jc
 rintro i ⟨hi, hall⟩
 refine aA fun k4 => (aj) ((cdB) ?_ ?_) <;> intro hc1
 . have hge : s.size <= i := Nat.not_lt.1 (by simpa using hc1)
   refine we ((jt) (k2 ((aj) (wR ?_))))
   have h9 : jJ s = (decide (1 <= (s.size : Int)) && decide ((s.size : Int) <= 8)) := by unfold jJ; rw [gF hge hall]; rfl
   exact fq h9
 have hlt : i < s.size := by simpa using hc1
 refine wk (k4 (aA fun k6 => wb (sr rfl fun k7 => (ja) ((jr) (k7 ((cdA) ?_ ?_)))))) <;> intro hc2
 . have hp : wM s i = false := by unfold wM; rw [hc2]; rfl
   refine (aj) (wR ((Ah) ?_))
   have h9 : jJ s = false := by unfold jJ; rw [hZ hlt hp]; rfl
   exact fq h9
 have hp : wM s i = true := by unfold wM; rw [hc2]; rfl
 refine wk ((jt) (k6 ((jw (wiS i og)) ((jt) ?_))))
 refine ⟨i + 1, ⟨og, cG hall hp⟩, og, [], ?_⟩
 exact jo
def nB (n : Int) : aK P 151 [Ni n] [] 0 (Nb (nP n)) := by
 refine (pq 9 [.tmp 2] func151) ((aj) ((aj) (wR ?_)))
 refine fO ?_ trivial; simp only [go_sem, nP]
def sA (e : Entry) (hz : aNu e) : aK P 116 [enA e] [] 0 (Nb (bJ e)) := by
 refine (pq 48 [.tmp 2] func116) ?_
 simp only [enA]
 refine (aj) ?_
 refine aA fun k2 => sr rfl fun k3 => (ja) ((vq func150 (aTo e.key hz.1)) ?_)
 refine vpg rfl rfl rfl rfl rfl rfl ⟨func151, rfl, rfl⟩ (fun hg => nB e.n) oG (fun hg => oG) oG trivial ?_
 refine (ja) (k3 ((cdA) ?_ ?_)) <;> intro hc1
 . have hb : jS e = true := hc1
   refine (aj) (wR ?_)
   refine fO ?_ trivial; simp only [go_sem, bJ, hb]
 have hb : jS e = false := hc1
 refine wk (k2 (aA fun k5 => (aj) (wb ((aj) ((cdA) ?_ ?_))))) <;> intro hc2
 . have k1 : e.kind = 1 := by simpa using hc2
   refine (aj) (wR ((Ah) ?_))
   refine fO ?_ trivial; simp only [go_sem, bJ, hb, C5, if_false, if_pos k1]
 have k1 : ¬ (e.kind = 1) := by simpa using hc2
 refine (aj) ((cdA) ?_ ?_) <;> intro hc3
 . have k2 : e.kind = 2 := by simpa using hc3
   refine (aj) (wR ((Ah) ?_))
   refine fO ?_ trivial; simp only [go_sem, bJ, hb, C5, if_false, if_neg k1, if_pos k2]
 have k2 : ¬ (e.kind = 2) := by simpa using hc3
 refine (aj) ((cdA) ?_ ?_) <;> intro hc4
 . have k3 : e.kind = 3 := by simpa using hc4
   refine (aj) (wR ((Ah) ?_))
   refine fO ?_ trivial; simp only [go_sem, bJ, hb, C5, if_false, if_neg k1, if_neg k2, if_pos k3]
 have k3 : ¬ (e.kind = 3) := by simpa using hc4
 refine wk ((jt) (k5 ((aj) (wR ?_))))
 refine fO ?_ trivial; simp only [go_sem, bJ, hb, C5, if_false, if_neg k1, if_neg k2, if_neg k3]
def pN (a b : Entry) : aK P 117 [enA a, enA b] [] 0 (Nb (entLt a b)) := by
 refine (pq 24 [.tmp 4] func117) ?_
 simp only [enA]
 refine (aj) ((aj) (wR ?_))
 refine fO ?_ trivial; simp only [go_sem, entLt]
def rZ (ls : List Entry) (hz : cW ls) : aK P 75 [.sl 5 (ls.map enA)] [] 0 (Nb (bU ls)) := by
 refine (pq 33 [.tmp 2] func75) ?_
 have hlen := hz.1
 refine (aj) ?_
 refine aA fun k2 => (aj) (wb ?_)
 refine wa ls.length (zX ls) (fun x => ([(0, .sl 5 (ls.map enA)), (3, Ni (x : Int))], [])) 0 [] ?_ ?_
 . exact jc
 rintro i ⟨hi, hall⟩
 refine aA fun k4 => (aj) ((cdB) ?_ ?_) <;> intro hc1
 . have hge := gec hc1
   refine we ((jt) (k2 ((aj) (wR ?_))))
   have h9 : bU ls = true := by unfold bU; exact gF hge hall
   exact fq h9
 obtain ⟨hlt, l, hl, hdrop, hml⟩ := ixc hc1
 have hw1 := wr ((i : Int) - 1) ((i : Int) - 1) og
 have hpn : ((i : Int) - 1).toNat = i - 1 := by omega
 have hpv : ls[i - 1]? = some (bX ls i) := by unfold bX; rw [A1 og]; rfl
 refine wk (k4 (aA fun k6 => wb (sd mixed rfl fun k7 => (Ay hl hw1 hpn hpv) ((jr) ?_))))
 refine tp rfl rfl rfl ⟨func116, rfl, rfl⟩ (sA l (hz.2 l hml)) Ae Ae ?_
 refine (Ay hl hw1 hpn hpv) ((jr) ?_)
 refine tpg rfl rfl rfl rfl rfl rfl ⟨func117, rfl, rfl⟩ (fun hg => pN (bX ls i) l) oG (fun hg => Ae) Ae trivial ?_
 refine (Ay hl hw1 hpn hpv) ((jr) ((jy) (k7 ((cdA) ?_ ?_)))) <;> intro hc2
 . have hp : zX ls i = false := by unfold zX; rw [hl]; simp only [hc2]; rfl
   refine (aj) (wR ((Ah) ?_))
   have h9 : bU ls = false := by unfold bU; exact hZ hlt hp
   exact fq h9
 have hp : zX ls i = true := by unfold zX; rw [hl]; simp only [hc2]; rfl
 refine wk ((jt) (k6 ((jw (wiS i og)) ((jt) ?_))))
 refine ⟨i + 1, ⟨og, cG hall hp⟩, og, [], ?_⟩
 exact jo
def tL (a b : List Entry) (hz : a.length <= 4611686018427387904) : aK P 83 [.sl 5 (a.map enA), .sl 5 (b.map enA)] [] 0 (Nb (decide (a = b))) := by
 refine (pq 26 [.tmp 4] func83) ((aj) ?_)
 refine aA fun k2 => (aj) ((cdA) ?_ ?_) <;> intro hc1
 . have hne : a ≠ b := fun e => by rw [e] at hc1; simp at hc1
   exact (aj) (wR (fq (decide_eq_false hne)))
 have hlen : a.length = b.length := by simp at hc1; omega
 refine wk (k2 (aA fun k5 => (aj) (wb ?_)))
 refine wa a.length (qN a b) (fun x => ([(0, .sl 5 (a.map enA)), (1, .sl 5 (b.map enA)), (5, Ni (x : Int))], [])) 0 [] ?_ ?_
 . exact jc
 rintro i ⟨hi, hall⟩
 refine aA fun k7 => (aj) ((cdB) ?_ ?_) <;> intro hc2
 . have hge := gec hc2
   refine we ((jt) (k5 ((aj) (wR ?_))))
   have hie : i = a.length := by omega
   subst hie
   have he := mS hlen hall
   exact fq (decide_eq_true he)
 obtain ⟨hlt, l, hl, _, _⟩ := ixc hc2
 obtain ⟨m, hm, _, _⟩ := ix (xs := b) (i := i) og
 refine wk (k7 (aA fun k9 => wb (sd mixed rfl fun k10 => (Bn hl hm) ((jr) ?_))))
 refine aN (fun hN => vE rfl rfl hN rfl rfl) (.inl rfl) ?_
 refine (Bn hl hm) ((jr) ((jy) (k10 ((cdA) ?_ ?_)))) <;> intro hc3
 . have hne : a ≠ b := fun e => by
     rw [e, hm] at hl; cases hl; simp at hc3
   exact (aj) (wR ((Ah) (fq (decide_eq_false hne))))
 . have hp : qN a b i = true := by unfold qN; rw [hl, hm]; simpa using hc3
   refine wk ((jt) (k9 ((jw (wiS i og)) ((jt) ?_))))
   refine ⟨i + 1, ⟨og, cG hall hp⟩, og, [], ?_⟩
   exact jo
def aOw (a b : List Int) (hz : a.length <= 4611686018427387904) : aK P 84 [.sl 1 (a.map inA), .sl 1 (b.map inA)] [] 0 (Nb (decide (a = b))) := by
 refine (pq 26 [.tmp 4] func84) ((aj) ?_)
 refine aA fun k2 => (aj) ((cdA) ?_ ?_) <;> intro hc1
 . have hne : a ≠ b := fun e => by rw [e] at hc1; simp at hc1
   exact (aj) (wR (fq (decide_eq_false hne)))
 have hlen : a.length = b.length := by simp at hc1; omega
 refine wk (k2 (aA fun k5 => (aj) (wb ?_)))
 refine wa a.length (qN a b) (fun x => ([(0, .sl 1 (a.map inA)), (1, .sl 1 (b.map inA)), (5, Ni (x : Int))], [])) 0 [] ?_ ?_
 . exact jc
 rintro i ⟨hi, hall⟩
 refine aA fun k7 => (aj) ((cdB) ?_ ?_) <;> intro hc2
 . have hge := gec hc2
   refine we ((jt) (k5 ((aj) (wR ?_))))
   have hie : i = a.length := by omega
   subst hie
   have he := mS hlen hall
   exact fq (decide_eq_true he)
 obtain ⟨hlt, l, hl, _, _⟩ := ixc hc2
 obtain ⟨m, hm, _, _⟩ := ix (xs := b) (i := i) og
 refine wk (k7 (aA fun k9 => wb (sd mixed rfl fun k10 => ?_)))
 simp only [go_sem, hl, hm, inA]
 refine (jr) ((jy) (k10 ((cdA) ?_ ?_))) <;> intro hc3
 . have hne : a ≠ b := fun e => by
     rw [e, hm] at hl; cases hl; simp at hc3
   exact (aj) (wR ((Ah) (fq (decide_eq_false hne))))
 . have hp : qN a b i = true := by unfold qN; rw [hl, hm]; simpa using hc3
   refine wk ((jt) (k9 ((jw (wiS i og)) ((jt) ?_))))
   refine ⟨i + 1, ⟨og, cG hall hp⟩, og, [], ?_⟩
   exact jo
def wQ (ls : List Entry) (seq : Int) (hz : ls.length <= 4611686018427387904) : aK P 76 [.sl 5 (ls.map enA), Ni seq] [] 0 (Nb (mK ls seq)) := by
 refine (pq 19 [.tmp 4] func76) ((aj) ?_)
 refine aA fun k2 => (aj) (wb ?_)
 refine wa ls.length (qK ls seq) (fun x => ([(0, .sl 5 (ls.map enA)), (1, Ni seq), (5, Ni (x : Int))], [])) 0 [] ?_ ?_
 . exact jc
 rintro i ⟨hi, hall⟩
 refine aA fun k4 => (aj) ((cdB) ?_ ?_) <;> intro hc1
 . have hge := gec hc1
   refine we ((jt) (k2 ((aj) (wR ?_))))
   have h9 : mK ls seq = true := by unfold mK; exact gF hge hall
   exact fq h9
 obtain ⟨hlt, l, hl, hdrop, hml⟩ := ixc hc1
 refine wk (k4 (aA fun k6 => wb (sr rfl fun k7 => (An hl) ((jr) (k7 ((cdA) ?_ ?_)))))) <;> intro hc2
 . have hp : qK ls seq i = false := by unfold qK; rw [hl]; simp only [hc2]; rfl
   refine (aj) (wR ((Ah) ?_))
   have h9 : mK ls seq = false := by unfold mK; exact hZ hlt hp
   exact fq h9
 have hp : qK ls seq i = true := by unfold qK; rw [hl]; simp only [hc2]; rfl
 refine wk ((jt) (k6 ((jw (wiS i og)) ((jt) ?_))))
 refine ⟨i + 1, ⟨og, cG hall hp⟩, og, [], ?_⟩
 exact jo
end Go.Proofs.S
end
