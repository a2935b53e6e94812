/-
  The abstract layer, the walks and the plain laws that the claim leans on, part 3 of 7 (working texts Abs37 to S4). It proves lemmas alone; no condition of its own.
-/
import Derived.Test.YthbibdnkiklemaaGreatDoorP2
import Derived.Below
import Derived.Sort.Grow
import Derived.Deep.Draws
import Derived.Lib.AppendStr
import Derived.Lib.UnsafeStr
import Derived.Lib.Builder
import Derived.Laws.Externs
import Derived.Test.YthbibdnkiklemaaGreatDoorProg
import Derived.KernelRfl
import Derived.Lib.LaidTab
import Derived.Lib.ItoaNum
set_option linter.all false
set_option maxRecDepth 20000
section
open Go
namespace Go.Abs
section
variable [Globals]
mutual
def AV.sub (i : Nat) (y : AV) : AV -> AV
  | .ref j => if j = i then y else .ref j
  | .agg cs => .agg (aNh i y cs)
  | .tup cs => .tup (aNh i y cs)
  | .iface t x => .iface t (AV.sub i y x)
  | .any => .any
  | .raw v => .raw v
  | .sl sz xs => .sl sz xs
  | .fp sz xs j off => .fp sz xs j off
  | .ptr j off => .ptr j off
  | .ep j sz k off => .ep j sz k off
  | .fn f a b => .fn f a b
  | .when c x => .when c x
  | .own e sz xs => .own e sz xs
def aNh (i : Nat) (y : AV) : List AV -> List AV
  | [] => []
  | x :: xs => AV.sub i y x :: aNh i y xs
end
def AObj.sub (i : Nat) (y : AV) : AObj -> AObj
  | .cells t cs => .cells t (aNh i y cs)
  | o => o
def aZo (i : Nat) (y : AV) : Env -> Env
  | [] => []
  | (t, x) :: r => (t, AV.sub i y x) :: aZo i y r
def qF (i : Nat) (y : AV) : Heap -> Heap
  | [] => []
  | (j, o) :: r => (j, if j = i then .dead else o.sub i y) :: qF i y r
def aEn (i : Nat) (y : AV) : ∀ (xs : List AV) (j : Nat), (aNh i y xs)[j]? = (xs[j]?).map (AV.sub i y)
  | [], j => rfl
  | x :: xs, 0 => rfl
  | x :: xs, j + 1 => by simpa [aNh] using aEn i y xs j
def qE (i : Nat) (y : AV) : ∀ xs : List AV, (aNh i y xs).length = xs.length
  | [] => rfl
  | x :: xs => by simp [aNh, qE i y xs]
def aKs (i : Nat) (y : AV) (t : Nat) : ∀ E : Env, get (aZo i y E) t = (get E t).map (AV.sub i y)
  | [] => rfl
  | (k, x) :: r => by
    simp only [aZo, get]; split
    . rfl
    exact aKs i y t r
def jN (i : Nat) (y : AV) (t : Nat) : ∀ H : Heap, get (qF i y H) t = (get H t).map fun o => if t = i then .dead else o.sub i y
  | [] => rfl
  | (k, x) :: r => by
    simp only [qF, get]; split
    . rename_i h; subst h; rfl
    exact jN i y t r
mutual
theorem AV.fz_bel {U : Nat -> Prop} : ∀ {x : AV}, x.bel U -> x.fz.bel U
  | .any, _ => trivial
  | .raw _, _ => trivial
  | .agg cs, h => by rw [AV.fz]; exact mQ (xs := cs) h
  | .tup cs, h => by rw [AV.fz]; exact mQ (xs := cs) h
  | .sl _ xs, h => by rw [AV.fz]; exact mQ (xs := xs) h
  | .fp _ xs _ _, h => by rw [AV.fz]; exact mQ (xs := xs) h
  | .ptr _ _, h => h
  | .ep _ _ _ _, h => h
  | .ref _, h => h
  | .iface _ x, h => by rw [AV.fz]; exact AV.fz_bel (x := x) h
  | .fn _ a b, h => by rw [AV.fz]; exact ⟨mQ (xs := a) h.1, mQ (xs := b) h.2⟩
  | .when _ x, h => by rw [AV.fz]; exact AV.fz_bel (x := x) h
  | .own _ _ xs, h => by rw [AV.fz]; exact mQ (xs := xs) h
theorem mQ {U : Nat -> Prop} : ∀ {xs : List AV}, aE U xs -> aE U (fzL xs)
  | [], _ => trivial
  | x :: xs, h => ⟨AV.fz_bel h.1, mQ h.2⟩
end
mutual
theorem AV.sub_bel {U : Nat -> Prop} {i : Nat} {y : AV} (hy : y.bel U) : ∀ {x : AV}, x.bel U -> (AV.sub i y x).bel U
  | .ref j, h => by
    rw [AV.sub]; split
    . exact hy
    exact h
  | .agg cs, h => by rw [AV.sub]; exact yL hy (xs := cs) h
  | .tup cs, h => by rw [AV.sub]; exact yL hy (xs := cs) h
  | .iface _ x, h => by rw [AV.sub]; exact AV.sub_bel hy (x := x) h
  | .any, h => h
  | .raw _, h => h
  | .sl _ _, h => h
  | .fp _ _ _ _, h => h
  | .ptr _ _, h => h
  | .ep _ _ _ _, h => h
  | .fn _ _ _, h => h
  | .when _ _, h => h
  | .own _ _ _, h => h
theorem yL {U : Nat -> Prop} {i : Nat} {y : AV} (hy : y.bel U) : ∀ {xs : List AV}, aE U xs -> aE U (aNh i y xs)
  | [], _ => trivial
  | x :: xs, h => ⟨AV.sub_bel hy h.1, yL hy h.2⟩
end
def Rep.sub {ρ : Nat -> Value} {av : Nat -> Prop} {hp : Array Obj} {i : Nat} {y : AV} (hy : Rep ρ av hp y (ρ i)) {x : AV} {v : Value} (h : Rep ρ av hp x v) : Rep ρ av hp (AV.sub i y x) v := by
  have aux : ∀ {xs : List AV} {g : Nat -> Value}, (∀ (j : Nat) (z : AV), xs[j]? = some z -> Rep ρ av hp (AV.sub i y z) (g j)) -> ∀ (j : Nat) (z : AV), (aNh i y xs)[j]? = some z -> Rep ρ av hp z (g j) := fun hh j z hz => by
    rw [aEn] at hz
    obtain ⟨u, hu, rfl⟩ := A8.1 hz
    exact hh j u hu
  induction h with
  | agg cs vs hn _ ih => exact .agg _ vs (by rw [qE]; exact hn) (aux (g := fun j => vs.getD j undef) ih)
  | tup cs vs hn _ ih => exact .tup _ vs (by rw [qE]; exact hn) (aux (g := fun j => vs.getD j undef) ih)
  | ref j =>
    rw [AV.sub]; split
    . rename_i e; subst e; exact hy
    exact .ref j
  | iface t x v _ ih => exact .iface t _ v ih
  | any v => exact .any v
  | raw v => exact .raw v
  | sl0 sz A c hc => exact .sl0 sz A c hc
  | sl sz xs b off c cells t fr vals h0 hc hm hb hh h hcells _ => exact .sl sz xs b off c cells t fr vals h0 hc hm hb hh h hcells
  | fp sz xs j d b off cells t fr vals hb hh h hcells _ => exact .fp sz xs j d b off cells t fr vals hb hh h hcells
  | ptr i off b h => exact .ptr _ off b h
  | ep i sz j off b h => exact .ep _ sz j off b h
  | fn f first cap vs us hn h hn' h' _ _ => exact .fn f _ _ vs us hn h hn' h'
  | when c x v h h' _ => exact .when c x v h h'
section
variable {P : Program} {ro : Option Nat} {N n0 : Nat} {Q : AQ} {E : Env} {H : Heap} {nx : Nat}
def aFz {c : Code} (i : Nat) {e sz : Nat} {xs : List AV} (hi : get H i = some (.row e sz xs)) (h : AWP P ro N n0 c Q (aZo i (.sl sz (fzL xs)) E) (qF i (.sl sz (fzL xs)) H) nx) : AWP P ro N n0 c Q E H nx := by
  intro C a w Qc hn hR hK
  let y : AV := .sl sz (fzL xs)
  let C' : Conc := { C with own := fun j => if j = i then [] else C.own j }
  have hW : ∀ b, C'.W (qF i y H) b -> ∃ j o, j ≠ i /\ get H j = some o /\ b ∈ C.own j := by
    rintro b ⟨j, o, hj, hb⟩
    have hb' : b ∈ (if j = i then [] else C.own j) := hb
    by_cases hji : j = i
    . rw [if_pos hji] at hb'; cases hb'
    rw [if_neg hji] at hb'
    rw [jN] at hj
    obtain ⟨o', ho', _⟩ := A8.1 hj
    exact ⟨j, o', hji, ho', hb'⟩
  have hWW : ∀ b, C'.W (qF i y H) b -> C.W H b := fun b hb => by
    obtain ⟨j, o, _, h1, h2⟩ := hW b hb
    exact ⟨j, o, h1, h2⟩
  have hav : ∀ b, C'.avoid (qF i y H) b -> C.avoid H b := fun b hb => hb.imp id (hWW b)
  have hbel := (hR.objb i _ hi).2
  have hyb : y.bel (UU nx) := mQ (xs := xs) hbel
  have hy : Rep C.ρ (C'.avoid (qF i y H)) w.heap y (C.ρ i) := by
    obtain ⟨h1, _⟩ := hR.obj i _ hi
    have h2 : RepO C.ρ (C'.avoid (qF i y H)) w.heap (.own e sz xs) (C.ρ i) (C.own i) := h1.mono' (fun b _ hb => hav b hb) (fun _ _ _ _ _ _ => rfl) (fun _ _ => rfl)
    refine h2.fz fun b hb hb' => ?_
    rcases hb' with hb' | hb'
    . exact hR.xapart i _ b hi hb hb'
    obtain ⟨j, o, hji, hj, hbj⟩ := hW b hb'
    exact hR.apart i j _ _ b (fun q => hji q.symm) hi hj hb hbj
  have hsub : ∀ {x : AV} {v : Value}, Rep C.ρ (C.avoid H) w.heap x v -> Rep C.ρ (C'.avoid (qF i y H)) w.heap (AV.sub i y x) v := fun hx => Rep.sub hy (hx.mono (fun b _ hb => hav b hb) (fun _ _ _ => rfl))
  have hRH : RelH C' (qF i y H) (UU nx) w := by
    refine { obj := fun j o hj => ?_, apart := fun j k oj ok b hjk hj hk hbj hbk => ?_, xapart := fun j o b hj hb => ?_, xlt := hR.xlt, objb := fun j o hj => ?_, gl := hR.toRelH.glK (fun b _ hb => hav b hb) (fun _ _ _ _ _ _ => rfl) }
    . rw [jN] at hj
      obtain ⟨o', ho', rfl⟩ := A8.1 hj
      by_cases hji : j = i
      . rw [if_pos hji]
        show (if j = i then [] else C.own j) = []
        rw [if_pos hji]
      rw [if_neg hji]
      have hown : C'.own j = C.own j := if_neg hji
      rw [hown]
      have h1 := (hR.obj j o' ho').mono' (av' := C'.avoid (qF i y H)) (hp' := w.heap) (fun b _ hb => hav b hb) (fun _ _ _ _ _ _ => rfl) (fun _ _ => rfl)
      cases o' with
      | cells t cs =>
        obtain ⟨b, vs, e1, e2, e3, e4⟩ := h1
        refine ⟨b, vs, e1, e2, e3, by rw [qE]; exact e4.1, fun k x hk => ?_⟩
        rw [aEn] at hk
        obtain ⟨u, hu, rfl⟩ := A8.1 hk
        exact Rep.sub hy (e4.2 k u hu)
      | _ => exact h1
    . obtain ⟨j', oj', _, h1, h2⟩ := hW b ⟨j, oj, hj, hbj⟩
      have e1 : ∀ l ol, get (qF i y H) l = some ol -> b ∈ C'.own l -> ∃ o, get H l = some o /\ b ∈ C.own l := fun l ol hl hbl => by
        have hb' : b ∈ (if l = i then [] else C.own l) := hbl
        by_cases hli : l = i
        . rw [if_pos hli] at hb'; cases hb'
        rw [if_neg hli] at hb'
        rw [jN] at hl
        obtain ⟨o', ho', _⟩ := A8.1 hl
        exact ⟨o', ho', hb'⟩
      obtain ⟨o1, p1, p2⟩ := e1 j oj hj hbj
      obtain ⟨o2, p3, p4⟩ := e1 k ok hk hbk
      exact hR.apart j k _ _ b hjk p1 p3 p2 p4
    . have hb' : b ∈ (if j = i then [] else C.own j) := hb
      by_cases hji : j = i
      . rw [if_pos hji] at hb'; cases hb'
      rw [if_neg hji] at hb'
      rw [jN] at hj
      obtain ⟨o', ho', _⟩ := A8.1 hj
      exact hR.xapart j o' b ho' hb'
    rw [jN] at hj
    obtain ⟨o', ho', rfl⟩ := A8.1 hj
    obtain ⟨h1, h2⟩ := hR.objb j o' ho'
    refine ⟨h1, ?_⟩
    split
    . trivial
    cases o' with
    | cells t cs => exact yL hyb (xs := cs) h2
    | _ => exact h2
  have hRel : Rel C' N (aZo i y E) (qF i y H) (UU nx) a w :=
    { toRelH := hRH, size := hR.size, hB := hR.hB, nodup := hR.nodup
      marks := fun d hd => by
        obtain ⟨r, h1, h2, h3, h4⟩ := hR.marks d hd
        exact ⟨r, h1, h2, h3, fun q => h4 (hav r q)⟩
      env := fun t x ht => by
        rw [aKs] at ht
        obtain ⟨u, hu, rfl⟩ := A8.1 ht
        obtain ⟨h1, h2, h3⟩ := hR.env t u hu
        exact ⟨h1, AV.sub_bel hyb h2, hsub h3⟩ }
  refine h C' a w Qc hn hRel fun e' E' H' nx' C1 a' w' hn' hR' hs hQ => hK e' E' H' nx' C1 a' w' hn' hR' ?_ hQ
  exact { os := hs.os, tape := hs.tape, output := hs.output, size := hs.size, keep := fun k hk hkW => hs.keep k hk (fun q => hkW (hWW k q))
          wr := fun b hb => (hs.wr b hb).imp (hWW b) id
          X := hs.X, B := hs.B, ρ := hs.ρ }
end
attribute [go_sem] AV.sub aNh AObj.sub aZo qF
end
section
variable [Globals]
def iia (a b : Prop) : (a -> b -> a /\ b) = True := by simp; exact fun h1 h2 => ⟨h1, h2⟩
attribute [go_sem] iia
mutual
def AV.frz (h : Nat -> Option AObj) : AV -> AV
  | .ref i => match h i with
    | some (.row _ sz xs) => .sl sz (fzL xs)
    | _ => .ref i
  | .agg cs => .agg (aUd h cs)
  | .tup cs => .tup (aUd h cs)
  | .any => .any
  | .raw v => .raw v
  | .sl sz xs => .sl sz xs
  | .fp sz xs j off => .fp sz xs j off
  | .ptr j off => .ptr j off
  | .ep j sz k off => .ep j sz k off
  | .iface t x => .iface t x
  | .fn f a b => .fn f a b
  | .when c x => .when c x
  | .own e sz xs => .own e sz xs
def aUd (h : Nat -> Option AObj) : List AV -> List AV
  | [] => []
  | x :: xs => AV.frz h x :: aUd h xs
end
def aZy (h : Nat -> Option AObj) : ∀ (xs : List AV) (j : Nat), (aUd h xs)[j]? = (xs[j]?).map (AV.frz h)
  | [], j => rfl
  | x :: xs, 0 => rfl
  | x :: xs, j + 1 => by simpa [aUd] using aZy h xs j
def yC (h : Nat -> Option AObj) : ∀ xs : List AV, (aUd h xs).length = xs.length
  | [] => rfl
  | x :: xs => by simp [aUd, yC h xs]
def Rep.frz {ρ : Nat -> Value} {av : Nat -> Prop} {hp : Array Obj} {h : Nat -> Option AObj} (hh : ∀ i e sz xs, h i = some (.row e sz xs) -> Rep ρ av hp (.sl sz (fzL xs)) (ρ i)) {x : AV} {v : Value} (hr : Rep ρ av hp x v) : Rep ρ av hp (AV.frz h x) v := by
  have aux : ∀ {xs : List AV} {g : Nat -> Value}, (∀ (j : Nat) (z : AV), xs[j]? = some z -> Rep ρ av hp (AV.frz h z) (g j)) -> ∀ (j : Nat) (z : AV), (aUd h xs)[j]? = some z -> Rep ρ av hp z (g j) := fun hk j z hz => by
    rw [aZy] at hz
    obtain ⟨u, hu, rfl⟩ := A8.1 hz
    exact hk j u hu
  induction hr with
  | agg cs vs hn _ ih => exact .agg _ vs (by rw [yC]; exact hn) (aux (g := fun j => vs.getD j undef) ih)
  | tup cs vs hn _ ih => exact .tup _ vs (by rw [yC]; exact hn) (aux (g := fun j => vs.getD j undef) ih)
  | ref j =>
    rw [AV.frz]; split
    . rename_i e sz xs hj
      exact hh j e sz xs hj
    exact .ref j
  | any v => exact .any v
  | raw v => exact .raw v
  | iface t x v h _ => exact .iface t x v h
  | sl0 sz A c hc => exact .sl0 sz A c hc
  | sl sz xs b off c cells t fr vals h0 hc hm hb hh' h hcells _ => exact .sl sz xs b off c cells t fr vals h0 hc hm hb hh' h hcells
  | fp sz xs j d b off cells t fr vals hb hh' h hcells _ => exact .fp sz xs j d b off cells t fr vals hb hh' h hcells
  | ptr i off b h => exact .ptr _ off b h
  | ep i sz j off b h => exact .ep _ sz j off b h
  | fn f first cap vs us hn h hn' h' _ _ => exact .fn f _ _ vs us hn h hn' h'
  | when c x v h h' _ => exact .when c x v h h'
def cO {P : Program} {f : Nat} {args : List AV} {r0 r1 : AV} {H1 : Heap} {n1 : Nat} (h : aH P f args [] 0 r0 H1 n1) (hr : AV.frz (get H1) r0 = r1) (hb : r1.bel (UU 0)) : aB P f args [] 0 r1 := by
  intro C w vals hR hargs hbel
  refine (h C w vals hR hargs hbel).mono fun e w' ⟨v, r, H', n', C', he, hn, ⟨e1, e2, e3⟩, h1, h2, h3, h4⟩ => ?_
  subst e1; subst e2; subst e3
  have hX : ∀ b, ({ C' with own := fun _ => [] } : Conc).avoid [] b -> C'.avoid H' b := fun b hb => by
    rcases hb with hb | ⟨i, o, hi, _⟩
    . exact .inl hb
    cases hi
  have hX' : ∀ b, ({ C' with own := fun _ => [] } : Conc).avoid [] b -> C'.X b := fun b hb => by
    rcases hb with hb | ⟨i, o, hi, _⟩
    . exact hb
    cases hi
  refine ⟨v, r1, [], 0, { C' with own := fun _ => [] }, he, A0 _, ⟨rfl, rfl, rfl⟩, ?_, ?_, ?_, hb⟩
  . exact { obj := fun i o hi => by cases hi
            apart := fun i j oi oj b _ hi => by cases hi
            xapart := fun i o b hi => by cases hi
            xlt := h1.xlt
            gl := h1.glK (fun b _ hb => hX b hb) (fun _ _ _ _ _ _ => rfl)
            objb := fun i o hi => by cases hi }
  . exact { os := h2.os, tape := h2.tape, output := h2.output, size := h2.size, keep := h2.keep
            wr := fun b ⟨i, o, hi, _⟩ => by cases hi
            X := h2.X, B := h2.B, ρ := h2.ρ }
  rw [<- hr]
  refine Rep.frz (fun i e sz xs hi => ?_) (h3.mono (fun b _ hb => hX b hb) (fun _ _ _ => rfl))
  obtain ⟨k1, _⟩ := h1.obj i _ hi
  have k2 : RepO C'.ρ (({ C' with own := fun _ => [] } : Conc).avoid []) w'.heap (.own e sz xs) (C'.ρ i) (C'.own i) := k1.mono' (fun b _ hb => hX b hb) (fun _ _ _ _ _ _ => rfl) (fun _ _ => rfl)
  exact k2.fz fun b hb hb' => h1.xapart i _ b hi hb (hX' b hb')
attribute [go_sem] AV.frz aUd
end
section
variable [Globals]
variable {xs ys args : List AV} {x y : AV} {ρ : Nat -> Value} {av : Nat -> Prop} {hp : Array Obj} {f : Nat} {nd : Heap}
inductive Le : AV -> AV -> Prop
  | refl (x : AV) : Le x x
  | nil (sz : Nat) : Le (.raw (.slice none 0 0)) (.sl sz [])
  | agg (xs ys : List AV) (hl : xs.length = ys.length) (h : ∀ (j : Nat) (x y : AV), xs[j]? = some x -> ys[j]? = some y -> Le x y) : Le (.agg xs) (.agg ys)
  | tup (xs ys : List AV) (hl : xs.length = ys.length) (h : ∀ (j : Nat) (x y : AV), xs[j]? = some x -> ys[j]? = some y -> Le x y) : Le (.tup xs) (.tup ys)
def LeL (xs ys : List AV) : Prop := xs.length = ys.length /\ ∀ (j : Nat) (x y : AV), xs[j]? = some x -> ys[j]? = some y -> Le x y
def LeL.nil : LeL [] [] := ⟨rfl, fun j x y h => by simp at h⟩
def LeL.cons (h : Le x y) (hr : LeL xs ys) : LeL (x :: xs) (y :: ys) :=
  ⟨by simp [hr.1], fun j u v hu hv => by
    cases j with
    | zero => simp at hu hv; subst hu; subst hv; exact h
    | succ j => exact hr.2 j u v (by simpa using hu) (by simpa using hv)⟩
def Le.aggL (h : LeL xs ys) : Le (.agg xs) (.agg ys) := .agg _ _ h.1 h.2
def Le.rep (h : Le x y) : ∀ {v : Value}, Rep ρ av hp x v -> Rep ρ av hp y v := by
  induction h with
  | refl x => exact fun h => h
  | nil sz => intro v h; cases h; exact .sl0 sz none 0 (A6 _)
  | agg xs ys hl _ ih =>
    intro v h
    cases h with
    | agg _ vs hn hr =>
      refine .agg ys vs (hn.trans hl) fun j y hy => ?_
      have hj : j < xs.length := by rw [hl]; exact (A9.1 hy).1
      exact ih j _ y (A1 hj) hy (hr j _ (A1 hj))
  | tup xs ys hl _ ih =>
    intro v h
    cases h with
    | tup _ vs hn hr =>
      refine .tup ys vs (hn.trans hl) fun j y hy => ?_
      have hj : j < xs.length := by rw [hl]; exact (A9.1 hy).1
      exact ih j _ y (A1 hj) hy (hr j _ (A1 hj))
def LeL.rep (h : LeL xs ys) {vs : Array Value} (hr : cZ ρ av hp xs vs) : cZ ρ av hp ys vs := by
  refine ⟨hr.1.trans h.1, fun j y hy => ?_⟩
  have hj : j < xs.length := by rw [h.1]; exact (A9.1 hy).1
  exact (h.2 j _ y (A1 hj) hy).rep (hr.2 j _ (A1 hj))
def xK.args_le {P : Program} {n0 : Nat} {R : AV -> Heap -> Nat -> Prop} (h : xK P f args nd n0 R) (hle : LeL xs args) (hb : aE (UU n0) args) : xK P f xs nd n0 R :=
  fun C w vals h1 h2 _ => h C w vals h1 (hle.rep h2) hb
def aB.args_le {P : Program} {n0 : Nat} {r : AV} (h : aB P f args nd n0 r) (hle : LeL xs args) (hb : aE (UU n0) args) : aB P f xs nd n0 r := xK.args_le h hle hb
section
variable {P : Program} {ro : Option Nat} {N n0 : Nat} {Q : AQ} {E : Env} {H : Heap} {nx : Nat}
def hZ {c : Code} (i : Nat) {t : TypeId} {cs ds : List AV} (hi : get H i = some (.cells t cs)) (hle : LeL cs ds) (hb : aE (UU nx) ds) (h : AWP P ro N n0 c Q E (put H i (.cells t ds)) nx) : AWP P ro N n0 c Q E H nx := by
  intro C a w Qc hn hR hK
  have hdom : ∀ j o, get (put H i (.cells t ds)) j = some o -> ∃ o', get H j = some o' := fun j o hj => by
    rw [dQ] at hj; split at hj
    . rename_i e; subst e; exact ⟨_, hi⟩
    exact ⟨o, hj⟩
  have hdom' : ∀ j o, get H j = some o -> ∃ o', get (put H i (.cells t ds)) j = some o' := fun j o hj => by
    rw [dQ]; split
    . exact ⟨_, rfl⟩
    exact ⟨o, hj⟩
  have hW : ∀ b, C.W (put H i (.cells t ds)) b -> C.W H b := fun b ⟨j, o, hj, hb⟩ => by
    obtain ⟨o', ho'⟩ := hdom j o hj
    exact ⟨j, o', ho', hb⟩
  have hW' : ∀ b, C.W H b -> C.W (put H i (.cells t ds)) b := fun b ⟨j, o, hj, hb⟩ => by
    obtain ⟨o', ho'⟩ := hdom' j o hj
    exact ⟨j, o', ho', hb⟩
  have hav : ∀ b, C.avoid (put H i (.cells t ds)) b -> C.avoid H b := fun b hb => hb.imp id (hW b)
  have hRel : Rel C N E (put H i (.cells t ds)) (UU nx) a w :=
    { obj := fun j o hj => by
        rw [dQ] at hj; split at hj
        . rename_i e
          subst e; cases hj
          obtain ⟨b, vs, e1, e2, e3, e4⟩ := hR.obj i _ hi
          exact ⟨b, vs, e1, e2, e3, hle.rep (e4.mono (fun b _ hb => hav b hb) (fun _ _ _ => rfl))⟩
        exact (hR.obj j o hj).mono (fun b _ hb => hav b hb) (fun _ _ _ => rfl) (fun _ _ => rfl)
      apart := fun j k oj ok b hjk hj hk h1 h2 => by
        obtain ⟨o1, g1⟩ := hdom j oj hj
        obtain ⟨o2, g2⟩ := hdom k ok hk
        exact hR.apart j k o1 o2 b hjk g1 g2 h1 h2
      xapart := fun j o b hj h1 => by
        obtain ⟨o1, g1⟩ := hdom j o hj
        exact hR.xapart j o1 b g1 h1
      xlt := hR.xlt
      gl := hR.toRelH.glK (fun b _ hb => hav b hb) (fun _ _ _ _ _ _ => rfl)
      objb := fun j o hj => by
        rw [dQ] at hj; split at hj
        . rename_i e
          subst e; cases hj
          exact ⟨(hR.objb i _ hi).1, hb⟩
        exact hR.objb j o hj
      size := hR.size, hB := hR.hB, nodup := hR.nodup
      marks := fun d hd => by
        obtain ⟨r, h1, h2, h3, h4⟩ := hR.marks d hd
        exact ⟨r, h1, h2, h3, fun q => h4 (hav r q)⟩
      env := fun t x ht => by
        obtain ⟨h1, h2, h3⟩ := hR.env t x ht
        exact ⟨h1, h2, h3.mono (fun b _ hb => hav b hb) (fun _ _ _ => rfl)⟩ }
  refine h C a w Qc hn hRel fun e' E' H' nx' C1 a' w' hn' hR' hs hQ => hK e' E' H' nx' C1 a' w' hn' hR' ?_ hQ
  exact { os := hs.os, tape := hs.tape, output := hs.output, size := hs.size, keep := fun k hk hkW => hs.keep k hk (fun q => hkW (hW k q))
          wr := fun b hb => (hs.wr b hb).imp (hW b) id
          X := hs.X, B := hs.B, ρ := hs.ρ }
end
end
section
variable [Globals]
attribute [go_sem] Nat.reduceAdd Nat.reduceMul Nat.reduceSub Nat.reduceLeDiff Nat.reduceEqDiff Nat.reduceLT qU lH
attribute [push_cast] Bool.or_eq_false_iff Bool.and_eq_true Bool.or_eq_true decide_eq_true_eq decide_eq_false_iff_not
variable {α : Type} {G R A q : Prop} {c : Call} {f i g : Nat} {code y x : Code} {args : List AV} {r0 : AV} {b want : Bool} {H1 : Heap}
section
variable {P : Program} {ro : Option Nat} {N n0 : Nat} {Q : AQ} {E : Env} {H : Heap} {nx b0 : Nat} {o : Oper} {ds : List (Option Tmp)}
def cdS {c : Operand} (hc : opv E c = some (.raw (.bool b))) (hf : b = false -> AWP P ro N n0 y Q E H nx) (ht : b = true -> AWP P ro N n0 x Q E H nx) : AWP P ro N n0 (.cond c x y) Q E H nx := cd hc ht hf
def sr {id : Nat} {ops : Array Oper} (hd : aLh N ops.toList = true) (h : ∀ {K : AK}, (∀ {E H nx}, AWP P ro N n0 y Q E H nx -> K E H nx) -> qU P ro N (ops.toList.map (·.dst)) ops.toList K E H nx) :
    AWP P ro N n0 (.seq (.region id ops false) y) Q E H nx := sq fun hK => wg hd (h hK)
def sd {id : Nat} {ops : Array Oper} (hm : P.follows .mixedOrders = true) (hd : aLh N ops.toList = true)
    (h : ∀ {K : AK}, (∀ {E H nx}, AWP P ro N n0 y Q E H nx -> K E H nx) -> lH P ro N (ops.toList.map (·.dst)) nx ops.toList [] (drawn (ops.toList.map (·.after.toList)) K) E H nx) :
    AWP P ro N n0 (.seq (.region id ops true) y) Q E H nx := sq fun hK => jF hm hd (h hK)
def aCx (n0 : Nat) (Inv : α -> Prop) (S : α -> Env × Heap) (n1 : Nat) (Q : AQ) : AQ
  | .normal => fun E H nx => ∃ x, Inv x /\ ∃ s, bCb n0 s E H (S x).1 (S x).2 n1
  | e => Q e
def vW (Inv : α -> Prop) (S : α -> Env × Heap) (n1 : Nat) (h : AWP P ro N n0 x (aCx n0 Inv S n1 Q) E H nx) (h2 : ∀ a, Inv a -> AWP P ro N n0 y Q (S a).1 (S a).2 n1) : AWP P ro N n0 (.seq x y) Q E H nx :=
  bDo (aOt h fun e E' H' nx' hq => by
    cases e with
    | normal => obtain ⟨a, h1, s, h3⟩ := hq; exact aZj s h3 (h2 a h1)
    | _ => exact hq)
def vp {l : List Oper} {K : AK} {fn : Func} (hg : o.guard = none) (ho : o.op = .call c) (hc : c.callee = .value (.func f)) (hT : FnT P f fn code)
    (hM : aB P f args [] 0 r0) (hargs : c.args.toList.map (opv E) = args.map some) (hab : aE (UU 0) args) (h : qU P ro N ds l K (aO E o.dst r0) (over H []) (nx + 0)) : uL P ro N ds (o :: l) K E H nx :=
  vC (fun hN => tE hg ho hc hT hN hM hargs hab) (.inl rfl) h
def tp {l : List Oper} {acc : List Rec} {K : List Rec -> AK} {fn : Func} (hg : o.guard = none) (ho : o.op = .call c) (hc : c.callee = .value (.func f)) (hT : FnT P f fn code)
    (hM : aB P f args [] 0 r0) (hargs : c.args.toList.map (opv E) = args.map some) (hab : aE (UU 0) args)
    (h : lH P ro N ds b0 l (⟨tO c.args.toList, [], o.dst, [], [], []⟩ :: acc) K (aO E o.dst r0) (over H []) (nx + 0)) : VTr P ro N ds b0 (o :: l) acc K E H nx :=
  aM (fun hN => tE hg ho hc hT hN hM hargs hab) (.inl rfl) h
def vpg {l : List Oper} {K : AK} {x : AV} {fn : Func} 
    (hg : o.guard = some (i, want)) (ho : o.op = .call c) (hc : c.callee = .value (.func f)) (hi : (ds[i]?).join = some g) (hE : get E g = some x) (hs : iY x = some (q, b)) (hT : FnT P f fn code)
    (hM : q /\ b = want -> aB P f args [] 0 r0) (hun : aJm (q /\ b = want) E (tO c.args.toList)) (hargs : q /\ b = want -> c.args.toList.map (opv (unE E (tO c.args.toList))) = args.map some) (hab : aE (UU 0) args) (hr : r0.bel (UU nx))
    (h : qU P ro N ds l K (aO E o.dst (.when (q /\ b = want) r0)) (over H []) (nx + 0)) : uL P ro N ds (o :: l) K E H nx :=
  vC (fun hN => bD hN hg hi hE hs hun (fun hq => tE rfl ho hc hT hN (hM hq) (hargs hq) hab) hr) (.inl rfl) h
def tpg {l : List Oper} {acc : List Rec} {K : List Rec -> AK} {x : AV} {fn : Func} 
    (hg : o.guard = some (i, want)) (ho : o.op = .call c) (hc : c.callee = .value (.func f)) (hi : (ds[i]?).join = some g) (hE : get E g = some x) (hs : iY x = some (q, b)) (hT : FnT P f fn code)
    (hM : q /\ b = want -> aB P f args [] 0 r0) (hun : aJm (q /\ b = want) E (tO c.args.toList)) (hargs : q /\ b = want -> c.args.toList.map (opv (unE E (tO c.args.toList))) = args.map some) (hab : aE (UU 0) args) (hr : r0.bel (UU b0))
    (h : lH P ro N ds b0 l (⟨g :: tO c.args.toList, [], o.dst, [], [], []⟩ :: acc) K (aO E o.dst (.when (q /\ b = want) r0)) (over H []) (nx + 0)) : VTr P ro N ds b0 (o :: l) acc K E H nx :=
  aM (fun hN => bD hN hg hi hE hs hun (fun hq => tE rfl ho hc hT hN (hM hq) (hargs hq) hab) hr) (.inl rfl) h
def vn {l : List Oper} {K : AK} (nw : Nat) {fn : Func} (hg : o.guard = none) (ho : o.op = .call c) (hc : c.callee = .value (.func f)) (hT : FnT P f fn code)
    (hM : aH P f args [] 0 r0 H1 nw) (hargs : c.args.toList.map (opv E) = args.map some) (hab : aE (UU 0) args) (hk : ∀ i ∈ H1.map (·.1), i < nw) (hw : nw <= 900 /\ nx + nw <= 1000)
    (h : qU P ro N ds l K (aO E o.dst (r0.ren (shift (sg []) 0 nx nw))) (over H (H1.map fun p => (shift (sg []) 0 nx nw p.1, p.2.ren (shift (sg []) 0 nx nw)))) (nx + nw)) : uL P ro N ds (o :: l) K E H nx :=
  vC (fun hN => dA (s := []) nw hg ho hc hT hN hM (C5 _).symm (by rw [jE]; exact hargs) hab (zV hk og)) (.inr hw.2) h
def tn {l : List Oper} {acc : List Rec} {K : List Rec -> AK} (nw : Nat) {fn : Func} (hg : o.guard = none) (ho : o.op = .call c) (hc : c.callee = .value (.func f)) (hT : FnT P f fn code)
    (hM : aH P f args [] 0 r0 H1 nw) (hargs : c.args.toList.map (opv E) = args.map some) (hab : aE (UU 0) args) (hk : ∀ i ∈ H1.map (·.1), i < nw) (hw : nw <= 900 /\ nx + nw <= 1000)
    (h : lH P ro N ds b0 l (⟨tO c.args.toList, [], o.dst, (H1.map fun p => (shift (sg []) 0 nx nw p.1, p.2.ren (shift (sg []) 0 nx nw))).map (·.1), [], H1.map fun p => (shift (sg []) 0 nx nw p.1, p.2.ren (shift (sg []) 0 nx nw))⟩ :: acc) K (aO E o.dst (r0.ren (shift (sg []) 0 nx nw))) (over H (H1.map fun p => (shift (sg []) 0 nx nw p.1, p.2.ren (shift (sg []) 0 nx nw)))) (nx + nw)) : VTr P ro N ds b0 (o :: l) acc K E H nx :=
  aM (fun hN => dA (s := []) nw hg ho hc hT hN hM (C5 _).symm (by rw [jE]; exact hargs) hab (zV hk og)) (.inr hw.2) h
def aj (h : R -> G := by intro k; refine sr rfl fun J => ?_; simp only [go_sem]; exact J k) : R -> G := h
def ja (h : R -> G := by intro k; simp only [go_sem]; exact k) : R -> G := h
def jt (h : R -> G := by intro k; (try simp only [go_sem, lQ]); exact k) : R -> G := h
def jr (h : R -> G := by intro k; (repeat refine ⟨by clear k; first | omega | (intro hg; simp at hg; omega), ?_⟩); exact k) : R -> G := h
def jw (e : A) (h : A -> R -> G := by intro hw k; refine wg rfl ?_; simp only [go_sem, hw]; exact k) : R -> G := h e
def jh (e : A) (h : A -> R -> G := by intro e k; simp only [go_sem, e]; exact k) : R -> G := h e
def ji {R G A B : Prop} (e : A) (f : B) (h : A -> B -> R -> G := by intro e f k; simp only [go_sem, e, f]; exact k) : R -> G := h e f
def jn (h : R -> G := by intro k; simp only [go_sem, AV.ren, AObj.ren, aA, shift, sg, A0, Nat.add_zero, Nat.sub_self]; exact k) : R -> G := h
def jy {a b : Prop} (h : a := by rfl) : b -> a /\ b := fun k => ⟨h, k⟩
def cdA {c : Operand} (hc : opv E c = some (.raw (.bool b)) := by rfl) : (b = true -> AWP P ro N n0 x Q E H nx) -> (b = false -> AWP P ro N n0 y Q E H nx) -> AWP P ro N n0 (.cond c x y) Q E H nx := cd hc
def cdB {c : Operand} (hc : opv E c = some (.raw (.bool b)) := by rfl) : (b = false -> AWP P ro N n0 y Q E H nx) -> (b = true -> AWP P ro N n0 x Q E H nx) -> AWP P ro N n0 (.cond c x y) Q E H nx := cdS hc
def vq {l : List Oper} {K : AK} {fn : Func} (hf : P.funcs[f]? = some fn)
    (hM : aB P f args [] 0 r0) (hg : o.guard = none := by rfl) (ho : o.op = .call c := by rfl) (hc : c.callee = .value (.func f) := by rfl) (hb : fn.body = some code := by rfl) (hn : (fn.name == "runtime.NumGoroutine") = false := by rfl)
    (hargs : c.args.toList.map (opv E) = args.map some := by simp only [go_sem]) (hab : aE (UU 0) args := by simp only [go_sem]) (h : R -> qU P ro N ds l K (aO E o.dst r0) (over H []) (nx + 0) := by intro k; simp only [go_sem]; exact k) : R -> uL P ro N ds (o :: l) K E H nx :=
  fun k => vC (fun hN => tE hg ho hc ⟨hf, hb, hn⟩ hN hM hargs hab) (.inl rfl) (h k)
def vr {l : List Oper} {K : AK} {fn : Func} (hg : o.guard = none) (ho : o.op = .call c) (hc : c.callee = .value (.func f)) (hf : P.funcs[f]? = some fn)
    (hM : aB P f args [] 0 r0) (hargs : c.args.toList.map (opv E) = args.map some) (hab : aE (UU 0) args) (hb : fn.body = some code := by rfl) (hn : (fn.name == "runtime.NumGoroutine") = false := by rfl)
    (h : R -> qU P ro N ds l K (aO E o.dst r0) (over H []) (nx + 0) := by intro k; simp only [go_sem]; exact k) : R -> uL P ro N ds (o :: l) K E H nx :=
  fun k => vC (fun hN => tE hg ho hc ⟨hf, hb, hn⟩ hN hM hargs hab) (.inl rfl) (h k)
def vs {l : List Oper} {K : AK} {fn : Func} (hg : o.guard = none) (ho : o.op = .call c) (hc : c.callee = .value (.func f)) (hf : P.funcs[f]? = some fn)
    (hM : aB P f args [] 0 r0) (hargs : c.args.toList.map (opv E) = args.map some) (hab : aE (UU 0) args) (h : qU P ro N ds l K (aO E o.dst r0) (over H []) (nx + 0)) (hb : fn.body = some code := by rfl) (hn : (fn.name == "runtime.NumGoroutine") = false := by rfl) : uL P ro N ds (o :: l) K E H nx :=
  vC (fun hN => tE hg ho hc ⟨hf, hb, hn⟩ hN hM hargs hab) (.inl rfl) h
def jz (h : G := by simp only [go_sem, AObj.bel, AObj.ren, AV.ren, aA, sg] <;> simp) : G := h
def jc (h : G := by simp only [go_sem, Int.natCast_zero] <;> simp) : G := h
def jo (h : G := by simp only [go_sem] <;> simp) : G := h
def jp (h : G := by simp only [go_sem, AObj.bel, AObj.ren, AV.ren, aA, sg, Int.natCast_zero] <;> simp) : G := h
def fq (e : A) (h : A -> G := by intro e; refine fO ?_ trivial; simp only [go_sem, e]) : G := h e
def fy (e : A) (h : A -> G := by intro e; refine (aj) (wR ?_); refine fO ?_ trivial; simp only [go_sem, e]) : G := h e
def wn {N n0 : Nat} {Q : AQ} {E : Env} {H : Heap} {nx : Nat} {c : Code} (n : Nat) (S : Nat -> Env × Heap) (n1 : Nat) (s : List (Nat × Nat)) (h0 : bCb n0 s E H (S 0).1 (S 0).2 n1)
    (h : ∀ a, a <= n -> AWP P ro N n0 c (lQ n0 (fun x => x <= n) (fun x => n - x) S n1 a Q) (S a).1 (S a).2 n1) : AWP P ro N n0 (.loop c) Q E H nx := wl (α := Nat) (fun x => x <= n) (fun x => n - x) S n1 0 (A6 _) s h0 h
def wa {N n0 : Nat} {Q : AQ} {E : Env} {H : Heap} {nx : Nat} {c : Code} (n : Nat) (p : Nat -> Bool) (S : Nat -> Env × Heap) (n1 : Nat) (s : List (Nat × Nat)) (h0 : bCb n0 s E H (S 0).1 (S 0).2 n1)
    (h : ∀ a, (a <= n /\ ∀ j, j < a -> p j = true) -> AWP P ro N n0 c (lQ n0 (fun x => x <= n /\ ∀ j, j < x -> p j = true) (fun x => n - x) S n1 a Q) (S a).1 (S a).2 n1) : AWP P ro N n0 (.loop c) Q E H nx :=
  wl (α := Nat) (fun x => x <= n /\ ∀ j, j < x -> p j = true) (fun x => n - x) S n1 0 ⟨A6 _, fun j hj => absurd hj (I0 _)⟩ s h0 h
end
end
section
variable [Globals]
variable {c : Call} {f : Nat} {code : Code} {args xs first cap : List AV} {r0 : AV} {y : Operand}
section
variable {P : Program} {ro : Option Nat} {N n0 : Nat} {Q : AQ} {E : Env} {H : Heap} {nx b0 : Nat} {o : Oper} {ds : List (Option Tmp)}
def aGt {fn : Func} (hg : o.guard = none) (ho : o.op = .call c) (hc : c.callee = .value y) (hy : opv E y = some (.fn (.func f) first cap))
    (hT : FnT P f fn code) (hN : oD o N) (hM : aB P f args [] 0 r0) (hxs : c.args.toList.map (opv E) = xs.map some) (hargs : first ++ xs ++ cap = args) (hab : aE (UU 0) args) :
    aS P ro N ds o b0 E H (tO (y :: c.args.toList)) [] r0 [] nx 0 := by
  have := rJ (P := P) (ro := ro) (N := N) (o := o) (E := E) (H := H) (nx := nx) (b0 := b0) (ds := ds) (nd := []) (H1 := []) (m0 := 0) (n1 := 0) [] 0 hg ho hc hy hT hN hM rfl hxs (by rw [jE]; exact hargs) hab (zV oS og)
  rw [bH, AV.ren_nil] at this; exact this
def vf {l : List Oper} {K : AK} {fn : Func} (hg : o.guard = none) (ho : o.op = .call c) (hc : c.callee = .value y) (hy : opv E y = some (.fn (.func f) first cap))
    (hT : FnT P f fn code) (hM : aB P f args [] 0 r0) (hxs : c.args.toList.map (opv E) = xs.map some) (hargs : first ++ xs ++ cap = args) (hab : aE (UU 0) args)
    (h : qU P ro N ds l K (aO E o.dst r0) (over H []) (nx + 0)) : uL P ro N ds (o :: l) K E H nx := vC (fun hN => aGt hg ho hc hy hT hN hM hxs hargs hab) (.inl rfl) h
def tf {l : List Oper} {acc : List Rec} {K : List Rec -> AK} {fn : Func} (hg : o.guard = none) (ho : o.op = .call c) (hc : c.callee = .value y) (hy : opv E y = some (.fn (.func f) first cap))
    (hT : FnT P f fn code) (hM : aB P f args [] 0 r0) (hxs : c.args.toList.map (opv E) = xs.map some) (hargs : first ++ xs ++ cap = args) (hab : aE (UU 0) args)
    (h : lH P ro N ds b0 l (⟨tO (y :: c.args.toList), [], o.dst, [], [], []⟩ :: acc) K (aO E o.dst r0) (over H []) (nx + 0)) : VTr P ro N ds b0 (o :: l) acc K E H nx := aM (fun hN => aGt hg ho hc hy hT hN hM hxs hargs hab) (.inl rfl) h
def tfg {l : List Oper} {acc : List Rec} {K : List Rec -> AK} {i g : Nat} {want b : Bool} {q : Prop} {x : AV} {fn : Func} 
    (hg : o.guard = some (i, want)) (ho : o.op = .call c) (hc : c.callee = .value y) (hi : (ds[i]?).join = some g) (hE : get E g = some x) (hs : iY x = some (q, b)) (hy : q /\ b = want -> opv (unE E (tO (y :: c.args.toList))) y = some (.fn (.func f) first cap)) (hT : FnT P f fn code)
    (hM : q /\ b = want -> aB P f args [] 0 r0) (hun : aJm (q /\ b = want) E (tO (y :: c.args.toList))) (hxs : q /\ b = want -> c.args.toList.map (opv (unE E (tO (y :: c.args.toList)))) = xs.map some) (hargs : first ++ xs ++ cap = args) (hab : aE (UU 0) args) (hr : r0.bel (UU b0))
    (h : lH P ro N ds b0 l (⟨g :: tO (y :: c.args.toList), [], o.dst, [], [], []⟩ :: acc) K (aO E o.dst (.when (q /\ b = want) r0)) (over H []) (nx + 0)) : VTr P ro N ds b0 (o :: l) acc K E H nx :=
  aM (fun hN => bD hN hg hi hE hs hun (fun hq => aGt rfl ho hc (hy hq) hT hN (hM hq) (hxs hq) hargs hab) hr) (.inl rfl) h
def tl {l : List Oper} {acc : List Rec} {K : List Rec -> AK} (bw : List Nat) {fn : Func} (hg : o.guard = none) (ho : o.op = .call c) (hc : c.callee = .value (.func f)) (hT : FnT P f fn code)
    (hM : aB P f args [] 0 r0) (hxs : c.args.toList.map (opv E) = xs.map some) (hargs : xs.map (zQ (get H) bw) = args) (hab : aE (UU 0) args) (hfr : r0.noFz = true)
    (h : lH P ro N ds b0 l (⟨tO c.args.toList, bw, o.dst, [], [], []⟩ :: acc) K (aO E o.dst r0) (over H []) (nx + 0)) : VTr P ro N ds b0 (o :: l) acc K E H nx := aM (fun hN => nZ bw hg ho hc hT hN hM hxs hargs hab hfr) (.inl rfl) h
def vg {l : List Oper} {K : AK} (s : List (Nat × Nat)) (nw : Nat) {fn : Func} {nd H1 : Heap} {m0 n1 : Nat} (hg : o.guard = none) (ho : o.op = .call c) (hc : c.callee = .value (.func f)) (hT : FnT P f fn code)
    (hM : aH P f args nd m0 r0 H1 n1) (hn : n1 = m0 + nw) (hargs : c.args.toList.map (opv E) = (aA (sg s) args).map some) (hab : aE (UU m0) args) (hF : FitC H s nd m0 nw H1) (hnw : nw = 0 ∨ nx + nw <= 1000)
    (h : qU P ro N ds l K (aO E o.dst (r0.ren (shift (sg s) m0 nx nw))) (over H (H1.map fun p => (shift (sg s) m0 nx nw p.1, p.2.ren (shift (sg s) m0 nx nw)))) (nx + nw)) : uL P ro N ds (o :: l) K E H nx :=
  vC (fun hN => dA s nw hg ho hc hT hN hM hn hargs hab hF) hnw h
def nS {H H1 : Heap} {s : List (Nat × Nat)} {g g1 : AObj} (hs : s = [] ∨ ∃ j, s = [(0, j)]) (ho : get H (sg s 0) = some (g.ren (sg s))) (hb : g.bel (UU 1)) : FitC H s [(0, g)] 1 0 [(0, g1)] where
  objs := ⟨ho, .inl og, hb, trivial⟩
  inj := by simp
  cov := fun i hi => by have : i = 0 := by omega
                        subst this; rfl
  sk := fun p hp => by
    rcases hs with rfl | ⟨j, rfl⟩
    . cases hp
    rw [B6.1 hp]; rfl
  dom := fun p hp => by rw [B6.1 hp]; exact .inl rfl
  all := fun p hp => by rw [B6.1 hp]; rfl
  far := by omega
end
end
section
variable [Globals]
variable {T e t : TypeId} {y x : Operand} {r v : Value} {w : World} {pr : Bool} {code : Code} {f i m0 n1 sz by' : Nat} {xs args cs : List AV} {nd H1 : Heap} {r0 : AV} {c : Call} {rt : List Nat} {k : IntKind} {h : Int}
def gV (P : Program) (t : TypeId) (name : String) : Option (FuncId × Bool) :=
  match P.info? t with
  | some ti => match ti.methods.find? (fun m => m.name == name) with
    | some m => if m.path.size = 0 then m.func else none
    | none => none
  | none => none
def tC (P : Program) (t : TypeId) : Option TypeId := match P.underlying t with
  | some (.pointer e) => some e
  | _ => none
def bBy {P : Program} {name : String} {f : FuncId} {k : Nat} (hm : gV P T name = some (f, pr))
    (hr : ∀ nm, (receiverAt T (.val v) pr (some nm)).run P w = .ok r w) : (method (k + 1) T v name).run P w = .ok (f, r) w := by
  unfold gV at hm; split at hm
  . rename_i ti hti
    split at hm
    . rename_i m hfm
      split at hm
      . rename_i hp
        have hp0 : m.path = #[] := Array.eq_empty_of_size_eq_zero hp
        unfold method; simp only [Sem.run_bind, run_typeInfo w hti, Result.andThen_ok, hfm, hp0, List.toList_toArray, follow, Sem.run_pure, hm, hr, Array.isEmpty_empty, if_true]
      cases hm
    cases hm
  cases hm
def bFr {P : Program} {b : Nat} (hp : P.underlying T = some (.pointer e)) (hl : (loadVar e ⟨b, 0, none⟩).run P w = .ok r w) (nm : String) :
    (receiverAt T (.val (.pointer (some ⟨b, 0, none⟩))) false (some nm)).run P w = .ok r w := by
  unfold receiverAt; rw [Sem.run_bind, run_underlying hp, Result.andThen_ok]
  have h1 : ((Builtin.ssaWrapNilChk_ #[T] T #[.pointer (some ⟨b, 0, none⟩), strVal "", strVal nm] : Sem Value)).run P w = .ok (.pointer (some ⟨b, 0, none⟩)) w := rfl
  have h2 : ((Place.val (.pointer (some ⟨b, 0, none⟩))).get T).run P w = .ok (.pointer (some ⟨b, 0, none⟩)) w := rfl
  show (do
    let ptr <- (Place.val (.pointer (some ⟨b, 0, none⟩))).get T
    let ptr <- Builtin.ssaWrapNilChk_ #[T] T #[ptr, strVal "", strVal nm]
    loadVar e (<- asAddr ptr)).run P w = _
  rw [Sem.run_bind, h2, Result.andThen_ok, Sem.run_bind, h1, Result.andThen_ok]; exact hl
def aMr {P : Program} {name : String} {args : Array Value} {f : FuncId} {fn : Func} (hm : gV P T name = some (f, pr))
    (hr : ∀ nm, (receiverAt T (.val v) pr (some nm)).run P w = .ok r w) (hT : FnT P f fn code) : (callMethod (.iface T v) name args).run P w = .ok (.enter f (#[r] ++ args)) w := by
  unfold callMethod
  have h0 : 0 < Made.depth := by decide
  obtain ⟨k, hk⟩ : ∃ k, P.types.size + Made.depth = k + 1 := ⟨P.types.size + Made.depth - 1, og⟩
  simp only [Sem.run_bind, run_program, Result.andThen_ok, hk, bBy hm hr, hT.run]
section
variable {P : Program} {ro : Option Nat} {N n0 : Nat} {Q : AQ} {E : Env} {H : Heap} {nx b0 : Nat} {o : Oper} {ds : List (Option Tmp)}
def aEs (s : List (Nat × Nat)) (nw : Nat) (hg : o.guard = none) (hd : Op.noDefer o.op = true) (hN : oD o N)
    (hent : ∀ (E' : Env) (H' : Heap) (U : Nat -> Prop) (C : Conc) (a : Act) (w : World), (∀ t ∈ rt, get E' t = get E t) -> (∀ i ∈ nd.map (fun p => sg s p.1), get H' i = get H i) -> Rel C N E' H' U a w -> ∃ vals, (execOp a.eval o).run P w = .ok (.enter f vals) w /\ cZ C.ρ (C.avoid H') w.heap (aA (sg s) args) vals)
    (hM : aH P f args nd m0 r0 H1 n1) (hn1 : n1 = m0 + nw) (hab : aE (UU m0) args) (hF : FitC H s nd m0 nw H1) :
    aS P ro N ds o b0 E H rt (nd.map fun p => sg s p.1) (r0.ren (shift (sg s) m0 nx nw)) (H1.map fun p => (shift (sg s) m0 nx nw p.1, p.2.ren (shift (sg s) m0 nx nw))) nx nw := by
  subst hn1
  intro E' H' U hE hH hU hnx C a w next Q hR hK
  have hfit := hF.fit hR.toRelH (fun j hj => hU j (.inr hj)) (fun p hp => hH _ (B3.2 ⟨p, hp, rfl⟩)) hnx
  have hRc := hR.toRelH.callee hfit
  obtain ⟨vals, hrun, hvals⟩ := hent E' H' U C a w hE hH hR
  have hargsR : cZ (callee C H' (sg s) nd).ρ ((callee C H' (sg s) nd).avoid nd) w.heap args vals :=
    (hvals.mono (av' := (callee C H' (sg s) nd).avoid nd) (fun b _ hb => (eQ hfit b).1 hb) (fun _ _ _ => rfl)).unren (ρ := C.ρ)
  refine rT hg (aOg (R := fun v w' => ∃ C1, RelH C1 H1 (UU (m0 + nw)) w' /\ StepR (callee C H' (sg s) nd) nd (UU m0) w C1 H1 w' /\ Rep C1.ρ (C1.avoid H1) w'.heap r0 v /\ r0.bel (UU (m0 + nw))) hd hrun
    ((hM _ w _ hRc hargsR hab).mono fun e w' ⟨v, r, H2, n', C1, he, hn', ⟨hr, hH2, hn2⟩, h1, h2, h3, h4⟩ => ?_) fun v w' ⟨C1, h1, h2, h3, h4⟩ => ?_)
  . subst hr; subst hH2; subst hn2
    exact ⟨v, he, C1, h1, h2, h3, h4⟩
  obtain ⟨k1, k2, k3⟩ := hR.toRelH.back hfit h1 h2
  obtain ⟨k4, k5⟩ := k3 r0 v h4 h3
  have hRel := hR.change k2 (fun i hi => .inl hi) k1
  exact hK _ _ w' (hRel.put hN k4 k5) k2
def aIk {name : String} (ho : o.op = .call c) (hc : c.callee = .invoke y name) {a : Act} {fn : Func} (hy : a.eval y = .iface T v) (hm : gV P T name = some (f, pr))
    (hr : ∀ nm, (receiverAt T (.val v) pr (some nm)).run P w = .ok r w) (hT : FnT P f fn code) : (execOp a.eval o).run P w = .ok (.enter f (#[r] ++ c.args.map a.eval)) w := by
  have he : (#[Value.iface T v] ++ c.args.map a.eval).extract 1 (#[Value.iface T v] ++ c.args.map a.eval).size = c.args.map a.eval := by
    apply Array.ext'
    simp [List.take_of_length_le]
  simp only [execOp, ho, resolve, hc, hy, Sem.run_bind, Sem.run_pure, Result.andThen_ok, invoke]
  have h0 : (#[Value.iface T v] ++ c.args.map a.eval)[0]? = some (Value.iface T v) := by rw [Array.getElem?_append_left oS]; rfl
  simp only [h0, he, aMr hm hr hT]
def rH {name : String} {x : AV} {fn : Func} (s : List (Nat × Nat)) (nw : Nat) (hg : o.guard = none) (ho : o.op = .call c) (hc : c.callee = .invoke y name)
    (hy : opv E y = some (.iface T x)) (hm : gV P T name = some (f, pr)) (hp : tC P T = none /\ pr = false ∨ (tC P T).isSome = true /\ pr = true) (hT : FnT P f fn code) (hN : oD o N) (hM : aH P f args nd m0 r0 H1 n1) (hn1 : n1 = m0 + nw)
    (hxs : c.args.toList.map (opv E) = xs.map some) (hargs : x :: xs = aA (sg s) args) (hab : aE (UU m0) args) (hF : FitC H s nd m0 nw H1) (hund : (P.underlying T).isSome = true) :
    aS P ro N ds o b0 E H (tO (y :: c.args.toList)) (nd.map fun p => sg s p.1) (r0.ren (shift (sg s) m0 nx nw)) (H1.map fun p => (shift (sg s) m0 nx nw p.1, p.2.ren (shift (sg s) m0 nx nw))) nx nw := by
  refine aEs s nw hg (by simp [ho, Op.noDefer]) hN (fun E' H' U C a w hE hH hR => ?_) hM hn1 hab hF
  have hops := oCg hE
  obtain ⟨h1, _⟩ := hR.opv (x := y) (r := .iface T x) (by rw [hops y oS]; exact hy)
  have hxs' : c.args.toList.map (opv E') = xs.map some := by
    rw [<- hxs]
    exact D9 fun x hx => hops x (A4 _ hx)
  obtain ⟨h2, _⟩ := sF hR hxs'
  generalize hev : a.eval y = u at h1
  cases h1 with
  | iface _ _ v hv =>
    obtain ⟨d, hd⟩ := Option.isSome_iff_exists.1 hund
    have hrv : ∀ nm, (receiverAt T (.val v) pr (some nm)).run P w = .ok v w := fun nm => by
      unfold receiverAt; rw [Sem.run_bind, run_underlying hd, Result.andThen_ok]
      rcases hp with ⟨hp, rfl⟩ | ⟨hp, rfl⟩
      . cases d with
        | pointer e => unfold tC at hp; rw [hd] at hp; cases hp
        | _ => simp [Place.get]
      unfold tC at hp; rw [hd] at hp
      cases d with
      | pointer e => simp [Place.get]
      | _ => cases hp
    refine ⟨#[v] ++ c.args.map a.eval, aIk ho hc hev hm hrv hT, ?_⟩
    rw [<- hargs]
    refine ⟨by simp [h2.1]; omega, fun j z hj => ?_⟩
    cases j with
    | zero => simp at hj; subst hj; rw [B2, Array.getElem?_append_left oS]; exact hv
    | succ j =>
      have := h2.2 j z (by simpa using hj)
      rw [B2, Array.getElem?_append_right oS]
      simpa [B2] using this
def aBw {name : String} {t0 : TypeId} {r : AV} {fn : Func} {ag : Bool} (s : List (Nat × Nat)) (nw : Nat) (hg : o.guard = none) (ho : o.op = .call c) (hc : c.callee = .invoke y name)
    (hy : opv E y = some (.iface T (.ptr i 0))) (hm : gV P T name = some (f, false)) (hp : tC P T = some e) (hi : i ∈ nd.map fun p => sg s p.1) (hHi : get H i = some (.cells t0 cs)) (hv : vI P e = some (sz, ag)) (hel : eM (.agg cs) 0 sz ag = some r)
    (hT : FnT P f fn code) (hN : oD o N) (hM : aH P f args nd m0 r0 H1 n1) (hn1 : n1 = m0 + nw)
    (hxs : c.args.toList.map (opv E) = xs.map some) (hargs : r :: xs = aA (sg s) args) (hab : aE (UU m0) args) (hF : FitC H s nd m0 nw H1) :
    aS P ro N ds o b0 E H (tO (y :: c.args.toList)) (nd.map fun p => sg s p.1) (r0.ren (shift (sg s) m0 nx nw)) (H1.map fun p => (shift (sg s) m0 nx nw p.1, p.2.ren (shift (sg s) m0 nx nw))) nx nw := by
  refine aEs s nw hg (by simp [ho, Op.noDefer]) hN (fun E' H' U C a w hE hH hR => ?_) hM hn1 hab hF
  have hops := oCg hE
  obtain ⟨h1, _⟩ := hR.opv (x := y) (r := .iface T (.ptr i 0)) (by rw [hops y oS]; exact hy)
  have hxs' : c.args.toList.map (opv E') = xs.map some := by
    rw [<- hxs]
    exact D9 fun x hx => hops x (A4 _ hx)
  obtain ⟨h2, _⟩ := sF hR hxs'
  have hH' : get H' i = some (.cells t0 cs) := (hH i hi).trans hHi
  obtain ⟨b, vs, hval, _, hb, hrep⟩ := hR.obj i _ hH'
  obtain ⟨hr1, hr2, hr3⟩ := pE (v := .agg vs) (.agg cs vs hrep.1 hrep.2) C.one (U := U) (hR.objb i _ hH').2 hel
  have hload := qQ (P := P) (w := w) (iF hv) hb (v := .agg vs) (o := 0) (off := 0) (fun k _ => rfl) hr3 (fun e => by rw [nV hel e]; omega)
  generalize hev : a.eval y = u at h1
  cases h1 with
  | iface _ _ v hvv =>
    have hvp := aCa hvv (b := b) (by rw [hval]; rfl)
    subst hvp
    have hpt : P.underlying T = some (.pointer e) := by
      unfold tC at hp; split at hp
      . rename_i e' he; cases hp; exact he
      cases hp
    have hrv := bFr hpt hload
    refine ⟨#[jY (.agg vs) 0 sz ag] ++ c.args.map a.eval, aIk ho hc hev hm hrv hT, ?_⟩
    rw [<- hargs]
    refine ⟨by simp [h2.1]; omega, fun j z hj => ?_⟩
    cases j with
    | zero => simp at hj; subst hj; rw [B2, Array.getElem?_append_left oS]; exact hr1
    | succ j =>
      have := h2.2 j z (by simpa using hj)
      rw [B2, Array.getElem?_append_right oS]
      simpa [B2] using this
def bBb {rt rd : List Nat} {val : AV} {ps : Heap} (h : aS P ro N ds o b0 E H rt rd val ps nx 0) (hp : ∀ m ob, get ps m = some ob -> m ∈ rd /\ get H m = some ob) : aS P ro N ds o b0 E H rt rd val [] nx 0 := by
  intro E' H' U hE hH hU hnx C a w next Q hR hK
  have hext : ∀ m, get (over H' []) m = get (over H' ps) m := fun m => by
    rw [bC, bC]
    show get H' m = _
    cases hm : get ps m with
    | none => rfl
    | some ob =>
      obtain ⟨h1, h2⟩ := hp m ob hm
      exact (hH m h1).trans h2
  exact h E' H' U hE hH hU hnx C a w next Q hR fun C' a' w' hR' hs' => hK C' a' w' (hR'.ext hext) (hs'.ext hext)
def bIf {f : Nat -> List Nat} {h n : Nat} (hn : h <= n) : (aQ h f).Sublist (aQ n f) := by
  obtain ⟨d, rfl⟩ : ∃ d, n = h + d := ⟨n - h, og⟩
  unfold aQ; rw [List.range_add, List.flatMap_append]
  exact List.sublist_append_left _ _
def bOg {U : Nat -> Prop} (ho : o.op = .slice t x none (some y) none) (hN : oD o N) (hs : cN P t = some (e, some (sz, by'))) (hx : opv E x = some (.ref i)) (hi : get H i = some (.row e sz xs))
    (hy : opv E y = some (.raw (.int k h))) (h0 : 0 <= h) (h2 : h <= xs.length) (hnx : ¬ U nx) : OpT P ro N o E H U (aO E o.dst (.ref nx)) (over H [(nx, .row e sz (xs.take h.toNat)), (i, .dead)]) (fun j => U j ∨ j = nx) := by
  intro C a w next Q hR hK
  obtain ⟨r1, _⟩ := hR.opv hx
  obtain ⟨q1, _⟩ := hR.opv hy
  obtain ⟨hu, ti, hi', hisz, _⟩ := iB hs
  obtain ⟨hO, hnd⟩ := hR.obj i _ hi
  have hbel := (hR.objb i _ hi).2
  have hxv : a.eval x = C.ρ i := by
    generalize a.eval x = v at r1
    cases r1; rfl
  have hyv : a.eval y = .int k h := by
    generalize a.eval y = v at q1
    cases q1; rfl
  have hrun : ∀ A c, xs.length <= c -> (Instr.slice t (.slice A xs.length c) none (some (.int k h)) none).run P w = .ok (.slice (if c = 0 then A else A.map (·.add 0)) h.toNat c) w := fun A c hc => by
    have hb : (Instr.sliceBounds true xs.length c none (some (.int k h)) none).run P w = .ok (0, h.toNat, c) w := by
      simp [Instr.sliceBounds, Instr.sliceBound, asIntOf, h0, show h <= (c : Int) by omega]
    simp [Instr.slice, run_underlying hu, hb, sizeOf, typeInfo, hi', hisz]
  have hex : ∀ v', (Instr.slice t (C.ρ i) none (some (.int k h)) none).run P w = .ok v' w -> (execOp a.eval o).run P w = .ok (.value v') w := fun v' q2 => by
    simp [execOp, ho, hxv, hyv, Instr.sliceAt, run_underlying hu, q2]
  have key : ∃ v' own', (Instr.slice t (C.ρ i) none (some (.int k h)) none).run P w = .ok v' w /\ v'.oneCell' = true /\ own'.Sublist (C.own i) /\ RepO C.ρ (C.avoid H) w.heap (.own e sz (xs.take h.toNat)) v' own' := by
    rcases hO.row_inv with ⟨hn, hv, hw⟩ | ⟨b, c, cells, vals, ows, hv, hw, hh, hsz, hc, hm, hr, hcs⟩
    . subst hn
      refine ⟨.slice none 0 0, [], ?_, rfl, List.nil_sublist _, ?_⟩
      . rw [hv]
        have := hrun none 0 (A0 _)
        simp only [List.length_nil] at this h2
        have h3 : h.toNat = 0 := by omega
        rw [h3] at this
        simpa using this
      rw [List.take_nil]; exact .own0 e sz
    have hlen : (xs.take h.toNat).length = h.toNat := by rw [A7]; omega
    refine ⟨.slice (some ⟨b, 0, none⟩) h.toNat c, b :: aQ h.toNat ows, ?_, rfl, ?_, ?_⟩
    . rw [hv, hrun (some ⟨b, 0, none⟩) c hc]; split
      . rfl
      simp [lM]
    . rw [hw]; exact (bIf og).cons_cons b
    have := RepO.own (ρ := C.ρ) (av := C.avoid H) (hp := w.heap) e sz (xs.take h.toNat) b c cells vals ows hh hsz og hm (fun j z hj => by
      rw [F9] at hj; split at hj
      . exact hr j z hj
      cases hj) (fun j hj => hcs j og)
    rw [hlen] at this; exact this
  obtain ⟨v', own', g1, g2, g3, g4⟩ := key
  obtain ⟨k1, hs'⟩ := Rel.out (nx := nx) (k := [i]) (ob := .row e sz (xs.take h.toNat)) (w' := w) hR g2 hnx (fun j hj => by rw [B6.1 hj]; exact ⟨_, hi⟩) rfl rfl rfl (A0 _) (fun _ _ _ => rfl)
    (own := own') (fun b hb => .inl ⟨i, B6.2 rfl, g3.subset hb⟩) (bLi.2 fun z hz => bLi.1 hbel z (D2 hz))
    (fun av' hav => ⟨g4.mono' (fun b hb => hav b hb) (fun _ _ _ _ _ _ => rfl) (fun _ _ => rfl), hnd.sublist g3⟩)
  refine gP (by simp [ho, Op.noDefer]) (hex v' g1) (hK _ _ _ (k1.put hN ?_ (Or.inr rfl)) hs')
  have : Rep (C.out nx v' own' [i] g2).ρ ((C.out nx v' own' [i] g2).avoid (over H ((nx, AObj.row e sz (xs.take h.toNat)) :: dC [i]))) w.heap (.ref nx) ((C.out nx v' own' [i] g2).ρ nx) := .ref nx
  rwa [show (C.out nx v' own' [i] g2).ρ nx = v' from aZ _ _ _] at this
def aQm (hg : o.guard = none) (ho : o.op = .slice t x none (some y) none) (hN : oD o N) (hs : cN P t = some (e, some (sz, by'))) (hx : opv E x = some (.ref i)) (hi : get H i = some (.row e sz xs))
    (hy : opv E y = some (.raw (.int k h))) (h0 : 0 <= h) (h2 : h <= xs.length) : aS P ro N ds o b0 E H (tO [x, y]) [i] (.ref nx) [(nx, .row e sz (xs.take h.toNat)), (i, .dead)] nx 1 := by
  refine lsO hg fun E' H' U hE hH hnx => ?_
  rw [eD]
  have hops := oCg hE
  exact bOg ho hN hs (by rw [hops x oS]; exact hx) ((hH i oS).trans hi) (by rw [hops y oS]; exact hy) h0 h2 (hnx nx (A0 _) og)
def uP {c : Code} {i j : Nat} (e sz : Nat) (hi : get H i = some (.cells t cs)) (hj : cs[j]? = some (.raw (.slice none 0 0))) (hn : nx < 1000)
    (h : AWP P ro N n0 c Q E (put (put H i (.cells t (cs.set j (.ref nx)))) nx (.row e sz [])) (nx + 1)) : AWP P ro N n0 c Q E H nx := by
  intro C a w Qc hn0 hR hK
  have hnx : ¬ UU nx nx := fun hu => by rcases hu with hu | hu <;> omega
  have hs := StepR.new (U := UU nx) (w' := w) hR.toRelH rfl rfl rfl (A0 _) (fun _ _ => rfl) hnx (v := .slice none 0 0) (own := []) rfl oS (.row e sz [])
  have hH := RelH.new (U := UU nx) (w' := w) hR.toRelH rfl rfl rfl (A0 _) (fun _ _ => rfl) hnx (v := .slice none 0 0) (own := []) rfl oS (o := .row e sz []) ⟨.own0 e sz, D8⟩ trivial
  have hR' := hR.change hs (fun _ h => .inl h) hH
  have hU : (fun j => UU nx j ∨ j = nx) = UU (nx + 1) := by rw [<- eD, wB]
  rw [hU] at hR' hH
  have hin : i ≠ nx := fun e' => hnx (e' ▸ (hR.objb i _ hi).1)
  have hi2 : get (put H nx (.row e sz [])) i = some (.cells t cs) := by rw [dQ, if_neg (fun e' => hin e'.symm)]; exact hi
  have hle : ∀ (m : Nat) (o' : AObj), get (put (put H i (.cells t (cs.set j (.ref nx)))) nx (.row e sz [])) m = some o' -> (m = i /\ o' = .cells t (cs.set j (.ref nx))) ∨ (m ≠ i /\ get (put H nx (.row e sz [])) m = some o') := fun m o' hm => by
    rw [dQ] at hm; rw [dQ]; split at hm
    . rename_i e1
      subst e1
      exact .inr ⟨fun e2 => hin e2.symm, by rw [if_pos rfl]; exact hm⟩
    rename_i e1
    rw [dQ] at hm; split at hm
    . rename_i e2
      exact .inl ⟨e2.symm, (Option.some.inj hm).symm⟩
    rename_i e2
    exact .inr ⟨fun e3 => e2 e3.symm, by rw [if_neg e1]; exact hm⟩
  let C2 := C.new nx (.slice none 0 0) [] rfl
  have hdom : ∀ m o', get (put (put H i (.cells t (cs.set j (.ref nx)))) nx (.row e sz [])) m = some o' -> ∃ o'', get (put H nx (.row e sz [])) m = some o'' := fun m o' hm => by
    rcases hle m o' hm with ⟨rfl, _⟩ | ⟨_, h2⟩
    . exact ⟨_, hi2⟩
    exact ⟨_, h2⟩
  have hW : ∀ b, C2.W (put (put H i (.cells t (cs.set j (.ref nx)))) nx (.row e sz [])) b -> C2.W (put H nx (.row e sz [])) b := fun b ⟨m, o', hm, hb⟩ => by
    obtain ⟨o'', h2⟩ := hdom m o' hm
    exact ⟨m, o'', h2, hb⟩
  have hav : ∀ b, C2.avoid (put (put H i (.cells t (cs.set j (.ref nx)))) nx (.row e sz [])) b -> C2.avoid (put H nx (.row e sz [])) b := fun b hb => hb.imp id (hW b)
  have hnew : ∀ av hp, Rep C2.ρ av hp (.ref nx) (.slice none 0 0) := fun av hp => by
    have : Rep C2.ρ av hp (.ref nx) (C2.ρ nx) := .ref nx
    rwa [show C2.ρ nx = .slice none 0 0 from aZ _ _ _] at this
  have hRel : Rel C2 N E (put (put H i (.cells t (cs.set j (.ref nx)))) nx (.row e sz [])) (UU (nx + 1)) a w :=
    { obj := fun m o' hm => by
        rcases hle m o' hm with ⟨rfl, rfl⟩ | ⟨_, h2⟩
        . obtain ⟨b, vs, e1, e2, e3, e4⟩ := hH.obj m _ hi2
          refine ⟨b, vs, e1, e2, e3, by rw [D3]; exact e4.1, fun q z hq => ?_⟩
          rw [G3] at hq; split at hq
          . rename_i ejq
            subst ejq; split at hq
            . cases hq
              have h9 := e4.2 j _ hj
              generalize vs.getD j undef = u at h9
              cases h9
              exact hnew _ _
            cases hq
          exact (e4.2 q z hq).mono (fun b _ hb => hav b hb) (fun _ _ _ => rfl)
        exact (hH.obj m o' h2).mono (fun b _ hb => hav b hb) (fun _ _ _ => rfl) (fun _ _ => rfl)
      apart := fun m k om ok b hmk hm hk h1 h2 => by
        obtain ⟨o1, g1⟩ := hdom m om hm
        obtain ⟨o2, g2⟩ := hdom k ok hk
        exact hH.apart m k o1 o2 b hmk g1 g2 h1 h2
      xapart := fun m o' b hm h1 => by
        obtain ⟨o1, g1⟩ := hdom m o' hm
        exact hH.xapart m o1 b g1 h1
      xlt := hH.xlt
      objb := fun m o' hm => by
        rcases hle m o' hm with ⟨rfl, rfl⟩ | ⟨_, h2⟩
        . refine ⟨(hH.objb m _ hi2).1, ?_⟩
          show aE _ _
          refine bLi.2 fun z hz => ?_
          rcases List.mem_or_eq_of_mem_set hz with h1 | h1
          . exact bLi.1 (hH.objb m _ hi2).2 z h1
          rw [h1]; exact .inl og
        exact hH.objb m o' h2
      gl := hH.glK (fun b _ hb => hav b hb) (fun _ _ _ _ _ _ => rfl)
      size := hR'.size, hB := hR'.hB, nodup := hR'.nodup
      marks := fun d hd => by
        obtain ⟨r, h1, h2, h3, h4⟩ := hR'.marks d hd
        exact ⟨r, h1, h2, h3, fun q => h4 (hav r q)⟩
      env := fun t' x' ht' => by
        obtain ⟨h1, h2, h3⟩ := hR'.env t' x' ht'
        exact ⟨h1, h2, h3.mono (fun b _ hb => hav b hb) (fun _ _ _ => rfl)⟩ }
  refine h C2 a w Qc og hRel fun e' E' H' nx' C' a' w' hn' hR3 hs3 hQ => hK e' E' H' nx' C' a' w' hn' hR3 ?_ hQ
  refine ((hs.fewerNames (eA hn0)).trans (fun _ h => h) ?_)
  exact { os := hs3.os, tape := hs3.tape, output := hs3.output, size := hs3.size, keep := fun k hk hkW => hs3.keep k hk (fun q => hkW (hW k q))
          wr := fun b hb => (hs3.wr b hb).imp (hW b) id
          X := hs3.X, B := hs3.B, ρ := hs3.ρ }
end
end
section
variable [Globals]
variable {H1 nd : Heap} {c : Call} {y : Operand} {T e t0 : TypeId} {f m0 i n1 sz : Nat} {code : Code} {xs args cs : List AV} {r0 r x : AV} {ag : Bool}
def mP {H H1 : Heap} {s : List (Nat × Nat)} {g0 g1 : AObj} {nw : Nat} (hs : s = [] ∨ ∃ i j, i ≠ j /\ s = [(0, i), (1, j)]) (h0 : get H (sg s 0) = some (g0.ren (sg s))) (h1 : get H (sg s 1) = some (g1.ren (sg s))) (b0 : g0.bel (UU 2)) (b1 : g1.bel (UU 2))
    (hk : ∀ i ∈ H1.map (·.1), i < 2 + nw) (ha : (get H1 0).isSome = true /\ (get H1 1).isSome = true) (hf : nw <= 900) : FitC H s [(0, g0), (1, g1)] 2 nw H1 where
  objs := ⟨h0, .inl og, b0, h1, .inl og, b1, trivial⟩
  inj := by
    rcases hs with rfl | ⟨i, j, hij, rfl⟩
    . simp [sg, Abs.get]
    simpa [sg, Abs.get] using hij
  cov := fun i hi => by
    have : i = 0 ∨ i = 1 := by omega
    rcases this with rfl | rfl <;> rfl
  sk := fun p hp => by
    rcases hs with rfl | ⟨i, j, hij, rfl⟩
    . cases hp
    simp only [B1, List.not_mem_nil, or_false] at hp
    rcases hp with rfl | rfl <;> rfl
  dom := fun p hp => by
    have := hk p.1 (B3.2 ⟨p, hp, rfl⟩)
    by_cases h : p.1 < 2
    . left
      have : p.1 = 0 ∨ p.1 = 1 := by omega
      rcases this with h | h <;> rw [h] <;> rfl
    exact .inr ⟨og, this⟩
  all := fun p hp => by
    simp only [B1, List.not_mem_nil, or_false] at hp
    rcases hp with rfl | rfl
    . exact ha.1
    exact ha.2
  far := by omega
section
variable {P : Program} {ro : Option Nat} {N n0 : Nat} {E : Env} {H : Heap} {nx b0 : Nat} {o : Oper} {ds : List (Option Tmp)}
def vi {l : List Oper} {K : AK} (s : List (Nat × Nat)) (nw : Nat) {name : String} {fn : Func} (hg : o.guard = none) (ho : o.op = .call c) (hc : c.callee = .invoke y name)
    (hy : opv E y = some (.iface T (.ptr i 0))) (hm : gV P T name = some (f, false)) (hp : tC P T = some e) (hv : vI P e = some (sz, ag)) (hT : FnT P f fn code) (hM : aH P f args nd m0 r0 H1 n1) (hn1 : n1 = m0 + nw) (hi : i ∈ nd.map fun p => sg s p.1) (hHi : get H i = some (.cells t0 cs)) (hel : eM (.agg cs) 0 sz ag = some r)
    (hxs : c.args.toList.map (opv E) = xs.map some) (hargs : r :: xs = aA (sg s) args) (hab : aE (UU m0) args) (hF : FitC H s nd m0 nw H1) (hnw : nw = 0 ∨ nx + nw <= 1000)
    (h : qU P ro N ds l K (aO E o.dst (r0.ren (shift (sg s) m0 nx nw))) (over H (H1.map fun p => (shift (sg s) m0 nx nw p.1, p.2.ren (shift (sg s) m0 nx nw)))) (nx + nw)) : uL P ro N ds (o :: l) K E H nx :=
  vC (fun hN => aBw s nw hg ho hc hy hm hp hi hHi hv hel hT hN hM hn1 hxs hargs hab hF) hnw h
def vj {l : List Oper} {K : AK} (s : List (Nat × Nat)) (nw : Nat) {name : String} {fn : Func} (hg : o.guard = none) (ho : o.op = .call c) (hc : c.callee = .invoke y name)
    (hy : opv E y = some (.iface T x)) (hm : gV P T name = some (f, true)) (hp : (tC P T).isSome = true) (hund : (P.underlying T).isSome = true) (hT : FnT P f fn code) (hM : aH P f args nd m0 r0 H1 n1) (hn1 : n1 = m0 + nw)
    (hxs : c.args.toList.map (opv E) = xs.map some) (hargs : x :: xs = aA (sg s) args) (hab : aE (UU m0) args) (hF : FitC H s nd m0 nw H1) (hnw : nw = 0 ∨ nx + nw <= 1000)
    (h : qU P ro N ds l K (aO E o.dst (r0.ren (shift (sg s) m0 nx nw))) (over H (H1.map fun p => (shift (sg s) m0 nx nw p.1, p.2.ren (shift (sg s) m0 nx nw)))) (nx + nw)) : uL P ro N ds (o :: l) K E H nx :=
  vC (fun hN => rH s nw hg ho hc hy hm (.inr ⟨hp, rfl⟩) hT hN hM hn1 hxs hargs hab hF hund) hnw h
def vig {l : List Oper} {K : AK} (s : List (Nat × Nat)) {j g : Nat} {want b : Bool} {q : Prop} {name : String} {fn : Func} (hg : o.guard = some (j, want)) (ho : o.op = .call c) (hc : c.callee = .invoke y name)
    (hj : (ds[j]?).join = some g) (hE : get E g = some x) (hs : iY x = some (q, b))
    (hy : q /\ b = want -> opv (unE E (tO (y :: c.args.toList))) y = some (.iface T (.ptr i 0))) (hm : gV P T name = some (f, false)) (hp : tC P T = some e) (hv : vI P e = some (sz, ag)) (hT : FnT P f fn code) (hM : q /\ b = want -> aH P f args nd m0 r0 nd m0) (hi : i ∈ nd.map fun p => sg s p.1) (hHi : get H i = some (.cells t0 cs)) (hel : eM (.agg cs) 0 sz ag = some r)
    (hun : aJm (q /\ b = want) E (tO (y :: c.args.toList))) (hxs : q /\ b = want -> c.args.toList.map (opv (unE E (tO (y :: c.args.toList)))) = xs.map some) (hargs : r :: xs = aA (sg s) args) (hab : aE (UU m0) args) (hF : FitC H s nd m0 0 nd)
    (hsame : ∀ m ob, get (nd.map fun p => (shift (sg s) m0 nx 0 p.1, p.2.ren (shift (sg s) m0 nx 0))) m = some ob -> m ∈ (nd.map fun p => sg s p.1) /\ get H m = some ob) (hr : (r0.ren (shift (sg s) m0 nx 0)).bel (UU nx))
    (h : qU P ro N ds l K (aO E o.dst (.when (q /\ b = want) (r0.ren (shift (sg s) m0 nx 0)))) (over H []) (nx + 0)) : uL P ro N ds (o :: l) K E H nx :=
  vC (fun hN => bD hN hg hj hE hs hun (fun hq => bBb (aBw s 0 rfl ho hc (hy hq) hm hp hi hHi hv hel hT hN (hM hq) rfl (hxs hq) hargs hab hF) hsame) hr) (.inl rfl) h
end
end
end Go.Abs
end
section
open Go Go.RowKit
namespace Go.Abs
section
variable [Globals]
def iO {P : Program} {f : Nat} {args : List AV} {nd : Heap} {n0 : Nat} {r : AV} (hb : r.bel (UU n0))
    (h : ∀ (C : Conc) (w : World) (vals : Array Value), RelH C nd (UU n0) w -> cZ C.ρ (C.avoid nd) w.heap args vals -> Calls P f vals w fun e w' => ∃ v, e = .returned v /\ Rep C.ρ (C.avoid nd) w'.heap r v /\ Below w.heap.size w w') : aB P f args nd n0 r := by
  intro C w vals hR hv hab
  refine (h C w vals hR hv).mono fun e w' ⟨v, he, hr, hB⟩ => ⟨v, r, nd, n0, C, he, A0 _, ⟨rfl, rfl, rfl⟩, hR.grow hB.size hB.block, StepR.grow hB.os hB.tape hB.output hB.size hB.block, hr, hb⟩
def bBl (w : World) (k : Nat) (os : Array Obj) : RowKit.Below w.heap.size w (Sort.grow (w.drewN k) os) :=
  ⟨rfl, rfl, rfl, by simp [Sort.grow, World.drewN], fun j hj => by
    show ((w.drewN k).heap ++ os)[j]? = _
    show (w.heap ++ os)[j]? = _
    rw [Array.getElem?_append_left hj]⟩
end
section
variable [Globals]
variable {ρ : Nat -> Value} {av : Nat -> Prop} {hp : Array Obj} {e : Nat}
def byteAV (b : UInt8) : AV := .raw (.int .u8 (b.toNat : Int))
def aRr (n : Nat) {f : Nat -> List Nat} (h : ∀ j, j < n -> f j = []) : aQ n f = [] := by
  refine List.eq_nil_iff_forall_not_mem.2 fun b hb => ?_
  obtain ⟨j, hj, hbj⟩ := mFl.1 hb
  rw [h j hj] at hbj; cases hbj
def aLs {l : List UInt8} {v : Value} {own : List Nat} (h : RepO ρ av hp (.own e 1 (l.map byteAV)) v own) :
    (l = [] /\ v = .slice none 0 0 /\ own = []) ∨ ∃ b c cells, v = .slice (some ⟨b, 0, none⟩) l.length c /\ own = [b] /\ hp[b]? = some (.cells cells e (0, 0)) /\ cells.size = c /\ l.length <= c /\ c <= maxLen /\ cells.toList.take l.length = Lib.byteCells l := by
  rcases h.row_inv with ⟨h1, h2, h3⟩ | ⟨b, c, cells, vals, ows, hv, ho, hh, hcs, hc, hm, hrep, hca⟩
  . exact .inl ⟨List.map_eq_nil_iff.1 h1, h2, h3⟩
  right
  rw [A2] at hv ho hc hca
  have key : ∀ j x, l[j]? = some x -> vals j = .int .u8 (x.toNat : Int) /\ ows j = [] := fun j x hj => by
    have h9 := hrep j (byteAV x) (by rw [B5, hj]; rfl)
    unfold byteAV at h9
    generalize vals j = u at h9
    generalize ows j = w at h9
    cases h9 with
    | leaf _ _ h10 => cases h10; exact ⟨rfl, rfl⟩
  refine ⟨b, c, cells, hv, by rw [ho, aRr l.length fun j hj => (key j _ (A1 hj)).2], hh, by rw [hcs, Nat.mul_one], hc, hm, ?_⟩
  have h8 := hca.take (by rw [hcs]; exact G4 _ hc)
  rw [Nat.mul_one] at h8; rw [h8]
  refine List.ext_getElem? fun j => ?_
  by_cases hj : j < l.length
  . have h7 := nA (vals := vals) hj (Nat.zero_lt_one)
    rw [Nat.mul_one, Nat.add_zero] at h7; rw [h7, (key j _ (A1 hj)).1]
    simp [Lib.byteCells, A1 hj, Value.cells]
  rw [D6 (by rw [cU]; omega), D6 (by rw [Lib.byteCells_length]; omega)]
def bGi {e b c : Nat} {cells : Array Value} {l : List UInt8} (hh : hp[b]? = some (.cells cells e (0, 0))) (hcs : cells.size = c) (hc : l.length <= c) (hm : c <= maxLen) (ht : cells.toList.take l.length = Lib.byteCells l) :
    RepO ρ av hp (.own e 1 (l.map byteAV)) (.slice (some ⟨b, 0, none⟩) l.length c) [b] := by
  have h := RepO.own (ρ := ρ) (av := av) e 1 (l.map byteAV) b c cells (fun j => .int .u8 ((l.getD j 0).toNat : Int)) (fun _ => []) hh (by rw [hcs, Nat.mul_one]) (by rw [A2]; exact hc) hm (fun j x hj => by
    rw [B5] at hj
    obtain ⟨y, hy, rfl⟩ := A8.1 hj
    rw [F7, hy]
    exact .leaf _ _ (.raw _)) (fun j hj => by
    rw [A2] at hj
    refine ⟨rfl, fun k hk => ?_⟩
    have hk0 : k = 0 := by omega
    subst hk0
    have h1 : (cells.toList.take l.length)[j]? = cells[j]? := by rw [F9, if_pos hj, F5]
    rw [ht] at h1; rw [C5, Nat.mul_one, Nat.add_zero, <- h1]
    simp [Lib.byteCells, A1 hj, Value.cells, F7])
  rw [A2, aRr l.length fun _ _ => rfl] at h; exact h
def aAa (U : Nat -> Prop) (l : List UInt8) : aE U (l.map byteAV) := by
  rw [bLi]; intro x hx; obtain ⟨k, _, rfl⟩ := B3.1 hx; trivial
def bHs (σ : Nat -> Nat) (l : List UInt8) : aA σ (l.map byteAV) = l.map byteAV := dK σ (aAa _ l)
section
variable {P : Program} {ro : Option Nat} {N n0 : Nat} {E : Env} {H : Heap} {nx b0 : Nat} {o : Oper} {ds : List (Option Tmp)}
def aLd {U : Nat -> Prop} {c : Call} {x y : Operand} {t u e : TypeId} {l : List UInt8} {k1 : List Nat} {s : ByteArray} (ho : o.op = .call c) (hc : c.callee = .builtin .append) (hargs : c.args = #[x, y]) (hts : c.argTypes = #[t, u]) (hN : oD o N)
    (ht : P.underlying t = some (.slice e)) (hu : P.underlying u = some .string) (hi : ∃ i, P.info? e = some i /\ i.zero = some (.int .u8 0) /\ i.size = 1 /\ i.bytes = 1) (h1 : App1 E H x e 1 (l.map byteAV) k1) (hy : opv E y = some (.raw (.string s)))
    (hlen : l.length + s.size <= 140737488355328) (hnx : ¬ U nx) : OpT P ro N o E H U (aO E o.dst (.ref nx)) (over H ((nx, .row e 1 ((l ++ s.data.toList).map byteAV)) :: dC k1)) (fun j => U j ∨ j = nx) := by
  intro C a w next Q hR hK
  obtain ⟨i, hi1, hi2, hi3, hi4⟩ := hi
  obtain ⟨own1, r1, r2, r3, r4, r5⟩ := h1.rep hR
  obtain ⟨q1, _⟩ := hR.opv hy
  have hyv : a.eval y = .string s := by
    generalize a.eval y = v at q1
    cases q1; rfl
  have hown : w.ownsRow 0 e 1 (a.eval x) l.length (Lib.byteCells l) /\ (∀ b, (a.eval x).ownBlock = some b -> b ∈ own1) := by
    rcases aLs r1 with ⟨rfl, hv, ho'⟩ | ⟨b, c', cells, hv, ho', hh, hcs, hc', hm, htk⟩
    . exact ⟨⟨rfl, .inl ⟨hv, rfl⟩⟩, fun b hb => by rw [hv] at hb; simp [Value.ownBlock] at hb⟩
    refine ⟨⟨by simp [Lib.byteCells], .inr ⟨b, c', cells, hv, A6 _, hh, hc', hm, og, by rw [Nat.mul_one]; exact htk⟩⟩, fun b' hb => ?_⟩
    rw [hv] at hb
    simp only [Value.ownBlock, B8] at hb
    subst hb
    rw [ho']; exact A5
  have hmax : maxLen = 9223372036854775807 := rfl
  obtain ⟨v', w', hrun, hor, hg, _⟩ := Lib.run_append_own_string (P := P) w 0 t u o.type e i ht hu hi1 hi2 hi3 hi4 (a.eval x) l.length (Lib.byteCells l) hown.1 s og hlen (A6 _)
  have hexec : (execOp a.eval o).run P w = .ok (.value v') w' := by
    simp [execOp, ho, resolve, hc, hargs, hts, invoke, builtin, hyv, hrun]
  have hll : (l ++ s.data.toList).length = l.length + s.size := by rw [A3, Array.length_toList]; rfl
  have hbc : Lib.byteCells l ++ Lib.strCells s = Lib.byteCells (l ++ s.data.toList) := by rw [Lib.byteCells_append, Lib.strCells_eq]
  have hblk : ∀ g n' c', v' = .slice (some ⟨g, 0, none⟩) n' c' -> g ∈ own1 ∨ w.heap.size <= g := fun g n' c' hv' => by
    rcases aLs r1 with ⟨rfl, hv, ho'⟩ | ⟨b, c', cells, hv, ho', hh, hcs, hc', hm, htk⟩
    . right
      obtain ⟨v2, w2, hrun2, hor2, _, _⟩ := Lib.run_append_own_string (P := P) w w.heap.size t u o.type e i ht hu hi1 hi2 hi3 hi4 (a.eval x) 0 [] ⟨rfl, .inl ⟨hv, rfl⟩⟩ s (by simp at hlen ⊢; omega) (by simpa using hlen) (A0 _)
      rw [hrun] at hrun2; cases hrun2
      rcases hor2.2 with ⟨h9, _⟩ | ⟨g2, _, _, h9, hge, _⟩
      . rw [hv'] at h9; cases h9
      rw [hv'] at h9; cases h9; exact hge
    by_cases hroom : l.length + s.size <= c'
    . have hr := Lib.run_append_room_string (P := P) w t u o.type e i ht hu hi1 hi3 b l.length c' cells hh s hroom og
      rw [<- hv, hrun] at hr; cases hr
      cases hv'
      left; rw [ho']; exact A5
    have holds : ∀ j q, (Lib.byteCells l)[j]? = some q -> w.cell? ((⟨b, 0, none⟩ : Addr).add j) = some q := by
      have := hown.1.cells (g := b) (by rw [hv]; rfl)
      exact this
    have hr := Lib.run_append_grow_string (P := P) w t u o.type e i (.int .u8 0) ht hu hi1 hi2 ⟨b, 0, none⟩ l.length c' (Lib.byteCells l) (by rw [hi3]; simp [Lib.byteCells]) holds s og og (by rw [hi4]; exact growslice_fits og og)
    rw [<- hv, hrun] at hr; cases hr
    cases hv'
    exact .inr (A0 _)
  have hrep : ∃ own', (∀ b, b ∈ own' -> b ∈ own1 ∨ w.heap.size <= b) /\ own'.Nodup /\ v'.oneCell' = true /\ ∀ av' : Nat -> Prop, RepO C.ρ av' w'.heap (.own e 1 ((l ++ s.data.toList).map byteAV)) v' own' := by
    obtain ⟨hl2, hcase⟩ := hor
    rcases hcase with ⟨hv', hn0⟩ | ⟨g, cap, cur, hv', _, hg', hle, hcap, hcs, htk⟩
    . refine ⟨[], fun b hb => (by cases hb), D8, by rw [hv']; rfl, fun av' => ?_⟩
      have : l ++ s.data.toList = [] := H6 og
      rw [this, hv']; exact .own0 e 1
    refine ⟨[g], fun b hb => by rw [B6.1 hb]; exact hblk g _ _ hv', by simp, by rw [hv']; rfl, fun av' => ?_⟩
    rw [hv', <- hll]
    exact bGi hg' og og hcap (by rw [hll, <- hbc]; rw [Nat.mul_one] at htk; exact htk)
  obtain ⟨own', g1, g2, g3, g4⟩ := hrep
  obtain ⟨k, hs'⟩ := Rel.out (nx := nx) (k := k1) (ob := .row e 1 ((l ++ s.data.toList).map byteAV)) hR g3 hnx r4 hg.os hg.tape hg.output hg.size
    (fun b hb hn => hg.block b hb fun e' => by
      obtain ⟨i', hi', hbi⟩ := (r3 b).1 (hown.2 b e'.symm)
      exact hn i' hi' hbi)
    (own := own') (fun b hb => by
      rcases g1 b hb with h | h
      . obtain ⟨i', hi', hbi⟩ := (r3 b).1 h
        exact .inl ⟨i', hi', hbi⟩
      exact .inr h)
    (aAa _ _) (fun av' hav => ⟨g4 av', g2⟩)
  refine gP (by simp [ho, Op.noDefer]) hexec (hK _ _ _ (k.put hN ?_ (Or.inr rfl)) hs')
  have : Rep (C.out nx v' own' k1 g3).ρ ((C.out nx v' own' k1 g3).avoid (over H ((nx, AObj.row e 1 ((l ++ s.data.toList).map byteAV)) :: dC k1))) w'.heap (.ref nx) ((C.out nx v' own' k1 g3).ρ nx) := .ref nx
  rwa [show (C.out nx v' own' k1 g3).ρ nx = v' from aZ _ _ _] at this
end
end
section
variable [Globals]
variable {x y : Operand} {e i t u src dst : Nat} {c : Call} {ty : TypeId} {s : ByteArray} {cs : List AV}
section
variable {P : Program} {ro : Option Nat} {N n0 : Nat} {E : Env} {H : Heap} {nx b0 : Nat} {o : Oper} {ds : List (Option Tmp)}
def aEq {l : List UInt8} (hg : o.guard = none) (ho : o.op = .call c) (hc : c.callee = .builtin .append) (hargs : c.args = #[x, y]) (hts : c.argTypes = #[t, u]) (hN : oD o N)
    (ht : P.underlying t = some (.slice e)) (hu : P.underlying u = some .string) (hi : ∃ i, P.info? e = some i /\ i.zero = some (.int .u8 0) /\ i.size = 1 /\ i.bytes = 1) (hx : opv E x = some (.ref i)) (hH : get H i = some (.row e 1 (l.map byteAV))) (hy : opv E y = some (.raw (.string s)))
    (hlen : l.length + s.size <= 140737488355328) : aS P ro N ds o b0 E H (tO [x, y]) [i] (.ref nx) [(nx, .row e 1 ((l ++ s.data.toList).map byteAV)), (i, .dead)] nx 1 := by
  refine lsO hg fun E' H' U hE hH' hnx => ?_
  rw [eD]
  have hops := oCg hE
  exact aLd ho hc hargs hts hN ht hu hi (.row i _ (by rw [hops x oS]; exact hx) ((hH' i oS).trans hH)) (by rw [hops y oS]; exact hy) hlen (hnx nx (A0 _) og)
def aPd (hg : o.guard = none) (ho : o.op = .call c) (hc : c.callee = .builtin .append) (hargs : c.args = #[x, y]) (hts : c.argTypes = #[t, u]) (hN : oD o N)
    (ht : P.underlying t = some (.slice e)) (hu : P.underlying u = some .string) (hi : ∃ i, P.info? e = some i /\ i.zero = some (.int .u8 0) /\ i.size = 1 /\ i.bytes = 1) (hx : opv E x = some (.raw (.slice none 0 0))) (hy : opv E y = some (.raw (.string s)))
    (hlen : s.size <= 140737488355328) : aS P ro N ds o b0 E H (tO [x, y]) [] (.ref nx) [(nx, .row e 1 (s.data.toList.map byteAV))] nx 1 := by
  refine lsO hg fun E' H' U hE hH' hnx => ?_
  rw [eD]
  have hops := oCg hE
  exact aLd (l := []) ho hc hargs hts hN ht hu hi (.nil (by rw [hops x oS]; exact hx)) (by rw [hops y oS]; exact hy) (by simpa using hlen) (hnx nx (A0 _) og)
def Rel.bytes {C : Conc} {U : Nat -> Prop} {a : Act} {w : World} {l : List UInt8} (hR : Rel C N E H U a w) (hi : get H i = some (.row e 1 (l.map byteAV))) (h0 : l ≠ []) :
    ∃ b c cells, C.ρ i = .slice (some ⟨b, 0, none⟩) l.length c /\ C.own i = [b] /\ w.heap[b]? = some (.cells cells e (0, 0)) /\ cells.size = c /\ l.length <= c /\ c <= maxLen /\ cells.toList.take l.length = Lib.byteCells l := by
  obtain ⟨h1, _⟩ := hR.obj i _ hi
  rcases aLs h1 with ⟨h2, _⟩ | h2
  . exact absurd h2 h0
  exact h2
def xF {l : List UInt8} (hg : o.guard = none) (ho : o.op = .call c) (hc : c.callee = .builtin .unsafeSliceData) (hargs : c.args = #[x]) (hN : oD o N)
    (hx : opv E x = some (.ref i)) (hH : get H i = some (.row e 1 (l.map byteAV))) (h0 : l ≠ []) (hb : UU b0 i) : aS P ro N ds o b0 E H (tO [x]) [i] (.ep i 1 0 0) [] nx 0 := by
  refine lsO hg fun E' H' U hE hH' hnx => ?_
  rw [aU0]
  have hops := oCg hE
  refine aL (by simp [ho, Op.noDefer]) hN fun C a w hR => ?_
  obtain ⟨h1, h2⟩ := hR.opv (x := x) (r := .ref i) (by rw [hops x oS]; exact hx)
  have hi' := (hH' i oS).trans hH
  obtain ⟨b, c', cells, hv, _, hh, hcs, hc', _, _⟩ := Rel.bytes hR hi' h0
  have hl := E8.2 h0
  refine ⟨h2, .pointer (some ⟨b, 0, none⟩), ?_, ?_⟩
  . have hev : a.eval x = .slice (some ⟨b, 0, none⟩) l.length c' := by
      generalize a.eval x = v at h1
      cases h1; exact hv
    have hr := Lib.run_unsafeSliceData_row (P := P) w c.argTypes o.type ⟨b, 0, none⟩ l.length c' og
    simp [execOp, ho, resolve, hc, hargs, invoke, builtin, hev, hr]
  . have := Rep.ep (ρ := C.ρ) (av := C.avoid H') (hp := w.heap) i 1 0 0 b (by rw [hv]; rfl)
    exact this
def aHs (w : World) (a : Addr) (n k : Nat) (h : k ≠ a.block) : (w.freeze a n).heap[k]? = w.heap[k]? := by
  unfold World.freeze; split
  . rfl
  show (w.heap.modify a.block _)[k]? = _
  rw [Array.getElem?_modify, if_neg (fun e => h e.symm)]
def aHm (w : World) (a : Addr) (n : Nat) : (w.freeze a n).heap.size = w.heap.size := by
  unfold World.freeze; split
  . rfl
  simp
def aRd (w : World) (a : Addr) (n : Nat) : (w.freeze a n).os = w.os /\ (w.freeze a n).tape = w.tape /\ (w.freeze a n).output = w.output := by
  unfold World.freeze
  split <;> exact ⟨rfl, rfl, rfl⟩
def aIt {pt it i e : Nat} {l : List UInt8} (hg : o.guard = none) (ho : o.op = .call c) (hc : c.callee = .builtin .unsafeString) (hargs : c.args = #[x, y]) (hts : c.argTypes = #[pt, it]) (hN : oD o N)
    (hp : P.underlying pt = some (.pointer e)) (hce : P.cellsOf e = 1) (hx : opv E x = some (.ep i 1 0 0)) (hy : opv E y = some (.raw (.int .i64 (l.length : Int)))) (hH : get H i = some (.row e 1 (l.map byteAV))) (h0 : l ≠ []) :
    aS P ro N ds o b0 E H (tO [x, y]) [i] (.raw (.string ⟨l.toArray⟩)) [(nx, .dead), (i, .dead)] nx 1 := by
  refine lsO hg fun E' H' U hE hH' hnx => ?_
  rw [eD]
  have hops := oCg hE
  intro C a w next Q hR hK
  obtain ⟨h1, _⟩ := hR.opv (x := x) (r := .ep i 1 0 0) (by rw [hops x oS]; exact hx)
  obtain ⟨h2, _⟩ := hR.opv (x := y) (by rw [hops y oS]; exact hy)
  have hi' := (hH' i oS).trans hH
  obtain ⟨b, c', cells, hv, hown, hh, hcs, hc', hcm, htk⟩ := Rel.bytes hR hi' h0
  have hev : a.eval x = .pointer (some ⟨b, 0, none⟩) := by
    generalize a.eval x = v at h1
    cases h1 with
    | ep _ _ _ _ b' hb =>
      rw [hv] at hb
      cases hb; rfl
  have hey : a.eval y = .int .i64 (l.length : Int) := by
    generalize a.eval y = v at h2
    cases h2; rfl
  have hmax : maxLen = 9223372036854775807 := rfl
  have hor : w.ownsRow 0 e 1 (C.ρ i) l.length (Lib.byteCells l) := ⟨by simp [Lib.byteCells], .inr ⟨b, c', cells, hv, A6 _, hh, hc', hcm, og, by rw [Nat.mul_one]; exact htk⟩⟩
  have hr := Lib.run_unsafeString_row (P := P) w pt it o.type e hp hce b cells.size (by simp [World.shape?, hh]) l h0 og og (fun j z hz => hor.cells (g := b) (by rw [hv]; rfl) j _ (by simp [Lib.byteCells, hz]))
  have hexec : (execOp a.eval o).run P w = .ok (.value (.string ⟨l.toArray⟩)) (w.freeze ⟨b, 0, none⟩ l.length) := by
    simp [execOp, ho, resolve, hc, hargs, hts, invoke, builtin, hev, hey, hr]
  obtain ⟨f1, f2, f3⟩ := aRd w ⟨b, 0, none⟩ l.length
  obtain ⟨k, hs'⟩ := Rel.out (nx := nx) (v := .int .i64 0) (own := []) (k := [i]) (ob := .dead) hR rfl (hnx nx (A0 _) og) (fun j hj => by rw [B6.1 hj]; exact ⟨_, hi'⟩) f1 f2 f3 (by rw [aHm]; exact A0 _)
    (fun b' hb' hn => aHs w _ _ b' fun e' => hn i oS (by rw [hown]; subst e'; exact A5)) (fun b' hb' => by cases hb') trivial (fun _ _ => rfl)
  exact gP (by simp [ho, Op.noDefer]) hexec (hK _ _ _ (k.put hN (.raw _) trivial) hs')
def yF {j : TypeInfo} (hg : o.guard = none) (ho : o.op = .convert src dst x) (hN : oD o N) (hs : P.underlying src = some (.pointer t)) (hd : P.underlying dst = some .unsafePointer) (ht : P.info? t = some j) (hj : j.size ≠ 0)
    (hx : opv E x = some (.ptr i 0)) (hH : get H i = some (.cells e cs)) (hcs : 0 < cs.length) : aS P ro N ds o b0 E H (tO [x]) [i] (.ptr i 0) [] nx 0 := by
  refine lsO hg fun E' H' U hE hH' hnx => ?_
  rw [aU0]
  have hops := oCg hE
  refine aL (by simp [ho, Op.noDefer]) hN fun C a w hR => ?_
  obtain ⟨h1, h2⟩ := hR.opv (x := x) (r := .ptr i 0) (by rw [hops x oS]; exact hx)
  obtain ⟨b, vs, hv, _, hh, hrep⟩ := hR.obj i _ ((hH' i oS).trans hH)
  have hev : a.eval x = .pointer (some ⟨b, 0, none⟩) := by
    generalize a.eval x = v at h1
    cases h1 with
    | ptr _ _ b' hb => rw [hv] at hb; cases hb; rfl
  have hr := Lib.run_to_unsafe (P := P) w (e := e) (cells := vs.size) ⟨b, 0, none⟩ hs hd ht hj (by simp [World.shape?, hh]) (by rw [hrep.1]; exact hcs)
  refine ⟨h2, .pointer (some ⟨b, 0, none⟩), by simp only [execOp, ho, hev, Sem.run_bind, hr, Result.andThen_ok, Sem.run_pure], ?_⟩
  have := Rep.ptr (ρ := C.ρ) (av := C.avoid H') (hp := w.heap) i 0 b (by rw [hv]; rfl)
  exact this
def vJ {j : TypeInfo} (hg : o.guard = none) (ho : o.op = .convert src dst x) (hN : oD o N) (hs : P.underlying src = some .unsafePointer) (hd : P.underlying dst = some (.pointer u)) (hu : P.info? u = some j)
    (hx : opv E x = some (.ptr i 0)) (hH : get H i = some (.cells e cs)) (hl : liesAt P P.depth e (cs.length / P.cellsOf e) 0 u 1 = true) : aS P ro N ds o b0 E H (tO [x]) [i] (.ptr i 0) [] nx 0 := by
  refine lsO hg fun E' H' U hE hH' hnx => ?_
  rw [aU0]
  have hops := oCg hE
  refine aL (by simp [ho, Op.noDefer]) hN fun C a w hR => ?_
  obtain ⟨h1, h2⟩ := hR.opv (x := x) (r := .ptr i 0) (by rw [hops x oS]; exact hx)
  obtain ⟨b, vs, hv, _, hh, hrep⟩ := hR.obj i _ ((hH' i oS).trans hH)
  have hev : a.eval x = .pointer (some ⟨b, 0, none⟩) := by
    generalize a.eval x = v at h1
    cases h1 with
    | ptr _ _ b' hb => rw [hv] at hb; cases hb; rfl
  have hr := Lib.run_from_unsafe (P := P) w (e := e) (cells := vs.size) ⟨b, 0, none⟩ hs hd hu (by simp [World.shape?, hh]) (by rw [hrep.1]; exact hl)
  refine ⟨h2, .pointer (some ⟨b, 0, none⟩), by simp only [execOp, ho, hev, Sem.run_bind, hr, Result.andThen_ok, Sem.run_pure], ?_⟩
  have := Rep.ptr (ρ := C.ρ) (av := C.avoid H') (hp := w.heap) i 0 b (by rw [hv]; rfl)
  exact this
def yI {f : Nat} {fn : Func} {r : AV} (hg : o.guard = none) (ho : o.op = .call c) (hc : c.callee = .value (.func f)) (hargs : c.args = #[x]) (hN : oD o N)
    (hf : P.funcs[f]? = some fn) (hname : (fn.name == "runtime.NumGoroutine") = false) (hb : fn.body.isNone = true) (hn : Extern.findNext fn = none) (he : Extern.find fn = some Extern.AbiNoEscape.same) (hx : opv E x = some r) : aS P ro N ds o b0 E H (tO [x]) [] r [] nx 0 := by
  refine lsO hg fun E' H' U hE hH' hnx => ?_
  rw [aU0]
  have hops := oCg hE
  refine aL (by simp [ho, Op.noDefer]) hN fun C a w hR => ?_
  obtain ⟨h1, h2⟩ := hR.opv (x := x) (r := r) (by rw [hops x oS]; exact hx)
  have hr := run_callFunc_extern hf hname hb hn he #[a.eval x] w
  rw [Lib.run_noEscape, Result.andThen_ok] at hr
  have h3 : a.eval (.func f) = .func (.func f) #[] #[] := rfl
  refine ⟨h2, _, ?_, h1⟩
  simp [execOp, ho, resolve, hc, hargs, invoke, Deferred.ofValue, h3, hr]
def yR (op : BinOp) (t : TypeId) (x y : Operand) (p : Option Addr) (v : Value) : eqGuard op t x y (.pointer p) v = pure () := by
  unfold eqGuard
  split <;> rfl
def aIe (hg : o.guard = none) (ho : o.op = .binOp .eql t x (.const (.pointer none)) ty) (hN : oD o N) (ht : P.underlying t = some (.pointer e)) (hx : opv E x = some (.raw (.pointer none))) : aS P ro N ds o b0 E H (tO [x]) [] (.raw (.bool true)) [] nx 0 := by
  refine lsO hg fun E' H' U hE hH' hnx => ?_
  rw [aU0]
  have hops := oCg hE
  refine aL (by simp [ho, Op.noDefer]) hN fun C a w hR => ?_
  obtain ⟨h1, h2⟩ := hR.opv (x := x) (by rw [hops x oS]; exact hx)
  have hev : a.eval x = .pointer none := by
    generalize a.eval x = v at h1
    cases h1; rfl
  have h : ∀ d : Nat, (Op.equalIn (d + 1) t (.pointer none) (.pointer none)).run P w = .ok true w := fun d => by simp [Op.equalIn, run_underlying ht]
  have hc : a.eval (.const (.pointer none)) = .pointer none := rfl
  have hr : (binOp .eql t (.pointer none) (.pointer none)).run P w = .ok (.bool true) w := by simp [binOp, Op.equal, Op.maxDepth, h 9999]
  refine ⟨trivial, .bool true, ?_, .raw _⟩
  simp only [execOp, ho, hev, hc, yR, Sem.run_bind, hr, Result.andThen_ok, Sem.run_pure]
def aUz (hg : o.guard = none) (ho : o.op = .binOp .eql t x (.const (.pointer none)) ty) (hN : oD o N) (ht : P.underlying t = some (.pointer e)) (hx : opv E x = some (.ptr i 0)) : aS P ro N ds o b0 E H (tO [x]) [] (.raw (.bool false)) [] nx 0 := by
  refine lsO hg fun E' H' U hE hH' hnx => ?_
  rw [aU0]
  have hops := oCg hE
  refine aL (by simp [ho, Op.noDefer]) hN fun C a w hR => ?_
  obtain ⟨h1, h2⟩ := hR.opv (x := x) (by rw [hops x oS]; exact hx)
  obtain ⟨b, hev⟩ : ∃ b, a.eval x = .pointer (some ⟨b, 0, none⟩) := by
    generalize a.eval x = v at h1
    cases h1 with
    | ptr _ _ b' hb => exact ⟨b', rfl⟩
  have h : ∀ d : Nat, (Op.equalIn (d + 1) t (.pointer (some ⟨b, 0, none⟩)) (.pointer none)).run P w = .ok false w := fun d => by simp [Op.equalIn, run_underlying ht]
  have hc : a.eval (.const (.pointer none)) = .pointer none := rfl
  have hr : (binOp .eql t (.pointer (some ⟨b, 0, none⟩)) (.pointer none)).run P w = .ok (.bool false) w := by simp [binOp, Op.equal, Op.maxDepth, h 9999]
  refine ⟨trivial, .bool false, ?_, .raw _⟩
  simp only [execOp, ho, hev, hc, yR, Sem.run_bind, hr, Result.andThen_ok, Sem.run_pure]
def aUf {j : TypeInfo} (hg : o.guard = none) (ho : o.op = .binOp .neq t x y ty) (hN : oD o N) (ht : P.underlying t = some (.pointer e)) (hte : P.info? e = some j) (hx : opv E x = some (.ptr i 0)) (hy : opv E y = some (.ptr i 0)) : aS P ro N ds o b0 E H (tO [x, y]) [] (.raw (.bool false)) [] nx 0 := by
  refine lsO hg fun E' H' U hE hH' hnx => ?_
  rw [aU0]
  have hops := oCg hE
  refine aL (by simp [ho, Op.noDefer]) hN fun C a w hR => ?_
  obtain ⟨h1, h2⟩ := hR.opv (x := x) (by rw [hops x oS]; exact hx)
  obtain ⟨h3, _⟩ := hR.opv (x := y) (by rw [hops y oS]; exact hy)
  obtain ⟨b, hb, hev⟩ : ∃ b, blk (C.ρ i) = some b /\ a.eval x = .pointer (some ⟨b, 0, none⟩) := by
    generalize a.eval x = v at h1
    cases h1 with
    | ptr _ _ b' hb => exact ⟨b', hb, rfl⟩
  have hey : a.eval y = .pointer (some ⟨b, 0, none⟩) := by
    generalize a.eval y = v at h3
    cases h3 with
    | ptr _ _ b' hb' => rw [hb] at hb'; cases hb'; rfl
  have hr := Lib.run_neq_ptr_same (P := P) w ⟨b, 0, none⟩ ht hte
  refine ⟨trivial, .bool false, ?_, .raw _⟩
  simp only [execOp, ho, hev, hey, yR, Sem.run_bind, hr, Result.andThen_ok, Sem.run_pure]
end
end
section
variable [Globals]
section
variable {P : Program} {ro : Option Nat} {N n0 : Nat} {E : Env} {H : Heap} {nx b0 : Nat} {o : Oper} {ds : List (Option Tmp)}
def aR {t el len sz i off : Nat} {x y : Operand} {k : IntKind} {n : Int} (hg : o.guard = none) (ho : o.op = .indexAddr t x y) (hN : oD o N) (ht : P.underlying t = some (.array len el)) (hi : (P.info? el).map (·.size) = some sz)
    (hx : opv E x = some (.ptr i off)) (hy : opv E y = some (.raw (.int k n))) (h0 : 0 <= n) (h1 : n < len) : aS P ro N ds o b0 E H (tO [x, y]) [] (.ptr i (off + n.toNat * sz)) [] nx 0 := by
  refine lsO hg fun E' H' U hE hH' hnx => ?_
  rw [aU0]
  have hops := oCg hE
  refine aL (by simp [ho, Op.noDefer]) hN fun C a w hR => ?_
  obtain ⟨r1, r2⟩ := hR.opv (x := x) (by rw [hops x oS]; exact hx)
  obtain ⟨q1, _⟩ := hR.opv (x := y) (by rw [hops y oS]; exact hy)
  obtain ⟨j, hj, hs⟩ := A8.1 hi
  have hyv : a.eval y = .int k n := by
    generalize a.eval y = v at q1
    cases q1; rfl
  obtain ⟨b, hb, hxv⟩ : ∃ b, blk (C.ρ i) = some b /\ a.eval x = .pointer (some ⟨b, off, none⟩) := by
    generalize a.eval x = v at r1
    cases r1 with
    | ptr _ _ b' hb => exact ⟨b', hb, rfl⟩
  refine ⟨r2, .pointer (some ⟨b, off + n.toNat * sz, none⟩), ?_, .ptr i _ b hb⟩
  have hr : (Instr.indexAt t (.pointer (some ⟨b, off, none⟩)) (.int k n)).run P w = .ok (.pointer (some ⟨b, off + n.toNat * sz, none⟩)) w := by
    simp [Instr.indexAt, run_underlying ht, Instr.sureAddr, asIntOf, h0, h1, sizeOf, typeInfo, hj, hs, lM]
  simp only [execOp, ho, hxv, hyv, Sem.run_bind, hr, Result.andThen_ok, Sem.run_pure]
end
end
section
variable [Globals]
section
variable {P : Program} {ro : Option Nat} {N n0 : Nat} {E : Env} {H : Heap} {nx b0 : Nat} {o : Oper} {ds : List (Option Tmp)}
def bQk {C : Conc} {U : Nat -> Prop} {a : Act} {w : World} {i t : Nat} {cs ds : List AV} (hR : Rel C N E H U a w) (hi : get H i = some (.cells t cs)) (hle : ∀ vs, cZ C.ρ (C.avoid H) w.heap cs vs -> cZ C.ρ (C.avoid H) w.heap ds vs) (hb : aE U ds) :
    Rel C N E (put H i (.cells t ds)) U a w /\ ∀ {C0 : Conc} {H0 : Heap} {U0 : Nat -> Prop} {w0 : World}, StepR C0 H0 U0 w0 C H w -> StepR C0 H0 U0 w0 C (put H i (.cells t ds)) w := by
  have hdom : ∀ j o, get (put H i (.cells t ds)) j = some o -> ∃ o', get H j = some o' := fun j o hj => by
    rw [dQ] at hj; split at hj
    . rename_i e; subst e; exact ⟨_, hi⟩
    exact ⟨o, hj⟩
  have hW : ∀ b, C.W (put H i (.cells t ds)) b -> C.W H b := fun b ⟨j, o, hj, hb⟩ => by
    obtain ⟨o', ho'⟩ := hdom j o hj
    exact ⟨j, o', ho', hb⟩
  have hav : ∀ b, C.avoid (put H i (.cells t ds)) b -> C.avoid H b := fun b hb => hb.imp id (hW b)
  have hRel : Rel C N E (put H i (.cells t ds)) U a w :=
    { obj := fun j o hj => by
        rw [dQ] at hj; split at hj
        . rename_i e
          subst e; cases hj
          obtain ⟨b, vs, e1, e2, e3, e4⟩ := hR.obj i _ hi
          exact ⟨b, vs, e1, e2, e3, (hle vs e4).mono (fun b _ hb => hav b hb) (fun _ _ _ => rfl)⟩
        exact (hR.obj j o hj).mono (fun b _ hb => hav b hb) (fun _ _ _ => rfl) (fun _ _ => rfl)
      apart := fun j k oj ok b hjk hj hk h1 h2 => by
        obtain ⟨o1, g1⟩ := hdom j oj hj
        obtain ⟨o2, g2⟩ := hdom k ok hk
        exact hR.apart j k o1 o2 b hjk g1 g2 h1 h2
      xapart := fun j o b hj h1 => by
        obtain ⟨o1, g1⟩ := hdom j o hj
        exact hR.xapart j o1 b g1 h1
      xlt := hR.xlt
      gl := hR.toRelH.glK (fun b _ hb => hav b hb) (fun _ _ _ _ _ _ => rfl)
      objb := fun j o hj => by
        rw [dQ] at hj; split at hj
        . rename_i e
          subst e; cases hj
          exact ⟨(hR.objb i _ hi).1, hb⟩
        exact hR.objb j o hj
      size := hR.size, hB := hR.hB, nodup := hR.nodup
      marks := fun d hd => by
        obtain ⟨r, h1, h2, h3, h4⟩ := hR.marks d hd
        exact ⟨r, h1, h2, h3, fun q => h4 (hav r q)⟩
      env := fun t x ht => by
        obtain ⟨h1, h2, h3⟩ := hR.env t x ht
        exact ⟨h1, h2, h3.mono (fun b _ hb => hav b hb) (fun _ _ _ => rfl)⟩ }
  refine ⟨hRel, fun {C0 H0 U0 w0} hs => ?_⟩
  exact { os := hs.os, tape := hs.tape, output := hs.output, size := hs.size, keep := hs.keep, wr := fun b hb => hs.wr b (hW b hb), X := hs.X, B := hs.B, ρ := hs.ρ }
def aGz {c : Call} {x y : Operand} {pt it i e m t0 jj : Nat} {cs : List AV} {l : List UInt8} (hg : o.guard = none) (ho : o.op = .call c) (hc : c.callee = .builtin .unsafeString) (hargs : c.args = #[x, y]) (hts : c.argTypes = #[pt, it]) (hN : oD o N)
    (hp : P.underlying pt = some (.pointer e)) (hce : P.cellsOf e = 1) (hx : opv E x = some (.ep i 1 0 0)) (hy : opv E y = some (.raw (.int .i64 (l.length : Int)))) (hH : get H i = some (.row e 1 (l.map byteAV))) (h0 : l ≠ [])
    (hm : get H m = some (.cells t0 cs)) (hj : cs[jj]? = some (.ref i)) (hmi : m ≠ i) :
    aS P ro N ds o b0 E H (tO [x, y]) [i, m] (.raw (.string ⟨l.toArray⟩)) [(nx, .dead), (i, .dead), (m, .cells t0 (cs.set jj (.sl 1 (l.map byteAV))))] nx 1 := by
  refine lsO hg fun E' H' U hE hH' hnx => ?_
  rw [eD]
  have hops := oCg hE
  intro C a w next Q hR hK
  have hnx' := hnx nx (A0 _) og
  obtain ⟨h1, _⟩ := hR.opv (x := x) (r := .ep i 1 0 0) (by rw [hops x oS]; exact hx)
  obtain ⟨h2, _⟩ := hR.opv (x := y) (by rw [hops y oS]; exact hy)
  have hi' := (hH' i oS).trans hH
  have hm' := (hH' m oS).trans hm
  obtain ⟨b, c', cells, hv, hown, hh, hcs, hc', hcm, htk⟩ := Rel.bytes hR hi' h0
  have hev : a.eval x = .pointer (some ⟨b, 0, none⟩) := by
    generalize a.eval x = v at h1
    cases h1 with
    | ep _ _ _ _ b' hb =>
      rw [hv] at hb
      cases hb; rfl
  have hey : a.eval y = .int .i64 (l.length : Int) := by
    generalize a.eval y = v at h2
    cases h2; rfl
  have hone : (Value.int IntKind.i64 0).oneCell' = true := rfl
  have hmax : maxLen = 9223372036854775807 := rfl
  have hor : w.ownsRow 0 e 1 (C.ρ i) l.length (Lib.byteCells l) := ⟨by simp [Lib.byteCells], .inr ⟨b, c', cells, hv, A6 _, hh, hc', hcm, og, by rw [Nat.mul_one]; exact htk⟩⟩
  have hr := Lib.run_unsafeString_row (P := P) w pt it o.type e hp hce b cells.size (by simp [World.shape?, hh]) l h0 og og (fun j z hz => hor.cells (g := b) (by rw [hv]; rfl) j _ (by simp [Lib.byteCells, hz]))
  have hexec : (execOp a.eval o).run P w = .ok (.value (.string ⟨l.toArray⟩)) (w.freeze ⟨b, 0, none⟩ l.length) := by
    simp [execOp, ho, resolve, hc, hargs, hts, invoke, builtin, hev, hey, hr]
  obtain ⟨f1, f2, f3⟩ := aRd w ⟨b, 0, none⟩ l.length
  have hlp := E8.2 h0
  have hfr : ∃ fr, (w.freeze ⟨b, 0, none⟩ l.length).heap[b]? = some (.cells cells e fr) := by
    unfold World.freeze; rw [if_neg og]
    refine ⟨(0, 0 + l.length), ?_⟩
    show (w.heap.modify b _)[b]? = _
    rw [Array.getElem?_modify, if_pos rfl, hh]; rfl
  obtain ⟨fr, hfr⟩ := hfr
  obtain ⟨k, hs'⟩ := Rel.out (nx := nx) (v := .int .i64 0) (own := []) (k := [i]) (ob := .dead) hR hone hnx' (fun j hj => by rw [B6.1 hj]; exact ⟨_, hi'⟩) f1 f2 f3 (by rw [aHm]; exact A0 _)
    (fun b' hb' hn => aHs w _ _ b' fun e' => hn i oS (by rw [hown]; subst e'; exact A5)) (fun b' hb' => by cases hb') trivial (fun _ _ => rfl)
  have hUi : U i := (hR.objb i _ hi').1
  have hUm : U m := (hR.objb m _ hm').1
  have hin : i ≠ nx := fun e' => hnx' (e' ▸ hUi)
  have hmn : m ≠ nx := fun e' => hnx' (e' ▸ hUm)
  have hg1 : get (over H' ((nx, AObj.dead) :: dC [i])) m = some (.cells t0 cs) := by
    rw [bC]
    show (match get [(nx, AObj.dead), (i, AObj.dead)] m with | some o => some o | none => get H' m) = _
    simp only [Abs.get, if_neg (Ne.symm hmn), if_neg (Ne.symm hmi)]
    exact hm'
  have hav : ¬ (C.out nx (.int .i64 0) [] [i] hone).avoid (over H' ((nx, AObj.dead) :: dC [i])) b := by
    have hbi : b ∈ C.own i := by rw [hown]; exact A5
    rintro (hX | ⟨j, oj, hj', hbj⟩)
    . exact hR.xapart i _ b hi' hbi hX
    by_cases e1 : j = nx
    . subst e1; rw [rX] at hbj; cases hbj
    by_cases e2 : j ∈ [i]
    . rw [jV e1 e2] at hbj; cases hbj
    rw [mE e1 e2] at hbj
    have hgj : get H' j = some oj := by
      rw [bC] at hj'
      have : get ((nx, AObj.dead) :: dC [i]) j = none := by
        show get [(nx, AObj.dead), (i, AObj.dead)] j = none
        simp only [Abs.get, if_neg (Ne.symm e1), if_neg (fun e' : i = j => e2 (by rw [e']; simp))]
      rw [this] at hj'
      exact hj'
    exact hR.apart i j _ oj b (fun e' => e2 (by rw [e']; simp)) hi' hgj hbi hbj
  have hρ : (C.out nx (.int .i64 0) [] [i] hone).ρ i = C.ρ i := bW _ _ hin
  obtain ⟨k2, hs2⟩ := bQk k hg1 (ds := cs.set jj (.sl 1 (l.map byteAV))) (fun vs hvs => by
    refine ⟨by rw [D3]; exact hvs.1, fun q z hq => ?_⟩
    rw [G3] at hq; split at hq
    . rename_i ejq
      subst ejq; split at hq
      . cases hq
        have h9 := hvs.2 jj _ hj
        generalize vs.getD jj undef = u at h9
        cases h9; rw [hρ, hv]
        have h10 := Rep.sl (ρ := (C.out nx (.int .i64 0) [] [i] hone).ρ) (av := (C.out nx (.int .i64 0) [] [i] hone).avoid (over H' ((nx, AObj.dead) :: dC [i]))) (hp := (w.freeze ⟨b, 0, none⟩ l.length).heap) 1 (l.map byteAV) b 0 c' cells e fr (fun j => .int .u8 ((l.getD j 0).toNat : Int)) (by rw [A2]; exact hlp) (by rw [A2]; exact hc') hcm hav hfr
          (fun j z hz => by
            rw [B5] at hz
            obtain ⟨y', hy', rfl⟩ := A8.1 hz
            rw [F7, hy']
            exact .raw _)
          (fun j hjl => by
            rw [A2] at hjl
            refine ⟨rfl, fun q hq => ?_⟩
            have hq0 : q = 0 := by omega
            subst hq0
            have h11 : (cells.toList.take l.length)[j]? = cells[j]? := by rw [F9, if_pos hjl, F5]
            rw [htk] at h11; rw [C5, Nat.mul_one, Nat.add_zero, <- h11]
            simp [Lib.byteCells, A1 hjl, Value.cells, F7])
        rw [A2] at h10; exact h10
      cases hq
    exact hvs.2 q z hq) (by
    have hbl := (hR.objb m _ hm').2
    show aE _ _
    refine bLi.2 fun z hz => ?_
    rcases List.mem_or_eq_of_mem_set hz with h | h
    . exact AV.bel_mono (fun j hj => .inl hj) z (bLi.1 hbl z h)
    rw [h]; exact aAa _ _)
  have hext : ∀ q, get (over H' [(nx, AObj.dead), (i, AObj.dead), (m, .cells t0 (cs.set jj (.sl 1 (l.map byteAV))))]) q = get (put (over H' ((nx, AObj.dead) :: dC [i])) m (.cells t0 (cs.set jj (.sl 1 (l.map byteAV))))) q := fun q => by
    rw [dQ, bC, bC]
    show (match get [(nx, AObj.dead), (i, AObj.dead), (m, .cells t0 (cs.set jj (.sl 1 (l.map byteAV))))] q with | some o => some o | none => get H' q) = if m = q then _ else (match get [(nx, AObj.dead), (i, AObj.dead)] q with | some o => some o | none => get H' q)
    by_cases e1 : nx = q
    . subst e1; simp only [Abs.get, if_true, if_neg hmn]
    by_cases e2 : i = q
    . subst e2; simp only [Abs.get, if_true, if_neg e1, if_neg hmi]
    by_cases e3 : m = q
    . subst e3; simp only [Abs.get, if_true, if_neg e1, if_neg e2]
    simp only [Abs.get, if_neg e1, if_neg e2, if_neg e3]
  exact gP (by simp [ho, Op.noDefer]) hexec (hK _ _ _ (((k2.ext hext)).put hN (.raw _) trivial) ((hs2 hs').ext hext))
end
end
end Go.Abs
end
section
open Go
namespace Go.Abs
section
variable [Globals]
variable {P : Program} {ro : Option Nat} {N : Nat} {E : Env} {H : Heap} {nx : Nat}
def dL {ds : List (Option Tmp)} {l : List Oper} {K : AK} (i : Nat) {e sz : Nat} {xs : List AV} (hi : get H i = some (.row e sz xs)) (h : uL P ro N ds l K (aZo i (.sl sz (fzL xs)) E) (qF i (.sl sz (fzL xs)) H) nx) : uL P ro N ds l K E H nx := by
  intro ops n1 Q C a w hd hb hn hR hK
  let y : AV := .sl sz (fzL xs)
  let C' : Conc := { C with own := fun j => if j = i then [] else C.own j }
  have hW : ∀ b, C'.W (qF i y H) b -> ∃ j o, j ≠ i /\ get H j = some o /\ b ∈ C.own j := by
    rintro b ⟨j, o, hj, hb⟩
    have hb' : b ∈ (if j = i then [] else C.own j) := hb
    by_cases hji : j = i
    . rw [if_pos hji] at hb'; cases hb'
    rw [if_neg hji] at hb'
    rw [jN] at hj
    obtain ⟨o', ho', _⟩ := A8.1 hj
    exact ⟨j, o', hji, ho', hb'⟩
  have hWW : ∀ b, C'.W (qF i y H) b -> C.W H b := fun b hb => by
    obtain ⟨j, o, _, h1, h2⟩ := hW b hb
    exact ⟨j, o, h1, h2⟩
  have hav : ∀ b, C'.avoid (qF i y H) b -> C.avoid H b := fun b hb => hb.imp id (hWW b)
  have hbel := (hR.objb i _ hi).2
  have hyb : y.bel (UU nx) := mQ (xs := xs) hbel
  have hy : Rep C.ρ (C'.avoid (qF i y H)) w.heap y (C.ρ i) := by
    obtain ⟨h1, _⟩ := hR.obj i _ hi
    have h2 : RepO C.ρ (C'.avoid (qF i y H)) w.heap (.own e sz xs) (C.ρ i) (C.own i) := h1.mono' (fun b _ hb => hav b hb) (fun _ _ _ _ _ _ => rfl) (fun _ _ => rfl)
    refine h2.fz fun b hb hb' => ?_
    rcases hb' with hb' | hb'
    . exact hR.xapart i _ b hi hb hb'
    obtain ⟨j, o, hji, hj, hbj⟩ := hW b hb'
    exact hR.apart i j _ _ b (fun q => hji q.symm) hi hj hb hbj
  have hsub : ∀ {x : AV} {v : Value}, Rep C.ρ (C.avoid H) w.heap x v -> Rep C.ρ (C'.avoid (qF i y H)) w.heap (AV.sub i y x) v := fun hx => Rep.sub hy (hx.mono (fun b _ hb => hav b hb) (fun _ _ _ => rfl))
  have hRH : RelH C' (qF i y H) (UU nx) w := by
    refine { obj := fun j o hj => ?_, apart := fun j k oj ok b hjk hj hk hbj hbk => ?_, xapart := fun j o b hj hb => ?_, xlt := hR.xlt, objb := fun j o hj => ?_, gl := hR.toRelH.glK (fun b _ hb => hav b hb) (fun _ _ _ _ _ _ => rfl) }
    . rw [jN] at hj
      obtain ⟨o', ho', rfl⟩ := A8.1 hj
      by_cases hji : j = i
      . rw [if_pos hji]
        show (if j = i then [] else C.own j) = []
        rw [if_pos hji]
      rw [if_neg hji]
      have hown : C'.own j = C.own j := if_neg hji
      rw [hown]
      have h1 := (hR.obj j o' ho').mono' (av' := C'.avoid (qF i y H)) (hp' := w.heap) (fun b _ hb => hav b hb) (fun _ _ _ _ _ _ => rfl) (fun _ _ => rfl)
      cases o' with
      | cells t cs =>
        obtain ⟨b, vs, e1, e2, e3, e4⟩ := h1
        refine ⟨b, vs, e1, e2, e3, by rw [qE]; exact e4.1, fun k x hk => ?_⟩
        rw [aEn] at hk
        obtain ⟨u, hu, rfl⟩ := A8.1 hk
        exact Rep.sub hy (e4.2 k u hu)
      | _ => exact h1
    . obtain ⟨j', oj', _, h1, h2⟩ := hW b ⟨j, oj, hj, hbj⟩
      have e1 : ∀ l ol, get (qF i y H) l = some ol -> b ∈ C'.own l -> ∃ o, get H l = some o /\ b ∈ C.own l := fun l ol hl hbl => by
        have hb' : b ∈ (if l = i then [] else C.own l) := hbl
        by_cases hli : l = i
        . rw [if_pos hli] at hb'; cases hb'
        rw [if_neg hli] at hb'
        rw [jN] at hl
        obtain ⟨o', ho', _⟩ := A8.1 hl
        exact ⟨o', ho', hb'⟩
      obtain ⟨o1, p1, p2⟩ := e1 j oj hj hbj
      obtain ⟨o2, p3, p4⟩ := e1 k ok hk hbk
      exact hR.apart j k _ _ b hjk p1 p3 p2 p4
    . have hb' : b ∈ (if j = i then [] else C.own j) := hb
      by_cases hji : j = i
      . rw [if_pos hji] at hb'; cases hb'
      rw [if_neg hji] at hb'
      rw [jN] at hj
      obtain ⟨o', ho', _⟩ := A8.1 hj
      exact hR.xapart j o' b ho' hb'
    rw [jN] at hj
    obtain ⟨o', ho', rfl⟩ := A8.1 hj
    obtain ⟨h1, h2⟩ := hR.objb j o' ho'
    refine ⟨h1, ?_⟩
    split
    . trivial
    cases o' with
    | cells t cs => exact yL hyb (xs := cs) h2
    | _ => exact h2
  have hRel : Rel C' N (aZo i y E) (qF i y H) (UU nx) a w :=
    { toRelH := hRH, size := hR.size, hB := hR.hB, nodup := hR.nodup
      marks := fun d hd => by
        obtain ⟨r, h1, h2, h3, h4⟩ := hR.marks d hd
        exact ⟨r, h1, h2, h3, fun q => h4 (hav r q)⟩
      env := fun t x ht => by
        rw [aKs] at ht
        obtain ⟨u, hu, rfl⟩ := A8.1 ht
        obtain ⟨h1, h2, h3⟩ := hR.env t u hu
        exact ⟨h1, AV.sub_bel hyb h2, hsub h3⟩ }
  refine h ops n1 Q C' a w hd hb hn hRel fun E' H' nx' C1 a' w' hn' hR' hs hQ => hK E' H' nx' C1 a' w' hn' hR' ?_ hQ
  exact { os := hs.os, tape := hs.tape, output := hs.output, size := hs.size, keep := fun k hk hkW => hs.keep k hk (fun q => hkW (hWW k q))
          wr := fun b hb => (hs.wr b hb).imp (hWW b) id
          X := hs.X, B := hs.B, ρ := hs.ρ }
end
section
variable [Globals]
section
variable {P : Program} {ro : Option Nat} {N n0 : Nat} {Q : AQ} {E : Env} {H : Heap} {nx : Nat}
def aWn {c : Code} {i q t : Nat} (e sz : Nat) (hi : get H i = some (.cells t [.raw (.slice none 0 0)])) (hq : get E q = some (.ptr i 0)) (hn : nx < 1000)
    (h : AWP P ro N n0 c Q ((q, .ep nx 1 0 0) :: E) (over H ((nx, .row t 1 [.own e sz []]) :: dC [i])) (nx + 1)) : AWP P ro N n0 c Q E H nx := by
  intro C a w Qc hn0 hR hK
  have hnx : ¬ UU nx nx := fun hu => by rcases hu with hu | hu <;> omega
  obtain ⟨b, vs, hv, ho, hh, hl, hr⟩ := hR.obj i _ hi
  obtain ⟨y, rfl⟩ : ∃ y, vs = #[y] := by
    match vs, hl with
    | ⟨[y]⟩, _ => exact ⟨y, rfl⟩
  have hy : y = .slice none 0 0 := by
    have := hr 0 _ rfl
    generalize hz : (#[y] : Array Value).getD 0 undef = z at this
    have hz' : z = y := by rw [<- hz]; rfl
    cases this; exact hz'.symm
  subst hy
  obtain ⟨h1, _, h3⟩ := hR.env q _ hq
  have hvq : a.tmps.getD q undef = .pointer (some ⟨b, 0, none⟩) := by
    generalize a.tmps.getD q undef = z at h3
    cases h3 with
    | ptr _ _ b' hb => rw [hv] at hb; cases hb; rfl
  have hrow : ∀ av' : Nat -> Prop, cX C.ρ av' w.heap [b] (.row t 1 [.own e sz []]) (.slice (some ⟨b, 0, none⟩) 1 1) := fun av' => by
    refine ⟨?_, D4.2 ⟨by simp, D8⟩⟩
    have := RepO.own (ρ := C.ρ) (av := av') (hp := w.heap) t 1 [.own e sz []] b 1 #[.slice none 0 0] (fun _ => .slice none 0 0) (fun _ => []) hh rfl (A0 _) dg (fun j x hj => by
      match j, hj with
      | 0, hj => cases hj; exact .own0 e sz
      | j + 1, hj => simp at hj) (fun j hj => by
      have hj1 : j < 1 := hj
      have hj0 : j = 0 := by omega
      subst hj0
      refine ⟨rfl, fun k hk => ?_⟩
      have hk0 : k = 0 := by omega
      subst hk0
      rfl)
    exact this
  obtain ⟨k, hs⟩ := Rel.out (nx := nx) (v := .slice (some ⟨b, 0, none⟩) 1 1) (own := [b]) (k := [i]) (ob := .row t 1 [.own e sz []]) (w' := w) hR rfl hnx (fun j hj => by rw [B6.1 hj]; exact ⟨_, hi⟩) rfl rfl rfl (A0 _) (fun _ _ _ => rfl)
    (fun b' hb' => .inl ⟨i, B6.2 rfl, by rw [ho]; exact hb'⟩) ⟨trivial, trivial⟩ (fun av' _ => hrow av')
  have hU : (fun j => UU nx j ∨ j = nx) = UU (nx + 1) := by rw [<- eD, wB]
  rw [hU] at k
  generalize hC' : C.out nx (.slice (some ⟨b, 0, none⟩) 1 1) [b] [i] rfl = C' at k hs
  have hρ : C'.ρ nx = .slice (some ⟨b, 0, none⟩) 1 1 := by rw [<- hC']; exact aZ _ _ _
  have hR2 : Rel C' N ((q, .ep nx 1 0 0) :: E) (over H ((nx, .row t 1 [.own e sz []]) :: dC [i])) (UU (nx + 1)) a w :=
    { toRelH := k.toRelH, size := k.size, hB := k.hB, nodup := k.nodup, marks := k.marks
      env := fun t' x' ht' => by
        rw [aY] at ht'
        split at ht'
        . rename_i e'
          subst e'
          cases ht'
          refine ⟨h1, .inl og, ?_⟩
          rw [hvq]
          exact .ep nx 1 0 0 b (by rw [hρ]; rfl)
        exact k.env t' x' ht' }
  exact h _ a w Qc og hR2 fun e' E' H' nx' C'' a' w' hn' hR3 hs3 hQ => hK e' E' H' nx' C'' a' w' hn' hR3 ((hs.fewerNames (eA hn0)).trans (fun _ h => h) hs3) hQ
end
end
end Go.Abs
end
section
open Go Go.RowKit
namespace Go.Abs
section
variable [Globals]
def aTh {P : Program} {f e sz : Nat} {args : List AV}
    (h : ∀ (C : Conc) (w : World) (vals : Array Value), RelH C [] (UU 0) w -> cZ C.ρ (C.avoid []) w.heap args vals -> Calls P f vals w fun en w' => ∃ v own, en = .returned v /\ v.oneCell' = true /\ Below w.heap.size w w' /\
      (∀ b, b ∈ own -> w.heap.size <= b) /\ own.Nodup /\ ∀ (ρ : Nat -> Value) (av : Nat -> Prop), RepO ρ av w'.heap (.own e sz []) v own) : aH P f args [] 0 (.ref 0) [(0, .row e sz [])] 1 := by
  intro C w vals hR hv hab
  refine (h C w vals hR hv).mono fun en w' ⟨v, own, he, h1, hB, hown, hnd, hrep⟩ => ?_
  have hnx : ¬ UU 0 0 := bAt dg
  have hs := StepR.new (U := UU 0) hR hB.os hB.tape hB.output hB.size hB.block hnx h1 hown (.row e sz [])
  have hH := RelH.new (U := UU 0) hR hB.os hB.tape hB.output hB.size hB.block hnx h1 hown (o := .row e sz []) ⟨hrep _ _, hnd⟩ trivial
  have hU : (fun j => UU 0 j ∨ j = 0) = UU 1 := by rw [<- eD, wB]
  rw [hU] at hH
  refine ⟨v, .ref 0, [(0, .row e sz [])], 1, C.new 0 v own h1, he, og, ⟨rfl, rfl, rfl⟩, hH, hs, ?_, .inl og⟩
  have : Rep (C.new 0 v own h1).ρ ((C.new 0 v own h1).avoid [(0, .row e sz [])]) w'.heap (.ref 0) ((C.new 0 v own h1).ρ 0) := .ref 0
  have e0 : (C.new 0 v own h1).ρ 0 = v := by show upd C.ρ 0 v 0 = v; exact aZ _ _ _
  rwa [e0] at this
end
end Go.Abs
end
section
open Go
namespace Go.Abs
section
variable [Globals]
section
variable {P : Program} {ro : Option Nat} {N n0 : Nat} {E : Env} {H : Heap} {nx : Nat}
end
end
section
variable [Globals]
variable {b0 e sz : Nat} {o : Oper} {xs : List AV}
section
variable {P : Program} {ro : Option Nat} {N : Nat} {E : Env} {H : Heap} {nx : Nat}
def aS.froze {ds : List (Option Tmp)} {rt rd : List Nat} (h : aS P ro N ds o b0 E H rt rd (.ref nx) [(nx, .row e sz xs)] nx 1) (ho : o.dst ≠ none) : aS P ro N ds o b0 E H rt rd (.sl sz (fzL xs)) [(nx, .dead)] nx 1 := by
  intro E' H' U hE hH hU hnx C a w next Q hR hK
  refine h E' H' U hE hH hU hnx C a w next Q hR fun C' a' w' hR' hs => ?_
  let C2 : Conc := { C' with own := fun j => if j = nx then [] else C'.own j }
  have hg : ∀ (x : AObj) j, get (over H' [(nx, x)]) j = if nx = j then some x else get H' j := fun x j => dQ nx j x H'
  have hW : ∀ b, C2.W (over H' [(nx, .dead)]) b -> ∃ j o, j ≠ nx /\ get (over H' [(nx, .row e sz xs)]) j = some o /\ b ∈ C'.own j := by
    rintro b ⟨j, o, hj, hb⟩
    have hb' : b ∈ (if j = nx then [] else C'.own j) := hb
    by_cases hji : j = nx
    . rw [if_pos hji] at hb'; cases hb'
    rw [if_neg hji] at hb'
    rw [hg, if_neg (fun q => hji q.symm)] at hj
    exact ⟨j, o, hji, by rw [hg, if_neg (fun q => hji q.symm)]; exact hj, hb'⟩
  have hWW : ∀ b, C2.W (over H' [(nx, .dead)]) b -> C'.W (over H' [(nx, .row e sz xs)]) b := fun b hb => by
    obtain ⟨j, o, _, h1, h2⟩ := hW b hb
    exact ⟨j, o, h1, h2⟩
  have hav : ∀ b, C2.avoid (over H' [(nx, .dead)]) b -> C'.avoid (over H' [(nx, .row e sz xs)]) b := fun b hb => hb.imp id (hWW b)
  have hrow : get (over H' [(nx, .row e sz xs)]) nx = some (.row e sz xs) := by rw [hg, if_pos rfl]
  have hbel := (hR'.objb nx _ hrow).2
  have hy : Rep C'.ρ (C2.avoid (over H' [(nx, .dead)])) w'.heap (.sl sz (fzL xs)) (C'.ρ nx) := by
    have h1 := hR'.obj nx _ hrow
    have h2 : RepO C'.ρ (C2.avoid (over H' [(nx, .dead)])) w'.heap (.own e sz xs) (C'.ρ nx) (C'.own nx) := h1.1.mono' (fun b _ hb => hav b hb) (fun _ _ _ _ _ _ => rfl) (fun _ _ => rfl)
    refine h2.fz fun b hb hb' => ?_
    rcases hb' with hb' | hb'
    . exact hR'.xapart nx _ b hrow hb hb'
    obtain ⟨j, o, hji, hj, hbj⟩ := hW b hb'
    exact hR'.apart nx j _ _ b (fun q => hji q.symm) hrow hj hb hbj
  have hold : ∀ j o, j ≠ nx -> get (over H' [(nx, .dead)]) j = some o -> get (over H' [(nx, .row e sz xs)]) j = some o := fun j o hj h => by
    rw [hg, if_neg (fun q => hj q.symm)] at h ⊢; exact h
  have hRel : Rel C2 N (aO E' o.dst (.sl sz (fzL xs))) (over H' [(nx, .dead)]) (aDc U nx 1) a' w' :=
    { obj := fun j ob hj => by
        by_cases hji : j = nx
        . subst hji; rw [hg, if_pos rfl] at hj; cases hj
          show (if j = j then [] else C'.own j) = []
          rw [if_pos rfl]
        have hown : C2.own j = C'.own j := if_neg hji
        rw [hown]
        exact (hR'.obj j ob (hold j ob hji hj)).mono' (fun b _ hb => hav b hb) (fun _ _ _ _ _ _ => rfl) (fun _ _ => rfl)
      apart := fun j k oj ok b hjk hj hk hbj hbk => by
        have e1 : ∀ l ol, get (over H' [(nx, .dead)]) l = some ol -> b ∈ C2.own l -> ∃ o, get (over H' [(nx, .row e sz xs)]) l = some o /\ b ∈ C'.own l := fun l ol hl hbl => by
          have hb' : b ∈ (if l = nx then [] else C'.own l) := hbl
          by_cases hli : l = nx
          . rw [if_pos hli] at hb'; cases hb'
          rw [if_neg hli] at hb'; exact ⟨ol, hold l ol hli hl, hb'⟩
        obtain ⟨o1, p1, p2⟩ := e1 j oj hj hbj
        obtain ⟨o2, p3, p4⟩ := e1 k ok hk hbk
        exact hR'.apart j k _ _ b hjk p1 p3 p2 p4
      xapart := fun j ob b hj hb => by
        have hb' : b ∈ (if j = nx then [] else C'.own j) := hb
        by_cases hji : j = nx
        . rw [if_pos hji] at hb'; cases hb'
        rw [if_neg hji] at hb'; exact hR'.xapart j ob b (hold j ob hji hj) hb'
      xlt := hR'.xlt
      objb := fun j ob hj => by
        by_cases hji : j = nx
        . subst hji; rw [hg, if_pos rfl] at hj; cases hj
          exact ⟨(hR'.objb j _ hrow).1, trivial⟩
        exact hR'.objb j ob (hold j ob hji hj)
      gl := hR'.toRelH.glK (fun b _ hb => hav b hb) (fun _ _ _ _ _ _ => rfl)
      size := hR'.size, hB := hR'.hB, nodup := hR'.nodup
      marks := fun d hd => by
        obtain ⟨r, h1, h2, h3, h4⟩ := hR'.marks d hd
        exact ⟨r, h1, h2, h3, fun q => h4 (hav r q)⟩
      env := fun t x ht => by
        by_cases hd : o.dst = some t
        . have e1 : get (aO E' o.dst (.sl sz (fzL xs))) t = some (.sl sz (fzL xs)) := by rw [hd]; simp [aO, put, Abs.get]
          have e2 : get (aO E' o.dst (.ref nx)) t = some (.ref nx) := by rw [hd]; simp [aO, put, Abs.get]
          rw [e1] at ht; cases ht
          obtain ⟨h1, _, h3⟩ := hR'.env t _ e2
          refine ⟨h1, mQ (xs := xs) hbel, ?_⟩
          generalize a'.tmps.getD t undef = v at h3
          cases h3; exact hy
        rw [qT hd] at ht
        have e2 : get (aO E' o.dst (.ref nx)) t = some x := by rw [qT hd]; exact ht
        obtain ⟨h1, h2, h3⟩ := hR'.env t x e2
        exact ⟨h1, h2, h3.mono (fun b _ hb => hav b hb) (fun _ _ _ => rfl)⟩ }
  refine hK C2 a' w' hRel ?_
  exact { os := hs.os, tape := hs.tape, output := hs.output, size := hs.size, keep := hs.keep
          wr := fun b hb => hs.wr b (hWW b hb)
          X := hs.X, B := hs.B, ρ := hs.ρ }
def aAd {ds : List (Option Tmp)} {c' : Prop} (hg : o.guard = none) (hN : oD o N) (h : wW P (opv E) (get H) nx o.op = some ⟨c', .ref nx, [(nx, .row e sz xs)], 1⟩) (hok : c') (ho : o.dst ≠ none) :
    aS P ro N ds o b0 E H (tO (jA o.op)) (aSw E o.op) (.sl sz (fzL xs)) [(nx, .dead)] nx 1 := aS.froze (zK (r := ⟨c', .ref nx, [(nx, .row e sz xs)], 1⟩) hg hN h hok) ho
def aSp {ds : List (Option Tmp)} {b0 : Nat} : ∀ {l m : List Oper} {E : Env} {H : Heap} {nx : Nat} {ss tt : List St} {E1 E2 : Env} {H1 H2 : Heap} {n1 n2 : Nat}, uR P ro N ds b0 l E H nx ss E1 H1 n1 -> uR P ro N ds b0 m E1 H1 n1 tt E2 H2 n2 -> uR P ro N ds b0 (l ++ m) E H nx (ss ++ tt) E2 H2 n2
  | [], m, E, H, nx, [], tt, E1, E2, H1, H2, n1, n2, h, k => by obtain ⟨rfl, rfl, rfl⟩ := h; exact k
  | o :: l, m, E, H, nx, s :: ss, tt, E1, E2, H1, H2, n1, n2, h, k => ⟨h.1, h.2.1, h.2.2.1, h.2.2.2.1, aSp h.2.2.2.2 k⟩
def bQe {ds : List (Option Tmp)} {l : List Oper} {acc : List Rec} {K : List Rec -> AK} (n : Nat) (h : lH P ro N ds b0 (l.take n) acc (fun rs => VTr P ro N ds b0 (l.drop n) rs.reverse K) E H nx) : VTr P ro N ds b0 l acc K E H nx := by
  intro hd
  obtain ⟨ss, E', H', nx', h1, h2⟩ := aNm _ _ _ _ _ _ h fun o ho => hd o (D2 ho)
  obtain ⟨ss2, E2, H2, nx2, h3, h4⟩ := h2 fun o ho => hd o (D1 ho)
  refine ⟨ss ++ ss2, E2, H2, nx2, by have := aSp h1 h3; rwa [List.take_append_drop] at this, ?_⟩
  simpa using h4
def sdT {n0 : Nat} {Q : AQ} {id : Nat} {ops : Array Oper} {y : Code} (n : Nat) (hm : P.follows .mixedOrders = true) (hd : aLh N ops.toList = true)
    (h : ∀ {K : AK}, (∀ {E H nx}, AWP P ro N n0 y Q E H nx -> K E H nx) -> lH P ro N (ops.toList.map (·.dst)) nx (ops.toList.take n) [] (fun rs => VTr P ro N (ops.toList.map (·.dst)) nx (ops.toList.drop n) rs.reverse (drawn (ops.toList.map (·.after.toList)) K)) E H nx) :
    AWP P ro N n0 (.seq (.region id ops true) y) Q E H nx := sq fun hK => aSn (0, 0) hm hd fun hd' => by
  obtain ⟨ss, E', H', nx', h1, h2, h3⟩ := bQe n (h hK) hd'
  exact ⟨ss, E', H', nx', h1, aRo h2, fun hlt => absurd hlt dg, h3⟩
attribute [go_sem] List.take_succ_cons List.take_zero List.drop_succ_cons List.drop_zero List.reverse_reverse
end
end
section
variable [Globals]
def aRb (x : AV) : Prop := ∀ (ρ : Nat -> Value) (av : Nat -> Prop) (hp : Array Obj) (v : Value) (ow : List Nat), RepO ρ av hp x v ow -> ow = [] /\ Rep ρ av hp x v
def bKd (sz : Nat) (xs : List AV) : aRb (.sl sz xs) := fun ρ av hp v ow h => by cases h with | leaf _ _ h => exact ⟨rfl, h⟩
def bFj (v : Value) : aRb (.raw v) := fun ρ av hp v ow h => by cases h with | leaf _ _ h => exact ⟨rfl, h⟩
def bHx {cs : List AV} (h : ∀ x ∈ cs, aRb x) : aRb (.agg cs) := fun ρ av hp v ow hr => by
  cases hr with
  | leaf _ _ h => exact ⟨rfl, h⟩
  | agg _ vs ows hn hh =>
    refine ⟨?_, .agg _ vs hn fun j x hj => (h x (G2 hj) _ _ _ _ _ (hh j x hj)).2⟩
    unfold aQ; rw [List.flatMap_eq_nil_iff]; intro j hj
    have hlt := List.mem_range.1 hj
    exact (h cs[j] (D7 hlt) _ _ _ _ _ (hh j _ (A1 hlt))).1
section
variable {P : Program} {ro : Option Nat} {N : Nat} {E : Env} {H : Heap} {nx : Nat}
def bGe {ds : List (Option Tmp)} {o1 o2 : Oper} {l : List Oper} {K : AK} {c : Call} {t e : TypeId} {x y z : Operand} {d1 i j sz by' : Nat} {k : IntKind} {lo : Int} {zs : List Value} {xs ys : List AV}
    (g1 : o1.guard = none) (p1 : o1.op = .slice t x (some y) none none) (e1 : o1.dst = some d1) (g2 : o2.guard = none) (p2 : o2.op = .call c) (hc : c.callee = .builtin .append) (hargs : c.args = #[z, .tmp d1]) (hts : c.argTypes = #[t, t])
    (hs : cN P t = some (e, some (sz, by'))) (hz : zC P e = some zs) (hzl : zs.length = sz) (h0 : 0 < sz) (hx : opv E x = some (.ref i)) (hi : get H i = some (.row e sz xs)) (hy : opv E y = some (.raw (.int k lo)))
    (hzz : opv (aO E (some d1) .any) z = some (.ref j)) (hj : get H j = some (.row e sz ys)) (hij : i ≠ j) (hl0 : 0 <= lo) (hl1 : lo <= xs.length) (hel : xs.all AV.elem = true) (hfl : ∀ x ∈ xs, aRb x)
    (hlen : ys.length + xs.length <= maxLen) (hby : (ys.length + xs.length) * by' <= 140737488355328) (hn9 : nx < 1000)
    (h : qU P ro N ds l K (aO (aO E (some d1) .any) o2.dst (.ref nx)) (over H [(nx, .row e sz (ys ++ xs.drop lo.toNat)), (j, .dead)]) (nx + 1)) : uL P ro N ds (o1 :: o2 :: l) K E H nx := by
  intro ops n0 Q C a w hds hd hn hR hk; subst hds
  have hnx : ¬ UU nx nx := fun hu => by rcases hu with hu | hu <;> omega
  obtain ⟨r1, _⟩ := hR.opv hx
  obtain ⟨q1, _⟩ := hR.opv hy
  obtain ⟨hu, ti, hti, hisz, _⟩ := iB hs
  obtain ⟨hO, hnd⟩ := hR.obj i _ hi
  have hbel := (hR.objb i _ hi).2
  have hxv : a.eval x = C.ρ i := by
    generalize a.eval x = v at r1
    cases r1; rfl
  have hyv : a.eval y = .int k lo := by
    generalize a.eval y = v at q1
    cases q1; rfl
  have hrun : ∀ A cp, xs.length <= cp -> (Instr.slice t (.slice A xs.length cp) (some (.int k lo)) none none).run P w = .ok (.slice (if cp = lo.toNat then A else A.map (·.add (lo.toNat * sz))) (xs.length - lo.toNat) (cp - lo.toNat)) w := fun A cp hcp => by
    have hb : (Instr.sliceBounds true xs.length cp (some (.int k lo)) none none).run P w = .ok (lo.toNat, xs.length, cp) w := by
      simp [Instr.sliceBounds, Instr.sliceBound, asIntOf, hl0, hl1]
    have hiff : (cp - lo.toNat = 0) = (cp = lo.toNat) := by apply propext; omega
    simp [Instr.slice, run_underlying hu, hb, sizeOf, typeInfo, hti, hisz, hiff]
  have key : ∃ v1 vals, (Instr.slice t (C.ρ i) (some (.int k lo)) none none).run P w = .ok v1 w /\ News C.ρ (C.avoid H) w sz (xs.drop lo.toNat) v1 vals (fun _ => []) := by
    rcases hO.row_inv with ⟨hn', hv, _⟩ | ⟨b, cp, cells, vals, ows, hv, ho', hh, hsz, hcp, hm, hr, hcs⟩
    . subst hn'
      have hl : lo.toNat = 0 := by simp only [List.length_nil] at hl1; omega
      refine ⟨.slice none 0 0, fun _ => undef, ?_, ⟨.inl ⟨by simp, 0, rfl⟩, fun j hj => by simp at hj, fun j x hj => by simp at hj⟩⟩
      rw [hv]
      have := hrun none 0 (A0 _)
      simp only [List.length_nil, hl] at this
      simpa using this
    refine ⟨_, fun q => vals (lo.toNat + q), by rw [hv]; exact hrun _ cp hcp, ⟨?_, fun q hq => ?_, fun q u hq => ?_⟩⟩
    . have hlen' : (xs.drop lo.toNat).length = xs.length - lo.toNat := B0
      by_cases hcl : cp = lo.toNat
      . rw [if_pos hcl]
        refine .inr ⟨⟨b, 0, none⟩, cp - lo.toNat, by rw [hlen'], fun q m hq hm => ?_⟩
        rw [hlen'] at hq; omega
      rw [if_neg hcl]
      refine .inr ⟨(⟨b, 0, none⟩ : Addr).add (lo.toNat * sz), cp - lo.toNat, by rw [hlen']; rfl, fun q m hq hm => ?_⟩
      rw [hlen'] at hq
      have hq2 := hcs (lo.toNat + q) og
      rw [lM, lM, cell_of_row w b _ cells e (0, 0) hh]
      have e2 : 0 + lo.toNat * sz + (q * sz + m) = 0 + (lo.toNat + q) * sz + m := by rw [Nat.add_mul]; omega
      rw [e2, hq2.2 m hm, B2, E3 (by rw [hq2.1]; exact hm)]
      rfl
    . rw [B0] at hq
      exact (hcs (lo.toNat + q) og).1
    rw [H4] at hq
    exact .leaf _ _ (hfl u (G2 hq) _ _ _ _ _ (hr _ u hq)).2
  obtain ⟨v1, vals, hv1, hnews⟩ := key
  have hex1 : (execOp a.eval o1).run P w = .ok (.value v1) w := by simp [execOp, p1, hxv, hyv, Instr.sliceAt, run_underlying hu, hv1]
  have hR1 : Rel C N (aO E (some d1) .any) H (UU nx) (a.put (some d1) v1) w := hR.put (fun d h => hd o1 A5 d (e1.trans h)) (.any v1) trivial
  have hev1 : (a.put (some d1) v1).eval (.tmp d1) = v1 := by
    have hdl : d1 < N := hd o1 A5 d1 e1
    simp [Act.put, Act.eval, hR.size, hdl]
  have hApp : App1 (aO E (some d1) .any) H z e sz ys [j] := .row j ys hzz hj
  obtain ⟨own1, s1, s2, s3, s4, s5⟩ := hApp.rep hR1
  have hflat : aQ (xs.drop lo.toNat).length (fun _ => ([] : List Nat)) = [] := by simp [aQ]
  obtain ⟨v', w', own', hrun2, hg, hob, hv, hrep, hown, hnd2⟩ := aNp (P := P) (w := w) (ty := o2.type) hs hz hzl h0 C.one s1 s2 (fun b hb => by obtain ⟨i', hi', hbi⟩ := (s3 b).1 hb; obtain ⟨oi, hoi⟩ := s4 i' hi'; exact .inr ⟨i', oi, hoi, hbi⟩) hnews
    (C4.2 fun u hu => C4.1 hel u (D1 hu)) (fun b hb => by rw [hflat] at hb; cases hb) (by rw [B0]; omega)
    (G6 (G4 _ (by rw [B0]; omega)) hby)
  have hex2 : (execOp (a.put (some d1) v1).eval o2).run P w = .ok (.value v') w' := by
    simp [execOp, p2, resolve, hc, hargs, hts, invoke, builtin, hev1, hrun2]
  obtain ⟨k1, hs'⟩ := Rel.out (nx := nx) (k := [j]) (ob := .row e sz (ys ++ xs.drop lo.toNat)) hR1 hv hnx (fun i' hi' => s4 i' hi') hg.os hg.tape hg.output hg.size
    (fun b hb hn' => hg.block b hb fun e' => by
      obtain ⟨i', hi', hbi⟩ := (s3 b).1 (hob b e'.symm)
      exact hn' i' hi' hbi)
    (own := own') (fun b hb => by
      rcases hown b hb with (h' | h') | h'
      . exact .inl ((s3 b).1 h')
      . rw [hflat] at h'; cases h'
      exact .inr og)
    (by show aE (UU nx) (ys ++ xs.drop lo.toNat); rw [bLi] at s5 ⊢; intro u hu; rcases B4.1 hu with h' | h'; exact s5 u h'; exact bLi.1 hbel u (D1 h'))
    (fun av' hav => ⟨hrep av' hav, hnd2 (by rw [hflat]; exact D8) (fun b _ hb => by rw [hflat] at hb; cases hb)⟩)
  have hR2 := k1.put (dst := o2.dst) (r := .ref nx) (v := v') (fun d h => hd o2 (A4 _ A5) d h) (by
    have : Rep (C.out nx v' own' [j] hv).ρ ((C.out nx v' own' [j] hv).avoid (over H ((nx, AObj.row e sz (ys ++ xs.drop lo.toNat)) :: dC [j]))) w'.heap (.ref nx) ((C.out nx v' own' [j] hv).ρ nx) := .ref nx
    rwa [show (C.out nx v' own' [j] hv).ρ nx = v' from aZ _ _ _] at this) (Or.inr rfl)
  rw [<- eD, wB] at hR2
  have hfin := aFi l K _ _ _ h ops n0 Q _ _ _ rfl (fun o' ho' => hd o' (A4 _ (A4 _ ho'))) og hR2 fun E2 H2 nx2 C2 a2 w2 hn2 hR3 hs2 hK2 =>
    hk E2 H2 nx2 C2 a2 w2 hn2 hR3 ((hs'.fewerNames (eA hn)).trans (fun _ h => h) hs2) hK2
  have hG2 : GS P ro (ops.toList.map (·.dst)) o2 (a.put (some d1) v1) w (wpListIn (FW ro) 0 P ops Q l) Q := by
    unfold GS
    rw [if_pos (by simp [Region.wanted, g2])]
    exact gP (by simp [p2, Op.noDefer]) hex2 hfin
  have hG1 : GS P ro (ops.toList.map (·.dst)) o1 a w (wpListIn (FW ro) 0 P ops Q (o2 :: l)) Q := by
    unfold GS
    rw [if_pos (by simp [Region.wanted, g1])]
    refine gP (by simp [p1, Op.noDefer]) hex1 ?_
    rw [e1]; unfold GS at hG2
    have hy : uG (ops.toList.map (·.dst)) (a.put (some d1) v1).tmps = yielded ops (a.put (some d1) v1).tmps := by funext q; rw [wL]
    rw [hy] at hG2; exact hG2
  unfold GS at hG1
  have hy : uG (ops.toList.map (·.dst)) a.tmps = yielded ops a.tmps := by funext q; rw [wL]
  rw [hy] at hG1; exact hG1
end
end
end Go.Abs
end
section
namespace Go.Plain
section
variable {a b x y z i j m : Nat} {σ τ : Nat -> Nat}
def swp (σ : Nat -> Nat) (i j : Nat) : Nat -> Nat := fun k => if k = i then σ j else if k = j then σ i else σ k
def rot (σ : Nat -> Nat) (a m b : Nat) : Nat -> Nat := fun k => if a <= k /\ k < a + (b - m) then σ (k + (m - a)) else if a + (b - m) <= k /\ k < b then σ (k - (b - m)) else σ k
def dE (a b : Nat) (σ σ' : Nat -> Nat) : Prop :=
  ∃ p q : Nat -> Nat, (∀ k, σ' k = σ (p k)) /\ (∀ k, p (q k) = k) /\ (∀ k, q (p k) = k) /\ (∀ k, a <= k -> k < b -> a <= p k /\ p k < b) /\ (∀ k, (k < a ∨ b <= k) -> p k = k)
def dE.refl (a b : Nat) (σ : Nat -> Nat) : dE a b σ σ := ⟨id, id, fun _ => rfl, fun _ => rfl, fun _ => rfl, fun _ h1 h2 => ⟨h1, h2⟩, fun _ _ => rfl⟩
def dE.trans {σ τ υ : Nat -> Nat} (h : dE a b σ τ) (h' : dE a b τ υ) : dE a b σ υ := by
  obtain ⟨p, q, h1, h2, h3, h4, h5⟩ := h
  obtain ⟨p', q', k1, k2, k3, k4, k5⟩ := h'
  refine ⟨fun k => p (p' k), fun k => q' (q k), fun k => by rw [k1, h1], fun k => by simp only [k2, h2], fun k => by simp only [h3, k3], fun k ha hb => ?_, fun k hk => by simp only [k5 k hk, h5 k hk]⟩
  have := k4 k ha hb
  exact h4 _ this.1 this.2
def dE.wide {a b a' b' : Nat} (h : dE a b σ τ) (ha : a' <= a) (hb : b <= b') : dE a' b' σ τ := by
  obtain ⟨p, q, h1, h2, h3, h4, h5⟩ := h
  refine ⟨p, q, h1, h2, h3, fun k h6 h7 => ?_, fun k hk => h5 k (by omega)⟩
  by_cases hk : k < a ∨ b <= k
  . rw [h5 k hk]; exact ⟨h6, h7⟩
  have := h4 k (by omega) (by omega)
  omega
def dE.all (h : dE a b σ τ) {φ : Nat -> Prop} (hφ : ∀ k, a <= k -> k < b -> φ (σ k)) : ∀ k, a <= k -> k < b -> φ (τ k) := by
  obtain ⟨p, q, h1, h2, h3, h4, h5⟩ := h
  intro k ha hb; rw [h1]
  exact hφ _ (h4 k ha hb).1 (h4 k ha hb).2
def dE.out (h : dE a b σ τ) {k : Nat} (hk : k < a ∨ b <= k) : τ k = σ k := by
  obtain ⟨p, q, h1, h2, h3, h4, h5⟩ := h
  rw [h1, h5 k hk]
def dE.swp (σ : Nat -> Nat) (hi : a <= i /\ i < b) (hj : a <= j /\ j < b) : dE a b σ (swp σ i j) := by
  refine ⟨fun k => if k = i then j else if k = j then i else k, fun k => if k = i then j else if k = j then i else k, fun k => ?_, fun k => ?_, fun k => ?_, fun k h1 h2 => ?_, fun k hk => ?_⟩
  . unfold Plain.swp
    by_cases h1 : k = i
    . simp [h1]
    by_cases h2 : k = j
    . subst h2; simp only [if_neg h1, if_true]
    simp [h1, h2]
  . simp only
    split <;> split <;> (try split) <;> omega
  . simp only
    split <;> split <;> (try split) <;> omega
  . simp only
    split <;> (try split) <;> omega
  simp only
  split <;> (try split) <;> omega
def dE.rot (σ : Nat -> Nat) (h1 : a <= m) (h2 : m <= b) : dE a b σ (rot σ a m b) := by
  refine ⟨fun k => if a <= k /\ k < a + (b - m) then k + (m - a) else if a + (b - m) <= k /\ k < b then k - (b - m) else k, fun k => if a <= k /\ k < m then k + (b - m) else if m <= k /\ k < b then k - (m - a) else k, fun k => ?_, fun k => ?_, fun k => ?_, fun k h3 h4 => ?_, fun k hk => ?_⟩
  . unfold Plain.rot
    simp only
    split
    . rfl
    split <;> rfl
  . simp only
    split <;> split <;> (try split) <;> (try split) <;> omega
  . simp only
    split <;> split <;> (try split) <;> (try split) <;> omega
  . simp only
    split <;> (try split) <;> omega
  simp only
  split <;> (try split) <;> omega
section
variable (l : Nat -> Nat -> Bool)
def bU (x y : Nat) : Prop := l x y = true ∨ (l y x = false /\ x < y)
structure Orders : Prop where
  irrefl : ∀ x, l x x = false
  trans : ∀ x y z, l x y = true -> l y z = true -> l x z = true
  neg : ∀ x y z, l x y = false -> l y z = false -> l x z = false
variable {l}
def Orders.asymm (h : Orders l) (h1 : l x y = true) : l y x = false := by
  cases h2 : l y x with
  | false => rfl
  | true => have := h.trans x y x h1 h2; rw [h.irrefl] at this; cases this
def bU.trans (h : Orders l) (h1 : bU l x y) (h2 : bU l y z) : bU l x z := by
  rcases h1 with h1 | ⟨h1, h1'⟩ <;> rcases h2 with h2 | ⟨h2, h2'⟩
  . exact .inl (h.trans _ _ _ h1 h2)
  . left
    cases hxz : l x z with
    | true => rfl
    | false =>
      have h3 := h.neg x z y hxz h2
      rw [h1] at h3; cases h3
  . left
    cases hxz : l x z with
    | true => rfl
    | false =>
      have h3 := h.neg y x z h1 hxz
      rw [h2] at h3; cases h3
  exact .inr ⟨h.neg _ _ _ h2 h1, by omega⟩
def bU.irrefl (h : Orders l) : ¬ bU l x x := by
  rintro (h1 | ⟨_, h1⟩)
  . rw [h.irrefl] at h1; cases h1
  omega
variable (l)
def Sor (σ : Nat -> Nat) (a b : Nat) : Prop := ∀ i j, a <= i -> i < j -> j < b -> bU l (σ i) (σ j)
def aAq (a : Nat) : Nat -> (Nat -> Nat) -> (Nat -> Nat)
  | 0, σ => σ
  | j + 1, σ => if a < j + 1 /\ l (σ (j + 1)) (σ j) = true then aAq a j (swp σ (j + 1) j) else σ
def yV (a : Nat) : Nat -> Nat -> (Nat -> Nat) -> (Nat -> Nat)
  | 0, _, σ => σ
  | c + 1, i, σ => yV a c (i + 1) (aAq l a i σ)
def gK (σ : Nat -> Nat) (a b : Nat) : Nat -> Nat := yV l a (b - (a + 1)) (a + 1) σ
variable {l}
def bDk (ho : Orders l) (a i b : Nat) (hib : i < b) : ∀ (j : Nat) (σ : Nat -> Nat), a <= j -> j <= i -> Sor l σ a j -> (∀ u v, a <= u -> u < j -> j < v -> v <= i -> bU l (σ u) (σ v)) -> (∀ u v, j < u -> u < v -> v <= i -> bU l (σ u) (σ v)) ->
    (∀ v, j < v -> v <= i -> bU l (σ j) (σ v)) -> (∀ u, a <= u -> u < j -> σ u < σ j) -> dE a b σ (aAq l a j σ) /\ Sor l (aAq l a j σ) a (i + 1)
  | 0, σ, haj, hji, h1, h2, h3, h4, h5 => by
    refine ⟨.refl a b σ, fun u v hu huv hv => ?_⟩
    by_cases e : u = 0
    . subst e; exact h4 v huv (by omega)
    exact h3 u v (by omega) huv (by omega)
  | j + 1, σ, haj, hji, h1, h2, h3, h4, h5 => by
    unfold aAq; split
    . rename_i hc
      have s0 : ∀ k, swp σ (j + 1) j k = if k = j + 1 then σ j else if k = j then σ (j + 1) else σ k := fun _ => rfl
      have hs := bDk ho a i b hib j (swp σ (j + 1) j) (by omega) (by omega) (fun u v hu huv hv => ?_) (fun u v hu huj hjv hv => ?_) (fun u v hu huv hv => ?_) (fun v hv hvi => ?_) (fun u hu huj => ?_)
      . exact ⟨(dE.swp σ (by omega) (by omega)).trans hs.1, hs.2⟩
      . simp only [s0, if_neg (show u ≠ j + 1 by omega), if_neg (show u ≠ j by omega), if_neg (show v ≠ j + 1 by omega), if_neg (show v ≠ j by omega)]
        exact h1 u v hu huv (by omega)
      . simp only [s0, if_neg (show u ≠ j + 1 by omega), if_neg (show u ≠ j by omega), if_neg (show v ≠ j by omega)]; split
        . exact h1 u j hu (by omega) (by omega)
        exact h2 u v hu (by omega) (by omega) (by omega)
      . simp only [s0, if_neg (show u ≠ j by omega), if_neg (show v ≠ j by omega), if_neg (show v ≠ j + 1 by omega)]; split
        . exact h2 j v (by omega) (by omega) (by omega) (by omega)
        exact h3 u v (by omega) huv hv
      . simp only [s0, if_neg (show j ≠ j + 1 by omega), if_true, if_neg (show v ≠ j by omega)]; split
        . exact .inl hc.2
        exact h4 v (by omega) hvi
      simp only [s0, if_neg (show u ≠ j + 1 by omega), if_neg (show u ≠ j by omega), if_neg (show j ≠ j + 1 by omega), if_true]
      exact h5 u hu (by omega)
    rename_i hc
    refine ⟨.refl a b σ, fun u v hu huv hv => ?_⟩
    rcases Nat.lt_trichotomy v (j + 1) with hv1 | hv1 | hv1
    . exact h1 u v hu huv hv1
    . subst hv1
      by_cases ha : a = j + 1
      . omega
      have hl : l (σ (j + 1)) (σ j) = false := by
        cases hx : l (σ (j + 1)) (σ j) with
        | false => rfl
        | true => exact absurd ⟨by omega, hx⟩ hc
      have hjj : bU l (σ j) (σ (j + 1)) := .inr ⟨hl, h5 j (by omega) (by omega)⟩
      by_cases e : u = j
      . subst e; exact hjj
      exact (h1 u j hu (by omega) (by omega)).trans ho hjj
    rcases Nat.lt_trichotomy u (j + 1) with hu1 | hu1 | hu1
    . exact h2 u v hu hu1 hv1 (by omega)
    . subst hu1; exact h4 v hv1 (by omega)
    exact h3 u v hu1 huv (by omega)
def aZm (ho : Orders l) (a b : Nat) : ∀ (c i : Nat) (σ : Nat -> Nat), a < i -> i + c = b -> Sor l σ a i -> (∀ u v, a <= u -> u < v -> i <= v -> v < b -> σ u < σ v) -> dE a b σ (yV l a c i σ) /\ Sor l (yV l a c i σ) a b
  | 0, i, σ, ha, hb, h1, h2 => ⟨.refl a b σ, (show i = b by omega) ▸ h1⟩
  | c + 1, i, σ, ha, hb, h1, h2 => by
    unfold yV
    obtain ⟨k1, k2⟩ := bDk ho a i (i + 1) (by omega) i σ (by omega) (Nat.le_refl _) h1 (fun u v _ _ h3 h4 => by omega) (fun u v h3 h4 h5 => by omega) (fun v h3 h4 => by omega) (fun u hu hui => h2 u i hu hui (Nat.le_refl _) (by omega))
    have hr := aZm ho a b c (i + 1) (aAq l a i σ) (by omega) (by omega) k2 (fun u v hu huv hiv hv => by
      rw [k1.out (k := v) (by omega)]
      by_cases hu1 : u < i + 1
      . exact k1.all (φ := fun x => x < σ v) (fun k hk1 hk2 => h2 k v hk1 (by omega) (by omega) hv) u hu hu1
      rw [k1.out (k := u) (by omega)]
      exact h2 u v hu huv (by omega) hv)
    exact ⟨(k1.wide (Nat.le_refl _) (by omega)).trans hr.1, hr.2⟩
def bAr (ho : Orders l) (hab : a < b) (h : ∀ u v, a <= u -> u < v -> v < b -> σ u < σ v) : dE a b σ (gK l σ a b) /\ Sor l (gK l σ a b) a b :=
  aZm ho a b _ (a + 1) σ (by omega) (by omega) (fun u v h1 h2 h3 => by omega) (fun u v h1 h2 h3 h4 => h u v h1 h2 h4)
def gT (t : Nat -> Bool) : Nat -> Nat -> Nat -> Nat
  | 0, s, _ => s
  | f + 1, s, r => if s < r then (if t ((s + r) / 2) = true then gT t f s ((s + r) / 2) else gT t f ((s + r) / 2 + 1) r) else s
def aVr (t : Nat -> Bool) (s0 r0 : Nat) : ∀ (f s r : Nat), r - s <= f -> s <= r -> s0 <= s -> r <= r0 -> (s = s0 ∨ t (s - 1) = false) -> (r = r0 ∨ t r = true) ->
    s0 <= gT t f s r /\ gT t f s r <= r0 /\ (gT t f s r = s0 ∨ t (gT t f s r - 1) = false) /\ (gT t f s r = r0 ∨ t (gT t f s r) = true)
  | 0, s, r, hf, hsr, h0, h1, h2, h3 => by
    have : s = r := by omega
    subst this
    exact ⟨h0, h1, h2, h3⟩
  | f + 1, s, r, hf, hsr, h0, h1, h2, h3 => by
    unfold gT; split
    . split
      . rename_i ht
        exact aVr t s0 r0 f s _ (by omega) (by omega) h0 (by omega) h2 (.inr ht)
      rename_i ht
      exact aVr t s0 r0 f _ r (by omega) (by omega) (by omega) h1 (.inr (by simpa using ht)) h3
    have : s = r := by omega
    subst this
    exact ⟨h0, h1, h2, h3⟩
def bs_ok (t : Nat -> Bool) {f s r : Nat} (hf : r - s <= f) (hsr : s <= r) : s <= gT t f s r /\ gT t f s r <= r /\ (gT t f s r = s ∨ t (gT t f s r - 1) = false) /\ (gT t f s r = r ∨ t (gT t f s r) = true) :=
  aVr t s r f s r hf hsr (Nat.le_refl _) (Nat.le_refl _) (.inl rfl) (.inl rfl)
variable (l)
def iK (σ : Nat -> Nat) (a m b : Nat) : Nat :=
  gT (fun c => l (σ ((a + b) / 2 + m - 1 - c)) (σ c)) b (if (a + b) / 2 < m then (a + b) / 2 + m - b else a) (if (a + b) / 2 < m then (a + b) / 2 else m)
def lN : Nat -> (Nat -> Nat) -> Nat -> Nat -> Nat -> (Nat -> Nat)
  | 0, σ, _, _, _ => σ
  | f + 1, σ, a, m, b =>
    if m - a = 1 then rot σ a m (gT (fun h => !l (σ h) (σ a)) b m b)
    else if b - m = 1 then rot σ (gT (fun h => l (σ m) (σ h)) m a m) m b
    else
      let mid := (a + b) / 2
      let st := iK l σ a m b
      let en := mid + m - st
      let σ1 := if st < m /\ m < en then rot σ st m en else σ
      let σ2 := if a < st /\ st < mid then lN f σ1 a st mid else σ1
      if mid < en /\ en < b then lN f σ2 mid en b else σ2
variable {l}
def symCut_ok (h1 : a < m) (h2 : m < b) : a <= iK l σ a m b /\ iK l σ a m b <= m /\ iK l σ a m b <= (a + b) / 2 /\ m <= (a + b) / 2 + m - iK l σ a m b /\ (a + b) / 2 + m - iK l σ a m b <= b /\
    (a < iK l σ a m b -> (a + b) / 2 + m - iK l σ a m b < b -> l (σ ((a + b) / 2 + m - iK l σ a m b)) (σ (iK l σ a m b - 1)) = false) /\
    (iK l σ a m b < m -> m < (a + b) / 2 + m - iK l σ a m b -> l (σ ((a + b) / 2 + m - iK l σ a m b - 1)) (σ (iK l σ a m b)) = true) := by
  have hs : iK l σ a m b = gT (fun c => l (σ ((a + b) / 2 + m - 1 - c)) (σ c)) b (if (a + b) / 2 < m then (a + b) / 2 + m - b else a) (if (a + b) / 2 < m then (a + b) / 2 else m) := rfl
  have hb := bs_ok (fun c => l (σ ((a + b) / 2 + m - 1 - c)) (σ c)) (f := b) (s := if (a + b) / 2 < m then (a + b) / 2 + m - b else a) (r := if (a + b) / 2 < m then (a + b) / 2 else m) (by split <;> omega) (by split <;> omega)
  rw [<- hs] at hb
  generalize iK l σ a m b = c at hb ⊢
  obtain ⟨b1, b2, b3, b4⟩ := hb
  have b1' : a <= c := by split at b1 <;> omega
  have b2' : c <= m /\ c <= (a + b) / 2 := by split at b2 <;> omega
  refine ⟨b1', b2'.1, b2'.2, by omega, by split at b1 <;> omega, fun h3 h4 => ?_, fun h3 h4 => ?_⟩
  . rcases b3 with b3 | b3
    . split at b3 <;> omega
    have e : (a + b) / 2 + m - 1 - (c - 1) = (a + b) / 2 + m - c := by omega
    simp only [e] at b3
    exact b3
  rcases b4 with b4 | b4
  . split at b4 <;> omega
  have e : (a + b) / 2 + m - 1 - c = (a + b) / 2 + m - c - 1 := by omega
  simp only [e] at b4
  exact b4
def Sor.le (h : Sor l σ a b) (hi : a <= i) (hij : i <= j) (hj : j < b) : σ i = σ j ∨ bU l (σ i) (σ j) := by
  by_cases e : i = j
  . subst e; exact .inl rfl
  exact .inr (h i j hi (by omega) hj)
def bU.l1 (ho : Orders l) (h1 : x = y ∨ bU l x y) (h2 : bU l y z) : bU l x z := by
  rcases h1 with h1 | h1
  . rw [h1]; exact h2
  exact h1.trans ho h2
def bU.l2 (ho : Orders l) (h1 : bU l x y) (h2 : y = z ∨ bU l y z) : bU l x z := by
  rcases h2 with h2 | h2
  . rw [<- h2]; exact h1
  exact h1.trans ho h2
def aVy (ho : Orders l) : ∀ (f : Nat) (σ : Nat -> Nat) (a m b : Nat), b - a <= f -> a < m -> m < b -> Sor l σ a m -> Sor l σ m b -> (∀ i j, a <= i -> i < m -> m <= j -> j < b -> σ i < σ j) -> dE a b σ (lN l f σ a m b) /\ Sor l (lN l f σ a m b) a b
  | 0, σ, a, m, b, hf, h1, h2, _, _, _ => by omega
  | f + 1, σ, a, m, b, hf, h1, h2, hL, hR, hX => by
    unfold lN; split
    . rename_i hma
      have hm : m = a + 1 := by omega
      obtain ⟨b1, b2, b3, b4⟩ := bs_ok (fun h => !l (σ h) (σ a)) (f := b) (s := m) (r := b) (by omega) (by omega)
      generalize gT (fun h => !l (σ h) (σ a)) b m b = e at b1 b2 b3 b4
      refine ⟨(dE.rot σ (by omega) b1).wide (Nat.le_refl _) b2, ?_⟩
      have lo : ∀ j, m <= j -> j < e -> bU l (σ j) (σ a) := fun j hj1 hj2 => by
        have h9 : l (σ (e - 1)) (σ a) = true := by
          rcases b3 with b3 | b3
          . omega
          simpa using b3
        exact bU.l1 ho (hR.le hj1 (by omega) (by omega)) (.inl h9)
      have hi : ∀ j, e <= j -> j < b -> bU l (σ a) (σ j) := fun j hj1 hj2 => by
        have h9 : l (σ e) (σ a) = false := by
          rcases b4 with b4 | b4
          . omega
          simpa using b4
        exact bU.l2 ho (.inr ⟨h9, hX a e (Nat.le_refl _) h1 b1 (by omega)⟩) (hR.le b1 hj1 hj2)
      intro i j hi1 hij hjb; unfold rot; subst hm
      have q1 : ∀ k, a <= k -> k < e - 1 -> (a <= k /\ k < a + (e - (a + 1))) := fun k _ _ => by omega
      rcases Nat.lt_trichotomy j (e - 1) with hj | hj | hj
      . rw [if_pos (q1 i hi1 (by omega)), if_pos (q1 j (by omega) hj)]
        exact hR _ _ (by omega) (by omega) (by omega)
      . rw [if_pos (q1 i hi1 (by omega)), if_neg (by omega), if_pos (by omega)]
        have : j - (e - (a + 1)) = a := by omega
        rw [this]
        exact lo _ (by omega) (by omega)
      rw [if_neg (show ¬ (a <= j /\ j < a + (e - (a + 1))) by omega), if_neg (show ¬ (a + (e - (a + 1)) <= j /\ j < e) by omega)]
      rcases Nat.lt_trichotomy i (e - 1) with hi2 | hi2 | hi2
      . rw [if_pos (q1 i hi1 hi2)]
        exact hR _ _ (by omega) (by omega) hjb
      . rw [if_neg (by omega), if_pos (by omega)]
        have : i - (e - (a + 1)) = a := by omega
        rw [this]
        exact hi _ (by omega) hjb
      rw [if_neg (by omega), if_neg (by omega)]
      exact hR _ _ (by omega) hij hjb
    split
    . rename_i hn hbm
      have hb : b = m + 1 := by omega
      obtain ⟨b1, b2, b3, b4⟩ := bs_ok (fun h => l (σ m) (σ h)) (f := m) (s := a) (r := m) (by omega) (by omega)
      generalize gT (fun h => l (σ m) (σ h)) m a m = e at b1 b2 b3 b4
      refine ⟨(dE.rot σ b2 (by omega)).wide b1 (Nat.le_refl _), ?_⟩
      have lo : ∀ j, a <= j -> j < e -> bU l (σ j) (σ m) := fun j hj1 hj2 => by
        have h9 : l (σ m) (σ (e - 1)) = false := by
          rcases b3 with b3 | b3
          . omega
          exact b3
        exact bU.l1 ho (hL.le hj1 (show j <= e - 1 by omega) (by omega)) (.inr ⟨h9, hX (e - 1) m (by omega) (by omega) (Nat.le_refl _) h2⟩)
      have hi : ∀ j, e <= j -> j < m -> bU l (σ m) (σ j) := fun j hj1 hj2 => by
        have h9 : l (σ m) (σ e) = true := by
          rcases b4 with b4 | b4
          . omega
          exact b4
        exact bU.l2 ho (.inl h9) (hL.le b1 hj1 hj2)
      intro i j hi1 hij hjb; unfold rot; subst hb
      rcases Nat.lt_trichotomy i e with hi2 | hi2 | hi2
      . rw [if_neg (show ¬ (e <= i /\ i < e + (m + 1 - m)) by omega), if_neg (show ¬ (e + (m + 1 - m) <= i /\ i < m + 1) by omega)]
        rcases Nat.lt_trichotomy j e with hj2 | hj2 | hj2
        . rw [if_neg (by omega), if_neg (by omega)]; exact hL _ _ hi1 hij (by omega)
        . rw [if_pos (by omega)]
          have : j + (m - e) = m := by omega
          rw [this]; exact lo _ hi1 hi2
        rw [if_neg (by omega), if_pos (by omega)]; exact hL _ _ hi1 (by omega) (by omega)
      . rw [if_pos (show e <= i /\ i < e + (m + 1 - m) by omega), if_neg (by omega), if_pos (by omega)]
        have : i + (m - e) = m := by omega
        rw [this]; exact hi _ (by omega) (by omega)
      rw [if_neg (show ¬ (e <= i /\ i < e + (m + 1 - m)) by omega), if_pos (show e + (m + 1 - m) <= i /\ i < m + 1 by omega), if_neg (by omega), if_pos (by omega)]
      exact hL _ _ (by omega) (by omega) (by omega)
    rename_i hn1 hn2
    obtain ⟨c1, c2, c3, c4, c5, c6, c7⟩ := symCut_ok (l := l) (σ := σ) h1 h2
    generalize iK l σ a m b = st at c1 c2 c3 c4 c5 c6 c7
    simp only
    generalize hen : (a + b) / 2 + m - st = en at c4 c5 c6 c7
    generalize hmid : (a + b) / 2 = mid at c3 hen
    have hstep : st + (en - m) = mid := by omega
    have e1 : ∀ k, (if st < m /\ m < en then rot σ st m en else σ) k = if st <= k /\ k < mid then σ (k + (m - st)) else if mid <= k /\ k < en then σ (k - (en - m)) else σ k := fun k => by
      split
      . unfold rot; rw [hstep]
      rename_i hc
      by_cases hs : st = m
      . subst hs; split
        . rw [Nat.sub_self, Nat.add_zero]
        split
        . omega
        rfl
      have : en = m := by omega
      subst this; split
      . omega
      split
      . rw [Nat.sub_self, Nat.sub_zero]
      rfl
    have r1 : dE a b σ (if st < m /\ m < en then rot σ st m en else σ) := by
      split
      . exact (dE.rot σ c2 c4).wide c1 c5
      exact .refl a b σ
    generalize (if st < m /\ m < en then rot σ st m en else σ) = σ1 at e1 r1
    have x1 : ∀ i j, a <= i -> i < mid -> mid <= j -> j < b -> bU l (σ1 i) (σ1 j) := by
      intro i j hi1 hi2 hj1 hj2; rw [e1 i, e1 j, if_neg (show ¬ (st <= j /\ j < mid) by omega)]
      by_cases hi3 : st <= i
      . rw [if_pos ⟨hi3, hi2⟩]
        by_cases hj3 : j < en
        . rw [if_pos ⟨hj1, hj3⟩]
          have h9 := c7 (by omega) (by omega)
          exact bU.l1 ho (hR.le (by omega) (show i + (m - st) <= en - 1 by omega) (by omega)) (bU.l2 ho (.inl h9) (hL.le c1 (show st <= j - (en - m) by omega) (by omega)))
        rw [if_neg (by omega)]
        exact hR _ _ (by omega) (by omega) hj2
      rw [if_neg (by omega), if_neg (show ¬ (mid <= i /\ i < en) by omega)]
      by_cases hj3 : j < en
      . rw [if_pos ⟨hj1, hj3⟩]
        exact hL _ _ hi1 (by omega) (by omega)
      rw [if_neg (by omega)]
      have h9 := c6 (by omega) (by omega)
      exact bU.l1 ho (hL.le hi1 (show i <= st - 1 by omega) (by omega)) (bU.l2 ho (.inr ⟨h9, hX _ _ (by omega) (by omega) c4 (by omega)⟩) (hR.le c4 (show en <= j by omega) hj2))
    have s1 : Sor l σ1 a st := fun i j hi hij hj => by
      rw [e1 i, e1 j, if_neg (by omega), if_neg (by omega), if_neg (by omega), if_neg (by omega)]
      exact hL i j hi hij (by omega)
    have s2 : Sor l σ1 st mid := fun i j hi hij hj => by
      rw [e1 i, e1 j, if_pos ⟨hi, by omega⟩, if_pos ⟨by omega, hj⟩]
      exact hR _ _ (by omega) (by omega) (by omega)
    have s3 : Sor l σ1 mid en := fun i j hi hij hj => by
      rw [e1 i, e1 j, if_neg (by omega), if_pos ⟨hi, by omega⟩, if_neg (by omega), if_pos ⟨by omega, hj⟩]
      exact hL _ _ (by omega) (by omega) (by omega)
    have s4 : Sor l σ1 en b := fun i j hi hij hj => by
      rw [e1 i, e1 j, if_neg (by omega), if_neg (by omega), if_neg (by omega), if_neg (by omega)]
      exact hR i j (by omega) hij hj
    have x2 : ∀ i j, a <= i -> i < st -> st <= j -> j < mid -> σ1 i < σ1 j := fun i j hi hi2 hj hj2 => by
      rw [e1 i, e1 j, if_neg (by omega), if_neg (by omega), if_pos ⟨hj, hj2⟩]
      exact hX _ _ hi (by omega) (by omega) (by omega)
    have x3 : ∀ i j, mid <= i -> i < en -> en <= j -> j < b -> σ1 i < σ1 j := fun i j hi hi2 hj hj2 => by
      rw [e1 i, e1 j, if_neg (by omega), if_pos ⟨hi, hi2⟩, if_neg (by omega), if_neg (by omega)]
      exact hX _ _ (by omega) (by omega) (by omega) hj2
    have L : dE a mid σ1 (if a < st /\ st < mid then lN l f σ1 a st mid else σ1) /\ Sor l (if a < st /\ st < mid then lN l f σ1 a st mid else σ1) a mid := by
      split
      . rename_i hc
        exact aVy ho f σ1 a st mid (by omega) hc.1 hc.2 s1 s2 x2
      refine ⟨.refl _ _ _, ?_⟩
      by_cases hc : a = st
      . rw [hc]; exact s2
      have : st = mid := by omega
      rw [<- this]; exact s1
    generalize (if a < st /\ st < mid then lN l f σ1 a st mid else σ1) = σ2 at L
    have out2 : ∀ k, mid <= k -> σ2 k = σ1 k := fun k hk => L.1.out (.inr hk)
    have R : dE mid b σ2 (if mid < en /\ en < b then lN l f σ2 mid en b else σ2) /\ Sor l (if mid < en /\ en < b then lN l f σ2 mid en b else σ2) mid b := by
      have t3 : Sor l σ2 mid en := fun i j hi hij hj => by rw [out2 i hi, out2 j (by omega)]; exact s3 i j hi hij hj
      have t4 : Sor l σ2 en b := fun i j hi hij hj => by rw [out2 i (by omega), out2 j (by omega)]; exact s4 i j hi hij hj
      split
      . rename_i hc
        exact aVy ho f σ2 mid en b (by omega) hc.1 hc.2 t3 t4 fun i j hi hi2 hj hj2 => by rw [out2 i hi, out2 j (by omega)]; exact x3 i j hi hi2 hj hj2
      refine ⟨.refl _ _ _, ?_⟩
      by_cases hc : mid = en
      . rw [hc]; exact t4
      have : en = b := by omega
      rw [<- this]; exact t3
    generalize (if mid < en /\ en < b then lN l f σ2 mid en b else σ2) = σ3 at R
    refine ⟨(r1.trans (L.1.wide (Nat.le_refl _) (by omega))).trans (R.1.wide (by omega) (Nat.le_refl _)), fun i j hi hij hj => ?_⟩
    by_cases hj2 : j < mid
    . rw [R.1.out (.inl hj2), R.1.out (.inl (by omega))]
      exact L.2 i j hi hij hj2
    by_cases hi2 : mid <= i
    . exact R.2 i j hi2 hij hj
    rw [R.1.out (k := i) (.inl (by omega))]
    refine R.1.all (φ := fun x => bU l (σ2 i) x) (fun k hk1 hk2 => ?_) j (by omega) hj
    rw [out2 k hk1]
    exact L.1.all (φ := fun x => bU l x (σ1 k)) (fun k' hk1' hk2' => x1 k' k hk1' hk2' hk1 hk2) i hi (by omega)
end
end
section
variable {σ : Nat -> Nat} {a b : Nat}
section
variable (l : Nat -> Nat -> Bool)
def mK (n bs : Nat) : Nat -> (Nat -> Nat) -> Nat -> (Nat -> Nat) × Nat
  | 0, σ, a => (σ, a)
  | f + 1, σ, a => if a + bs <= n then mK n bs f (gK l σ a (a + bs)) (a + bs) else (σ, a)
def mW (n bs : Nat) : Nat -> (Nat -> Nat) -> Nat -> (Nat -> Nat) × Nat
  | 0, σ, a => (σ, a)
  | f + 1, σ, a => if a + 2 * bs <= n then mW n bs f (lN l n σ a (a + bs) (a + 2 * bs)) (a + 2 * bs) else (σ, a)
def pC (n bs : Nat) (p : (Nat -> Nat) × Nat) : Nat -> Nat := if p.2 + bs < n then lN l n p.1 p.2 (p.2 + bs) n else p.1
def nN (n : Nat) : Nat -> Nat -> (Nat -> Nat) -> (Nat -> Nat)
  | 0, _, σ => σ
  | f + 1, bs, σ => if bs < n then nN n f (2 * bs) (pC l n bs (mW l n bs n σ 0)) else σ
def aJr (n : Nat) : Nat -> Nat := nN l n n 20 (gK l (mK l n 20 n id 0).1 (mK l n 20 n id 0).2 n)
def Bl (σ : Nat -> Nat) (c d : Nat) : Prop := Sor l σ c d /\ ∀ k, c <= k -> k < d -> c <= σ k /\ σ k < d
variable {l}
def Bl.out {σ τ : Nat -> Nat} {c d a b : Nat} (h : Bl l σ c d) (hr : dE a b σ τ) (hd : d <= a ∨ b <= c) : Bl l τ c d :=
  ⟨fun i j hi hij hj => by rw [hr.out (by omega), hr.out (by omega)]; exact h.1 i j hi hij hj, fun k h1 h2 => by rw [hr.out (by omega)]; exact h.2 k h1 h2⟩
def Bl.merge (ho : Orders l) {a m b f : Nat} (hf : b - a <= f) (h1 : a < m) (h2 : m < b) (hl : Bl l σ a m) (hr : Bl l σ m b) : dE a b σ (lN l f σ a m b) /\ Bl l (lN l f σ a m b) a b := by
  obtain ⟨k1, k2⟩ := aVy ho f σ a m b hf h1 h2 hl.1 hr.1 fun i j h3 h4 h5 h6 => by
    have := (hl.2 i h3 h4).2
    have := (hr.2 j h5 h6).1
    omega
  refine ⟨k1, k2, fun k hk1 hk2 => k1.all (φ := fun x => a <= x /\ x < b) (fun k h3 h4 => ?_) k hk1 hk2⟩
  by_cases hm : k < m
  . have := hl.2 k h3 hm; omega
  have := hr.2 k (by omega) h4; omega
def Bl.insert (ho : Orders l) (hab : a <= b) (h : ∀ k, a <= k -> k < b -> σ k = k) : dE a b σ (gK l σ a b) /\ Bl l (gK l σ a b) a b := by
  by_cases e : a = b
  . subst e
    have : gK l σ a a = σ := by unfold gK; rw [show a - (a + 1) = 0 by omega]; rfl
    rw [this]
    exact ⟨.refl _ _ _, fun i j h1 h2 h3 => by omega, fun k h1 h2 => by omega⟩
  obtain ⟨k1, k2⟩ := bAr ho (σ := σ) (a := a) (b := b) (by omega) (fun u v h1 h2 h3 => by rw [h u h1 (by omega), h v (by omega) h3]; exact h2)
  exact ⟨k1, k2, k1.all (φ := fun x => a <= x /\ x < b) fun k h1 h2 => by rw [h k h1 h2]; exact ⟨h1, h2⟩⟩
def aWj (ho : Orders l) (n bs : Nat) (hbs : 0 < bs) : ∀ (f : Nat) (σ : Nat -> Nat) (q : Nat), n <= f + q * bs -> q * bs <= n -> dE 0 n id σ -> (∀ k, q * bs <= k -> σ k = k) -> (∀ r, r < q -> Bl l σ (r * bs) (r * bs + bs)) ->
    ∃ q', (mK l n bs f σ (q * bs)).2 = q' * bs /\ q' * bs <= n /\ n < q' * bs + bs /\ dE 0 n id (mK l n bs f σ (q * bs)).1 /\ (∀ k, q' * bs <= k -> (mK l n bs f σ (q * bs)).1 k = k) /\ ∀ r, r < q' -> Bl l (mK l n bs f σ (q * bs)).1 (r * bs) (r * bs + bs)
  | 0, σ, q, hf, hq, h1, h2, h3 => ⟨q, rfl, hq, by omega, h1, h2, h3⟩
  | f + 1, σ, q, hf, hq, h1, h2, h3 => by
    unfold mK; split
    . rename_i hc
      obtain ⟨k1, k2⟩ := Bl.insert ho (σ := σ) (a := q * bs) (b := q * bs + bs) (by omega) (fun k hk1 _ => h2 k hk1)
      have e : q * bs + bs = (q + 1) * bs := by rw [Nat.succ_mul]
      rw [e] at k1 k2 hc ⊢
      refine aWj ho n bs hbs f _ (q + 1) (by rw [<- e]; omega) hc (h1.trans (k1.wide (Nat.zero_le _) hc)) (fun k hk => by rw [k1.out (.inr hk)]; exact h2 k (by omega)) fun r hr => ?_
      by_cases hrq : r = q
      . subst hrq; rw [e]; exact k2
      have : (r + 1) * bs <= q * bs := Nat.mul_le_mul_right bs (by omega)
      rw [Nat.succ_mul] at this
      exact (h3 r (by omega)).out k1 (.inl (by omega))
    rename_i hc
    exact ⟨q, rfl, hq, by omega, h1, h2, h3⟩
def Bls (l : Nat -> Nat -> Bool) (n bs : Nat) (σ : Nat -> Nat) : Prop := dE 0 n id σ /\ ∀ r, r * bs < n -> Bl l σ (r * bs) (min (r * bs + bs) n)
def bMd (ho : Orders l) (n bs : Nat) (hbs : 0 < bs) : Bls l n bs (gK l (mK l n bs n id 0).1 (mK l n bs n id 0).2 n) := by
  obtain ⟨q, e1, e2, e3, e4, e5, e6⟩ := aWj ho n bs hbs n id 0 (by omega) (by omega) (.refl _ _ _) (fun _ _ => rfl) (fun r hr => by omega)
  rw [Nat.zero_mul] at e1 e4 e5 e6
  rw [e1]
  obtain ⟨k1, k2⟩ := Bl.insert ho (σ := (mK l n bs n id 0).1) e2 (fun k hk _ => e5 k hk)
  refine ⟨e4.trans (k1.wide (Nat.zero_le _) (Nat.le_refl _)), fun r hr => ?_⟩
  by_cases hrq : r < q
  . have : (r + 1) * bs <= q * bs := Nat.mul_le_mul_right bs hrq
    rw [Nat.succ_mul] at this; rw [Nat.min_eq_left (by omega)]
    exact (e6 r hrq).out k1 (.inl (by omega))
  have hq : r = q := by
    rcases Nat.lt_or_ge q r with h | h
    . have : (q + 1) * bs <= r * bs := Nat.mul_le_mul_right bs h
      rw [Nat.succ_mul] at this; omega
    omega
  subst hq; rw [Nat.min_eq_right (by omega)]; exact k2
def aYr (ho : Orders l) (n bs : Nat) (hbs : 0 < bs) : ∀ (f : Nat) (σ : Nat -> Nat) (q : Nat), n <= f + q * (2 * bs) -> q * (2 * bs) <= n -> dE 0 n id σ -> (∀ r, r < q -> Bl l σ (r * (2 * bs)) (r * (2 * bs) + 2 * bs)) ->
    (∀ r, 2 * q <= r -> r * bs < n -> Bl l σ (r * bs) (min (r * bs + bs) n)) -> Bls l n (2 * bs) (pC l n bs (mW l n bs f σ (q * (2 * bs))))
  | 0, σ, q, hf, hq, h1, h2, h3 => by
    refine ⟨?_, ?_⟩
    . unfold pC mW
      simp only
      rw [if_neg (by omega)]; exact h1
    intro r hr; unfold pC mW
    simp only
    rw [if_neg (by omega)]
    have hrq : r < q := by
      rcases Nat.lt_or_ge r q with h | h
      . exact h
      have := Nat.mul_le_mul_right (2 * bs) h; omega
    have : (r + 1) * (2 * bs) <= q * (2 * bs) := Nat.mul_le_mul_right _ hrq
    rw [Nat.succ_mul] at this; rw [Nat.min_eq_left (by omega)]
    exact h2 r hrq
  | f + 1, σ, q, hf, hq, h1, h2, h3 => by
    have e1 : (2 * q) * bs = q * (2 * bs) := by rw [Nat.mul_comm 2 q, Nat.mul_assoc]
    have e2 : (2 * q + 1) * bs = q * (2 * bs) + bs := by rw [Nat.succ_mul, e1]
    have e3 : q * (2 * bs) + 2 * bs = (q + 1) * (2 * bs) := (Nat.succ_mul q (2 * bs)).symm
    unfold mW; split
    . rename_i hc
      have b1 := h3 (2 * q) (Nat.le_refl _) (by omega)
      have b2 := h3 (2 * q + 1) (by omega) (by omega)
      rw [e1, Nat.min_eq_left (by omega)] at b1; rw [e2, Nat.min_eq_left (by omega), show q * (2 * bs) + bs + bs = q * (2 * bs) + 2 * bs by omega] at b2
      obtain ⟨k1, k2⟩ := Bl.merge ho (f := n) (by omega) (by omega) (by omega) b1 b2
      rw [e3] at k1 k2 hc ⊢
      refine aYr ho n bs hbs f _ (q + 1) (by rw [<- e3]; omega) hc (h1.trans (k1.wide (Nat.zero_le _) hc)) (fun r hr => ?_) fun r hr hrn => ?_
      . by_cases hrq : r = q
        . subst hrq; rw [e3]; exact k2
        have : (r + 1) * (2 * bs) <= q * (2 * bs) := Nat.mul_le_mul_right _ (by omega)
        rw [Nat.succ_mul] at this
        exact (h2 r (by omega)).out k1 (.inl (by omega))
      have : (2 * (q + 1)) * bs <= r * bs := Nat.mul_le_mul_right bs hr
      rw [show (2 * (q + 1)) * bs = (q + 1) * (2 * bs) by rw [Nat.mul_comm 2, Nat.mul_assoc]] at this
      exact (h3 r (by omega) hrn).out k1 (.inr this)
    rename_i hc
    have last : ∀ r, r * (2 * bs) < n -> r < q ∨ r = q := fun r hr => by
      rcases Nat.lt_or_ge q r with h | h
      . have : (q + 1) * (2 * bs) <= r * (2 * bs) := Nat.mul_le_mul_right _ h
        rw [Nat.succ_mul] at this; omega
      omega
    have low : ∀ r, r < q -> r * (2 * bs) + 2 * bs <= q * (2 * bs) := fun r hr => by
      have : (r + 1) * (2 * bs) <= q * (2 * bs) := Nat.mul_le_mul_right _ hr
      rw [Nat.succ_mul] at this; exact this
    unfold pC
    simp only
    split
    . rename_i hd
      have b1 := h3 (2 * q) (Nat.le_refl _) (by omega)
      have b2 := h3 (2 * q + 1) (by omega) (by omega)
      rw [e1, Nat.min_eq_left (by omega)] at b1; rw [e2, Nat.min_eq_right (by omega)] at b2
      obtain ⟨k1, k2⟩ := Bl.merge ho (f := n) (by omega) (by omega) (by omega) b1 b2
      refine ⟨h1.trans (k1.wide (Nat.zero_le _) (Nat.le_refl _)), fun r hr => ?_⟩
      rcases last r hr with hrq | hrq
      . have := low r hrq
        rw [Nat.min_eq_left (by omega)]
        exact (h2 r hrq).out k1 (.inl this)
      subst hrq; rw [Nat.min_eq_right (by omega)]; exact k2
    rename_i hd
    refine ⟨h1, fun r hr => ?_⟩
    rcases last r hr with hrq | hrq
    . have := low r hrq
      rw [Nat.min_eq_left (by omega)]
      exact h2 r hrq
    subst hrq
    have b1 := h3 (2 * r) (Nat.le_refl _) (by omega)
    rw [e1, Nat.min_eq_right (by omega)] at b1; rw [Nat.min_eq_right (by omega)]; exact b1
def aSi (ho : Orders l) (n : Nat) : ∀ (f bs : Nat) (σ : Nat -> Nat), 0 < bs -> n <= f + bs -> Bls l n bs σ -> dE 0 n id (nN l n f bs σ) /\ Sor l (nN l n f bs σ) 0 n
  | 0, bs, σ, hbs, hf, h => by
    unfold nN
    refine ⟨h.1, fun i j hi hij hj => ?_⟩
    have := (h.2 0 (by omega)).1
    rw [Nat.zero_mul, Nat.min_eq_right (by omega)] at this
    exact this i j hi hij hj
  | f + 1, bs, σ, hbs, hf, h => by
    unfold nN; split
    . have := aYr ho n bs hbs n σ 0 (by omega) (by omega) h.1 (fun r hr => by omega) (fun r _ hr => h.2 r hr)
      rw [Nat.zero_mul] at this
      exact aSi ho n f (2 * bs) _ (by omega) (by omega) this
    refine ⟨h.1, fun i j hi hij hj => ?_⟩
    have := (h.2 0 (by omega)).1
    rw [Nat.zero_mul, Nat.min_eq_right (by omega)] at this
    exact this i j hi hij hj
def bCw (ho : Orders l) (n : Nat) : dE 0 n id (aJr l n) /\ Sor l (aJr l n) 0 n :=
  aSi ho n n 20 _ (by omega) (by omega) (bMd ho n 20 (by omega))
end
section
variable {α : Type} (lt : α -> α -> Bool)
def pos (ls : List α) (e : α) : Nat -> Nat
  | 0 => 0
  | k + 1 => match ls[k]? with
    | some x => if lt e x = true then pos ls e k else k + 1
    | none => k + 1
def put (ls : List α) (e : α) : List α := ls.take (pos lt ls e ls.length) ++ e :: ls.drop (pos lt ls e ls.length)
variable {lt}
def bJu (ls : List α) (e : α) : ∀ k, pos lt ls e k <= k
  | 0 => Nat.le_refl _
  | k + 1 => by
    unfold pos; split
    . split
      . have := bJu ls e k; omega
      omega
    omega
def bJb (ls : List α) (e : α) : ∀ k j x, pos lt ls e k <= j -> j < k -> ls[j]? = some x -> lt e x = true
  | 0, j, x, h1, h2, h3 => by omega
  | k + 1, j, x, h1, h2, h3 => by
    unfold pos at h1; split at h1
    . rename_i y hy
      split at h1
      . rename_i hl
        by_cases e' : j = k
        . subst e'; rw [hy] at h3; cases h3; exact hl
        exact bJb ls e k j x h1 (by omega) h3
      omega
    omega
def bMy (ls : List α) (e : α) : ∀ k x, k <= ls.length -> 0 < pos lt ls e k -> ls[pos lt ls e k - 1]? = some x -> lt e x = false
  | 0, x, hk, h1, h2 => by unfold pos at h1; omega
  | k + 1, x, hk, h1, h2 => by
    have hk' : ls[k]? = some ls[k] := List.getElem?_eq_getElem (by omega)
    unfold pos at h1 h2
    simp only [hk'] at h1 h2
    by_cases hl : lt e ls[k] = true
    . rw [if_pos hl] at h1 h2
      exact bMy ls e k x (by omega) h1 h2
    rw [if_neg hl, Nat.add_sub_cancel, hk'] at h2; cases h2
    simpa using hl
def bEa {β : Type} (f : β -> α) (ls : List β) (e : β) : ∀ k, pos lt (ls.map f) (f e) k = pos (fun x y => lt (f x) (f y)) ls e k
  | 0 => rfl
  | k + 1 => by
    unfold pos; rw [List.getElem?_map]
    cases ls[k]? with
    | none => rfl
    | some x => simp only [Option.map_some]; rw [bEa f ls e k]
def bNh {β : Type} (f : β -> α) (ls : List β) (e : β) : put lt (ls.map f) (f e) = (put (fun x y => lt (f x) (f y)) ls e).map f := by
  unfold put; rw [List.length_map, bEa]
  simp [List.map_take, List.map_drop]
def aWf {β : Type} (f : β -> α) : ∀ (r ls : List β), (r.map f).foldl (put lt) (ls.map f) = (r.foldl (put (fun x y => lt (f x) (f y))) ls).map f
  | [], ls => rfl
  | e :: r, ls => by
    rw [List.map_cons, List.foldl_cons, List.foldl_cons, bNh]
    exact aWf f r _
end
variable {l : Nat -> Nat -> Bool}
def bQa (ho : Orders l) {ls : List Nat} {e : Nat} (h : ls.Pairwise (bU l)) (hx : ∀ x ∈ ls, x < e) : (put l ls e).Pairwise (bU l) /\ (put l ls e).Perm (e :: ls) := by
  have hp := bJu (lt := l) ls e ls.length
  have hhi := bJb (lt := l) ls e ls.length
  have hlo := fun x => bMy (lt := l) ls e ls.length x (Nat.le_refl _)
  unfold put
  generalize pos l ls e ls.length = p at hp hhi hlo
  have hsplit : ls = ls.take p ++ ls.drop p := (List.take_append_drop p ls).symm
  have hd : ∀ x ∈ ls.drop p, bU l e x := fun x hxd => by
    obtain ⟨i, hi⟩ := List.getElem?_of_mem hxd
    rw [List.getElem?_drop] at hi
    exact .inl (hhi (p + i) x (by omega) (List.getElem?_eq_some_iff.1 hi).1 hi)
  have ht : ∀ x ∈ ls.take p, bU l x e := fun x hxt => by
    obtain ⟨i, hi⟩ := List.getElem?_of_mem hxt
    rw [List.getElem?_take] at hi; split at hi
    . rename_i hip
      have h1 : ls[p - 1]? = some ls[p - 1] := List.getElem?_eq_getElem (by omega)
      have h2 : bU l ls[p - 1] e := .inr ⟨hlo _ (by omega) h1, hx _ (List.getElem_mem _)⟩
      by_cases e' : i = p - 1
      . subst e'; rw [h1] at hi; cases hi; exact h2
      have h3 := List.pairwise_iff_getElem.1 h i (p - 1) (by omega) (by omega) (by omega)
      have : ls[i] = x := by rw [List.getElem?_eq_getElem (by omega)] at hi; exact Option.some.inj hi
      rw [<- this]
      exact h3.trans ho h2
    cases hi
  refine ⟨?_, ?_⟩
  . rw [hsplit, List.pairwise_append] at h; rw [List.pairwise_append]
    refine ⟨h.1, List.pairwise_cons.2 ⟨hd, h.2.1⟩, fun x hx1 y hy => ?_⟩
    rcases List.mem_cons.1 hy with hy | hy
    . rw [hy]; exact ht x hx1
    exact h.2.2 x hx1 y hy
  refine List.perm_middle.trans ?_
  rw [List.take_append_drop]
def bEy (ho : Orders l) : ∀ n, ((List.range n).foldl (put l) []).Pairwise (bU l) /\ ((List.range n).foldl (put l) []).Perm (List.range n)
  | 0 => ⟨List.Pairwise.nil, .refl _⟩
  | n + 1 => by
    obtain ⟨h1, h2⟩ := bEy ho n
    rw [List.range_succ, List.foldl_append]
    obtain ⟨k1, k2⟩ := bQa ho (e := n) h1 (fun x hx => List.mem_range.1 (h2.mem_iff.1 hx))
    refine ⟨k1, k2.trans ?_⟩
    exact (List.Perm.cons n h2).trans (List.perm_append_singleton n _).symm
def bGq (ho : Orders l) (n : Nat) : (List.range n).map (aJr l n) = (List.range n).foldl (put l) [] := by
  obtain ⟨h1, h2⟩ := bCw ho n
  obtain ⟨h3, h4⟩ := bEy ho n
  have hpw : ((List.range n).map (aJr l n)).Pairwise (bU l) := by
    rw [List.pairwise_map]
    exact List.pairwise_iff_getElem.2 fun i j hi hj hij => by simp at hi hj ⊢; exact h2 i j (Nat.zero_le _) hij hj
  have hnd : ∀ {ls : List Nat}, ls.Pairwise (bU l) -> ls.Nodup := fun {ls} h => h.imp fun {a b} hab e => by subst e; exact bU.irrefl ho hab
  refine List.Perm.eq_of_pairwise (le := bU l) (fun a b _ _ h5 h6 => absurd (h5.trans ho h6) (bU.irrefl ho)) hpw h3 ?_
  refine (List.perm_ext_iff_of_nodup (hnd hpw) (hnd h3)).2 fun x => ?_
  rw [h4.mem_iff, List.mem_map, List.mem_range]
  obtain ⟨p, q, e1, e2, e3, e4, e5⟩ := h1
  constructor
  . rintro ⟨k, hk, rfl⟩
    rw [e1]
    exact (e4 k (Nat.zero_le _) (List.mem_range.1 hk)).2
  intro hx
  refine ⟨q x, List.mem_range.2 ?_, by rw [e1, e2]; rfl⟩
  rcases Nat.lt_or_ge (q x) n with h | h
  . exact h
  have := e5 (q x) (.inr h)
  rw [e2] at this; omega
def stab_list {α : Type} {lt : α -> α -> Bool} (d : Nat -> α) (ls : List α) (hd : ∀ i, i < ls.length -> ls[i]? = some (d i)) (ho : Orders fun i j => lt (d i) (d j)) :
    (List.range ls.length).map (fun i => d (aJr (fun i j => lt (d i) (d j)) ls.length i)) = ls.foldl (put lt) [] := by
  have e1 : ls = (List.range ls.length).map d := by
    refine List.ext_getElem? fun i => ?_
    rw [List.getElem?_map]
    by_cases h : i < ls.length
    . rw [hd i h, List.getElem?_range h]; rfl
    rw [List.getElem?_eq_none (by omega), List.getElem?_eq_none (by simp; omega)]; rfl
  have e2 := aWf (lt := lt) d (List.range ls.length) []
  rw [<- e1, List.map_nil] at e2; rw [e2, <- bGq ho, List.map_map]; rfl
end
section
variable {n i : Nat}
structure WO {α : Type} (lt : α -> α -> Bool) (D : α -> Prop) : Prop where
  irrefl : ∀ x, D x -> lt x x = false
  trans : ∀ x y z, D x -> D y -> D z -> lt x y = true -> lt y z = true -> lt x z = true
  neg : ∀ x y z, D x -> D y -> D z -> lt x y = false -> lt y z = false -> lt x z = false
def WO.asymm {α : Type} {lt : α -> α -> Bool} {D : α -> Prop} (h : WO lt D) {x y : α} (hx : D x) (hy : D y) (h1 : lt x y = true) : lt y x = false := by
  cases h2 : lt y x with
  | false => rfl
  | true => have := h.trans x y x hx hy hx h1 h2; rw [h.irrefl x hx] at this; cases this
def WO.orders {α : Type} {lt : α -> α -> Bool} (h : WO lt fun _ => True) (d : Nat -> α) : Orders fun i j => lt (d i) (d j) :=
  ⟨fun x => h.irrefl _ trivial, fun x y z => h.trans _ _ _ trivial trivial trivial, fun x y z => h.neg _ _ _ trivial trivial trivial⟩
def aLi {p : Nat -> Nat} (h : dE 0 n id p) : ((List.range n).map p).Perm (List.range n) := by
  obtain ⟨u, q, e1, e2, e3, e4, e5⟩ := h
  have hp : ∀ k, p k = u k := fun k => e1 k
  have hnd : ((List.range n).map p).Nodup := by
    rw [List.nodup_iff_pairwise_ne, List.pairwise_map]
    refine List.pairwise_iff_getElem.2 fun i j hi hj hij e => ?_
    simp only [List.getElem_range, hp] at e
    have := congrArg q e
    rw [e3, e3] at this; omega
  refine (List.perm_ext_iff_of_nodup hnd List.nodup_range).2 fun x => ?_
  rw [List.mem_map, List.mem_range]
  constructor
  . rintro ⟨k, hk, rfl⟩
    rw [hp]
    exact (e4 k (Nat.zero_le _) (List.mem_range.1 hk)).2
  intro hx
  refine ⟨q x, List.mem_range.2 ?_, by rw [hp, e2]⟩
  rcases Nat.lt_or_ge (q x) n with h | h
  . exact h
  have := e5 (q x) (.inr h)
  rw [e2] at this; omega
section
variable {α : Type}
def swpA (h : Nat -> α) (i j : Nat) : Nat -> α := fun k => if k = i then h j else if k = j then h i else h k
def SameA (n : Nat) (h h' : Nat -> α) : Prop := ((List.range n).map h').Perm ((List.range n).map h) /\ ∀ k, n <= k -> h' k = h k
def SameA.refl (n : Nat) (h : Nat -> α) : SameA n h h := ⟨.refl _, fun _ _ => rfl⟩
def SameA.trans {h h' h'' : Nat -> α} (a : SameA n h h') (b : SameA n h' h'') : SameA n h h'' := ⟨b.1.trans a.1, fun k hk => (b.2 k hk).trans (a.2 k hk)⟩
def SameA.all {h h' : Nat -> α} (a : SameA n h h') {φ : α -> Prop} (hφ : ∀ k, k < n -> φ (h k)) : ∀ k, k < n -> φ (h' k) := fun k hk => by
  have h1 : h' k ∈ (List.range n).map h' := List.mem_map.2 ⟨k, List.mem_range.2 hk, rfl⟩
  obtain ⟨j, hj, e⟩ := List.mem_map.1 (a.1.mem_iff.1 h1)
  rw [<- e]
  exact hφ j (List.mem_range.1 hj)
def SameA.swp {n i j : Nat} (h : Nat -> α) (hi : i < n) (hj : j < n) : SameA n h (swpA h i j) := by
  refine ⟨?_, fun k hk => by unfold swpA; rw [if_neg (by omega), if_neg (by omega)]⟩
  have h1 := (aLi (dE.swp (a := 0) (b := n) id ⟨Nat.zero_le _, hi⟩ ⟨Nat.zero_le _, hj⟩)).map h
  rw [List.map_map] at h1
  have e : (h ∘ Plain.swp id i j) = swpA h i j := by
    funext k
    simp only [Function.comp, Plain.swp, swpA, id]; split
    . rfl
    split <;> rfl
  rw [e] at h1; exact h1
variable (less : α -> α -> Bool)
def kid (h : Nat -> α) (n i : Nat) : Nat := if 2 * i + 2 < n /\ less (h (2 * i + 2)) (h (2 * i + 1)) = true then 2 * i + 2 else 2 * i + 1
def downGo (n : Nat) : Nat -> (Nat -> α) -> Nat -> (Nat -> α) × Nat
  | 0, h, i => (h, i)
  | f + 1, h, i => if 2 * i + 1 < n then (if less (h (kid less h n i)) (h i) = true then downGo n f (swpA h i (kid less h n i)) (kid less h n i) else (h, i)) else (h, i)
def HPx (n lo : Nat) (h : Nat -> α) (i : Nat) : Prop := ∀ p c, lo <= p -> p ≠ i -> (c = 2 * p + 1 ∨ c = 2 * p + 2) -> c < n -> less (h c) (h p) = false
def HP (n lo : Nat) (h : Nat -> α) : Prop := ∀ p c, lo <= p -> (c = 2 * p + 1 ∨ c = 2 * p + 2) -> c < n -> less (h c) (h p) = false
variable {less}
def bQc {D : α -> Prop} (ho : WO less D) {h : Nat -> α} (hD : ∀ k, k < n -> D (h k)) (hn : 2 * i + 1 < n) :
    kid less h n i < n /\ (kid less h n i = 2 * i + 1 ∨ kid less h n i = 2 * i + 2) /\ ∀ c, (c = 2 * i + 1 ∨ c = 2 * i + 2) -> c < n -> less (h c) (h (kid less h n i)) = false := by
  unfold kid; split
  . rename_i hc
    refine ⟨hc.1, .inr rfl, fun c h1 h2 => ?_⟩
    rcases h1 with h1 | h1
    . subst h1; exact ho.asymm (hD _ hc.1) (hD _ hn) hc.2
    subst h1; exact ho.irrefl _ (hD _ hc.1)
  rename_i hc
  refine ⟨hn, .inl rfl, fun c h1 h2 => ?_⟩
  rcases h1 with h1 | h1
  . subst h1; exact ho.irrefl _ (hD _ hn)
  subst h1
  cases hx : less (h (2 * i + 2)) (h (2 * i + 1)) with
  | false => rfl
  | true => exact absurd ⟨h2, hx⟩ hc
def aAm {D : α -> Prop} (ho : WO less D) (n lo : Nat) : ∀ (f : Nat) (h : Nat -> α) (i : Nat), n <= f + i -> lo <= i -> (∀ k, k < n -> D (h k)) -> HPx less n lo h i ->
    (∀ p c, lo <= p -> (i = 2 * p + 1 ∨ i = 2 * p + 2) -> (c = 2 * i + 1 ∨ c = 2 * i + 2) -> c < n -> less (h c) (h p) = false) -> SameA n h (downGo less n f h i).1 /\ HP less n lo (downGo less n f h i).1
  | 0, h, i, hf, hlo, hD, h1, h2 => ⟨.refl _ _, fun p c hp hc hcn => by
      by_cases e : p = i
      . omega
      exact h1 p c hp e hc hcn⟩
  | f + 1, h, i, hf, hlo, hD, h1, h2 => by
    unfold downGo; split
    . rename_i hn
      obtain ⟨k1, k2, k3⟩ := bQc ho hD hn
      generalize kid less h n i = j at k1 k2 k3
      split
      . rename_i hl
        have hs := SameA.swp h (i := i) (j := j) (n := n) (by omega) k1
        have s0 : ∀ k, swpA h i j k = if k = i then h j else if k = j then h i else h k := fun _ => rfl
        have hr := aAm ho n lo f (swpA h i j) j (by omega) (by omega) (hs.all hD) (fun p c hp hpj hc hcn => ?_) (fun p c hp hjp hc hcn => ?_)
        . exact ⟨hs.trans hr.1, hr.2⟩
        . rw [s0 c, s0 p]
          by_cases hpi : p = i
          . subst hpi; rw [if_pos rfl]
            by_cases hcj : c = j
            . subst hcj; rw [if_neg (by omega), if_pos rfl]
              exact ho.asymm (hD _ k1) (hD _ (by omega)) hl
            rw [if_neg (by omega), if_neg hcj]
            exact k3 c hc hcn
          rw [if_neg hpi, if_neg hpj]
          by_cases hci : c = i
          . subst hci; rw [if_pos rfl]
            exact h2 p j hp hc k2 k1
          rw [if_neg hci, if_neg (by omega)]
          exact h1 p c hp hpi hc hcn
        have hpi : p = i := by omega
        subst hpi; rw [s0 c, s0 p, if_pos rfl, if_neg (by omega), if_neg (by omega)]
        exact h1 j c (by omega) (by omega) hc hcn
      rename_i hl
      refine ⟨.refl _ _, fun p c hp hc hcn => ?_⟩
      by_cases e : p = i
      . subst e
        exact ho.neg _ _ _ (hD _ hcn) (hD _ k1) (hD _ (by omega)) (k3 c hc hcn) (by simpa using hl)
      exact h1 p c hp e hc hcn
    rename_i hn
    exact ⟨.refl _ _, fun p c hp hc hcn => by
      by_cases e : p = i
      . omega
      exact h1 p c hp e hc hcn⟩
variable (less)
def initGo (n : Nat) : Nat -> (Nat -> α) -> (Nat -> α)
  | 0, h => h
  | i + 1, h => initGo n i (downGo less n n h i).1
variable {less}
def aSe {D : α -> Prop} (ho : WO less D) (n : Nat) : ∀ (i : Nat) (h : Nat -> α), (∀ k, k < n -> D (h k)) -> HP less n i h -> SameA n h (initGo less n i h) /\ HP less n 0 (initGo less n i h)
  | 0, h, hD, h1 => ⟨.refl _ _, h1⟩
  | i + 1, h, hD, h1 => by
    unfold initGo
    obtain ⟨k1, k2⟩ := aAm ho n i n h i (by omega) (Nat.le_refl _) hD (fun p c hp hpi hc hcn => h1 p c (by omega) hc hcn) (fun p c hp hip hc hcn => by omega)
    obtain ⟨k3, k4⟩ := aSe ho n i _ (k1.all hD) k2
    exact ⟨k1.trans k3, k4⟩
def HP.top {D : α -> Prop} (ho : WO less D) {h : Nat -> α} (hD : ∀ k, k < n -> D (h k)) (hh : HP less n 0 h) : ∀ k, k < n -> less (h k) (h 0) = false := by
  intro k
  induction k using Nat.strongRecOn with
  | _ k ih =>
    intro hk
    by_cases e : k = 0
    . subst e; exact ho.irrefl _ (hD 0 hk)
    have h1 := hh ((k - 1) / 2) k (Nat.zero_le _) (by omega) hk
    exact ho.neg _ _ _ (hD k hk) (hD _ (by omega)) (hD 0 (by omega)) h1 (ih _ (by omega) (by omega))
end
section
variable {ε : Type} (lt : ε -> ε -> Bool)
def hless (a b : List ε × Nat) : Bool := match a.1, b.1 with
  | x :: _, y :: _ => lt x y || (!lt y x && decide (a.2 < b.2))
  | _, _ => false
variable {lt}
def aYh (h : WO lt fun _ => True) : WO (hless lt) fun a => a.1 ≠ [] := by
  have tr := fun x y z => h.trans x y z trivial trivial trivial
  have ng := fun x y z => h.neg x y z trivial trivial trivial
  refine ⟨?_, ?_, ?_⟩
  . rintro ⟨_ | ⟨x, a⟩, i⟩ hx
    . exact absurd rfl hx
    simp [hless, h.irrefl x trivial]
  . rintro ⟨_ | ⟨x, a⟩, i⟩ ⟨_ | ⟨y, b⟩, j⟩ ⟨_ | ⟨z, c⟩, k⟩ hx hy hz
    . exact absurd rfl hx
    . exact absurd rfl hx
    . exact absurd rfl hx
    . exact absurd rfl hx
    . exact absurd rfl hy
    . exact absurd rfl hy
    . exact absurd rfl hz
    simp only [hless, Bool.or_eq_true, Bool.and_eq_true, Bool.not_eq_true', decide_eq_true_eq]
    rintro (h1 | ⟨h1, h1'⟩) (h2 | ⟨h2, h2'⟩)
    . exact .inl (tr _ _ _ h1 h2)
    . left
      cases hxz : lt x z with
      | true => rfl
      | false => have := ng _ _ _ hxz h2; rw [h1] at this; cases this
    . left
      cases hxz : lt x z with
      | true => rfl
      | false => have := ng _ _ _ h1 hxz; rw [h2] at this; cases this
    exact .inr ⟨ng _ _ _ h2 h1, by omega⟩
  rintro ⟨_ | ⟨x, a⟩, i⟩ ⟨_ | ⟨y, b⟩, j⟩ ⟨_ | ⟨z, c⟩, k⟩ hx hy hz
  . exact absurd rfl hx
  . exact absurd rfl hx
  . exact absurd rfl hx
  . exact absurd rfl hx
  . exact absurd rfl hy
  . exact absurd rfl hy
  . exact absurd rfl hz
  simp only [hless, Bool.or_eq_false_iff, Bool.and_eq_false_iff, Bool.not_eq_false', decide_eq_false_iff_not]
  rintro ⟨h1, h1'⟩ ⟨h2, h2'⟩
  refine ⟨ng _ _ _ h1 h2, ?_⟩
  cases hzx : lt z x with
  | true => exact .inl rfl
  | false =>
    right
    have hzy : lt z y = false := by
      cases hq : lt z y with
      | false => rfl
      | true =>
        have h3 := ng z x y hzx h1
        rw [hq] at h3; cases h3
    have hyx : lt y x = false := by
      cases hq : lt y x with
      | false => rfl
      | true =>
        have h3 := ng y z x h2 hzx
        rw [hq] at h3; cases h3
    rcases h1' with h1' | h1'
    . rw [hyx] at h1'; cases h1'
    rcases h2' with h2' | h2'
    . rw [hzy] at h2'; cases h2'
    omega
def bKm {a b : List ε × Nat} {x y : ε} {r s : List ε} (ha : a.1 = x :: r) (hb : b.1 = y :: s) (h : hless lt a b = false) : lt x y = false := by
  unfold hless at h; rw [ha, hb] at h
  simp only [Bool.or_eq_false_iff] at h
  exact h.1
def dI (n : Nat) (g : Nat -> List ε × Nat) : List ε := ((List.range n).map g).flatMap (·.1)
def updA {α : Type} (g : Nat -> α) (i : Nat) (x : α) : Nat -> α := fun k => if k = i then x else g k
variable (lt)
def dV (g : Nat -> List ε × Nat) : Nat -> List ε × Nat := updA g 0 ((g 0).1.tail, (g 0).2)
def mergeGo : Nat -> (Nat -> List ε × Nat) -> Nat -> List ε -> List ε
  | 0, _, _, all => all
  | f + 1, g, n, all => match n, (g 0).1 with
    | m + 1, e :: r => if r.length = 0 then mergeGo f (downGo (hless lt) m m (swpA (dV g) 0 m) 0).1 m (all ++ [e]) else mergeGo f (downGo (hless lt) (m + 1) (m + 1) (dV g) 0).1 (m + 1) (all ++ [e])
    | _, _ => all
def pZ (lists : List (List ε)) : List (List ε × Nat) := (lists.zipIdx.filter fun p => !p.1.isEmpty)
def mergeAll (lists : List (List ε)) : List ε :=
  let hs := (pZ lists).map fun p => (p.1.foldl (put lt) [], p.2)
  mergeGo lt (hs.flatMap (·.1)).length (initGo (hless lt) hs.length (hs.length / 2) fun k => hs.getD k ([], 0)) hs.length []
variable {lt}
def flatH_same {g g' : Nat -> List ε × Nat} (h : SameA n g g') : (dI n g').Perm (dI n g) := h.1.flatMap_right _
def flatH_succ (n : Nat) (g : Nat -> List ε × Nat) : dI (n + 1) g = dI n g ++ (g n).1 := by
  unfold dI; rw [List.range_succ, List.map_append, List.flatMap_append]; simp
def flatH_top {m : Nat} {g : Nat -> List ε × Nat} {e : ε} {r : List ε} (h : (g 0).1 = e :: r) : dI (m + 1) g = e :: dI (m + 1) (dV g) := by
  unfold dI; rw [List.range_succ_eq_map, List.map_cons, List.map_cons, List.flatMap_cons, List.flatMap_cons]
  have h1 : (dV g 0).1 = r := by simp [dV, updA, h]
  have h2 : (List.map Nat.succ (List.range m)).map (dV g) = (List.map Nat.succ (List.range m)).map g := by
    refine List.map_congr_left fun x hx => ?_
    obtain ⟨k, _, rfl⟩ := List.mem_map.1 hx
    simp [dV, updA]
  rw [h1, h2, h]; rfl
def leB (lt : ε -> ε -> Bool) (x y : ε) : Prop := lt y x = false
def bFt {g : Nat -> List ε × Nat} {x : ε} : x ∈ dI n g ↔ ∃ k, k < n /\ x ∈ (g k).1 := by
  unfold dI; simp only [List.mem_flatMap, List.mem_map, List.mem_range]
  constructor
  . rintro ⟨_, ⟨k, hk, rfl⟩, h⟩; exact ⟨k, hk, h⟩
  rintro ⟨k, hk, h⟩; exact ⟨_, ⟨k, hk, rfl⟩, h⟩
def aKt (ho : WO lt fun _ => True) : ∀ (f : Nat) (g : Nat -> List ε × Nat) (n : Nat) (all : List ε), (dI n g).length <= f -> (∀ k, k < n -> (g k).1 ≠ []) -> (∀ k, k < n -> (g k).1.Pairwise (leB lt)) -> HP (hless lt) n 0 g ->
    all.Pairwise (leB lt) -> (∀ x ∈ all, ∀ y ∈ dI n g, leB lt x y) -> (mergeGo lt f g n all).Perm (all ++ dI n g) /\ (mergeGo lt f g n all).Pairwise (leB lt)
  | 0, g, n, all, hf, hD, hs, hh, ha, hx => by
    have : dI n g = [] := List.eq_nil_of_length_eq_zero (by omega)
    unfold mergeGo; rw [this, List.append_nil]
    exact ⟨.refl _, ha⟩
  | f + 1, g, n, all, hf, hD, hs, hh, ha, hx => by
    unfold mergeGo; split
    . rename_i m e r he
      have htop := flatH_top (m := m) he
      have hw := aYh ho
      have hmin : ∀ y ∈ dI (m + 1) (dV g), leB lt e y := fun y hy => by
        obtain ⟨k, hk, hyk⟩ := bFt.1 hy
        by_cases e0 : k = 0
        . subst e0
          have h1 : (dV g 0).1 = r := by simp [dV, updA, he]
          rw [h1] at hyk
          have := hs 0 hk
          rw [he, List.pairwise_cons] at this
          exact this.1 y hyk
        have h1 : dV g k = g k := by simp [dV, updA, e0]
        rw [h1] at hyk
        have htp := hh.top hw hD k hk
        cases hgk : (g k).1 with
        | nil => exact absurd hgk (hD k hk)
        | cons z s =>
          have h2 := bKm hgk he htp
          rw [hgk] at hyk
          rcases List.mem_cons.1 hyk with hyz | hys
          . rw [hyz]; exact h2
          have := hs k hk
          rw [hgk, List.pairwise_cons] at this
          exact ho.neg _ _ _ trivial trivial trivial (this.1 y hys) h2
      have ha' : (all ++ [e]).Pairwise (leB lt) := by
        rw [List.pairwise_append]
        refine ⟨ha, List.pairwise_singleton _ _, fun x hx1 y hy => ?_⟩
        rw [List.mem_singleton.1 hy]
        exact hx x hx1 e (by rw [htop]; exact List.mem_cons_self)
      have hx' : ∀ x ∈ all ++ [e], ∀ y ∈ dI (m + 1) (dV g), leB lt x y := fun x hx1 y hy => by
        rcases List.mem_append.1 hx1 with h1 | h1
        . exact hx x h1 y (by rw [htop]; exact List.mem_cons_of_mem _ hy)
        rw [List.mem_singleton.1 h1]; exact hmin y hy
      have hlen : (dI (m + 1) (dV g)).length <= f := by rw [htop, List.length_cons] at hf; omega
      have hgk : ∀ k, k ≠ 0 -> dV g k = g k := fun k hk => by simp [dV, updA, hk]
      have hg0 : (dV g 0).1 = r := by simp [dV, updA, he]
      have fin : ∀ (n' : Nat) (g' : Nat -> List ε × Nat), (dI n' g').Perm (dI (m + 1) (dV g)) -> (∀ k, k < n' -> (g' k).1 ≠ []) -> (∀ k, k < n' -> (g' k).1.Pairwise (leB lt)) -> HP (hless lt) n' 0 g' ->
          (mergeGo lt f g' n' (all ++ [e])).Perm (all ++ dI (m + 1) g) /\ (mergeGo lt f g' n' (all ++ [e])).Pairwise (leB lt) := fun n' g' hp h1 h2 h3 => by
        have := aKt ho f g' n' (all ++ [e]) (by rw [hp.length_eq]; exact hlen) h1 h2 h3 ha' fun x hx1 y hy => hx' x hx1 y (hp.mem_iff.1 hy)
        refine ⟨this.1.trans ?_, this.2⟩
        rw [htop, List.append_assoc]
        exact List.Perm.append_left _ (List.Perm.cons e hp)
      split
      . rename_i hr
        have hr0 : r = [] := List.eq_nil_of_length_eq_zero hr
        have hsw := SameA.swp (dV g) (n := m + 1) (i := 0) (j := m) (by omega) (by omega)
        have hlast : (swpA (dV g) 0 m m).1 = [] := by
          unfold swpA; split
          . rename_i h0; rw [h0, hg0, hr0]
          rw [if_pos rfl, hg0, hr0]
        have hlow : ∀ k, k < m -> ∃ j, j < m + 1 /\ j ≠ 0 /\ swpA (dV g) 0 m k = g j := fun k hk => by
          unfold swpA; split
          . exact ⟨m, by omega, by omega, hgk m (by omega)⟩
          rename_i h0
          rw [if_neg (by omega)]
          exact ⟨k, by omega, h0, hgk k h0⟩
        have hDm : ∀ k, k < m -> (swpA (dV g) 0 m k).1 ≠ [] := fun k hk => by
          obtain ⟨j, hj, _, e1⟩ := hlow k hk
          rw [e1]; exact hD j hj
        have hsm : ∀ k, k < m -> (swpA (dV g) 0 m k).1.Pairwise (leB lt) := fun k hk => by
          obtain ⟨j, hj, _, e1⟩ := hlow k hk
          rw [e1]; exact hs j hj
        obtain ⟨k1, k2⟩ := aAm hw m 0 m (swpA (dV g) 0 m) 0 (by omega) (Nat.le_refl _) hDm (fun p c hp hp0 hc hcn => by
          have e1 : ∀ k, k ≠ 0 -> k < m -> swpA (dV g) 0 m k = g k := fun k hk hkm => by unfold swpA; rw [if_neg hk, if_neg (by omega)]; exact hgk k hk
          rw [e1 c (by omega) hcn, e1 p hp0 (by omega)]
          exact hh p c hp hc (by omega)) (fun p c hp h0 hc hcn => by omega)
        refine fin m _ ((flatH_same k1).trans ?_) (k1.all (φ := fun a => a.1 ≠ []) hDm) (k1.all (φ := fun a => a.1.Pairwise (leB lt)) hsm) k2
        have := flatH_same hsw
        rw [flatH_succ, hlast, List.append_nil] at this; exact this
      rename_i hr
      have hDm : ∀ k, k < m + 1 -> (dV g k).1 ≠ [] := fun k hk => by
        by_cases e0 : k = 0
        . subst e0; rw [hg0]; intro h; rw [h] at hr; exact hr rfl
        rw [hgk k e0]; exact hD k hk
      have hsm : ∀ k, k < m + 1 -> (dV g k).1.Pairwise (leB lt) := fun k hk => by
        by_cases e0 : k = 0
        . subst e0; rw [hg0]; have := hs 0 hk; rw [he, List.pairwise_cons] at this; exact this.2
        rw [hgk k e0]; exact hs k hk
      obtain ⟨k1, k2⟩ := aAm hw (m + 1) 0 (m + 1) (dV g) 0 (by omega) (Nat.le_refl _) hDm (fun p c hp hp0 hc hcn => by
        rw [hgk c (by omega), hgk p hp0]
        exact hh p c hp hc hcn) (fun p c hp h0 hc hcn => by omega)
      exact fin (m + 1) _ (flatH_same k1) (k1.all (φ := fun a => a.1 ≠ []) hDm) (k1.all (φ := fun a => a.1.Pairwise (leB lt)) hsm) k2
    rename_i n' n2 x' hno
    have hn : n' = 0 := by
      cases n' with
      | zero => rfl
      | succ m =>
        cases hg : (g 0).1 with
        | nil => exact absurd hg (hD 0 (by omega))
        | cons e r => exact (hno m e r rfl hg).elim
    subst hn
    have : dI 0 g = [] := rfl
    rw [this, List.append_nil]
    exact ⟨.refl _, ha⟩
def put_sorted (ho : WO lt fun _ => True) (ls : List ε) : (ls.foldl (put lt) []).Pairwise (leB lt) /\ (ls.foldl (put lt) []).Perm ls := by
  cases ls with
  | nil => exact ⟨List.Pairwise.nil, .refl _⟩
  | cons a r =>
    generalize hls : a :: r = ls
    let d : Nat -> ε := fun i => ls.getD i a
    have hd : ∀ i, i < ls.length -> ls[i]? = some (d i) := fun i hi => by simp [d, List.getD_eq_getElem?_getD, List.getElem?_eq_getElem hi]
    have hod := ho.orders d
    obtain ⟨h1, h2⟩ := bCw hod ls.length
    rw [<- stab_list d ls hd hod]
    refine ⟨?_, ?_⟩
    . rw [List.pairwise_map]
      refine List.pairwise_iff_getElem.2 fun i j hi hj hij => ?_
      simp at hi hj ⊢
      rcases h2 i j (Nat.zero_le _) hij hj with h3 | h3
      . exact hod.asymm h3
      exact h3.1
    have h3 := (aLi h1).map d
    rw [List.map_map] at h3
    have e1 : (List.range ls.length).map d = ls := by
      refine List.ext_getElem? fun i => ?_
      rw [List.getElem?_map]
      by_cases h : i < ls.length
      . rw [hd i h, List.getElem?_range h]; rfl
      rw [List.getElem?_eq_none (by simp; omega), List.getElem?_eq_none (by omega)]; rfl
    rw [e1] at h3; exact h3
def mergeAll_ok (ho : WO lt fun _ => True) (lists : List (List ε)) : (mergeAll lt lists).Perm (lists.flatMap id) /\ (mergeAll lt lists).Pairwise (leB lt) := by
  unfold mergeAll
  simp only
  generalize hhs : ((pZ lists).map fun p => (p.1.foldl (put lt) [], p.2)) = hs
  have hmem : ∀ p ∈ hs, p.1 ≠ [] /\ p.1.Pairwise (leB lt) := fun p hp => by
    rw [<- hhs] at hp
    obtain ⟨q, hq, rfl⟩ := List.mem_map.1 hp
    have h1 := put_sorted ho q.1
    have h2 : q.1 ≠ [] := by
      have := (List.mem_filter.1 hq).2
      intro h; rw [h] at this; simp at this
    refine ⟨fun h => h2 ?_, h1.1⟩
    simp only at h
    rw [h] at h1
    exact List.eq_nil_of_length_eq_zero h1.2.length_eq.symm
  have hflat : (hs.flatMap (·.1)).Perm (lists.flatMap id) := by
    rw [<- hhs]
    have aux : ∀ (ls : List (List ε)) (k : Nat), ((((ls.zipIdx k).filter fun p => !p.1.isEmpty).map fun p => (p.1.foldl (put lt) [], p.2)).flatMap (·.1)).Perm (ls.flatMap id) := by
      intro ls
      induction ls with
      | nil => intro k; exact .refl _
      | cons a r ih =>
        intro k; rw [List.zipIdx_cons, List.filter_cons]; split
        . rw [List.map_cons, List.flatMap_cons, List.flatMap_cons]
          exact List.Perm.append (put_sorted ho a).2 (ih (k + 1))
        rename_i ha
        have ha0 : a = [] := by simpa using ha
        rw [List.flatMap_cons, ha0]
        exact ih (k + 1)
    exact aux lists 0
  have hget : (List.range hs.length).map (fun k => hs.getD k ([], 0)) = hs := by
    refine List.ext_getElem? fun i => ?_
    rw [List.getElem?_map]
    by_cases h : i < hs.length
    . rw [List.getElem?_range h]; simp [List.getD_eq_getElem?_getD, List.getElem?_eq_getElem h]
    rw [List.getElem?_eq_none (by simp; omega), List.getElem?_eq_none (by omega)]; rfl
  have hk : ∀ k, k < hs.length -> hs.getD k ([], 0) ∈ hs := fun k hk => by rw [List.getD_eq_getElem?_getD, List.getElem?_eq_getElem hk]; exact List.getElem_mem hk
  obtain ⟨k1, k2⟩ := aSe (aYh ho) hs.length (hs.length / 2) (fun k => hs.getD k ([], 0)) (fun k h => (hmem _ (hk k h)).1) (fun p c hp hc hcn => by omega)
  have hfe : dI hs.length (fun k => hs.getD k ([], 0)) = hs.flatMap (·.1) := by unfold dI; rw [hget]
  have hp := flatH_same k1
  rw [hfe] at hp
  obtain ⟨k3, k4⟩ := aKt ho (hs.flatMap (·.1)).length _ hs.length [] (by rw [hp.length_eq]; exact Nat.le_refl _) (k1.all (φ := fun a => a.1 ≠ []) fun k h => (hmem _ (hk k h)).1) (k1.all (φ := fun a => a.1.Pairwise (leB lt)) fun k h => (hmem _ (hk k h)).2) k2 List.Pairwise.nil (fun x hx => by cases hx)
  rw [List.nil_append] at k3
  exact ⟨(k3.trans hp).trans hflat, k4⟩
def mergeAll_put (ho : WO lt fun _ => True) (lists : List (List ε)) (hd : ∀ x ∈ lists.flatMap id, ∀ y ∈ lists.flatMap id, lt x y = false -> lt y x = false -> x = y) (ls : List ε) (hp : ls.Perm (lists.flatMap id)) : mergeAll lt lists = ls.foldl (put lt) [] := by
  obtain ⟨h1, h2⟩ := mergeAll_ok ho lists
  obtain ⟨h3, h4⟩ := put_sorted ho ls
  refine List.Perm.eq_of_pairwise (le := leB lt) (fun a b ha hb h5 h6 => hd a (h1.mem_iff.1 ha) b (hp.mem_iff.1 (h4.mem_iff.1 hb)) h6 h5) h2 h3 ((h1.trans hp.symm).trans h4.symm)
end
end
end Go.Plain
end
section
open Go Go.Abs Go.Proofs Go.Proofs.Tryz
namespace Go.Proofs.S
section
noncomputable abbrev P := Tryz.prog
def mxl : maxLen = 9223372036854775807 := rfl
def wr (a b : Int) (h : a = b /\ -9223372036854775808 <= b /\ b <= 9223372036854775807) : IntKind.i64.wrap a = b := by rw [IntKind.wrap_i64]; omega
abbrev Ni (n : Int) : AV := .raw (.int .i64 n)
abbrev Ns (s : ByteArray) : AV := .raw (.string s)
abbrev Nb (b : Bool) : AV := .raw (.bool b)
attribute [go_sem] Ni Ns Nb
def kr {p : Prop} (h : p := by kernel_rfl) : p := h
variable {G R A B : Prop}
def Ec (e : A) (f : B) (h : A -> B -> R -> G := by intro e f k; simp only [go_sem, e, f, Int.toNat_natCast, Int.toNat_zero, List.drop_zero, A2, C6, <- E5, <- D0]; exact k) : R -> G := h e f
def Eb (e : A) (h : A -> R -> G := by intro e k; simp only [go_sem, e, Int.toNat_natCast, Int.toNat_zero, List.drop_zero, A2, C6, <- E5, <- D0]; exact k) : R -> G := h e
def Dy (h : R -> G := by intro k; simp only [go_sem, Int.toNat_natCast, A2, List.nil_append, <- E5, <- D0]; exact k) : R -> G := h
def Dx (e : A) (h : A -> R -> G := by intro e k; simp only [go_sem, e, A3, B0, A2, A7, List.nil_append]; exact k) : R -> G := h e
def Dw (h : G := by simp only [go_sem, AObj.bel, Int.natCast_zero, List.flatten_nil, List.map_nil, List.take_zero] <;> simp) : G := h
def Du (e : A) (h : A -> G := by intro e; simp only [go_sem, e, AObj.bel, AObj.ren, AV.ren, List.append_nil, List.cons_append, List.nil_append, aA, sg] <;> simp) : G := h e
def Dr (h : R -> G := by intro k; simp only [go_sem, A3, B0, A2, A7, E4, List.nil_append]; exact k) : R -> G := h
def Do (e : A) (h : A -> R -> G := by intro e k; simp only [go_sem, e, A3, B0, A2, H8, A7, List.nil_append]; exact k) : R -> G := h e
def Dn (h : R -> G := by intro k; simp only [go_sem, Int.toNat_natCast, Int.toNat_zero, A3, B0, A7, <- E5, <- D0]; exact k) : R -> G := h
def Dm (h : R -> G := by intro k; simp only [go_sem, Int.toNat_natCast, A3, B0, A7, <- E5, <- D0]; exact k) : R -> G := h
def Dd (h : R -> G := by intro k; simp only [go_sem, List.set_cons_succ, List.set_cons_zero]; exact k) : R -> G := h
def Da (h : R -> G := by intro k; simp only [go_sem, Int.toNat_natCast, <- E5, <- D0]; exact k) : R -> G := h
def Cz (h : G := by simp only [go_sem, AObj.ren, AV.ren, aA, sg] <;> simp [Abs.get]) : G := h
def Cs (e : A) (h : A -> G := by intro e; simp only [go_sem, e, AObj.bel, AObj.ren, AV.ren, aA, sg] <;> simp) : G := h e
def Co (e : A) (h : A -> G := by intro e; simp only [go_sem, e, B9, if_false, if_true] <;> simp) : G := h e
def Cm (e : A) (f : B) (h : A -> B -> R -> G := by intro e f k; simp only [go_sem, e, f, D3, List.set_set]; exact k) : R -> G := h e f
def Cj (h : G := by simp only [go_sem, Int.natCast_zero]) : G := h
def Ci (h : R -> G := by intro k; simp only [go_sem, A3, B0, A2, H8, A7, List.nil_append]; exact k) : R -> G := h
def Ch (h : G := by simp only [go_sem, AObj.bel, Int.natCast_zero] <;> simp) : G := h
def Cg (h : R -> G := by intro k; simp only [go_sem, Bool.not_true, beq_self_eq_true]; exact k) : R -> G := h
def Cc (h : G := by simp only [go_sem, AObj.bel, Int.natCast_zero, List.map_nil] <;> simp) : G := h
def Ca (h : G := by simp only [go_sem, AObj.bel, Int.natCast_zero, List.map_nil, List.take_zero] <;> simp) : G := h
def Bx (h : G := by simp only [go_sem, AV.ren, aA, sg] <;> simp [Abs.get]) : G := h
def Bs (h : G := by simp only [go_sem, AObj.bel, Nat.reduceAdd, Nat.reduceLT, Nat.reduceLeDiff] <;> simp) : G := h
def Bp (h : R -> G := by intro k; simp only [go_sem, A2]; exact k) : R -> G := h
def Bn (e : A) (h : A -> G := by intro e; simp only [go_sem, e, List.map_nil]) : G := h e
def Bk (h : G := by simp only [go_sem, AObj.bel] <;> simp) : G := h
def Bg (h : R -> G := by intro k; simp only [go_sem, Bool.not_true]; exact k) : R -> G := h
def Ba (h : G := by simp only [go_sem, AV.ren, aA, sg]) : G := h
def Az (h : R -> G := by intro k; simp only [go_sem, Bool.not_true, decide_true]; exact k) : R -> G := h
def Ax {R G A B C D : Prop} (e : A) (f : B) (g : C) (i : D) (h : A -> B -> C -> D -> R -> G := by intro e f g i k; simp only [go_sem, e, f, g, i]; exact k) : R -> G := h e f g i
def Au (h : G := by simp only [go_sem, AObj.bel]) : G := h
def At (h : R -> G := by intro k; simp only [go_sem, A3, B0, A2, A7, List.nil_append]; exact k) : R -> G := h
def Ar (e : A) (f : B) (h : A -> B -> R -> G := by intro e f k; simp only [go_sem, e, f]; exact k) : R -> G := h e f
def Ak (h : R -> G := by intro k; simp only [go_sem, AObj.ren, AV.ren, Nat.add_zero, A0, Nat.sub_self, aA, sg, shift]; exact k) : R -> G := h
def Aj (h : G := by simp only [go_sem]) : G := h
def Ag (h : R -> G := by intro k; simp only [go_sem, AV.fz, fzL]; exact k) : R -> G := h
def Ad (h : R -> G := by intro k; simp only [go_sem, lQ]; exact k) : R -> G := h
def Ab (e : A) (h : A -> G := by intro e; simp only [go_sem, e]) : G := h e
def Aa (e : A) (h : A -> R -> G := by intro e k; simp only [go_sem, e]; exact k) : R -> G := h e
noncomputable instance : Globals where
  on := fun g => g = 0 ∨ g = 1 ∨ g = 2
  G0 := fun g o => (g = 0 -> ∃ t fr, o = .cells ((Lib.pow10Tab.map fun z => Value.int .u64 z).toArray) t fr) /\ (g = 1 ∨ g = 2 -> ∃ te pe t fr, o = .cells #[.iface te pe] t fr) /\ ∃ c t fr, o = .cells c t fr
  cells := fun g o h => h.2.2
def F0 : vI P 1 = some (1, false) /\
 zC P 1 = some [Value.nilFunc] /\
 zE P 1 = some (.raw Value.nilFunc) /\
 P.concrete 1 = true /\
 vI P 2 = some (1, false) /\
 zC P 2 = some [(Value.int IntKind.i64 0)] /\
 zE P 2 = some (.raw (Value.int IntKind.i64 0)) /\
 P.concrete 2 = true /\
 vI P 3 = some (1, false) /\
 zC P 3 = some [(Value.int IntKind.i64 0)] /\
 zE P 3 = some (.raw (Value.int IntKind.i64 0)) /\
 P.concrete 3 = true /\
 vI P 4 = some (1, false) /\
 zC P 4 = some [(Value.bool false)] /\
 zE P 4 = some (.raw (Value.bool false)) /\
 P.concrete 4 = true /\
 vI P 5 = some (1, false) /\
 zC P 5 = some [(Value.int IntKind.u8 0)] /\
 zE P 5 = some (.raw (Value.int IntKind.u8 0)) /\
 P.concrete 5 = true /\
 vI P 7 = some (4, true) /\
 zC P 7 = some [(Value.int IntKind.i64 0), (Value.int IntKind.i64 0), (Value.bool false), (Value.int IntKind.u8 0)] /\
 zE P 7 = some (.agg [.raw (Value.int IntKind.i64 0), .raw (Value.int IntKind.i64 0), .raw (Value.bool false), .raw (Value.int IntKind.u8 0)]) /\
 fI P 7 0 = some (0, some 1, some false) /\
 fI P 7 1 = some (1, some 1, some false) /\
 fI P 7 2 = some (2, some 1, some false) /\
 fI P 7 3 = some (3, some 1, some false) /\
 bE P 7 = some [(0, 1), (1, 1), (2, 1), (3, 1)] /\
 P.concrete 7 = true /\
 vI P 8 = some (4, true) /\
 zC P 8 = some [(Value.int IntKind.i64 0), (Value.int IntKind.i64 0), (Value.bool false), (Value.int IntKind.u8 0)] /\
 zE P 8 = some (.agg [.raw (Value.int IntKind.i64 0), .raw (Value.int IntKind.i64 0), .raw (Value.bool false), .raw (Value.int IntKind.u8 0)]) /\
 fI P 8 0 = some (0, some 1, some false) /\
 fI P 8 1 = some (1, some 1, some false) /\
 fI P 8 2 = some (2, some 1, some false) /\
 fI P 8 3 = some (3, some 1, some false) /\
 bE P 8 = some [(0, 1), (1, 1), (2, 1), (3, 1)] /\
 P.concrete 8 = true /\
 vI P 9 = some (1, false) /\
 zC P 9 = some [(Value.string ⟨#[]⟩)] /\
 zE P 9 = some (.raw (Value.string ⟨#[]⟩)) /\
 aHk P 9 = true /\
 P.concrete 9 = true /\
 vI P 10 = some (1, false) /\
 zC P 10 = some [(Value.string ⟨#[]⟩)] /\
 zE P 10 = some (.raw (Value.string ⟨#[]⟩)) /\
 aHk P 10 = true /\
 P.concrete 10 = true /\
 vI P 15 = some (1, false) /\
 zC P 15 = some [(Value.pointer none)] /\
 zE P 15 = some (.raw (Value.pointer none)) /\
 P.concrete 15 = true /\
 vI P 16 = some (1, false) /\
 zC P 16 = some [(Value.pointer none)] /\
 zE P 16 = some (.raw (Value.pointer none)) /\
 P.concrete 16 = true /\
 vI P 20 = some (1, false) /\
 zC P 20 = some [Value.nilIface] /\
 zE P 20 = some (.raw Value.nilIface) /\
 aXx P 20 = true /\
 vI P 21 = some (1, false) /\
 zC P 21 = some [(Value.int IntKind.i32 0)] /\
 zE P 21 = some (.raw (Value.int IntKind.i32 0)) /\
 P.concrete 21 = true /\
 vI P 22 = some (1, false) /\
 zC P 22 = some [(Value.slice none 0 0)] /\
 zE P 22 = some (.raw (Value.slice none 0 0)) /\
 cN P 22 = some (60, some (5, 56)) /\
 yJ P 22 = true /\
 P.concrete 22 = true /\
 vI P 23 = some (1, false) /\
 zC P 23 = some [(Value.slice none 0 0)] /\
 zE P 23 = some (.raw (Value.slice none 0 0)) /\
 cN P 23 = some (129, some (1, 24)) /\
 yJ P 23 = true /\
 P.concrete 23 = true /\
 vI P 24 = some (1, false) /\
 zC P 24 = some [(Value.slice none 0 0)] /\
 zE P 24 = some (.raw (Value.slice none 0 0)) /\
 cN P 24 = some (3, some (1, 8)) /\
 yJ P 24 = true /\
 P.concrete 24 = true /\
 vI P 26 = some (4, true) /\
 zC P 26 = some [(Value.int IntKind.i64 0), (Value.slice none 0 0), (Value.slice none 0 0), (Value.slice none 0 0)] /\
 zE P 26 = some (.agg [.raw (Value.int IntKind.i64 0), .raw (Value.slice none 0 0), .raw (Value.slice none 0 0), .raw (Value.slice none 0 0)]) /\
 fI P 26 0 = some (0, some 1, some false) /\
 fI P 26 1 = some (1, some 1, some false) /\
 fI P 26 2 = some (2, some 1, some false) /\
 fI P 26 3 = some (3, some 1, some false) /\
 bE P 26 = some [(0, 1), (1, 1), (2, 1), (3, 1)] /\
 P.concrete 26 = true /\
 vI P 28 = some (4, true) /\
 zC P 28 = some [(Value.string ⟨#[]⟩), (Value.int IntKind.i64 0), (Value.slice none 0 0), (Value.int IntKind.i64 0)] /\
 zE P 28 = some (.agg [.raw (Value.string ⟨#[]⟩), .raw (Value.int IntKind.i64 0), .raw (Value.slice none 0 0), .raw (Value.int IntKind.i64 0)]) /\
 fI P 28 0 = some (0, some 1, some false) /\
 fI P 28 1 = some (1, some 1, some false) /\
 fI P 28 2 = some (2, some 1, some false) /\
 fI P 28 3 = some (3, some 1, some false) /\
 bE P 28 = some [(0, 1), (1, 1), (2, 1), (3, 1)] /\
 P.concrete 28 = true := by
 and_intros <;> kernel_rfl
def F1 : vI P 30 = some (9, true) /\
 zC P 30 = some [(Value.bool false), (Value.int IntKind.i64 0), (Value.slice none 0 0), (Value.slice none 0 0), (Value.slice none 0 0), (Value.string ⟨#[]⟩), (Value.int IntKind.i64 0), (Value.slice none 0 0), (Value.int IntKind.i64 0)] /\
 zE P 30 = some (.agg [.raw (Value.bool false), .raw (Value.int IntKind.i64 0), .raw (Value.slice none 0 0), .raw (Value.slice none 0 0), .raw (Value.slice none 0 0), .raw (Value.string ⟨#[]⟩), .raw (Value.int IntKind.i64 0), .raw (Value.slice none 0 0), .raw (Value.int IntKind.i64 0)]) /\
 fI P 30 0 = some (0, some 1, some false) /\
 fI P 30 1 = some (1, some 4, some true) /\
 fI P 30 2 = some (5, some 4, some true) /\
 bE P 30 = some [(0, 1), (1, 4), (5, 4)] /\
 P.concrete 30 = true /\
 vI P 31 = some (1, false) /\
 zC P 31 = some [Value.nilFunc] /\
 zE P 31 = some (.raw Value.nilFunc) /\
 P.concrete 31 = true /\
 vI P 32 = some (1, false) /\
 zC P 32 = some [Value.nilFunc] /\
 zE P 32 = some (.raw Value.nilFunc) /\
 P.concrete 32 = true /\
 vI P 33 = some (1, false) /\
 zC P 33 = some [(Value.slice none 0 0)] /\
 zE P 33 = some (.raw (Value.slice none 0 0)) /\
 cN P 33 = some (65, some (5, 56)) /\
 yJ P 33 = true /\
 P.concrete 33 = true /\
 vI P 34 = some (1, false) /\
 zC P 34 = some [(Value.slice none 0 0)] /\
 zE P 34 = some (.raw (Value.slice none 0 0)) /\
 cN P 34 = some (107, some (1, 24)) /\
 yJ P 34 = true /\
 P.concrete 34 = true /\
 vI P 36 = some (4, true) /\
 zC P 36 = some [(Value.int IntKind.i64 0), (Value.slice none 0 0), (Value.slice none 0 0), (Value.slice none 0 0)] /\
 zE P 36 = some (.agg [.raw (Value.int IntKind.i64 0), .raw (Value.slice none 0 0), .raw (Value.slice none 0 0), .raw (Value.slice none 0 0)]) /\
 fI P 36 0 = some (0, some 1, some false) /\
 fI P 36 1 = some (1, some 1, some false) /\
 fI P 36 2 = some (2, some 1, some false) /\
 fI P 36 3 = some (3, some 1, some false) /\
 bE P 36 = some [(0, 1), (1, 1), (2, 1), (3, 1)] /\
 P.concrete 36 = true /\
 vI P 38 = some (4, true) /\
 zC P 38 = some [(Value.string ⟨#[]⟩), (Value.int IntKind.i64 0), (Value.slice none 0 0), (Value.int IntKind.i64 0)] /\
 zE P 38 = some (.agg [.raw (Value.string ⟨#[]⟩), .raw (Value.int IntKind.i64 0), .raw (Value.slice none 0 0), .raw (Value.int IntKind.i64 0)]) /\
 fI P 38 0 = some (0, some 1, some false) /\
 fI P 38 1 = some (1, some 1, some false) /\
 fI P 38 2 = some (2, some 1, some false) /\
 fI P 38 3 = some (3, some 1, some false) /\
 bE P 38 = some [(0, 1), (1, 1), (2, 1), (3, 1)] /\
 P.concrete 38 = true /\
 vI P 40 = some (9, true) /\
 zC P 40 = some [(Value.bool false), (Value.int IntKind.i64 0), (Value.slice none 0 0), (Value.slice none 0 0), (Value.slice none 0 0), (Value.string ⟨#[]⟩), (Value.int IntKind.i64 0), (Value.slice none 0 0), (Value.int IntKind.i64 0)] /\
 zE P 40 = some (.agg [.raw (Value.bool false), .raw (Value.int IntKind.i64 0), .raw (Value.slice none 0 0), .raw (Value.slice none 0 0), .raw (Value.slice none 0 0), .raw (Value.string ⟨#[]⟩), .raw (Value.int IntKind.i64 0), .raw (Value.slice none 0 0), .raw (Value.int IntKind.i64 0)]) /\
 fI P 40 0 = some (0, some 1, some false) /\
 fI P 40 1 = some (1, some 4, some true) /\
 fI P 40 2 = some (5, some 4, some true) /\
 bE P 40 = some [(0, 1), (1, 4), (5, 4)] /\
 P.concrete 40 = true /\
 vI P 48 = some (1, false) /\
 zC P 48 = some [Value.nilFunc] /\
 zE P 48 = some (.raw Value.nilFunc) /\
 P.concrete 48 = true /\
 vI P 50 = some (1, false) /\
 zC P 50 = some [Value.nilFunc] /\
 zE P 50 = some (.raw Value.nilFunc) /\
 P.concrete 50 = true /\
 vI P 60 = some (5, true) /\
 zC P 60 = some [(Value.string ⟨#[]⟩), (Value.int IntKind.i64 0), (Value.int IntKind.i64 0), (Value.string ⟨#[]⟩), (Value.int IntKind.i64 0)] /\
 zE P 60 = some (.agg [.raw (Value.string ⟨#[]⟩), .raw (Value.int IntKind.i64 0), .raw (Value.int IntKind.i64 0), .raw (Value.string ⟨#[]⟩), .raw (Value.int IntKind.i64 0)]) /\
 fI P 60 0 = some (0, some 1, some false) /\
 fI P 60 1 = some (1, some 1, some false) /\
 fI P 60 2 = some (2, some 1, some false) /\
 fI P 60 3 = some (3, some 1, some false) /\
 fI P 60 4 = some (4, some 1, some false) /\
 bE P 60 = some [(0, 1), (1, 1), (2, 1), (3, 1), (4, 1)] /\
 P.concrete 60 = true /\
 vI P 64 = some (1, false) /\
 zC P 64 = some [Value.nilFunc] /\
 zE P 64 = some (.raw Value.nilFunc) /\
 P.concrete 64 = true /\
 vI P 65 = some (5, true) /\
 zC P 65 = some [(Value.string ⟨#[]⟩), (Value.int IntKind.i64 0), (Value.int IntKind.i64 0), (Value.string ⟨#[]⟩), (Value.int IntKind.i64 0)] /\
 zE P 65 = some (.agg [.raw (Value.string ⟨#[]⟩), .raw (Value.int IntKind.i64 0), .raw (Value.int IntKind.i64 0), .raw (Value.string ⟨#[]⟩), .raw (Value.int IntKind.i64 0)]) /\
 fI P 65 0 = some (0, some 1, some false) /\
 fI P 65 1 = some (1, some 1, some false) /\
 fI P 65 2 = some (2, some 1, some false) /\
 fI P 65 3 = some (3, some 1, some false) /\
 fI P 65 4 = some (4, some 1, some false) /\
 bE P 65 = some [(0, 1), (1, 1), (2, 1), (3, 1), (4, 1)] /\
 P.concrete 65 = true /\
 vI P 74 = some (1, false) /\
 zC P 74 = some [(Value.slice none 0 0)] /\
 zE P 74 = some (.raw (Value.slice none 0 0)) /\
 cN P 74 = some (105, some (1, 16)) /\
 yJ P 74 = true /\
 P.concrete 74 = true /\
 vI P 83 = some (2, true) /\
 zC P 83 = some [(Value.slice none 0 0), (Value.int IntKind.i64 0)] /\
 zE P 83 = some (.agg [.raw (Value.slice none 0 0), .raw (Value.int IntKind.i64 0)]) /\
 fI P 83 0 = some (0, some 1, some false) /\
 fI P 83 1 = some (1, some 1, some false) /\
 bE P 83 = some [(0, 1), (1, 1)] /\
 P.concrete 83 = true /\
 vI P 96 = some (1, true) := by
 and_intros <;> kernel_rfl
def F2 : zC P 96 = some [(Value.string ⟨#[]⟩)] /\
 zE P 96 = some (.agg [.raw (Value.string ⟨#[]⟩)]) /\
 fI P 96 0 = some (0, some 1, some false) /\
 bE P 96 = some [(0, 1)] /\
 P.concrete 96 = true /\
 vI P 100 = some (1, false) /\
 zC P 100 = some [(Value.slice none 0 0)] /\
 zE P 100 = some (.raw (Value.slice none 0 0)) /\
 cN P 100 = some (5, some (1, 1)) /\
 yJ P 100 = true /\
 P.concrete 100 = true /\
 vI P 103 = some (0, true) /\
 zC P 103 = some [] /\
 zE P 103 = some (.agg []) /\
 bE P 103 = some [] /\
 P.concrete 103 = true /\
 vI P 105 = some (1, false) /\
 zC P 105 = some [Value.nilIface] /\
 zE P 105 = some (.raw Value.nilIface) /\
 aXx P 105 = true /\
 vI P 107 = some (1, false) /\
 zC P 107 = some [(Value.slice none 0 0)] /\
 zE P 107 = some (.raw (Value.slice none 0 0)) /\
 cN P 107 = some (109, some (2, 32)) /\
 yJ P 107 = true /\
 P.concrete 107 = true /\
 vI P 109 = some (2, true) /\
 zC P 109 = some [(Value.slice none 0 0), (Value.int IntKind.i64 0)] /\
 zE P 109 = some (.agg [.raw (Value.slice none 0 0), .raw (Value.int IntKind.i64 0)]) /\
 fI P 109 0 = some (0, some 1, some false) /\
 fI P 109 1 = some (1, some 1, some false) /\
 bE P 109 = some [(0, 1), (1, 1)] /\
 P.concrete 109 = true /\
 vI P 112 = some (3, true) /\
 zC P 112 = some [(Value.slice none 0 0), (Value.slice none 0 0), (Value.slice none 0 0)] /\
 zE P 112 = some (.agg [.raw (Value.slice none 0 0), .raw (Value.slice none 0 0), .raw (Value.slice none 0 0)]) /\
 P.concrete 112 = true /\
 vI P 121 = some (1, false) /\
 zC P 121 = some [(Value.slice none 0 0)] /\
 zE P 121 = some (.raw (Value.slice none 0 0)) /\
 cN P 121 = some (33, some (1, 24)) /\
 yJ P 121 = true /\
 P.concrete 121 = true /\
 vI P 129 = some (1, false) /\
 zC P 129 = some [(Value.slice none 0 0)] /\
 zE P 129 = some (.raw (Value.slice none 0 0)) /\
 cN P 129 = some (173, some (2, 32)) /\
 yJ P 129 = true /\
 P.concrete 129 = true /\
 vI P 142 = some (1, false) /\
 zC P 142 = some [(Value.pointer none)] /\
 zE P 142 = some (.raw (Value.pointer none)) /\
 P.concrete 142 = true /\
 vI P 144 = some (2, true) /\
 zC P 144 = some [(Value.pointer none), (Value.slice none 0 0)] /\
 zE P 144 = some (.agg [.raw (Value.pointer none), .raw (Value.slice none 0 0)]) /\
 fI P 144 0 = some (0, some 1, some false) /\
 fI P 144 1 = some (1, some 1, some false) /\
 bE P 144 = some [(0, 1), (1, 1)] /\
 P.concrete 144 = true /\
 vI P 146 = some (1, false) /\
 zC P 146 = some [Value.nilIface] /\
 zE P 146 = some (.raw Value.nilIface) /\
 aXx P 146 = true /\
 vI P 151 = some (1, false) /\
 zC P 151 = some [Value.nilFunc] /\
 zE P 151 = some (.raw Value.nilFunc) /\
 P.concrete 151 = true /\
 vI P 159 = some (1, false) /\
 zC P 159 = some [Value.nilFunc] /\
 zE P 159 = some (.raw Value.nilFunc) /\
 P.concrete 159 = true /\
 vI P 161 = some (1, false) /\
 zC P 161 = some [(Value.slice none 0 0)] /\
 zE P 161 = some (.raw (Value.slice none 0 0)) /\
 cN P 161 = some (165, some (2, 32)) /\
 yJ P 161 = true /\
 P.concrete 161 = true /\
 vI P 163 = some (1, false) /\
 zC P 163 = some [Value.nilFunc] /\
 zE P 163 = some (.raw Value.nilFunc) /\
 P.concrete 163 = true /\
 vI P 165 = some (2, true) /\
 zC P 165 = some [(Value.slice none 0 0), (Value.int IntKind.i64 0)] /\
 zE P 165 = some (.agg [.raw (Value.slice none 0 0), .raw (Value.int IntKind.i64 0)]) /\
 fI P 165 0 = some (0, some 1, some false) /\
 fI P 165 1 = some (1, some 1, some false) /\
 bE P 165 = some [(0, 1), (1, 1)] /\
 P.concrete 165 = true /\
 vI P 167 = some (1, false) /\
 zC P 167 = some [(Value.pointer none)] /\
 zE P 167 = some (.raw (Value.pointer none)) /\
 P.concrete 167 = true /\
 vI P 173 = some (2, true) /\
 zC P 173 = some [(Value.slice none 0 0), (Value.int IntKind.i64 0)] /\
 zE P 173 = some (.agg [.raw (Value.slice none 0 0), .raw (Value.int IntKind.i64 0)]) /\
 fI P 173 0 = some (0, some 1, some false) /\
 fI P 173 1 = some (1, some 1, some false) /\
 bE P 173 = some [(0, 1), (1, 1)] /\
 P.concrete 173 = true := by
 and_intros <;> kernel_rfl
def F3 : vI P 176 = some (1, false) /\
 zC P 176 = some [Value.nilFunc] /\
 zE P 176 = some (.raw Value.nilFunc) /\
 P.concrete 176 = true /\
 vI P 187 = some (2, true) /\
 zC P 187 = some [(Value.string ⟨#[]⟩), (Value.int IntKind.i64 0)] /\
 zE P 187 = some (.agg [.raw (Value.string ⟨#[]⟩), .raw (Value.int IntKind.i64 0)]) /\
 fI P 187 0 = some (0, some 1, some false) /\
 fI P 187 1 = some (1, some 1, some false) /\
 bE P 187 = some [(0, 1), (1, 1)] /\
 P.concrete 187 = true /\
 vI P 190 = some (1, false) /\
 zC P 190 = some [(Value.pointer none)] /\
 zE P 190 = some (.raw (Value.pointer none)) /\
 P.concrete 190 = true /\
 vI P 201 = some (1, false) /\
 zC P 201 = some [(Value.int IntKind.u64 0)] /\
 zE P 201 = some (.raw (Value.int IntKind.u64 0)) /\
 P.concrete 201 = true /\
 vI P 206 = some (1, false) /\
 zC P 206 = some [Value.nilIface] /\
 zE P 206 = some (.raw Value.nilIface) /\
 aXx P 206 = true /\
 vI P 218 = some (1, false) /\
 zC P 218 = some [(Value.map none)] /\
 zE P 218 = some (.raw (Value.map none)) /\
 P.concrete 218 = true /\
 vI P 219 = some (1, false) /\
 zC P 219 = some [(Value.pointer none)] /\
 zE P 219 = some (.raw (Value.pointer none)) /\
 P.concrete 219 = true /\
 vI P 226 = some (1, false) /\
 zC P 226 = some [(Value.pointer none)] /\
 zE P 226 = some (.raw (Value.pointer none)) /\
 P.concrete 226 = true /\
 vI P 243 = some (4, true) /\
 zC P 243 = some [(Value.int IntKind.i64 0), (Value.int IntKind.i64 0), (Value.int IntKind.i64 0), (Value.int IntKind.i64 0)] /\
 zE P 243 = some (.agg [.raw (Value.int IntKind.i64 0), .raw (Value.int IntKind.i64 0), .raw (Value.int IntKind.i64 0), .raw (Value.int IntKind.i64 0)]) /\
 P.concrete 243 = true /\
 vI P 244 = some (24, true) /\
 P.concrete 244 = true /\
 vI P 245 = some (1, false) /\
 zC P 245 = some [(Value.int IntKind.u64 0)] /\
 zE P 245 = some (.raw (Value.int IntKind.u64 0)) /\
 P.concrete 245 = true /\
 vI P 254 = some (20, true) /\
 P.concrete 254 = true /\
 vI P 255 = some (1, false) /\
 zC P 255 = some [(Value.int IntKind.u32 0)] /\
 zE P 255 = some (.raw (Value.int IntKind.u32 0)) /\
 P.concrete 255 = true /\
 vI P 256 = some (65, true) /\
 P.concrete 256 = true /\
 vI P 258 = some (1, false) /\
 zC P 258 = some [(Value.int IntKind.i64 0)] /\
 zE P 258 = some (.raw (Value.int IntKind.i64 0)) /\
 P.concrete 258 = true /\
 vI P 261 = some (1, false) /\
 zC P 261 = some [(Value.pointer none)] /\
 zE P 261 = some (.raw (Value.pointer none)) /\
 P.concrete 261 = true /\
 vI P 269 = some (3, true) /\
 zC P 269 = some [(Value.string ⟨#[]⟩), (Value.string ⟨#[]⟩), Value.nilIface] /\
 zE P 269 = some (.agg [.raw (Value.string ⟨#[]⟩), .raw (Value.string ⟨#[]⟩), .raw Value.nilIface]) /\
 fI P 269 0 = some (0, some 1, some false) /\
 fI P 269 1 = some (1, some 1, some false) /\
 fI P 269 2 = some (2, some 1, some false) /\
 bE P 269 = some [(0, 1), (1, 1), (2, 1)] /\
 P.concrete 269 = true /\
 vI P 271 = some (32, true) /\
 P.concrete 271 = true /\
 vI P 272 = some (64, true) /\
 P.concrete 272 = true /\
 vI P 274 = some (1, false) /\
 zC P 274 = some [(Value.pointer none)] /\
 zE P 274 = some (.raw (Value.pointer none)) /\
 P.concrete 274 = true /\
 vI P 276 = some (1, true) /\
 zC P 276 = some [(Value.string ⟨#[]⟩)] /\
 zE P 276 = some (.agg [.raw (Value.string ⟨#[]⟩)]) /\
 fI P 276 0 = some (0, some 1, some false) /\
 bE P 276 = some [(0, 1)] /\
 P.concrete 276 = true /\
 gE P 2 = some .i64 /\
 gE P 3 = some .i64 /\
 bLa P 4 = true /\
 gE P 5 = some .u8 /\
 gE P 21 = some .i32 /\
 gE P 201 = some .u64 /\
 lT P 218 = some (9, 3) := by
 and_intros <;> kernel_rfl
def F4 : gE P 245 = some .u64 /\
 gE P 255 = some .u32 /\
 gE P 258 = some .i64 := by
 and_intros <;> kernel_rfl
attribute [go_sem] F0 F1 F2 F3 F4
def mixed : P.follows .mixedOrders = true := kr
end
section
structure Entry where
  key : ByteArray
  seq : Int
  kind : Int
  text : ByteArray
  n : Int
deriving DecidableEq
structure Run where
  ents : List Entry
  mask : Int
deriving DecidableEq
structure Tree where
  seq : Int
  mem : List Entry
  levels : List (List Run)
  snaps : List Int
deriving DecidableEq
structure Disk where
  log : ByteArray
  safe : Int
  levels : List (List Run)
  seq : Int
deriving DecidableEq
structure Store where
  up : Bool
  tree : Tree
  disk : Disk
deriving DecidableEq
variable {α : Type} {G R A B C D F : Prop} {i : Nat} {xs : List α}
def inA (n : Int) : AV := .raw (.int .i64 n)
def enA (e : Entry) : AV := .agg [.raw (.string e.key), .raw (.int .i64 e.seq), .raw (.int .i64 e.kind), .raw (.string e.text), .raw (.int .i64 e.n)]
def Dq (h : R -> G := by intro k; simp only [go_sem, A3, B0, A2, A7, List.nil_append, enA]; exact k) : R -> G := h
def Dg (e : A) (f : B) (g : C) (i : D) (j : F) (h : A -> B -> C -> D -> F -> R -> G := by intro e f g i j k; simp only [go_sem, e, f, g, i, j, A2, E6, D3, enA]; exact k) : R -> G := h e f g i j
def Cp (e : A) (h : A -> R -> G := by intro e k; simp only [go_sem, e, Int.toNat_zero, enA]; exact k) : R -> G := h e
def Ck (e : A) (h : A -> G := by intro e; simp only [go_sem, e, List.map_cons, List.map_nil, enA]) : G := h e
def By (e : A) (f : B) (g : C) (i : D) (j : F) (h : A -> B -> C -> D -> F -> R -> G := by intro e f g i j k; simp only [go_sem, e, f, g, i, j, enA]; exact k) : R -> G := h e f g i j
def Bm (h : R -> G := by intro k; simp only [go_sem, enA]; exact k) : R -> G := h
def Bj (e : A) (f : B) (g : C) (h : A -> B -> C -> R -> G := by intro e f g k; simp only [go_sem, e, f, g, enA]; exact k) : R -> G := h e f g
def Bi (e : A) (f : B) (h : A -> B -> R -> G := by intro e f k; simp only [go_sem, e, f, enA]; exact k) : R -> G := h e f
def Bb (e : A) (f : B) (g : C) (i : D) (h : A -> B -> C -> D -> R -> G := by intro e f g i k; simp only [go_sem, e, f, g, i, enA]; exact k) : R -> G := h e f g i
def Aq (h : G := by simp only [go_sem, AObj.bel, AObj.ren, AV.ren, Int.natCast_zero, aA, sg] <;> simp [enA]) : G := h
def Ap (e : A) (h : A -> R -> G := by intro e k; simp only [go_sem, e, enA]; exact k) : R -> G := h e
def Ah (h : G := by simp only [go_sem, enA]) : G := h
def rA (r : Run) : AV := .agg [.sl 5 (r.ents.map enA), .raw (.int .i64 r.mask)]
def Dz (h : R -> G := by intro k; simp only [go_sem, A3, B0, A2, A7, List.nil_append, rA]; exact k) : R -> G := h
def Dj (e : A) (h : A -> R -> G := by intro e k; simp only [go_sem, e, A3, B0, A2, A7, List.nil_append, rA]; exact k) : R -> G := h e
def Db (h : G := by simp only [go_sem, AObj.bel, AObj.ren, AV.ren, Int.natCast_zero, aA, sg] <;> simp [rA]) : G := h
def Bw (h : R -> G := by intro k; simp only [go_sem, rA]; exact k) : R -> G := h
def Bc (e : A) (f : B) (g : C) (i : D) (h : A -> B -> C -> D -> R -> G := by intro e f g i k; simp only [go_sem, e, f, g, i, rA]; exact k) : R -> G := h e f g i
def Ao (e : A) (h : A -> R -> G := by intro e k; simp only [go_sem, e, rA]; exact k) : R -> G := h e
def Ac (h : G := by simp only [go_sem, rA]) : G := h
def runOwn (r : Run) : AV := .agg [.own 65 5 (r.ents.map enA), .raw (.int .i64 r.mask)]
def rsA (rs : List Run) : AV := .sl 2 (rs.map rA)
def Ef (h : G := by simp only [go_sem, Int.toNat_natCast, Int.toNat_zero, List.drop_zero, A2, C6, rsA, <- E5, <- D0]) : G := h
def Dp (e : A) (f : B) (h : A -> B -> R -> G := by intro e f k; simp only [go_sem, e, f, A3, B0, A2, H8, A7, List.nil_append, rA, rsA]; exact k) : R -> G := h e f
def Bt (h : R -> G := by intro k; simp only [go_sem, rsA]; exact k) : R -> G := h
def As (e : A) (h : A -> R -> G := by intro e k; simp only [go_sem, e, rsA]; exact k) : R -> G := h e
def Ai (h : G := by simp only [go_sem, rsA]) : G := h
def rsO (rs : List Run) : AV := .own 109 2 (rs.map runOwn)
def trA (t : Tree) : AV := .agg [.raw (.int .i64 t.seq), .sl 5 (t.mem.map enA), .sl 1 (t.levels.map rsA), .sl 1 (t.snaps.map inA)]
def Bv (h : G := by simp only [go_sem, List.map_cons, List.map_nil, rsA, trA]) : G := h
def Af (h : G := by simp only [go_sem, trA]) : G := h
def dkA (d : Disk) : AV := .agg [.raw (.string d.log), .raw (.int .i64 d.safe), .sl 1 (d.levels.map rsA), .raw (.int .i64 d.seq)]
def Av (h : G := by simp only [go_sem, dkA]) : G := h
def stA (s : Store) : AV := .agg [.raw (.bool s.up), .raw (.int .i64 s.tree.seq), .sl 5 (s.tree.mem.map enA), .sl 1 (s.tree.levels.map rsA), .sl 1 (s.tree.snaps.map inA), .raw (.string s.disk.log), .raw (.int .i64 s.disk.safe), .sl 1 (s.disk.levels.map rsA), .raw (.int .i64 s.disk.seq)]
def Dl (e : A) (h : A -> G := by intro e; simp only [go_sem, e, AObj.bel, AObj.ren, AV.ren, aA, sg, stA] <;> simp) : G := h e
def Br (h : R -> G := by intro k; simp only [go_sem, stA]; exact k) : R -> G := h
def Ae (h : G := by simp only [go_sem, stA]) : G := h
def pY {f : α -> AV} (h : ∀ U a, (f a).bel U) (U : Nat -> Prop) (ls : List α) : aE U (ls.map f) := by
  rw [bLi]; intro x hx; obtain ⟨l, _, rfl⟩ := B3.1 hx; exact h U l
def eS (U : Nat -> Prop) (e : Entry) : (enA e).bel U := ⟨trivial, trivial, trivial, trivial, trivial, trivial⟩
def enB (U : Nat -> Prop) (ls : List Entry) : aE U (ls.map enA) := pY eS U ls
def bZ (U : Nat -> Prop) (ls : List Int) : aE U (ls.map inA) := pY (f := inA) (fun _ _ => trivial) U ls
def aVo (U : Nat -> Prop) (r : Run) : (rA r).bel U := ⟨enB _ _, trivial, trivial⟩
def aYb (U : Nat -> Prop) (r : Run) : (runOwn r).bel U := ⟨enB _ _, trivial, trivial⟩
def bX (U : Nat -> Prop) (ls : List Run) : aE U (ls.map rA) := pY aVo U ls
def sS (U : Nat -> Prop) (ls : List Run) : aE U (ls.map runOwn) := pY aYb U ls
def aX (U : Nat -> Prop) (ls : List (List Run)) : aE U (ls.map rsA) := pY bX U ls
def iA (U : Nat -> Prop) (ls : List (List Run)) : aE U (ls.map rsO) := pY sS U ls
def gZ (σ : Nat -> Nat) (ls : List Entry) : aA σ (ls.map enA) = ls.map enA := dK σ (enB _ ls)
def jX (σ : Nat -> Nat) (ls : List Int) : aA σ (ls.map inA) = ls.map inA := dK σ (bZ _ ls)
def aQx (σ : Nat -> Nat) (ls : List Run) : aA σ (ls.map rA) = ls.map rA := dK σ (bX _ ls)
def aCb (σ : Nat -> Nat) (ls : List Run) : aA σ (ls.map runOwn) = ls.map runOwn := dK σ (sS _ ls)
def bAq (σ : Nat -> Nat) (ls : List (List Run)) : aA σ (ls.map rsA) = ls.map rsA := dK σ (aX _ ls)
def cY (σ : Nat -> Nat) (ls : List (List Run)) : aA σ (ls.map rsO) = ls.map rsO := dK σ (iA _ ls)
def De (h : R -> G := by intro k; simp only [go_sem, AObj.ren, AV.ren, gZ, jX, cY, sg, bH]; exact k) : R -> G := h
def bBx (ls : List Entry) : (ls.map enA).all AV.elem = true := by
  rw [List.all_map, C4]; intro l _; rfl
def bAx (ls : List Int) : (ls.map inA).all AV.elem = true := by
  rw [List.all_map, C4]; intro l _; rfl
def aKu (ls : List Run) : (ls.map rA).all AV.elem = true := by
  rw [List.all_map, C4]; intro l _; rfl
def aXm (ls : List (List Run)) : (ls.map rsA).all AV.elem = true := by
  rw [List.all_map, C4]; intro l _; rfl
def cF (ls : List Entry) : fzL (ls.map enA) = ls.map enA := by rw [tH]; rfl
def dH (ls : List Int) : fzL (ls.map inA) = ls.map inA := by rw [tH]; rfl
def bFy (r : Run) : (rA r).fz = rA r := by simp [rA, AV.fz, fzL, cF]
def bCs (r : Run) : (runOwn r).fz = rA r := by simp [rA, runOwn, AV.fz, fzL, cF]
def qS (ls : List Run) : fzL (ls.map rA) = ls.map rA := by rw [tH]; exact D9 fun r _ => bFy r
def Ed (e : A) (f : B) (h : A -> B -> R -> G := by intro e f k; simp only [go_sem, e, f, AV.fz, Int.toNat_natCast, Int.toNat_zero, List.drop_zero, A2, C6, fzL, qS, rsA, <- E5, <- D0]; exact k) : R -> G := h e f
def aGx (ls : List Run) : fzL (ls.map runOwn) = ls.map rA := by rw [tH]; exact D9 fun r _ => bCs r
def bFb (ls : List (List Run)) : fzL (ls.map rsA) = ls.map rsA := by rw [tH]; exact D9 fun r _ => by simp [rsA, AV.fz, qS]
def bK (ls : List (List Run)) : fzL (ls.map rsO) = ls.map rsA := by rw [tH]; exact D9 fun r _ => by simp [rsA, rsO, AV.fz, aGx]
attribute [go_sem] enB bZ bX sS aX iA gZ jX aQx aCb bAq cY bBx bAx aKu aXm cF dH qS aGx bFb bK
def Bz (h : R -> G := by intro k; simp only [go_sem, cF, dH, bK]; exact k) : R -> G := h
def rV {x : α} (h : xs[i]? = some x) : xs.drop i = x :: xs.drop (i + 1) := by
  obtain ⟨hlt, he⟩ := A9.1 h
  rw [List.drop_eq_getElem_cons hlt, he]
def ix (h : i < xs.length) : ∃ x, xs[i]? = some x /\ xs.drop i = x :: xs.drop (i + 1) /\ x ∈ xs :=
  ⟨xs[i], A1 h, rV (A1 h), D7 h⟩
def ixc (h : decide ((i : Int) < (xs.length : Int)) = true) : i < xs.length /\ ∃ x, xs[i]? = some x /\ xs.drop i = x :: xs.drop (i + 1) /\ x ∈ xs :=
  have hlt : i < xs.length := (by simpa using h)
  ⟨hlt, ix hlt⟩
def gec {n i : Nat} (h : decide ((i : Int) < (n : Int)) = false) : n <= i := Nat.not_lt.1 (by simpa using h)
def wiS (i : Nat) (h : (i : Int) < 9223372036854775807) : IntKind.i64.wrap ((i : Int) + 1) = ((i + 1 : Nat) : Int) := by rw [IntKind.wrap_i64]; omega
abbrev w64 := @IntKind.wrap_i64
end
def iZ (e : Entry) (left : Int) : Int := if left - (e.key.size : Int) < 0 then -1 else if left - e.key.size - (e.text.size : Int) < 0 then -1 else left - e.key.size - e.text.size
def qA {α : Type} (f : α -> Int -> Int) : List α -> Int -> Int
  | [], n => n
  | x :: r, n => if f x n < 0 then -1 else qA f r (f x n)
def szL {α : Type} (f : α -> Int -> Int) (ls : List α) (left : Int) : Int := if left - (ls.length : Int) < 0 then -1 else qA f ls (left - ls.length)
abbrev szEntryS := szL iZ
def qC (r : Run) (left : Int) : Int := if szEntryS r.ents left < 0 then -1 else szEntryS r.ents left
abbrev szRunS := szL qC
abbrev szRunSS := szL szRunS
def vY (ls : List Int) (left : Int) : Int := if left - (ls.length : Int) < 0 then -1 else left - ls.length
def gF (t : Tree) (left : Int) : Int := if szEntryS t.mem left < 0 then -1 else if szRunSS t.levels (szEntryS t.mem left) < 0 then -1 else vY t.snaps (szRunSS t.levels (szEntryS t.mem left))
def rZ (d : Disk) (left : Int) : Int := if left - (d.log.size : Int) < 0 then -1 else szRunSS d.levels (left - d.log.size)
def nE (s : Store) (left : Int) : Int := if gF s.tree left < 0 then -1 else rZ s.disk (gF s.tree left)
def Lq (x n : Int) : Prop := x <= n /\ -1 <= x
def bEx {α : Type} {f : α -> Int -> Int} (hf : ∀ x n, 0 <= n -> Lq (f x n) n) : ∀ (ls : List α) (n : Int), 0 <= n -> Lq (qA f ls n) n
  | [], n, h => ⟨Int.le_refl _, by simp only [qA]; omega⟩
  | x :: r, n, h => by
    unfold qA
    have h1 := hf x n h
    unfold Lq at *
    split
    . omega
    have := bEx hf r (f x n) og; unfold Lq at this; omega
def bBe {α : Type} {f : α -> Int -> Int} (hf : ∀ x n, 0 <= n -> Lq (f x n) n) (ls : List α) (n : Int) (h : 0 <= n) : Lq (szL f ls n) n := by
  unfold szL; split
  . unfold Lq; omega
  have := bEx hf ls (n - ls.length) og; unfold Lq at *; omega
def sH (e : Entry) (n : Int) (h : 0 <= n) : Lq (iZ e n) n := by unfold iZ Lq; split <;> (try split) <;> omega
def sW (ls : List Entry) (n : Int) (h : 0 <= n) : Lq (szEntryS ls n) n := bBe sH ls n h
def aFa (r : Run) (n : Int) (h : 0 <= n) : Lq (qC r n) n := by
  have := sW r.ents n h
  unfold qC Lq at *
  split <;> omega
def aAb (ls : List Run) (n : Int) (h : 0 <= n) : Lq (szRunS ls n) n := bBe aFa ls n h
def sQ (ls : List (List Run)) (n : Int) (h : 0 <= n) : Lq (szRunSS ls n) n := bBe aAb ls n h
def aRn (ls : List Int) (n : Int) (h : 0 <= n) : Lq (vY ls n) n := by unfold vY Lq; split <;> omega
def aGu (t : Tree) (n : Int) (h : 0 <= n) : Lq (gF t n) n := by
  have h1 := sW t.mem n h
  unfold gF; split
  . unfold Lq at *; omega
  have h2 := sQ t.levels (szEntryS t.mem n) (by unfold Lq at *; omega)
  split
  . unfold Lq at *; omega
  have h3 := aRn t.snaps (szRunSS t.levels (szEntryS t.mem n)) (by unfold Lq at *; omega)
  unfold Lq at *; omega
def aQi (d : Disk) (n : Int) (h : 0 <= n) : Lq (rZ d n) n := by
  unfold rZ; split
  . unfold Lq; omega
  have h2 := sQ d.levels (n - d.log.size) og
  unfold Lq at *; omega
def bRi (e : Entry) : Prop := e.key.size <= 9223372036854775807 /\ e.text.size <= 9223372036854775807
def aRp (ls : List Entry) : Prop := ls.length <= 9223372036854775807 /\ ∀ e ∈ ls, bRi e
def bPp (ls : List Run) : Prop := ls.length <= 9223372036854775807 /\ ∀ r ∈ ls, aRp r.ents
def bCf (ls : List (List Run)) : Prop := ls.length <= 9223372036854775807 /\ ∀ r ∈ ls, bPp r
def aOm (e : Entry) (left : Int) (h0 : 0 <= left) (h1 : left <= 1048576) (hz : bRi e) : aB P 26 [enA e, Ni left] [] 0 (Ni (iZ e left)) := by
 refine (pq 20 [.tmp 4] func26) ?_
 simp only [enA]
 obtain ⟨hz1, hz2⟩ := hz
 have hw := wr (left - (e.key.size : Int)) (left - e.key.size) og
 refine (aj) ?_
 refine sr rfl fun k2 => (Aa hw) (k2 (sq fun k3 => (aj) ((cdA) ?_ ?_))) <;> intro hc1
 . have n1 : left - (e.key.size : Int) < 0 := by simpa using hc1
   refine (aj) (wR ?_)
   refine fO ?_ trivial; simp only [go_sem, iZ, n1]
 have n1 : ¬ (left - (e.key.size : Int) < 0) := by simpa using hc1
 refine wk (k3 ?_)
 have hw2 := wr (left - (e.key.size : Int) - e.text.size) (left - e.key.size - e.text.size) og
 refine sr rfl fun k6 => (Aa hw2) (k6 (sq fun k7 => (aj) ((cdA) ?_ ?_))) <;> intro hc2
 . have n2 : left - (e.key.size : Int) - e.text.size < 0 := by simpa using hc2
   refine (aj) (wR ?_)
   refine fO ?_ trivial; simp only [go_sem, iZ, n1, n2]
 have n2 : ¬ (left - (e.key.size : Int) - e.text.size < 0) := by simpa using hc2
 refine wk (k7 ((aj) (wR ?_)))
 refine fO ?_ trivial; simp only [go_sem, iZ, n1, n2]
def xI (ls : List Entry) (left : Int) (h0 : 0 <= left) (h1 : left <= 1048576) (hz : aRp ls) : aB P 8 [.sl 5 (ls.map enA), Ni left] [] 0 (Ni (szL iZ ls left)) := by
 refine (pq 27 [.tmp 4] func8) ?_
 obtain ⟨hlen, hz⟩ := hz
 have hw0 := wr (left - (ls.length : Int)) (left - ls.length) og
 refine (aj) ?_
 refine sr rfl fun k2 => (Aa hw0) (k2 (sq fun k3 => (aj) ((cdA) ?_ ?_))) <;> intro hc1
 . have n1 : left - (ls.length : Int) < 0 := by simpa using hc1
   refine (aj) (wR ?_)
   refine fO ?_ trivial; simp only [go_sem, szL, n1]
 have n1 : ¬ (left - (ls.length : Int) < 0) := by simpa using hc1
 refine wk (k3 (sq fun k6 => (aj) (wb ?_)))
 refine wl (α := Nat × Int) (fun x => x.1 <= ls.length /\ 0 <= x.2 /\ x.2 <= 1048576 /\ qA iZ (ls.drop x.1) x.2 = qA iZ ls (left - ls.length)) (fun x => ls.length - x.1) (fun x => ([(0, .sl 5 (ls.map enA)), (1, Ni x.2), (5, Ni (x.1 : Int))], [])) 0 (0, left - ls.length) ⟨A6 _, og, by simp only; omega, by simp⟩ [] ?_ ?_
 . exact jc
 rintro ⟨i, n⟩ ⟨hi, hn0, hn1, hfold⟩
 simp only at hi hn0 hn1 hfold ⊢
 refine sq fun k8 => (aj) ((cdB) ?_ ?_) <;> intro hc2
 . have hge := gec hc2
   refine we ((jt) (k6 ((aj) (wR ?_))))
   rw [E9 hge, qA] at hfold; refine fO ?_ trivial; simp only [go_sem, szL, if_neg n1, <- hfold]
 obtain ⟨hlt, l, hl, hdrop, hml⟩ := ixc hc2
 refine wk (k8 (sq fun k10 => wb (sr rfl fun k11 => (Ap hl) ((jr) ?_))))
 refine (vr rfl rfl rfl func26 (aOm l n hn0 hn1 (hz l hml)) rfl Ah) ((jr) (k11 ((aj) ((cdA) ?_ ?_)))) <;> intro hc3
 . have n3 : iZ l n < 0 := by simpa using hc3
   refine (aj) (wR ((Ad) ?_))
   rw [hdrop, qA, if_pos n3] at hfold; refine fO ?_ trivial; simp only [go_sem, szL, if_neg n1, <- hfold]
 have n3 : ¬ (iZ l n < 0) := by simpa using hc3
 refine wk ((jt) (k10 ((jw (wiS i og)) ((jt) ?_))))
 refine ⟨(i + 1, iZ l n), ⟨og, by simp only; omega, by have := (sH l n hn0).1; simp only; omega, by rw [hdrop, qA, if_neg n3] at hfold; exact hfold⟩, og, [], ?_⟩
 exact jo
def aUq (r : Run) (left : Int) (h0 : 0 <= left) (h1 : left <= 1048576) (hz : aRp r.ents) : aB P 148 [rA r, Ni left] [] 0 (Ni (qC r left)) := by
 refine (pq 12 [.tmp 4] func148) ?_
 simp only [rA]
 refine (aj) ?_
 refine sr rfl fun k2 => (ja) ?_
 refine (vr rfl rfl rfl func8 (xI r.ents left h0 h1 hz) rfl oG) (k2 (sq fun k3 => (aj) ((cdA) ?_ ?_))) <;> intro hc1
 . have n1 : szEntryS r.ents left < 0 := by simpa using hc1
   refine (aj) (wR ?_)
   refine fO ?_ trivial; simp only [go_sem, qC, n1]
 have n1 : ¬ (szEntryS r.ents left < 0) := by simpa using hc1
 refine wk (k3 ((aj) (wR ?_)))
 refine fO ?_ trivial; simp only [go_sem, qC, n1]
def aPx (ls : List Run) (left : Int) (h0 : 0 <= left) (h1 : left <= 1048576) (hz : bPp ls) : aB P 95 [.sl 2 (ls.map rA), Ni left] [] 0 (Ni (szL qC ls left)) := by
 refine (pq 27 [.tmp 4] func95) ?_
 obtain ⟨hlen, hz⟩ := hz
 have hw0 := wr (left - (ls.length : Int)) (left - ls.length) og
 refine (aj) ?_
 refine sr rfl fun k2 => (Aa hw0) (k2 (sq fun k3 => (aj) ((cdA) ?_ ?_))) <;> intro hc1
 . have n1 : left - (ls.length : Int) < 0 := by simpa using hc1
   refine (aj) (wR ?_)
   refine fO ?_ trivial; simp only [go_sem, szL, n1]
 have n1 : ¬ (left - (ls.length : Int) < 0) := by simpa using hc1
 refine wk (k3 (sq fun k6 => (aj) (wb ?_)))
 refine wl (α := Nat × Int) (fun x => x.1 <= ls.length /\ 0 <= x.2 /\ x.2 <= 1048576 /\ qA qC (ls.drop x.1) x.2 = qA qC ls (left - ls.length)) (fun x => ls.length - x.1) (fun x => ([(0, .sl 2 (ls.map rA)), (1, Ni x.2), (5, Ni (x.1 : Int))], [])) 0 (0, left - ls.length) ⟨A6 _, og, by simp only; omega, by simp⟩ [] ?_ ?_
 . exact jc
 rintro ⟨i, n⟩ ⟨hi, hn0, hn1, hfold⟩
 simp only at hi hn0 hn1 hfold ⊢
 refine sq fun k8 => (aj) ((cdB) ?_ ?_) <;> intro hc2
 . have hge := gec hc2
   refine we ((jt) (k6 ((aj) (wR ?_))))
   rw [E9 hge, qA] at hfold; refine fO ?_ trivial; simp only [go_sem, szL, if_neg n1, <- hfold]
 obtain ⟨hlt, l, hl, hdrop, hml⟩ := ixc hc2
 refine wk (k8 (sq fun k10 => wb (sr rfl fun k11 => (Ao hl) ((jr) ?_))))
 refine (vr rfl rfl rfl func148 (aUq l n hn0 hn1 (hz l hml)) rfl Ac) ((jr) (k11 ((aj) ((cdA) ?_ ?_)))) <;> intro hc3
 . have n3 : qC l n < 0 := by simpa using hc3
   refine (aj) (wR ((Ad) ?_))
   rw [hdrop, qA, if_pos n3] at hfold; refine fO ?_ trivial; simp only [go_sem, szL, if_neg n1, <- hfold]
 have n3 : ¬ (qC l n < 0) := by simpa using hc3
 refine wk ((jt) (k10 ((jw (wiS i og)) ((jt) ?_))))
 refine ⟨(i + 1, qC l n), ⟨og, by simp only; omega, by have := (aFa l n hn0).1; simp only; omega, by rw [hdrop, qA, if_neg n3] at hfold; exact hfold⟩, og, [], ?_⟩
 exact jo
def xY (ls : List (List Run)) (left : Int) (h0 : 0 <= left) (h1 : left <= 1048576) (hz : bCf ls) : aB P 56 [.sl 1 (ls.map rsA), Ni left] [] 0 (Ni (szL szRunS ls left)) := by
 refine (pq 27 [.tmp 4] func56) ?_
 obtain ⟨hlen, hz⟩ := hz
 have hw0 := wr (left - (ls.length : Int)) (left - ls.length) og
 refine (aj) ?_
 refine sr rfl fun k2 => (Aa hw0) (k2 (sq fun k3 => (aj) ((cdA) ?_ ?_))) <;> intro hc1
 . have n1 : left - (ls.length : Int) < 0 := by simpa using hc1
   refine (aj) (wR ?_)
   refine fO ?_ trivial; simp only [go_sem, szL, n1]
 have n1 : ¬ (left - (ls.length : Int) < 0) := by simpa using hc1
 refine wk (k3 (sq fun k6 => (aj) (wb ?_)))
 refine wl (α := Nat × Int) (fun x => x.1 <= ls.length /\ 0 <= x.2 /\ x.2 <= 1048576 /\ qA szRunS (ls.drop x.1) x.2 = qA szRunS ls (left - ls.length)) (fun x => ls.length - x.1) (fun x => ([(0, .sl 1 (ls.map rsA)), (1, Ni x.2), (5, Ni (x.1 : Int))], [])) 0 (0, left - ls.length) ⟨A6 _, og, by simp only; omega, by simp⟩ [] ?_ ?_
 . exact jc
 rintro ⟨i, n⟩ ⟨hi, hn0, hn1, hfold⟩
 simp only at hi hn0 hn1 hfold ⊢
 refine sq fun k8 => (aj) ((cdB) ?_ ?_) <;> intro hc2
 . have hge := gec hc2
   refine we ((jt) (k6 ((aj) (wR ?_))))
   rw [E9 hge, qA] at hfold; refine fO ?_ trivial; simp only [go_sem, szL, if_neg n1, <- hfold]
 obtain ⟨hlt, l, hl, hdrop, hml⟩ := ixc hc2
 refine wk (k8 (sq fun k10 => wb (sr rfl fun k11 => (As hl) ((jr) ?_))))
 refine (vr rfl rfl rfl func95 (aPx l n hn0 hn1 (hz l hml)) rfl Ai) ((jr) (k11 ((aj) ((cdA) ?_ ?_)))) <;> intro hc3
 . have n3 : szRunS l n < 0 := by simpa using hc3
   refine (aj) (wR ((Ad) ?_))
   rw [hdrop, qA, if_pos n3] at hfold; refine fO ?_ trivial; simp only [go_sem, szL, if_neg n1, <- hfold]
 have n3 : ¬ (szRunS l n < 0) := by simpa using hc3
 refine wk ((jt) (k10 ((jw (wiS i og)) ((jt) ?_))))
 refine ⟨(i + 1, szRunS l n), ⟨og, by simp only; omega, by have := (aAb l n hn0).1; simp only; omega, by rw [hdrop, qA, if_neg n3] at hfold; exact hfold⟩, og, [], ?_⟩
 exact jo
def aPr (ls : List Int) (left : Int) (h0 : 0 <= left) (h1 : left <= 1048576) (hz : ls.length <= 9223372036854775807) : aB P 57 [.sl 1 (ls.map inA), Ni left] [] 0 (Ni (vY ls left)) := by
 refine (pq 12 [.tmp 4] func57) ?_
 have hw0 := wr (left - (ls.length : Int)) (left - ls.length) og
 refine (aj) ?_
 refine sr rfl fun k2 => (Aa hw0) (k2 (sq fun k3 => (aj) ((cdA) ?_ ?_))) <;> intro hc1
 . have n1 : left - (ls.length : Int) < 0 := by simpa using hc1
   refine (aj) (wR ?_)
   refine fO ?_ trivial; simp only [go_sem, vY, n1]
 have n1 : ¬ (left - (ls.length : Int) < 0) := by simpa using hc1
 refine wk (k3 ((aj) (wR ?_)))
 refine fO ?_ trivial; simp only [go_sem, vY, n1]
def aQc (t : Tree) (left : Int) (h0 : 0 <= left) (h1 : left <= 1048576) (hz1 : aRp t.mem) (hz2 : bCf t.levels) (hz3 : t.snaps.length <= 9223372036854775807) : aB P 24 [trA t, Ni left] [] 0 (Ni (gF t left)) := by
 refine (pq 24 [.tmp 4] func24) ?_
 simp only [trA]
 have b1 := sW t.mem left h0
 refine (aj) ?_
 refine sr rfl fun k2 => (ja) ?_
 refine (vr rfl rfl rfl func8 (xI t.mem left h0 h1 hz1) rfl oG) (k2 (sq fun k3 => (aj) ((cdA) ?_ ?_))) <;> intro hc1
 . have n1 : szEntryS t.mem left < 0 := by simpa using hc1
   refine (aj) (wR ?_)
   refine fO ?_ trivial; simp only [go_sem, gF, n1]
 have n1 : ¬ (szEntryS t.mem left < 0) := by simpa using hc1
 refine wk (k3 ?_)
 have b2 := sQ t.levels (szEntryS t.mem left) og
 refine sr rfl fun k6 => (ja) ?_
 refine (vr rfl rfl rfl func56 (xY t.levels (szEntryS t.mem left) og (by unfold Lq at b1; omega) hz2) rfl oG) (k6 (sq fun k7 => (aj) ((cdA) ?_ ?_))) <;> intro hc2
 . have n2 : szRunSS t.levels (szEntryS t.mem left) < 0 := by simpa using hc2
   refine (aj) (wR ?_)
   refine fO ?_ trivial; simp only [go_sem, gF, n1, n2]
 have n2 : ¬ (szRunSS t.levels (szEntryS t.mem left) < 0) := by simpa using hc2
 refine wk (k7 (sr rfl fun k10 => (ja) ?_))
 refine (vr rfl rfl rfl func57 (aPr t.snaps (szRunSS t.levels (szEntryS t.mem left)) og (by unfold Lq at b1 b2; omega) hz3) rfl oG) (k10 (sq fun k11 => (aj) ((cdB) ?_ ?_))) <;> intro hc3
 . have n3 : ¬ (vY t.snaps (szRunSS t.levels (szEntryS t.mem left)) < 0) := by simpa using hc3
   refine wk (k11 ((aj) (wR ?_)))
   refine fO ?_ trivial; simp only [go_sem, gF, n1, n2]
 have n3 : vY t.snaps (szRunSS t.levels (szEntryS t.mem left)) < 0 := by simpa using hc3
 refine (aj) (wR ?_)
 have b3 : gF t left = -1 := by
   have := aRn t.snaps (szRunSS t.levels (szEntryS t.mem left)) og
   rw [gF, if_neg n1, if_neg n2]; unfold Lq at this; omega
 refine fO ?_ trivial
 exact Ab b3
def aQh (d : Disk) (left : Int) (h0 : 0 <= left) (h1 : left <= 1048576) (hz1 : d.log.size <= 9223372036854775807) (hz2 : bCf d.levels) : aB P 25 [dkA d, Ni left] [] 0 (Ni (rZ d left)) := by
 refine (pq 19 [.tmp 4] func25) ?_
 simp only [dkA]
 have hw0 := wr (left - (d.log.size : Int)) (left - d.log.size) og
 refine (aj) ?_
 refine sr rfl fun k2 => (Aa hw0) (k2 (sq fun k3 => (aj) ((cdA) ?_ ?_))) <;> intro hc1
 . have n1 : left - (d.log.size : Int) < 0 := by simpa using hc1
   refine (aj) (wR ?_)
   refine fO ?_ trivial; simp only [go_sem, rZ, n1]
 have n1 : ¬ (left - (d.log.size : Int) < 0) := by simpa using hc1
 refine wk (k3 (sr rfl fun k6 => (ja) ?_))
 refine (vr rfl rfl rfl func56 (xY d.levels (left - d.log.size) og og hz2) rfl oG) (k6 (sq fun k7 => (aj) ((cdB) ?_ ?_))) <;> intro hc2
 . have n2 : ¬ (szRunSS d.levels (left - d.log.size) < 0) := by simpa using hc2
   refine wk (k7 ((aj) (wR ?_)))
   refine fO ?_ trivial; simp only [go_sem, rZ, n1]
 have n2 : szRunSS d.levels (left - d.log.size) < 0 := by simpa using hc2
 refine (aj) (wR ?_)
 have b3 : rZ d left = -1 := by
   have := sQ d.levels (left - d.log.size) og
   rw [rZ, if_neg n1]; unfold Lq at this; omega
 refine fO ?_ trivial
 exact Ab b3
def aLe (s : Store) (left : Int) (h0 : 0 <= left) (h1 : left <= 1048576) (hz1 : aRp s.tree.mem) (hz2 : bCf s.tree.levels) (hz3 : s.tree.snaps.length <= 9223372036854775807) (hz4 : s.disk.log.size <= 9223372036854775807) (hz5 : bCf s.disk.levels) : aB P 7 [stA s, Ni left] [] 0 (Ni (nE s left)) := by
 refine (pq 18 [.tmp 4] func7) ?_
 simp only [stA]
 have b1 := aGu s.tree left h0
 refine (aj) ?_
 refine sr rfl fun k2 => (ja) ?_
 refine (vr rfl rfl rfl func24 (aQc s.tree left h0 h1 hz1 hz2 hz3) Af Af) (k2 (sq fun k3 => (aj) ((cdA) ?_ ?_))) <;> intro hc1
 . have n1 : gF s.tree left < 0 := by simpa using hc1
   refine (aj) (wR ?_)
   refine fO ?_ trivial; simp only [go_sem, nE, n1]
 have n1 : ¬ (gF s.tree left < 0) := by simpa using hc1
 refine wk (k3 (sr rfl fun k6 => (ja) ?_))
 refine (vr rfl rfl rfl func25 (aQh s.disk (gF s.tree left) og (by unfold Lq at b1; omega) hz4 hz5) Av Av) (k6 (sq fun k7 => (aj) ((cdB) ?_ ?_))) <;> intro hc2
 . have n2 : ¬ (rZ s.disk (gF s.tree left) < 0) := by simpa using hc2
   refine wk (k7 ((aj) (wR ?_)))
   refine fO ?_ trivial; simp only [go_sem, nE, n1]
 have n2 : rZ s.disk (gF s.tree left) < 0 := by simpa using hc2
 refine (aj) (wR ?_)
 have b3 : nE s left = -1 := by
   have := aQi s.disk (gF s.tree left) og
   rw [nE, if_neg n1]; unfold Lq at this; omega
 refine fO ?_ trivial
 exact Ab b3
section
variable {α : Type} {z : AV} {i : Nat} {xs : List α}
def mix (f : α -> AV) (xs : List α) (z : AV) (i : Nat) : List AV := (xs.take i).map f ++ List.replicate (xs.length - i) z
def aEd (f : α -> AV) (xs : List α) (z : AV) : mix f xs z 0 = List.replicate xs.length z := by simp [mix]
def aJy (f : α -> AV) (xs : List α) (z : AV) : mix f xs z xs.length = xs.map f := by simp [mix]
def aKb (f : α -> AV) (h : i <= xs.length) : (mix f xs z i).length = xs.length := by simp [mix]; omega
def aJt (f : α -> AV) (h : i < xs.length) : (mix f xs z i)[i]? = some z := by
  unfold mix
  have hl : ((xs.take i).map f).length = i := by rw [A2, A7]; omega
  rw [G7 og, hl, Nat.sub_self, List.getElem?_replicate, if_pos og]
def aKf (f : α -> AV) {x : α} (h : xs[i]? = some x) : (mix f xs z i).set i (f x) = mix f xs z (i + 1) := by
  have hlt := (A9.1 h).1
  have hl : ((xs.take i).map f).length = i := by rw [A2, A7]; omega
  unfold mix; rw [List.set_append_right _ _ og, hl, Nat.sub_self, E7, h]
  have hr : xs.length - i = (xs.length - (i + 1)) + 1 := by omega
  rw [hr, List.replicate_succ, List.set_cons_zero]
  simp
abbrev aWb : AV := .agg [.raw (.string ⟨#[]⟩), .raw (.int .i64 0), .raw (.int .i64 0), .raw (.string ⟨#[]⟩), .raw (.int .i64 0)]
abbrev aZg : AV := .agg [.raw (.slice none 0 0), .raw (.int .i64 0)]
abbrev zSl : AV := .raw (.slice none 0 0)
abbrev aYl : AV := .raw (.int .i64 0)
def aEa (U : Nat -> Prop) (n : Nat) (h : z.bel U) : aE U (List.replicate n z) := by
  rw [bLi]; intro x hx; rw [(List.mem_replicate.1 hx).2]; exact h
def aJv {f : α -> AV} (U : Nat -> Prop) (xs : List α) (i : Nat) (hf : ∀ U a, (f a).bel U) (hz : z.bel U) : aE U (mix f xs z i) := by
  unfold mix
  rw [bLi]; intro x hx
  rcases B4.1 hx with h | h
  . exact bLi.1 (pY hf U (xs.take i)) x h
  exact bLi.1 (aEa U _ hz) x h
def bJm (U : Nat -> Prop) (ls : List Entry) (i : Nat) : aE U (mix enA ls aWb i) := aJv U ls i eS ⟨trivial, trivial, trivial, trivial, trivial, trivial⟩
def bIk (U : Nat -> Prop) (ls : List Run) (i : Nat) : aE U (mix runOwn ls aZg i) := aJv U ls i aYb ⟨trivial, trivial, trivial⟩
def bLb (U : Nat -> Prop) (ls : List (List Run)) (i : Nat) : aE U (mix rsO ls zSl i) := aJv U ls i sS trivial
def bJa (U : Nat -> Prop) (ls : List Int) (i : Nat) : aE U (mix inA ls aYl i) := aJv U ls i (fun _ _ => trivial) trivial
def bJo (U : Nat -> Prop) (n : Nat) : aE U (List.replicate n aWb) := aEa U n ⟨trivial, trivial, trivial, trivial, trivial, trivial⟩
def bLh (U : Nat -> Prop) (n : Nat) : aE U (List.replicate n aZg) := aEa U n ⟨trivial, trivial, trivial⟩
def bMi (U : Nat -> Prop) (n : Nat) : aE U (List.replicate n zSl) := aEa U n trivial
def bLv (U : Nat -> Prop) (n : Nat) : aE U (List.replicate n aYl) := aEa U n trivial
def gY (ls : List Entry) : Prop := ls.length <= 1048576 /\ ∀ e ∈ ls, e.key.size <= 1048576 /\ e.text.size <= 1048576
def xB (ls : List Run) : Prop := ls.length <= 1048576 /\ ∀ r ∈ ls, gY r.ents
def qJ (ls : List (List Run)) : Prop := ls.length <= 1048576 /\ ∀ r ∈ ls, xB r
def aMi (e : Entry) : aB P 32 [enA e] [] 0 (enA e) := by
 refine (pq 20 [.cell 2 65] func32) ?_
 simp only [enA]
 refine (aj) ((aj) ((aj) ((aj) ((aj) ((aj) ((aj) ((aj) (wR ?_))))))))
 refine fO ?_ ⟨trivial, trivial, trivial, trivial, trivial, trivial⟩
 exact Ah
def xO (ls : List Entry) (hs : gY ls) : aH P 11 [.sl 5 (ls.map enA)] [] 0 (.ref 0) [(0, .row 65 5 (ls.map enA))] 1 := by
 refine (gq 23 [.tmp 2] func11) ?_
 have hmx := mxl
 have hlen := hs.1
 refine (aj) ?_
 refine sr rfl fun k2 => (ja) ?_
 refine ⟨⟨og, og, og, by simp [maxLen]; omega⟩, ?_⟩
 refine k2 (sq fun k3 => (aj) (wb ?_))
 refine wn ls.length (fun x => ([(0, .sl 5 (ls.map enA)), (3, .ref 0), (4, Ni (x : Int))], [(0, .row 65 5 (mix enA ls aWb x))])) 1 [] ?_ ?_
 . rw [aEd]
   simp only [go_sem, AObj.bel, Nat.reduceLeDiff, Nat.reduceLT, Nat.reduceAdd, bJo, Int.natCast_zero] <;> simp [bJo]
 rintro i hi
 refine sq fun k5 => (aj) ((cdB) ?_ ?_) <;> intro hc1
 . have hge := gec hc1
   refine we ((jt) (k3 ((aj) (wR ?_))))
   have hie : i = ls.length := by omega
   subst hie; rw [aJy]; refine ⟨[], ?_⟩; exact Bs
 obtain ⟨hlt, l, hl, hdrop, hml⟩ := ixc hc1
 have hmg := aJt enA (z := aWb) hlt
 have hms := aKf enA (z := aWb) hl
 have hml2 := aKb enA (xs := ls) (z := aWb) hi
 refine wk (k5 (sq fun k7 => wb (wg rfl ((Ap hl) ?_))))
 repeat (first | refine ⟨og, ?_⟩ | refine ⟨fun hg => by (try simp at hg); omega, ?_⟩)
 refine vs rfl rfl rfl func32 (aMi l) Ah Ah ?_
 refine (Bi hmg hml2) ?_
 repeat (first | refine ⟨og, ?_⟩ | refine ⟨fun hg => by (try simp at hg); omega, ?_⟩)
 have hms' : (mix enA ls aWb i).set i (.agg [.raw (.string l.key), .raw (.int .i64 l.seq), .raw (.int .i64 l.kind), .raw (.string l.text), .raw (.int .i64 l.n)]) = mix enA ls aWb (i + 1) := hms
 rw [hms']
 refine (jt) (k7 ((jw (wiS i og)) ((jt) ?_)))
 refine ⟨i + 1, og, og, [], ?_⟩
 simp only [go_sem, AObj.bel, Nat.reduceLeDiff, Nat.reduceLT, Nat.reduceAdd, bJm] <;> simp
def aPm (ls : List Int) (hs : ls.length <= 1048576) : aH P 67 [.sl 1 (ls.map inA)] [] 0 (.ref 0) [(0, .row 3 1 (ls.map inA))] 1 := by
 refine (gq 22 [.tmp 2] func67) ?_
 have hmx := mxl
 have hlen := hs
 refine (aj) ?_
 refine sr rfl fun k2 => (ja) ?_
 refine ⟨⟨og, og, og, by simp [maxLen]; omega⟩, ?_⟩
 refine k2 (sq fun k3 => (aj) (wb ?_))
 refine wn ls.length (fun x => ([(0, .sl 1 (ls.map inA)), (3, .ref 0), (4, Ni (x : Int))], [(0, .row 3 1 (mix inA ls aYl x))])) 1 [] ?_ ?_
 . rw [aEd]
   simp only [go_sem, AObj.bel, Nat.reduceLeDiff, Nat.reduceLT, Nat.reduceAdd, bLv, Int.natCast_zero] <;> simp [bLv]
 rintro i hi
 refine sq fun k5 => (aj) ((cdB) ?_ ?_) <;> intro hc1
 . have hge := gec hc1
   refine we ((jt) (k3 ((aj) (wR ?_))))
   have hie : i = ls.length := by omega
   subst hie; rw [aJy]; refine ⟨[], ?_⟩; exact Bs
 obtain ⟨hlt, l, hl, hdrop, hml⟩ := ixc hc1
 have hmg := aJt inA (z := aYl) hlt
 have hms := aKf inA (z := aYl) hl
 have hml2 := aKb inA (xs := ls) (z := aYl) hi
 refine wk (k5 (sq fun k7 => wb (wg rfl ?_)))
 simp only [go_sem, hl, hmg, hml2, inA]
 repeat (first | refine ⟨og, ?_⟩ | refine ⟨fun hg => by (try simp at hg); omega, ?_⟩)
 have hms' : (mix inA ls aYl i).set i (.raw (.int .i64 l)) = mix inA ls aYl (i + 1) := hms
 rw [hms']
 refine (jt) (k7 ((jw (wiS i og)) ((jt) ?_)))
 refine ⟨i + 1, og, og, [], ?_⟩
 simp only [go_sem, AObj.bel, Nat.reduceLeDiff, Nat.reduceLT, Nat.reduceAdd, bJa] <;> simp
def aUo (r : Run) (hs : gY r.ents) : aH P 159 [rA r] [] 0 (.agg [.ref 0, Ni r.mask]) [(0, .row 65 5 (r.ents.map enA))] 1 := by
 refine (gq 12 [.cell 2 109] func159) ?_
 simp only [rA]
 refine (aj) ((aj) ?_)
 refine sr rfl fun k3 => (ja) ?_
 refine vn 1 rfl rfl rfl ⟨func11, rfl, rfl⟩ (xO r.ents hs) oG oG oS dg ?_
 refine (jn) (k3 ((aj) ((aj) (wR ?_))))
 refine ⟨[(0, 3)], ?_⟩
 exact jz
def aPi (ls : List Run) (hs : xB ls) : aH P 111 [.sl 2 (ls.map rA)] [] 0 (.ref 0) [(0, .row 109 2 (ls.map runOwn))] 1 := by
 refine (gq 23 [.tmp 2] func111) ?_
 have hmx := mxl
 have hlen := hs.1
 refine (aj) ?_
 refine sr rfl fun k2 => (ja) ?_
 refine ⟨⟨og, og, og, by simp [maxLen]; omega⟩, ?_⟩
 refine k2 (sq fun k3 => (aj) (wb ?_))
 refine wn ls.length (fun x => ([(0, .sl 2 (ls.map rA)), (3, .ref 0), (4, Ni (x : Int))], [(0, .row 109 2 (mix runOwn ls aZg x))])) 1 [] ?_ ?_
 . rw [aEd]
   simp only [go_sem, AObj.bel, Nat.reduceLeDiff, Nat.reduceLT, Nat.reduceAdd, bLh, Int.natCast_zero] <;> simp [bLh]
 rintro i hi
 refine sq fun k5 => (aj) ((cdB) ?_ ?_) <;> intro hc1
 . have hge := gec hc1
   refine we ((jt) (k3 ((aj) (wR ?_))))
   have hie : i = ls.length := by omega
   subst hie; rw [aJy]; refine ⟨[], ?_⟩; exact Bs
 obtain ⟨hlt, l, hl, hdrop, hml⟩ := ixc hc1
 have hmg := aJt runOwn (z := aZg) hlt
 have hms := aKf runOwn (z := aZg) hl
 have hml2 := aKb runOwn (xs := ls) (z := aZg) hi
 refine wk (k5 (sq fun k7 => wb (wg rfl ((Ao hl) ?_))))
 repeat (first | refine ⟨og, ?_⟩ | refine ⟨fun hg => by (try simp at hg); omega, ?_⟩)
 refine vn 1 rfl rfl rfl ⟨func159, rfl, rfl⟩ (aUo l (hs.2 l hml)) Ac Ac oS dg ?_
 simp only [go_sem, AV.ren, AObj.ren, aA, shift, sg, A0, Nat.add_zero, Nat.sub_self, hmg, hml2]
 repeat (first | refine ⟨og, ?_⟩ | refine ⟨fun hg => by (try simp at hg); omega, ?_⟩)
 have hms' : (mix runOwn ls aZg i).set i (.agg [.own 65 5 (l.ents.map enA), .raw (.int .i64 l.mask)]) = mix runOwn ls aZg (i + 1) := hms
 rw [hms']
 refine (jt) (k7 ((jw (wiS i og)) ((jt) ?_)))
 refine ⟨i + 1, og, og, [], ?_⟩
 simp only [go_sem, AObj.bel, Nat.reduceLeDiff, Nat.reduceLT, Nat.reduceAdd, bIk] <;> simp
def yN (ls : List (List Run)) (hs : qJ ls) : aH P 66 [.sl 1 (ls.map rsA)] [] 0 (.ref 0) [(0, .row 107 1 (ls.map rsO))] 1 := by
 refine (gq 23 [.tmp 2] func66) ?_
 have hmx := mxl
 have hlen := hs.1
 refine (aj) ?_
 refine sr rfl fun k2 => (ja) ?_
 refine ⟨⟨og, og, og, by simp [maxLen]; omega⟩, ?_⟩
 refine k2 (sq fun k3 => (aj) (wb ?_))
 refine wn ls.length (fun x => ([(0, .sl 1 (ls.map rsA)), (3, .ref 0), (4, Ni (x : Int))], [(0, .row 107 1 (mix rsO ls zSl x))])) 1 [] ?_ ?_
 . rw [aEd]
   simp only [go_sem, AObj.bel, Nat.reduceLeDiff, Nat.reduceLT, Nat.reduceAdd, bMi, Int.natCast_zero] <;> simp [bMi]
 rintro i hi
 refine sq fun k5 => (aj) ((cdB) ?_ ?_) <;> intro hc1
 . have hge := gec hc1
   refine we ((jt) (k3 ((aj) (wR ?_))))
   have hie : i = ls.length := by omega
   subst hie; rw [aJy]; refine ⟨[], ?_⟩; exact Bs
 obtain ⟨hlt, l, hl, hdrop, hml⟩ := ixc hc1
 have hmg := aJt rsO (z := zSl) hlt
 have hms := aKf rsO (z := zSl) hl
 have hml2 := aKb rsO (xs := ls) (z := zSl) hi
 refine wk (k5 (sq fun k7 => wb (wg rfl ((As hl) ?_))))
 repeat (first | refine ⟨og, ?_⟩ | refine ⟨fun hg => by (try simp at hg); omega, ?_⟩)
 refine vn 1 rfl rfl rfl ⟨func111, rfl, rfl⟩ (aPi l (hs.2 l hml)) Ai Ai oS dg ?_
 simp only [go_sem, AV.ren, AObj.ren, aA, shift, sg, A0, Nat.add_zero, Nat.sub_self, hmg, hml2]
 repeat (first | refine ⟨og, ?_⟩ | refine ⟨fun hg => by (try simp at hg); omega, ?_⟩)
 have hms' : (mix rsO ls zSl i).set i (.own 109 2 (l.map runOwn)) = mix rsO ls zSl (i + 1) := hms
 rw [hms']
 refine (jt) (k7 ((jw (wiS i og)) ((jt) ?_)))
 refine ⟨i + 1, og, og, [], ?_⟩
 simp only [go_sem, AObj.bel, Nat.reduceLeDiff, Nat.reduceLT, Nat.reduceAdd, bLb] <;> simp
def aPa (t : Tree) (h1 : gY t.mem) (h2 : qJ t.levels) (h3 : t.snaps.length <= 1048576) : aH P 30 [trA t] [] 0 (.agg [Ni t.seq, .ref 0, .ref 1, .ref 2]) [(0, .row 65 5 (t.mem.map enA)), (1, .row 107 1 (t.levels.map rsO)), (2, .row 3 1 (t.snaps.map inA))] 3 := by
 refine (gq 20 [.cell 2 36] func30) ?_
 simp only [trA]
 refine (aj) ((aj) ((aj) ?_))
 refine sr rfl fun k4 => (ja) ?_
 refine vn 1 rfl rfl rfl ⟨func11, rfl, rfl⟩ (xO t.mem h1) oG oG oS dg ?_
 refine (jn) (k4 (sr rfl fun k5 => (ja) ?_))
 refine vn 1 rfl rfl rfl ⟨func66, rfl, rfl⟩ (yN t.levels h2) oG oG oS dg ?_
 refine (jn) (k5 (sr rfl fun k6 => (ja) ?_))
 refine vn 1 rfl rfl rfl ⟨func67, rfl, rfl⟩ (aPm t.snaps h3) oG oG oS dg ?_
 refine (jn) (k6 ((aj) (wR ?_)))
 refine ⟨[(0, 3), (1, 4), (2, 5)], ?_⟩
 exact jz
def aPw (d : Disk) (h2 : qJ d.levels) : aH P 31 [dkA d] [] 0 (.agg [Ns d.log, Ni d.safe, .ref 0, Ni d.seq]) [(0, .row 107 1 (d.levels.map rsO))] 1 := by
 refine (gq 18 [.cell 2 38] func31) ?_
 simp only [dkA]
 refine (aj) ((aj) ((aj) ((aj) ?_)))
 refine sr rfl fun k5 => (ja) ?_
 refine vn 1 rfl rfl rfl ⟨func66, rfl, rfl⟩ (yN d.levels h2) oG oG oS dg ?_
 refine (jn) (k5 ((aj) ((aj) (wR ?_))))
 refine ⟨[(0, 3)], ?_⟩
 exact jz
def nB (s : Store) (h1 : gY s.tree.mem) (h2 : qJ s.tree.levels) (h3 : s.tree.snaps.length <= 1048576) (h4 : qJ s.disk.levels) : aH P 10 [stA s] [] 0 (.agg [Nb s.up, Ni s.tree.seq, .ref 0, .ref 1, .ref 2, Ns s.disk.log, Ni s.disk.safe, .ref 3, Ni s.disk.seq]) [(0, .row 65 5 (s.tree.mem.map enA)), (1, .row 107 1 (s.tree.levels.map rsO)), (2, .row 3 1 (s.tree.snaps.map inA)), (3, .row 107 1 (s.disk.levels.map rsO))] 4 := by
 refine (gq 16 [.cell 2 40] func10) ?_
 simp only [stA]
 refine (aj) ((aj) ((aj) ?_))
 refine sr rfl fun k4 => (ja) ?_
 refine vn 3 rfl rfl rfl ⟨func30, rfl, rfl⟩ (aPa s.tree h1 h2 h3) Af Af oS dg ?_
 refine (jn) (k4 (sr rfl fun k5 => (ja) ?_))
 refine vn 1 rfl rfl rfl ⟨func31, rfl, rfl⟩ (aPw s.disk h4) Av Av oS dg ?_
 refine (jn) (k5 ((aj) (wR ?_)))
 refine ⟨[(0, 3), (1, 4), (2, 5), (3, 6)], ?_⟩
 exact jz
end
end Go.Proofs.S
end
