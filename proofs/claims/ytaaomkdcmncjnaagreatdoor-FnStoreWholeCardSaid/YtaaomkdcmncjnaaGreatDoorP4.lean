/-
  The abstract layer, the walks and the plain laws that the claim leans on, part 4 of 6 (working texts S12 to S29). It proves lemmas alone; no condition of its own.
-/
import Derived.Test.YtaaomkdcmncjnaaGreatDoorP3
import Derived.Shelf.Strconv.Itoa3
import Derived.Shelf.Strconv.AtoiAll
import Derived.Shelf.Small.Strs
import Derived.Test.YtaaomkdcmncjnaaGreatDoorProg
set_option linter.all false
set_option maxRecDepth 20000
section
open Go Go.Abs Go.Proofs Go.Proofs.Tryz
namespace Go.Proofs.S
section
variable {rs : List Run} {k : Nat} {r : Run} {R G : Prop} {t : Tree}
def aH (rs : List Run) : List Entry := rs.flatMap Run.ents
def dF (t : Tree) : List (List Entry) := t.mem :: (((t.levels[0]?).getD []).reverse.map Run.ents ++ (t.levels.drop 1).map aH)
def yO (ps : List (List Entry)) (i k : Nat) : Bool := match ps[i]?, ps[k]? with
  | some a, some b => lK a b
  | _, _ => true
def aIj (ps : List (List Entry)) (i : Nat) : Bool := (List.range (ps.length - (i + 1))).all fun d => yO ps i (i + 1 + d)
def aHk (ps : List (List Entry)) : Bool := (List.range ps.length).all (aIj ps)
def lv (t : Tree) (i : Nat) : List Run := (t.levels[i]?).getD []
def qE (t : Tree) : Bool := ((((((decide (t.seq < 0) || decide (100000 < t.seq)) || decide (60 < (t.mem.length : Int))) || !cD t.mem) || !mI t.mem t.seq) || !decide ((t.levels.length : Int) = 3)) || !eO t.snaps t.seq)
def dE (t : Tree) : Bool := if qE t = true then false else ((eD (lv t 0) 4 false t.seq && eD (lv t 1) 8 true t.seq) && eD (lv t 2) 8 true t.seq) && aHk (dF t)
def aHn (h : rs[k]? = some r) : (rs.take k).map runOwn ++ [runOwn r] = (rs.take (k + 1)).map runOwn := by
  rw [G2, h]; simp
def aEg {ls : List (List Run)} {i : Nat} (h : ls[i]? = some rs) : (ls.take i).map rsO ++ [rsO rs] = (ls.take (i + 1)).map rsO := by
  rw [G2, h]; simp
def tn0 : (0 : Int).toNat = 0 := rfl
def tn1 : (1 : Int).toNat = 1 := rfl
def tn2 : (2 : Int).toNat = 2 := rfl
def Cx (h : R -> G := by intro k; simp only [go_sem, Int.toNat_zero, List.getElem?_cons_succ, List.getElem?_cons_zero, A8, rsA, tn1, tn2]; exact k) : R -> G := h
def Ck (h : R -> G := by intro k; simp only [go_sem, List.map_cons, List.map_nil, Nat.mul_one, C3, inA, padL, tn0, tn1, tn2, tn3]; exact k) : R -> G := h
def Cf {R G A B C : Prop} (e : A) (f : B) (g : C) (h : A -> B -> C -> R -> G := by intro e f g k; simp only [go_sem, e, f, g, rsA, tn0, tn1, tn2]; exact k) : R -> G := h e f g
def aTp (h : rs[k]? = some r) : aH (rs.take (k + 1)) = aH (rs.take k) ++ r.ents := by
  unfold aH
  rw [G2, h]; simp
def aHj (h : ∀ r ∈ rs, r.ents.length <= 1048576) : (aH rs).length <= 1048576 * rs.length := by
  induction rs with
  | nil => simp [aH]
  | cons r rs ih =>
    have h1 := ih fun x hx => h x (A5 _ hx)
    have h2 := h r A2
    simp only [aH, List.flatMap_cons, A4, C5] at h1 ⊢
    omega
def bIz (h : rs[k]? = some r) : (rs.drop k).reverse.map Run.ents = (rs.drop (k + 1)).reverse.map Run.ents ++ [r.ents] := by
  rw [aJp h, List.reverse_cons, D9]; rfl
def bNp {α β : Type} {ls : List α} {x : α} (f : α -> β) (h : ls[k]? = some x) (h1 : 1 <= k) : ((ls.take (k + 1)).drop 1).map f = ((ls.take k).drop 1).map f ++ [f x] := by
  have hlt := (B2.1 h).1
  rw [G2, h, List.drop_append_of_le_length (by rw [B3]; omega), D9]; rfl
def nG (t : Tree) (k : Nat) : List (List Entry) := t.mem :: ((lv t 0).reverse.map Run.ents ++ ((t.levels.take k).drop 1).map aH)
def aWv (t : Tree) : nG t t.levels.length = dF t := by unfold nG dF lv; rw [E9]
def aWi (h : gL t) : ∀ p ∈ dF t, p.length <= 4611686018427387904 := by
  obtain ⟨h1, h2, h3⟩ := h
  intro p hp
  rcases A7.1 hp with e | hp
  . rw [e]; have := h1.1; omega
  rcases A6.1 hp with hp | hp
  . obtain ⟨r, hr, rfl⟩ := A9.1 hp
    have hr' := List.mem_reverse.1 hr
    cases hq : t.levels[0]? with
    | none => rw [hq] at hr'; cases hr'
    | some rs =>
      rw [hq] at hr'
      have := ((h2.2 rs (E4 hq)).2 r hr').1
      omega
  obtain ⟨rs, hr, rfl⟩ := A9.1 hp
  have h4 := h2.2 rs (D0 hr)
  have := aHj fun r hr => (h4.2 r hr).1
  have h5 := h4.1
  have : 1048576 * rs.length <= 1048576 * 1048576 := Nat.mul_le_mul_left _ h5
  omega
def bFl (h : gL t) : (dF t).length <= 3145728 := by
  obtain ⟨h1, h2, h3⟩ := h
  have h4 := h2.1
  have h5 : ((t.levels[0]?).getD []).length <= 1048576 := by
    cases hq : t.levels[0]? with
    | none => simp
    | some rs => exact (h2.2 rs (E4 hq)).1
  simp only [dF, C5, A4, A8, H5, B1]; omega
def aPw (U : Nat -> Prop) (p : List Entry) : (esA p).bel U := enB _ _
def bFe (σ : Nat -> Nat) (p : List Entry) : (esA p).ren σ = esA p := AV.ren_closed σ (aPw _ p)
attribute [go_sem] aPw bFe
def cR (ls : List (List Run)) (hs : aIc ls) : aP P 72 [.sl 1 (ls.map rsA)] [] 0 (.ref 0) [(0, .row 102 1 (ls.map rsO))] 1 := by
 refine (gq 51 [.tmp 2] func72) ?_
 have hmx := mxl
 have hlen := hs.1
 refine (aj) ?_
 refine sr rfl fun k2 => (ja) ((jr) (k2 (aA fun k3 => (aj) (wb ?_))))
 refine wn ls.length (fun x => ([(0, .sl 1 (ls.map rsA)), (3, .ref 0), (4, Ni (x : Int))], [(0, .row 102 1 ((ls.take x).map rsO))])) 1 [] ?_ ?_
 . exact Ca
 rintro i hi
 refine aA fun k5 => (aj) ((cdB) ?_ ?_) <;> intro hc1
 . have hge := gec hc1
   refine we ((jt) (k3 ((aj) (wR ?_))))
   have hie : i = ls.length := by omega
   subst hie; rw [E9]; refine ⟨[], ?_⟩; exact Bf
 obtain ⟨hlt, l, hl, hdrop, hml⟩ := ixc hc1
 have hsl := hs.2 l hml
 have hll := hsl.1
 refine wk (k5 (aA fun k7 => wb (sr rfl fun k8 => (ja) ((jr) (k8 (aA fun k9 => (aj) (wb ?_)))))))
 refine wn l.length (fun x => ([(0, .sl 1 (ls.map rsA)), (3, .ref 0), (4, Ni (i : Int)), (5, .ref 1), (6, Ni (x : Int))], [(0, .row 102 1 ((ls.take i).map rsO)), (1, .row 105 2 ((l.take x).map runOwn))])) 2 [] ?_ ?_
 . exact Ca
 rintro k hk
 refine aA fun k11 => sr rfl fun k12 => (Bb hl) ((jr) (k12 ((cdB) ?_ ?_))) <;> intro hc2
 . have hgek : l.length <= k := by have h9 : ¬ k < l.length := (by simpa using hc2); omega
   refine we ((jt) (k9 ?_))
   have hfull : l.take k = l := List.take_of_length_le og
   refine wg rfl ((Dc hfull) ((jr) ((jt) (k7 ?_))))
   have hw := wiS i og
   have htl : List.take i (List.map rsO ls) ++ [AV.own 105 2 (List.map runOwn l)] = List.take (i + 1) (List.map rsO ls) := by rw [<- E3, <- E3]; exact aEg hl
   refine wg rfl ((Aa hw) ((jt) ?_))
   refine ⟨i + 1, og, og, [(0, 3)], ?_⟩
   simp only [go_sem, AObj.bel, AObj.ren, AV.ren, aB, sg] <;> simp
   exact htl
 have hltk : k < l.length := by simpa using hc2
 obtain ⟨r, hr, _, hmr⟩ := ix hltk
 have hrl := (hsl.2 r hmr).1
 refine wk (k11 (aA fun k13 => wb ?_))
 refine dA mixed rfl ?_
 refine (Dd hl hr) ((jr) ((jy) ((jt) (k13 ?_))))
 have hwk := wiS k og
 have htk : List.take k (List.map runOwn l) ++ [AV.agg [AV.own 43 5 (List.map enA r.ents), AV.raw (Value.int IntKind.i64 r.mask)]] = List.take (k + 1) (List.map runOwn l) := by rw [<- E3, <- E3]; exact aHn hr
 refine wg rfl ((Aa hwk) ((jt) ?_))
 refine ⟨k + 1, og, og, [(1, 5)], ?_⟩
 simp only [go_sem, AObj.bel, AObj.ren, AV.ren, aB, sg] <;> simp
 exact htk
def gJ (t : Tree) (hs : gL t) : aP P 71 [trA t] [] 0 (.agg [Ni t.seq, .ref 0, .ref 1, .ref 2]) [(0, .row 43 5 (t.mem.map enA)), (1, .row 102 1 (t.levels.map rsO)), (2, .row 3 1 (t.snaps.map inA))] 3 := by
 refine (gq 17 [.cell 2 27] func71) ?_
 simp only [trA]
 have hmx := mxl
 obtain ⟨⟨hs1, _⟩, hs2, hs3⟩ := hs
 refine (aj) ?_
 refine sd mixed rfl fun k2 => (Cb) ((jr) ?_)
 refine tn 1 rfl rfl rfl ⟨func72, rfl, rfl⟩ (cR t.levels hs2) oG oG oS dg ?_
 refine (jn) ((jr) ((jy) (k2 (wR ?_))))
 refine ⟨[(0, 3), (1, 4), (2, 6)], ?_⟩
 exact jz
def aEy (t : Tree) (hs : gL t) (h1 : 1 <= t.levels.length) : aP P 121 [trA t] [] 0 (.ref 0) [(0, .row 23 1 ((dF t).map esA))] 1 := by
 refine (gq 66 [.tmp 2] func121) ?_
 simp only [trA]
 have hmx := mxl
 obtain ⟨⟨hs1, _⟩, hs2, hs3⟩ := hs
 have hl0 : t.levels[0]? = some (lv t 0) := by unfold lv; rw [A1 og]; rfl
 have hm0 := hs2.2 _ (E4 hl0)
 have hz0 := hm0.1
 have hlen := hs2.1
 refine (aj) ?_
 refine sr rfl fun k2 => (ja) ((jr) (k2 (aA fun k3 => ?_)))
 have hw0 := wr (((lv t 0).length : Int) - 1) (((lv t 0).length : Int) - 1) og
 refine sr rfl fun k4 => ?_
 simp only [go_sem, hl0, tn0, rsA, hw0]
 refine (jr) (k4 (wb ?_))
 refine wl (α := Nat) (fun x => x <= (lv t 0).length) (fun x => x) (fun x => ([(1, .ptr 0 0), (3, .ref 1), (4, Ni ((x : Int) - 1))], [(0, .cells 27 [Ni t.seq, .sl 5 (t.mem.map enA), .sl 1 (t.levels.map rsA), .sl 1 (t.snaps.map inA)]), (1, .row 23 1 ((t.mem :: ((lv t 0).drop x).reverse.map Run.ents).map esA))])) 2 (lv t 0).length (A0 _) [] ?_ ?_
 . simp only [go_sem, AObj.bel, List.drop_length, List.reverse_nil, List.map_cons, List.map_nil, esA] <;> simp
 rintro j hj
 refine aA fun k5 => (aj) ((cdA) ?_ ?_) <;> intro hc1
 . obtain ⟨i, rfl⟩ : ∃ i, j = i + 1 := ⟨j - 1, by have h9 : (0 : Int) <= (j : Int) - 1 := (by simpa using hc1); omega⟩
   have hi1 : (((i + 1 : Nat) : Int) - 1) = (i : Int) := by omega
   obtain ⟨r, hr, _, hmr⟩ := ix (xs := lv t 0) (i := i) og
   simp only [hi1]
   refine wk (k5 (aA fun k7 => wb (wg rfl ?_)))
   simp only [go_sem, hl0, tn0, hr, rsA, rA, B3, A4, List.nil_append, A8, H5, B1]
   refine (jr) ((jt) (k7 ?_))
   have hw4 := wr ((i : Int) - 1) ((i : Int) - 1) og
   have htn : List.map esA (List.map Run.ents (List.drop (i + 1) (lv t 0)).reverse) ++ [AV.sl 5 (List.map enA r.ents)] = List.map esA (List.map Run.ents (List.drop i (lv t 0)).reverse) := by rw [bIz hr, D9]; rfl
   refine wg rfl ((Aa hw4) ((jt) ?_))
   refine ⟨i, og, og, [(1, 3)], ?_⟩
   simp only [go_sem, AObj.bel, AObj.ren, AV.ren, aB, sg] <;> simp
   first | exact htn | simpa using htn
 have hj0 : j = 0 := by have h9 : ¬ (0 : Int) <= (j : Int) - 1 := (by simpa using hc1); omega
 subst hj0; rw [List.drop_zero]
 refine we ((jt) (k3 (aA fun k8 => ?_)))
 have hb0 : esA t.mem :: List.map esA (List.map Run.ents (lv t 0).reverse) = List.map esA (nG t 1) := by unfold nG; rw [E5 (by rw [B3]; omega)]; simp
 refine (aj) (wb ?_)
 refine wl (α := Nat) (fun x => 1 <= x /\ x <= t.levels.length) (fun x => t.levels.length - x) (fun x => ([(1, .ptr 0 0), (3, .ref 1), (5, Ni (x : Int))], [(0, .cells 27 [Ni t.seq, .sl 5 (t.mem.map enA), .sl 1 (t.levels.map rsA), .sl 1 (t.snaps.map inA)]), (1, .row 23 1 ((nG t x).map esA))])) 2 1 ⟨A0 _, h1⟩ [] ?_ ?_
 . simp only [go_sem, AObj.bel, AObj.ren, AV.ren, aB, sg] <;> simp
   first | exact hb0 | simpa using hb0
 rintro k ⟨hk1, hk⟩
 refine aA fun k10 => (aj) ((cdB) ?_ ?_) <;> intro hc2
 . have hke : k = t.levels.length := by have h9 : ¬ k < t.levels.length := (by simpa using hc2); omega
   subst hke; rw [aWv]
   refine we ((jt) (k8 ((aj) (wR ?_))))
   refine ⟨[(0, 1)], ?_⟩
   exact jz
 have hltk : k < t.levels.length := by simpa using hc2
 obtain ⟨l, hl, _, hml⟩ := ix hltk
 have hsl := hs2.2 l hml
 have hll := hsl.1
 have hpl : (nG t k).length <= 3145728 := by simp only [nG, C5, A4, A8, H5, B1, B3]; omega
 refine wk (k10 (aA fun k12 => wb (sr rfl fun k13 => (ja) ((jr) (k13 (aA fun k14 => (aj) (wb ?_)))))))
 refine wn l.length (fun x => ([(1, .ptr 0 0), (3, .ref 1), (5, Ni (k : Int)), (6, .ref 2), (7, Ni (x : Int))], [(0, .cells 27 [Ni t.seq, .sl 5 (t.mem.map enA), .sl 1 (t.levels.map rsA), .sl 1 (t.snaps.map inA)]), (1, .row 23 1 ((nG t k).map esA)), (2, .row 43 5 ((aH (l.take x)).map enA))])) 3 [] ?_ ?_
 . simp only [go_sem, AObj.bel, AObj.ren, AV.ren, aB, sg] <;> simp
   exact rfl
 rintro i hi
 refine aA fun k16 => sr rfl fun k17 => (Bb hl) ((jr) (k17 ((cdA) ?_ ?_))) <;> intro hc3
 . obtain ⟨hlt, x, hx, _, hmx⟩ := ixc hc3
   have hxl := (hsl.2 x hmx).1
   have hpa := aHj (rs := l.take i) fun r hr => (hsl.2 r (C9 hr)).1
   rw [B3] at hpa
   refine wk (k16 (aA fun k18 => wb (wg rfl ((Dd hl hx) ((jr) ((jt) (k18 ?_)))))))
   have hw := wiS i og
   have hta : List.map enA (aH (List.take i l)) ++ List.map enA x.ents = List.map enA (aH (List.take (i + 1) l)) := by rw [aTp hx, D9]
   refine wg rfl ((Aa hw) ((jt) ?_))
   refine ⟨i + 1, og, og, [(2, 3)], ?_⟩
   simp only [go_sem, AObj.bel, AObj.ren, AV.ren, aB, sg] <;> simp
   first | exact hta | simpa using hta
 have hge := gec hc3
 refine we ((jt) (k14 ?_))
 have hfull : l.take i = l := List.take_of_length_le og
 rw [hfull]
 refine aFz 2 rfl ?_
 refine (ja) ?_
 refine wg rfl ((Cb) ((jr) ((jt) (k12 ?_))))
 have hwk := wiS k og
 have htk : List.map esA (nG t k) ++ [AV.sl 5 (List.map enA (aH l))] = List.map esA (nG t (k + 1)) := by
   have e1 := bNp aH hl hk1
   unfold nG; rw [e1]
   simp [esA]
 refine wg rfl ((Aa hwk) ((jt) ?_))
 refine ⟨k + 1, og, og, [(1, 4)], ?_⟩
 simp only [go_sem, AObj.bel, AObj.ren, AV.ren, aB, sg] <;> simp
 first | exact htk | simpa using htk
def aOo (t : Tree) (hs : gL t) (h1 : 1 <= t.levels.length) : aJ P 79 [trA t] [] 0 (Nb (aHk (dF t))) := by
 refine (pq 32 [.tmp 2] func79) ?_
 simp only [trA]
 have hpl := bFl hs
 have hps := aWi hs
 generalize hpp : dF t = ps at hpl hps ⊢
 refine (aj) ?_
 refine sr rfl fun k2 => (ja) ?_
 refine (vr rfl rfl rfl func121 ((hpp ▸ bY (aEy t hs h1) oG oG : aJ P 121 [trA t] [] 0 (.sl 1 (ps.map esA)))) Ae Ae) (k2 (aA fun k3 => (aj) (wb ?_)))
 refine wa ps.length (aIj ps) (fun x => ([(3, .sl 1 (ps.map esA)), (4, Ni (x : Int))], [(0, .cells 27 [Ni t.seq, .sl 5 (t.mem.map enA), .sl 1 (t.levels.map rsA), .sl 1 (t.snaps.map inA)])])) 1 [] ?_ ?_
 . exact Bz
 rintro i ⟨hi, hall⟩
 refine aA fun k5 => (aj) ((cdB) ?_ ?_) <;> intro hc1
 . have hge := gec hc1
   refine we ((jt) (k3 ((aj) (wR ?_))))
   have h9 : aHk ps = true := by unfold aHk; exact gE hge hall
   exact fq h9
 obtain ⟨hlt, p, hp1, _, hmp⟩ := ixc hc1
 refine wk (k5 (aA fun k7 => wb ?_))
 have hw := wiS i og
 refine sr rfl fun k8 => (Aa hw) (k8 (wb ?_))
 refine wl (α := Nat) (fun x => i + 1 + x <= ps.length /\ ∀ d, d < x -> yO ps i (i + 1 + d) = true) (fun x => ps.length - (i + 1 + x)) (fun x => ([(3, .sl 1 (ps.map esA)), (4, Ni (i : Int)), (5, Ni ((i + 1 + x : Nat) : Int))], [(0, .cells 27 [Ni t.seq, .sl 5 (t.mem.map enA), .sl 1 (t.levels.map rsA), .sl 1 (t.snaps.map inA)])])) 1 0 ⟨og, fun d hd => absurd hd (H7 _)⟩ [] ?_ ?_
 . exact jz
 rintro d ⟨hd, hall2⟩
 refine aA fun k9 => (aj) ((cdB) ?_ ?_) <;> intro hc2
 . have hgek : ps.length <= i + 1 + d := by simp at hc2; omega
   refine we ((jt) ((jt) (k7 ?_)))
   have hp : aIj ps i = true := gE og hall2
   refine (jw (wiS i og)) ((jt) ?_)
   refine ⟨i + 1, ⟨og, cO hall hp⟩, og, [], ?_⟩
   exact Bf
 have hltk : i + 1 + d < ps.length := by simp at hc2; omega
 obtain ⟨q, hq1, _, hmq⟩ := ix hltk
 refine wk (k9 (aA fun k11 => wb (sd mixed rfl fun k12 => ?_)))
 simp only [go_sem, hp1, hq1, esA]
 refine (jr) ?_
 refine tp rfl rfl rfl ⟨func122, rfl, rfl⟩ (aKy p q (hps p hmp) (hps q hmq)) oG oG ?_
 simp only [go_sem, hp1, hq1, esA]
 refine (jr) ((jy) (k12 ((cdA) ?_ ?_))) <;> intro hc3
 . have hpk : yO ps i (i + 1 + d) = false := by unfold yO; rw [hp1, hq1]; simpa using hc3
   have hp : aIj ps i = false := gZ (i := d) og hpk
   refine (aj) (wR ((Ah) ?_))
   have h9 : aHk ps = false := by unfold aHk; exact gZ hlt hp
   exact fq h9
 have hpk : yO ps i (i + 1 + d) = true := by unfold yO; rw [hp1, hq1]; simpa using hc3
 refine wk ((jt) (k11 ?_))
 have hwk := wr (((i + 1 + d : Nat) : Int) + 1) (((i + 1 + (d + 1) : Nat) : Int)) og
 refine wg rfl ((Aa hwk) ((jt) ?_))
 refine ⟨d + 1, ⟨og, cO hall2 hpk⟩, og, [], ?_⟩
 exact jz
def tF (t : Tree) (hs : gL t) : aJ P 33 [trA t] [] 0 (Nb (dE t)) := by
 refine (pq 71 [.tmp 2] func33) ?_
 simp only [trA]
 have hs0 := hs
 obtain ⟨hs1, hs2, hs3⟩ := hs
 have hz1 : cZ t.mem := ⟨by have := hs1.1; omega, fun e he => ⟨by have := (hs1.2 e he).1; omega, by have := (hs1.2 e he).2; omega⟩⟩
 have hzr : ∀ i, i < t.levels.length -> aNg (lv t i) := fun i hi => by
   have h1 := hs2.2 (lv t i) (by unfold lv; rw [A1 hi]; exact C8 hi)
   exact ⟨by have := h1.1; omega, fun r hr => ⟨by have := (h1.2 r hr).1; omega, fun e he => ⟨by have := ((h1.2 r hr).2 e he).1; omega, by have := ((h1.2 r hr).2 e he).2; omega⟩⟩⟩
 refine (aj) ?_
 refine aA fun k2 => sr rfl fun k3 => (ja) ?_
 refine vpg rfl rfl rfl rfl rfl rfl ⟨func75, rfl, rfl⟩ (fun hg => rU t.mem hz1) oG (fun hg => oG) oG trivial ?_
 refine (ja) ?_
 refine vpg rfl rfl rfl rfl rfl rfl ⟨func76, rfl, rfl⟩ (fun hg => wM t.mem t.seq hz1.1) oG (fun hg => oG) oG trivial ?_
 refine (ja) ?_
 refine vpg rfl rfl rfl rfl rfl rfl ⟨func77, rfl, rfl⟩ (fun hg => aLq t og) oG (fun hg => Ae) Ae trivial ?_
 refine (ja) (k3 ((cdA) ?_ ?_)) <;> intro hc1
 . have hb : qE t = true := hc1
   refine (aj) (wR ?_)
   refine fO ?_ trivial; simp only [go_sem, dE, hb]
 have hb : qE t = false := hc1
 have h3 : t.levels.length = 3 := by simp at hc1; omega
 have hl0 : t.levels[0]? = some (lv t 0) := by unfold lv; rw [A1 og]; rfl
 have hl1 : t.levels[1]? = some (lv t 1) := by unfold lv; rw [A1 og]; rfl
 have hl2 : t.levels[2]? = some (lv t 2) := by unfold lv; rw [A1 og]; rfl
 refine wk (k2 (sd mixed rfl fun k5 => (Cf hl0 hl1 hl2) ((jr) ?_)))
 refine tp rfl rfl rfl ⟨func78, rfl, rfl⟩ (tB (lv t 0) 4 false t.seq (hzr 0 og)) oG oG ?_
 refine (Cf hl0 hl1 hl2) ((jr) ?_)
 refine tpg rfl rfl rfl rfl rfl rfl ⟨func78, rfl, rfl⟩ (fun hg => tB (lv t 1) 8 true t.seq (hzr 1 og)) oG (fun hg => oG) oG trivial ?_
 refine (Cf hl0 hl1 hl2) ((jr) ?_)
 refine tpg rfl rfl rfl rfl rfl rfl ⟨func78, rfl, rfl⟩ (fun hg => tB (lv t 2) 8 true t.seq (hzr 2 og)) oG (fun hg => oG) oG trivial ?_
 refine (Cf hl0 hl1 hl2) ((jr) ?_)
 refine tpg rfl rfl rfl rfl rfl rfl ⟨func79, rfl, rfl⟩ (fun hg => aOo t hs0 og) oG (fun hg => Ae) Ae trivial ?_
 refine (ja) ((jr) ((jy) (k5 (wR (fO ?_ trivial)))))
 simp only [go_sem, dE, hb, C4, if_false]
end
def jA (ls : List Entry) (i : Nat) : Bool := match ls[i]? with
  | some e => !(!bK e || (decide (0 < (i : Int)) && !decide (e.seq = IntKind.i64.wrap ((cB ls i).seq + 1))))
  | none => true
def isB (ls : List Entry) : Bool := (List.range ls.length).all (jA ls) && (decide (1 <= (ls.length : Int)) && decide ((ls.length : Int) <= 12))
def aEs (n : Int) : ByteArray := ByteArray.empty.push (UInt8.ofNat (IntKind.u8.wrap (IntKind.i64.wrap (48 + n))).toNat)
def tA : Nat -> Int -> ByteArray -> ByteArray
  | 0, n, out => aEs n ++ out
  | f + 1, n, out => if 9 < n then tA f (n.tdiv 10) (aEs (n.tmod 10) ++ out) else aEs n ++ out
def aUp (n : Int) : ByteArray := tA 19 n ⟨#[]⟩
def dec (n : Int) : ByteArray := if n < 0 then ⟨#[45]⟩ ++ aUp (-n) else aUp n
def aBo : ∀ (f : Nat) (n : Int) (out : ByteArray), (tA f n out).size <= out.size + f + 1
  | 0, n, out => by simp only [tA, B8]; have : (aEs n).size = 1 := rfl; omega
  | f + 1, n, out => by
    unfold tA
    have h1 : ∀ m, (aEs m).size = 1 := fun _ => rfl
    split
    . have := aBo f (n.tdiv 10) (aEs (n.tmod 10) ++ out)
      rw [B8, h1] at this; omega
    rw [B8, h1]; omega
def gK (n : Int) : (dec n).size <= 21 := by
  have h : ∀ m, (aUp m).size <= 20 := fun m => aBo 19 m ⟨#[]⟩
  unfold dec; split
  . rw [B8]; have := h (-n); have : (⟨#[45]⟩ : ByteArray).size = 1 := rfl; omega
  have := h n; omega
abbrev spB : ByteArray := ⟨#[32]⟩
abbrev nlB : ByteArray := ⟨#[10]⟩
def cA : spB.size = 1 := rfl
def nD : nlB.size = 1 := rfl
def pP (out : ByteArray) (e : Entry) : ByteArray := out ++ e.key ++ spB ++ dec e.seq ++ spB ++ dec e.kind ++ spB ++ dec e.n ++ spB ++ dec (e.text.size : Int) ++ spB ++ e.text
def bTx (ls : List Entry) : ByteArray := ls.foldl pP ⟨#[]⟩
def fTx (ls : List Entry) : ByteArray := if isB ls = true then dec ((bTx ls).size : Int) ++ spB ++ bTx ls ++ nlB else ⟨#[]⟩
def aFv (s : ByteArray) : Nat -> Nat -> Option Nat
  | 0, _ => none
  | f + 1, i => if aS s i = 32 then some i else aFv s f (i + 1)
def jH (s : ByteArray) (at' : Nat) : ByteArray × Int := match aFv s (s.size - at') at' with
  | some i => (s.extract at' i, (i : Int) + 1)
  | none => (⟨#[]⟩, -1)
def aIq (s : ByteArray) : ∀ (f i j : Nat), aFv s f i = some j -> i <= j /\ j < i + f
  | 0, i, j, h => by cases h
  | f + 1, i, j, h => by
    unfold aFv at h; split at h
    . cases h; omega
    have := aIq s f (i + 1) j h; omega
def aYb (s : ByteArray) (a : Nat) : -1 <= (jH s a).2 /\ (jH s a).2 <= s.size := by
  unfold jH; split
  . rename_i i h
    have := aIq s _ _ _ h
    simp only
    omega
  simp only; omega
def iI (s : ByteArray) (a b : Nat) (h : b <= s.size) : (s.extract a b).size = b - a := by
  rw [ByteArray.size_extract]; omega
def aKx (s : ByteArray) (a : Nat) : (jH s a).1.size <= s.size := by
  unfold jH; split
  . rename_i i h
    have := aIq s _ _ _ h
    simp only
    rw [ByteArray.size_extract]; omega
  exact A3 _
def lL (t : ByteArray) : Nat -> Option Int
  | 0 => some 0
  | i + 1 => match lL t i with
    | some n => if (decide (aS t i < 48) || decide (57 < aS t i)) = true then none else some (n * 10 + (aS t i - 48))
    | none => none
def mR (t : ByteArray) : ∀ (i : Nat) (n : Int), lL t i = some n -> 0 <= n /\ n < 10 ^ i
  | 0, n, h => by cases h; simp
  | i + 1, n, h => by
    unfold lL at h; split at h
    . rename_i m hm
      split at h
      . cases h
      rename_i hd
      cases h
      have := mR t i m hm
      simp at hd; rw [Int.pow_succ]; omega
    cases h
def aXc {t : ByteArray} {i : Nat} (h : lL t i = none) : ∀ j, i <= j -> lL t j = none := by
  intro j hj
  induction j with
  | zero => have : i = 0 := by omega
            subst this; exact h
  | succ j ih =>
    by_cases e : i = j + 1
    . subst e; exact h
    unfold lL; rw [ih og]
def sV (s : ByteArray) : Bool := decide (0 < (s.size : Int)) && decide (aS s 0 = 45)
def mP (s : ByteArray) : ByteArray := if sV s = true then s.extract 1 s.size else s
def tC (t : ByteArray) (neg : Bool) : Bool := (decide ((t.size : Int) = 0) || decide (17 < (t.size : Int))) || (decide (aS t 0 = 48) && (decide (1 < (t.size : Int)) || neg))
def aIe (s : ByteArray) : Option Int := if tC (mP s) (sV s) = true then none else (lL (mP s) (mP s).size).map fun n => if sV s = true then -n else n
def aIa (s : ByteArray) : Int × Bool := match aIe s with
  | some n => (n, true)
  | none => (0, false)
def bZ (s : ByteArray) (a : Int) : Int × Int := if a < 0 then (0, -1) else match aIe (jH s a.toNat).1 with
  | some n => (n, (jH s a.toNat).2)
  | none => (0, -1)
def uH (s : ByteArray) (a : Int) : -1 <= (bZ s a).2 /\ (bZ s a).2 <= s.size := by
  unfold bZ; split
  . simp only; omega
  split
  . exact aYb s a.toNat
  simp only; omega
def aZj {s : ByteArray} {n : Int} (h : aIe s = some n) : -100000000000000000 < n /\ n < 100000000000000000 := by
  unfold aIe at h; split at h
  . cases h
  rename_i hb
  obtain ⟨m, hm, rfl⟩ := B0.1 h
  have h1 := mR _ _ _ hm
  have h2 : (mP s).size <= 17 := by simp [tC] at hb; omega
  have h3 : (10 : Int) ^ (mP s).size <= 10 ^ 17 := by
    have : (10 : Nat) ^ (mP s).size <= 10 ^ 17 := Nat.pow_le_pow_right og h2
    exact_mod_cast this
  have h4 : (10 : Int) ^ 17 = 100000000000000000 := rfl
  split <;> omega
def qH (s : ByteArray) (a : Int) : -100000000000000000 < (bZ s a).1 /\ (bZ s a).1 < 100000000000000000 := by
  unfold bZ; split
  . simp only; omega
  split
  . rename_i n h; exact aZj h
  simp only; omega
def iO : Entry := ⟨⟨#[]⟩, 0, 0, ⟨#[]⟩, 0⟩
def e1 (s : ByteArray) (a : Nat) := jH s a
def e2 (s : ByteArray) (a : Nat) := bZ s (e1 s a).2
def e3 (s : ByteArray) (a : Nat) := bZ s (e2 s a).2
def e4 (s : ByteArray) (a : Nat) := bZ s (e3 s a).2
def e5 (s : ByteArray) (a : Nat) := bZ s (e4 s a).2
def yR (s : ByteArray) (a : Nat) : Bool := (decide ((e5 s a).2 < 0) || decide ((e5 s a).1 < 0)) || decide ((s.size : Int) - (e5 s a).2 < (e5 s a).1)
def wB (s : ByteArray) (a : Nat) : Entry × Int := if yR s a = true then (iO, -1) else
  (⟨(e1 s a).1, (e2 s a).1, (e3 s a).1, s.extract (e5 s a).2.toNat ((e5 s a).2 + (e5 s a).1).toNat, (e4 s a).1⟩, (e5 s a).2 + (e5 s a).1)
def aJn (ls : List Entry) (hz : cZ ls) : aJ P 139 [.sl 5 (ls.map enA)] [] 0 (Nb (isB ls)) := by
 refine (pq 43 [.tmp 2] func139) ?_
 have hlen := hz.1
 refine (aj) ?_
 refine aA fun k2 => (aj) (wb ?_)
 refine wa ls.length (jA ls) (fun x => ([(0, .sl 5 (ls.map enA)), (3, Ni (x : Int))], [])) 0 [] ?_ ?_
 . exact jc
 rintro i ⟨hi, hall⟩
 refine aA fun k4 => (aj) ((cdB) ?_ ?_) <;> intro hc1
 . have hge := gec hc1
   refine we ((jt) (k2 ((aj) (wR ?_))))
   have h9 : isB ls = (decide (1 <= (ls.length : Int)) && decide ((ls.length : Int) <= 12)) := by unfold isB; rw [gE hge hall]; rfl
   exact fq h9
 obtain ⟨hlt, l, hl, hdrop, hml⟩ := ixc hc1
 have hw1 := wr ((i : Int) - 1) ((i : Int) - 1) og
 have hpn : ((i : Int) - 1).toNat = i - 1 := by omega
 have hpv : ls[i - 1]? = some (cB ls i) := by unfold cB; rw [A1 og]; rfl
 refine wk (k4 (aA fun k6 => wb (sd mixed rfl fun k7 => (Aw hl hw1 hpn hpv) ((jr) ?_))))
 refine tp rfl rfl rfl ⟨func116, rfl, rfl⟩ (rV l (hz.2 l hml)) Af Af ?_
 refine (Aw hl hw1 hpn hpv) ((jr) ((jy) (k7 ((cdA) ?_ ?_)))) <;> intro hc2
 . have hp : jA ls i = false := by unfold jA; rw [hl]; simp only [hc2]; rfl
   refine (aj) (wR ((Ah) ?_))
   have h9 : isB ls = false := by unfold isB; rw [gZ hlt hp]; rfl
   exact fq h9
 have hp : jA ls i = true := by unfold jA; rw [hl]; simp only [hc2]; rfl
 refine wk ((jt) (k6 ((jw (wiS i og)) ((jt) ?_))))
 refine ⟨i + 1, ⟨og, cO hall hp⟩, og, [], ?_⟩
 exact jo
def yI (n : Int) (h0 : 0 <= n) (hn : n < 1000000000000000000) : aJ P 140 [Ni n] [] 0 (Ns (aUp n)) := by
 refine (pq 31 [.tmp 2] func140) ?_
 have hmx := mxl
 have hd1 : ∀ m, ByteArray.empty.push (UInt8.ofNat (IntKind.u8.wrap (IntKind.i64.wrap (48 + m))).toNat) = aEs m := fun _ => rfl
 have hds : ∀ m, (aEs m).size = 1 := fun _ => rfl
 refine (aj) ?_
 refine aA fun k2 => (aj) ((cdA) ?_ ?_) <;> intro hc1
 . exfalso; simp at hc1; omega
 refine wk (k2 (aA fun k4 => (aj) ((cdA) ?_ ?_))) <;> intro hc2
 . exfalso; simp at hc2; omega
 refine wk (k4 ((aj) ?_))
 refine aA fun k7 => wb ?_
 refine wl (α := Nat × Int × ByteArray) (fun x => 0 <= x.2.1 /\ x.2.1 < 10 ^ (x.1 + 1) /\ x.2.2.size + x.1 <= 20 /\ x.2.1 < 1000000000000000000 /\ tA x.1 x.2.1 x.2.2 = aUp n) (fun x => x.2.1.toNat) (fun x => ([(0, Ni x.2.1), (3, Ns x.2.2)], [])) 0 (19, n, ⟨#[]⟩) ⟨by simp only; omega, by simp only; omega, by simp [ByteArray.size], hn, rfl⟩ [] ?_ ?_
 . exact jc
 rintro ⟨f, m, out⟩ ⟨hm0, hmf, hsz, hmk, hd⟩
 simp only at hm0 hmf hsz hmk hd ⊢
 refine aA fun k8 => (aj) ((cdB) ?_ ?_) <;> intro hc3
 . have hle : ¬ 9 < m := by simpa using hc3
   have hd0 : tA f m out = aEs m ++ out := by cases f with | zero => rfl | succ g => rw [tA, if_neg hle]
   rw [hd0] at hd
   have hds1 := hds m
   refine we ((jt) (k7 (sr rfl fun k11 => (Aa hd1) ((jr) ?_))))
   refine vC (fun hN => aAr (n := IntKind.u8.wrap (IntKind.i64.wrap (48 + m))) rfl rfl hN FB.1 FB.2.1 FB.2.2 rfl rfl) (.inl rfl) ?_
   exact (Aa hd1) ((jr) (k11 (wR (fq hd))))
 have hpos : 9 < m := by simpa using hc3
 obtain ⟨g, rfl⟩ : ∃ g, f = g + 1 := by
   cases f with
   | zero => simp at hmf; omega
   | succ g => exact ⟨g, rfl⟩
 have hq : m.tdiv 10 = m / 10 := H6 og
 have hwq : IntKind.i64.wrap (m.tdiv 10) = m.tdiv 10 := by rw [IntKind.wrap_i64, hq]; omega
 have hds1 := hds (m.tmod 10)
 have hstep : tA (g + 1) m out = tA g (m.tdiv 10) (aEs (m.tmod 10) ++ out) := by rw [tA, if_pos hpos]
 refine wk (k8 (wb (sr rfl fun k10 => (Aa hd1) ((jr) ?_))))
 refine vC (fun hN => aAr (n := IntKind.u8.wrap (IntKind.i64.wrap (48 + m.tmod 10))) rfl rfl hN FB.1 FB.2.1 FB.2.2 rfl rfl) (.inl rfl) ?_
 refine (Aa hd1) ((jr) (k10 (wg rfl ((Aa hwq) ((jt) ((jt) ?_))))))
 refine ⟨(g, m.tdiv 10, aEs (m.tmod 10) ++ out), ⟨by simp only; omega, by
   simp only
   rw [hq]
   have h9 : m < 10 ^ (g + 1) * 10 := by rw [<- Int.pow_succ]; exact hmf
   omega, by simp only [B8]; omega, by simp only; omega, by rw [<- hd, hstep]⟩, by simp only; omega, [], ?_⟩
 exact jo
def aJv (n : Int) (h0 : -1000000000000000000 < n) (hn : n < 0) : aJ P 140 [Ni n] [] 0 (Ns (dec n)) := by
 refine (pq 31 [.tmp 2] func140) ?_
 have hmx := mxl
 have hw := wr (-n) (-n) og
 have hsz := aBo 19 (-n) ⟨#[]⟩
 have hsz0 : (⟨#[]⟩ : ByteArray).size = 0 := rfl
 have hsz1 : (#[(45 : UInt8)] : Array UInt8).size = 1 := rfl
 have hszp : (aUp (-n)).size <= 20 := hsz
 have h9 : dec n = ⟨#[45]⟩ ++ aUp (-n) := by unfold dec; rw [if_pos hn]
 refine (aj) ?_
 refine aA fun k2 => (aj) ((cdA) ?_ ?_) <;> intro hc1
 . exfalso; simp at hc1; omega
 refine wk (k2 (aA fun k4 => (aj) ((cdB) ?_ ?_))) <;> intro hc2
 . exfalso; simp at hc2; omega
 refine sr rfl fun k6 => (Aa hw) ((vq func140 (yI (-n) og og)) ?_)
 repeat (first | refine ⟨og, ?_⟩ | refine ⟨fun hg => by (try simp at hg); omega, ?_⟩)
 exact k6 (wR (fq h9))
def mY (n : Int) (h0 : -1000000000000000000 < n) (hn : n < 1000000000000000000) : aJ P 140 [Ni n] [] 0 (Ns (dec n)) := by
  by_cases hneg : n < 0
  . exact aJv n h0 hneg
  have h9 : dec n = aUp n := by unfold dec; rw [if_neg hneg]
  rw [h9]
  exact yI n og hn
def gP {e : Entry} (h : bK e = true) : 1 <= e.seq /\ e.seq <= 100000 /\ 1 <= e.kind /\ e.kind <= 3 /\ -1000000 <= e.n /\ e.n <= 1000000 /\ e.text.size <= 60 /\ e.key.size <= 8 := by
  unfold bK at h; split at h
  . cases h
  rename_i hb
  simp [jQ, nN, jG] at hb
  have hk : 1 <= e.kind /\ e.kind <= 3 := by
    split at h
    . omega
    split at h
    . omega
    split at h
    . omega
    cases h
  omega
def bS {ls : List Entry} (h : isB ls = true) : (∀ e ∈ ls, bK e = true) /\ 1 <= ls.length /\ ls.length <= 12 := by
  simp [isB] at h
  refine ⟨fun e he => ?_, og, og⟩
  obtain ⟨i, hi⟩ := F8 he
  have := h.1 i (B2.1 hi).1
  unfold jA at this; rw [hi] at this; simp at this
  exact this.1
def aHf (out : ByteArray) (e : Entry) : (pP out e).size <= out.size + e.key.size + e.text.size + 89 := by
  have h1 := gK e.seq
  have h2 := gK e.kind
  have h3 := gK e.n
  have h4 := gK (e.text.size : Int)
  simp only [pP, B8, cA]; omega
def sQ : ∀ (ls : List Entry) (out : ByteArray), (∀ e ∈ ls, e.text.size <= 60 /\ e.key.size <= 8) -> (ls.foldl pP out).size <= out.size + 157 * ls.length
  | [], out, _ => by simp
  | e :: r, out, h => by
    have h1 := aHf out e
    have h2 := h e A2
    have h3 := sQ r (pP out e) fun x hx => h x (A5 _ hx)
    simp only [List.foldl_cons, C5]; omega
def mC (s : ByteArray) : Nat -> Int -> List Entry -> List Entry
  | 0, _, out => out
  | f + 1, a, out => if ((decide (0 <= a) && decide (a < (s.size : Int))) && decide ((out.length : Int) <= 12)) = true then mC s f (wB s a.toNat).2 (out ++ [(wB s a.toNat).1]) else out
def aHm (s : ByteArray) : List Entry := mC s 14 0 []
def bMu (s : ByteArray) (a : Nat) : -1 <= (wB s a).2 /\ (wB s a).2 <= s.size := by
  unfold wB; split
  . simp only; omega
  rename_i h
  have h1 := uH s (e4 s a).2
  have h2 : e5 s a = bZ s (e4 s a).2 := rfl
  simp [yR] at h
  rw [h2] at h ⊢
  simp only
  omega
def bLs (s : ByteArray) (hs : s.size <= 1048576) (a : Nat) : (wB s a).1.key.size <= 1048576 /\ (wB s a).1.text.size <= 1048576 := by
  unfold wB; split
  . exact ⟨by decide, by decide⟩
  have h1 := aKx s a
  refine ⟨?_, ?_⟩
  . show (e1 s a).1.size <= _
    unfold e1; omega
  simp only [ByteArray.size_extract]; omega
def aPo (s : ByteArray) (hs : s.size <= 1048576) : ∀ (f : Nat) (a : Int) (out : List Entry), (∀ e ∈ out, e.key.size <= 1048576 /\ e.text.size <= 1048576) -> out.length <= 13 -> (∀ e ∈ mC s f a out, e.key.size <= 1048576 /\ e.text.size <= 1048576) /\ (mC s f a out).length <= 13
  | 0, a, out, h, hl => ⟨h, hl⟩
  | f + 1, a, out, h, hl => by
    unfold mC; split
    . rename_i hc
      simp at hc
      refine aPo s hs f _ _ (fun e he => ?_) (by simp; omega)
      rcases A6.1 he with h1 | h1
      . exact h e h1
      rw [B4.1 h1]; exact bLs s hs _
    exact ⟨h, hl⟩
def bHm {s : ByteArray} (hs : s.size <= 1048576) : qW (aHm s) := by
  have := aPo s hs 14 0 [] oS oS
  exact ⟨by have := this.2; show (mC s 14 0 []).length <= _; omega, this.1⟩
def jN (s : ByteArray) (a : Nat) : Bool := (decide ((bZ s (a : Int)).2 < 0) || decide ((bZ s (a : Int)).1 < 0)) || decide ((s.size : Int) - (bZ s (a : Int)).2 - 1 < (bZ s (a : Int)).1)
def pB (s : ByteArray) (a : Nat) : List Entry := aHm (s.extract (bZ s (a : Int)).2.toNat ((bZ s (a : Int)).2 + (bZ s (a : Int)).1).toNat)
def aV (s : ByteArray) (a : Nat) : List Entry × Int := if jN s a = true then ([], -1) else
  if (!((fTx (pB s a)).toList == (s.extract a ((bZ s (a : Int)).2 + (bZ s (a : Int)).1 + 1).toNat).toList)) = true then ([], -1) else (pB s a, (bZ s (a : Int)).2 + (bZ s (a : Int)).1 + 1)
def uJ (s : ByteArray) (a : Nat) : -1 <= (aV s a).2 /\ (aV s a).2 <= s.size := by
  unfold aV; split
  . simp only; omega
  rename_i h
  simp [jN] at h
  split
  . simp only; omega
  simp only; omega
def cV (s : ByteArray) : Nat -> Nat -> List (List Entry) -> List (List Entry) × Int
  | 0, a, out => (out, a)
  | f + 1, a, out => if a < s.size then (if (aV s a).2 < 0 then (out, a) else cV s f (aV s a).2.toNat (out ++ [(aV s a).1])) else (out, a)
def bO (s : ByteArray) : List (List Entry) × Int := cV s s.size 0 []
def aNd (s : ByteArray) : (mP s).size <= s.size := by
  unfold mP; split
  . rw [ByteArray.size_extract]; omega
  exact A0 _
def aXe {s : ByteArray} (h : tC (mP s) (sV s) = true) : aIa s = (0, false) := by
  have : aIe s = none := by unfold aIe; rw [if_pos h]
  unfold aIa; rw [this]
def bDc {s : ByteArray} (h : tC (mP s) (sV s) = false) : aIa s = match lL (mP s) (mP s).size with
    | some n => (if sV s = true then -n else n, true)
    | none => (0, false) := by
  unfold aIa aIe; rw [h]; simp only [C4, if_false]
  cases lL (mP s) (mP s).size with
  | none => rfl
  | some n => rfl
def bMi (s : ByteArray) : (aIa s).2 = false -> aIe s = none := by
  unfold aIa; split
  . intro h; cases h
  intro _; assumption
def bEz {s : ByteArray} (h : (aIa s).2 = true) : aIe s = some (aIa s).1 := by
  unfold aIa at h ⊢
  split
  . assumption
  rename_i hn; rw [hn] at h; cases h
def pN (ls : List Entry) (hz : cZ ls) : aJ P 106 [.sl 5 (ls.map enA)] [] 0 (Ns (fTx ls)) := by
 refine (pq 55 [.tmp 2] func106) ?_
 have hlen := hz.1
 have hs32 : (#[(32 : UInt8)] : Array UInt8).size = 1 := rfl
 have hs10 : (#[(10 : UInt8)] : Array UInt8).size = 1 := rfl
 refine (aj) ?_
 refine aA fun k2 => sr rfl fun k3 => (ja) ((vq func139 (aJn ls hz)) (k3 ((cdA) ?_ ?_))) <;> intro hc1
 . have hb : isB ls = false := by simpa using hc1
   refine (aj) (wR ?_)
   refine fO ?_ trivial; simp only [go_sem, fTx, hb, C4, if_false]
 have hb : isB ls = true := by simpa using hc1
 obtain ⟨hok, hb1, hb2⟩ := bS hb
 refine wk (k2 ((aj) ?_))
 refine aA fun k6 => (aj) (wb ?_)
 refine wl (α := Nat × ByteArray) (fun x => x.1 <= ls.length /\ x.2.size <= 157 * x.1 /\ (ls.drop x.1).foldl pP x.2 = bTx ls) (fun x => ls.length - x.1) (fun x => ([(0, .sl 5 (ls.map enA)), (3, Ns x.2), (4, Ni (x.1 : Int))], [])) 0 (0, ⟨#[]⟩) ⟨A3 _, A0 _, rfl⟩ [] ?_ ?_
 . exact jc
 rintro ⟨i, out⟩ ⟨hi, hsz, hfold⟩
 simp only at hi hsz hfold ⊢
 refine aA fun k8 => (aj) ((cdB) ?_ ?_) <;> intro hc2
 . have hge := gec hc2
   have hie : i = ls.length := by omega
   subst hie
   refine we ((jt) (k6 (sr rfl fun k12 => (ja) ?_)))
   repeat (first | refine ⟨og, ?_⟩ | refine ⟨by simp only [B8, cA, nD]; omega, ?_⟩)
   refine (vq func140 (mY (out.size : Int) og og)) ?_
   have hd9 := gK (out.size : Int)
   repeat (first | refine ⟨og, ?_⟩ | refine ⟨by simp only [B8, cA, nD]; omega, ?_⟩)
   refine k12 (wR ?_)
   rw [List.drop_length] at hfold
   have h9 : bTx ls = out := hfold.symm
   refine fO ?_ trivial; simp only [go_sem, fTx, hb, if_true, h9]
 obtain ⟨hlt, l, hl, hdrop, hml⟩ := ixc hc2
 obtain ⟨r1, r2, r3, r4, r5, r6, r7, r8⟩ := gP (hok l hml)
 have hd0 := gK (l.seq)
 have hd1 := gK (l.kind)
 have hd2 := gK (l.n)
 have hd3 := gK ((l.text.size : Int))
 refine wk (k8 (aA fun k10 => wb (sr rfl fun k11 => (Am hl) ?_)))
 repeat (first | refine ⟨og, ?_⟩ | refine ⟨fun hg => by (try simp at hg); omega, ?_⟩ | refine ⟨fun hg => by push_cast at hg; omega, ?_⟩)
 apply k11
 refine dA mixed rfl ?_
 refine (Am hl) ?_
 repeat (first | refine ⟨og, ?_⟩ | refine ⟨by simp only [B8, cA, nD]; omega, ?_⟩)
 refine tp rfl rfl rfl ⟨func140, rfl, rfl⟩ (mY l.seq og og) oG oG ?_
 refine (Am hl) ?_
 repeat (first | refine ⟨og, ?_⟩ | refine ⟨by simp only [B8, cA, nD]; omega, ?_⟩)
 refine tp rfl rfl rfl ⟨func140, rfl, rfl⟩ (mY l.kind og og) oG oG ?_
 refine (Am hl) ?_
 repeat (first | refine ⟨og, ?_⟩ | refine ⟨by simp only [B8, cA, nD]; omega, ?_⟩)
 refine tp rfl rfl rfl ⟨func140, rfl, rfl⟩ (mY l.n og og) oG oG ?_
 refine (Am hl) ?_
 repeat (first | refine ⟨og, ?_⟩ | refine ⟨by simp only [B8, cA, nD]; omega, ?_⟩)
 refine tp rfl rfl rfl ⟨func140, rfl, rfl⟩ (mY (l.text.size : Int) og og) oG oG ?_
 refine (Am hl) ?_
 repeat (first | refine ⟨og, ?_⟩ | refine ⟨by simp only [B8, cA, nD]; omega, ?_⟩)
 refine (jy) ((jt) (k10 ((jw (wiS i og)) ((jt) ?_))))
 refine ⟨(i + 1, pP out l), ⟨og, by have := aHf out l; simp only; omega, by rw [hdrop] at hfold; exact hfold⟩, og, [], ?_⟩
 simp only [go_sem, pP] <;> simp
def aAl (s : ByteArray) (a : Nat) (ha : a <= s.size) (hs : s.size <= 1048576) : aJ P 171 [Ns s, Ni (a : Int)] [] 0 (.tup [.raw (.string (jH s a).1), .raw (.int .i64 (jH s a).2)]) := by
 refine (pq 24 [.tmp 4, .tmp 5] func171) ((aj) ?_)
 refine aA fun k2 => (aj) (wb ?_)
 refine wl (α := Nat) (fun x => a <= x /\ x <= s.size /\ aFv s (s.size - x) x = aFv s (s.size - a) a) (fun x => s.size - x) (fun x => ([(0, Ns s), (1, Ni (a : Int)), (6, Ni (x : Int))], [])) 0 a ⟨A0 _, ha, rfl⟩ [] ?_ ?_
 . exact jo
 rintro i ⟨hai, hi, hgo⟩
 refine aA fun k4 => (aj) ((cdB) ?_ ?_) <;> intro hc1
 . have hge : i = s.size := by have h9 : ¬ i < s.size := (by simpa using hc1); omega
   subst hge; rw [Nat.sub_self] at hgo
   have hno : aFv s (s.size - a) a = none := hgo.symm
   refine we ((jt) (k2 ((aj) (wR ?_))))
   have h9 : jH s a = (⟨#[]⟩, -1) := by unfold jH; rw [hno]
   refine fO ?_ ⟨trivial, trivial, trivial⟩
   exact Ac h9
 have hlt : i < s.size := by simpa using hc1
 have hst : aFv s (s.size - i) i = if aS s i = 32 then some i else aFv s (s.size - (i + 1)) (i + 1) := by
   have e9 : s.size - i = (s.size - (i + 1)) + 1 := by omega
   rw [e9]; rfl
 refine wk (k4 (aA fun k6 => wb (sr rfl fun k7 => (ja) ?_)))
 repeat (first | refine ⟨og, ?_⟩ | refine ⟨fun hg => by (try simp at hg); omega, ?_⟩ | refine ⟨fun hg => by push_cast at hg; omega, ?_⟩)
 refine k7 ((cdA) ?_ ?_) <;> intro hc2
 . have h32 : aS s i = 32 := by simpa using hc2
   have hyes : aFv s (s.size - a) a = some i := by rw [<- hgo, hst, if_pos h32]
   have hw5 := wr ((i : Int) + 1) ((i : Int) + 1) og
   refine sr rfl fun k8 => ?_
   simp only [go_sem, hw5, Int.toNat_natCast]
   repeat (first | refine ⟨og, ?_⟩ | refine ⟨fun hg => by (try simp at hg); omega, ?_⟩ | refine ⟨fun hg => by push_cast at hg; omega, ?_⟩)
   refine k8 (wR ((Ah) ?_))
   have h9 : jH s a = (s.extract a i, (i : Int) + 1) := by unfold jH; rw [hyes]
   refine fO ?_ ⟨trivial, trivial, trivial⟩
   exact Ac h9
 have h32 : ¬ aS s i = 32 := by simpa using hc2
 refine wk ((jt) (k6 ((jw (wiS i og)) ((jt) ?_))))
 refine ⟨i + 1, ⟨og, og, by rw [<- hgo, hst, if_neg h32]⟩, og, [], ?_⟩
 exact jo
def aTz (s : ByteArray) (hs : s.size <= 1048576) : aJ P 172 [Ns s] [] 0 (.tup [.raw (.int .i64 (aIa s).1), .raw (.bool (aIa s).2)]) := by
 refine (pq 67 [.tmp 2, .tmp 3] func172) ((aj) ?_)
 refine sr rfl fun k2 => ?_
 simp only [go_sem, tn0]
 repeat (first | refine ⟨og, ?_⟩ | refine ⟨fun hg => by (try simp at hg); omega, ?_⟩ | refine ⟨fun hg => by push_cast at hg; omega, ?_⟩)
 refine k2 (aA fun k3 => (aj) ((cdB) ?_ ?_)) <;> intro hc1
 . have hn : sV s = false := hc1
   refine wk (k3 (aA fun k20 => ?_))
   obtain ⟨t, ht, ht2⟩ : ∃ t, t = mP s /\ (if sV s = true then s.extract 1 s.size else s) = t := ⟨_, rfl, rfl⟩
   have htz : t.size <= 1048576 := by have := aNd s; rw [<- ht] at this; omega
   rw [hn] at ht2
   simp only [if_true, C4, if_false] at ht2
   simp only [hc1]; rw [ht2]
   refine sr rfl fun k21 => ?_
   simp only [go_sem, tn0]
   repeat (first | refine ⟨og, ?_⟩ | refine ⟨fun hg => by (try simp at hg); omega, ?_⟩ | refine ⟨fun hg => by push_cast at hg; omega, ?_⟩)
   refine k21 ((cdA) ?_ ?_) <;> intro hc6
   . have hz := aXe (s := s) (by rw [<- ht, hn]; simpa [tC] using hc6)
     refine (aj) (wR ?_)
     refine fO ?_ ⟨trivial, trivial, trivial⟩
     simp only [go_sem, <- ht2, hz]
   have hgo := bDc (s := s) (by rw [<- ht, hn]; simpa [tC] using hc6)
   rw [<- ht] at hgo
   have h17 : t.size <= 17 := by simp at hc6; omega
   refine wk (k20 ((aj) ?_))
   refine aA fun k24 => (aj) (wb ?_)
   refine wl (α := Nat × Int) (fun x => x.1 <= t.size /\ lL t x.1 = some x.2) (fun x => t.size - x.1) (fun x => ([(0, Ns t), (4, Nb false), (5, Ni x.2), (6, Ni (x.1 : Int))], [])) 0 (0, 0) ⟨A3 _, rfl⟩ [] ?_ ?_
   . exact jc
   rintro ⟨i, n⟩ ⟨hi, hnum⟩
   simp only at hi hnum ⊢
   refine aA fun k26 => (aj) ((cdB) ?_ ?_) <;> intro hc7
   . have hie : i = t.size := by have h9 : ¬ i < t.size := (by simpa using hc7); omega
     subst hie
     obtain ⟨hr0, hr1⟩ := mR t t.size n hnum
     have hr2 : (10 : Int) ^ t.size <= 10 ^ 17 := by have : (10 : Nat) ^ t.size <= 10 ^ 17 := Nat.pow_le_pow_right og og
                                                     exact_mod_cast this
     have hr3 : (10 : Int) ^ 17 = 100000000000000000 := rfl
     rw [hnum, hn] at hgo
     refine we ((jt) (k24 (aA fun k32 => (aj) ((cdA) (fun hc => by simp at hc) fun hc9 => ?_))))
     refine wk (k32 ((aj) (wR ?_)))
     refine fO ?_ ⟨trivial, trivial, trivial⟩
     simp only [go_sem, <- ht2, hgo, if_true, C4, if_false]
   have hlt : i < t.size := by simpa using hc7
   obtain ⟨hr0, hr1⟩ := mR t i n hnum
   have hr2 : (10 : Int) ^ i <= 10 ^ 17 := by have : (10 : Nat) ^ i <= 10 ^ 17 := Nat.pow_le_pow_right og og
                                              exact_mod_cast this
   have hr3 : (10 : Int) ^ 17 = 100000000000000000 := rfl
   have hbr := nS t i
   refine wk (k26 (aA fun k28 => wb (aA fun k29 => sr rfl fun k30 => (ja) ?_)))
   repeat (first | refine ⟨og, ?_⟩ | refine ⟨fun hg => by (try simp at hg); omega, ?_⟩ | refine ⟨fun hg => by push_cast at hg; omega, ?_⟩)
   refine k30 ((cdA) ?_ ?_) <;> intro hc8
   . have hno : lL t (i + 1) = none := by rw [lL, hnum]; simp only []; rw [if_pos hc8]
     rw [aXc hno t.size og] at hgo
     refine (aj) (wR ((Ah) ?_))
     refine fO ?_ ⟨trivial, trivial, trivial⟩
     simp only [go_sem, <- ht2, hgo]
   have hst : lL t (i + 1) = some (n * 10 + (aS t i - 48)) := by rw [lL, hnum]; simp only []; rw [if_neg (by rw [hc8]; simp)]
   have hd48 : 48 <= aS t i /\ aS t i <= 57 := by simp at hc8; omega
   have hw1 := wr (n * 10) (n * 10) og
   have hw2 : IntKind.u8.wrap (aS t i - 48) = aS t i - 48 := by rw [IntKind.wrap_u8]; omega
   have hw3 := wr (aS t i - 48) (aS t i - 48) og
   have hw4 := wr (n * 10 + (aS t i - 48)) (n * 10 + (aS t i - 48)) og
   refine wk (k29 (wg rfl ((Bk hw1 hw2 hw3 hw4) ?_)))
   repeat (first | refine ⟨og, ?_⟩ | refine ⟨fun hg => by (try simp at hg); omega, ?_⟩ | refine ⟨fun hg => by push_cast at hg; omega, ?_⟩)
   refine (jt) (k28 ((jw (wiS i og)) ((jt) ?_)))
   refine ⟨(i + 1, n * 10 + (aS t i - 48)), ⟨og, hst⟩, og, [], ?_⟩
   exact jo
 have hn : sV s = true := hc1
 have hp1 : 1 <= s.size := by simp only [B7, decide_eq_true_eq] at hc1; omega
 refine wg rfl ?_; simp only [go_sem, tn1, Int.toNat_natCast]
 repeat (first | refine ⟨og, ?_⟩ | refine ⟨fun hg => by (try simp at hg); omega, ?_⟩ | refine ⟨fun hg => by push_cast at hg; omega, ?_⟩)
 refine k3 (aA fun k5 => ?_)
 obtain ⟨t, ht, ht2⟩ : ∃ t, t = mP s /\ (if sV s = true then s.extract 1 s.size else s) = t := ⟨_, rfl, rfl⟩
 have htz : t.size <= 1048576 := by have := aNd s; rw [<- ht] at this; omega
 rw [hn] at ht2
 simp only [if_true, C4, if_false] at ht2
 simp only [hc1]; rw [ht2]
 refine sr rfl fun k6 => ?_
 simp only [go_sem, tn0]
 repeat (first | refine ⟨og, ?_⟩ | refine ⟨fun hg => by (try simp at hg); omega, ?_⟩ | refine ⟨fun hg => by push_cast at hg; omega, ?_⟩)
 refine k6 ((cdA) ?_ ?_) <;> intro hc2
 . have hz := aXe (s := s) (by rw [<- ht, hn]; simpa [tC] using hc2)
   refine (aj) (wR ?_)
   refine fO ?_ ⟨trivial, trivial, trivial⟩
   exact Ac hz
 have hgo := bDc (s := s) (by rw [<- ht, hn]; simpa [tC] using hc2)
 rw [<- ht] at hgo
 have h17 : t.size <= 17 := by simp at hc2; omega
 refine wk (k5 ((aj) ?_))
 refine aA fun k9 => (aj) (wb ?_)
 refine wl (α := Nat × Int) (fun x => x.1 <= t.size /\ lL t x.1 = some x.2) (fun x => t.size - x.1) (fun x => ([(0, Ns t), (4, Nb true), (5, Ni x.2), (6, Ni (x.1 : Int))], [])) 0 (0, 0) ⟨A3 _, rfl⟩ [] ?_ ?_
 . exact jc
 rintro ⟨i, n⟩ ⟨hi, hnum⟩
 simp only at hi hnum ⊢
 refine aA fun k11 => (aj) ((cdB) ?_ ?_) <;> intro hc3
 . have hie : i = t.size := by have h9 : ¬ i < t.size := (by simpa using hc3); omega
   subst hie
   obtain ⟨hr0, hr1⟩ := mR t t.size n hnum
   have hr2 : (10 : Int) ^ t.size <= 10 ^ 17 := by have : (10 : Nat) ^ t.size <= 10 ^ 17 := Nat.pow_le_pow_right og og
                                                   exact_mod_cast this
   have hr3 : (10 : Int) ^ 17 = 100000000000000000 := rfl
   rw [hnum, hn] at hgo
   refine we ((jt) (k9 (aA fun k17 => (aj) ?_)))
   refine cd rfl (fun hc5 => ?_) (fun hc => by simp at hc)
   have hw5 := wr (-n) (-n) og
   refine wg rfl ((Aa hw5) (k17 ((aj) (wR ?_))))
   refine fO ?_ ⟨trivial, trivial, trivial⟩
   simp only [go_sem, hgo, if_true, C4, if_false]
 have hlt : i < t.size := by simpa using hc3
 obtain ⟨hr0, hr1⟩ := mR t i n hnum
 have hr2 : (10 : Int) ^ i <= 10 ^ 17 := by have : (10 : Nat) ^ i <= 10 ^ 17 := Nat.pow_le_pow_right og og
                                            exact_mod_cast this
 have hr3 : (10 : Int) ^ 17 = 100000000000000000 := rfl
 have hbr := nS t i
 refine wk (k11 (aA fun k13 => wb (aA fun k14 => sr rfl fun k15 => (ja) ?_)))
 repeat (first | refine ⟨og, ?_⟩ | refine ⟨fun hg => by (try simp at hg); omega, ?_⟩ | refine ⟨fun hg => by push_cast at hg; omega, ?_⟩)
 refine k15 ((cdA) ?_ ?_) <;> intro hc4
 . have hno : lL t (i + 1) = none := by rw [lL, hnum]; simp only []; rw [if_pos hc4]
   rw [aXc hno t.size og] at hgo
   refine (aj) (wR ((Ah) ?_))
   refine fO ?_ ⟨trivial, trivial, trivial⟩
   exact Ac hgo
 have hst : lL t (i + 1) = some (n * 10 + (aS t i - 48)) := by rw [lL, hnum]; simp only []; rw [if_neg (by rw [hc4]; simp)]
 have hd48 : 48 <= aS t i /\ aS t i <= 57 := by simp at hc4; omega
 have hw1 := wr (n * 10) (n * 10) og
 have hw2 : IntKind.u8.wrap (aS t i - 48) = aS t i - 48 := by rw [IntKind.wrap_u8]; omega
 have hw3 := wr (aS t i - 48) (aS t i - 48) og
 have hw4 := wr (n * 10 + (aS t i - 48)) (n * 10 + (aS t i - 48)) og
 refine wk (k14 (wg rfl ((Bk hw1 hw2 hw3 hw4) ?_)))
 repeat (first | refine ⟨og, ?_⟩ | refine ⟨fun hg => by (try simp at hg); omega, ?_⟩ | refine ⟨fun hg => by push_cast at hg; omega, ?_⟩)
 refine (jt) (k13 ((jw (wiS i og)) ((jt) ?_)))
 refine ⟨(i + 1, n * 10 + (aS t i - 48)), ⟨og, hst⟩, og, [], ?_⟩
 exact jo
def nH (s : ByteArray) (a : Int) (h0 : -1 <= a) (ha : a <= s.size) (hs : s.size <= 1048576) : aJ P 153 [Ns s, Ni a] [] 0 (.tup [.raw (.int .i64 (bZ s a).1), .raw (.int .i64 (bZ s a).2)]) := by
 refine (pq 27 [.tmp 4, .tmp 5] func153) ((aj) ?_)
 refine aA fun k2 => (aj) ((cdA) ?_ ?_) <;> intro hc1
 . have hn : a < 0 := by simpa using hc1
   have h9 : bZ s a = (0, -1) := by unfold bZ; rw [if_pos hn]
   refine (aj) (wR ?_)
   refine fO ?_ ⟨trivial, trivial, trivial⟩
   exact Ac h9
 have hn : ¬ a < 0 := by simpa using hc1
 have hto : ((a.toNat : Nat) : Int) = a := by omega
 refine wk (k2 (sr rfl fun k5 => (ja) ?_))
 refine (vr rfl rfl rfl func171 (aAl s a.toNat og hs) (Ac hto) oG) (k5 (sr rfl fun k6 => (ja) ((vq func172 (aTz (jH s a.toNat).1 (by have := aKx s a.toNat; omega))) (k6 (aA fun k7 => (aj) ((cdA) ?_ ?_)))))) <;> intro hc2
 . have hv := bMi (jH s a.toNat).1 (by simpa using hc2)
   have h9 : bZ s a = (0, -1) := by unfold bZ; rw [if_neg hn, hv]
   refine (aj) (wR ?_)
   refine fO ?_ ⟨trivial, trivial, trivial⟩
   exact Ac h9
 have hv := bEz (s := (jH s a.toNat).1) (by simpa using hc2)
 have h9 : bZ s a = ((aIa (jH s a.toNat).1).1, (jH s a.toNat).2) := by unfold bZ; rw [if_neg hn, hv]
 refine wk (k7 ((aj) (wR ?_)))
 refine fO ?_ ⟨trivial, trivial, trivial⟩
 exact Ac h9
def aWy (s : ByteArray) (a : Nat) (h : 0 <= (bZ s (a : Int)).2) : (a : Int) < (bZ s (a : Int)).2 := by
  unfold bZ at h ⊢
  have ha : ¬ (a : Int) < 0 := by omega
  rw [if_neg ha] at h ⊢
  rw [Int.toNat_natCast] at h ⊢
  split
  . rename_i n hn
    rw [hn] at h
    simp only at h ⊢
    unfold jH at h ⊢
    split
    . rename_i i hi
      have := aIq s _ _ _ hi
      simp only
      omega
    rename_i hi
    rw [hi] at h; simp at h
  rename_i hn
  rw [hn] at h; simp at h
def rM (s : ByteArray) (a : Nat) (h : 0 <= (aV s a).2) : (a : Int) < (aV s a).2 := by
  unfold aV at h ⊢
  split
  . rename_i hb; rw [if_pos hb] at h; simp at h
  rename_i hb
  rw [if_neg hb] at h; split
  . rename_i hc; rw [if_pos hc] at h; simp at h
  simp [jN] at hb
  have := aWy s a og
  simp only
  omega
def aWk {ls : List Entry} (h : qW ls) : cZ ls := ⟨by have := h.1; omega, fun e he => ⟨by have := (h.2 e he).1; omega, by have := (h.2 e he).2; omega⟩⟩
def jE (seq : Int) (st : List Entry × Int) (e : Entry) : List Entry × Int := if seq < e.seq then (cC st.1 e, max st.2 e.seq) else st
def mH (seq : Int) (st : List Entry × Int) (b : List Entry) : List Entry × Int := b.foldl (jE seq) st
def nT (bs : List (List Entry)) (seq : Int) : List Entry × Int := bs.foldl (mH seq) ([], seq)
def nZ (ls : List Entry) (e : Entry) : (cC ls e).length = ls.length + 1 := by
  have := aUw ls e ls.length
  unfold cC aCc; simp only [A4, B3, C5, B1]; omega
def bW (b : List Entry) : Entry := (b[b.length - 1]?).getD nK
def cG (seq : Int) (out : ByteArray) (b : List Entry) : ByteArray := if seq < (bW b).seq then out ++ fTx b else out
def mN (bs : List (List Entry)) (seq : Int) : ByteArray := bs.foldl (cG seq) ⟨#[]⟩
def tH (b : List Entry) : (fTx b).size <= 2000 := by
  unfold fTx; split
  . rename_i hb
    obtain ⟨hok, h1, h2⟩ := bS hb
    have h3 := sQ b ⟨#[]⟩ fun e he => by
      have := gP (hok e he)
      omega
    have h4 := gK ((bTx b).size : Int)
    have h5 : (⟨#[]⟩ : ByteArray).size = 0 := rfl
    have h6 : (bTx b).size <= (⟨#[]⟩ : ByteArray).size + 157 * b.length := h3
    simp only [B8, cA, nD]; omega
  exact A3 _
def aMt (s : ByteArray) (a : Nat) (ha : a <= s.size) (hs : s.size <= 1048576) : aJ P 173 [Ns s, Ni (a : Int)] [] 0 (.tup [enA (wB s a).1, .raw (.int .i64 (wB s a).2)]) := by
 refine (pq 69 [.cell 4 43, .tmp 5] func173) ((aj) ((aj) ((aj) ?_)))
 refine sr rfl fun k4 => (ja) ((vq func171 (aAl s a ha hs)) ?_)
 have b1 := aYb s a
 generalize hq1 : jH s a = q1 at b1 ⊢
 refine k4 (sr rfl fun k5 => (ja) ((vq func153 (nH s q1.2 b1.1 b1.2 hs)) ?_))
 have b2 := uH s q1.2
 have c2 := qH s q1.2
 generalize hq2 : bZ s q1.2 = q2 at b2 c2 ⊢
 refine k5 (sr rfl fun k6 => (ja) ((vq func153 (nH s q2.2 b2.1 b2.2 hs)) ?_))
 have b3 := uH s q2.2
 have c3 := qH s q2.2
 generalize hq3 : bZ s q2.2 = q3 at b3 c3 ⊢
 refine k6 (sr rfl fun k7 => (ja) ((vq func153 (nH s q3.2 b3.1 b3.2 hs)) ?_))
 have b4 := uH s q3.2
 have c4 := qH s q3.2
 generalize hq4 : bZ s q3.2 = q4 at b4 c4 ⊢
 refine k7 (sr rfl fun k8 => (ja) ((vq func153 (nH s q4.2 b4.1 b4.2 hs)) ?_))
 have b5 := uH s q4.2
 have c5 := qH s q4.2
 generalize hq5 : bZ s q4.2 = q5 at b5 c5 ⊢
 refine k8 (aA fun k9 => ?_)
 have hw1 := wr ((s.size : Int) - q5.2) ((s.size : Int) - q5.2) og
 refine sr rfl fun k10 => (Aa hw1) (k10 ((cdA) ?_ ?_)) <;> intro hc1
 . have h9 : wB s a = (iO, -1) := by subst hq5; subst hq4; subst hq3; subst hq2; subst hq1; unfold wB; exact if_pos hc1
   refine (aj) (wR ?_)
   refine fO ?_ ⟨eL _ _, trivial, trivial⟩
   simp only [go_sem, h9, enA, iO]
 simp only [Bool.or_eq_false_iff, decide_eq_false_iff_not] at hc1
 have hw2 := wr (q5.2 + q5.1) (q5.2 + q5.1) og
 have h9 : wB s a = (⟨q1.1, q2.1, q3.1, s.extract q5.2.toNat (q5.2 + q5.1).toNat, q4.1⟩, q5.2 + q5.1) := by
   subst hq5; subst hq4; subst hq3; subst hq2; subst hq1; unfold wB
   exact if_neg (by unfold yR e5 e4 e3 e2 e1; simp only [D4, decide_eq_true_eq]; omega)
 refine wk (k9 (sr rfl fun k12 => (Aa hw2) ((jr) (k12 (sr rfl fun k13 => (Aa hw2) (k13 (wR ?_)))))))
 refine fO ?_ ⟨eL _ _, trivial, trivial⟩
 simp only [go_sem, h9, enA]
def aHz (s : ByteArray) (hs : s.size <= 1048576) : aP P 154 [Ns s] [] 0 (.ref 0) [(0, .row 43 5 ((aHm s).map enA))] 1 := by
 refine (gq 32 [.tmp 2] func154) ?_
 have hmx := mxl
 refine (aj) ?_
 refine sr rfl fun k2 => (ja) ((jr) (k2 ((aj) ?_)))
 refine aA fun k4 => wb ?_
 refine wl (α := Nat × Int × List Entry) (fun x => x.2.2.length + x.1 = 14 /\ -1 <= x.2.1 /\ x.2.1 <= s.size /\ mC s x.1 x.2.1 x.2.2 = aHm s) (fun x => x.1) (fun x => ([(0, Ns s), (3, .ref 0), (4, Ni x.2.1)], [(0, .row 43 5 (x.2.2.map enA))])) 1 (14, 0, []) ⟨rfl, by simp only; omega, by simp only; omega, rfl⟩ [] ?_ ?_
 . simp only [go_sem, AObj.bel, List.map_nil] <;> simp
 rintro ⟨f, a, out⟩ ⟨hlf, ha0, ha1, hgo⟩
 simp only at hlf ha0 ha1 hgo ⊢
 refine aA fun k5 => (aj) ((cdB) ?_ ?_) <;> intro hc1
 . have hend : mC s f a out = out := by cases f with | zero => rfl | succ g => rw [mC, hc1, if_neg oS]
   rw [hend] at hgo
   refine we ((jt) (k4 ((aj) (wR ?_))))
   rw [<- hgo]
   refine ⟨[(0, 0)], ?_⟩
   exact jz
 obtain ⟨g, rfl⟩ : ∃ g, f = g + 1 := ⟨f - 1, by simp only [B7, decide_eq_true_eq] at hc1; omega⟩
 have hto : ((a.toNat : Nat) : Int) = a := by simp only [B7, decide_eq_true_eq] at hc1; omega
 have hlt : a < s.size := by simp only [B7, decide_eq_true_eq] at hc1; omega
 refine wk (k5 (wb ((aj) ?_)))
 refine sr rfl fun k8 => (ja) ?_
 refine vs rfl rfl rfl func173 (aMt s a.toNat og hs) (Ac hto) Af ?_
 refine (Bg) ?_
 have b1 := bMu s a.toNat
 have hst : mC s (g + 1) a out = mC s g (wB s a.toNat).2 (out ++ [(wB s a.toNat).1]) := by rw [mC, if_pos hc1]
 rw [hst] at hgo
 generalize hq1 : wB s a.toNat = q1 at b1 hgo ⊢
 refine k8 (wg rfl ((Cr) ((jr) ((jt) ((jt) ?_)))))
 refine ⟨(g, q1.2, out ++ [q1.1]), ⟨by simp; omega, b1.1, b1.2, hgo⟩, by simp only; omega, [(0, 3)], ?_⟩
 simp only [go_sem, AObj.bel, AObj.ren, AV.ren, aB, sg, enA] <;> simp [enA]
def aLv (s : ByteArray) (a : Nat) (ha : a <= s.size) (hs : s.size <= 1048576) : aJ P 124 [Ns s, Ni (a : Int)] [] 0 (.tup [.sl 5 ((aV s a).1.map enA), .raw (.int .i64 (aV s a).2)]) := by
 refine (pq 54 [.tmp 4, .tmp 5] func124) ?_
 have hmx := mxl
 refine (aj) ?_
 refine sr rfl fun k2 => (ja) ((vq func153 (nH s (a : Int) og og hs)) ?_)
 have b1 := uH s (a : Int)
 have c1 := qH s (a : Int)
 have g1 := aWy s a
 generalize hq1 : bZ s (a : Int) = q1 at b1 c1 g1 ⊢
 refine k2 (aA fun k3 => ?_)
 have hw1 := wr ((s.size : Int) - q1.2) ((s.size : Int) - q1.2) og
 have hw2 := wr ((s.size : Int) - q1.2 - 1) ((s.size : Int) - q1.2 - 1) og
 refine sr rfl fun k4 => (As hw1 hw2) (k4 ((cdA) ?_ ?_)) <;> intro hc1
 . have h9 : aV s a = ([], -1) := by subst hq1; unfold aV; exact if_pos hc1
   refine sr rfl fun k5 => (ja) ((jr) (k5 ?_))
   refine aFz 0 rfl ?_
   refine (Ad) (wR ?_)
   refine fO ?_ ⟨enB _ _, trivial, trivial⟩
   simp only [go_sem, h9, List.map_nil]
 have hb : jN s a = false := by subst hq1; exact hc1
 simp only [Bool.or_eq_false_iff, decide_eq_false_iff_not] at hc1
 have g2 := g1 og
 have hw3 := wr (q1.2 + q1.1) (q1.2 + q1.1) og
 have hw4 := wr (q1.2 + q1.1 + 1) (q1.2 + q1.1 + 1) og
 have hf : aV s a = if (!((fTx (pB s a)).toList == (s.extract a (q1.2 + q1.1 + 1).toNat).toList)) = true then ([], -1) else (pB s a, q1.2 + q1.1 + 1) := by
   unfold aV; rw [hb, hq1]; simp only [C4, if_false]
 refine wk (k3 (sr rfl fun k6 => (Aa hw3) ((jr) ((vq func154 ((bY (aHz (s.extract q1.2.toNat (q1.2 + q1.1).toNat) (by rw [ByteArray.size_extract]; omega)) oG oG : aJ P 154 [Ns (s.extract q1.2.toNat (q1.2 + q1.1).toNat)] [] 0 (.sl 5 ((aHm (s.extract q1.2.toNat (q1.2 + q1.1).toNat)).map enA))))) ?_))))
 have hsm := bHm (s := s.extract q1.2.toNat (q1.2 + q1.1).toNat) (by rw [ByteArray.size_extract]; omega)
 have hfb : pB s a = aHm (s.extract q1.2.toNat (q1.2 + q1.1).toNat) := by unfold pB; rw [hq1]
 rw [<- hfb] at hsm ⊢
 refine k6 (aA fun k7 => sd mixed rfl fun k8 => (As hw3 hw4) ((jr) ?_))
 refine tp rfl rfl rfl ⟨func106, rfl, rfl⟩ (pN (pB s a) (aWk hsm)) oG oG ?_
 refine (As hw3 hw4) ((jr) ((jy) (k8 ((cdA) ?_ ?_)))) <;> intro hc2
 . have h9 : aV s a = ([], -1) := by rw [hf, if_pos (by simpa using hc2)]
   refine sr rfl fun k9 => (ja) ((jr) (k9 ?_))
   refine aFz 0 rfl ?_
   refine (Ad) (wR ?_)
   refine fO ?_ ⟨enB _ _, trivial, trivial⟩
   simp only [go_sem, h9, List.map_nil]
 have h9 : aV s a = (pB s a, q1.2 + q1.1 + 1) := by rw [hf, hc2]; simp
 refine wk (k7 (sr rfl fun k10 => (As hw3 hw4) (k10 (wR ?_))))
 refine fO ?_ ⟨enB _ _, trivial, trivial⟩
 exact Ac h9
def aBl (s : ByteArray) (hs : s.size <= 1048576) : aP P 81 [Ns s] [] 0 (.tup [.ref 0, .raw (.int .i64 (bO s).2)]) [(0, .row 23 1 ((bO s).1.map esA))] 1 := by
 refine (gq 30 [.tmp 2, .tmp 3] func81) ?_
 have hmx := mxl
 refine (aj) ?_
 refine sr rfl fun k2 => (ja) ((jr) (k2 ((aj) ?_)))
 refine aA fun k4 => wb ?_
 refine wl (α := Nat × Nat × List (List Entry)) (fun x => x.2.1 <= s.size /\ s.size <= x.1 + x.2.1 /\ x.2.2.length <= x.2.1 /\ cV s x.1 x.2.1 x.2.2 = bO s) (fun x => x.1) (fun x => ([(0, Ns s), (4, .ref 0), (5, Ni (x.2.1 : Int))], [(0, .row 23 1 (x.2.2.map esA))])) 1 (s.size, 0, []) ⟨A3 _, by simp, by simp, rfl⟩ [] ?_ ?_
 . exact Br
 rintro ⟨f, a, out⟩ ⟨ha, hf, hol, hgo⟩
 simp only at ha hf hol hgo ⊢
 refine aA fun k5 => (aj) ((cdB) ?_ ?_) <;> intro hc1
 . have hge : ¬ a < s.size := by simpa using hc1
   have hend : cV s f a out = (out, (a : Int)) := by cases f with | zero => rfl | succ g => rw [cV, if_neg hge]
   rw [hend] at hgo
   refine we ((jt) (k4 ((aj) (wR ?_))))
   rw [<- hgo]; refine ⟨[], ?_⟩; exact jz
 have hlt : a < s.size := by simpa using hc1
 obtain ⟨g, rfl⟩ : ∃ g, f = g + 1 := ⟨f - 1, og⟩
 refine wk (k5 (wb (sr rfl fun k7 => (ja) ((vq func124 (aLv s a ha hs)) ?_))))
 have b1 := uJ s a
 have b2 := rM s a
 have hst : cV s (g + 1) a out = if (aV s a).2 < 0 then (out, (a : Int)) else cV s g (aV s a).2.toNat (out ++ [(aV s a).1]) := by rw [cV, if_pos hlt]
 rw [hst] at hgo
 generalize hq1 : aV s a = q1 at b1 b2 hgo ⊢
 refine k7 (aA fun k8 => (aj) ((cdA) ?_ ?_)) <;> intro hc2
 . have hn : q1.2 < 0 := by simpa using hc2
   rw [if_pos hn] at hgo
   refine (aj) (wR ((Ah) ?_))
   rw [<- hgo]; refine ⟨[], ?_⟩; exact jz
 have hn : ¬ q1.2 < 0 := by simpa using hc2
 rw [if_neg hn] at hgo
 have b3 := b2 og
 have hto : ((q1.2.toNat : Nat) : Int) = q1.2 := by omega
 rw [<- hto]
 refine wk (k8 (sr rfl fun k11 => (Av) ((jr) (k11 (wg rfl ((ja) ((jt) ((jt) ?_))))))))
 refine ⟨(g, q1.2.toNat, out ++ [q1.1]), ⟨by simp only; omega, by simp only; omega, by simp; omega, hgo⟩, by simp only; omega, [(0, 2)], ?_⟩
 exact Cs
def aEm (bs : List (List Entry)) (seq : Int) (hb : bs.length <= 1048576) (hs : ∀ b ∈ bs, b.length <= 1048576) : aJ P 82 [.sl 1 (bs.map esA), Ni seq] [] 0 (.tup [.sl 5 ((nT bs seq).1.map enA), .raw (.int .i64 (nT bs seq).2)]) := by
 refine (pq 58 [.tmp 4, .tmp 5] func82) ?_
 have hmx := mxl
 refine (aj) ?_
 refine sr rfl fun k2 => (ja) ((jr) (k2 ?_))
 refine aFz 0 rfl ?_
 refine (Ad) ((aj) ?_)
 refine aA fun k4 => (aj) (wb ?_)
 refine wl (α := Nat × List Entry × Int) (fun x => x.1 <= bs.length /\ x.2.1.length <= 1048576 * x.1 /\ (bs.drop x.1).foldl (mH seq) x.2 = nT bs seq) (fun x => bs.length - x.1) (fun x => ([(0, .sl 1 (bs.map esA)), (1, Ni seq), (6, .sl 5 (x.2.1.map enA)), (7, Ni x.2.2), (8, Ni (x.1 : Int))], [])) 0 (0, [], seq) ⟨A3 _, by simp, by simp [nT]⟩ [] ?_ ?_
 . simp only [go_sem, List.map_nil, Int.natCast_zero] <;> simp
 rintro ⟨i, st⟩ ⟨hi, hol, hfold⟩
 simp only at hi hol hfold ⊢
 refine aA fun k6 => (aj) ((cdB) ?_ ?_) <;> intro hc1
 . have hge := gec hc1
   refine we ((jt) (k4 ((aj) (wR ?_))))
   rw [E5 hge] at hfold
   have h9 : nT bs seq = st := hfold.symm
   refine fO ?_ ⟨enB _ _, trivial, trivial⟩
   exact Ac h9
 obtain ⟨hlt, l, hl, hdrop, hml⟩ := ixc hc1
 have hll := hs l hml
 refine wk (k6 (aA fun k8 => wb ((aj) (wb ?_))))
 refine wl (α := Nat × List Entry × Int) (fun x => x.1 <= l.length /\ x.2.1.length <= 1048576 * i + x.1 /\ (l.drop x.1).foldl (jE seq) x.2 = mH seq st l) (fun x => l.length - x.1) (fun x => ([(0, .sl 1 (bs.map esA)), (1, Ni seq), (6, .sl 5 (x.2.1.map enA)), (7, Ni x.2.2), (8, Ni (i : Int)), (9, Ni (x.1 : Int))], [])) 0 (0, st) ⟨A3 _, by simpa using hol, by simp [mH]⟩ [] ?_ ?_
 . exact jc
 rintro ⟨k, out, last⟩ ⟨hk, hol2, hfold2⟩
 simp only at hk hol2 hfold2 ⊢
 refine aA fun k10 => sr rfl fun k11 => (Bm hl) ((jr) (k11 ((cdB) ?_ ?_))) <;> intro hc2
 . have hgek : l.length <= k := by have h9 : ¬ k < l.length := (by simpa using hc2); omega
   rw [E5 hgek] at hfold2
   obtain ⟨st2, hst⟩ : ∃ st2, st2 = (out, last) := ⟨_, rfl⟩
   have hst2 : mH seq st l = st2 := by rw [hst]; exact hfold2.symm
   have ho2 : out = st2.1 := by rw [hst]
   have hl2 : last = st2.2 := by rw [hst]
   rw [ho2, hl2]; rw [ho2] at hol2
   refine we ((jt) ((jt) (k8 ((jw (wiS i og)) ((jt) ?_)))))
   refine ⟨(i + 1, st2), ⟨og, by simp only; omega, by rw [hdrop] at hfold; exact (by rw [List.foldl_cons, hst2] at hfold; exact hfold)⟩, og, [], ?_⟩
   exact jo
 have hltk : k < l.length := by simpa using hc2
 obtain ⟨e, he, hdrop2, hme⟩ := ix hltk
 refine wk (k10 (aA fun k12 => wb (sr rfl fun k13 => ?_)))
 simp only [go_sem, hl, he, esA, enA]
 refine (jr) (k13 ((cdB) ?_ ?_)) <;> intro hc3
 . have hgt : ¬ seq < e.seq := by simpa using hc3
   have hms : jE seq (out, last) e = (out, last) := if_neg hgt
   have hln : (jE seq (out, last) e).1.length <= 1048576 * i + (k + 1) := by rw [hms]; simp only; omega
   refine wk ((jt) (k12 ?_))
   have hwk := wiS k og
   refine wg rfl ((Aa hwk) ((jt) ?_))
   refine ⟨(k + 1, jE seq (out, last) e), ⟨og, hln, by rw [hdrop2] at hfold2; exact hfold2⟩, og, [], ?_⟩
   simp only [go_sem, hms] <;> simp
 have hgt : seq < e.seq := by simpa using hc3
 have hms : jE seq (out, last) e = (cC out e, max last e.seq) := if_pos hgt
 have hln : (jE seq (out, last) e).1.length <= 1048576 * i + (k + 1) := by rw [hms]; have := nZ out e; simp only; omega
 refine sr rfl fun k14 => ?_
 simp only [go_sem, hl, he, esA, enA]
 refine (jr) ?_
 refine (vr rfl rfl rfl func125 (vH out e og) Af Af) ((jr) (k14 (wg rfl ?_)))
 simp only [go_sem, hl, he, esA, enA]
 refine (jr) ((vq func73 (vB last e.seq)) ((jr) ((jt) (k12 ?_))))
 have hwk := wiS k og
 refine wg rfl ((Aa hwk) ((jt) ?_))
 refine ⟨(k + 1, jE seq (out, last) e), ⟨og, hln, by rw [hdrop2] at hfold2; exact hfold2⟩, og, [], ?_⟩
 simp only [go_sem, hms] <;> simp
def aOm (bs : List (List Entry)) (seq : Int) (hb : bs.length <= 1048576) (hs : ∀ b ∈ bs, qW b /\ 1 <= b.length) : aJ P 85 [.sl 1 (bs.map esA), Ni seq] [] 0 (Ns (mN bs seq)) := by
 refine (pq 36 [.tmp 4] func85) ((aj) ((aj) ?_))
 refine aA fun k3 => (aj) (wb ?_)
 refine wl (α := Nat × ByteArray) (fun x => x.1 <= bs.length /\ x.2.size <= 2000 * x.1 /\ (bs.drop x.1).foldl (cG seq) x.2 = mN bs seq) (fun x => bs.length - x.1) (fun x => ([(0, .sl 1 (bs.map esA)), (1, Ni seq), (5, Ns x.2), (6, Ni (x.1 : Int))], [])) 0 (0, ⟨#[]⟩) ⟨A3 _, A0 _, rfl⟩ [] ?_ ?_
 . exact jc
 rintro ⟨i, out⟩ ⟨hi, hsz, hfold⟩
 simp only at hi hsz hfold ⊢
 refine aA fun k5 => (aj) ((cdB) ?_ ?_) <;> intro hc1
 . have hge := gec hc1
   refine we ((jt) (k3 ((aj) (wR ?_))))
   rw [E5 hge] at hfold
   have h9 : mN bs seq = out := hfold.symm
   exact fq h9
 obtain ⟨hlt, l, hl, hdrop, hml⟩ := ixc hc1
 have hsl := hs l hml
 have hsl1 := hsl.1.1
 have hsl2 := hsl.2
 have hle : l[l.length - 1]? = some (bW l) := by unfold bW; rw [A1 og]; rfl
 have hw1 := wr ((l.length : Int) - 1) ((l.length : Int) - 1) og
 have hpn : ((l.length : Int) - 1).toNat = l.length - 1 := by omega
 refine wk (k5 (aA fun k7 => wb (sd mixed rfl fun k8 => ?_)))
 simp only [go_sem, hl, hle, hw1, hpn, esA, enA]
 refine (jr) ((jy) (k8 ((cdB) ?_ ?_))) <;> intro hc2
 . have hgt : ¬ seq < (bW l).seq := by simpa using hc2
   have hms : cG seq out l = out := if_neg hgt
   have hln : (cG seq out l).size <= 2000 * (i + 1) := by rw [hms]; omega
   refine wk ((jt) (k7 ((jw (wiS i og)) ((jt) ?_))))
   refine ⟨(i + 1, cG seq out l), ⟨og, hln, by rw [hdrop] at hfold; exact hfold⟩, og, [], ?_⟩
   simp only [go_sem, hms] <;> simp
 have hgt : seq < (bW l).seq := by simpa using hc2
 have hms : cG seq out l = out ++ fTx l := if_pos hgt
 have hln : (cG seq out l).size <= 2000 * (i + 1) := by rw [hms, B8]; have := tH l; omega
 refine wg rfl ((Bm hl) ((jr) ?_))
 refine vs rfl rfl rfl func106 (pN l (aWk hsl.1)) oG oG ?_
 refine (Bm hl) ?_
 have hfs := tH l
 repeat (refine ⟨og, ?_⟩)
 refine (jt) (k7 ((jw (wiS i og)) ((jt) ?_)))
 refine ⟨(i + 1, cG seq out l), ⟨og, hln, by rw [hdrop] at hfold; exact hfold⟩, og, [], ?_⟩
 simp only [go_sem, hms] <;> simp
def mA (seq : Int) (i : Nat) (e : Entry) : Entry := { e with seq := seq + 1 + i }
def uG (seq : Int) : List Entry -> Nat -> List Entry -> List Entry × Bool
  | [], _, out => (out, true)
  | e :: r, i, out => if e.seq = 0 then (if bK (mA seq i e) = true then uG seq r (i + 1) (out ++ [mA seq i e]) else (out, false)) else (out, false)
def aM (b : List Entry) (seq : Int) : List Entry × Bool := ((uG seq b 0 []).1, (uG seq b 0 []).2 && (decide (1 <= (b.length : Int)) && decide ((b.length : Int) <= 12)))
def aXz (seq : Int) : ∀ (r : List Entry) (i : Nat) (out : List Entry), (uG seq r i out).1.length <= out.length + r.length
  | [], i, out => by simp [uG]
  | e :: r, i, out => by
    unfold uG; split
    . split
      . have := aXz seq r (i + 1) (out ++ [mA seq i e])
        simp at this ⊢
        omega
      simp
    simp
def aSh (seq : Int) : ∀ (r : List Entry) (i : Nat) (out : List Entry), (∀ e ∈ out, bK e = true) -> ∀ e ∈ (uG seq r i out).1, bK e = true
  | [], i, out, h => h
  | e :: r, i, out, h => by
    unfold uG; split
    . split
      . rename_i hok
        exact aSh seq r (i + 1) _ fun x hx => by
          rcases A6.1 hx with h1 | h1
          . exact h x h1
          rw [B4.1 h1]; exact hok
      exact h
    exact h
def cQ {e : Entry} (h : bK e = true) : e.key.size <= 1048576 /\ e.text.size <= 1048576 := by
  have := gP h; omega
def aEk {b : List Entry} {seq : Int} (hb : b.length <= 1048576) : qW (aM b seq).1 :=
  ⟨by have := aXz seq b 0 []; simp at this; exact F4 this hb, fun e he => cQ (aSh seq b 0 [] oS e he)⟩
def aDz (t : Tree) (b : List Entry) : Bool := !(aM b t.seq).2 || decide (60 < (t.mem.length : Int) + ((aM b t.seq).1.length : Int))
def hJ (t : Tree) (b : List Entry) : Tree × Bool := if aDz t b = true then (t, false) else ({ t with mem := (aM b t.seq).1.foldl cC t.mem, seq := t.seq + ((aM b t.seq).1.length : Int) }, true)
def aNr {ls : List Entry} {e x : Entry} (h : x ∈ cC ls e) : x = e ∨ x ∈ ls := by
  unfold cC at h
  rcases A6.1 h with h | h
  . exact .inr (C9 h)
  rcases A7.1 h with h | h
  . exact .inl h
  exact .inr (D0 h)
def aEt (s : ByteArray) (hs : s.size <= 1048576) (a : Nat) (h : 0 <= (aV s a).2) : isB (aV s a).1 = true := by
  have hg := rM s a h
  unfold aV at h hg ⊢
  generalize hfb : pB s a = b at h hg ⊢
  split
  . rename_i hb; rw [if_pos hb] at h; simp at h
  rename_i hb
  rw [if_neg hb] at h hg
  split
  . rename_i hc; rw [if_pos hc] at h; simp at h
  rename_i hc
  rw [if_neg hc] at h hg
  simp only at h hg ⊢
  by_cases hi : isB b = true
  . exact hi
  exfalso
  have he : fTx b = ⟨#[]⟩ := by unfold fTx; rw [if_neg hi]
  rw [he] at hc
  simp [jN] at hb
  have hsz : (s.extract a ((bZ s (a : Int)).2 + (bZ s (a : Int)).1 + 1).toNat).size = ((bZ s (a : Int)).2 + (bZ s (a : Int)).1 + 1).toNat - a := iI s _ _ og
  have key : ∀ x : ByteArray, x.toList.length = x.size := fun x => by rw [ByteArray.toList_eq]; rfl
  have hl := (key _).trans hsz
  have he2 : (⟨#[]⟩ : ByteArray).toList = (s.extract a ((bZ s (a : Int)).2 + (bZ s (a : Int)).1 + 1).toNat).toList := by simpa using hc
  rw [<- he2, key] at hl
  have h0 : (⟨#[]⟩ : ByteArray).size = 0 := rfl
  omega
def aPu (s : ByteArray) (hs : s.size <= 1048576) : ∀ (f a : Nat) (out : List (List Entry)), (∀ b ∈ out, isB b = true) -> out.length <= a -> a <= s.size -> (∀ b ∈ (cV s f a out).1, isB b = true) /\ (cV s f a out).1.length <= s.size
  | 0, a, out, h, hl, ha => ⟨h, by simp only [cV]; omega⟩
  | f + 1, a, out, h, hl, ha => by
    unfold cV; split
    . split
      . exact ⟨h, by simp only; omega⟩
      rename_i hn
      have h1 := rM s a og
      have h2 := uJ s a
      refine aPu s hs f _ _ (fun b hb => ?_) (by simp; omega) og
      rcases A6.1 hb with h3 | h3
      . exact h b h3
      rw [B4.1 h3]; exact aEt s hs a og
    exact ⟨h, by simp only; omega⟩
def uO {s : ByteArray} (hs : s.size <= 1048576) : (∀ b ∈ (bO s).1, isB b = true) /\ (bO s).1.length <= s.size := aPu s hs s.size 0 [] (fun b hb => by cases hb) (A0 0) (A3 _)
def tL {b : List Entry} (h : isB b = true) : qW b /\ 1 <= b.length /\ b.length <= 12 := by
  obtain ⟨h1, h2, h3⟩ := bS h
  exact ⟨⟨og, fun e he => cQ (h1 e he)⟩, h2, h3⟩
def aDc (seq : Int) : ∀ (b : List Entry) (st : List Entry × Int), (∀ e ∈ b, bK e = true) -> (∀ e ∈ st.1, e.key.size <= 1048576 /\ e.text.size <= 1048576) -> (mH seq st b).1.length <= st.1.length + b.length /\ ∀ e ∈ (mH seq st b).1, e.key.size <= 1048576 /\ e.text.size <= 1048576
  | [], st, _, h => ⟨by simp [mH], h⟩
  | x :: r, st, hb, h => by
    have h1 : (jE seq st x).1.length <= st.1.length + 1 /\ ∀ e ∈ (jE seq st x).1, e.key.size <= 1048576 /\ e.text.size <= 1048576 := by
      unfold jE; split
      . simp only [nZ]
        exact ⟨A0 _, fun e he => by
          rcases aNr he with h2 | h2
          . rw [h2]; exact cQ (hb x A2)
          exact h e h2⟩
      exact ⟨og, h⟩
    have h2 := aDc seq r (jE seq st x) (fun e he => hb e (A5 _ he)) h1.2
    simp only [mH, List.foldl_cons, C5] at h2 ⊢
    exact ⟨og, h2.2⟩
def aJa {bs : List (List Entry)} (seq : Int) (hb : ∀ b ∈ bs, isB b = true) : (nT bs seq).1.length <= 12 * bs.length /\ ∀ e ∈ (nT bs seq).1, e.key.size <= 1048576 /\ e.text.size <= 1048576 := by
  have aux : ∀ (bs : List (List Entry)) (st : List Entry × Int), (∀ b ∈ bs, isB b = true) -> (∀ e ∈ st.1, e.key.size <= 1048576 /\ e.text.size <= 1048576) -> (bs.foldl (mH seq) st).1.length <= st.1.length + 12 * bs.length /\ ∀ e ∈ (bs.foldl (mH seq) st).1, e.key.size <= 1048576 /\ e.text.size <= 1048576 := by
    intro bs
    induction bs with
    | nil => intro st _ h; exact ⟨by simp, h⟩
    | cons b r ih =>
      intro st hb h
      obtain ⟨k1, k2, k3⟩ := bS (hb b A2)
      have h1 := aDc seq b st k1 h
      have h2 := ih (mH seq st b) (fun x hx => hb x (A5 _ hx)) h1.2
      simp only [List.foldl_cons, C5]
      exact ⟨og, h2.2⟩
  have := aux bs ([], seq) hb oS
  simpa [nT] using this
def hP : Tree := ⟨0, [], [], []⟩
def aQg : Disk := ⟨⟨#[]⟩, 0, [], 0⟩
def zStore : Store := ⟨false, hP, aQg⟩
def dX (s : Store) : Store :=
  ⟨true, ⟨(nT (bO s.disk.log).1 s.disk.seq).2, (nT (bO s.disk.log).1 s.disk.seq).1, s.disk.levels, []⟩, ⟨mN (bO s.disk.log).1 s.disk.seq, ((mN (bO s.disk.log).1 s.disk.seq).size : Int), s.disk.levels, s.disk.seq⟩⟩
def aQf (s : Store) : Bool := ((!dE s.tree || !decide (s.disk.levels = s.tree.levels)) || decide (s.disk.seq < 0)) || decide (s.tree.seq < s.disk.seq)
def upS (s : Store) : Bool := if aQf s = true then false else
  (decide ((bO s.disk.log).2 = (s.disk.log.size : Int)) && decide ((nT (bO s.disk.log).1 s.disk.seq).1 = s.tree.mem)) && decide ((nT (bO s.disk.log).1 s.disk.seq).2 = s.tree.seq)
def nL (s : Store) : Bool := (decide (12000 < (s.disk.log.size : Int)) || decide (s.disk.safe < 0)) || decide ((s.disk.log.size : Int) < s.disk.safe)
def aF (s : Store) : Bool := if nL s = true then false else if dE ⟨s.disk.seq, [], s.disk.levels, []⟩ = false then false else
  if s.up = true then upS s else eY s.tree hP && upS (dX s)
def bH (s : Store) : Store := if s.up = true then s else { s with tree := hP }
def uR (s : Store) (b : List Entry) : Bool := (!s.up || !(hJ s.tree b).2) || decide (12000 < ((s.disk.log ++ fTx (aM b s.tree.seq).1).size : Int))
def eN (s : Store) (b : List Entry) : Store × Bool := if uR s b = true then (s, false) else (⟨s.up, (hJ s.tree b).1, { s.disk with log := s.disk.log ++ fTx (aM b s.tree.seq).1 }⟩, true)
def aR (U : Nat -> Prop) (s : Store) : (stA s).bel U := ⟨trivial, trivial, enB _ _, aY _ _, dJ _ _, trivial, trivial, aY _ _, trivial, trivial⟩
def gC (U : Nat -> Prop) (t : Tree) : (trA t).bel U := ⟨trivial, enB _ _, aY _ _, dJ _ _, trivial⟩
def xT (b : List Entry) (seq : Int) (hb : cZ b) (hl : b.length <= 1048576) (h0 : 0 <= seq) (h1 : seq <= 100000) : aJ P 104 [.sl 5 (b.map enA), Ni seq] [] 0 (.tup [.sl 5 ((aM b seq).1.map enA), .raw (.bool (aM b seq).2)]) := by
 refine (pq 46 [.tmp 4, .tmp 5] func104) ?_
 have hmx := mxl
 refine (aj) ?_
 refine sr rfl fun k2 => (ja) ((jr) (k2 (aA fun k3 => (aj) (wb ?_))))
 refine wl (α := Nat × List Entry) (fun x => x.1 <= b.length /\ x.2.length = x.1 /\ uG seq (b.drop x.1) x.1 x.2 = uG seq b 0 []) (fun x => b.length - x.1) (fun x => ([(0, .sl 5 (b.map enA)), (1, Ni seq), (6, .ref 0), (7, Ni (x.1 : Int))], [(0, .row 43 5 (x.2.map enA))])) 1 (0, []) ⟨A3 _, rfl, rfl⟩ [] ?_ ?_
 . exact Br
 rintro ⟨i, out⟩ ⟨hi, hol, hgo⟩
 simp only at hi hol hgo ⊢
 refine aA fun k5 => (aj) ((cdB) ?_ ?_) <;> intro hc1
 . have hge := gec hc1
   have hie : i = b.length := by omega
   rw [E5 hge, uG] at hgo
   refine we ((jt) (k3 ((aj) ?_)))
   refine aFz 0 rfl ?_
   refine (Ad) (wR ?_)
   refine fO ?_ ⟨enB _ _, trivial, trivial⟩
   simp only [go_sem, aM, <- hgo, Bool.true_and]
 obtain ⟨hlt, l, hlx, hdrop, hml⟩ := ixc hc1
 have hw1 := wr (seq + 1) (seq + 1) og
 have hw2 := wr (seq + 1 + (i : Int)) (seq + 1 + i) og
 rw [hdrop, uG] at hgo
 refine wk (k5 (aA fun k7 => wb (sr rfl fun k8 => (Am hlx) ((jr) (k8 (aA fun k9 => sr rfl fun k10 => (Bg) (k10 ((cdA) ?_ ?_)))))))) <;> intro hc2
 . have hne : ¬ l.seq = 0 := by simpa using hc2
   rw [if_neg hne] at hgo
   refine (aj) ?_
   refine aFz 0 rfl ?_
   refine (Ad) (wR ((Ah) ?_))
   refine fO ?_ ⟨enB _ _, trivial, trivial⟩
   simp only [go_sem, aM, <- hgo, Bool.false_and]
 have hne : l.seq = 0 := by simpa using hc2
 rw [if_pos hne] at hgo
 refine wk (k9 (sr rfl fun k12 => (As hw1 hw2) (k12 (aA fun k13 => sr rfl fun k14 => (ja) ?_))))
 refine (vr rfl rfl rfl func116 (rV (mA seq i l) (hb.2 l hml)) (by simp only [go_sem, enA, mA]) (by simp only [go_sem, enA, mA])) (k14 ((cdA) ?_ ?_)) <;> intro hc3
 . have hok : ¬ bK (mA seq i l) = true := by simpa using hc3
   rw [if_neg hok] at hgo
   refine (aj) ?_
   refine aFz 0 rfl ?_
   refine (Ad) (wR ((Ah) ?_))
   refine fO ?_ ⟨enB _ _, trivial, trivial⟩
   simp only [go_sem, aM, <- hgo, Bool.false_and]
 have hok : bK (mA seq i l) = true := by simpa using hc3
 have hst2 := (if_pos hok : (if bK (mA seq i l) = true then uG seq (b.drop (i + 1)) (i + 1) (out ++ [mA seq i l]) else (out, false)) = _)
 refine wk (k13 (wg rfl ((Cr) ((jr) ((jt) (k7 ((jw (wiS i og)) ((jt) ?_))))))))
 refine ⟨(i + 1, out ++ [mA seq i l]), ⟨og, by simp [hol], by rw [hst2] at hgo; exact hgo⟩, og, [(0, 3)], ?_⟩
 simp only [go_sem, AObj.bel, AObj.ren, AV.ren, aB, sg] <;> simp [enA, mA]
def aKm (t : Tree) (b : List Entry) (hb : cZ b) (hl : b.length <= 1048576) (hm : t.mem.length <= 1048576) (h0 : 0 <= t.seq) (h1 : t.seq <= 100000) : aJ P 105 [trA t, .sl 5 (b.map enA)] [] 0 (.tup [trA (hJ t b).1, .raw (.bool (hJ t b).2)]) := by
 refine (pq 49 [.cell 4 27, .tmp 5] func105) ?_
 simp only [trA]
 refine (aj) ?_
 refine sr rfl fun k2 => (ja) ((vq func104 (xT b t.seq hb hl h0 h1)) ?_)
 have hsm := aEk (seq := t.seq) hl
 obtain ⟨hs1, hs2⟩ := hsm
 refine k2 (aA fun k3 => ?_)
 have hw1 := wr ((t.mem.length : Int) + ((aM b t.seq).1.length : Int)) ((t.mem.length : Int) + ((aM b t.seq).1.length : Int)) og
 refine sr rfl fun k4 => (Aa hw1) (k4 ((cdA) ?_ ?_)) <;> intro hc1
 . have hbd : aDz t b = true := hc1
   refine (aj) (wR ?_)
   refine fO ?_ ⟨⟨trivial, enB _ _, aY _ _, dJ _ _, trivial⟩, trivial, trivial⟩
   simp only [go_sem, hJ, hbd, if_true, trA]
 have hbd : aDz t b = false := hc1
 refine wk (k3 (aA fun k6 => (aj) (wb ?_)))
 refine wl (α := Nat × List Entry) (fun x => x.1 <= (aM b t.seq).1.length /\ x.2.length = t.mem.length + x.1 /\ ((aM b t.seq).1.drop x.1).foldl cC x.2 = (aM b t.seq).1.foldl cC t.mem) (fun x => (aM b t.seq).1.length - x.1) (fun x => ([(2, .ptr 0 0), (4, .ptr 1 0), (6, .sl 5 ((aM b t.seq).1.map enA)), (8, Ni (x.1 : Int))], [(0, .cells 27 [Ni t.seq, .sl 5 (x.2.map enA), .sl 1 (t.levels.map rsA), .sl 1 (t.snaps.map inA)]), (1, .cells 27 [Ni 0, .raw (.slice none 0 0), .raw (.slice none 0 0), .raw (.slice none 0 0)])])) 2 (0, t.mem) ⟨A3 _, rfl, rfl⟩ [] ?_ ?_
 . exact Bz
 rintro ⟨i, m⟩ ⟨hi, hml, hfold⟩
 simp only at hi hml hfold ⊢
 refine aA fun k8 => (aj) ((cdB) ?_ ?_) <;> intro hc2
 . have hge : (aM b t.seq).1.length <= i := by have h9 : ¬ i < (aM b t.seq).1.length := (by simpa using hc2); omega
   rw [E5 hge] at hfold
   refine we ((jt) (k6 ?_))
   have hw2 := wr (t.seq + ((aM b t.seq).1.length : Int)) (t.seq + ((aM b t.seq).1.length : Int)) og
   refine sr rfl fun k11 => (Aa hw2) (k11 ((aj) (wR ?_)))
   have h9 : (aM b t.seq).1.foldl cC t.mem = m := hfold.symm
   refine fO ?_ ⟨⟨trivial, enB _ _, aY _ _, dJ _ _, trivial⟩, trivial, trivial⟩
   simp only [go_sem, hJ, hbd, C4, if_false, trA, h9]
 have hlt : i < (aM b t.seq).1.length := by simpa using hc2
 obtain ⟨l, hlx, hdrop, hml2⟩ := ix hlt
 refine wk (k8 (aA fun k10 => wb ?_))
 refine dA mixed rfl ?_
 refine (Am hlx) ((jr) ?_)
 refine tp rfl rfl rfl ⟨func125, rfl, rfl⟩ (vH m l og) Af Af ?_
 refine (Am hlx) ((jy) ((jt) (k10 ((jw (wiS i og)) ((jt) ?_)))))
 refine ⟨(i + 1, cC m l), ⟨og, by simp only [nZ]; omega, by rw [hdrop] at hfold; exact hfold⟩, og, [], ?_⟩
 exact Bf
def eP (s : Store) (hs : bQ s) : aJ P 31 [stA s] [] 0 (stA (bH s)) := by
 refine (pq 21 [.cell 2 31] func31) ?_
 simp only [stA]
 refine (aj) ((aj) ?_)
 refine sr rfl fun k3 => (ja) ?_
 refine vs rfl rfl rfl func71 ((bY (gJ s.tree hs.1) Ae Ae : aJ P 71 [trA s.tree] [] 0 (trA s.tree))) Ae Ae ?_
 simp only [go_sem, trA]
 refine k3 (aA fun k4 => (aj) ((cdB) ?_ ?_)) <;> intro hc1
 . have hu : s.up = true := by simpa using hc1
   refine wk (k4 (sr rfl fun k8 => (ja) ((vq func72 ((bY (cR s.disk.levels hs.2) oG oG : aJ P 72 [.sl 1 (s.disk.levels.map rsA)] [] 0 (.sl 1 (s.disk.levels.map rsA))))) (k8 ((aj) (wR ?_))))))
   refine fO ?_ (aR _ _)
   simp only [go_sem, bH, hu, if_true, stA]
 have hu : s.up = false := by simpa using hc1
 refine wg rfl ((ja) (k4 (sr rfl fun k6 => (ja) ((vq func72 ((bY (cR s.disk.levels hs.2) oG oG : aJ P 72 [.sl 1 (s.disk.levels.map rsA)] [] 0 (.sl 1 (s.disk.levels.map rsA))))) (k6 ((aj) ?_))))))
 refine cP 1 (ds := [Nb s.up, Ni 0, .sl 5 [], .sl 1 [], .sl 1 [], Ns s.disk.log, Ni s.disk.safe, .sl 1 (s.disk.levels.map rsA), Ni s.disk.seq]) rfl (by repeat (first | exact LeL.nil | refine LeL.cons (by first | exact Le.refl _ | exact Le.nil _) ?_)) oG ?_
 refine (ja) (wR ?_)
 refine fO ?_ (aR _ _)
 simp only [go_sem, bH, hu, C4, if_false, stA, hP, List.map_nil]
section
variable {i j m : Nat} {G : Prop}
def bR : ∀ x : List UInt8, Op.bytesLess x x = false
  | [] => rfl
  | a :: x => by simp [Op.bytesLess, bR x]
def rR : ∀ x y z : List UInt8, Op.bytesLess x y = true -> Op.bytesLess y z = true -> Op.bytesLess x z = true
  | [], _ :: _, _ :: _, _, _ => rfl
  | [], [], _, h, _ => by cases h
  | _ :: _, [], _, h, _ => by cases h
  | _, _ :: _, [], _, h => by cases h
  | a :: x, b :: y, c :: z, h1, h2 => by
    simp only [Op.bytesLess, D4, decide_eq_true_eq, B7, beq_iff_eq] at h1 h2 ⊢
    rcases h1 with h1 | ⟨h1, h1'⟩ <;> rcases h2 with h2 | ⟨h2, h2'⟩
    . exact .inl (UInt8.lt_trans h1 h2)
    . exact .inl (h2 ▸ h1)
    . exact .inl (h1 ▸ h2)
    exact .inr ⟨h1.trans h2, rR x y z h1' h2'⟩
def aBm : ∀ x y : List UInt8, Op.bytesLess x y = false -> Op.bytesLess y x = false -> x = y
  | [], [], _, _ => rfl
  | [], _ :: _, h, _ => by cases h
  | _ :: _, [], _, h => by cases h
  | a :: x, b :: y, h1, h2 => by
    simp only [Op.bytesLess, Bool.or_eq_false_iff, decide_eq_false_iff_not, Bool.and_eq_false_iff] at h1 h2
    have hab : a = b := UInt8.le_antisymm (UInt8.not_lt.1 h2.1) (UInt8.not_lt.1 h1.1)
    subst hab
    have e1 := h1.2.resolve_left oS
    have e2 := h2.2.resolve_left oS
    rw [aBm x y e1 e2]
def wE (x y z : List UInt8) (h1 : Op.bytesLess x y = false) (h2 : Op.bytesLess y z = false) : Op.bytesLess x z = false := by
  cases h3 : Op.bytesLess x z with
  | false => rfl
  | true =>
    cases h4 : Op.bytesLess y x with
    | true => have := rR y x z h4 h3; rw [h2] at this; cases this
    | false => have := aBm x y h1 h4; subst this; rw [h2] at h3; cases h3
def xF {x y : List UInt8} (h : Op.bytesLess x y = true) : Op.bytesLess y x = false := by
  cases h4 : Op.bytesLess y x with
  | false => rfl
  | true => have := rR x y x h h4; rw [bR] at this; cases this
def qC : Plain.WO entLt fun _ => True where
  irrefl := fun x _ => by simp [entLt, bR]
  trans := fun x y z _ _ _ h1 h2 => by
    simp only [entLt, D4, B7, beq_iff_eq, decide_eq_true_eq] at h1 h2 ⊢
    rcases h1 with h1 | ⟨h1, h1'⟩ <;> rcases h2 with h2 | ⟨h2, h2'⟩
    . exact .inl (rR _ _ _ h1 h2)
    . exact .inl (h2 ▸ h1)
    . exact .inl (h1 ▸ h2)
    exact .inr ⟨h1.trans h2, og⟩
  neg := fun x y z _ _ _ h1 h2 => by
    simp only [entLt, Bool.or_eq_false_iff, Bool.and_eq_false_iff, beq_eq_false_iff_ne, decide_eq_false_iff_not] at h1 h2 ⊢
    refine ⟨wE _ _ _ h1.1 h2.1, ?_⟩
    by_cases e : x.key.toList = z.key.toList
    . right
      have hzy : Op.bytesLess z.key.toList y.key.toList = false := e ▸ h1.1
      have e2 := aBm _ _ hzy h2.1
      have e1 := e.trans e2
      have k1 := h1.2.resolve_left (fun h => h e1)
      have k2 := h2.2.resolve_left (fun h => h e2.symm)
      omega
    exact .inl e
def aBc (x y : ByteArray) : Int := if Op.bytesLess x.toList y.toList = true then -1 else if Op.bytesLess y.toList x.toList = true then 1 else 0
def aIb (x y : Int) : Int := if x < y then -1 else if y < x then 1 else 0
def tP (a b : Entry) : Int := if aBc a.key b.key ≠ 0 then aBc a.key b.key else aIb b.seq a.seq
def uN (a b : Entry) : decide (tP a b < 0) = entLt a b := by
  unfold tP aBc aIb entLt
  by_cases h1 : Op.bytesLess a.key.toList b.key.toList = true
  . simp [h1]
  by_cases h2 : Op.bytesLess b.key.toList a.key.toList = true
  . have : ¬ a.key.toList = b.key.toList := fun e => by rw [e, bR] at h2; cases h2
    simp [h1, h2, this]
  have e := aBm _ _ (by simpa using h1) (by simpa using h2)
  rw [e]; simp only [bR, C4, if_false, ne_eq, not_true_eq_false, beq_self_eq_true, Bool.true_and, Bool.false_or]; split
  . rename_i h; simp [h]
  rename_i h
  split <;> simp [h]
def bFw {s : ByteArray} (h : jG s = true) : 1 <= s.size /\ s.size <= 8 := by
  simp [jG] at h; omega
def aSm {α : Type} {l : List α} (h : i ≠ j) (y : α) : (l.set i y)[j]? = l[j]? := List.getElem?_set_ne h
abbrev cT (d : Nat -> Entry) (n : Nat) (σ : Nat -> Nat) : AObj := .row 43 5 ((List.range n).map fun k => enA (d (σ k)))
def Bh (h : G := by simp only [go_sem, AObj.bel, AObj.ren, AV.ren, aB, cT, sg] <;> simp [enA]) : G := h
def Ba (h : G := by simp only [go_sem, AObj.bel, cT]) : G := h
def Az (h : G := by simp only [go_sem, cT]) : G := h
def Ay {R G : Prop} (h : R -> G := by intro k; simp only [go_sem, AObj.ren, AV.ren, Nat.add_zero, A0, Nat.sub_self, aB, cT, sg, shift]; exact k) : R -> G := h
abbrev gX : AV := .fn (.func 45) [] []
def Ak (h : G := by simp only [go_sem, gX]) : G := h
def aVm (U : Nat -> Prop) (d : Nat -> Entry) (n : Nat) (σ : Nat -> Nat) : aK U ((List.range n).map fun k => enA (d (σ k))) := by
  rw [bLi]; intro x hx; obtain ⟨k, _, rfl⟩ := A9.1 hx; exact eL U _
def bIu (s : Nat -> Nat) (d : Nat -> Entry) (n : Nat) (σ : Nat -> Nat) : aB s ((List.range n).map fun k => enA (d (σ k))) = (List.range n).map fun k => enA (d (σ k)) := dN s (aVm _ d n σ)
attribute [go_sem] aVm bIu
def aUg (d : Nat -> Entry) (n : Nat) (σ : Nat -> Nat) {p q : Nat} (hp : p < n) (hq : q < n) : (((List.range n).map fun k => enA (d (σ k))).set p (enA (d (σ q)))).set q (enA (d (σ p))) = (List.range n).map fun k => enA (d (Plain.swp σ p q k)) := by
  refine List.ext_getElem? fun i => ?_
  rw [G5, G5, B5, B5]; simp only [D1, A8, G9]
  by_cases hi : i < n
  . rw [D7 hi]; unfold Plain.swp; simp only [Option.map_some]
    by_cases h1 : i = q
    . subst h1; rw [if_pos rfl, if_pos hi]
      by_cases h2 : i = p
      . subst h2; simp
      rw [if_neg h2, if_pos rfl]
    rw [if_neg (fun e => h1 e.symm)]
    by_cases h2 : i = p
    . subst h2; rw [if_pos rfl, if_pos rfl, if_pos hp]
    rw [if_neg (fun e => h2 e.symm), if_neg h2, if_neg h1]
  rw [F6 (by simp; omega)]; rw [if_neg og, if_neg og]; rfl
def swr (σ : Nat -> Nat) (a b m : Nat) : Nat -> Nat := fun k => if a <= k /\ k < a + m then σ (k - a + b) else if b <= k /\ k < b + m then σ (k - b + a) else σ k
def bGk (σ : Nat -> Nat) {a b i : Nat} (h : a + i < b) : Plain.swp (swr σ a b i) (a + i) (b + i) = swr σ a b (i + 1) := by
  funext k
  unfold Plain.swp swr
  by_cases h1 : k = a + i
  . subst h1; rw [if_pos rfl, if_neg og, if_neg og, if_pos og]
    congr 1; omega
  rw [if_neg h1]
  by_cases h2 : k = b + i
  . subst h2; rw [if_pos rfl, if_neg og, if_neg og, if_neg og, if_pos og]
    congr 1; omega
  rw [if_neg h2]
  by_cases h3 : a <= k /\ k < a + i
  . rw [if_pos h3, if_pos og]
  rw [if_neg h3]
  by_cases h4 : b <= k /\ k < b + i
  . rw [if_pos h4, if_neg og, if_pos og]
  rw [if_neg h4, if_neg og, if_neg og]
def bKe (σ : Nat -> Nat) (a b : Nat) : swr σ a b 0 = σ := by
  funext k; unfold swr; rw [if_neg og, if_neg og]
def bLt (σ : Nat -> Nat) (h1 : j < i) (h2 : i <= m) (h3 : 0 < j) : Plain.rot (swr σ (m - i) m j) (m - (i - j)) m (m + j) = Plain.rot σ (m - i) m (m + j) := by
  funext k
  unfold Plain.rot swr
  repeat' split
  all_goals first | (exfalso; omega) | (congr 1; omega) | rfl
def bEs (σ : Nat -> Nat) (h1 : i < j) (h2 : i <= m) (h3 : 0 < i) : Plain.rot (swr σ (m - i) (m + j - i) i) (m - i) m (m + (j - i)) = Plain.rot σ (m - i) m (m + j) := by
  funext k
  unfold Plain.rot swr
  repeat' split
  all_goals first | (exfalso; omega) | (congr 1; omega) | rfl
def bPa (σ : Nat -> Nat) (h2 : i <= m) : swr σ (m - i) m i = Plain.rot σ (m - i) m (m + i) := by
  funext k
  unfold Plain.rot swr; simp only [Nat.add_sub_cancel_left]
  by_cases c1 : m - i <= k /\ k < m - i + i
  . rw [if_pos c1, if_pos c1]; congr 1; omega
  rw [if_neg c1, if_neg c1]
  by_cases c2 : m <= k /\ k < m + i
  . rw [if_pos c2, if_pos og]; congr 1; omega
  rw [if_neg c2, if_neg og]
def orI : List Int -> Int
  | [] => 0
  | x :: r => if x = 0 then orI r else x
def bFk (a b : Entry) : orI [aBc a.key b.key, aIb b.seq a.seq] = tP a b := by
  unfold tP
  by_cases h : aBc a.key b.key = 0
  . rw [if_neg (by simp [h]), orI, if_pos h, orI, orI]
    split <;> rename_i h2
    . exact h2.symm
    rfl
  rw [if_pos h, orI, if_neg h]
def sD (s : ByteArray) : aJ P 135 [Ns s] [] 0 (Nb false) := by
 refine (pq 6 [.tmp 2] func135) ((aj) ((aj) (wR ?_)))
 refine fO ?_ trivial; simp only [go_sem, beq_self_eq_true, Bool.not_true]
def wK (n : Int) : aJ P 136 [Ni n] [] 0 (Nb false) := by
 refine (pq 6 [.tmp 2] func136) ((aj) ((aj) (wR ?_)))
 refine fO ?_ trivial; simp only [go_sem, decide_true, Bool.not_true]
def yK (x y : ByteArray) : aJ P 96 [Ns x, Ns y] [] 0 (Ni (aBc x y)) := by
 refine (pq 20 [.tmp 4] func96) ((aj) ?_)
 refine sr rfl fun k2 => (ja) ((vq func135 (sD x)) (k2 (sr rfl fun k3 => (ja) ((vq func135 (sD y)) (k3 (aA fun k4 => (aj) ((cdA) (fun hc => by simp at hc) fun hc1 => ?_)))))))
 refine wk (k4 (aA fun k6 => (aj) ((cdA) (fun hc => by simp at hc) fun hc2 => ?_)))
 refine wk (k6 (aA fun k8 => (aj) ((cdA) ?_ ?_))) <;> intro hc3
 . refine (aj) (wR ?_)
   refine fO ?_ trivial; simp only [go_sem, aBc, if_pos hc3]
 refine wk (k8 (aA fun k11 => (aj) ((cdA) ?_ ?_))) <;> intro hc4
 . refine (aj) (wR ?_)
   have h9 : aBc x y = 1 := by
     unfold aBc; rw [hc3]; simp at hc4
     cases h8 : Op.bytesLess y.toList x.toList with
     | true => simp
     | false => exact absurd (aBm _ _ hc3 h8) hc4.2
   exact fq h9
 refine wk (k11 ((aj) (wR ?_)))
 have h9 : aBc x y = 0 := by
   unfold aBc; simp at hc4; rw [hc3, hc4 hc3, bR]
   simp
 exact fq h9
def aDy (x y : Int) : aJ P 97 [Ni x, Ni y] [] 0 (Ni (aIb x y)) := by
 refine (pq 20 [.tmp 4] func97) ((aj) ?_)
 refine sr rfl fun k2 => (ja) ((vq func136 (wK x)) (k2 (sr rfl fun k3 => (ja) ((vq func136 (wK y)) (k3 (aA fun k4 => (aj) ((cdA) (fun hc => by simp at hc) fun hc1 => ?_)))))))
 refine wk (k4 (aA fun k6 => (aj) ((cdA) (fun hc => by simp at hc) fun hc2 => ?_)))
 refine wk (k6 (aA fun k8 => (aj) ((cdA) ?_ ?_))) <;> intro hc3
 . have n3 : x < y := by simpa using hc3
   refine (aj) (wR ?_)
   refine fO ?_ trivial; simp only [go_sem, aIb, if_pos n3]
 have n3 : ¬ (x < y) := by simpa using hc3
 refine wk (k8 (aA fun k11 => (aj) ((cdA) ?_ ?_))) <;> intro hc4
 . have n4 : y < x := by simpa using hc4
   refine (aj) (wR ?_)
   refine fO ?_ trivial; simp only [go_sem, aIb, if_neg n3, if_pos n4]
 have n4 : ¬ (y < x) := by simpa using hc4
 refine wk (k11 ((aj) (wR ?_)))
 refine fO ?_ trivial; simp only [go_sem, aIb, if_neg n3, if_neg n4]
def aTx (ls : List Int) (hz : ls.length <= 4611686018427387904) : aJ P 95 [.sl 1 (ls.map inA)] [] 0 (Ni (orI ls)) := by
 refine (pq 18 [.tmp 2] func95) ((aj) ((aj) ?_))
 refine aA fun k3 => (aj) (wb ?_)
 refine wl (α := Nat) (fun x => x <= ls.length /\ orI (ls.drop x) = orI ls) (fun x => ls.length - x) (fun x => ([(3, Ni 0), (6, .sl 1 (ls.map inA)), (7, Ni (ls.length : Int)), (8, Ni (x : Int))], [])) 0 0 ⟨A3 _, rfl⟩ [] ?_ ?_
 . exact jc
 rintro i ⟨hi, hor⟩
 refine (aj) ?_
 refine aA fun k6 => (cdB) ?_ ?_ <;> intro hc1
 . have hge := gec hc1
   refine we ((jt) (k3 ((aj) (wR ?_))))
   rw [E5 hge, orI] at hor
   exact fq hor
 obtain ⟨hlt, l, hl, hdrop, hml⟩ := ixc hc1
 refine wk (k6 (aA fun k7 => wb (sr rfl fun k8 => ?_)))
 simp only [go_sem, hl, inA]
 refine (jr) (k8 ((aj) ((cdA) ?_ ?_))) <;> intro hc2
 . have n2 : ¬ l = 0 := by simpa using hc2
   refine (aj) (wR ((Ah) ?_))
   rw [hdrop, orI, if_neg n2] at hor
   exact fq hor
 have n2 : l = 0 := by simpa using hc2
 refine wk ((jt) (k7 ((jw (wiS i og)) ((jt) ?_))))
 refine ⟨i + 1, ⟨og, by rw [hdrop, orI, if_pos n2] at hor; exact hor⟩, og, [], ?_⟩
 exact jo
def iV (a b : Entry) : aJ P 45 [enA a, enA b] [] 0 (Ni (tP a b)) := by
 refine (pq 17 [.tmp 4] func45) ?_
 simp only [enA]
 have hmx := mxl
 refine (aj) ?_
 refine sd mixed rfl fun k2 => (ja) ((jr) ?_)
 refine tp rfl rfl rfl ⟨func96, rfl, rfl⟩ (yK a.key b.key) oG oG ?_
 refine (ja) ((jr) ?_)
 refine tp rfl rfl rfl ⟨func97, rfl, rfl⟩ (aDy b.seq a.seq) oG oG ?_
 refine (ja) ((jr) ?_)
 refine tl [2] (xs := [.ref 2]) rfl rfl rfl ⟨func95, rfl, rfl⟩ (aTx [aBc a.key b.key, aIb b.seq a.seq] oS) rfl (by simp [aIg, xS, Abs.get, fzL, AV.fz, inA]) ⟨⟨trivial, trivial, trivial⟩, trivial⟩ rfl ?_
 refine (ja) ((jr) ((jy) (k2 (wR (fO ?_ trivial)))))
 simp only [go_sem, bFk]
def aEr (a b : Entry) : aJ P 128 [enA a, enA b] [] 0 (Nb (entLt a b)) := by
 refine (pq 20 [.tmp 4] func128) ?_
 simp only [enA]
 refine (aj) ?_
 refine aA fun k2 => (aj) ((cdA) ?_ ?_) <;> intro hc1
 . refine (aj) (wR ?_)
   have h9 : entLt a b = Op.bytesLess a.key.toList b.key.toList := by
     have hk : (a.key.toList == b.key.toList) = false := by simpa using hc1
     unfold entLt; rw [hk]; simp
   exact fq h9
 refine wk (k2 ((aj) (wR ?_)))
 have h9 : entLt a b = decide (b.seq < a.seq) := by
   have hk : a.key.toList = b.key.toList := by simpa using hc1
   unfold entLt; rw [hk, bR]; simp
 exact fq h9
def aSb (s : ByteArray) (hz : s.size <= 4611686018427387904) : aJ P 141 [Ns s] [] 0 (Nb (jG s)) := by
 refine (pq 41 [.tmp 2] func141) ((aj) ?_)
 refine aA fun k2 => (aj) ((cdA) ?_ ?_) <;> intro hc1
 . have h9 : jG s = false := Bool.eq_false_iff.2 fun h => by have := bFw h; simp at hc1; omega
   exact (aj) (wR (fq h9))
 have hsz : 1 <= s.size /\ s.size <= 8 := by simp at hc1; omega
 refine wk (k2 (aA fun k5 => (aj) (wb ?_)))
 refine wa s.size (wH s) (fun x => ([(0, Ns s), (14, Ni (s.size : Int)), (15, Ni (x : Int))], [])) 0 [] ?_ ?_
 . exact jc
 rintro i ⟨hi, hall⟩
 refine (aj) ?_
 refine aA fun k8 => (cdB) ?_ ?_ <;> intro hc2
 . have hge : s.size <= i := Nat.not_lt.1 (by simpa using hc2)
   refine we ((jt) (k5 ((aj) (wR ?_))))
   have h9 : jG s = true := by unfold jG; rw [gE hge hall]; simp; omega
   exact fq h9
 have hlt : i < s.size := by simpa using hc2
 refine wk (k8 (aA fun k9 => wb ((aj) ?_)))
 refine sr rfl fun k11 => (ja) ((jr) (k11 ((aj) ((cdA) ?_ ?_)))) <;> intro hc3
 . have hp : wH s i = false := by unfold wH; simp at hc3 ⊢; omega
   refine (aj) (wR ((Ah) ?_))
   have h9 : jG s = false := by unfold jG; rw [gZ hlt hp]; rfl
   exact fq h9
 have hp : wH s i = true := by unfold wH; simp at hc3 ⊢; omega
 refine wk ((jt) (k9 ((jw (wiS i og)) ((jt) ?_))))
 refine ⟨i + 1, ⟨og, cO hall hp⟩, og, [], ?_⟩
 exact jo
def xW (e : Entry) (hz : aNq e) : aJ P 108 [enA e] [] 0 (Nb (bK e)) := by
 refine (pq 50 [.tmp 2] func108) ?_
 simp only [enA]
 refine (aj) ?_
 refine aA fun k2 => sr rfl fun k3 => (ja) ((vq func141 (aSb e.key hz.1)) (k3 ((cdA) ?_ ?_))) <;> intro hc1
 . have hb : jQ e = true := by unfold jQ; revert hc1; cases jG e.key <;> simp <;> omega
   refine (aj) (wR ?_)
   refine fO ?_ trivial; simp only [go_sem, bK, hb]
 refine wk (k2 (aA fun k5 => (aj) ((cdA) ?_ ?_))) <;> intro hc2
 . have hb : jQ e = true := by unfold jQ nN; simp at hc2 ⊢; omega
   refine (aj) (wR ?_)
   refine fO ?_ trivial; simp only [go_sem, bK, hb]
 have hb : jQ e = false := by unfold jQ nN; revert hc1; cases jG e.key <;> simp at hc2 ⊢ <;> omega
 refine wk (k5 (aA fun k8 => (aj) (wb ((aj) ((cdA) ?_ ?_))))) <;> intro hc3
 . have k1 : e.kind = 1 := by simpa using hc3
   refine (aj) (wR ((Ah) ?_))
   refine fO ?_ trivial; simp only [go_sem, bK, hb, C4, if_false, if_pos k1]
 have k1 : ¬ (e.kind = 1) := by simpa using hc3
 refine (aj) ((cdA) ?_ ?_) <;> intro hc4
 . have k2 : e.kind = 2 := by simpa using hc4
   refine (aj) (wR ((Ah) ?_))
   refine fO ?_ trivial; simp only [go_sem, bK, hb, C4, if_false, if_neg k1, if_pos k2]
 have k2 : ¬ (e.kind = 2) := by simpa using hc4
 refine (aj) ((cdA) ?_ ?_) <;> intro hc5
 . have k3 : e.kind = 3 := by simpa using hc5
   refine (aj) (wR ((Ah) ?_))
   refine fO ?_ trivial; simp only [go_sem, bK, hb, C4, if_false, if_neg k1, if_neg k2, if_pos k3]
 have k3 : ¬ (e.kind = 3) := by simpa using hc5
 refine wk ((jt) (k8 ((aj) (wR ?_))))
 refine fO ?_ trivial; simp only [go_sem, bK, hb, C4, if_false, if_neg k1, if_neg k2, if_neg k3]
def xG (ls : List Entry) (hz : cZ ls) : aJ P 89 [.sl 5 (ls.map enA)] [] 0 (Nb (cD ls)) := by
 refine (pq 30 [.tmp 2] func89) ?_
 have hlen := hz.1
 refine (aj) ?_
 refine aA fun k2 => (aj) (wb ?_)
 refine wa ls.length (zX ls) (fun x => ([(0, .sl 5 (ls.map enA)), (5, .sl 5 (ls.map enA)), (6, Ni (ls.length : Int)), (7, Ni (x : Int))], [])) 0 [] ?_ ?_
 . exact jc
 rintro i ⟨hi, hall⟩
 refine (aj) ?_
 refine aA fun k5 => (cdB) ?_ ?_ <;> intro hc1
 . have hge := gec hc1
   refine we ((jt) (k2 ((aj) (wR ?_))))
   have h9 : cD ls = true := by unfold cD; exact gE hge hall
   exact fq h9
 obtain ⟨hlt, l, hl, hdrop, hml⟩ := ixc hc1
 have hw1 := wr ((i : Int) - 1) ((i : Int) - 1) og
 have hpn : ((i : Int) - 1).toNat = i - 1 := by omega
 have hpv : ls[i - 1]? = some (cB ls i) := by unfold cB; rw [A1 og]; rfl
 refine wk (k5 (aA fun k6 => wb (sr rfl fun k7 => (Am hl) ((jr) (k7 (sd mixed rfl fun k8 => (Aw hl hw1 hpn hpv) ((jr) ?_)))))))
 refine tp rfl rfl rfl ⟨func108, rfl, rfl⟩ (xW l (hz.2 l hml)) Af Af ?_
 refine (Aw hl hw1 hpn hpv) ((jr) ?_)
 refine tpg rfl rfl rfl rfl rfl rfl ⟨func128, rfl, rfl⟩ (fun hg => aEr (cB ls i) l) oG (fun hg => Af) Af trivial ?_
 refine (Aw hl hw1 hpn hpv) ((jr) ((jy) (k8 ((cdA) ?_ ?_)))) <;> intro hc2
 . have hp : zX ls i = false := by unfold zX; rw [hl]; simp only [hc2]; rfl
   refine (aj) (wR ((Ah) ?_))
   have h9 : cD ls = false := by unfold cD; exact gZ hlt hp
   exact fq h9
 have hp : zX ls i = true := by unfold zX; rw [hl]; simp only [hc2]; rfl
 refine wk ((jt) (k6 ((jw (wiS i og)) ((jt) ?_))))
 refine ⟨i + 1, ⟨og, cO hall hp⟩, og, [], ?_⟩
 exact jo
def cJ (a b : List Entry) (hz : a.length <= 4611686018427387904) : aJ P 43 [.sl 5 (a.map enA), .sl 5 (b.map enA)] [] 0 (Nb (decide (a = b))) := by
 refine (pq 26 [.tmp 4] func43) ((aj) ?_)
 refine aA fun k2 => (aj) ((cdA) ?_ ?_) <;> intro hc1
 . have hne : a ≠ b := fun e => by rw [e] at hc1; simp at hc1
   exact (aj) (wR (fq (decide_eq_false hne)))
 have hlen : a.length = b.length := by simp at hc1; omega
 refine wk (k2 (aA fun k5 => (aj) (wb ?_)))
 refine wa a.length (sL a b) (fun x => ([(0, .sl 5 (a.map enA)), (1, .sl 5 (b.map enA)), (12, Ni (a.length : Int)), (13, Ni (x : Int))], [])) 0 [] ?_ ?_
 . exact jc
 rintro i ⟨hi, hall⟩
 refine (aj) ?_
 refine aA fun k8 => (cdB) ?_ ?_ <;> intro hc2
 . have hge := gec hc2
   refine we ((jt) (k5 ((aj) (wR ?_))))
   have hie : i = a.length := by omega
   subst hie
   have he := pH hlen hall
   exact fq (decide_eq_true he)
 obtain ⟨hlt, l, hl, _, _⟩ := ixc hc2
 obtain ⟨m, hm, _, _⟩ := ix (xs := b) (i := i) og
 refine wk (k8 (aA fun k9 => wb ((aj) ?_)))
 refine sd mixed rfl fun k11 => (Bt hl hm) ((jr) ?_)
 refine aN (fun hN => aCz rfl rfl hN rfl rfl) (.inl rfl) ?_
 refine (Bt hl hm) ((jr) ((jy) (k11 ((cdA) ?_ ?_)))) <;> intro hc3
 . have hne : a ≠ b := fun e => by
     rw [e, hm] at hl; cases hl; simp at hc3
   exact (aj) (wR ((Ah) (fq (decide_eq_false hne))))
 . have hp : sL a b i = true := by unfold sL; rw [hl, hm]; simpa using hc3
   refine wk ((jt) (k9 ((jw (wiS i og)) ((jt) ?_))))
   refine ⟨i + 1, ⟨og, cO hall hp⟩, og, [], ?_⟩
   exact jo
def uE (a b : List Int) (hz : a.length <= 4611686018427387904) : aJ P 66 [.sl 1 (a.map inA), .sl 1 (b.map inA)] [] 0 (Nb (decide (a = b))) := by
 refine (pq 26 [.tmp 4] func66) ((aj) ?_)
 refine aA fun k2 => (aj) ((cdA) ?_ ?_) <;> intro hc1
 . have hne : a ≠ b := fun e => by rw [e] at hc1; simp at hc1
   exact (aj) (wR (fq (decide_eq_false hne)))
 have hlen : a.length = b.length := by simp at hc1; omega
 refine wk (k2 (aA fun k5 => (aj) (wb ?_)))
 refine wa a.length (sL a b) (fun x => ([(0, .sl 1 (a.map inA)), (1, .sl 1 (b.map inA)), (12, Ni (a.length : Int)), (13, Ni (x : Int))], [])) 0 [] ?_ ?_
 . exact jc
 rintro i ⟨hi, hall⟩
 refine (aj) ?_
 refine aA fun k8 => (cdB) ?_ ?_ <;> intro hc2
 . have hge := gec hc2
   refine we ((jt) (k5 ((aj) (wR ?_))))
   have hie : i = a.length := by omega
   subst hie
   have he := pH hlen hall
   exact fq (decide_eq_true he)
 obtain ⟨hlt, l, hl, _, _⟩ := ixc hc2
 obtain ⟨m, hm, _, _⟩ := ix (xs := b) (i := i) og
 refine wk (k8 (aA fun k9 => wb ((aj) ?_)))
 refine sd mixed rfl fun k11 => ?_
 simp only [go_sem, hl, hm, inA]
 refine (jr) ((jy) (k11 ((cdA) ?_ ?_))) <;> intro hc3
 . have hne : a ≠ b := fun e => by
     rw [e, hm] at hl; cases hl; simp at hc3
   exact (aj) (wR ((Ah) (fq (decide_eq_false hne))))
 . have hp : sL a b i = true := by unfold sL; rw [hl, hm]; simpa using hc3
   refine wk ((jt) (k9 ((jw (wiS i og)) ((jt) ?_))))
   refine ⟨i + 1, ⟨og, cO hall hp⟩, og, [], ?_⟩
   exact jo
def aOi (r : Run) (h1 : 1 <= r.ents.length) : aJ P 132 [rA r] [] 0 (Ns (aI r)) := by
 refine (pq 8 [.tmp 2] func132) ?_
 simp only [rA]
 have hl : r.ents[0]? = some ((r.ents[0]?).getD nK) := by rw [A1 og]; rfl
 generalize hg : (r.ents[0]?).getD nK = l at hl
 have hk : aI r = l.key := by unfold aI; rw [hg]
 rw [hk]
 refine (aj) ?_
 refine sr rfl fun k2 => (Ce hl) ((jr) (k2 (wR (fO ?_ trivial))))
 exact At
def aJi (r : Run) (h1 : 1 <= r.ents.length) (h2 : r.ents.length <= 4611686018427387904) : aJ P 131 [rA r] [] 0 (Ns (aL r)) := by
 refine (pq 12 [.tmp 2] func131) ?_
 simp only [rA]
 have hl : r.ents[r.ents.length - 1]? = some ((r.ents[r.ents.length - 1]?).getD nK) := by rw [A1 og]; rfl
 generalize hg : (r.ents[r.ents.length - 1]?).getD nK = l at hl
 have hk : aL r = l.key := by unfold aL; rw [hg]
 rw [hk]
 have hw1 := wr ((r.ents.length : Int) - 1) ((r.ents.length : Int) - 1) og
 have hpn : ((r.ents.length : Int) - 1).toNat = r.ents.length - 1 := by omega
 refine (aj) ?_
 refine sr rfl fun k2 => (Bq hl hw1 hpn) ((jr) (k2 (wR (fO ?_ trivial))))
 exact At
def xM (a b : Run) (hz : a.ents.length <= 4611686018427387904) : aJ P 70 [rA a, rA b] [] 0 (Nb (decide (a.mask = b.mask) && decide (a.ents = b.ents))) := by
 refine (pq 17 [.tmp 4] func70) ?_
 simp only [rA]
 refine (aj) ?_
 refine sr rfl fun k2 => (ja) ?_
 refine vpg rfl rfl rfl rfl rfl rfl ⟨func43, rfl, rfl⟩ (fun hg => cJ a.ents b.ents hz) oG (fun hg => oG) oG trivial ?_
 refine (ja) (k2 (wR (fO ?_ trivial)))
 exact At
end
end Go.Proofs.S
end
section
open Go Go.Abs Go.Proofs Go.Proofs.Tryz
open Go.Plain (swp rot zU yC gM gT iH lU)
namespace Go.Proofs.S
section
variable {a j f s r k : Nat} {σ : Nat -> Nat}
abbrev lE (d : Nat -> Entry) : Nat -> Nat -> Bool := fun i j => entLt (d i) (d j)
def bEq {l : Nat -> Nat -> Bool} (h : a < j) (hl : l (σ j) (σ (j - 1)) = true) : zU l a j σ = zU l a (j - 1) (swp σ j (j - 1)) := by
  obtain ⟨k, rfl⟩ : ∃ k, j = k + 1 := ⟨j - 1, og⟩
  rw [Nat.add_sub_cancel] at hl ⊢
  rw [zU, if_pos ⟨h, hl⟩]
def bDy {l : Nat -> Nat -> Bool} (h : ¬ (a < j /\ l (σ j) (σ (j - 1)) = true)) : zU l a j σ = σ := by
  cases j with
  | zero => rfl
  | succ k => rw [Nat.add_sub_cancel] at h; rw [zU, if_neg h]
def bAu {l : Nat -> Nat -> Bool} {a b i : Nat} (h : i < b) : yC l a (b - i) i σ = yC l a (b - (i + 1)) (i + 1) (zU l a i σ) := by
  rw [show b - i = (b - (i + 1)) + 1 by omega, yC]
def aIy (t : Nat -> Bool) : ∀ (f g s r : Nat), r - s <= f -> r - s <= g -> gT t f s r = gT t g s r
  | 0, 0, _, _, _, _ => rfl
  | 0, g + 1, s, r, h, _ => by rw [gT, gT, if_neg og]
  | f + 1, 0, s, r, _, h => by rw [gT, gT, if_neg og]
  | f + 1, g + 1, s, r, h1, h2 => by
    rw [gT, gT]; split
    . split
      . exact aIy t f g _ _ og og
      exact aIy t f g _ _ og og
    rfl
def zH {t : Nat -> Bool} (h : s < r) (hf : r - s <= f) : gT t f s r = if t ((s + r) / 2) = true then gT t f s ((s + r) / 2) else gT t f ((s + r) / 2 + 1) r := by
  obtain ⟨g, rfl⟩ : ∃ g, f = g + 1 := ⟨f - 1, og⟩
  rw [gT, if_pos h]; split
  . exact aIy t g (g + 1) _ _ og og
  exact aIy t g (g + 1) _ _ og og
def aSy {t : Nat -> Bool} (h : ¬ s < r) : gT t f s r = s := by
  cases f with
  | zero => rfl
  | succ f => rw [gT, if_neg h]
def bPb (σ : Nat -> Nat) (h : a <= k) : swp (rot σ a (a + 1) (k + 1)) k (k + 1) = rot σ a (a + 1) (k + 2) := by
  funext x
  unfold swp rot
  repeat' split
  all_goals first | (exfalso; omega) | (congr 1; omega) | rfl | (subst_vars; congr 1; omega)
def bNc (σ : Nat -> Nat) (a : Nat) : rot σ a (a + 1) (a + 1) = σ := by
  funext x
  unfold rot
  repeat' split
  all_goals first | (exfalso; omega) | (congr 1; omega) | rfl | (subst_vars; congr 1; omega)
def bOi (σ : Nat -> Nat) {k m : Nat} (h : 0 < k) (hk : k <= m) : swp (rot σ k m (m + 1)) k (k - 1) = rot σ (k - 1) m (m + 1) := by
  funext x
  unfold swp rot
  repeat' split
  all_goals first | (exfalso; omega) | (congr 1; omega) | rfl | (subst_vars; congr 1; omega)
def bMg (σ : Nat -> Nat) (m : Nat) : rot σ m m (m + 1) = σ := by
  funext x
  unfold rot
  repeat' split
  all_goals first | (exfalso; omega) | (congr 1; omega) | rfl | (subst_vars; congr 1; omega)
def cM (d : Nat -> Entry) (n : Nat) (σ : Nat -> Nat) (hn : n <= 1048576) (a b m : Nat) (h1 : a + m <= b) (h2 : b + m <= n) : aP P 181 [.ref 0, Ni (a : Int), Ni (b : Int), Ni (m : Int), gX] [(0, cT d n σ)] 1 (.tup []) [(0, cT d n (swr σ a b m))] 1 := by
 refine (gq 38 [] func181) ?_
 simp only [cT, gX]
 refine (aj) (wb ?_)
 refine wn m (fun x => ([(0, .ref 0), (1, Ni (a : Int)), (2, Ni (b : Int)), (3, Ni (m : Int)), (10, Ni (x : Int))], [(0, .row 43 5 ((List.range n).map fun z => enA (d (swr σ a b x z))))])) 1 [] ?_ ?_
 . simp only [go_sem, AObj.bel, AObj.ren, AV.ren, aB, sg, Int.natCast_zero, bKe] <;> simp
 rintro i hi
 refine aA fun k2 => (aj) ((cdB) ?_ ?_) <;> intro hc1
 . have hie : i = m := by have h9 : ¬ i < m := (by simpa using hc1); omega
   subst hie
   refine we ((jt) ?_)
   refine ⟨[], ?_⟩; exact Bh
 have hlt : i < m := by simpa using hc1
 refine wk (k2 (aA fun k4 => wb ?_))
 have hrow : (((List.range n).map fun z => (.agg [.raw (.string (d (swr σ a b i z)).key), .raw (.int .i64 (d (swr σ a b i z)).seq), .raw (.int .i64 (d (swr σ a b i z)).kind), .raw (.string (d (swr σ a b i z)).text), .raw (.int .i64 (d (swr σ a b i z)).n)])).set (a + i) (.agg [.raw (.string (d (swr σ a b i (b + i))).key), .raw (.int .i64 (d (swr σ a b i (b + i))).seq), .raw (.int .i64 (d (swr σ a b i (b + i))).kind), .raw (.string (d (swr σ a b i (b + i))).text), .raw (.int .i64 (d (swr σ a b i (b + i))).n)])).set (b + i) (.agg [.raw (.string (d (swr σ a b i (a + i))).key), .raw (.int .i64 (d (swr σ a b i (a + i))).seq), .raw (.int .i64 (d (swr σ a b i (a + i))).kind), .raw (.string (d (swr σ a b i (a + i))).text), .raw (.int .i64 (d (swr σ a b i (a + i))).n)]) = (List.range n).map fun z => enA (d (swr σ a b (i + 1) z)) := by
   have h9 := aUg d n (swr σ a b i) (p := a + i) (q := b + i) og og
   rw [bGk σ og] at h9; exact h9
 have hs1 : ∀ (y : AV), (((List.range n).map fun z => (.agg [.raw (.string (d (swr σ a b i z)).key), .raw (.int .i64 (d (swr σ a b i z)).seq), .raw (.int .i64 (d (swr σ a b i z)).kind), .raw (.string (d (swr σ a b i z)).text), .raw (.int .i64 (d (swr σ a b i z)).n)])).set (a + i) y)[b + i]? = ((List.range n).map fun z => (.agg [.raw (.string (d (swr σ a b i z)).key), .raw (.int .i64 (d (swr σ a b i z)).seq), .raw (.int .i64 (d (swr σ a b i z)).kind), .raw (.string (d (swr σ a b i z)).text), .raw (.int .i64 (d (swr σ a b i z)).n)]))[b + i]? := fun y => aSm og y
 have hr1 : (List.range n)[a + i]? = some (a + i) := D7 og
 have hr2 : (List.range n)[b + i]? = some (b + i) := D7 og
 have hwa := wr ((a : Int) + (i : Int)) (((a + i : Nat) : Int)) og
 have hwb := wr ((b : Int) + (i : Int)) (((b + i : Nat) : Int)) og
 refine dA mixed rfl ?_
 refine (Ct hwa hwb hr1 hr2 hs1) ((jr) ?_)
 rw [hrow]
 refine (jy) ((jt) (k4 ((jw (wiS i og)) ((jt) ?_))))
 refine ⟨i + 1, og, og, [], ?_⟩
 exact Al
def mS (d : Nat -> Entry) (n : Nat) (σ : Nat -> Nat) (hn : n <= 1048576) (a m b : Nat) (h1 : a < m) (h2 : m < b) (h3 : b <= n) : aP P 159 [.ref 0, Ni (a : Int), Ni (m : Int), Ni (b : Int), gX] [(0, cT d n σ)] 1 (.tup []) [(0, cT d n (rot σ a m b))] 1 := by
 refine (gq 58 [] func159) ?_
 simp only [cT, gX]
 obtain ⟨i0, hi0⟩ : ∃ i0, i0 = m - a := ⟨_, rfl⟩
 obtain ⟨j0, hj0⟩ : ∃ j0, j0 = b - m := ⟨_, rfl⟩
 have hw1 := wr ((m : Int) - (a : Int)) ((i0 : Int)) og
 have hw2 := wr ((b : Int) - (m : Int)) ((j0 : Int)) og
 have ea : a = m - i0 := by omega
 have eb : b = m + j0 := by omega
 refine sr rfl fun k1 => (Aa hw1) (k1 (sr rfl fun k2 => (Aa hw2) (k2 (aA fun k3 => wb ?_))))
 refine wl (α := Nat × Nat × (Nat -> Nat)) (fun x => 0 < x.1 /\ 0 < x.2.1 /\ x.1 <= i0 /\ x.2.1 <= j0 /\ rot x.2.2 (m - x.1) m (m + x.2.1) = rot σ a m b) (fun x => x.1 + x.2.1) (fun x => ([(0, .ref 0), (2, Ni (m : Int)), (4, .fn (.func 45) [] []), (10, Ni (x.1 : Int)), (11, Ni (x.2.1 : Int))], [(0, .row 43 5 ((List.range n).map fun z => enA (d (x.2.2 z))))])) 1 (i0, j0, σ) ⟨by simp only; omega, by simp only; omega, A0 _, A0 _, by rw [<- ea, <- eb]⟩ [] ?_ ?_
 . exact Al
 rintro ⟨i, j, τ⟩ ⟨hi, hj, hi0, hj0, hrot⟩
 simp only at hi hj hi0 hj0 hrot ⊢
 refine aA fun k4 => (aj) ((cdB) ?_ ?_) <;> intro hc1
 . have hij : i = j := by simp at hc1; omega
   subst hij
   have hfin : swr τ (m - i) m i = rot σ a m b := by rw [bPa τ og]; exact hrot
   refine we ((jt) (k3 ?_))
   have hwi := wr ((m : Int) - (i : Int)) (((m - i : Nat) : Int)) og
   refine wg rfl ((Aa hwi) ?_)
   refine vg [] 0 rfl rfl rfl ⟨func181, rfl, rfl⟩ (cM d n τ hn (m - i) m i og og) rfl Ak Ak (mT (H1 := []) (.inl rfl) Az Ba) (.inl rfl) ?_
   refine (Ay) ?_
   rw [hfin]; refine ⟨[], ?_⟩; exact Bh
 have hne : i ≠ j := by intro e; subst e; simp at hc1
 refine wk (k4 (wb ?_))
 have hwi := wr ((m : Int) - (i : Int)) (((m - i : Nat) : Int)) og
 have hwj0 := wr (((m + j : Nat) : Int) - (i : Int)) (((m + j - i : Nat) : Int)) og
 have hwm := wr ((m : Int) + (j : Int)) (((m + j : Nat) : Int)) og
 have hwj : IntKind.i64.wrap (IntKind.i64.wrap ((m : Int) + (j : Int)) - (i : Int)) = ((m + j - i : Nat) : Int) := by rw [hwm, hwj0]
 refine (aj) ((cdA) ?_ ?_) <;> intro hc2
 . have hgt : j < i := by simpa using hc2
   refine sr rfl fun k7 => (Aa hwi) ?_
   refine vg [] 0 rfl rfl rfl ⟨func181, rfl, rfl⟩ (cM d n τ hn (m - i) m j og og) rfl Ak Ak (mT (H1 := []) (.inl rfl) Az Ba) (.inl rfl) ?_
   refine (Ay) (k7 ?_)
   have hwi2 := wr ((i : Int) - (j : Int)) (((i - j : Nat) : Int)) og
   refine wg rfl ((Aa hwi2) ((jt) ((jt) ?_)))
   refine ⟨(i - j, j, swr τ (m - i) m j), ⟨by simp only; omega, hj, by simp only; omega, hj0, by simp only; rw [bLt τ hgt og hj]; exact hrot⟩, by simp only; omega, [], ?_⟩
   exact Al
 have hgt : i < j := by have h9 : ¬ j < i := (by simpa using hc2); omega
 refine sr rfl fun k8 => (As hwi hwj) ?_
 refine vg [] 0 rfl rfl rfl ⟨func181, rfl, rfl⟩ (cM d n τ hn (m - i) (m + j - i) i og og) rfl Ak Ak (mT (H1 := []) (.inl rfl) Az Ba) (.inl rfl) ?_
 refine (Ay) (k8 ?_)
 have hwj2 := wr ((j : Int) - (i : Int)) (((j - i : Nat) : Int)) og
 refine wg rfl ((Aa hwj2) ((jt) ((jt) ?_)))
 refine ⟨(i, j - i, swr τ (m - i) (m + j - i) i), ⟨hi, by simp only; omega, hi0, by simp only; omega, by simp only; rw [bEs τ hgt og hi]; exact hrot⟩, by simp only; omega, [], ?_⟩
 exact Al
def dQ (d : Nat -> Entry) (n : Nat) (σ : Nat -> Nat) (hn : n <= 1048576) (a b : Nat) (h2 : b <= n) (ha : a <= b) : aP P 133 [.ref 0, Ni (a : Int), Ni (b : Int), gX] [(0, cT d n σ)] 1 (.tup []) [(0, cT d n (gM (lE d) σ a b))] 1 := by
 refine (gq 53 [] func133) ?_
 simp only [cT, gX]
 have hw0 := wiS a og
 refine sr rfl fun k1 => (Aa hw0) (k1 (wb ?_))
 refine wl (α := Nat × (Nat -> Nat)) (fun x => a + 1 <= x.1 /\ x.1 <= b + 1 /\ yC (lE d) a (b - x.1) x.1 x.2 = gM (lE d) σ a b) (fun x => b - x.1) (fun x => ([(0, .ref 0), (1, Ni (a : Int)), (2, Ni (b : Int)), (3, .fn (.func 45) [] []), (8, Ni (x.1 : Int))], [(0, .row 43 5 ((List.range n).map fun z => enA (d (x.2 z))))])) 1 (a + 1, σ) ⟨A0 _, by simp only; omega, rfl⟩ [] ?_ ?_
 . exact Al
 rintro ⟨i, τ⟩ ⟨hi, hib, hgo⟩
 simp only at hi hib hgo ⊢
 refine aA fun k2 => (aj) ((cdB) ?_ ?_) <;> intro hc1
 . have hge : b - i = 0 := by have h9 : ¬ i < b := (by simpa using hc1); omega
   rw [hge, yC] at hgo
   refine we ((jt) ?_)
   rw [<- hgo]; refine ⟨[], ?_⟩; exact Bh
 have hlt : i < b := by simpa using hc1
 refine wk (k2 (aA fun k4 => wb ((aj) (wb ?_))))
 refine wl (α := Nat × (Nat -> Nat)) (fun x => a <= x.1 /\ x.1 <= i /\ zU (lE d) a x.1 x.2 = zU (lE d) a i τ) (fun x => x.1) (fun x => ([(0, .ref 0), (1, Ni (a : Int)), (2, Ni (b : Int)), (3, .fn (.func 45) [] []), (8, Ni (i : Int)), (9, Ni (x.1 : Int))], [(0, .row 43 5 ((List.range n).map fun z => enA (d (x.2 z))))])) 1 (i, τ) ⟨by simp only; omega, A0 _, rfl⟩ [] ?_ ?_
 . exact Al
 rintro ⟨j, υ⟩ ⟨hj, hji, hsk⟩
 simp only at hj hji hsk ⊢
 refine aA fun k6 => ?_
 have hr1 : (List.range n)[j]? = some j := D7 og
 have hr2 : (List.range n)[j - 1]? = some (j - 1) := D7 og
 have hw1 := wr ((j : Int) - 1) ((j : Int) - 1) og
 have hpn : ((j : Int) - 1).toNat = j - 1 := by omega
 refine sd mixed rfl fun k7 => ?_
 simp only [go_sem, hr1, hr2, hw1, hpn, enA, D1, A8, G9]
 refine (jr) ?_
 refine tfg (first := []) (cap := []) (xs := [enA (d (υ j)), enA (d (υ (j - 1)))]) rfl rfl rfl rfl rfl rfl (fun _ => by rfl) ⟨func45, rfl, rfl⟩ (fun hg => iV (d (υ j)) (d (υ (j - 1)))) oG (fun hg => by rfl) (by rfl) Af trivial ?_
 simp only [go_sem, uN]
 refine (jr) ((jy) (k7 ((cdB) ?_ ?_))) <;> intro hc2
 . have hfin : zU (lE d) a i τ = υ := by
     rw [<- hsk]
     refine bDy fun h => ?_
     have h8 : decide ((a : Int) < (j : Int)) = true := by rw [decide_eq_true_eq]; omega
     rw [h8, Bool.true_and] at hc2
     have h7 : entLt (d (υ j)) (d (υ (j - 1))) = true := h.2
     rw [h7] at hc2; cases hc2
   refine we ((jt) ((jt) (k4 ((jw (wiS i og)) ((jt) ?_)))))
   refine ⟨(i + 1, υ), ⟨by simp only; omega, by simp only; omega, by simp only; rw [bAu hlt, hfin] at hgo; exact hgo⟩, by simp only; omega, [], ?_⟩
   exact Al
 . have haj : a < j := by simp at hc2; omega
   have hlj : lE d (υ j) (υ (j - 1)) = true := by simp only [B7] at hc2; exact hc2.2
   refine wk (k6 (aA fun k8 => wb ?_))
   clear hr1 hr2
   have hrow : (((List.range n).map fun z => (.agg [.raw (.string (d (υ z)).key), .raw (.int .i64 (d (υ z)).seq), .raw (.int .i64 (d (υ z)).kind), .raw (.string (d (υ z)).text), .raw (.int .i64 (d (υ z)).n)])).set (j) (.agg [.raw (.string (d (υ (j - 1))).key), .raw (.int .i64 (d (υ (j - 1))).seq), .raw (.int .i64 (d (υ (j - 1))).kind), .raw (.string (d (υ (j - 1))).text), .raw (.int .i64 (d (υ (j - 1))).n)])).set (j - 1) (.agg [.raw (.string (d (υ (j))).key), .raw (.int .i64 (d (υ (j))).seq), .raw (.int .i64 (d (υ (j))).kind), .raw (.string (d (υ (j))).text), .raw (.int .i64 (d (υ (j))).n)]) = (List.range n).map fun z => enA (d (swp υ j (j - 1) z)) := by
     have h9 := aUg d n (υ) (p := j) (q := j - 1) og og
     skip; exact h9
   have hs1 : ∀ (y : AV), (((List.range n).map fun z => (.agg [.raw (.string (d (υ z)).key), .raw (.int .i64 (d (υ z)).seq), .raw (.int .i64 (d (υ z)).kind), .raw (.string (d (υ z)).text), .raw (.int .i64 (d (υ z)).n)])).set (j) y)[j - 1]? = ((List.range n).map fun z => (.agg [.raw (.string (d (υ z)).key), .raw (.int .i64 (d (υ z)).seq), .raw (.int .i64 (d (υ z)).kind), .raw (.string (d (υ z)).text), .raw (.int .i64 (d (υ z)).n)]))[j - 1]? := fun y => aSm og y
   have hr1 : (List.range n)[j]? = some (j) := D7 og
   have hr2 : (List.range n)[j - 1]? = some (j - 1) := D7 og
   refine dA mixed rfl ?_
   refine (Ct hr1 hr2 hw1 hpn hs1) ((jr) ?_)
   rw [hrow]
   refine (jy) ((jt) (k8 ?_))
   have hw5 := wr ((j : Int) - 1) (((j - 1 : Nat) : Int)) og
   refine wg rfl ((Aa hw5) ((jt) ?_))
   refine ⟨(j - 1, swp υ j (j - 1)), ⟨by simp only; omega, by simp only; omega, by simp only; rw [bEq haj hlj] at hsk; exact hsk⟩, by simp only; omega, [], ?_⟩
   exact Al
set_option maxHeartbeats 2000000 in
def aSi (d : Nat -> Entry) (n : Nat) (σ : Nat -> Nat) (hn : n <= 1048576) (f : Nat) (ih : ∀ (σ : Nat -> Nat) (a m b : Nat), b - a <= f -> a < m -> m < b -> b <= n -> aP P 134 [.ref 0, Ni (a : Int), Ni (m : Int), Ni (b : Int), gX] [(0, cT d n σ)] 1 (.tup []) [(0, cT d n (lU (lE d) f σ a m b))] 1) (a m b : Nat) (hf : b - a <= f + 1) (h1 : a < m) (h2 : m < b) (h3 : b <= n) : aP P 134 [.ref 0, Ni (a : Int), Ni (m : Int), Ni (b : Int), gX] [(0, cT d n σ)] 1 (.tup []) [(0, cT d n (lU (lE d) (f + 1) σ a m b))] 1 := by
 refine (gq 220 [] func134) ?_
 simp only [cT, gX]
 have hw0 := wr ((m : Int) - (a : Int)) ((m : Int) - (a : Int)) og
 have hw12 := wr ((b : Int) - (m : Int)) ((b : Int) - (m : Int)) og
 refine aA fun k1 => sr rfl fun k2 => (Aa hw0) (k2 ((cdA) ?_ ?_)) <;> intro hc1
 . have hm : m = a + 1 := by simp at hc1; omega
   subst hm
   obtain ⟨e, he⟩ : ∃ e, e = gT (fun h => !lE d (σ h) (σ a)) b (a + 1) b := ⟨_, rfl⟩
   have hA : lU (lE d) (f + 1) σ a (a + 1) b = rot σ a (a + 1) e := by rw [lU, if_pos og, <- he]
   have hbe := Plain.bs_ok (fun h => !lE d (σ h) (σ a)) (f := b) (s := a + 1) (r := b) og og
   rw [<- he] at hbe
   refine (aj) ((aj) ?_)
   refine aA fun k5 => wb ?_
   refine wl (α := Nat × Nat) (fun x => a + 1 <= x.1 /\ x.1 <= x.2 /\ x.2 <= b /\ gT (fun h => !lE d (σ h) (σ a)) b x.1 x.2 = e) (fun x => x.2 - x.1) (fun x => ([(0, .ref 0), (1, Ni (a : Int)), (4, .fn (.func 45) [] []), (10, Ni (x.1 : Int)), (11, Ni (x.2 : Int))], [(0, .row 43 5 ((List.range n).map fun z => enA (d (σ z))))])) 1 (a + 1, b) ⟨A0 _, by simp only; omega, A0 _, he.symm⟩ [] ?_ ?_
   . exact Al
   rintro ⟨i, j⟩ ⟨hi, hij, hj, hbs⟩
   simp only at hi hij hj hbs ⊢
   refine aA fun k6 => (aj) ((cdA) ?_ ?_) <;> intro hc2
   . have hlt : i < j := by simpa using hc2
     refine wk (k6 (wb ?_))
     have hma := wr ((i : Int) + (j : Int)) (((i + j : Nat) : Int)) og
     have hmb : IntKind.u64.wrap ((i + j : Nat) : Int) = ((i + j : Nat) : Int) := by rw [IntKind.wrap_u64]; omega
     have hmc : Int.fdiv ((i + j : Nat) : Int) (2 ^ min (Int.toNat 1) 64) = (((i + j) / 2 : Nat) : Int) := by show Int.fdiv ((i + j : Nat) : Int) 2 = _; rw [Int.fdiv_eq_ediv_of_nonneg _ og]; omega
     have hmd := wr (((i + j) / 2 : Nat) : Int) ((((i + j) / 2 : Nat) : Int)) og
     refine sr rfl fun k8 => (Bk hma hmb hmc hmd) ((jr) (k8 ?_))
     have hr1 : (List.range n)[(i + j) / 2]? = some ((i + j) / 2) := D7 og
     have hr2 : (List.range n)[a]? = some (a) := D7 og
     refine sd mixed rfl fun k9 => ?_
     simp only [go_sem, hr1, hr2, enA, D1, A8, G9]
     refine (jr) ?_
     refine tf (first := []) (cap := []) (xs := [enA (d (σ ((i + j) / 2))), enA (d (σ a))]) rfl rfl rfl (by rfl) ⟨func45, rfl, rfl⟩ (iV (d (σ ((i + j) / 2))) (d (σ a))) (by rfl) (by rfl) Af ?_
     simp only [go_sem, uN]
     refine (jr) ((jy) (k9 ((cdA) ?_ ?_))) <;> intro hc3
     . have hwh := wr ((((i + j) / 2 : Nat) : Int) + 1) ((((i + j) / 2 + 1 : Nat) : Int)) og
       refine wg rfl ((Aa hwh) ((jt) ((jt) ?_)))
       refine ⟨((i + j) / 2 + 1, j), ⟨by simp only; omega, by simp only; omega, by simp only; omega, by simp only; rw [zH hlt og, if_neg (by simp only [lE] at *; rw [hc3]; simp)] at hbs; exact hbs⟩, by simp only; omega, [], ?_⟩
       exact Al
     refine wg rfl ((ja) ((jt) ((jt) ?_)))
     refine ⟨(i, (i + j) / 2), ⟨by simp only; omega, by simp only; omega, by simp only; omega, by simp only; rw [zH hlt og, if_pos (by simp only [lE] at *; rw [hc3]; rfl)] at hbs; exact hbs⟩, by simp only; omega, [], ?_⟩
     exact Al
   have hlt : ¬ i < j := by simpa using hc2
   have hie : e = i := by rw [<- hbs]; exact aSy hlt
   subst hie
   refine we ((jt) (k5 (aA fun k10 => (aj) (wb ?_))))
   refine wl (α := Nat) (fun x => a <= x /\ x + 1 <= e) (fun x => e - x) (fun x => ([(0, .ref 0), (10, Ni (e : Int)), (13, Ni (x : Int))], [(0, .row 43 5 ((List.range n).map fun z => enA (d (rot σ a (a + 1) (x + 1) z))))])) 1 a ⟨A0 _, og⟩ [] ?_ ?_
   . simp only [go_sem, AObj.bel, AObj.ren, AV.ren, aB, sg, bNc] <;> simp
   rintro k ⟨hk, hke⟩
   refine aA fun k12 => ?_
   have hwe := wr ((e : Int) - 1) ((e : Int) - 1) og
   refine sr rfl fun k13 => (Aa hwe) (k13 ((cdB) ?_ ?_)) <;> intro hc4
   . have hke : k + 1 = e := by simp at hc4; omega
     refine we ((jt) (k10 (wR ?_)))
     rw [hA, <- hke]; refine ⟨[], ?_⟩; exact Bh
   have hlt : k + 1 < e := by simp at hc4; omega
   refine wk (k12 (aA fun k14 => wb ?_))
   have hrow : (((List.range n).map fun z => (.agg [.raw (.string (d (rot σ a (a + 1) (k + 1) z)).key), .raw (.int .i64 (d (rot σ a (a + 1) (k + 1) z)).seq), .raw (.int .i64 (d (rot σ a (a + 1) (k + 1) z)).kind), .raw (.string (d (rot σ a (a + 1) (k + 1) z)).text), .raw (.int .i64 (d (rot σ a (a + 1) (k + 1) z)).n)])).set (k) (.agg [.raw (.string (d (rot σ a (a + 1) (k + 1) (k + 1))).key), .raw (.int .i64 (d (rot σ a (a + 1) (k + 1) (k + 1))).seq), .raw (.int .i64 (d (rot σ a (a + 1) (k + 1) (k + 1))).kind), .raw (.string (d (rot σ a (a + 1) (k + 1) (k + 1))).text), .raw (.int .i64 (d (rot σ a (a + 1) (k + 1) (k + 1))).n)])).set (k + 1) (.agg [.raw (.string (d (rot σ a (a + 1) (k + 1) (k))).key), .raw (.int .i64 (d (rot σ a (a + 1) (k + 1) (k))).seq), .raw (.int .i64 (d (rot σ a (a + 1) (k + 1) (k))).kind), .raw (.string (d (rot σ a (a + 1) (k + 1) (k))).text), .raw (.int .i64 (d (rot σ a (a + 1) (k + 1) (k))).n)]) = (List.range n).map fun z => enA (d (rot σ a (a + 1) (k + 2) z)) := by
     have h9 := aUg d n (rot σ a (a + 1) (k + 1)) (p := k) (q := k + 1) og og
     rw [bPb σ og] at h9; exact h9
   have hs1 : ∀ (y : AV), (((List.range n).map fun z => (.agg [.raw (.string (d (rot σ a (a + 1) (k + 1) z)).key), .raw (.int .i64 (d (rot σ a (a + 1) (k + 1) z)).seq), .raw (.int .i64 (d (rot σ a (a + 1) (k + 1) z)).kind), .raw (.string (d (rot σ a (a + 1) (k + 1) z)).text), .raw (.int .i64 (d (rot σ a (a + 1) (k + 1) z)).n)])).set (k) y)[k + 1]? = ((List.range n).map fun z => (.agg [.raw (.string (d (rot σ a (a + 1) (k + 1) z)).key), .raw (.int .i64 (d (rot σ a (a + 1) (k + 1) z)).seq), .raw (.int .i64 (d (rot σ a (a + 1) (k + 1) z)).kind), .raw (.string (d (rot σ a (a + 1) (k + 1) z)).text), .raw (.int .i64 (d (rot σ a (a + 1) (k + 1) z)).n)]))[k + 1]? := fun y => aSm og y
   have hr1 : (List.range n)[k]? = some (k) := D7 og
   have hr2 : (List.range n)[k + 1]? = some (k + 1) := D7 og
   have hwk := wiS k og
   refine dA mixed rfl ?_
   simp only [go_sem, hr1, hr2, hwk, hs1, enA, D1, A8, G9]
   refine (jr) ?_
   rw [hrow]
   refine (jy) ((jt) (k14 ?_))
   have hwk := wiS k og
   refine wg rfl ((Aa hwk) ((jt) ?_))
   refine ⟨k + 1, ⟨og, og⟩, og, [], ?_⟩
   exact Al
 have hm : ¬ m - a = 1 := by simp at hc1; omega
 refine wk (k1 (aA fun k15 => sr rfl fun k16 => (Aa hw12) (k16 ((cdA) ?_ ?_)))) <;> intro hc5
 . have hb : b = m + 1 := by simp at hc5; omega
   subst hb
   obtain ⟨e, he⟩ : ∃ e, e = gT (fun h => lE d (σ m) (σ h)) m a m := ⟨_, rfl⟩
   have hB : lU (lE d) (f + 1) σ a m (m + 1) = rot σ e m (m + 1) := by rw [lU, if_neg hm, if_pos og, <- he]
   have hbe := Plain.bs_ok (fun h => lE d (σ m) (σ h)) (f := m) (s := a) (r := m) og og
   rw [<- he] at hbe
   refine (aj) ((aj) ?_)
   refine aA fun k19 => wb ?_
   refine wl (α := Nat × Nat) (fun x => a <= x.1 /\ x.1 <= x.2 /\ x.2 <= m /\ gT (fun h => lE d (σ m) (σ h)) m x.1 x.2 = e) (fun x => x.2 - x.1) (fun x => ([(0, .ref 0), (2, Ni (m : Int)), (4, .fn (.func 45) [] []), (14, Ni (x.1 : Int)), (15, Ni (x.2 : Int))], [(0, .row 43 5 ((List.range n).map fun z => enA (d (σ z))))])) 1 (a, m) ⟨A0 _, by simp only; omega, A0 _, he.symm⟩ [] ?_ ?_
   . exact Al
   rintro ⟨i, j⟩ ⟨hi, hij, hj, hbs⟩
   simp only at hi hij hj hbs ⊢
   refine aA fun k20 => (aj) ((cdA) ?_ ?_) <;> intro hc6
   . have hlt : i < j := by simpa using hc6
     refine wk (k20 (wb ?_))
     have hma := wr ((i : Int) + (j : Int)) (((i + j : Nat) : Int)) og
     have hmb : IntKind.u64.wrap ((i + j : Nat) : Int) = ((i + j : Nat) : Int) := by rw [IntKind.wrap_u64]; omega
     have hmc : Int.fdiv ((i + j : Nat) : Int) (2 ^ min (Int.toNat 1) 64) = (((i + j) / 2 : Nat) : Int) := by show Int.fdiv ((i + j : Nat) : Int) 2 = _; rw [Int.fdiv_eq_ediv_of_nonneg _ og]; omega
     have hmd := wr (((i + j) / 2 : Nat) : Int) ((((i + j) / 2 : Nat) : Int)) og
     refine sr rfl fun k22 => (Bk hma hmb hmc hmd) ((jr) (k22 ?_))
     have hr1 : (List.range n)[(i + j) / 2]? = some ((i + j) / 2) := D7 og
     have hr2 : (List.range n)[m]? = some (m) := D7 og
     refine sd mixed rfl fun k23 => ?_
     simp only [go_sem, hr1, hr2, enA, D1, A8, G9]
     refine (jr) ?_
     refine tf (first := []) (cap := []) (xs := [enA (d (σ m)), enA (d (σ ((i + j) / 2)))]) rfl rfl rfl (by rfl) ⟨func45, rfl, rfl⟩ (iV (d (σ m)) (d (σ ((i + j) / 2)))) (by rfl) (by rfl) Af ?_
     simp only [go_sem, uN]
     refine (jr) ((jy) (k23 ((cdA) ?_ ?_))) <;> intro hc7
     . have hwh := wr ((((i + j) / 2 : Nat) : Int) + 1) ((((i + j) / 2 + 1 : Nat) : Int)) og
       refine wg rfl ((Aa hwh) ((jt) ((jt) ?_)))
       refine ⟨((i + j) / 2 + 1, j), ⟨by simp only; omega, by simp only; omega, by simp only; omega, by simp only; rw [zH hlt og, if_neg (by simp only [lE] at *; simpa using hc7)] at hbs; exact hbs⟩, by simp only; omega, [], ?_⟩
       exact Al
     refine wg rfl ((ja) ((jt) ((jt) ?_)))
     refine ⟨(i, (i + j) / 2), ⟨by simp only; omega, by simp only; omega, by simp only; omega, by simp only; rw [zH hlt og, if_pos (by simp only [lE] at *; simpa using hc7)] at hbs; exact hbs⟩, by simp only; omega, [], ?_⟩
     exact Al
   have hlt : ¬ i < j := by simpa using hc6
   have hie : e = i := by rw [<- hbs]; exact aSy hlt
   subst hie
   refine we ((jt) (k19 (aA fun k24 => (aj) (wb ?_))))
   refine wl (α := Nat) (fun x => e <= x /\ x <= m) (fun x => x - e) (fun x => ([(0, .ref 0), (14, Ni (e : Int)), (17, Ni (x : Int))], [(0, .row 43 5 ((List.range n).map fun z => enA (d (rot σ x m (m + 1) z))))])) 1 m ⟨og, A0 _⟩ [] ?_ ?_
   . simp only [go_sem, AObj.bel, AObj.ren, AV.ren, aB, sg, bMg] <;> simp
   rintro k ⟨hk, hkm⟩
   refine aA fun k26 => (aj) ((cdB) ?_ ?_) <;> intro hc8
   . have hke : k = e := by have h9 : ¬ e < k := (by simpa using hc8); omega
     refine we ((jt) (k24 (wR ?_)))
     rw [hB, <- hke]; refine ⟨[], ?_⟩; exact Bh
   have hlt : e < k := by simpa using hc8
   refine wk (k26 (aA fun k28 => wb ?_))
   have hrow : (((List.range n).map fun z => (.agg [.raw (.string (d (rot σ k m (m + 1) z)).key), .raw (.int .i64 (d (rot σ k m (m + 1) z)).seq), .raw (.int .i64 (d (rot σ k m (m + 1) z)).kind), .raw (.string (d (rot σ k m (m + 1) z)).text), .raw (.int .i64 (d (rot σ k m (m + 1) z)).n)])).set (k) (.agg [.raw (.string (d (rot σ k m (m + 1) (k - 1))).key), .raw (.int .i64 (d (rot σ k m (m + 1) (k - 1))).seq), .raw (.int .i64 (d (rot σ k m (m + 1) (k - 1))).kind), .raw (.string (d (rot σ k m (m + 1) (k - 1))).text), .raw (.int .i64 (d (rot σ k m (m + 1) (k - 1))).n)])).set (k - 1) (.agg [.raw (.string (d (rot σ k m (m + 1) (k))).key), .raw (.int .i64 (d (rot σ k m (m + 1) (k))).seq), .raw (.int .i64 (d (rot σ k m (m + 1) (k))).kind), .raw (.string (d (rot σ k m (m + 1) (k))).text), .raw (.int .i64 (d (rot σ k m (m + 1) (k))).n)]) = (List.range n).map fun z => enA (d (rot σ (k - 1) m (m + 1) z)) := by
     have h9 := aUg d n (rot σ k m (m + 1)) (p := k) (q := k - 1) og og
     rw [bOi σ og og] at h9; exact h9
   have hs1 : ∀ (y : AV), (((List.range n).map fun z => (.agg [.raw (.string (d (rot σ k m (m + 1) z)).key), .raw (.int .i64 (d (rot σ k m (m + 1) z)).seq), .raw (.int .i64 (d (rot σ k m (m + 1) z)).kind), .raw (.string (d (rot σ k m (m + 1) z)).text), .raw (.int .i64 (d (rot σ k m (m + 1) z)).n)])).set (k) y)[k - 1]? = ((List.range n).map fun z => (.agg [.raw (.string (d (rot σ k m (m + 1) z)).key), .raw (.int .i64 (d (rot σ k m (m + 1) z)).seq), .raw (.int .i64 (d (rot σ k m (m + 1) z)).kind), .raw (.string (d (rot σ k m (m + 1) z)).text), .raw (.int .i64 (d (rot σ k m (m + 1) z)).n)]))[k - 1]? := fun y => aSm og y
   have hr1 : (List.range n)[k]? = some (k) := D7 og
   have hr2 : (List.range n)[k - 1]? = some (k - 1) := D7 og
   have hwk := wr ((k : Int) - 1) ((k : Int) - 1) og
   have hpn : ((k : Int) - 1).toNat = k - 1 := by omega
   refine dA mixed rfl ?_
   refine (Ct hr1 hr2 hwk hpn hs1) ((jr) ?_)
   rw [hrow]
   refine (jy) ((jt) (k28 ?_))
   have hwk2 := wr ((k : Int) - 1) (((k - 1 : Nat) : Int)) og
   refine wg rfl ((Aa hwk2) ((jt) ?_))
   refine ⟨k - 1, ⟨og, og⟩, og, [], ?_⟩
   exact Al
 have hb : ¬ b - m = 1 := by simp at hc5; omega
 have hcut := Plain.symCut_ok (l := lE d) (σ := σ) h1 h2
 obtain ⟨mid, hmid⟩ : ∃ mid, mid = (a + b) / 2 := ⟨_, rfl⟩
 obtain ⟨st, hst⟩ : ∃ st, st = iH (lE d) σ a m b := ⟨_, rfl⟩
 obtain ⟨en, hen⟩ : ∃ en, en = mid + m - st := ⟨_, rfl⟩
 rw [<- hst, <- hmid, <- hen] at hcut
 obtain ⟨k1, k2, k3, k4, k5, -, -⟩ := hcut
 obtain ⟨s0, hs0⟩ : ∃ s0, s0 = if mid < m then mid + m - b else a := ⟨_, rfl⟩
 obtain ⟨r0, hr0⟩ : ∃ r0, r0 = if mid < m then mid else m := ⟨_, rfl⟩
 have he : st = gT (fun c => lE d (σ (mid + m - 1 - c)) (σ c)) b s0 r0 := by rw [hst, hs0, hr0, hmid]; rfl
 have hsb : s0 <= r0 /\ mid + m <= b + s0 /\ r0 <= mid /\ r0 <= m /\ a <= s0 := by rw [hs0, hr0]; split <;> omega
 obtain ⟨σ1, hσ1⟩ : ∃ σ1, σ1 = if st < m /\ m < en then rot σ st m en else σ := ⟨_, rfl⟩
 obtain ⟨σ2, hσ2⟩ : ∃ σ2, σ2 = if a < st /\ st < mid then lU (lE d) f σ1 a st mid else σ1 := ⟨_, rfl⟩
 have hC : lU (lE d) (f + 1) σ a m b = if mid < en /\ en < b then lU (lE d) f σ2 mid en b else σ2 := by
   rw [lU, if_neg hm, if_neg hb]; simp only; rw [hσ2, hσ1, hen, hst, hmid]
 have hmid2 : (a + b) / 2 = mid := hmid.symm
 refine wk (k15 ?_)
 have hma := wr ((a : Int) + (b : Int)) (((a + b : Nat) : Int)) og
 have hmb : IntKind.u64.wrap ((a + b : Nat) : Int) = ((a + b : Nat) : Int) := by rw [IntKind.wrap_u64]; omega
 have hmc : Int.fdiv ((a + b : Nat) : Int) (2 ^ min (Int.toNat 1) 64) = (((a + b) / 2 : Nat) : Int) := by show Int.fdiv ((a + b : Nat) : Int) 2 = _; rw [Int.fdiv_eq_ediv_of_nonneg _ og]; omega
 have hmd := wr (((a + b) / 2 : Nat) : Int) ((((a + b) / 2 : Nat) : Int)) og
 rw [hmid2] at hmc hmd
 refine sr rfl fun k29 => (Bk hma hmb hmc hmd) ((jr) (k29 ?_))
 have hwn := wr ((mid : Int) + (m : Int)) (((mid + m : Nat) : Int)) og
 refine sr rfl fun k30 => (Aa hwn) (k30 ((aj) ?_))
 refine yZ (α := Unit) (fun x => True) (fun x => ([(0, .ref 0), (1, Ni (a : Int)), (2, Ni (m : Int)), (3, Ni (b : Int)), (4, .fn (.func 45) [] []), (18, Ni (mid : Int)), (19, Ni ((mid + m : Nat) : Int)), (20, Ni (s0 : Int)), (21, Ni (r0 : Int))], [(0, .row 43 5 ((List.range n).map fun z => enA (d (σ z))))])) 1 ?_ ?_
 . refine (aj) ((cdA) ?_ ?_) <;> intro hc9
   . have hlt : mid < m := by simpa using hc9
     have q1 : s0 = mid + m - b := by rw [hs0, if_pos hlt]
     have q2 : r0 = mid := by rw [hr0, if_pos hlt]
     have hws := wr (((mid + m : Nat) : Int) - (b : Int)) (((mid + m - b : Nat) : Int)) og
     refine sr rfl fun k34 => (Aa hws) (k34 (wg rfl ((ja) ?_)))
     try simp only [aFo]
     refine ⟨(), trivial, [], ?_⟩
     simp only [go_sem, AObj.bel, AObj.ren, AV.ren, aB, sg, Int.natCast_zero] <;> simp [enA, q1, q2]
   have hlt : ¬ mid < m := by simpa using hc9
   have q1 : s0 = a := by rw [hs0, if_neg hlt]
   have q2 : r0 = m := by rw [hr0, if_neg hlt]
   refine (aj) ?_
   refine wg rfl ((ja) ?_)
   try simp only [aFo]
   refine ⟨(), trivial, [], ?_⟩
   simp only [go_sem, AObj.bel, AObj.ren, AV.ren, aB, sg, Int.natCast_zero] <;> simp [enA, q1, q2]
 rintro ⟨⟩ -
 have hwp := wr (((mid + m : Nat) : Int) - 1) (((mid + m - 1 : Nat) : Int)) og
 refine sr rfl fun k36 => (Aa hwp) (k36 (aA fun k37 => wb ?_))
 refine wl (α := Nat × Nat) (fun x => s0 <= x.1 /\ x.1 <= x.2 /\ x.2 <= r0 /\ gT (fun c => lE d (σ (mid + m - 1 - c)) (σ c)) b x.1 x.2 = st) (fun x => x.2 - x.1) (fun x => ([(0, .ref 0), (1, Ni (a : Int)), (2, Ni (m : Int)), (3, Ni (b : Int)), (4, .fn (.func 45) [] []), (18, Ni (mid : Int)), (19, Ni ((mid + m : Nat) : Int)), (20, Ni (x.1 : Int)), (21, Ni (x.2 : Int)), (22, Ni ((mid + m - 1 : Nat) : Int))], [(0, .row 43 5 ((List.range n).map fun z => enA (d (σ z))))])) 1 (s0, r0) ⟨A0 _, by simp only; omega, A0 _, he.symm⟩ [] ?_ ?_
 . exact Al
 rintro ⟨i, j⟩ ⟨hi, hij, hj, hbs⟩
 simp only at hi hij hj hbs ⊢
 refine aA fun k38 => (aj) ((cdA) ?_ ?_) <;> intro hc10
 . have hlt : i < j := by simpa using hc10
   refine wk (k38 (wb ?_))
   have hma := wr ((i : Int) + (j : Int)) (((i + j : Nat) : Int)) og
   have hmb : IntKind.u64.wrap ((i + j : Nat) : Int) = ((i + j : Nat) : Int) := by rw [IntKind.wrap_u64]; omega
   have hmc : Int.fdiv ((i + j : Nat) : Int) (2 ^ min (Int.toNat 1) 64) = (((i + j) / 2 : Nat) : Int) := by show Int.fdiv ((i + j : Nat) : Int) 2 = _; rw [Int.fdiv_eq_ediv_of_nonneg _ og]; omega
   have hmd := wr (((i + j) / 2 : Nat) : Int) ((((i + j) / 2 : Nat) : Int)) og
   refine sr rfl fun k40 => (Bk hma hmb hmc hmd) ((jr) (k40 ?_))
   have hr1 : (List.range n)[mid + m - 1 - (i + j) / 2]? = some (mid + m - 1 - (i + j) / 2) := D7 og
   have hr2 : (List.range n)[(i + j) / 2]? = some ((i + j) / 2) := D7 og
   have hwpc := wr (((mid + m - 1 : Nat) : Int) - (((i + j) / 2 : Nat) : Int)) (((mid + m - 1 - (i + j) / 2 : Nat) : Int)) og
   refine sd mixed rfl fun k41 => ?_
   simp only [go_sem, hr1, hr2, hwpc, enA, D1, A8, G9]
   refine (jr) ?_
   refine tf (first := []) (cap := []) (xs := [enA (d (σ (mid + m - 1 - (i + j) / 2))), enA (d (σ ((i + j) / 2)))]) rfl rfl rfl (by rfl) ⟨func45, rfl, rfl⟩ (iV (d (σ (mid + m - 1 - (i + j) / 2))) (d (σ ((i + j) / 2)))) (by rfl) (by rfl) Af ?_
   simp only [go_sem, uN]
   refine (jr) ((jy) (k41 ((cdA) ?_ ?_))) <;> intro hc11
   . have hwh := wr ((((i + j) / 2 : Nat) : Int) + 1) ((((i + j) / 2 + 1 : Nat) : Int)) og
     refine wg rfl ((Aa hwh) ((jt) ((jt) ?_)))
     refine ⟨((i + j) / 2 + 1, j), ⟨by simp only; omega, by simp only; omega, by simp only; omega, by simp only; rw [zH hlt og, if_neg (by simp only [lE] at *; simpa using hc11)] at hbs; exact hbs⟩, by simp only; omega, [], ?_⟩
     exact Al
   refine wg rfl ((ja) ((jt) ((jt) ?_)))
   refine ⟨(i, (i + j) / 2), ⟨by simp only; omega, by simp only; omega, by simp only; omega, by simp only; rw [zH hlt og, if_pos (by simp only [lE] at *; simpa using hc11)] at hbs; exact hbs⟩, by simp only; omega, [], ?_⟩
   exact Al
 have hlt : ¬ i < j := by simpa using hc10
 have hie : st = i := by rw [<- hbs]; exact aSy hlt
 rw [<- hie]
 refine we ((jt) (k37 ?_))
 have hwen := wr (((mid + m : Nat) : Int) - (st : Int)) ((en : Int)) og
 refine sr rfl fun k42 => (Aa hwen) (k42 ?_)
 refine yZ (α := Unit) (fun x => True) (fun x => ([(0, .ref 0), (1, Ni (a : Int)), (3, Ni (b : Int)), (4, .fn (.func 45) [] []), (18, Ni (mid : Int)), (20, Ni (st : Int)), (24, Ni (en : Int))], [(0, .row 43 5 ((List.range n).map fun z => enA (d (σ1 z))))])) 1 ?_ ?_
 . refine (aj) ((cdB) ?_ ?_) <;> intro hc12
   . have hx : ¬ (st < m /\ m < en) := by intro h; simp at hc12; omega
     have q1 : σ1 = σ := by rw [hσ1, if_neg hx]
     refine wk ?_; try simp only [aFo]
     refine ⟨(), trivial, [], ?_⟩
     simp only [go_sem, AObj.bel, AObj.ren, AV.ren, aB, sg, Int.natCast_zero] <;> simp [enA, q1]
   have hx : st < m /\ m < en := by simp at hc12; omega
   have q1 : σ1 = rot σ st m en := by rw [hσ1, if_pos hx]
   refine wg rfl ((ja) ?_)
   refine vg [] 0 rfl rfl rfl ⟨func159, rfl, rfl⟩ (mS d n σ hn st m en hx.1 hx.2 og) rfl Ak Ak (mT (H1 := []) (.inl rfl) Az Ba) (.inl rfl) ?_
   refine (Ay) ?_
   try simp only [aFo]
   refine ⟨(), trivial, [], ?_⟩
   simp only [go_sem, AObj.bel, AObj.ren, AV.ren, aB, sg, Int.natCast_zero] <;> simp [enA, q1]
 rintro ⟨⟩ -
 refine yZ (α := Unit) (fun x => True) (fun x => ([(0, .ref 0), (3, Ni (b : Int)), (4, .fn (.func 45) [] []), (18, Ni (mid : Int)), (24, Ni (en : Int))], [(0, .row 43 5 ((List.range n).map fun z => enA (d (σ2 z))))])) 1 ?_ ?_
 . refine (aj) ((cdB) ?_ ?_) <;> intro hc13
   . have hx : ¬ (a < st /\ st < mid) := by intro h; simp at hc13; omega
     have q1 : σ2 = σ1 := by rw [hσ2, if_neg hx]
     refine wk ?_; try simp only [aFo]
     refine ⟨(), trivial, [], ?_⟩
     simp only [go_sem, AObj.bel, AObj.ren, AV.ren, aB, sg, Int.natCast_zero] <;> simp [enA, q1]
   have hx : a < st /\ st < mid := by simp at hc13; omega
   have q1 : σ2 = lU (lE d) f σ1 a st mid := by rw [hσ2, if_pos hx]
   refine wg rfl ((ja) ?_)
   refine vg [] 0 rfl rfl rfl ⟨func134, rfl, rfl⟩ (ih σ1 a st mid og hx.1 hx.2 og) rfl Ak Ak (mT (H1 := []) (.inl rfl) Az Ba) (.inl rfl) ?_
   refine (Ay) ?_
   try simp only [aFo]
   refine ⟨(), trivial, [], ?_⟩
   simp only [go_sem, AObj.bel, AObj.ren, AV.ren, aB, sg, Int.natCast_zero] <;> simp [enA, q1]
 rintro ⟨⟩ -
 refine (aj) ((cdB) ?_ ?_) <;> intro hc14
 . have hx : ¬ (mid < en /\ en < b) := by intro h; simp at hc14; omega
   rw [hC, if_neg hx]; refine wk ?_; refine ⟨[], ?_⟩; exact Bh
 have hx : mid < en /\ en < b := by simp at hc14; omega
 rw [hC, if_pos hx]
 refine wg rfl ((ja) ?_)
 refine vg [] 0 rfl rfl rfl ⟨func134, rfl, rfl⟩ (ih σ2 mid en b og hx.1 hx.2 h3) rfl Ak Ak (mT (H1 := []) (.inl rfl) Az Ba) (.inl rfl) ?_
 refine (Ay) ?_
 refine ⟨[], ?_⟩; exact Bh
def aCh (d : Nat -> Entry) (n : Nat) (hn : n <= 1048576) : ∀ (f : Nat) (σ : Nat -> Nat) (a m b : Nat), b - a <= f -> a < m -> m < b -> b <= n ->
    aP P 134 [.ref 0, .raw (.int .i64 (a : Int)), .raw (.int .i64 (m : Int)), .raw (.int .i64 (b : Int)), gX] [(0, cT d n σ)] 1 (.tup []) [(0, cT d n (lU (lE d) f σ a m b))] 1
  | 0, _, _, _, _, h, h1, h2, _ => by omega
  | f + 1, σ, a, m, b, h, h1, h2, h3 => aSi d n σ hn f (aCh d n hn f) a m b h h1 h2 h3
end
end Go.Proofs.S
end
section
open Go Go.Abs Go.Proofs Go.Proofs.Tryz
open Go.Plain (mQ nB pD nP aIf gM lU swp rot)
namespace Go.Proofs.S
section
variable {σ : Nat -> Nat} {n bs f a : Nat}
def bJy {l : Nat -> Nat -> Bool} (h : a + bs <= n) : mQ l n bs (f + 1) σ a = mQ l n bs f (gM l σ a (a + bs)) (a + bs) := by rw [mQ, if_pos h]
def bJg {l : Nat -> Nat -> Bool} (h : ¬ a + bs <= n) : mQ l n bs f σ a = (σ, a) := by
  cases f with
  | zero => rfl
  | succ f => rw [mQ, if_neg h]
def bIs {l : Nat -> Nat -> Bool} (h : a + 2 * bs <= n) : nB l n bs (f + 1) σ a = nB l n bs f (lU l n σ a (a + bs) (a + 2 * bs)) (a + 2 * bs) := by rw [nB, if_pos h]
def bHv {l : Nat -> Nat -> Bool} (h : ¬ a + 2 * bs <= n) : nB l n bs f σ a = (σ, a) := by
  cases f with
  | zero => rfl
  | succ f => rw [nB, if_neg h]
def aPx {l : Nat -> Nat -> Bool} (h : bs < n) : nP l n (f + 1) bs σ = nP l n f (2 * bs) (pD l n bs (nB l n bs n σ 0)) := by rw [nP, if_pos h]
def bFq {l : Nat -> Nat -> Bool} (h : ¬ bs < n) : nP l n f bs σ = σ := by
  cases f with
  | zero => rfl
  | succ f => rw [nP, if_neg h]
def bIc (l : Nat -> Nat -> Bool) (n : Nat) (h : mQ l n 20 n id 0 = (σ, a)) : aIf l n = nP l n n 20 (gM l σ a n) := by unfold aIf; rw [h]
def bU (ls : List Entry) : List Entry := ls.foldl cC []
def bIr (ls : List Entry) (e : Entry) : ∀ k, k <= ls.length -> Plain.pos entLt ls e k = aAg ls e k
  | 0, _ => rfl
  | k + 1, h => by
    unfold Plain.pos aAg; rw [A1 og]; simp only [Option.getD_some]; rw [bIr ls e k og]
def bJx (ls : List Entry) (e : Entry) : Plain.put entLt ls e = cC ls e := by
  unfold Plain.put cC aCc; rw [bIr ls e ls.length (A0 _)]
def zD (ls : List Entry) : bU ls = ls.foldl (Plain.put entLt) [] := by
  unfold bU
  have : cC = Plain.put entLt := by funext a b; exact (bJx a b).symm
  rw [this]
def dOf (ls : List Entry) : Nat -> Entry := fun k => ls.getD k nK
def bCq {ls : List Entry} {k : Nat} (h : k < ls.length) : ls[k]? = some (dOf ls k) := by simp [dOf, E7, A1 h]
def bMb (ls : List Entry) : ls.map enA = (List.range ls.length).map fun k => enA (dOf ls (id k)) := by
  refine List.ext_getElem? fun i => ?_
  rw [B5, B5]
  by_cases h : i < ls.length
  . rw [bCq h, D7 h]; rfl
  rw [F6 og, F6 (by simp; omega)]; rfl
def bHn (ls : List Entry) : ((List.range ls.length).map fun k => enA (dOf ls (aIf (lE (dOf ls)) ls.length k))) = (bU ls).map enA := by
  rw [zD, <- Plain.stab_list (lt := entLt) (dOf ls) ls (fun i hi => bCq hi) (qC.orders _), List.map_map]; rfl
def iG (ls : List Entry) : (bU ls).Perm ls := by rw [zD]; exact (Plain.put_sorted qC ls).2
def tX (ls : List Entry) : (bU ls).length = ls.length := (iG ls).length_eq
def bJr (a b : Nat) : ∀ (i : Nat) (out : Int), aMw (a : Int) (b : Int) i out = out * 2 ^ i + (((a ||| b) % 2 ^ i : Nat) : Int)
  | 0, out => by simp [aMw, Nat.mod_one]
  | i + 1, out => by
    unfold aMw
    have hT : orT (a : Int) (b : Int) i = (a ||| b).testBit i := by
      unfold orT; rw [Nat.testBit_or, Nat.testBit_eq_decide_div_mod_eq, Nat.testBit_eq_decide_div_mod_eq]
      have h2 : (2 : Int) ^ i = ((2 ^ i : Nat) : Int) := by norm_cast
      rw [h2, <- Int.ofNat_tdiv, <- Int.ofNat_tdiv]
      have e2 : (2 : Int) = ((2 : Nat) : Int) := rfl
      rw [e2, <- Int.ofNat_tmod, <- Int.ofNat_tmod]
      congr 1 <;> exact decide_eq_decide.2 og
    have hm : (a ||| b) % 2 ^ (i + 1) = (a ||| b) % 2 ^ i + (if (a ||| b).testBit i = true then 2 ^ i else 0) := by
      rw [Nat.pow_succ, Nat.mod_mul, Nat.testBit_eq_decide_div_mod_eq]
      rcases Nat.mod_two_eq_zero_or_one ((a ||| b) / 2 ^ i) with h | h
      . rw [h]; simp
      rw [h]; simp
    rw [hT, bJr a b i, hm]
    have h2 : (2 : Int) ^ (i + 1) = 2 * 2 ^ i := by rw [Int.pow_succ]; omega
    have h3 : (((2 ^ i : Nat)) : Int) = (2 : Int) ^ i := by norm_cast
    rw [h2]; split
    . rename_i h
      simp only [if_pos h, Int.natCast_add, h3]; rw [Int.add_mul, Int.mul_assoc]; omega
    rename_i h
    simp only [if_neg h, Nat.add_zero]; rw [Int.mul_assoc]
def bJt (a b : Int) (ha : 0 <= a) (ha1 : a <= 65535) (hb : 0 <= b) (hb1 : b <= 65535) : IntKind.i64.wrap (((BitVec.ofInt 64 a ||| BitVec.ofInt 64 b).toNat : Nat) : Int) = orZ a b := by
  obtain ⟨m, rfl⟩ := Int.eq_ofNat_of_zero_le ha
  obtain ⟨n, rfl⟩ := Int.eq_ofNat_of_zero_le hb
  have hm : m < 2 ^ 16 := by omega
  have hn : n < 2 ^ 16 := by omega
  have h16 := Nat.or_lt_two_pow hm hn
  have e1 : (BitVec.ofInt 64 (m : Int) ||| BitVec.ofInt 64 (n : Int)).toNat = m ||| n := by
    rw [BitVec.toNat_or, BitVec.ofInt_natCast, BitVec.ofInt_natCast, BitVec.toNat_ofNat, BitVec.toNat_ofNat, Nat.mod_eq_of_lt og, Nat.mod_eq_of_lt og]
  rw [e1]; unfold orZ; rw [bJr, Nat.mod_eq_of_lt h16, IntKind.wrap_i64]; omega
def iQ (ls : List Entry) : Run × Bool := if (ls.length < 1 ∨ 150 < ls.length) ∨ cD (bU ls) = false then (wS, false) else (⟨bU ls, bV (bU ls)⟩, true)
def mU (d : Nat -> Entry) (n : Nat) (hn : n <= 1048576) : aP P 94 [.ref 0, Ni (n : Int), gX] [(0, cT d n id)] 1 (.tup []) [(0, cT d n (aIf (lE d) n))] 1 := by
 refine (gq 63 [] func94) ?_
 simp only [cT, gX]
 refine (aj) ((aj) ?_)
 refine aA fun k3 => wb ?_
 refine wl (α := Nat × Nat × (Nat -> Nat)) (fun x => x.2.1 <= n /\ n <= x.1 + x.2.1 /\ mQ (lE d) n 20 x.1 x.2.2 x.2.1 = mQ (lE d) n 20 n id 0) (fun x => n - x.2.1) (fun x => ([(0, .ref 0), (1, Ni (n : Int)), (2, .fn (.func 45) [] []), (6, Ni 20), (7, Ni (x.2.1 : Int)), (8, Ni ((x.2.1 + 20 : Nat) : Int))], [(0, .row 43 5 ((List.range n).map fun z => enA (d (x.2.2 z))))])) 1 (n, 0, id) ⟨A3 _, A0 _, rfl⟩ [] ?_ ?_
 . exact Al
 rintro ⟨f, a, τ⟩ ⟨ha, hf, hgo⟩
 simp only at ha hf hgo ⊢
 refine aA fun k4 => (aj) ((cdA) ?_ ?_) <;> intro hc1
 . have hlt : a + 20 <= n := by simp at hc1; omega
   obtain ⟨g, rfl⟩ : ∃ g, f = g + 1 := ⟨f - 1, og⟩
   refine wk (k4 (wb (sr rfl fun k6 => (ja) ?_)))
   refine vg [] 0 rfl rfl rfl ⟨func133, rfl, rfl⟩ (dQ d n τ hn a (a + 20) hlt og) rfl Ak Ak (mT (H1 := []) (.inl rfl) Az Ba) (.inl rfl) ?_
   refine (Ay) (k6 ((aj) ?_))
   have hw5 := wr (((a + 20 : Nat) : Int) + 20) (((a + 20 + 20 : Nat) : Int)) og
   refine wg rfl ((Aa hw5) ((jt) ((jt) ?_)))
   refine ⟨(g, a + 20, gM (lE d) τ a (a + 20)), ⟨by simp only; omega, by simp only; omega, by simp only; rw [bJy hlt] at hgo; exact hgo⟩, by simp only; omega, [], ?_⟩
   exact Al
 have hlt : ¬ a + 20 <= n := by simp at hc1; omega
 rw [bJg hlt] at hgo
 replace hgo := hgo.symm
 refine we ((jt) (k3 (sr rfl fun k8 => (ja) ?_)))
 refine vg [] 0 rfl rfl rfl ⟨func133, rfl, rfl⟩ (dQ d n τ hn a n (A0 _) ha) rfl Ak Ak (mT (H1 := []) (.inl rfl) Az Ba) (.inl rfl) ?_
 refine (Ay) (k8 (wb ?_))
 refine wl (α := Nat × Nat × (Nat -> Nat)) (fun x => 20 <= x.2.1 /\ n <= x.1 + x.2.1 /\ x.2.1 <= 2097172 /\ nP (lE d) n x.1 x.2.1 x.2.2 = aIf (lE d) n) (fun x => n - x.2.1) (fun x => ([(0, .ref 0), (1, Ni (n : Int)), (2, .fn (.func 45) [] []), (6, Ni (x.2.1 : Int))], [(0, .row 43 5 ((List.range n).map fun z => enA (d (x.2.2 z))))])) 1 (n, 20, gM (lE d) τ a n) ⟨A0 _, by simp only; omega, by simp only; omega, (bIc (lE d) n hgo).symm⟩ [] ?_ ?_
 . exact Al
 rintro ⟨f, bs, υ⟩ ⟨hb, hf2, hbm, hst⟩
 simp only at hb hf2 hbm hst ⊢
 refine aA fun k9 => (aj) ((cdB) ?_ ?_) <;> intro hc2
 . have hlt2 : ¬ bs < n := by simp at hc2; omega
   rw [bFq hlt2] at hst
   refine we ((jt) ?_)
   rw [<- hst]; refine ⟨[], ?_⟩; exact Bh
 have hlt2 : bs < n := by simp at hc2; omega
 obtain ⟨g, rfl⟩ : ∃ g, f = g + 1 := ⟨f - 1, og⟩
 refine wk (k9 (wb ?_))
 have hw8 := wr (2 * (bs : Int)) (((2 * bs : Nat) : Int)) og
 refine sr rfl fun k11 => (Aa hw8) (k11 (aA fun k12 => wb ?_))
 refine wl (α := Nat × Nat × (Nat -> Nat)) (fun x => x.2.1 <= n /\ n <= x.1 + x.2.1 /\ nB (lE d) n bs x.1 x.2.2 x.2.1 = nB (lE d) n bs n υ 0) (fun x => n - x.2.1) (fun x => ([(0, .ref 0), (1, Ni (n : Int)), (2, .fn (.func 45) [] []), (6, Ni (bs : Int)), (7, Ni (x.2.1 : Int)), (8, Ni ((x.2.1 + 2 * bs : Nat) : Int))], [(0, .row 43 5 ((List.range n).map fun z => enA (d (x.2.2 z))))])) 1 (n, 0, υ) ⟨A3 _, A0 _, rfl⟩ [] ?_ ?_
 . simp only [go_sem, AObj.bel, AObj.ren, AV.ren, aB, sg, Int.natCast_zero, C3] <;> simp
 rintro ⟨f3, a3, ω⟩ ⟨ha3, hf3, hgo3⟩
 simp only at ha3 hf3 hgo3 ⊢
 refine aA fun k13 => (aj) ((cdA) ?_ ?_) <;> intro hc3
 . have hlt3 : a3 + 2 * bs <= n := by simp at hc3; omega
   obtain ⟨g3, rfl⟩ : ∃ g, f3 = g + 1 := ⟨f3 - 1, og⟩
   refine wk (k13 (wb ?_))
   have hw10 := wr ((a3 : Int) + (bs : Int)) (((a3 + bs : Nat) : Int)) og
   refine sr rfl fun k15 => (Aa hw10) ?_
   refine vg [] 0 rfl rfl rfl ⟨func134, rfl, rfl⟩ (aCh d n hn n ω a3 (a3 + bs) (a3 + 2 * bs) og og og hlt3) rfl Ak Ak (mT (H1 := []) (.inl rfl) Az Ba) (.inl rfl) ?_
   refine (Ay) (k15 ((aj) ?_))
   have hw8 := wr (2 * (bs : Int)) (((2 * bs : Nat) : Int)) og
   have hw12 := wr (((a3 + 2 * bs : Nat) : Int) + ((2 * bs : Nat) : Int)) (((a3 + 2 * bs + 2 * bs : Nat) : Int)) og
   refine wg rfl ((As hw8 hw12) ((jt) ((jt) ?_)))
   refine ⟨(g3, a3 + 2 * bs, lU (lE d) n ω a3 (a3 + bs) (a3 + 2 * bs)), ⟨by simp only; omega, by simp only; omega, by simp only; rw [bIs hlt3] at hgo3; exact hgo3⟩, by simp only; omega, [], ?_⟩
   exact Al
 have hlt3 : ¬ a3 + 2 * bs <= n := by simp at hc3; omega
 rw [bHv hlt3] at hgo3
 refine we ((jt) (k12 (aA fun k17 => ?_)))
 have hw13 := wr ((a3 : Int) + (bs : Int)) (((a3 + bs : Nat) : Int)) og
 refine sr rfl fun k18 => (Aa hw13) (k18 ((aj) ((cdB) ?_ ?_))) <;> intro hc4
 . have hx : ¬ a3 + bs < n := by simp at hc4; omega
   have hend : pD (lE d) n bs (nB (lE d) n bs n υ 0) = ω := by rw [<- hgo3]; unfold pD; exact if_neg hx
   refine wk (k17 ?_)
   have hw16 := wr ((bs : Int) * 2) (((2 * bs : Nat) : Int)) og
   refine wg rfl ((Aa hw16) ((jt) ((jt) ?_)))
   refine ⟨(g, 2 * bs, pD (lE d) n bs (nB (lE d) n bs n υ 0)), ⟨by simp only; omega, by simp only; omega, by simp only; omega, by simp only; rw [aPx hlt2] at hst; exact hst⟩, by simp only; omega, [], ?_⟩
   exact Au hend
 have hx : a3 + bs < n := by simp at hc4; omega
 have hend : pD (lE d) n bs (nB (lE d) n bs n υ 0) = lU (lE d) n ω a3 (a3 + bs) n := by rw [<- hgo3]; unfold pD; exact if_pos hx
 refine wg rfl ((ja) ?_)
 refine vg [] 0 rfl rfl rfl ⟨func134, rfl, rfl⟩ (aCh d n hn n ω a3 (a3 + bs) n og og og (A0 _)) rfl Ak Ak (mT (H1 := []) (.inl rfl) Az Ba) (.inl rfl) ?_
 refine (Ay) (k17 ?_)
 have hw16 := wr ((bs : Int) * 2) (((2 * bs : Nat) : Int)) og
 refine wg rfl ((Aa hw16) ((jt) ((jt) ?_)))
 refine ⟨(g, 2 * bs, pD (lE d) n bs (nB (lE d) n bs n υ 0)), ⟨by simp only; omega, by simp only; omega, by simp only; omega, by simp only; rw [aPx hlt2] at hst; exact hst⟩, by simp only; omega, [], ?_⟩
 exact Au hend
def bGy (d : Nat -> Entry) (n : Nat) (hn : n <= 1048576) : aP P 44 [.ref 0, gX] [(0, cT d n id)] 1 (.tup []) [(0, cT d n (aIf (lE d) n))] 1 := by
 refine (gq 9 [] func44) ?_
 simp only [cT, gX]; refine wg rfl ?_; simp only [go_sem, D1, A8, G9]
 refine vg [] 0 rfl rfl rfl ⟨func94, rfl, rfl⟩ (mU d n hn) rfl Ak Ak (mT (H1 := []) (.inl rfl) Az Ba) (.inl rfl) ?_
 refine (Ay) ?_
 refine ⟨[], ?_⟩; exact Bh
def bHr (ls : List Entry) (h : ls.length <= 1048576) : aP P 44 [.ref 0, gX] [(0, .row 43 5 (ls.map enA))] 1 (.tup []) [(0, .row 43 5 ((bU ls).map enA))] 1 := by
  have := bGy (dOf ls) ls.length h
  unfold cT at this; rw [bHn, <- bMb] at this; exact this
end
end Go.Proofs.S
end
section
open Go Go.Abs Go.Proofs Go.Proofs.Tryz
namespace Go.Proofs.S
def bHl {ls : List Entry} (h : cD ls = true) : ∀ i, i + 1 < ls.length -> ∀ a b, ls[i]? = some a -> ls[i + 1]? = some b -> entLt a b = true := by
  intro i hi a b ha hb
  have h1 := (C7.1 h) (i + 1) (List.mem_range.2 hi)
  unfold zX at h1; rw [hb] at h1
  have hp : cB ls (i + 1) = a := by unfold cB; rw [Nat.add_sub_cancel, ha]; rfl
  rw [hp] at h1; simp at h1
  exact h1.2
def qP {ls : List Entry} (h : cD ls = true) : ls.Pairwise fun a b => entLt a b = true := by
  refine F9.2 fun i j hi hj hij => ?_
  obtain ⟨d, rfl⟩ : ∃ d, j = i + 1 + d := ⟨j - (i + 1), og⟩
  induction d with
  | zero => exact bHl h i hj _ _ (A1 hi) (A1 hj)
  | succ d ih =>
    have h1 := ih og og
    have h2 := bHl h (i + 1 + d) og _ _ (A1 og) (A1 og)
    exact qC.trans _ _ _ trivial trivial trivial h1 h2
def bGg (ls : List Entry) : (bU ls).Pairwise fun a b => entLt b a = false := by
  rw [zD]; exact (Plain.put_sorted qC ls).1
def aGv {a b : Entry} (h : entLt a b = true) : entLt b a = false := qC.asymm trivial trivial h
def aGh {ls : List Entry} (h : ls.Pairwise fun a b => entLt a b = true) : ∀ x ∈ ls, ∀ y ∈ ls, entLt x y = false -> entLt y x = false -> x = y := by
  intro x hx y hy h1 h2
  obtain ⟨i, hi⟩ := F8 hx
  obtain ⟨j, hj⟩ := F8 hy
  have hil := (B2.1 hi).1
  have hjl := (B2.1 hj).1
  rw [A1 hil] at hi; rw [A1 hjl] at hj
  cases hi; cases hj
  have hp := F9.1 h
  rcases Nat.lt_trichotomy i j with hij | hij | hij
  . rw [hp i j hil hjl hij] at h1; cases h1
  . subst hij; rfl
  rw [hp j i hjl hil hij] at h2; cases h2
def aQh {ls : List Entry} (h : cD ls = true) : bU ls = ls := by
  have hp := qP h
  exact List.Perm.eq_of_pairwise (le := fun a b => entLt b a = false) (fun a b ha hb h1 h2 => aGh hp a ((iG ls).mem_iff.1 ha) b hb h2 h1) (bGg ls) (hp.imp fun h => aGv h) (iG ls)
def bJa (r : Run) : ((iQ r.ents).2 && (decide ((iQ r.ents).1.mask = r.mask) && decide ((iQ r.ents).1.ents = r.ents))) = cH r := by
  rw [Bool.eq_iff_iff]
  constructor
  . intro h
    simp only [B7, decide_eq_true_eq] at h
    obtain ⟨h1, h2, h3⟩ := h
    unfold iQ at h1 h2 h3; split at h1
    . cases h1
    rename_i hc
    rw [if_neg hc] at h2 h3
    simp only [not_or] at hc
    simp only at h2 h3
    rw [h3] at h2 hc
    have h4 : cD r.ents = true := by simpa using hc.2
    simp [cH, h4, h2]
    omega
  intro h
  simp only [cH, B7, decide_eq_true_eq] at h
  obtain ⟨⟨h1, h2⟩, h3⟩ := h
  have he := aQh h2
  unfold iQ
  rw [if_neg (by rw [he, h2]; simp only [not_or]; exact ⟨⟨og, og⟩, by simp⟩), he]
  simp [h3]
def aAu (level : Int) : Int := if level = 0 then 4 else 8
def wJ (ls : List Run) (level : Int) (i : Nat) : Bool := match ls[i]? with
  | some r => cH r && !((decide (0 < level) && decide (0 < (i : Int))) && !Op.bytesLess (aL (iY ls i)).toList (aI r).toList)
  | none => true
def qK (ls : List Run) (level : Int) : Bool := if aAu level < (ls.length : Int) then false else (List.range ls.length).all (wJ ls level)
def aXo {ls : List Run} {level : Int} {i : Nat} {r : Run} (h : wJ ls level i = true) (hr : ls[i]? = some r) : cH r = true := by
  unfold wJ at h; rw [hr] at h; simp at h
  exact h.1
def aBt (ls : List Int) (seq : Int) : Bool := if (4 : Int) < (ls.length : Int) then false else (List.range ls.length).all (pJ ls seq)
def bEm (ls : List Int) (seq : Int) : aBt ls seq = eO ls seq := by
  unfold aBt eO; split
  . rename_i h
    rw [decide_eq_false og, Bool.and_false]
  rename_i h
  rw [decide_eq_true og, Bool.and_true]
def lX (ls : List (List Run)) (mem : List Entry) : List (List Entry) := (ls.reverse.flatMap fun rs => rs.map Run.ents) ++ [mem]
def sS (ls : List (List Run)) (k : Nat) : List (List Entry) := (ls.drop k).reverse.flatMap fun rs => rs.map Run.ents
def aLi {ls : List (List Run)} {k : Nat} {l : List Run} (h : ls[k]? = some l) : sS ls k = sS ls (k + 1) ++ l.map Run.ents := by
  unfold sS; rw [aJp h, List.reverse_cons, List.flatMap_append]
  simp
def aJb (s : ByteArray) (hs : s.size <= 4611686018427387904) : aJ P 180 [Ns s] [] 0 (Ni (vZ s)) := by
 refine (pq 27 [.tmp 2] func180) ((aj) ((aj) ?_))
 refine aA fun k3 => (aj) (wb ?_)
 refine wn s.size (fun x => ([(0, Ns s), (3, Ni (dG s x)), (6, Ni (s.size : Int)), (7, Ni (x : Int))], [])) 0 [] ?_ ?_
 . simp only [go_sem, dG, Int.natCast_zero] <;> simp
 rintro i hi
 refine (aj) ?_
 refine aA fun k6 => (cdA) ?_ ?_ <;> intro hc1
 . have hlt : i < s.size := by simpa using hc1
   have hh := pX s i
   have hb := nS s i
   have hw0 := wr (aS s i) (aS s i) og
   have hw1 := wr (31 * dG s i) (dG s i * 31) og
   have hw2 := wr (dG s i * 31 + aS s i) (dG s i * 31 + aS s i) og
   refine wk (k6 (aA fun k7 => wb ((aj) ?_)))
   refine wg rfl ?_; simp only [go_sem, hw0, hw1, hw2]
   refine (jr) ((jt) (k7 ((jw (wiS i og)) ((jt) ?_))))
   refine ⟨i + 1, og, og, [], ?_⟩
   simp only [go_sem, dG] <;> simp
 have hge : i = s.size := by have h9 : ¬ i < s.size := (by simpa using hc1); omega
 subst hge
 refine we ((jt) (k3 ?_))
 have hh := pX s s.size
 have hq : IntKind.i64.wrap ((dG s s.size).tdiv 16) = (dG s s.size).tdiv 16 := by
   rw [H6 og, IntKind.wrap_i64]; omega
 have hm1 : 0 <= (dG s s.size).tmod 16 /\ (dG s s.size).tmod 16 <= 15 := by rw [Int.tmod_eq_emod_of_nonneg og]; omega
 have hd : 0 <= (dG s s.size).tdiv 16 := Int.tdiv_nonneg og og
 have hm2 : 0 <= ((dG s s.size).tdiv 16).tmod 16 /\ ((dG s s.size).tdiv 16).tmod 16 <= 15 := by rw [Int.tmod_eq_emod_of_nonneg hd]; omega
 have hr1 := rQ hm1.1 hm1.2
 have hr2 := rQ hm2.1 hm2.2
 have hsh : ∀ m : Int, 0 <= m -> m <= 15 -> IntKind.i64.wrap (1 * 2 ^ min m.toNat 64) = aCp m := fun m h0 h1 => by
   have := rQ h0 h1
   rw [Nat.min_eq_left og, Int.one_mul, IntKind.wrap_i64]
   show ((2 : Int) ^ m.toNat + _) % _ - _ = aCp m
   unfold aCp at this ⊢
   omega
 have hs1 := hsh _ hm1.1 hm1.2
 have hs2 := hsh _ hm2.1 hm2.2
 have hor := bJt _ _ hr1.1 hr1.2 hr2.1 hr2.2
 have hbb : IntKind.bits .i64 = 64 := rfl
 refine sd mixed rfl fun k9 => (Bk hq hs1 hs2 hor) ?_
 refine ⟨hm1.1, hm2.1, ?_⟩
 refine (jy) (k9 (wR (fO ?_ trivial)))
 simp only [go_sem, vZ]
 exact congrArg (fun z => some (AV.raw (.int .i64 z))) hor
def aTy (ls : List Entry) (hz : cZ ls) : aJ P 158 [.sl 5 (ls.map enA)] [] 0 (.tup [rA (iQ ls).1, .raw (.bool (iQ ls).2)]) := by
 refine (pq 40 [.cell 2 105, .tmp 3] func158) ?_
 have hmx := mxl
 have hlen := hz.1
 have hsl := tX ls
 have hzs : cZ (bU ls) := ⟨by rw [hsl]; exact hz.1, fun e he => hz.2 e ((iG ls).mem_iff.1 he)⟩
 refine (aj) ?_
 refine aA fun k2 => (aj) ((cdA) ?_ ?_) <;> intro hc1
 . have h9 : iQ ls = (wS, false) := by unfold iQ; rw [if_pos]; simp at hc1; left; omega
   refine (aj) ?_
   refine cP 0 (ds := [.sl 5 [], Ni 0]) rfl (by repeat (first | exact LeL.nil | refine LeL.cons (by first | exact Le.refl _ | exact Le.nil _) ?_)) oG ?_
   refine (ja) (wR ?_)
   refine fO ?_ ⟨⟨enB _ _, trivial, trivial⟩, trivial, trivial⟩
   simp only [go_sem, h9, rA, wS]
 refine wk (k2 ?_)
 have hnb : 1 <= ls.length /\ ls.length <= 150 := by simp at hc1; omega
 refine sr rfl fun k5 => (Av) ((jr) (k5 (sr rfl fun k6 => (ja) ?_)))
 refine vg [(0, 1)] 0 rfl rfl rfl ⟨func44, rfl, rfl⟩ (bHr ls (by simp at hc1; omega)) rfl (by simp only [go_sem, gX, aB, AV.ren, sg]) Ak (mT (H1 := []) (.inr ⟨1, rfl⟩) (by simp only [go_sem, sg, AObj.ren]) Cc) (.inl rfl) ?_
 refine (jn) (k6 (aA fun k7 => ?_))
 refine aFz 1 rfl ?_
 refine (Ad) ?_
 refine sr rfl fun k8 => (ja) ((vq func89 (xG (bU ls) hzs)) (k8 ((cdA) ?_ ?_))) <;> intro hc2
 . have h9 : iQ ls = (wS, false) := by unfold iQ; rw [if_pos]; right; simpa using hc2
   refine (aj) ?_
   refine cP 0 (ds := [.sl 5 [], Ni 0]) rfl (by repeat (first | exact LeL.nil | refine LeL.cons (by first | exact Le.refl _ | exact Le.nil _) ?_)) oG ?_
   refine (ja) (wR ?_)
   refine fO ?_ ⟨⟨enB _ _, trivial, trivial⟩, trivial, trivial⟩
   simp only [go_sem, h9, rA, wS]
 have h9 : iQ ls = (⟨bU ls, bV (bU ls)⟩, true) := by unfold iQ; rw [if_neg (by simp only [not_or]; exact ⟨⟨og, og⟩, by simpa using hc2⟩)]
 refine wk (k7 ((aj) ?_))
 refine aA fun k11 => (aj) (wb ?_)
 refine wl (α := Nat × Int) (fun x => x.1 <= (bU ls).length /\ 0 <= x.2 /\ x.2 <= 65535 /\ ((bU ls).drop x.1).foldl jS x.2 = bV (bU ls)) (fun x => (bU ls).length - x.1) (fun x => ([(2, .ptr 0 0), (4, .sl 5 ((bU ls).map enA)), (5, Ni x.2), (25, .sl 5 ((bU ls).map enA)), (26, Ni ((bU ls).length : Int)), (27, Ni (x.1 : Int))], [(0, .cells 105 [.raw (.slice none 0 0), Ni 0])])) 1 (0, 0) ⟨A3 _, by simp, by simp, rfl⟩ [] ?_ ?_
 . exact jp
 rintro ⟨i, m⟩ ⟨hi, hm0, hm1, hfold⟩
 simp only at hi hm0 hm1 hfold ⊢
 refine (aj) ?_
 refine aA fun k14 => (cdB) ?_ ?_ <;> intro hc3
 . have hge : (bU ls).length <= i := by have h9 : ¬ i < (bU ls).length := (by simpa using hc3); omega
   rw [E5 hge] at hfold
   have h8 : bV (bU ls) = m := hfold.symm
   refine we ((jt) (k11 ((aj) (wR ?_))))
   refine fO ?_ ⟨⟨enB _ _, trivial, trivial⟩, trivial, trivial⟩
   simp only [go_sem, h9, h8, rA]
 have hlt : i < (bU ls).length := by simpa using hc3
 obtain ⟨l, hl, hdrop, hml⟩ := ix hlt
 refine wk (k14 (aA fun k15 => wb (sr rfl fun k16 => (Am hl) ((jr) (k16 ?_)))))
 have hkr := pM (aCp ((dG l.key l.key.size).tmod 16)) (aCp (((dG l.key l.key.size).tdiv 16).tmod 16))
 have hor := bJt m (vZ l.key) hm0 hm1 hkr.1 hkr.2
 have hbb : IntKind.bits .i64 = 64 := rfl
 refine wg rfl ((As hbb hor) ?_)
 refine (vr rfl rfl rfl func180 (aJb l.key (hzs.2 l hml).1) Af Af) ((jt) (k15 ((jw (wiS i og)) ((jt) ?_))))
 refine ⟨(i + 1, jS m l), ⟨by simp only; omega, (pM _ _).1, (pM _ _).2, by rw [hdrop] at hfold; exact hfold⟩, by simp only; omega, [], ?_⟩
 simp only [go_sem, AObj.bel, AObj.ren, AV.ren, aB, sg, jS] <;> simp
 exact hor
def aSz (r : Run) (hz : cZ r.ents) : aJ P 130 [rA r] [] 0 (Nb (cH r)) := by
 refine (pq 17 [.tmp 2] func130) ?_
 simp only [rA]
 have hmz : (iQ r.ents).1.ents.length <= 4611686018427387904 := by
   unfold iQ; split
   . simp [wS]
   simp only [tX]; exact hz.1
 refine (aj) ?_
 refine sr rfl fun k2 => (ja) ?_
 refine vs rfl rfl rfl func158 (aTy r.ents hz) Ag Ag ?_
 simp only [go_sem, rA]
 refine k2 (sr rfl fun k3 => (ja) ?_)
 refine vpg rfl rfl rfl rfl rfl rfl ⟨func70, rfl, rfl⟩ (fun hg => xM (iQ r.ents).1 r hmz) oG (fun hg => Ag) Ag trivial ?_
 simp only [go_sem, rA]
 refine k3 (wR (fO ?_ trivial))
 simp only [go_sem, bJa]
def aOx (n : Int) : aJ P 129 [Ni n] [] 0 (Ni (aAu n)) := by
 refine (pq 5 [.tmp 2] func129) ((aj) ?_)
 refine aA fun k2 => (aj) ((cdA) ?_ ?_) <;> intro hc1
 . have n1 : n = 0 := by simpa using hc1
   refine (aj) (wR ?_)
   refine fO ?_ trivial; simp only [go_sem, aAu, if_pos n1]
 have n1 : ¬ (n = 0) := by simpa using hc1
 refine wk (k2 ((aj) (wR ?_)))
 refine fO ?_ trivial; simp only [go_sem, aAu, if_neg n1]
def aKk (ls : List Run) (level : Int) (hz : aNg ls) : aJ P 91 [.sl 2 (ls.map rA), Ni level] [] 0 (Nb (qK ls level)) := by
 refine (pq 40 [.tmp 4] func91) ?_
 have hlen := hz.1
 refine (aj) ?_
 refine aA fun k2 => sr rfl fun k3 => (ja) ((vq func129 (aOx level)) (k3 ((cdA) ?_ ?_))) <;> intro hc1
 . have n1 : aAu level < (ls.length : Int) := by simpa using hc1
   refine (aj) (wR ?_)
   refine fO ?_ trivial; simp only [go_sem, qK, n1]
 have n1 : ¬ (aAu level < (ls.length : Int)) := by simpa using hc1
 refine wk (k2 (aA fun k5 => (aj) (wb ?_)))
 refine wa ls.length (wJ ls level) (fun x => ([(0, .sl 2 (ls.map rA)), (1, Ni level), (12, .sl 2 (ls.map rA)), (13, Ni (ls.length : Int)), (14, Ni (x : Int))], [])) 0 [] ?_ ?_
 . exact jc
 rintro i ⟨hi, hall⟩
 refine (aj) ?_
 refine aA fun k8 => (cdB) ?_ ?_ <;> intro hc2
 . have hge := gec hc2
   refine we ((jt) (k5 ((aj) (wR ?_))))
   have h9 : qK ls level = true := by unfold qK; rw [if_neg n1]; exact gE hge hall
   exact fq h9
 obtain ⟨hlt, l, hl, hdrop, hml⟩ := ixc hc2
 have hw1 := wr ((i : Int) - 1) ((i : Int) - 1) og
 have hpn : ((i : Int) - 1).toNat = i - 1 := by omega
 have hpv : ls[i - 1]? = some (iY ls i) := by unfold iY; rw [A1 og]; rfl
 have hprev : 0 < i -> 1 <= (iY ls i).ents.length /\ (iY ls i).ents.length <= 150 := fun h0 => gI (aXo (hall (i - 1) og) hpv)
 refine wk (k8 (aA fun k9 => wb (sr rfl fun k10 => (Ao hl) ((jr) (k10 (aA fun k11 => sr rfl fun k12 => (ja) ?_))))))
 refine (vr rfl rfl rfl func130 (aSz l (hz.2 l hml)) Ag Ag) (k12 ((cdA) ?_ ?_)) <;> intro hc3
 . have hp : wJ ls level i = false := by unfold wJ; rw [hl]; have : cH l = false := (by simpa using hc3); simp [this]
   refine (aj) (wR ((Ah) ?_))
   have h9 : qK ls level = false := by unfold qK; rw [if_neg n1]; exact gZ hlt hp
   exact fq h9
 have hr1 : cH l = true := by simpa using hc3
 have hl1 := gI hr1
 refine wk (k11 (sd mixed rfl fun k14 => (Ax hl hw1 hpn hpv) ((jr) ?_)))
 refine tpg rfl rfl rfl rfl rfl rfl ⟨func131, rfl, rfl⟩ (fun hg => aJi (iY ls i) (hprev (by simp at hg; omega)).1 (by have := (hprev (by simp at hg; omega)).2; omega)) oG (fun hg => Ag) Ag trivial ?_
 refine (Ax hl hw1 hpn hpv) ((jr) ?_)
 refine tpg rfl rfl rfl rfl rfl rfl ⟨func132, rfl, rfl⟩ (fun hg => aOi l hl1.1) oG (fun hg => Ag) Ag trivial ?_
 refine (Ax hl hw1 hpn hpv) ((jr) ((jy) (k14 ((cdA) ?_ ?_)))) <;> intro hc4
 . have hp : wJ ls level i = false := by unfold wJ; rw [hl]; simp only [hr1, hc4]; rfl
   refine (aj) (wR ((Ah) ?_))
   have h9 : qK ls level = false := by unfold qK; rw [if_neg n1]; exact gZ hlt hp
   exact fq h9
 have hp : wJ ls level i = true := by unfold wJ; rw [hl]; simp only [hr1, hc4]; rfl
 refine wk ((jt) (k9 ((jw (wiS i og)) ((jt) ?_))))
 refine ⟨i + 1, ⟨og, cO hall hp⟩, og, [], ?_⟩
 exact jo
def aJj (ls : List Int) (seq : Int) (hz : ls.length <= 4611686018427387904) : aJ P 90 [.sl 1 (ls.map inA), Ni seq] [] 0 (Nb (eO ls seq)) := by
 refine (pq 38 [.tmp 4] func90) ?_
 rw [<- bEm]
 refine (aj) ?_
 refine aA fun k2 => (aj) ((cdA) ?_ ?_) <;> intro hc1
 . have n1 : (4 : Int) < (ls.length : Int) := by simpa using hc1
   refine (aj) (wR ?_)
   refine fO ?_ trivial; simp only [go_sem, aBt, n1]
 have n1 : ¬ ((4 : Int) < (ls.length : Int)) := by simpa using hc1
 refine wk (k2 (aA fun k5 => (aj) (wb ?_)))
 refine wa ls.length (pJ ls seq) (fun x => ([(0, .sl 1 (ls.map inA)), (1, Ni seq), (10, .sl 1 (ls.map inA)), (11, Ni (ls.length : Int)), (12, Ni (x : Int))], [])) 0 [] ?_ ?_
 . exact jc
 rintro i ⟨hi, hall⟩
 refine (aj) ?_
 refine aA fun k8 => (cdB) ?_ ?_ <;> intro hc2
 . have hge := gec hc2
   refine we ((jt) (k5 ((aj) (wR ?_))))
   have h9 : aBt ls seq = true := by unfold aBt; rw [if_neg n1]; exact gE hge hall
   exact fq h9
 obtain ⟨hlt, l, hl, hdrop, hml⟩ := ixc hc2
 have hw1 := wr ((i : Int) - 1) ((i : Int) - 1) og
 have hpn : ((i : Int) - 1).toNat = i - 1 := by omega
 have hpv : ls[i - 1]? = some (aDb ls i) := by unfold aDb; rw [A1 og]; rfl
 refine wk (k8 (aA fun k9 => wb (sr rfl fun k10 => ?_)))
 simp only [go_sem, hl, inA]
 refine (jr) (k10 (sr rfl fun k11 => ?_))
 simp only [go_sem, hl, hw1, hpn, hpv, inA]
 refine (jr) (k11 ((cdA) ?_ ?_)) <;> intro hc3
 . have hp : pJ ls seq i = false := by unfold pJ; rw [hl]; simp only [hc3]; rfl
   refine (aj) (wR ((Ah) ?_))
   have h9 : aBt ls seq = false := by unfold aBt; rw [if_neg n1]; exact gZ hlt hp
   exact fq h9
 have hp : pJ ls seq i = true := by unfold pJ; rw [hl]; simp only [hc3]; rfl
 refine wk ((jt) (k9 ((jw (wiS i og)) ((jt) ?_))))
 refine ⟨i + 1, ⟨og, cO hall hp⟩, og, [], ?_⟩
 exact jo
def eB (a b : List Run) (hz : a.length <= 4611686018427387904) (hy : ∀ r ∈ a, r.ents.length <= 4611686018427387904) : aJ P 69 [.sl 2 (a.map rA), .sl 2 (b.map rA), .fn (.func 70) [] []] [] 0 (Nb (decide (a = b))) := by
 refine (pq 32 [.tmp 6] func69) ((aj) ?_)
 refine aA fun k2 => (aj) ((cdA) ?_ ?_) <;> intro hc1
 . have hne : a ≠ b := fun e => by rw [e] at hc1; simp at hc1
   exact (aj) (wR (fq (decide_eq_false hne)))
 have hlen : a.length = b.length := by simp at hc1; omega
 refine wk (k2 (aA fun k5 => (aj) (wb ?_)))
 refine wa a.length (sL a b) (fun x => ([(1, .sl 2 (b.map rA)), (2, .fn (.func 70) [] []), (15, .sl 2 (a.map rA)), (16, Ni (a.length : Int)), (17, Ni (x : Int))], [])) 0 [] ?_ ?_
 . exact jc
 rintro i ⟨hi, hall⟩
 refine (aj) ?_
 refine aA fun k8 => (cdB) ?_ ?_ <;> intro hc2
 . have hge := gec hc2
   refine we ((jt) (k5 ((aj) (wR ?_))))
   have hie : i = a.length := by omega
   subst hie
   have he := pH hlen hall
   exact fq (decide_eq_true he)
 obtain ⟨hlt, l, hl, _, hml⟩ := ixc hc2
 obtain ⟨m, hm, _, _⟩ := ix (xs := b) (i := i) og
 refine wk (k8 (aA fun k9 => wb (sr rfl fun k10 => (Ao hl) ((jr) (k10 (sr rfl fun k11 => (Ao hm) ((jr) (k11 (sr rfl fun k12 => (ja) ?_)))))))))
 refine vf (xs := [rA l, rA m]) rfl rfl rfl rfl ⟨func70, rfl, rfl⟩ (xM l m (hy l hml)) rfl rfl Ag ?_
 simp only [go_sem, bGt]
 refine k12 ((cdA) ?_ ?_) <;> intro hc3
 . have hne : a ≠ b := fun e => by
     rw [e, hm] at hl; cases hl; simp at hc3
   exact (aj) (wR ((Ah) (fq (decide_eq_false hne))))
 . have hp : sL a b i = true := by unfold sL; rw [hl, hm]; simpa using hc3
   refine wk ((jt) (k9 ((jw (wiS i og)) ((jt) ?_))))
   refine ⟨i + 1, ⟨og, cO hall hp⟩, og, [], ?_⟩
   exact jo
def zY (a b : List Run) (hz : a.length <= 4611686018427387904 /\ ∀ r ∈ a, r.ents.length <= 4611686018427387904) : aJ P 68 [rsA a, rsA b] [] 0 (Nb (decide (a = b))) := by
 refine (pq 8 [.tmp 4] func68) ?_
 simp only [rsA]
 refine (aj) ?_
 refine sr rfl fun k2 => (ja) ?_
 refine (vr rfl rfl rfl func69 (eB a b hz.1 hz.2) (by simp only [go_sem, rsA]) (by simp only [go_sem, rsA])) (k2 (wR (fO ?_ trivial)))
 exact At
def dO (a b : List (List Run)) (hz : a.length <= 4611686018427387904) (hy : ∀ l ∈ a, l.length <= 4611686018427387904 /\ ∀ r ∈ l, r.ents.length <= 4611686018427387904) : aJ P 67 [.sl 1 (a.map rsA), .sl 1 (b.map rsA), .fn (.func 68) [] []] [] 0 (Nb (decide (a = b))) := by
 refine (pq 32 [.tmp 6] func67) ((aj) ?_)
 refine aA fun k2 => (aj) ((cdA) ?_ ?_) <;> intro hc1
 . have hne : a ≠ b := fun e => by rw [e] at hc1; simp at hc1
   exact (aj) (wR (fq (decide_eq_false hne)))
 have hlen : a.length = b.length := by simp at hc1; omega
 refine wk (k2 (aA fun k5 => (aj) (wb ?_)))
 refine wa a.length (sL a b) (fun x => ([(1, .sl 1 (b.map rsA)), (2, .fn (.func 68) [] []), (15, .sl 1 (a.map rsA)), (16, Ni (a.length : Int)), (17, Ni (x : Int))], [])) 0 [] ?_ ?_
 . exact jc
 rintro i ⟨hi, hall⟩
 refine (aj) ?_
 refine aA fun k8 => (cdB) ?_ ?_ <;> intro hc2
 . have hge := gec hc2
   refine we ((jt) (k5 ((aj) (wR ?_))))
   have hie : i = a.length := by omega
   subst hie
   have he := pH hlen hall
   exact fq (decide_eq_true he)
 obtain ⟨hlt, l, hl, _, hml⟩ := ixc hc2
 obtain ⟨m, hm, _, _⟩ := ix (xs := b) (i := i) og
 refine wk (k8 (aA fun k9 => wb (sr rfl fun k10 => (Bb hl) ((jr) (k10 (sr rfl fun k11 => (Bb hm) ((jr) (k11 (sr rfl fun k12 => (ja) ?_)))))))))
 refine vf (xs := [rsA l, rsA m]) rfl rfl rfl rfl ⟨func68, rfl, rfl⟩ (zY l m (hy l hml)) rfl rfl (by simp only [go_sem, rsA]) ?_
 simp only [go_sem, bGt]
 refine k12 ((cdA) ?_ ?_) <;> intro hc3
 . have hne : a ≠ b := fun e => by
     rw [e, hm] at hl; cases hl; simp at hc3
   exact (aj) (wR ((Ah) (fq (decide_eq_false hne))))
 . have hp : sL a b i = true := by unfold sL; rw [hl, hm]; simpa using hc3
   refine wk ((jt) (k9 ((jw (wiS i og)) ((jt) ?_))))
   refine ⟨i + 1, ⟨og, cO hall hp⟩, og, [], ?_⟩
   exact jo
def nE (a b : List (List Run)) (ha : bDb a) : aJ P 30 [.sl 1 (a.map rsA), .sl 1 (b.map rsA)] [] 0 (Nb (decide (a = b))) := by
 refine (pq 8 [.tmp 4] func30) ((aj) ?_)
 refine sr rfl fun k2 => (ja) ((vq func67 (dO a b ha.1 (fun l hl => ⟨(ha.2 l hl).1, fun r hr => ((ha.2 l hl).2 r hr).1⟩))) (k2 (wR (fO ?_ trivial))))
 exact At
def wT (a b : Tree) (ha : bAi a) : aJ P 29 [trA a, trA b] [] 0 (Nb (eY a b)) := by
 refine (pq 31 [.tmp 4] func29) ?_
 simp only [trA]
 refine (aj) ?_
 refine sr rfl fun k2 => (ja) ?_
 refine vpg rfl rfl rfl rfl rfl rfl ⟨func43, rfl, rfl⟩ (fun hg => cJ a.mem b.mem ha.1.1) oG (fun hg => oG) oG trivial ?_
 refine (ja) ?_
 refine vpg rfl rfl rfl rfl rfl rfl ⟨func30, rfl, rfl⟩ (fun hg => nE a.levels b.levels ha.2.1) oG (fun hg => oG) oG trivial ?_
 refine (ja) ?_
 refine vpg rfl rfl rfl rfl rfl rfl ⟨func66, rfl, rfl⟩ (fun hg => uE a.snaps b.snaps ha.2.2) oG (fun hg => oG) oG trivial ?_
 refine (ja) (k2 (wR (fO ?_ trivial)))
 simp only [go_sem, eY]
end Go.Proofs.S
end
section
open Go Go.Abs Go.Proofs Go.Proofs.Tryz
open Go.MapKept (IsKey)
namespace Go.Proofs.S
def bNz : KeyT P 9 (IsKey .string) := aYq kr
abbrev Tops := List (ByteArray × Int)
abbrev uU (m : Tops) : AObj := .map 9 3 (mAV Value.string inA m)
def bIg (σ : Nat -> Nat) (m : Tops) : ((mAV Value.string inA m).map fun p => (p.1, p.2.ren σ)) = mAV Value.string inA m := bNj σ (fun _ => rfl) m
def bGw (U : Nat -> Prop) (m : Tops) : aK U ((mAV Value.string inA m).map (·.2)) := bMd (eV := inA) (fun _ => trivial) m
attribute [go_sem] bIg bGw
def aXb (m : Tops) (seq : Int) (ls : List Entry) (i : Nat) : Bool := match ls[i]? with
  | some e => !(decide (seq < e.seq) || decide (e.seq <= zZ m e.key 0))
  | none => true
def bIv (m : Tops) (seq : Int) (ls : List Entry) : Bool := (List.range ls.length).all (aXb m seq ls)
def yQ (m : Tops) (e : Entry) : Tops := yV m e.key (max (zZ m e.key 0) e.seq)
def wL (m : Tops) (ls : List Entry) : Tops := ls.foldl yQ m
def rT (seq : Int) : Tops -> List (List Entry) -> Bool
  | _, [] => true
  | m, l :: r => if bIv m seq l = true then rT seq (wL m l) r else false
def aCm {m : Tops} (h : (m.map (·.1)).Nodup) (e : Entry) : ((yQ m e).map (·.1)).Nodup := aNn _ _ _ h
def aGw : ∀ (ls : List Entry) {m : Tops}, (m.map (·.1)).Nodup -> ((wL m ls).map (·.1)).Nodup
  | [], _, h => h
  | e :: r, _, h => aGw r (aCm h e)
def aKz (m : Tops) (e : Entry) : (yQ m e).length <= m.length + 1 := aHb _ _ _
def aRg : ∀ (ls : List Entry) (m : Tops), (wL m ls).length <= m.length + ls.length
  | [], m => A0 _
  | e :: r, m => by
    have h1 := aKz m e
    have h2 := aRg r (yQ m e)
    simp only [wL, List.foldl_cons, C5] at h2 ⊢
    omega
def aBe (ls : List (List Run)) : Bool := (List.range ls.length).all fun i => qK ((ls[i]?).getD []) i
def qI (t : Tree) : Bool := ((decide (t.seq < 0) || decide (100000 < t.seq)) || decide (60 < (t.mem.length : Int))) || !decide ((t.levels.length : Int) = 3)
def dP (t : Tree) : Bool := if qI t = true then false else if (!cD t.mem || !eO t.snaps t.seq) = true then false else if aBe t.levels = false then false else rT t.seq [] (lX t.levels t.mem)
def aOp {t : Tree} (h : gL t) : ∀ p ∈ lX t.levels t.mem, p.length <= 1048576 := by
  obtain ⟨h1, h2, h3⟩ := h
  intro p hp
  rcases A6.1 hp with hp | hp
  . obtain ⟨rs, hrs, hp⟩ := List.mem_flatMap.1 hp
    obtain ⟨r, hr, rfl⟩ := A9.1 hp
    exact ((h2.2 rs (List.mem_reverse.1 hrs)).2 r hr).1
  rw [B4.1 hp]; exact h1.1
def aXy {t : Tree} (h : gL t) : (lX t.levels t.mem).length <= 1048576 * t.levels.length + 1 := by
  have aux : ∀ ls : List (List Run), (∀ rs ∈ ls, rs.length <= 1048576) -> (ls.reverse.flatMap fun rs => rs.map Run.ents).length <= 1048576 * ls.length := by
    intro ls
    induction ls with
    | nil => intro _; simp
    | cons a r ih =>
      intro hl
      have h1 := ih fun x hx => hl x (A5 _ hx)
      have h2 := hl a A2
      rw [List.reverse_cons, List.flatMap_append, A4]
      simp at h1 ⊢
      omega
  have := aux t.levels fun rs hrs => (h.2.1.2 rs hrs).1
  unfold lX; rw [A4]
  simp at this ⊢
  omega
def aEh (ls : List (List Run)) (mem : List Entry) (hs : aIc ls) : aP P 93 [.sl 1 (ls.map rsA), .sl 5 (mem.map enA)] [] 0 (.ref 0) [(0, .row 23 1 ((lX ls mem).map esA))] 1 := by
 refine (gq 35 [.tmp 4] func93) ?_
 have hmx := mxl
 have hlen := hs.1
 refine (aj) ((aj) ?_)
 refine aA fun k3 => ?_
 have hw0 := wr ((ls.length : Int) - 1) ((ls.length : Int) - 1) og
 refine sr rfl fun k4 => (Aa hw0) (k4 (wb ?_))
 refine nC (t := 5) 23 1 rfl dg ?_
 refine (ja) ?_
 refine wl (α := Nat) (fun x => x <= ls.length /\ (sS ls x).length <= 1048576 * (ls.length - x)) (fun x => x) (fun x => ([(0, .sl 1 (ls.map rsA)), (1, .sl 5 (mem.map enA)), (5, .ref 0), (6, Ni ((x : Int) - 1))], [(0, .row 23 1 ((sS ls x).map esA))])) 1 ls.length ⟨A0 _, by simp [sS]⟩ [] ?_ ?_
 . simp only [go_sem, AObj.bel, sS, List.drop_length, List.reverse_nil, List.flatMap_nil, List.map_nil] <;> simp
 rintro j ⟨hj, hjl⟩
 refine aA fun k5 => (aj) ((cdB) ?_ ?_) <;> intro hc1
 . have hj0 : j = 0 := by have h9 : ¬ (0 : Int) <= (j : Int) - 1 := (by simpa using hc1); omega
   subst hj0
   refine we ((jt) (k3 (sr rfl fun k13 => (De) ((jr) (k13 (wR ?_))))))
   have hfin : (sS ls 0).map esA ++ [AV.sl 5 (mem.map enA)] = (lX ls mem).map esA := by unfold lX sS; simp [esA]
   refine ⟨[(0, 2)], ?_⟩
   simp only [go_sem, AObj.bel, AObj.ren, AV.ren, aB, sg] <;> simp
   exact hfin
 obtain ⟨i, rfl⟩ : ∃ i, j = i + 1 := ⟨j - 1, by have h9 : (0 : Int) <= (j : Int) - 1 := (by simpa using hc1); omega⟩
 have hi1 : (((i + 1 : Nat) : Int) - 1) = (i : Int) := by omega
 obtain ⟨l, hl, _, hml⟩ := ix (xs := ls) (i := i) og
 have hsl := hs.2 l hml
 have hll := hsl.1
 simp only [hi1]
 refine wk (k5 (aA fun k7 => wb (sr rfl fun k8 => (Bb hl) ((jr) (k8 (wb ?_))))))
 refine wn l.length (fun x => ([(0, .sl 1 (ls.map rsA)), (1, .sl 5 (mem.map enA)), (5, .ref 0), (6, Ni (i : Int)), (19, .sl 2 (l.map rA)), (20, Ni (l.length : Int)), (21, Ni (x : Int))], [(0, .row 23 1 ((sS ls (i + 1) ++ (l.take x).map Run.ents).map esA))])) 1 [] ?_ ?_
 . exact jp
 rintro k hk
 refine (aj) ?_
 refine aA fun k10 => (cdB) ?_ ?_ <;> intro hc2
 . have hgek : l.length <= k := by have h9 : ¬ k < l.length := (by simpa using hc2); omega
   refine we ((jt) ((jt) (k7 ?_)))
   have hw4 := wr ((i : Int) - 1) ((i : Int) - 1) og
   have htn : (sS ls (i + 1)).map esA ++ (l.map Run.ents).map esA = (sS ls i).map esA := by rw [aLi hl, D9]
   have hfull : l.take k = l := List.take_of_length_le og
   refine wg rfl ((As hw4 hfull) ((jt) ?_))
   refine ⟨i, ⟨og, by rw [aLi hl, A4, A8]; omega⟩, og, [], ?_⟩
   simp only [go_sem, AObj.bel, AObj.ren, AV.ren, aB, sg, Int.natCast_zero] <;> simp
   simpa using htn
 have hltk : k < l.length := by simpa using hc2
 obtain ⟨r, hr, _, hmr⟩ := ix hltk
 refine wk (k10 (aA fun k11 => wb (sr rfl fun k12 => (Ao hr) ((jr) (k12 (wg rfl ((De) ((jr) ((jt) (k11 ?_))))))))))
 have hwk := wiS k og
 have htk : (sS ls (i + 1)).map esA ++ (((l.take k).map Run.ents).map esA ++ [AV.sl 5 (r.ents.map enA)]) = (sS ls (i + 1)).map esA ++ ((l.take (k + 1)).map Run.ents).map esA := by
   rw [G2, hr]; simp [esA]
 refine wg rfl ((Aa hwk) ((jt) ?_))
 refine ⟨k + 1, og, og, [(0, 3)], ?_⟩
 simp only [go_sem, AObj.bel, AObj.ren, AV.ren, aB, sg, Int.natCast_zero] <;> simp
 first | exact htk | simpa using htk
def aEb (ls : List (List Entry)) (seq : Int) (hz : ls.length <= 4194304) (hl5 : ∀ l ∈ ls, l.length <= 1048576) : aJ P 92 [.sl 1 (ls.map esA), Ni seq] [] 0 (Nb (rT seq [] ls)) := by
 refine (pq 57 [.tmp 4] func92) ((aj) ((aj) ?_))
 refine aA fun k3 => (aj) (wb ?_)
 refine wl (α := Nat × Tops) (fun x => x.1 <= ls.length /\ (x.2.map (·.1)).Nodup /\ x.2.length <= 1048576 * x.1 /\ rT seq x.2 (ls.drop x.1) = rT seq [] ls) (fun x => ls.length - x.1) (fun x => ([(1, Ni seq), (5, .ref 0), (13, .sl 1 (ls.map esA)), (14, Ni (ls.length : Int)), (15, Ni (x.1 : Int))], [(0, uU x.2)])) 1 (0, []) ⟨A3 _, D8, A0 _, rfl⟩ [] ?_ ?_
 . simp only [go_sem, AObj.bel, AObj.ren, uU, mAV, List.map_nil, Int.natCast_zero] <;> simp [aK]
 rintro ⟨i, m⟩ ⟨hi, hnd, hml, hgo⟩
 simp only at hi hnd hml hgo ⊢
 refine (aj) ?_
 refine aA fun k6 => (cdB) ?_ ?_ <;> intro hc1
 . have hge := gec hc1
   rw [E5 hge, rT] at hgo
   refine we ((jt) (k3 ((aj) (wR ?_))))
   refine fO ?_ trivial; simp only [go_sem, <- hgo]
 obtain ⟨hlt, l, hl, hdrop, hml0⟩ := ixc hc1
 have hll := hl5 l hml0
 refine wk (k6 (aA fun k7 => wb (sr rfl fun k8 => (Bm hl) ((jr) (k8 (aA fun k9 => (aj) (wb ?_)))))))
 refine wa l.length (aXb m seq l) (fun x => ([(1, Ni seq), (5, .ref 0), (7, .sl 5 (l.map enA)), (13, .sl 1 (ls.map esA)), (14, Ni (ls.length : Int)), (15, Ni (i : Int)), (19, .sl 5 (l.map enA)), (20, Ni (l.length : Int)), (21, Ni (x : Int))], [(0, uU m)])) 1 [] ?_ ?_
 . simp only [go_sem, AObj.bel, AObj.ren, uU, Int.natCast_zero] <;> simp
 rintro k ⟨hk, hall⟩
 refine (aj) ?_
 refine aA fun k12 => (cdA) ?_ ?_ <;> intro hc2
 . have hltk : k < l.length := by simpa using hc2
   obtain ⟨e, he, _, _⟩ := ix hltk
   refine wk (k12 (aA fun k13 => wb (sr rfl fun k14 => (Am he) ((jr) (k14 (sr rfl fun k15 => (Am he) ?_))))))
   refine vC (fun hN => eQ hN rfl rfl rfl rfl oG (fun hg => aLg (eK := Value.string) (eV := inA) (k := e.key) (z := 0) (m := m) rfl rfl hN oG (by simp only [go_sem, inA]) bNz (fun a b h => Value.string.inj h) (fun a => trivial) rfl rfl hnd rfl rfl) trivial) (.inl rfl) ?_
   simp only [go_sem, inA, he, enA]
   refine k15 ((cdA) ?_ ?_) <;> intro hc3
   . have hp : aXb m seq l k = false := by unfold aXb; rw [he]; simp only [hc3]; rfl
     have hok : bIv m seq l = false := gZ hltk hp
     refine (aj) (wR ((Ah) ?_))
     rw [hdrop, rT, hok] at hgo; refine fO ?_ trivial; simp only [go_sem, <- hgo, C4, if_false]
   have hp : aXb m seq l k = true := by unfold aXb; rw [he]; simp only [hc3]; rfl
   refine wk ((jt) (k13 ?_))
   have hwk := wiS k og
   refine wg rfl ((Aa hwk) ((jt) ?_))
   refine ⟨k + 1, ⟨og, cO hall hp⟩, og, [], ?_⟩
   simp only [go_sem, AObj.bel, AObj.ren, AV.ren, aB, sg, uU] <;> simp
 have hgek : l.length <= k := by have h9 : ¬ k < l.length := (by simpa using hc2); omega
 refine we ((jt) (k9 ?_))
 have hok : bIv m seq l = true := gE hgek hall
 refine (aj) (wb ?_)
 refine wl (α := Nat × Tops) (fun x => x.1 <= l.length /\ (x.2.map (·.1)).Nodup /\ x.2.length <= 1048576 * i + x.1 /\ wL x.2 (l.drop x.1) = wL m l) (fun x => l.length - x.1) (fun x => ([(1, Ni seq), (5, .ref 0), (13, .sl 1 (ls.map esA)), (14, Ni (ls.length : Int)), (15, Ni (i : Int)), (39, .sl 5 (l.map enA)), (40, Ni (l.length : Int)), (41, Ni (x.1 : Int))], [(0, uU x.2)])) 1 (0, m) ⟨A3 _, hnd, by simpa using hml, rfl⟩ [] ?_ ?_
 . simp only [go_sem, AObj.bel, AObj.ren, uU, Int.natCast_zero] <;> simp
 rintro ⟨k, m2⟩ ⟨hk2, hnd2, hml2, hput⟩
 simp only at hk2 hnd2 hml2 hput ⊢
 refine (aj) ?_
 refine aA fun k19 => (cdB) ?_ ?_ <;> intro hc4
 . have hgek2 : l.length <= k := by have h9 : ¬ k < l.length := (by simpa using hc4); omega
   rw [E5 hgek2] at hput
   have hput2 : m2 = wL m l := hput
   refine we ((jt) ((jt) (k7 ((jw (wiS i og)) ((jt) ?_)))))
   refine ⟨(i + 1, wL m l), ⟨by simp only; omega, aGw l hnd, by have := aRg l m; simp only; omega, by rw [hdrop, rT, if_pos hok] at hgo; exact hgo⟩, by simp only; omega, [], ?_⟩
   rw [hput2]
   simp only [go_sem, AObj.bel, AObj.ren, AV.ren, aB, sg, uU] <;> simp
 have hltk : k < l.length := by simpa using hc4
 obtain ⟨e, he, hdrop2, _⟩ := ix hltk
 refine wk (k19 (aA fun k20 => wb (sr rfl fun k21 => (Am he) ((jr) (k21 ?_)))))
 have hmx2 : m2.length + 1 < maxLen := by have hmx := mxl
                                          omega
 refine wg rfl ((Am he) ?_)
 refine vC (fun hN => aLg (eK := Value.string) (eV := inA) (k := e.key) (z := 0) (m := m2) rfl rfl hN oG (by simp only [go_sem, inA]) bNz (fun a b h => Value.string.inj h) (fun a => trivial) rfl rfl hnd2 rfl rfl) (.inl rfl) ?_
 simp only [go_sem, inA, he, enA]
 refine vC (fun hN => bEx (eK := Value.string) (eV := inA) (k := e.key) (v := max (zZ m2 e.key 0) e.seq) (m := m2) rfl rfl hN oG bNz (fun a b h => Value.string.inj h) (fun a => trivial) rfl rfl hnd2 rfl rfl rfl hmx2) (.inl rfl) ?_
 simp only [go_sem, inA, he, enA]
 refine (jt) (k20 ?_)
 have hwk := wiS k og
 refine wg rfl ((Aa hwk) ((jt) ?_))
 refine ⟨(k + 1, yQ m2 e), ⟨by simp only; omega, aCm hnd2 e, by have := aKz m2 e; simp only; omega, by rw [hdrop2] at hput; exact hput⟩, by simp only; omega, [], ?_⟩
 simp only [go_sem, AObj.bel, AObj.ren, AV.ren, aB, sg, uU, yQ] <;> simp
def aAb (t : Tree) (hs : gL t) : aJ P 41 [trA t] [] 0 (Nb (dP t)) := by
 refine (pq 58 [.tmp 2] func41) ?_
 simp only [trA]
 have hs0 := hs
 obtain ⟨hs1, hs2, hs3⟩ := hs
 have hz1 : cZ t.mem := ⟨by have := hs1.1; omega, fun e he => ⟨by have := (hs1.2 e he).1; omega, by have := (hs1.2 e he).2; omega⟩⟩
 have hzr : ∀ rs ∈ t.levels, aNg rs := fun rs hrs => by
   have h1 := hs2.2 rs hrs
   exact ⟨by have := h1.1; omega, fun r hr => ⟨by have := (h1.2 r hr).1; omega, fun e he => ⟨by have := ((h1.2 r hr).2 e he).1; omega, by have := ((h1.2 r hr).2 e he).2; omega⟩⟩⟩
 have hlz := hs2.1
 refine (aj) ?_
 refine aA fun k2 => (aj) ((cdA) ?_ ?_) <;> intro hc1
 . have hb : qI t = true := hc1
   refine (aj) (wR ?_)
   refine fO ?_ trivial; simp only [go_sem, dP, hb, if_true]
 have hb : qI t = false := hc1
 have h3 : t.levels.length = 3 := by simp at hc1; omega
 refine wk (k2 (aA fun k5 => sr rfl fun k6 => (ja) ((vq func89 (xG t.mem hz1)) ?_)))
 refine vpg rfl rfl rfl rfl rfl rfl ⟨func90, rfl, rfl⟩ (fun hg => aJj t.snaps t.seq og) oG (fun hg => oG) oG trivial ?_
 refine (ja) (k6 ((cdA) ?_ ?_)) <;> intro hc2
 . have hb2 := hc2
   refine (aj) (wR ?_)
   refine fO ?_ trivial; simp only [go_sem, dP, hb, hb2, C4, if_false, if_true]
 have hb2 := hc2
 refine wk (k5 (aA fun k8 => (aj) (wb ?_)))
 refine wa t.levels.length ((fun i : Nat => qK ((t.levels[i]?).getD []) (i : Int))) (fun x => ([(1, .ptr 0 0), (38, .sl 1 (t.levels.map rsA)), (39, Ni (t.levels.length : Int)), (40, Ni (x : Int))], [(0, .cells 27 [Ni t.seq, .sl 5 (t.mem.map enA), .sl 1 (t.levels.map rsA), .sl 1 (t.snaps.map inA)])])) 1 [] ?_ ?_
 . exact Bz
 rintro i ⟨hi, hall⟩
 refine (aj) ?_
 refine aA fun k11 => (cdB) ?_ ?_ <;> intro hc3
 . have hge := gec hc3
   have hlo : aBe t.levels = true := gE hge hall
   have hlay : (lX t.levels t.mem).length <= 4194304 := by have h8 := aXy hs0; omega
   refine we ((jt) (k8 (sd mixed rfl fun k16 => (ja) ?_)))
   refine tp rfl rfl rfl ⟨func93, rfl, rfl⟩ ((bY (aEh t.levels t.mem hs2) (by simp only [go_sem, aFn]) oG : aJ P 93 [.sl 1 (t.levels.map rsA), .sl 5 (t.mem.map enA)] [] 0 (.sl 1 ((lX t.levels t.mem).map esA)))) oG oG ?_
   refine (ja) ?_
   refine tp rfl rfl rfl ⟨func92, rfl, rfl⟩ (aEb (lX t.levels t.mem) t.seq hlay (aOp hs0)) oG oG ?_
   refine (ja) ((jy) (k16 (wR (fO ?_ trivial))))
   simp only [go_sem, dP, hb, hb2, hlo, C4, Bool.true_eq_false, if_false]
 have hlt : i < t.levels.length := by simpa using hc3
 obtain ⟨l, hl, hdrop, hml⟩ := ix hlt
 refine wk (k11 (aA fun k12 => wb (sr rfl fun k13 => (Bb hl) ((jr) (k13 (sr rfl fun k14 => (Bb hl) ?_))))))
 refine vs rfl rfl rfl func91 (aKk l (i : Int) (hzr l hml)) oG oG ?_
 refine (Bb hl) (k14 ((cdA) ?_ ?_)) <;> intro hc4
 . have hp : (fun i : Nat => qK ((t.levels[i]?).getD []) (i : Int)) i = false := by simp only [hl, Option.getD_some]; simpa using hc4
   have hlo : aBe t.levels = false := gZ hlt hp
   refine (aj) (wR ((Ah) ?_))
   refine fO ?_ trivial; simp only [go_sem, dP, hb, hb2, hlo, C4, if_false, if_true]
 have hp : (fun i : Nat => qK ((t.levels[i]?).getD []) (i : Int)) i = true := by simp only [hl, Option.getD_some]; simpa using hc4
 refine wk ((jt) (k12 ((jw (wiS i og)) ((jt) ?_))))
 refine ⟨i + 1, ⟨og, cO hall hp⟩, og, [], ?_⟩
 exact Bf
end Go.Proofs.S
end
section
open Go Go.Abs Go.Proofs Go.Proofs.Tryz
namespace Go.Proofs.S
section
variable {ls : List Run} {r : Run} {e : Entry}
def gU {p : Nat -> Bool} {n : Nat} : (List.range n).all p = true ↔ ∀ i, i < n -> p i = true := by
  rw [C7]
  exact ⟨fun h i hi => h i (List.mem_range.2 hi), fun h i hi => h i (List.mem_range.1 hi)⟩
def lD {α : Type} {ls : List α} {x : α} (h : x ∈ ls) : ∃ i, i < ls.length /\ ls[i]? = some x := by
  obtain ⟨i, hi⟩ := F8 h
  exact ⟨i, (B2.1 hi).1, hi⟩
def iF (ls : List Entry) (seq : Int) : mI ls seq = true ↔ ∀ e ∈ ls, e.seq <= seq := by
  unfold mI; rw [gU]
  constructor
  . intro h e he
    obtain ⟨i, hi, hx⟩ := lD he
    have := h i hi
    unfold qG at this; rw [hx] at this
    simpa using this
  intro h i hi; unfold qG; rw [A1 hi]
  simpa using h _ (C8 hi)
def dI (a b : List Entry) : lK a b = true ↔ ∀ e ∈ a, ∀ f ∈ b, e.key = f.key -> f.seq < e.seq := by
  unfold lK; rw [gU]
  constructor
  . intro h e he f hf hk
    obtain ⟨i, hi, hx⟩ := lD he
    obtain ⟨j, hj, hy⟩ := lD hf
    have := gU.1 (h i hi) j hj
    unfold aGk at this; rw [hx, hy] at this
    simp only [aBp, hk, decide_true, Bool.true_and, Bool.not_eq_true', decide_eq_false_iff_not] at this
    omega
  intro h i hi
  refine gU.2 fun j hj => ?_
  unfold aGk; rw [A1 hi, A1 hj]; simp only [aBp]
  by_cases hk : a[i].key = b[j].key
  . have := h _ (C8 hi) _ (C8 hj) hk
    simp [hk]; omega
  simp [hk]
def zL (ps : List (List Entry)) : aHk ps = true ↔ ps.Pairwise fun a b => lK a b = true := by
  unfold aHk; rw [gU, F9]
  constructor
  . intro h i j hi hj hij
    have := gU.1 (h i hi) (j - (i + 1)) og
    unfold yO at this; rw [show i + 1 + (j - (i + 1)) = j by omega, A1 hi, A1 hj] at this; exact this
  intro h i hi
  refine gU.2 fun d hd => ?_
  unfold yO; rw [A1 hi, A1 (show i + 1 + d < ps.length by omega)]
  exact h i (i + 1 + d) hi og og
def Adj (ls : List Run) : Prop := ∀ i, (h : i + 1 < ls.length) -> Op.bytesLess (aL ls[i]).toList (aI ls[i + 1]).toList = true
def wD {i : Nat} (h : i + 1 < ls.length) : iY ls (i + 1) = ls[i] := by
  unfold iY; rw [Nat.add_sub_cancel, A1 og]; rfl
def lI (ls : List Run) (level : Int) : qK ls level = true ↔ (ls.length : Int) <= aAu level /\ (∀ r ∈ ls, cH r = true) /\ (0 < level -> Adj ls) := by
  unfold qK; split
  . rename_i h
    exact ⟨fun h' => (by cases h'), fun h' => by omega⟩
  rename_i h
  rw [gU]
  constructor
  . intro h'
    refine ⟨og, fun r hr => ?_, fun hl i hi => ?_⟩
    . obtain ⟨i, hi, hx⟩ := lD hr
      exact aXo (h' i hi) hx
    have := h' (i + 1) hi
    unfold wJ at this; rw [A1 hi, wD hi] at this
    simp [hl] at this
    have h1 := this.2
    exact h1
  rintro ⟨h1, h2, h3⟩ i hi
  unfold wJ; rw [A1 hi]; simp only [h2 _ (C8 hi), Bool.true_and]
  by_cases hl : 0 < level
  . cases i with
    | zero => simp
    | succ i =>
      rw [wD hi, h3 hl i hi]
      simp
  simp [hl]
def gS (ls : List Run) (most : Int) (ap : Bool) (seq : Int) : eD ls most ap seq = true ↔ (ls.length : Int) <= most /\ (∀ r ∈ ls, cH r = true /\ mI r.ents seq = true) /\ (ap = true -> Adj ls) := by
  unfold eD; split
  . rename_i h
    exact ⟨fun h' => (by cases h'), fun h' => by omega⟩
  rename_i h
  rw [gU]
  constructor
  . intro h'
    refine ⟨og, fun r hr => ?_, fun hl i hi => ?_⟩
    . obtain ⟨i, hi, hx⟩ := lD hr
      have := h' i hi
      unfold nY at this; rw [hx] at this; simp at this
      exact this.1
    have := h' (i + 1) hi
    unfold nY at this; rw [A1 hi, wD hi] at this
    simp [hl] at this
    exact this.2
  rintro ⟨h1, h2, h3⟩ i hi
  unfold nY; rw [A1 hi]
  obtain ⟨k1, k2⟩ := h2 _ (C8 hi)
  simp only [k1, k2, Bool.not_true, Bool.or_false, Bool.not_false, Bool.true_and]
  by_cases hl : ap = true
  . cases i with
    | zero => simp
    | succ i =>
      rw [wD hi, h3 hl i hi]
      simp
  simp [hl]
def aIv (s : Int) (k : ByteArray) : ∀ (l : List Entry) (m : Tops), zZ (wL m l) k 0 < s ↔ zZ m k 0 < s /\ ∀ e ∈ l, e.key = k -> e.seq < s
  | [], m => by simp [wL]
  | e :: r, m => by
    have ih := aIv s k r (yQ m e)
    unfold wL at ih ⊢
    rw [List.foldl_cons, ih]; unfold yQ; rw [aQw]
    by_cases hk : e.key = k
    . subst hk; rw [if_pos rfl]
      constructor
      . rintro ⟨h1, h2⟩
        refine ⟨og, fun f hf hfk => ?_⟩
        rcases A7.1 hf with rfl | hf
        . omega
        exact h2 f hf hfk
      rintro ⟨h1, h2⟩
      have h3 := h2 e A2 rfl
      exact ⟨og, fun f hf => h2 f (A5 _ hf)⟩
    rw [if_neg hk]
    constructor
    . rintro ⟨h1, h2⟩
      refine ⟨h1, fun f hf hfk => ?_⟩
      rcases A7.1 hf with rfl | hf
      . exact absurd hfk hk
      exact h2 f hf hfk
    rintro ⟨h1, h2⟩
    exact ⟨h1, fun f hf => h2 f (A5 _ hf)⟩
def aUt (m : Tops) (seq : Int) (l : List Entry) : bIv m seq l = true ↔ ∀ e ∈ l, e.seq <= seq /\ zZ m e.key 0 < e.seq := by
  unfold bIv; rw [gU]
  constructor
  . intro h e he
    obtain ⟨i, hi, hx⟩ := lD he
    have := h i hi
    unfold aXb at this; rw [hx] at this; simp at this; omega
  intro h i hi; unfold aXb; rw [A1 hi]
  have := h _ (C8 hi)
  simp
  omega
def aBh (seq : Int) : ∀ (ls : List (List Entry)) (m : Tops), rT seq m ls = true ↔ (∀ l ∈ ls, ∀ e ∈ l, e.seq <= seq /\ zZ m e.key 0 < e.seq) /\ ls.Pairwise fun a b => lK b a = true
  | [], m => by simp [rT]
  | l :: r, m => by
    unfold rT; rw [List.pairwise_cons]; split
    . rename_i h
      have h0 := (aUt m seq l).1 h
      rw [aBh seq r (wL m l)]
      constructor
      . rintro ⟨h1, h2⟩
        refine ⟨fun l' hl' e he => ?_, fun b hb => (dI b l).2 fun e he f hf hk => ?_, h2⟩
        . rcases A7.1 hl' with rfl | hl'
          . exact h0 e he
          have h3 := h1 l' hl' e he
          exact ⟨h3.1, ((aIv _ _ _ _).1 h3.2).1⟩
        have h3 := (h1 b hb e he).2
        exact ((aIv _ _ _ _).1 h3).2 f hf hk.symm
      rintro ⟨h1, h2, h3⟩
      refine ⟨fun l' hl' e he => ?_, h3⟩
      have h4 := h1 l' (A5 _ hl') e he
      exact ⟨h4.1, (aIv _ _ _ _).2 ⟨h4.2, fun f hf hfk => (dI l' l).1 (h2 l' hl') e he f hf hfk.symm⟩⟩
    rename_i h
    refine ⟨fun h' => (by cases h'), fun h' => absurd ((aUt m seq l).2 fun e he => h'.1 l A2 e he) h⟩
def aIz {a b : Entry} (h : entLt a b = true) : Op.bytesLess b.key.toList a.key.toList = false := by
  have := aGv h
  simp only [entLt, Bool.or_eq_false_iff] at this
  exact this.1
def uL (h : cH r = true) (he : e ∈ r.ents) : Op.bytesLess e.key.toList (aI r).toList = false /\ Op.bytesLess (aL r).toList e.key.toList = false := by
  have hl := gI h
  simp only [cH, B7] at h
  have hp := F9.1 (qP h.1.2)
  obtain ⟨i, hi, hx⟩ := lD he
  rw [A1 hi] at hx; cases hx
  refine ⟨?_, ?_⟩
  . unfold aI; rw [A1 og]; simp only [Option.getD_some]
    by_cases h0 : i = 0
    . subst h0; exact bR _
    exact aIz (hp 0 i og hi og)
  unfold aL; rw [A1 og]; simp only [Option.getD_some]
  by_cases h0 : i = r.ents.length - 1
  . subst h0; exact bR _
  exact aIz (hp i (r.ents.length - 1) hi og og)
def lP {x y z : List UInt8} (h1 : Op.bytesLess x y = true) (h2 : Op.bytesLess z y = false) : Op.bytesLess x z = true := by
  cases h3 : Op.bytesLess x z with
  | true => rfl
  | false => have := wE x z y h3 h2; rw [h1] at this; cases this
def rO {x y z : List UInt8} (h1 : Op.bytesLess y x = false) (h2 : Op.bytesLess y z = true) : Op.bytesLess x z = true := by
  cases h3 : Op.bytesLess x z with
  | true => rfl
  | false => have := wE y x z h1 h3; rw [h2] at this; cases this
def aEd (h : cH r = true) : Op.bytesLess (aL r).toList (aI r).toList = false := by
  have hl := gI h
  have hm : r.ents[0] ∈ r.ents := C8 og
  have h1 := uL h hm
  exact wE _ _ _ h1.2 h1.1
def aIi (h : Adj ls) (hr : ∀ r ∈ ls, cH r = true) : ls.Pairwise fun a b => Op.bytesLess (aL a).toList (aI b).toList = true := by
  refine F9.2 fun i j hi hj hij => ?_
  obtain ⟨d, rfl⟩ : ∃ d, j = i + 1 + d := ⟨j - (i + 1), og⟩
  clear hij
  induction d with
  | zero => exact h i hj
  | succ d ih =>
    have h1 := ih og
    have h2 := h (i + 1 + d) og
    have h3 := aEd (hr _ (C8 (show i + 1 + d < ls.length by omega)))
    exact rR _ _ _ (lP h1 h3) h2
def zA (h : Adj ls) (hr : ∀ r ∈ ls, cH r = true) : (ls.map Run.ents).Pairwise fun a b => lK b a = true := by
  rw [List.pairwise_map]
  refine List.Pairwise.imp_of_mem (fun {a b} ha hb hab => ?_) (aIi h hr)
  refine (dI _ _).2 fun e he f hf hk => ?_
  have h1 := (uL (hr b hb) he).1
  have h2 := (uL (hr a ha) hf).2
  have h3 := rO h2 (lP hab h1)
  rw [hk, bR] at h3; cases h3
def gR (a : List Entry) (rs : List Run) : lK a (aH rs) = true ↔ ∀ r ∈ rs, lK a r.ents = true := by
  rw [dI]
  constructor
  . intro h r hr
    exact (dI _ _).2 fun e he f hf => h e he f (List.mem_flatMap.2 ⟨r, hr, hf⟩)
  intro h e he f hf
  obtain ⟨r, hr, hf⟩ := List.mem_flatMap.1 hf
  exact (dI _ _).1 (h r hr) e he f hf
def aLx (a : List Entry) (rs : List Run) : lK (aH rs) a = true ↔ ∀ r ∈ rs, lK r.ents a = true := by
  rw [dI]
  constructor
  . intro h r hr
    exact (dI _ _).2 fun e he f hf => h e (List.mem_flatMap.2 ⟨r, hr, he⟩) f hf
  intro h e he f hf
  obtain ⟨r, hr, he⟩ := List.mem_flatMap.1 he
  exact (dI _ _).1 (h r hr) e he f hf
def bBd (h : cH r = true) (he : e ∈ r.ents) : 0 < e.seq := by
  simp only [cH, B7] at h
  obtain ⟨i, hi, hx⟩ := lD he
  have := (C7.1 h.1.2) i (List.mem_range.2 hi)
  unfold zX at this; rw [hx] at this; simp at this
  have := gP this.1
  omega
def bLf {ls : List Entry} (h : cD ls = true) (he : e ∈ ls) : 0 < e.seq := by
  obtain ⟨i, hi, hx⟩ := lD he
  have := (C7.1 h) i (List.mem_range.2 hi)
  unfold zX at this; rw [hx] at this; simp at this
  have := gP this.1
  omega
def aYn (L0 L1 L2 : List Run) (mem : List Entry) (h1 : Adj L1) (r1 : ∀ r ∈ L1, cH r = true) (h2 : Adj L2) (r2 : ∀ r ∈ L2, cH r = true) :
    ((mem :: (L0.reverse.map Run.ents ++ [aH L1, aH L2])).Pairwise fun a b => lK a b = true) ↔ (((L2.map Run.ents ++ (L1.map Run.ents ++ L0.map Run.ents)) ++ [mem]).Pairwise fun a b => lK b a = true) := by
  have e0 : ∀ (ls : List Run) (φ : List Entry -> Prop), (∀ x ∈ ls.map Run.ents, φ x) ↔ ∀ r ∈ ls, φ r.ents := fun ls φ =>
    ⟨fun h r hr => h _ (D2 hr), fun h x hx => by obtain ⟨r, hr, rfl⟩ := A9.1 hx; exact h r hr⟩
  have e1 : (L0.reverse.map Run.ents).Pairwise (fun a b => lK a b = true) ↔ (L0.map Run.ents).Pairwise (fun a b => lK b a = true) := by
    rw [List.map_reverse, List.pairwise_reverse]
  simp only [List.pairwise_cons, List.pairwise_append, A6, A7, List.not_mem_nil, or_false, e1, List.Pairwise.nil, List.Pairwise.nil, forall_eq, forall_eq_or_imp, false_implies, implies_true, and_true, true_and]
  have a1 := zA h1 r1
  have a2 := zA h2 r2
  constructor
  . rintro ⟨k1, k2, k3, k4⟩
    refine ⟨⟨a2, ⟨a1, k2, fun x hx y hy => ?_⟩, fun x hx y hy => ?_⟩, fun x hx => ?_⟩
    . obtain ⟨r, hr, rfl⟩ := A9.1 hx
      obtain ⟨s, hs, rfl⟩ := A9.1 hy
      exact (gR _ _).1 (k4 s.ents (D2 (List.mem_reverse.2 hs))).1 r hr
    . obtain ⟨r, hr, rfl⟩ := A9.1 hx
      rcases hy with hy | hy
      . obtain ⟨s, hs, rfl⟩ := A9.1 hy
        exact (gR _ _).1 ((aLx _ _).1 k3 s hs) r hr
      obtain ⟨s, hs, rfl⟩ := A9.1 hy
      exact (gR _ _).1 (k4 s.ents (D2 (List.mem_reverse.2 hs))).2 r hr
    rcases hx with hx | hx | hx
    . obtain ⟨r, hr, rfl⟩ := A9.1 hx
      exact (gR _ _).1 (k1 _ (.inr (.inr rfl))) r hr
    . obtain ⟨r, hr, rfl⟩ := A9.1 hx
      exact (gR _ _).1 (k1 _ (.inr (.inl rfl))) r hr
    obtain ⟨r, hr, rfl⟩ := A9.1 hx
    exact k1 _ (.inl (D2 (List.mem_reverse.2 hr)))
  rintro ⟨⟨k1, ⟨k2, k3, k4⟩, k5⟩, k6⟩
  refine ⟨fun x hx => ?_, k3, ?_, fun x hx => ?_⟩
  . rcases hx with hx | rfl | rfl
    . obtain ⟨r, hr, rfl⟩ := A9.1 hx
      exact k6 _ (.inr (.inr (D2 (List.mem_reverse.1 hr))))
    . exact (gR _ _).2 fun r hr => k6 _ (.inr (.inl (D2 hr)))
    exact (gR _ _).2 fun r hr => k6 _ (.inl (D2 hr))
  . exact (aLx _ _).2 fun s hs => (gR _ _).2 fun r hr => k5 _ (D2 hr) _ (.inl (D2 hs))
  obtain ⟨s, hs, rfl⟩ := A9.1 hx
  have hs' := List.mem_reverse.1 hs
  exact ⟨(gR _ _).2 fun r hr => k4 _ (D2 hr) _ (D2 hs'), (gR _ _).2 fun r hr => k5 _ (D2 hr) _ (.inr (D2 hs'))⟩
def zO (t : Tree) : dP t = dE t := by
  rw [Bool.eq_iff_iff]
  by_cases h3 : t.levels.length = 3
  . obtain ⟨L0, L1, L2, hL⟩ : ∃ a b c, t.levels = [a, b, c] := by
      match hl : t.levels, h3 with
      | [a, b, c], _ => exact ⟨a, b, c, rfl⟩
    have v0 : lv t 0 = L0 := by unfold lv; rw [hL]; rfl
    have v1 : lv t 1 = L1 := by unfold lv; rw [hL]; rfl
    have v2 : lv t 2 = L2 := by unfold lv; rw [hL]; rfl
    have hp : dF t = t.mem :: (L0.reverse.map Run.ents ++ [aH L1, aH L2]) := by unfold dF; rw [hL]; rfl
    have hlay : lX t.levels t.mem = (L2.map Run.ents ++ (L1.map Run.ents ++ L0.map Run.ents)) ++ [t.mem] := by unfold lX; rw [hL]; simp
    have hlv : aBe t.levels = true ↔ qK L0 0 = true /\ qK L1 1 = true /\ qK L2 2 = true := by
      unfold aBe; rw [gU, hL]
      constructor
      . intro h; exact ⟨h 0 oS, h 1 oS, h 2 oS⟩
      rintro ⟨a, b, c⟩ i hi
      match i, hi with
      | 0, _ => exact a
      | 1, _ => exact b
      | 2, _ => exact c
    unfold dP dE qI qE; rw [v0, v1, v2, hp, hlay]
    constructor
    . intro h; split at h
      . cases h
      rename_i hb
      split at h
      . cases h
      rename_i hb2
      split at h
      . cases h
      rename_i hb3
      have hb3' := hlv.1 (by simpa using hb3)
      obtain ⟨l0, l1, l2⟩ := hb3'
      obtain ⟨a0, b0, -⟩ := (lI _ _).1 l0
      obtain ⟨a1, b1, c1⟩ := (lI _ _).1 l1
      obtain ⟨a2, b2, c2⟩ := (lI _ _).1 l2
      obtain ⟨n1, n2⟩ := (aBh _ _ _).1 h
      have hw : ∀ x, x ∈ (L2.map Run.ents ++ (L1.map Run.ents ++ L0.map Run.ents)) ++ [t.mem] -> mI x t.seq = true := fun x hx => (iF _ _).2 fun e he => (n1 x hx e he).1
      have hwm := hw t.mem oS
      have w0 : ∀ r ∈ L0, mI r.ents t.seq = true := fun r hr => hw _ (by simp; exact .inr (.inr (.inl ⟨r, hr, rfl⟩)))
      have w1 : ∀ r ∈ L1, mI r.ents t.seq = true := fun r hr => hw _ (by simp; exact .inr (.inl ⟨r, hr, rfl⟩))
      have w2 : ∀ r ∈ L2, mI r.ents t.seq = true := fun r hr => hw _ (by simp; exact .inl ⟨r, hr, rfl⟩)
      rw [if_neg (by simp only [hwm]; simp at hb hb2 ⊢; simp [hb2, h3]; omega)]
      simp only [B7]
      exact ⟨⟨⟨(gS _ _ _ _).2 ⟨a0, fun r hr => ⟨b0 r hr, w0 r hr⟩, fun h => (by cases h)⟩, (gS _ _ _ _).2 ⟨a1, fun r hr => ⟨b1 r hr, w1 r hr⟩, fun _ => c1 og⟩⟩, (gS _ _ _ _).2 ⟨a2, fun r hr => ⟨b2 r hr, w2 r hr⟩, fun _ => c2 og⟩⟩, (zL _).2 ((aYn L0 L1 L2 t.mem (c1 og) b1 (c2 og) b2).2 n2)⟩
    intro h; split at h
    . cases h
    rename_i hb
    simp only [B7] at h
    obtain ⟨⟨⟨l0, l1⟩, l2⟩, ha⟩ := h
    obtain ⟨a0, b0, -⟩ := (gS _ _ _ _).1 l0
    obtain ⟨a1, b1, c1⟩ := (gS _ _ _ _).1 l1
    obtain ⟨a2, b2, c2⟩ := (gS _ _ _ _).1 l2
    simp at hb
    have hm : cD t.mem = true := by simp [hb]
    have hs : eO t.snaps t.seq = true := by simp [hb]
    have hwm : mI t.mem t.seq = true := by simp [hb]
    rw [if_neg (by simp; omega), if_neg (by simp [hm, hs]), if_neg (by
      rw [Bool.not_eq_false]
      exact hlv.2 ⟨(lI _ _).2 ⟨a0, fun r hr => (b0 r hr).1, fun h => by omega⟩, (lI _ _).2 ⟨a1, fun r hr => (b1 r hr).1, fun _ => c1 rfl⟩, (lI _ _).2 ⟨a2, fun r hr => (b2 r hr).1, fun _ => c2 rfl⟩⟩)]
    refine (aBh _ _ _).2 ⟨fun x hx e he => ?_, (aYn L0 L1 L2 t.mem (c1 rfl) (fun r hr => (b1 r hr).1) (c2 rfl) (fun r hr => (b2 r hr).1)).1 ((zL _).1 ha)⟩
    rw [bHt]
    simp only [A6, A9, B4] at hx
    rcases hx with (⟨r, hr, rfl⟩ | ⟨r, hr, rfl⟩ | ⟨r, hr, rfl⟩) | rfl
    . exact ⟨(iF _ _).1 (b2 r hr).2 e he, bBd (b2 r hr).1 he⟩
    . exact ⟨(iF _ _).1 (b1 r hr).2 e he, bBd (b1 r hr).1 he⟩
    . exact ⟨(iF _ _).1 (b0 r hr).2 e he, bBd (b0 r hr).1 he⟩
    exact ⟨(iF _ _).1 hwm e he, bLf hm he⟩
  . have h1 : dP t = false := by
      unfold dP qI; rw [if_pos]; simp; omega
    have h2 : dE t = false := by
      unfold dE qE; rw [if_pos]; simp; omega
    rw [h1, h2]
end
def bFg (x y : ByteArray) : aBc y x = - aBc x y := by
  unfold aBc
  by_cases h : Op.bytesLess x.toList y.toList = true
  . rw [if_pos h, if_pos h, xF h]; rfl
  rw [if_neg h, if_neg h]; split <;> rfl
def bFo (x y : Int) : aIb y x = - aIb x y := by
  unfold aIb; repeat' split
  all_goals omega
def aXp (a b : Entry) : tP b a = - tP a b := by
  unfold tP; rw [bFg a.key b.key, bFo b.seq a.seq]
  repeat' split
  all_goals omega
def hdA (p : List Entry × Nat) : AV := .agg [.sl 5 (p.1.map enA), .raw (.int .i64 (p.2 : Int))]
def aDe (U : Nat -> Prop) (p : List Entry × Nat) : (hdA p).bel U := ⟨enB _ _, trivial, trivial⟩
def bKs (σ : Nat -> Nat) (p : List Entry × Nat) : (hdA p).ren σ = hdA p := AV.ren_closed σ (aDe _ p)
attribute [go_sem] aDe bKs
def aYo (U : Nat -> Prop) (g : Nat -> List Entry × Nat) (n : Nat) : aK U ((List.range n).map fun k => hdA (g k)) := by
  rw [bLi]; intro x hx; obtain ⟨k, _, rfl⟩ := A9.1 hx; exact aDe U _
def bKp (s : Nat -> Nat) (g : Nat -> List Entry × Nat) (n : Nat) : aB s ((List.range n).map fun k => hdA (g k)) = (List.range n).map fun k => hdA (g k) := dN s (aYo _ g n)
attribute [go_sem] aYo bKp
def bPi : P.concrete 76 = true := kr
def bOc : P.concrete 78 = true := kr
def uPH : P.underlying 78 = some (.pointer 72) := kr
attribute [go_sem] bPi bOc uPH
def NE (g : Nat -> List Entry × Nat) (n : Nat) : Prop := ∀ k, k < n -> (g k).1 ≠ []
def NE.swp {g : Nat -> List Entry × Nat} {n i j : Nat} (h : NE g n) (hi : i < n) (hj : j < n) : NE (Plain.swpA g i j) n := fun k hk => by
  unfold Plain.swpA; split
  . exact h j hj
  split
  . exact h i hi
  exact h k hk
end Go.Proofs.S
end
section
open Go Go.Abs Go.Proofs Go.Proofs.Tryz
open Go.Plain (pU mergeAll aUm iX mV wU)
namespace Go.Proofs.S
def aQv (U : Nat -> Prop) (ls : List (List Entry × Nat)) : aK U (ls.map hdA) := pW (f := hdA) (fun _ _ => aDe _ _) U ls
def bFm (σ : Nat -> Nat) (ls : List (List Entry × Nat)) : aB σ (ls.map hdA) = ls.map hdA := dN σ (aQv _ ls)
attribute [go_sem] aQv bFm
end Go.Proofs.S
end
section
open Go Go.Abs Go.Proofs Go.Proofs.Tryz
namespace Go.Proofs.S
def bFi (ls : List Entry) : (AObj.row 43 5 (ls.map enA)).noFz = true := by
  show rW (ls.map enA) = true
  induction ls with
  | nil => rfl
  | cons a r ih => rw [List.map_cons, rW, ih]; rfl
def yE (ls : List Entry) (hz : cZ ls) : aJ P 56 [.sl 5 (ls.map enA)] [] 0 (Nb (isB ls)) := by
 refine (pq 40 [.tmp 2] func56) ?_
 have hlen := hz.1
 refine (aj) ?_
 refine aA fun k2 => (aj) ((cdA) ?_ ?_) <;> intro hc1
 . have hlb : (decide (1 <= (ls.length : Int)) && decide ((ls.length : Int) <= 12)) = false := by simp at hc1 ⊢; omega
   have h9 : isB ls = false := by unfold isB; rw [hlb, Bool.and_false]
   exact (aj) (wR (fq h9))
 have hlb : (decide (1 <= (ls.length : Int)) && decide ((ls.length : Int) <= 12)) = true := by simp at hc1 ⊢; omega
 refine wk (k2 (aA fun k5 => (aj) (wb ?_)))
 refine wa ls.length (jA ls) (fun x => ([(0, .sl 5 (ls.map enA)), (13, .sl 5 (ls.map enA)), (14, Ni (ls.length : Int)), (15, Ni (x : Int))], [])) 0 [] ?_ ?_
 . exact jc
 rintro i ⟨hi, hall⟩
 refine (aj) ?_
 refine aA fun k8 => (cdB) ?_ ?_ <;> intro hc2
 . have hge := gec hc2
   refine we ((jt) (k5 ((aj) (wR ?_))))
   have h9 : isB ls = true := by unfold isB; rw [gE hge hall, hlb]; rfl
   exact fq h9
 obtain ⟨hlt, l, hl, hdrop, hml⟩ := ixc hc2
 have hw1 := wr ((i : Int) - 1) ((i : Int) - 1) og
 have hpn : ((i : Int) - 1).toNat = i - 1 := by omega
 have hpv : ls[i - 1]? = some (cB ls i) := by unfold cB; rw [A1 og]; rfl
 refine wk (k8 (aA fun k9 => wb (sr rfl fun k10 => (Am hl) ((jr) (k10 (sd mixed rfl fun k11 => (Aw hl hw1 hpn hpv) ((jr) ?_)))))))
 refine tp rfl rfl rfl ⟨func108, rfl, rfl⟩ (xW l (hz.2 l hml)) Af Af ?_
 refine (Aw hl hw1 hpn hpv) ((jr) ((jy) (k11 ((cdA) ?_ ?_)))) <;> intro hc3
 . have hp : jA ls i = false := by unfold jA; rw [hl]; simp only [hc3]; rfl
   refine (aj) (wR ((Ah) ?_))
   have h9 : isB ls = false := by unfold isB; rw [gZ hlt hp]; rfl
   exact fq h9
 have hp : jA ls i = true := by unfold jA; rw [hl]; simp only [hc3]; rfl
 refine wk ((jt) (k9 ((jw (wiS i og)) ((jt) ?_))))
 refine ⟨i + 1, ⟨og, cO hall hp⟩, og, [], ?_⟩
 exact jo
def aMh (r : Run) (hs : r.ents.length <= 1048576) : aP P 149 [rA r] [] 0 (.agg [.ref 0, Ni r.mask]) [(0, .row 43 5 (r.ents.map enA))] 1 := by
 refine (gq 9 [.cell 2 105] func149) ?_
 simp only [rA]
 have hmx := mxl
 refine (aj) ?_
 refine sd mixed rfl fun k2 => (Cb) ((jr) ((jy) (k2 (wR ?_))))
 refine ⟨[(0, 2)], ?_⟩
 exact jz
def qZ (ls : List (List Run)) (hs : aIc ls) : aP P 115 [.sl 1 (ls.map rsA)] [] 0 (.ref 0) [(0, .row 102 1 (ls.map rsO))] 1 := by
 refine (gq 33 [.tmp 2] func115) ?_
 have hmx := mxl
 have hlen := hs.1
 refine (aj) ((aj) ?_)
 refine aA fun k3 => (aj) (wb ?_)
 refine nC (t := 3) 102 1 rfl dg ?_
 refine (ja) ?_
 refine wn ls.length (fun x => ([(3, .ref 0), (9, .sl 1 (ls.map rsA)), (10, Ni (ls.length : Int)), (11, Ni (x : Int))], [(0, .row 102 1 ((ls.take x).map rsO))])) 1 [] ?_ ?_
 . exact Ca
 rintro i hi
 refine (aj) ?_
 refine aA fun k6 => (cdB) ?_ ?_ <;> intro hc1
 . have hge := gec hc1
   refine we ((jt) (k3 ((aj) (wR ?_))))
   have hie : i = ls.length := by omega
   subst hie; rw [E9]; refine ⟨[], ?_⟩; exact Bf
 obtain ⟨hlt, l, hl, hdrop, hml⟩ := ixc hc1
 have hsl := hs.2 l hml
 have hll := hsl.1
 refine wk (k6 (aA fun k7 => wb (sr rfl fun k8 => (Bb hl) ((jr) (k8 ((aj) ?_))))))
 refine aA fun k10 => sr rfl fun k11 => ?_
 simp only [go_sem, rsA]
 refine k11 (wb ?_)
 refine nC (t := 6) 105 2 rfl dg ?_
 refine (ja) ?_
 refine wn l.length (fun x => ([(3, .ref 0), (6, .ref 1), (9, .sl 1 (ls.map rsA)), (10, Ni (ls.length : Int)), (11, Ni (i : Int)), (15, .sl 2 (l.map rA)), (16, Ni (l.length : Int)), (17, Ni (x : Int))], [(0, .row 102 1 ((ls.take i).map rsO)), (1, .row 105 2 ((l.take x).map runOwn))])) 2 [] ?_ ?_
 . exact Ca
 rintro k hk
 refine (aj) ?_
 refine aA fun k13 => (cdB) ?_ ?_ <;> intro hc2
 . have hgek : l.length <= k := by have h9 : ¬ k < l.length := (by simpa using hc2); omega
   refine we ((jt) (k10 ?_))
   have hfull : l.take k = l := List.take_of_length_le og
   refine wg rfl ((Dc hfull) ((jr) ((jt) (k7 ?_))))
   have hw := wiS i og
   have htl : List.take i (List.map rsO ls) ++ [AV.own 105 2 (List.map runOwn l)] = List.take (i + 1) (List.map rsO ls) := by rw [<- E3, <- E3]; exact aEg hl
   refine wg rfl ((Aa hw) ((jt) ?_))
   refine ⟨i + 1, og, og, [(0, 3)], ?_⟩
   simp only [go_sem, AObj.bel, AObj.ren, AV.ren, aB, sg, Int.natCast_zero] <;> simp
   exact htl
 have hltk : k < l.length := by simpa using hc2
 obtain ⟨r, hr, _, hmr⟩ := ix hltk
 have hrl := (hsl.2 r hmr).1
 refine wk (k13 (aA fun k14 => wb (sr rfl fun k15 => (Ao hr) ((jr) (k15 (wg rfl ((Cb) ((jr) ?_))))))))
 refine vn 1 rfl rfl rfl ⟨func149, rfl, rfl⟩ (aMh r hrl) Ag Ag oS dg ?_
 simp only [go_sem, AV.ren, AObj.ren, aB, shift, sg, A0, Nat.add_zero, Nat.sub_self, B3, A4, List.nil_append, A8, H5, B1]
 refine (jr) ((jt) (k14 ?_))
 have hwk := wiS k og
 have htk : List.take k (List.map runOwn l) ++ [AV.agg [AV.own 43 5 (List.map enA r.ents), AV.raw (Value.int IntKind.i64 r.mask)]] = List.take (k + 1) (List.map runOwn l) := by rw [<- E3, <- E3]; exact aHn hr
 refine wg rfl ((Aa hwk) ((jt) ?_))
 refine ⟨k + 1, og, og, [(1, 5)], ?_⟩
 simp only [go_sem, AObj.bel, AObj.ren, AV.ren, aB, sg, Int.natCast_zero] <;> simp
 exact htk
def aDi (t : Tree) (hs : gL t) : aP P 107 [trA t] [] 0 (.agg [Ni t.seq, .ref 0, .ref 1, .ref 2]) [(0, .row 43 5 (t.mem.map enA)), (1, .row 102 1 (t.levels.map rsO)), (2, .row 3 1 (t.snaps.map inA))] 3 := by
 refine (gq 15 [.cell 2 27] func107) ?_
 simp only [trA]
 have hmx := mxl
 obtain ⟨⟨hs1, _⟩, hs2, hs3⟩ := hs
 refine (aj) ?_
 refine sd mixed rfl fun k2 => (Cb) ((jr) ?_)
 refine tn 1 rfl rfl rfl ⟨func115, rfl, rfl⟩ (qZ t.levels hs2) oG oG oS dg ?_
 refine (jn) ((jr) ((jy) (k2 (wR ?_))))
 refine ⟨[(0, 2), (1, 3), (2, 4)], ?_⟩
 exact jz
def aVi {x y : Entry} (h1 : entLt x y = false) (h2 : entLt y x = false) : x.seq = y.seq := by
  rw [<- uN] at h1 h2
  rw [aXp x y] at h2
  simp at h1 h2
  have h0 : tP x y = 0 := by omega
  unfold tP at h0; split at h0
  . rename_i h; exact absurd h0 h
  unfold aIb at h0; split at h0
  . omega
  split at h0
  . omega
  omega
def aWh (seq : Int) : ∀ (r : List Entry) (i : Nat) (out : List Entry), out.length = i -> (∀ (k : Nat) (d : Entry), out[k]? = some d -> d.seq = seq + 1 + k) -> ∀ (k : Nat) (d : Entry), (uG seq r i out).1[k]? = some d -> d.seq = seq + 1 + k
  | [], i, out, _, h => h
  | e :: r, i, out, hi, h => by
    unfold uG; split
    . split
      . refine aWh seq r (i + 1) _ (by simp [hi]) fun k d hk => ?_
        by_cases hlt : k < out.length
        . rw [G3 hlt] at hk; exact h k d hk
        rw [G4 og] at hk
        have h0 : k - out.length = 0 := by
          have := (B2.1 hk).1
          simp at this; omega
        rw [h0] at hk; cases hk
        have : k = i := by omega
        subst this; rfl
      exact h
    exact h
end Go.Proofs.S
end
section
open Go.Shelf
namespace Go.Proofs
def Tryz.lays137_ren : Go.Shelf.Ren := ⟨fun | 137 => 155 | 217 => 174 | 266 => 192 | n => n, fun | 9 => 9 | 5 => 5 | 3 => 3 | n => n, fun | n => n⟩
theorem Tryz.lays137 : Go.Proofs.Lays.n137 Tryz.prog Tryz.lays137_ren := {
  mixed := by kernel_rfl
  f137 := Tryz.func155.trans (congrArg some (by kernel_rfl))
  f217 := Tryz.func174.trans (congrArg some (by kernel_rfl))
  f266 := Tryz.func192.trans (congrArg some (by kernel_rfl))
  t3 := Tryz.underlying3
  a3 := Tryz.isAgg3
  z3 := Tryz.sizeOf3
  v3 := Tryz.zeroValue3
  t5 := Tryz.underlying5
  a5 := Tryz.isAgg5
  z5 := Tryz.sizeOf5
  v5 := Tryz.zeroValue5
  t9 := Tryz.underlying9
  a9 := Tryz.isAgg9
  z9 := Tryz.sizeOf9
  v9 := Tryz.zeroValue9 }
def Tryz.laysM171_ren : Go.Shelf.Ren := ⟨fun | 171 => 58 | 243 => 110 | 246 => 143 | 283 => 160 | 284 => 161 | 285 => 162 | 286 => 163 | 129 => 183 | 317 => 182 | 318 => 184 | 319 => 185 | 320 => 186 | 337 => 196 | 338 => 197 | n => n, fun | 3 => 3 | 9 => 9 | 2 => 2 | 4 => 4 | 171 => 182 | 0 => 0 | 53 => 183 | 37 => 22 | 5 => 5 | 173 => 186 | 212 => 205 | 51 => 206 | 20 => 20 | 213 => 207 | 46 => 181 | 232 => 225 | 233 => 226 | n => n, fun | 17 => 0 | 18 => 4 | 19 => 5 | n => n⟩
theorem Tryz.laysM171 : Go.Proofs.LaysM.n171 Tryz.prog Tryz.laysM171_ren := {
  mixed := by kernel_rfl
  f129 := Tryz.func183.trans (congrArg some (by kernel_rfl))
  f171 := Tryz.func58.trans (congrArg some (by kernel_rfl))
  f243 := Tryz.func110.trans (congrArg some (by kernel_rfl))
  f246 := Tryz.func143.trans (congrArg some (by kernel_rfl))
  f283 := Tryz.func160.trans (congrArg some (by kernel_rfl))
  f284 := Tryz.func161.trans (congrArg some (by kernel_rfl))
  f285 := Tryz.func162.trans (congrArg some (by kernel_rfl))
  f286 := Tryz.func163.trans (congrArg some (by kernel_rfl))
  f317 := Tryz.func182.trans (congrArg some (by kernel_rfl))
  f318 := Tryz.func184.trans (congrArg some (by kernel_rfl))
  f319 := Tryz.func185.trans (congrArg some (by kernel_rfl))
  f320 := Tryz.func186.trans (congrArg some (by kernel_rfl))
  f337 := Tryz.func196.trans (congrArg some (by kernel_rfl))
  f338 := Tryz.func197.trans (congrArg some (by kernel_rfl))
  t0 := Tryz.underlying0
  a0 := Tryz.isAgg0
  z0 := Tryz.sizeOf0
  v0 := Tryz.zeroValue0
  t2 := Tryz.underlying2
  a2 := Tryz.isAgg2
  z2 := Tryz.sizeOf2
  v2 := Tryz.zeroValue2
  t3 := Tryz.underlying3
  a3 := Tryz.isAgg3
  z3 := Tryz.sizeOf3
  v3 := Tryz.zeroValue3
  t4 := Tryz.underlying4
  a4 := Tryz.isAgg4
  z4 := Tryz.sizeOf4
  v4 := Tryz.zeroValue4
  t5 := Tryz.underlying5
  a5 := Tryz.isAgg5
  z5 := Tryz.sizeOf5
  v5 := Tryz.zeroValue5
  t9 := Tryz.underlying9
  a9 := Tryz.isAgg9
  z9 := Tryz.sizeOf9
  v9 := Tryz.zeroValue9
  t20 := Tryz.underlying20
  a20 := Tryz.isAgg20
  z20 := Tryz.sizeOf20
  v20 := Tryz.zeroValue20
  t37 := Tryz.underlying22
  a37 := Tryz.isAgg22
  z37 := Tryz.sizeOf22
  v37 := Tryz.zeroValue22
  t46 := Tryz.underlying181
  a46 := Tryz.isAgg181
  z46 := Tryz.sizeOf181
  v46 := Tryz.zeroValue181
  t51 := Tryz.underlying206
  a51 := Tryz.isAgg206
  z51 := Tryz.sizeOf206
  v51 := Tryz.zeroValue206
  t53 := Tryz.underlying183
  a53 := Tryz.isAgg183
  z53 := Tryz.sizeOf183
  v53 := Tryz.zeroValue183
  t171 := Tryz.underlying182
  a171 := Tryz.isAgg182
  z171 := Tryz.sizeOf182
  v171 := Tryz.zeroValue182
  t173 := Tryz.underlying186
  a173 := Tryz.isAgg186
  z173 := Tryz.sizeOf186
  v173 := Tryz.zeroValue186
  t212 := Tryz.underlying205
  a212 := Tryz.isAgg205
  z212 := Tryz.sizeOf205
  v212 := Tryz.zeroValue205
  t213 := Tryz.underlying207
  a213 := Tryz.isAgg207
  z213 := Tryz.sizeOf207
  t232 := Tryz.underlying225
  a232 := Tryz.isAgg225
  z232 := Tryz.sizeOf225
  v232 := Tryz.zeroValue225
  t233 := Tryz.underlying226
  a233 := Tryz.isAgg226
  z233 := Tryz.sizeOf226
  v233 := Tryz.zeroValue226
  g17 := by kernel_rfl
  g18 := by kernel_rfl
  g19 := by kernel_rfl
  i0 := by kernel_rfl
  i2 := by kernel_rfl
  i3 := by kernel_rfl
  i4 := by kernel_rfl
  i5 := by kernel_rfl
  i9 := by kernel_rfl
  i20 := by kernel_rfl
  i37 := by kernel_rfl
  i46 := by kernel_rfl
  i51 := by kernel_rfl
  i53 := by kernel_rfl
  i171 := by kernel_rfl
  i173 := by kernel_rfl
  i212 := by kernel_rfl
  i232 := by kernel_rfl
  i233 := by kernel_rfl
  m17 := by kernel_rfl
  m18 := by kernel_rfl
  m19 := by kernel_rfl }
def Tryz.laysC172_ren : Go.Shelf.Ren := ⟨fun | 172 => 127 | 244 => 156 | 245 => 157 | 247 => 175 | 279 => 176 | 280 => 177 | 281 => 178 | 282 => 179 | 287 => 193 | 316 => 194 | 171 => 58 | 205 => 195 | 321 => 201 | 322 => 202 | 243 => 110 | 246 => 143 | 283 => 160 | 284 => 161 | 285 => 162 | 286 => 163 | 129 => 183 | 317 => 182 | 318 => 184 | 319 => 185 | 320 => 186 | 337 => 196 | 338 => 197 | n => n, fun | 9 => 9 | 3 => 3 | 75 => 89 | 76 => 90 | 4 => 4 | 5 => 5 | 167 => 198 | 37 => 22 | 0 => 0 | 85 => 199 | 2 => 2 | 168 => 201 | 53 => 183 | 175 => 211 | 46 => 181 | 210 => 215 | 127 => 142 | 145 => 224 | 143 => 222 | 21 => 21 | 171 => 182 | 173 => 186 | 212 => 205 | 51 => 206 | 20 => 20 | 213 => 207 | 232 => 225 | 233 => 226 | 80 => 94 | n => n, fun | 15 => 1 | 16 => 2 | 17 => 0 | 18 => 4 | 19 => 5 | n => n⟩
theorem Tryz.laysC172 : Go.Proofs.LaysC.n172 Tryz.prog Tryz.laysC172_ren := {
  mixed := by kernel_rfl
  f129 := Tryz.func183.trans (congrArg some (by kernel_rfl))
  f171 := Tryz.func58.trans (congrArg some (by kernel_rfl))
  f172 := Tryz.func127.trans (congrArg some (by kernel_rfl))
  f205 := Tryz.func195.trans (congrArg some (by kernel_rfl))
  f243 := Tryz.func110.trans (congrArg some (by kernel_rfl))
  f244 := Tryz.func156.trans (congrArg some (by kernel_rfl))
  f245 := Tryz.func157.trans (congrArg some (by kernel_rfl))
  f246 := Tryz.func143.trans (congrArg some (by kernel_rfl))
  f247 := Tryz.func175.trans (congrArg some (by kernel_rfl))
  f279 := Tryz.func176.trans (congrArg some (by kernel_rfl))
  f280 := Tryz.func177.trans (congrArg some (by kernel_rfl))
  f281 := Tryz.func178.trans (congrArg some (by kernel_rfl))
  f282 := Tryz.func179.trans (congrArg some (by kernel_rfl))
  f283 := Tryz.func160.trans (congrArg some (by kernel_rfl))
  f284 := Tryz.func161.trans (congrArg some (by kernel_rfl))
  f285 := Tryz.func162.trans (congrArg some (by kernel_rfl))
  f286 := Tryz.func163.trans (congrArg some (by kernel_rfl))
  f287 := Tryz.func193.trans (congrArg some (by kernel_rfl))
  f316 := Tryz.func194.trans (congrArg some (by kernel_rfl))
  f317 := Tryz.func182.trans (congrArg some (by kernel_rfl))
  f318 := Tryz.func184.trans (congrArg some (by kernel_rfl))
  f319 := Tryz.func185.trans (congrArg some (by kernel_rfl))
  f320 := Tryz.func186.trans (congrArg some (by kernel_rfl))
  f321 := Tryz.func201.trans (congrArg some (by kernel_rfl))
  f322 := Tryz.func202.trans (congrArg some (by kernel_rfl))
  f337 := Tryz.func196.trans (congrArg some (by kernel_rfl))
  f338 := Tryz.func197.trans (congrArg some (by kernel_rfl))
  t0 := Tryz.underlying0
  a0 := Tryz.isAgg0
  z0 := Tryz.sizeOf0
  v0 := Tryz.zeroValue0
  t2 := Tryz.underlying2
  a2 := Tryz.isAgg2
  z2 := Tryz.sizeOf2
  v2 := Tryz.zeroValue2
  t3 := Tryz.underlying3
  a3 := Tryz.isAgg3
  z3 := Tryz.sizeOf3
  v3 := Tryz.zeroValue3
  t4 := Tryz.underlying4
  a4 := Tryz.isAgg4
  z4 := Tryz.sizeOf4
  v4 := Tryz.zeroValue4
  t5 := Tryz.underlying5
  a5 := Tryz.isAgg5
  z5 := Tryz.sizeOf5
  v5 := Tryz.zeroValue5
  t9 := Tryz.underlying9
  a9 := Tryz.isAgg9
  z9 := Tryz.sizeOf9
  v9 := Tryz.zeroValue9
  t20 := Tryz.underlying20
  a20 := Tryz.isAgg20
  z20 := Tryz.sizeOf20
  v20 := Tryz.zeroValue20
  t21 := Tryz.underlying21
  a21 := Tryz.isAgg21
  z21 := Tryz.sizeOf21
  v21 := Tryz.zeroValue21
  t37 := Tryz.underlying22
  a37 := Tryz.isAgg22
  z37 := Tryz.sizeOf22
  v37 := Tryz.zeroValue22
  t46 := Tryz.underlying181
  a46 := Tryz.isAgg181
  z46 := Tryz.sizeOf181
  v46 := Tryz.zeroValue181
  t51 := Tryz.underlying206
  a51 := Tryz.isAgg206
  z51 := Tryz.sizeOf206
  v51 := Tryz.zeroValue206
  t53 := Tryz.underlying183
  a53 := Tryz.isAgg183
  z53 := Tryz.sizeOf183
  v53 := Tryz.zeroValue183
  t75 := Tryz.underlying89
  a75 := Tryz.isAgg89
  z75 := Tryz.sizeOf89
  v75 := Tryz.zeroValue89
  t76 := Tryz.underlying90
  a76 := Tryz.isAgg90
  z76 := Tryz.sizeOf90
  v76 := Tryz.zeroValue90
  t85 := Tryz.underlying199
  a85 := Tryz.isAgg199
  z85 := Tryz.sizeOf199
  v85 := Tryz.zeroValue199
  t127 := Tryz.underlying142
  a127 := Tryz.isAgg142
  z127 := Tryz.sizeOf142
  v127 := Tryz.zeroValue142
  t143 := Tryz.underlying222
  a143 := Tryz.isAgg222
  z143 := Tryz.sizeOf222
  v143 := Tryz.zeroValue222
  t145 := Tryz.underlying224
  a145 := Tryz.isAgg224
  z145 := Tryz.sizeOf224
  v145 := Tryz.zeroValue224
  t167 := Tryz.underlying198
  a167 := Tryz.isAgg198
  z167 := Tryz.sizeOf198
  v167 := Tryz.zeroValue198
  t168 := Tryz.underlying201
  a168 := Tryz.isAgg201
  z168 := Tryz.sizeOf201
  v168 := Tryz.zeroValue201
  t171 := Tryz.underlying182
  a171 := Tryz.isAgg182
  z171 := Tryz.sizeOf182
  v171 := Tryz.zeroValue182
  t173 := Tryz.underlying186
  a173 := Tryz.isAgg186
  z173 := Tryz.sizeOf186
  v173 := Tryz.zeroValue186
  t175 := Tryz.underlying211
  a175 := Tryz.isAgg211
  z175 := Tryz.sizeOf211
  v175 := Tryz.zeroValue211
  t210 := Tryz.underlying215
  a210 := Tryz.isAgg215
  z210 := Tryz.sizeOf215
  v210 := Tryz.zeroValue215
  t212 := Tryz.underlying205
  a212 := Tryz.isAgg205
  z212 := Tryz.sizeOf205
  v212 := Tryz.zeroValue205
  t213 := Tryz.underlying207
  a213 := Tryz.isAgg207
  z213 := Tryz.sizeOf207
  t232 := Tryz.underlying225
  a232 := Tryz.isAgg225
  z232 := Tryz.sizeOf225
  v232 := Tryz.zeroValue225
  t233 := Tryz.underlying226
  a233 := Tryz.isAgg226
  z233 := Tryz.sizeOf226
  v233 := Tryz.zeroValue226
  g15 := by kernel_rfl
  g16 := by kernel_rfl
  g17 := by kernel_rfl
  g18 := by kernel_rfl
  g19 := by kernel_rfl
  t80 := Tryz.underlying94
  a80 := Tryz.isAgg94
  z80 := Tryz.sizeOf94
  v80 := Tryz.zeroValue94
  i0 := by kernel_rfl
  i2 := by kernel_rfl
  i3 := by kernel_rfl
  i4 := by kernel_rfl
  i5 := by kernel_rfl
  i9 := by kernel_rfl
  i20 := by kernel_rfl
  i21 := by kernel_rfl
  i37 := by kernel_rfl
  i46 := by kernel_rfl
  i51 := by kernel_rfl
  i53 := by kernel_rfl
  i75 := by kernel_rfl
  i76 := by kernel_rfl
  i80 := by kernel_rfl
  i85 := by kernel_rfl
  i127 := by kernel_rfl
  i143 := by kernel_rfl
  i145 := by kernel_rfl
  i167 := by kernel_rfl
  i168 := by kernel_rfl
  i171 := by kernel_rfl
  i173 := by kernel_rfl
  i175 := by kernel_rfl
  i210 := by kernel_rfl
  i212 := by kernel_rfl
  i232 := by kernel_rfl
  i233 := by kernel_rfl
  m15 := by kernel_rfl
  m16 := by kernel_rfl
  m17 := by kernel_rfl
  m18 := by kernel_rfl
  m19 := by kernel_rfl
  c0 := by kernel_rfl
  c2 := by kernel_rfl
  c3 := by kernel_rfl
  c4 := by kernel_rfl
  c5 := by kernel_rfl
  c9 := by kernel_rfl
  c20 := by kernel_rfl
  c21 := by kernel_rfl
  c37 := by kernel_rfl
  c46 := by kernel_rfl
  c51 := by kernel_rfl
  c53 := by kernel_rfl
  c75 := by kernel_rfl
  c76 := by kernel_rfl
  c80 := by kernel_rfl
  c85 := by kernel_rfl
  c127 := by kernel_rfl
  c143 := by kernel_rfl
  c145 := by kernel_rfl
  c167 := by kernel_rfl
  c168 := by kernel_rfl
  c171 := by kernel_rfl
  c173 := by kernel_rfl
  c175 := by kernel_rfl
  c210 := by kernel_rfl
  c212 := by kernel_rfl
  c213 := by kernel_rfl
  c232 := by kernel_rfl
  c233 := by kernel_rfl }
end Go.Proofs
end
section
open Go Go.Abs Go.Proofs Go.Proofs.Tryz
namespace Go.Proofs.S
section
variable {G R : Prop} {ρ : Nat -> Value} {av : Nat -> Prop} {hp : Array Obj} {v : Value} {vals : Array Value}
def bIj (h : eG ρ av hp [.raw v] vals) : vals = #[v] := by
  obtain ⟨h1, h2⟩ := h
  have h3 := h2 0 _ rfl
  apply Array.ext
  . exact h1
  intro i h4 h5
  have hi : i = 0 := by simp at h5; omega
  subst hi; rw [B6, D3 h4, Option.getD_some] at h3
  generalize vals[0] = u at h3
  cases h3; rfl
def qB {v u : Value} (h : eG ρ av hp [.raw v, .raw u] vals) : vals = #[v, u] := by
  obtain ⟨h1, h2⟩ := h
  have h3 := h2 0 _ rfl
  have h4 := h2 1 _ rfl
  apply Array.ext
  . exact h1
  intro i h5 h6
  have hs : vals.size = 2 := h1
  have hi : i = 0 ∨ i = 1 := by simp at h6; omega
  rcases hi with rfl | rfl
  . rw [B6, D3 h5, Option.getD_some] at h3
    generalize vals[0] = z at h3
    cases h3; rfl
  rw [B6, D3 h5, Option.getD_some] at h4
  generalize vals[1] = z at h4
  cases h4; rfl
def aXu (n : Int) : ByteArray := ⟨(Lib.itoa n).toArray⟩
def gn0 : P.globalNamed "internal/strconv.uint64pow10" = some 0 := kr
def xE (n : Int) (h0 : -9223372036854775808 <= n) (h1 : n <= 9223372036854775807) : aJ P 58 [Ni n] [] 0 (Ns (aXu n)) := by
  refine pT trivial fun C w vals hR hv => ?_
  rw [bIj hv]
  obtain ⟨o, ho1, ho2, _⟩ := hR.gl 0 (.inl rfl)
  obtain ⟨t, fr, rfl⟩ := ho2.1 rfl
  have htab : Lib.TabIs P w "internal/strconv.uint64pow10" .u64 Lib.pow10Tab := by
    unfold Lib.TabIs World.var?
    rw [show P.globalNamed "internal/strconv.uint64pow10" = _ from gn0]; simp only [Option.bind_some, ho1]
  refine (Any.strconv_Itoa Tryz.laysM171 n h0 h1 w htab).mono fun e w' ⟨he, k, os, hw⟩ => ⟨_, he, .raw _, ?_⟩
  rw [hw]; exact bAb w k os
def iK (s : ByteArray) : Int × Bool := match Lib.atoiAll s.data.toList with
  | .ok v => (v, true)
  | .range => (Lib.atoiSat s.data.toList, false)
  | _ => (0, false)
def bPp {C : Conc} {w : World} (hR : RelH C [] (UU 0) w) {g : Nat} (hg : g = 1 ∨ g = 2) : ∃ te pe, w.cell? ⟨g, 0, none⟩ = some (.iface te pe) := by
  obtain ⟨o, ho1, ho2, _⟩ := hR.gl g (.inr hg)
  obtain ⟨te, pe, t, fr, rfl⟩ := ho2.2.1 hg
  exact ⟨te, pe, by rw [Lib.cell_of_heap ho1]; rfl⟩
def bEr (s : ByteArray) (hs : s.size <= 1048576) (h : (iK s).2 = true) : aJ P 127 [Ns s] [] 0 (.tup [.raw (.int .i64 (iK s).1), .raw .nilIface]) := by
  refine pT ⟨trivial, trivial, trivial⟩ fun C w vals hR hv => ?_
  rw [bIj hv]
  have hat : Lib.atoiAll s.data.toList = .ok (iK s).1 := by
    unfold iK at h ⊢
    split at h
    . rename_i v hq; simp only [hq]
    . cases h
    cases h
  refine (Any.strconv_Atoi_ok Tryz.laysC172 s og _ hat w).mono fun e w' ⟨he, hw⟩ => ⟨_, he, ?_, ?_⟩
  . exact .tup _ _ rfl fun j x hj => by
      match j, hj with
      | 0, hj => cases hj; exact .raw _
      | 1, hj => cases hj; exact .raw _
  . rcases hw with rfl | ⟨t, rfl⟩
    . exact RowKit.Below.refl _ _
    exact Lib.bytesWorld_below w _ t
def bDx (s : ByteArray) (hs : s.size <= 1048576) (h : (iK s).2 = false) : aJ P 127 [Ns s] [] 0 (.tup [.raw (.int .i64 (iK s).1), .iface 201 .any]) := by
  refine pT ⟨trivial, trivial, trivial⟩ fun C w vals hR hv => ?_
  rw [bIj hv]
  have hrep : ∀ (hp : Array Obj) (N : Nat) (n : Int), Rep C.ρ (C.avoid []) hp (.tup [.raw (.int .i64 n), .iface 201 .any]) (.tuple #[.int .i64 n, .iface 201 (.pointer (some ⟨N, 0, none⟩))]) := fun hp N n => .tup _ _ rfl fun j x hj => by
    match j, hj with
    | 0, hj => cases hj; exact .raw _
    | 1, hj => cases hj; exact .iface _ _ _ (.any _)
  cases hat : Lib.atoiAll s.data.toList with
  | ok v => unfold iK at h; rw [hat] at h; cases h
  | range =>
    have hv0 : (iK s).1 = Lib.atoiSat s.data.toList := by unfold iK; rw [hat]
    obtain ⟨te, pe, hc⟩ := bPp hR (.inr rfl)
    refine (Any.strconv_Atoi_range Tryz.laysC172 s og hat _ w hc (.inr ⟨te, pe, rfl⟩)).mono fun e w' ⟨N, he, _, _, hB⟩ => ⟨_, he, ?_, hB⟩
    rw [hv0]; exact hrep _ N _
  | _ =>
    have hv0 : (iK s).1 = 0 := by unfold iK; rw [hat]
    obtain ⟨te, pe, hc⟩ := bPp hR (.inl rfl)
    refine (Any.strconv_Atoi_syntax Tryz.laysC172 s og hat _ w hc (.inr ⟨te, pe, rfl⟩)).mono fun e w' ⟨N, he, _, _, hB⟩ => ⟨_, he, ?_, hB⟩
    rw [hv0]; exact hrep _ N 0
def zT (s : ByteArray) (c : Int) : aJ P 155 [Ns s, .raw (.int .u8 c)] [] 0 (Ni (Lib.indexByte s.data.toList c.toNat.toUInt8)) := by
  refine pT trivial fun C w vals hR hv => ?_
  rw [qB hv]
  refine (Any.strings_IndexByte Tryz.lays137 s c w).mono fun e w' ⟨he, hw⟩ => ⟨_, he, .raw _, ?_⟩
  rw [hw]; exact RowKit.Below.refl _ _
abbrev tD : AObj := .cells 87 [.raw (.pointer none), .raw (.slice none 0 0)]
def Cv (h : G := by simp only [go_sem, AObj.ren, AV.ren, tD, aB, sg] <;> simp [Abs.get]) : G := h
abbrev lM (k : Nat) : AObj := .cells 87 [.ptr 0 0, .ref k]
abbrev bT (l : List UInt8) : AObj := .row 5 1 (l.map byteAV)
attribute [go_sem] pC aRo
def Dh (h : R -> G := by intro k; simp only [go_sem, AObj.ren, AV.ren, Nat.add_zero, A0, Nat.sub_self, lM, aB, bT, sg, shift]; exact k) : R -> G := h
def Cu (h : R -> G := by intro k; simp only [go_sem, AObj.ren, AV.ren, Nat.add_zero, A0, Nat.sub_self, tD, lM, aB, bT, sg, shift]; exact k) : R -> G := h
def Cl (h : G := by simp only [go_sem, AObj.ren, AV.ren, lM, aB, bT, sg] <;> simp [Abs.get]) : G := h
def uPB : P.underlying 85 = some (.pointer 87) := kr
def uUP : P.underlying 166 = some .unsafePointer := kr
def uBS : P.underlying 22 = some (.slice 5) := kr
def uST : P.underlying 9 = some .string := kr
def uPU : P.underlying 142 = some (.pointer 5) := kr
def ceU : P.cellsOf 5 = 1 := kr
def bJe : ∃ j, P.info? 87 = some j /\ j.size ≠ 0 := by
  have h : (P.info? 87).map (·.size) = some 2 := kr
  obtain ⟨j, hj, hs⟩ := B0.1 h
  exact ⟨j, hj, by rw [hs]; decide⟩
def bJp : ∃ i, P.info? 5 = some i /\ i.zero = some (.int .u8 0) /\ i.size = 1 /\ i.bytes = 1 := by
  have h : (P.info? 5).map (fun i => (i.zero, i.size, i.bytes)) = some (some (.int .u8 0), 1, 1) := kr
  obtain ⟨j, hj, hs⟩ := B0.1 h
  simp only [Prod.mk.injEq] at hs
  exact ⟨j, hj, hs.1, hs.2.1, hs.2.2⟩
def bNq : liesAt P P.depth 87 (2 / P.cellsOf 87) 0 87 1 = true := kr
def aAm : P.funcs[(142 : Nat)]? = some Tryz.f142 /\ (Tryz.f142.name == "runtime.NumGoroutine") = false /\ Tryz.f142.body.isNone = true /\ Extern.findNext Tryz.f142 = none /\ Extern.find Tryz.f142 = some Extern.AbiNoEscape.same := by
  refine ⟨?_, ?_, ?_, ?_, ?_⟩ <;> kernel_rfl
def aUc  : aP P 109 [.ptr 0 0] [(0, tD)] 1 (.tup []) [(0, .cells 87 [.ptr 0 0, .raw (.slice none 0 0)])] 1 := by
 refine (gq 20 [] func109) ?_
 simp only [tD]
 obtain ⟨j, hj, hjs⟩ := bJe
 refine sr rfl fun k1 => (ja) ?_
 refine vC (fun hN => aHd rfl rfl hN uPB rfl) (.inl rfl) ?_
 refine (ja) (k1 ?_)
 refine cd rfl (fun hc1 => ?_) (fun hc => by simp at hc)
 refine wg rfl ((ja) ?_)
 refine vC (fun hN => xN rfl rfl hN uPB uUP hj hjs rfl rfl dg) (.inl rfl) ?_
 refine (ja) ?_
 refine vC (fun hN => xR rfl rfl rfl rfl hN aAm.1 aAm.2.1 aAm.2.2.1 aAm.2.2.2.1 aAm.2.2.2.2 rfl) (.inl rfl) ?_
 refine (ja) ?_
 refine vC (fun hN => uP rfl rfl hN uUP uPB hj rfl rfl bNq) (.inl rfl) ?_
 refine (ja) ?_
 refine ⟨[], ?_⟩; exact jz
def aTm (l : List UInt8) : aP P 109 [.ptr 0 0] [(0, lM 1), (1, bT l)] 2 (.tup []) [(0, lM 1), (1, bT l)] 2 := by
 refine (gq 20 [] func109) ?_
 simp only [lM, bT]
 obtain ⟨j, hj, hjs⟩ := bJe
 refine sr rfl fun k1 => (ja) ?_
 refine vC (fun hN => aTq rfl rfl hN uPB rfl) (.inl rfl) ?_
 refine (ja) (k1 ((cdA) (fun hc => by simp at hc) fun hc1 => ?_))
 refine sr rfl fun k2 => (ja) ?_
 refine vC (fun hN => aSt rfl rfl hN uPB hj rfl rfl) (.inl rfl) ?_
 refine (ja) (k2 ((cdA) (fun hc => by simp at hc) fun hc2 => ?_))
 refine wk ?_; refine ⟨[], ?_⟩; exact jz
def aMl (s : ByteArray) (hs : s.size <= 140737488355328) : aP P 57 [.ptr 0 0, Ns s] [(0, tD)] 1 (.tup [Ni (s.size : Int), .raw .nilIface]) [(0, lM 1), (1, bT s.data.toList)] 2 := by
 refine (gq 19 [.tmp 4, .tmp 5] func57) ?_
 simp only [tD, lM, bT]
 have hmx := mxl
 refine (aj) ?_
 refine sr rfl fun k2 => (ja) ?_
 refine vg [] 0 rfl rfl rfl ⟨func109, rfl, rfl⟩ aUc rfl oG oG (mT (H1 := []) (.inl rfl) (by simp only [go_sem, tD]) (by simp only [go_sem, AObj.bel, tD])) (.inl rfl) ?_
 refine (jn) (k2 (sr rfl fun k3 => (ja) ?_))
 refine vC (fun hN => aOa rfl rfl rfl rfl rfl hN uBS uST bJp rfl rfl hs) (.inr dg) ?_
 refine (ja) ((jr) (k3 ((aj) (wR ?_))))
 refine ⟨[], ?_⟩; exact jz
def yT (l : List UInt8) (s : ByteArray) (hs : l.length + s.size <= 140737488355328) : aP P 57 [.ptr 0 0, Ns s] [(0, lM 1), (1, bT l)] 2 (.tup [Ni (s.size : Int), .raw .nilIface]) [(0, lM 2), (1, .dead), (2, bT (l ++ s.data.toList))] 3 := by
 refine (gq 19 [.tmp 4, .tmp 5] func57) ?_
 simp only [lM, bT]
 have hmx := mxl
 refine (aj) ?_
 refine sr rfl fun k2 => (ja) ?_
 refine vg [] 0 rfl rfl rfl ⟨func109, rfl, rfl⟩ (aTm l) rfl oG oG (aUl (.inl rfl) (by simp only [go_sem, lM, bT]) (by simp only [go_sem, lM, bT]) (by simp only [go_sem, AObj.bel, lM, bT] <;> simp) (by simp only [go_sem, AObj.bel, lM, bT]) oS ⟨rfl, rfl⟩ dg) (.inl rfl) ?_
 refine (jn) (k2 (sr rfl fun k3 => (ja) ?_))
 refine vC (fun hN => aDw rfl rfl rfl rfl rfl hN uBS uST bJp rfl rfl rfl hs) (.inr dg) ?_
 refine (ja) ((jr) (k3 ((aj) (wR ?_))))
 refine ⟨[], ?_⟩; exact jz
def bNa (l : List UInt8) : aP P 59 [.ptr 0 0] [(0, lM 1), (1, bT l)] 2 (Ni (l.length : Int)) [(0, lM 1), (1, bT l)] 2 := by
 refine (gq 8 [.tmp 2] func59) ?_
 simp only [lM, bT]
 refine (aj) ?_
 refine sr rfl fun k2 => (Bi) (k2 (wR ?_))
 refine ⟨[], ?_⟩; exact jz
def bKv  : aP P 59 [.ptr 0 0] [(0, tD)] 1 (Ni 0) [(0, tD)] 1 := by
 refine (gq 8 [.tmp 2] func59) ?_
 simp only [tD]
 refine (aj) ((aj) (wR ?_))
 refine ⟨[], ?_⟩; exact jz
def bAk (l : List UInt8) (h0 : l ≠ []) : aP P 60 [.ptr 0 0] [(0, lM 1), (1, bT l)] 2 (Ns ⟨l.toArray⟩) [(0, lM 1), (1, .dead)] 2 := by
 refine (gq 14 [.tmp 2] func60) ?_
 simp only [lM, bT]
 refine (aj) ?_
 refine sd mixed rfl fun k2 => (Bi) ?_
 refine aN (fun hN => wN (l := l) rfl rfl rfl rfl hN rfl rfl h0 (.inl dg)) (.inl rfl) ?_
 refine (Bi) ?_
 refine aN (fun hN => aHs (l := l) rfl rfl rfl rfl rfl hN uPU ceU rfl rfl rfl h0) (.inr dg) ?_
 refine (Bi) ((jy) (k2 (wR ?_)))
 refine ⟨[], ?_⟩; exact jz
end
section
variable {G : Prop} {n : Int}
def adr (b : Bool) : AV := if b then .ptr 0 0 else .raw (.pointer none)
def aW : adr true = .ptr 0 0 := rfl
def pF : adr false = .raw (.pointer none) := rfl
def bMr (b : Bool) : (adr b).bel (UU 2) := by
  cases b
  . trivial
  exact .inl dg
def bNh (b : Bool) : (adr b).ren (sg []) = adr b := AV.ren_nil _
attribute [go_sem] bMr bNh
abbrev eT (b : Bool) (k : Nat) : AObj := .cells 87 [adr b, .ref k]
def Ci (h : G := by simp only [go_sem, AObj.bel, aW, eT, bT]) : G := h
def Ch (h : G := by simp only [go_sem, AObj.bel, aW, eT, bT] <;> simp) : G := h
def Cg {R G : Prop} (h : R -> G := by intro k; simp only [go_sem, AObj.ren, AV.ren, Nat.add_zero, A0, Nat.sub_self, aW, eT, aB, bT, sg, shift]; exact k) : R -> G := h
def Bn (h : G := by simp only [go_sem, aW, eT, bT]) : G := h
def aRv {m : Int} (h0 : 0 <= m) (h1 : m <= 9) : aEs m = ⟨#[UInt8.ofNat (48 + m.toNat)]⟩ := by
  unfold aEs
  have e1 := wr (48 + m) (48 + m) og
  have e2 : IntKind.u8.wrap (48 + m) = 48 + m := by rw [IntKind.wrap_u8]; omega
  rw [e1, e2, show (48 + m).toNat = 48 + m.toNat by omega]; rfl
def bOm (a b : List UInt8) : (⟨a.toArray⟩ : ByteArray) ++ ⟨b.toArray⟩ = ⟨(a ++ b).toArray⟩ := by
  apply ByteArray.ext
  simp
def aKp : ∀ (f : Nat) (u : Nat) (out : ByteArray), u < 10 ^ (f + 1) -> tA f (u : Int) out = ⟨(Lib.decDigits u).toArray⟩ ++ out
  | 0, u, out, h => by
    unfold tA; rw [Lib.decDigits, dif_pos (by simpa using h), aRv og (by simp at h; omega)]; rfl
  | f + 1, u, out, h => by
    unfold tA; split
    . rename_i h9
      have hu : 10 <= u := by omega
      rw [Lib.decDigits, dif_neg og, H6 og, Int.tmod_eq_emod_of_nonneg og]
      have e1 : (u : Int) / 10 = ((u / 10 : Nat) : Int) := by omega
      have e2 : (u : Int) % 10 = ((u % 10 : Nat) : Int) := by omega
      rw [e1, e2, aKp f (u / 10) _ (by rw [Nat.pow_succ] at h; omega), aRv og og, <- bOm, ByteArray.append_assoc]
      rfl
    rename_i h9
    have hu : u < 10 := by omega
    rw [Lib.decDigits, dif_pos hu, aRv og og]; rfl
def aFc (h0 : -1000000000000000000 <= n) (h1 : n <= 1000000000000000000) : aXu n = dec n := by
  unfold aXu Lib.itoa dec aUp; split
  . rename_i h
    have e : -n = ((n.natAbs : Nat) : Int) := by omega
    rw [e, aKp 19 n.natAbs _ og]; apply ByteArray.ext
    simp
  rename_i h
  obtain ⟨u, rfl⟩ := Int.eq_ofNat_of_zero_le (by omega : 0 <= n)
  rw [aKp 19 u _ og]; apply ByteArray.ext
  simp
def bL (s : ByteArray) : List UInt8 := s.data.toList
def qR (a b : ByteArray) : bL (a ++ b) = bL a ++ bL b := by unfold bL; simp [ByteArray.data_append]
def rB (s : ByteArray) : (⟨(bL s).toArray⟩ : ByteArray) = s := by apply ByteArray.ext; simp [bL]
def aO (s : ByteArray) : (bL s).length = s.size := by unfold bL; rw [Array.length_toList]; rfl
def lA (e : Entry) : List Int := [e.seq, e.kind, e.n, (e.text.size : Int)]
def qU (ns : List Int) : List UInt8 := ns.flatMap fun n => bL (dec n ++ spB)
def bGa {ns : List Int} {k : Nat} (h : ns[k]? = some n) : qU (ns.take (k + 1)) = qU (ns.take k) ++ bL (dec n ++ spB) := by
  unfold qU; rw [G2, h, List.flatMap_append]
  simp
def aKf (ns : List Int) : (qU ns).length <= 22 * ns.length := by
  induction ns with
  | nil => simp [qU]
  | cons a r ih =>
    have h1 := gK a
    have h2 : (bL (dec a ++ spB)).length = (dec a).size + 1 := by rw [aO, B8, cA]
    simp only [qU, List.flatMap_cons, A4, C5] at ih ⊢
    omega
def mO (ls : List Entry) : List UInt8 := bL (bTx ls)
def aCb {ls : List Entry} {i : Nat} {e : Entry} (h : ls[i]? = some e) : mO (ls.take (i + 1)) = mO (ls.take i) ++ bL (e.key ++ spB) ++ qU (lA e) ++ bL e.text := by
  unfold mO bTx; rw [G2, h, List.foldl_append]; simp only [Option.toList_some, List.foldl_cons, List.foldl_nil, pP, qU, lA, List.flatMap_cons, List.flatMap_nil, qR, F5, List.append_nil]
def aUb (l : List UInt8) : aP P 109 [.ptr 0 0] [(0, eT false 1), (1, bT l)] 2 (.tup []) [(0, eT true 1), (1, bT l)] 2 := by
 refine (gq 20 [] func109) ?_
 simp only [eT, bT, aW, pF]
 obtain ⟨j, hj, hjs⟩ := bJe
 refine sr rfl fun k1 => (ja) ?_
 refine vC (fun hN => aHd rfl rfl hN uPB rfl) (.inl rfl) ?_
 refine (ja) (k1 ?_)
 refine cd rfl (fun hc1 => ?_) (fun hc => by simp at hc)
 refine wg rfl ((ja) ?_)
 refine vC (fun hN => xN rfl rfl hN uPB uUP hj hjs rfl rfl dg) (.inl rfl) ?_
 refine (ja) ?_
 refine vC (fun hN => xR rfl rfl rfl rfl hN aAm.1 aAm.2.1 aAm.2.2.1 aAm.2.2.2.1 aAm.2.2.2.2 rfl) (.inl rfl) ?_
 refine (ja) ?_
 refine vC (fun hN => uP rfl rfl hN uUP uPB hj rfl rfl bNq) (.inl rfl) ?_
 refine (ja) ?_
 refine ⟨[], ?_⟩; exact jz
def aLc (l : List UInt8) (s : ByteArray) (hs : l.length + s.size <= 140737488355328) : aP P 57 [.ptr 0 0, Ns s] [(0, eT false 1), (1, bT l)] 2 (.tup [Ni (s.size : Int), .raw .nilIface]) [(0, eT true 2), (1, .dead), (2, bT (l ++ s.data.toList))] 3 := by
 refine (gq 19 [.tmp 4, .tmp 5] func57) ?_
 simp only [eT, bT, aW, pF]
 have hmx := mxl
 refine (aj) ?_
 refine sr rfl fun k2 => (ja) ?_
 refine vg [] 0 rfl rfl rfl ⟨func109, rfl, rfl⟩ (aUb l) rfl oG oG (aUl (.inl rfl) (by simp only [go_sem, eT, bT, aW, pF]) (by simp only [go_sem, eT, bT, aW, pF]) (by simp only [go_sem, AObj.bel, eT, bT, aW, pF] <;> simp) (by simp only [go_sem, AObj.bel, eT, bT, aW, pF]) oS ⟨rfl, rfl⟩ dg) (.inl rfl) ?_
 simp only [go_sem, AV.ren, AObj.ren, aB, shift, sg, A0, Nat.add_zero, Nat.sub_self, eT, bT, aW, pF]
 refine k2 (sr rfl fun k3 => (ja) ?_)
 refine vC (fun hN => aDw rfl rfl rfl rfl rfl hN uBS uST bJp rfl rfl rfl hs) (.inr dg) ?_
 refine (ja) ((jr) (k3 ((aj) (wR ?_))))
 refine ⟨[], ?_⟩; exact jz
def tG (b : Bool) (l : List UInt8) (s : ByteArray) (hs : l.length + s.size <= 140737488355328) : aP P 57 [.ptr 0 0, Ns s] [(0, eT b 1), (1, bT l)] 2 (.tup [Ni (s.size : Int), .raw .nilIface]) [(0, eT true 2), (1, .dead), (2, bT (l ++ bL s))] 3 := by
  cases b
  . exact aLc l s hs
  exact yT l s hs
def bOa (l : List UInt8) : aP P 59 [.ptr 0 0] [(0, eT true 1), (1, bT l)] 2 (Ni (l.length : Int)) [(0, eT true 1), (1, bT l)] 2 := bNa l
def bEk (l : List UInt8) (h0 : l ≠ []) : aP P 60 [.ptr 0 0] [(0, eT true 1), (1, bT l)] 2 (Ns ⟨l.toArray⟩) [(0, eT true 1), (1, .dead)] 2 := bAk l h0
end
def aYu {ls : List Entry} (h : ∀ e ∈ ls, e.key.size <= 1048576 /\ e.text.size <= 1048576) : ∀ i, (mO (ls.take i)).length <= 3000000 * i
  | 0 => by simp [mO, bTx, bL]
  | i + 1 => by
    have ih := aYu h i
    by_cases hi : i < ls.length
    . have he := A1 hi
      obtain ⟨h1, h2⟩ := h _ (C8 hi)
      have h3 := aKf (lA ls[i])
      have h4 : (lA ls[i]).length = 4 := rfl
      rw [aCb he]; simp only [A4, aO, B8, cA]; omega
    rw [List.take_of_length_le og]; rw [List.take_of_length_le og] at ih; omega
def bKx {e : Entry} {k : Nat} (h : k < 4) : ∃ n, (lA e)[k]? = some n /\ (n = e.seq ∨ n = e.kind ∨ n = e.n ∨ n = (e.text.size : Int)) := by
  have : k = 0 ∨ k = 1 ∨ k = 2 ∨ k = 3 := by omega
  rcases this with rfl | rfl | rfl | rfl
  . exact ⟨_, rfl, .inl rfl⟩
  . exact ⟨_, rfl, .inr (.inl rfl)⟩
  . exact ⟨_, rfl, .inr (.inr (.inl rfl))⟩
  exact ⟨_, rfl, .inr (.inr (.inr rfl))⟩
def bJk {ls : List Entry} (h : 1 <= ls.length) : mO ls ≠ [] := by
  intro h0
  obtain ⟨i, hi⟩ : ∃ i, ls.length = i + 1 := ⟨ls.length - 1, og⟩
  have he := A1 (l := ls) (i := i) og
  have h1 := aCb he
  rw [<- hi, E9, h0] at h1
  have h2 := congrArg List.length h1
  simp only [List.length_nil, A4, aO, B8, cA] at h2
  omega
def nX (ls : List Entry) (hz : cZ ls) : aJ P 22 [.sl 5 (ls.map enA)] [] 0 (Ns (fTx ls)) := by
 refine (pq 51 [.tmp 2] func22) ?_
 have hmx := mxl
 have hsp : (#[32] : Array UInt8).size = 1 := rfl
 have hsn : (#[10] : Array UInt8).size = 1 := rfl
 refine (aj) ?_
 refine aA fun k2 => sr rfl fun k3 => (ja) ((vq func56 (yE ls hz)) (k3 ((cdA) ?_ ?_))) <;> intro hc1
 . have hb : isB ls = false := by simpa using hc1
   refine (aj) (wR ?_)
   refine fO ?_ trivial; simp only [go_sem, fTx, hb, C4, if_false]
 have hb : isB ls = true := by simpa using hc1
 obtain ⟨hok, hb1, hb2⟩ := bS hb
 have hbl := aYu (ls := ls) fun e he => cQ (hok e he)
 refine wk (k2 ((aj) ?_))
 refine aA fun k6 => (aj) (wb ?_)
 refine nA (i := 0) (j := 1) 5 1 rfl rfl dg ?_
 refine (ja) ?_
 refine wn ls.length (fun x => ([(3, .ptr 0 0), (11, .sl 5 (ls.map enA)), (12, Ni (ls.length : Int)), (13, Ni (x : Int))], [(0, eT (decide (0 < x)) 1), (1, bT (mO (ls.take x)))])) 2 [] ?_ ?_
 . simp only [go_sem, AObj.bel, eT, bT, List.take_zero, Int.natCast_zero] <;> simp [adr, mO, bTx, bL]
 rintro i hi
 refine (aj) ?_
 refine aA fun k9 => (cdB) ?_ ?_ <;> intro hc2
 . have hge := gec hc2
   have hie : i = ls.length := by omega
   subst hie
   have hpos : decide (0 < ls.length) = true := by simp; omega
   have hbi := hbl ls.length
   rw [E9] at hbi; rw [E9, hpos]
   have hds := gK ((bTx ls).size : Int)
   have hit : aXu ((mO ls).length : Int) = dec ((bTx ls).size : Int) := by rw [aFc og og]; unfold mO; rw [aO]
   refine we ((jt) (k6 (sr rfl fun k19 => (ja) ?_)))
   refine vg [] 0 rfl rfl rfl ⟨func59, rfl, rfl⟩ (bOa (mO ls)) rfl oG oG (aUl (.inl rfl) Bn Bn Ch Ci oS ⟨rfl, rfl⟩ dg) (.inl rfl) ?_
   refine (Cg) ?_
   refine vs rfl rfl rfl func58 (xE ((mO ls).length : Int) og og) oG oG ?_
   refine (Aa hit) ?_
   refine ⟨og, ?_⟩
   refine vg [] 0 rfl rfl rfl ⟨func60, rfl, rfl⟩ (bEk (mO ls) (bJk hb1)) rfl oG oG (aUl (.inl rfl) Bn Bn Ch Ci oS ⟨rfl, rfl⟩ dg) (.inl rfl) ?_
   simp only [go_sem, AV.ren, AObj.ren, aB, shift, sg, A0, Nat.add_zero, Nat.sub_self, eT, bT, aW, List.size_toArray]
   refine ⟨og, og, ?_⟩
   refine k19 (wR ?_)
   have hm : (⟨(mO ls).toArray⟩ : ByteArray) = bTx ls := rB _
   refine fO ?_ trivial; simp only [go_sem, fTx, hb, if_true, hm]
 obtain ⟨hlt, l, hl, hdrop, hml⟩ := ixc hc2
 obtain ⟨r1, r2, r3, r4, r5, r6, r7, r8⟩ := gP (hok l hml)
 obtain ⟨z1, z2⟩ := cQ (hok l hml)
 have hbi := hbl i
 refine wk (k9 (aA fun k10 => wb (sr rfl fun k11 => (Am hl) ((jr) (k11 (sr rfl fun k12 => (ja) ?_))))))
 refine ⟨og, ?_⟩
 refine vg [] 1 rfl rfl rfl ⟨func57, rfl, rfl⟩ (tG (decide (0 < i)) (mO (ls.take i)) (l.key ++ spB) (by rw [B8, cA]; omega)) rfl oG oG (aUl (.inl rfl) (by simp only [go_sem, eT, bT]) (by simp only [go_sem, eT, bT]) (by simp only [go_sem, AObj.bel, eT, bT] <;> simp) (by simp only [go_sem, AObj.bel, eT, bT]) oS ⟨rfl, rfl⟩ dg) (.inr dg) ?_
 refine (Cg) (k12 (aA fun k13 => sr rfl fun k14 => (ja) ((jr) (k14 (wb ?_)))))
 refine wn 4 (fun x => ([(3, .ptr 0 0), (5, .ptr 3 0), (11, .sl 5 (ls.map enA)), (12, Ni (ls.length : Int)), (13, Ni (i : Int)), (30, .ref 2), (31, Ni (4 : Int)), (32, Ni (x : Int))], [(0, eT true 1), (1, bT ((mO (ls.take i) ++ bL (l.key ++ spB)) ++ qU ((lA l).take x))), (2, .row 3 1 ((lA l).map inA)), (3, .cells 43 [Ns l.key, Ni l.seq, Ni l.kind, Ns l.text, Ni l.n])])) 4 [(1, 3), (2, 4), (3, 2)] ?_ ?_
 . simp only [go_sem, AObj.bel, AObj.ren, AV.ren, aB, sg, eT, bT, aW, Int.natCast_zero] <;> simp [qU, aW]
   rfl
 rintro k hk
 refine (aj) ?_
 refine aA fun k16 => (cdB) ?_ ?_ <;> intro hc3
 . have hk4 : k = 4 := by simp at hc3; omega
   subst hk4
   have hft : (lA l).take 4 = lA l := rfl
   rw [hft]
   have hnl := aKf (lA l)
   have h44 : (lA l).length = 4 := rfl
   refine we ((jt) (k13 (wg rfl ((ja) ?_))))
   refine vg [] 1 rfl rfl rfl ⟨func57, rfl, rfl⟩ (tG (true) ((mO (ls.take i) ++ bL (l.key ++ spB)) ++ qU (lA l)) (l.text) (by simp only [A4, aO, B8, cA]; omega)) rfl oG oG (aUl (.inl rfl) Bn Bn Ch Ci oS ⟨rfl, rfl⟩ dg) (.inr dg) ?_
   refine (Cg) ((jt) (k10 ?_))
   have hw := wiS i og
   have hfin : (mO (ls.take i)).map byteAV ++ ((bL (l.key ++ spB)).map byteAV ++ ((qU (lA l)).map byteAV ++ (bL l.text).map byteAV)) = (mO (ls.take (i + 1))).map byteAV := by rw [aCb hl]; simp only [D9, F5]
   refine wg rfl ((Aa hw) ((jt) ?_))
   refine ⟨i + 1, og, og, [(1, 4)], ?_⟩
   simp only [go_sem, AObj.bel, AObj.ren, AV.ren, aB, sg, eT, bT, aW, Int.natCast_zero] <;> simp [hfin, aW, AV.ren, sg, Abs.get]
 have hlt4 : k < 4 := by simp at hc3; omega
 obtain ⟨n, hn, hnc⟩ := bKx (e := l) hlt4
 have h44 : (lA l).length = 4 := rfl
 have hnum : (qU ((lA l).take (k + 1))).map byteAV = (qU ((lA l).take k)).map byteAV ++ (bL (dec n ++ spB)).map byteAV := by rw [bGa hn, D9]
 have hit := aFc (n := n) og og
 have hds := gK n
 have hnl := aKf ((lA l).take k)
 rw [B3] at hnl
 refine wk (k16 (aA fun k17 => wb (sr rfl fun k18 => ?_)))
 simp only [go_sem, hn, inA, A8, B5]
 refine (jr) (k18 (wg rfl ((ja) ?_)))
 skip
 refine vs rfl rfl rfl func58 (xE n og og) oG oG ?_
 refine (Aa hit) ?_
 refine ⟨og, ?_⟩
 refine vg [] 1 rfl rfl rfl ⟨func57, rfl, rfl⟩ (tG (true) ((mO (ls.take i) ++ bL (l.key ++ spB)) ++ qU ((lA l).take k)) (dec n ++ spB) (by simp only [A4, aO, B8, cA]; omega)) rfl oG oG (aUl (.inl rfl) Bn Bn Ch Ci oS ⟨rfl, rfl⟩ dg) (.inr dg) ?_
 refine (Cg) ((jt) (k17 ?_))
 have hwk := wiS k og
 refine wg rfl ((Aa hwk) ((jt) ?_))
 refine ⟨k + 1, og, og, [(1, 4)], ?_⟩
 simp only [go_sem, AObj.bel, AObj.ren, AV.ren, aB, sg, eT, bT, aW, Int.natCast_zero] <;> simp [hnum]
end Go.Proofs.S
end
