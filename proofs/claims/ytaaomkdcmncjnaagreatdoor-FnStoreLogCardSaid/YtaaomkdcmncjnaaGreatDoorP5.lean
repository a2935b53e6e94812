/-
  The abstract layer, the walks and the plain laws that the claim leans on, part 5 of 7 (working texts S23 to S70). It proves lemmas alone; no condition of its own.
-/
import Derived.Test.YtaaomkdcmncjnaaGreatDoorP4
import Derived.Shelf.Strconv.Itoa3
import Derived.Shelf.Strconv.AtoiAll
import Derived.Shelf.Small.Strs
import Derived.Test.YtaaomkdcmncjnaaGreatDoorProg
import Derived.ProofKit
import Derived.Test.YtaaomkdcmncjnaaGreatDoorRows
import Derived.LaidLaws
import Derived.LaidHandle
import Derived.Stop.Joined
import Derived.Lay
import Derived.MakeChecks
import Derived.WalkKit
import Derived.Laws.CopyRow
set_option linter.all false
set_option maxRecDepth 20000
section
open Go Go.Abs Go.Proofs Go.Proofs.Tryz
namespace Go.Proofs.S
section
variable {n i f : Nat} {x y : Entry} {r s : List Entry} {G : Prop}
def bGb (x y : ByteArray) : aBh y x = - aBh x y := by
  unfold aBh
  by_cases h : Op.bytesLess x.toList y.toList = true
  . rw [if_pos h, if_pos h, xH h]; rfl
  rw [if_neg h, if_neg h]; split <;> rfl
def bGi (x y : Int) : aIf y x = - aIf x y := by
  unfold aIf; repeat' split
  all_goals omega
def aHj (a b : Entry) : jZ b a = - jZ a b := by
  unfold jZ; rw [bGb a.key b.key, bGi b.seq a.seq]
  repeat' split
  all_goals omega
def aVr {a b : List Entry × Nat} (ha : a.1 = x :: r) (hb : b.1 = y :: s) : Plain.hless entLt a b = (decide (jZ x y < 0) || (!decide (0 < jZ x y) && decide (a.2 < b.2))) := by
  unfold Plain.hless; rw [ha, hb]
  simp only
  rw [<- pO x y, <- pO y x, aHj x y]
  congr 3
  exact decide_eq_decide.2 ⟨fun h => by omega, fun h => by omega⟩
def bAn {a b : List Entry × Nat} (ha : a.1 = x :: r) (hb : b.1 = y :: s) (h : jZ x y ≠ 0) : Plain.hless entLt a b = decide (jZ x y < 0) := by
  rw [aVr ha hb]
  by_cases h1 : jZ x y < 0
  . simp [h1]
  have : 0 < jZ x y := by omega
  simp [h1, this]
def bBb {a b : List Entry × Nat} (ha : a.1 = x :: r) (hb : b.1 = y :: s) (h : jZ x y = 0) : Plain.hless entLt a b = decide ((a.2 : Int) < (b.2 : Int)) := by
  rw [aVr ha hb, h]
  simp
def hdA (p : List Entry × Nat) : AV := .agg [.sl 5 (p.1.map enA), .raw (.int .i64 (p.2 : Int))]
def aDi (U : Nat -> Prop) (p : List Entry × Nat) : (hdA p).bel U := ⟨enB _ _, trivial, trivial⟩
def bLu (σ : Nat -> Nat) (p : List Entry × Nat) : (hdA p).ren σ = hdA p := AV.ren_closed σ (aDi _ p)
attribute [go_sem] aDi bLu
abbrev aM (g : Nat -> List Entry × Nat) (n : Nat) : AObj := .row 76 2 ((List.range n).map fun k => hdA (g k))
abbrev hcE : AObj := .cells 72 [.ref 1]
def Av {R G : Prop} (h : R -> G := by intro k; simp only [go_sem, AObj.ren, AV.ren, Nat.add_zero, A0, Nat.sub_self, hcE, aB, aM, sg, shift]; exact k) : R -> G := h
def Ak (h : G := by simp only [go_sem, AObj.bel, hcE, aM]) : G := h
def Aj (h : G := by simp only [go_sem, hcE, aM]) : G := h
def aEh (U : Nat -> Prop) (g : Nat -> List Entry × Nat) (n : Nat) : aI U ((List.range n).map fun k => hdA (g k)) := by
  rw [bLi]; intro x hx; obtain ⟨k, _, rfl⟩ := A9.1 hx; exact aDi U _
def aZl (s : Nat -> Nat) (g : Nat -> List Entry × Nat) (n : Nat) : aB s ((List.range n).map fun k => hdA (g k)) = (List.range n).map fun k => hdA (g k) := dJ s (aEh _ g n)
attribute [go_sem] aEh aZl
def aZr : lK P 78 "Len" = some (232, false) := kr
def bCa : lK P 78 "Less" = some (233, false) := kr
def bDk : lK P 78 "Swap" = some (234, false) := kr
def bPn : lK P 78 "Pop" = some (235, true) := kr
def pH : xY P 78 = some 72 := kr
def pH' : (xY P 78).isSome = true := by rw [pH]; rfl
def uH : (P.underlying 78).isSome = true := kr
def vH : vI P 72 = some (1, false) := kr
def slH : cL P 72 = some (76, some (2, 32)) := kr
def bQp : P.concrete 76 = true := kr
def bPg : P.concrete 78 = true := kr
noncomputable def bPw : Array Field := match P.underlying 76 with
  | some (.struct fs) => fs
  | _ => #[]
def bQu : P.underlying 76 = some (.struct bPw) := kr
def uPH : P.underlying 78 = some (.pointer 72) := kr
attribute [go_sem] bQp bPg uPH
def bQr {H : Heap} {nx : Nat} {t e : TypeId} {cs xs : List AV} {sz : Nat} (h0 : Abs.get H 0 = some (.cells t (aB (shift (sg []) 2 nx 0) cs))) (h1 : Abs.get H 1 = some (.row e sz xs)) (hx : aB (shift (sg []) 2 nx 0) xs = xs) :
    ∀ m ob, Abs.get ([(0, AObj.cells t cs), (1, AObj.row e sz xs)].map fun p => (shift (sg []) 2 nx 0 p.1, p.2.ren (shift (sg []) 2 nx 0))) m = some ob -> m ∈ ([(0, AObj.cells t cs), (1, AObj.row e sz xs)].map fun p => sg [] p.1) /\ Abs.get H m = some ob := by
  intro m ob h
  simp only [List.map_cons, List.map_nil, AObj.ren, hx] at h
  have e0 : shift (sg []) 2 nx 0 0 = 0 := rfl
  have e1 : shift (sg []) 2 nx 0 1 = 1 := rfl
  rw [e0, e1] at h
  simp only [Abs.get] at h
  split at h
  . rename_i h2; subst h2
    cases h
    exact ⟨by simp [sg, Abs.get], h0⟩
  split at h
  . rename_i h2; subst h2
    cases h
    exact ⟨by simp [sg, Abs.get], h1⟩
  cases h
def NE (g : Nat -> List Entry × Nat) (n : Nat) : Prop := ∀ k, k < n -> (g k).1 ≠ []
def NE.swp {g : Nat -> List Entry × Nat} {n i j : Nat} (h : NE g n) (hi : i < n) (hj : j < n) : NE (Plain.swpA g i j) n := fun k hk => by
  unfold Plain.swpA; split
  . exact h j hj
  split
  . exact h i hi
  exact h k hk
def bCk (g : Nat -> List Entry × Nat) (n : Nat) {p q : Nat} (hp : p < n) (hq : q < n) : (((List.range n).map fun k => hdA (g k)).set p (hdA (g q))).set q (hdA (g p)) = (List.range n).map fun k => hdA (Plain.swpA g p q k) := by
  refine List.ext_getElem? fun i => ?_
  rw [F9, F9, B4, B4]; simp only [D0, A6, D7]
  by_cases hi : i < n
  . rw [C6 hi]; unfold Plain.swpA; simp only [Option.map_some]
    by_cases h1 : i = q
    . subst h1; rw [if_pos rfl, if_pos hi]
      by_cases h2 : i = p
      . subst h2; simp
      rw [if_neg h2, if_pos rfl]
    rw [if_neg (fun e => h1 e.symm)]
    by_cases h2 : i = p
    . subst h2; rw [if_pos rfl, if_pos rfl, if_pos hp]
    rw [if_neg (fun e => h2 e.symm), if_neg h2, if_neg h1]
  rw [E3 (by simp; omega)]; rw [if_neg og, if_neg og]; rfl
def aQt {g : Nat -> List Entry × Nat} (h : ¬ (2 * i + 1 < n /\ Plain.hless entLt (g (Plain.kid (Plain.hless entLt) g n i)) (g i) = true)) : Plain.downGo (Plain.hless entLt) n f g i = (g, i) := by
  cases f with
  | zero => rfl
  | succ f =>
    unfold Plain.downGo; split
    . rename_i h1
      rw [if_neg fun h2 => h ⟨h1, h2⟩]
    rfl
def bFi {g : Nat -> List Entry × Nat} (h1 : 2 * i + 1 < n) (h2 : Plain.hless entLt (g (Plain.kid (Plain.hless entLt) g n i)) (g i) = true) : Plain.downGo (Plain.hless entLt) n (f + 1) g i = Plain.downGo (Plain.hless entLt) n f (Plain.swpA g i (Plain.kid (Plain.hless entLt) g n i)) (Plain.kid (Plain.hless entLt) g n i) := by
  rw [Plain.downGo, if_pos h1, if_pos h2]
def bAj (g : Nat -> List Entry × Nat) (h1 : 2 * i + 1 < n) : i < Plain.kid (Plain.hless entLt) g n i /\ Plain.kid (Plain.hless entLt) g n i < n := by
  unfold Plain.kid; split <;> omega
def aDb {n : Nat} : ∀ (f : Nat) (g : Nat -> List Entry × Nat) (i : Nat), NE g n -> NE (Plain.downGo (Plain.hless entLt) n f g i).1 n
  | 0, g, i, h => h
  | f + 1, g, i, h => by
    unfold Plain.downGo; split
    . rename_i h1
      have := bAj g h1
      split
      . exact aDb f _ _ (h.swp og og)
      exact h
    exact h
def zD {n : Nat} : ∀ (f : Nat) (g : Nat -> List Entry × Nat) (i : Nat), Plain.SameA n g (Plain.downGo (Plain.hless entLt) n f g i).1
  | 0, g, i => .refl _ _
  | f + 1, g, i => by
    unfold Plain.downGo; split
    . rename_i h1
      have := bAj g h1
      split
      . exact (Plain.SameA.swp g og og).trans (zD f _ _)
      exact .refl _ _
    exact .refl _ _
def bCd {n : Nat} : ∀ (i : Nat) (g : Nat -> List Entry × Nat), NE g n -> NE (Plain.initGo (Plain.hless entLt) n i g) n
  | 0, g, h => h
  | i + 1, g, h => bCd i _ (aDb _ _ _ h)
def aQz {n : Nat} : ∀ (i : Nat) (g : Nat -> List Entry × Nat), Plain.SameA n g (Plain.initGo (Plain.hless entLt) n i g)
  | 0, g => .refl _ _
  | i + 1, g => (zD _ _ _).trans (aQz i _)
def bCn (g : Nat -> List Entry × Nat) (i : Nat) : Plain.swpA g i i = g := by
  funext k
  unfold Plain.swpA; split
  . rename_i h; rw [h]
  rfl
def bGq {g : Nat -> List Entry × Nat} : Plain.initGo (Plain.hless entLt) n (i + 1) g = Plain.initGo (Plain.hless entLt) n i (Plain.downGo (Plain.hless entLt) n n g i).1 := rfl
def pB (g : Nat -> List Entry × Nat) (N : Nat) (hN : N <= 1048576)  : aO P 232 [.ref 1] [(0, hcE), (1, aM g N)] 2 (Ni (N : Int)) [(0, hcE), (1, aM (g) N)] 2 := by
 refine (gq 5 [.tmp 2] func232) ?_
 simp only [aM, hcE]
 refine (aj) ?_
 refine sr rfl fun k2 => ?_
 simp only [go_sem, A6, D7]
 refine k2 (wR ?_)
 refine ⟨[], ?_⟩; exact jz
def tE (g : Nat -> List Entry × Nat) (N : Nat) (hN : N <= 1048576) (i j : Nat) (hi : i < N) (hj : j < N) (xi : (g i).1 ≠ []) (xj : (g j).1 ≠ []) : aO P 233 [.ref 1, Ni (i : Int), Ni (j : Int)] [(0, hcE), (1, aM g N)] 2 (Nb (Plain.hless entLt (g i) (g j))) [(0, hcE), (1, aM (g) N)] 2 := by
 refine (gq 36 [.tmp 6] func233) ?_
 simp only [aM, hcE]
 obtain ⟨x, r, hx⟩ := G4 xi
 obtain ⟨y, s, hy⟩ := G4 xj
 have hr1 : (List.range N)[i]? = some (i) := C6 og
 have hr2 : (List.range N)[j]? = some (j) := C6 og
 refine (aj) ?_
 refine sd mixed rfl fun k2 => ?_
 simp only [go_sem, hr1, hr2, hdA, hx, hy, A6, D7]
 refine (jr) ((jy) (k2 (aA fun k3 => sd mixed rfl fun k4 => ?_)))
 simp only [go_sem, enA, Int.toNat_zero, List.getElem?_cons_zero, List.map_cons, C4]
 refine (jr) ?_
 refine tp rfl rfl rfl ⟨func45, rfl, rfl⟩ (gP x y) Ae (by exact ⟨dQ _ _, dQ _ _, trivial⟩) ?_
 refine (ja) ((jr) ((jy) (k4 ((aj) ((cdA) ?_ ?_))))) <;> intro hc1
 . refine (aj) (wR ?_)
   rw [bAn hx hy (by simpa using hc1)]; refine ⟨[], ?_⟩
   simp only [go_sem, AObj.bel, AObj.ren, AV.ren, aB, sg, aM, hcE] <;> first | (simp; done) | (simp [hdA]; done)
 refine wk (k3 ((aj) (wR ?_)))
 rw [bBb hx hy (by simpa using hc1)]; refine ⟨[], ?_⟩
 simp only [go_sem, AObj.bel, AObj.ren, AV.ren, aB, sg, aM, hcE] <;> first | (simp; done) | (simp [hdA]; done)
def bEp (g : Nat -> List Entry × Nat) (N : Nat) (hN : N <= 1048576) (i : Nat) (hi : i < N) : aO P 234 [.ref 1, Ni (i : Int), Ni (i : Int)] [(0, hcE), (1, aM g N)] 2 (.tup []) [(0, hcE), (1, aM (g) N)] 2 := by
 refine (gq 20 [] func234) ?_
 simp only [aM, hcE]
 have hr1 : (List.range N)[i]? = some (i) := C6 og
 have hrow : (((List.range N).map fun k => (.agg [.sl 5 ((g k).1.map enA), .raw (.int .i64 (((g k).2 : Nat) : Int))])).set i (.agg [.sl 5 ((g i).1.map enA), .raw (.int .i64 (((g i).2 : Nat) : Int))])).set i (.agg [.sl 5 ((g i).1.map enA), .raw (.int .i64 (((g i).2 : Nat) : Int))]) = (List.range N).map fun k => hdA (g k) := by
   have h9 := bCk g N hi hi
   rw [bCn] at h9; exact h9
 have hs1 : ∀ (y : AV), (((List.range N).map fun k => (.agg [.sl 5 ((g k).1.map enA), .raw (.int .i64 (((g k).2 : Nat) : Int))])).set i y)[i]? = some y := fun y => by rw [List.getElem?_set_self]; simpa using hi
 refine cQ mixed rfl ?_
 simp only [go_sem, hr1, hs1, hdA, D0, A6, D7]
 refine (jr) ?_
 rw [hrow]
 refine (jy) ?_
 refine ⟨[], ?_⟩
 simp only [go_sem, AObj.bel, AObj.ren, AV.ren, aB, sg, aM, hcE] <;> simp
 exact ⟨fun _ _ => rfl, aEh _ g _⟩
def sX (g : Nat -> List Entry × Nat) (N : Nat) (hN : N <= 1048576) (i j : Nat) (hi : i < N) (hj : j < N) (hij : i ≠ j) : aO P 234 [.ref 1, Ni (i : Int), Ni (j : Int)] [(0, hcE), (1, aM g N)] 2 (.tup []) [(0, hcE), (1, aM (Plain.swpA g i j) N)] 2 := by
 refine (gq 20 [] func234) ?_
 simp only [aM, hcE]
 have hr1 : (List.range N)[i]? = some (i) := C6 og
 have hr2 : (List.range N)[j]? = some (j) := C6 og
 have hrow : (((List.range N).map fun k => (.agg [.sl 5 ((g k).1.map enA), .raw (.int .i64 (((g k).2 : Nat) : Int))])).set i (.agg [.sl 5 ((g j).1.map enA), .raw (.int .i64 (((g j).2 : Nat) : Int))])).set j (.agg [.sl 5 ((g i).1.map enA), .raw (.int .i64 (((g i).2 : Nat) : Int))]) = (List.range N).map fun k => hdA (Plain.swpA g i j k) := bCk g N hi hj
 have hs1 : ∀ (y : AV), (((List.range N).map fun k => (.agg [.sl 5 ((g k).1.map enA), .raw (.int .i64 (((g k).2 : Nat) : Int))])).set i y)[j]? = ((List.range N).map fun k => (.agg [.sl 5 ((g k).1.map enA), .raw (.int .i64 (((g k).2 : Nat) : Int))]))[j]? := fun y => aKq og y
 refine cQ mixed rfl ?_
 simp only [go_sem, hr1, hr2, hs1, hdA, D0, A6, D7]
 refine (jr) ?_
 rw [hrow]
 refine (jy) ?_
 refine ⟨[], ?_⟩
 simp only [go_sem, AObj.bel, AObj.ren, AV.ren, aB, sg, aM, hcE] <;> simp
 exact ⟨fun _ _ => rfl, aEh _ (Plain.swpA g i j) _⟩
def aFn (g : Nat -> List Entry × Nat) (N : Nat) (hN : N <= 1048576) (hp : 0 < N) : aO P 235 [.ptr 0 0] [(0, hcE), (1, aM g N)] 2 (.iface 76 (hdA (g (N - 1)))) [(0, .cells 72 [.ref 2]), (1, .dead), (2, aM g (N - 1))] 3 := by
 refine (gq 23 [.tmp 2] func235) ?_
 simp only [aM, hcE]
 have hr1 : (List.range N)[N - 1]? = some (N - 1) := C6 og
 have hw := wr ((N : Int) - 1) (((N - 1 : Nat) : Int)) og
 have hrow : ((List.range N).map fun k => (.agg [.sl 5 ((g k).1.map enA), .raw (.int .i64 (((g k).2 : Nat) : Int))])).take (((N - 1 : Nat) : Int).toNat) = (List.range (N - 1)).map fun k => hdA (g k) := by rw [Int.toNat_natCast, <- E9, List.take_range, Nat.min_eq_left og]; rfl
 have hrow2 : ((List.range N).map fun k => (.agg [.sl 5 ((g k).1.map enA), .raw (.int .i64 (((g k).2 : Nat) : Int))])).take (N - 1) = (List.range (N - 1)).map fun k => hdA (g k) := hrow
 refine (aj) ((aj) ?_)
 refine sr rfl fun k3 => ?_
 simp only [go_sem, hw, hr1, hdA, A6, D7]
 refine (jr) (k3 (sr rfl fun k4 => ?_))
 simp only [go_sem, hw, hrow, hrow2, A6, D7]
 refine (jr) ?_
 refine vC (fun hN => aPi (h := ((N - 1 : Nat) : Int)) rfl rfl hN slH rfl rfl rfl og oS) (.inr dg) ?_
 simp only [go_sem, hrow, hrow2, hw, hrow, hrow2, A6, D7]
 refine (jr) (k4 (sr rfl fun k5 => ?_))
 simp only [go_sem, bQu]
 refine k5 (wR ?_)
 refine ⟨[(2, 3)], ?_⟩
 simp only [go_sem, AObj.bel, AObj.ren, AV.ren, aB, sg, aM, hcE] <;> first | (simp; done) | (simp [hdA]; done)
def iS (g : Nat -> List Entry × Nat) (N : Nat) (hN : N <= 1048576) (i n : Nat) (hne : NE g n) (hi : i <= 1048576) (hn : n <= N) : aO P 98 [.iface 78 (.ptr 0 0), Ni (i : Int), Ni (n : Int)] [(0, hcE), (1, aM g N)] 2 (Nb (decide ((i : Int) < ((Plain.downGo (Plain.hless entLt) n n g i).2 : Int)))) [(0, hcE), (1, aM ((Plain.downGo (Plain.hless entLt) n n g i).1) N)] 2 := by
 refine (gq 48 [.tmp 6] func98) ?_
 simp only [aM, hcE]
 refine (aj) ((aj) ?_)
 refine aA fun k3 => wb ?_
 refine wl (α := Nat × (Nat -> List Entry × Nat) × Nat) (fun x => NE x.2.1 n /\ x.2.2 <= 1048576 /\ n <= x.1 + x.2.2 /\ Plain.downGo (Plain.hless entLt) n x.1 x.2.1 x.2.2 = Plain.downGo (Plain.hless entLt) n n g i) (fun x => n - x.2.2) (fun x => ([(0, .iface 78 (.ptr 0 0)), (1, Ni (i : Int)), (2, Ni (n : Int)), (7, Ni (x.2.2 : Int))], [(0, hcE), (1, aM x.2.1 N)])) 2 (n, g, i) ⟨hne, hi, Nat.le_add_right _ _, rfl⟩ [] ?_ ?_
 . simp only [go_sem, AObj.bel, AObj.ren, AV.ren, aB, sg, Int.natCast_zero, aM, hcE] <;> first | (simp; done) | (simp [hdA]; done)
 rintro ⟨f, τ, j⟩ ⟨hne2, hj, hf, hgo⟩
 simp only at hne2 hj hf hgo ⊢
 have hw2 := wr (2 * (j : Int)) (((2 * j : Nat) : Int)) og
 have hw3 := wr (((2 * j : Nat) : Int) + 1) (((2 * j + 1 : Nat) : Int)) og
 have hw4 := wr (((2 * j + 1 : Nat) : Int) + 1) (((2 * j + 2 : Nat) : Int)) og
 refine wb (sr rfl fun k4 => (Aq hw2 hw3) (k4 (aA fun k5 => (aj) ((cdA) ?_ ?_)))) <;> intro hc1
 . have hge : ¬ 2 * j + 1 < n := by simp at hc1; omega
   have hfin : Plain.downGo (Plain.hless entLt) n f τ j = (τ, j) := aQt fun h => hge h.1
   refine we ((jt) (k3 ((aj) (wR ?_))))
   rw [<- hgo, hfin]; refine ⟨[], ?_⟩
   simp only [go_sem, AObj.bel, AObj.ren, AV.ren, aB, sg, aM, hcE] <;> first | (simp; done) | (simp [hdA]; done)
 have hlt : 2 * j + 1 < n := by simp at hc1; omega
 obtain ⟨hk1, hk2⟩ := bAj τ hlt
 refine wk (k5 ((aj) ?_))
 refine uY (α := Unit) (fun x => True) (fun x => ([(0, .iface 78 (.ptr 0 0)), (1, Ni (i : Int)), (2, Ni (n : Int)), (7, Ni (j : Int)), (9, Ni (Plain.kid (Plain.hless entLt) τ n j : Int))], [(0, hcE), (1, aM τ N)])) 2 ?_ ?_
 . refine sr rfl fun k10 => (Aa hw4) (k10 (sr rfl fun k11 => (ja) ?_))
   refine vig [] (xs := [Ni ((2 * j + 2 : Nat) : Int), Ni ((2 * j + 1 : Nat) : Int)]) rfl rfl rfl rfl rfl rfl (fun _ => rfl) bCa pH vH ⟨func233, rfl, rfl⟩ (fun hg => tE τ N hN (2 * j + 2) (2 * j + 1) (by simp at hg; omega) og (hne2 _ (by simp at hg; omega)) (hne2 _ og)) (by simp [sg, Abs.get]) rfl rfl oG (fun hg => rfl) rfl oG (rM (.inl rfl) Aj Aj Ak Ak oS ⟨rfl, rfl⟩ dg) (bQr rfl rfl (aZl _ _ _)) trivial ?_
   refine (Av) (k11 ((cdA) ?_ ?_)) <;> intro hc2
   . have q1 : Plain.kid (Plain.hless entLt) τ n j = 2 * j + 2 := by unfold Plain.kid; rw [if_pos]; simp at hc2; exact ⟨og, hc2.2⟩
     refine wg rfl ((ja) ?_)
     try simp only [aCh]
     refine ⟨(), trivial, [], ?_⟩
     simp only [go_sem, AObj.bel, AObj.ren, AV.ren, aB, sg, Int.natCast_zero, aM, hcE] <;> first | (simp [q1]; done) | (simp [hdA, q1]; done)
   have q1 : Plain.kid (Plain.hless entLt) τ n j = 2 * j + 1 := by unfold Plain.kid; rw [if_neg]; intro h; simp at hc2; have := hc2 og; rw [this] at h; cases h.2
   refine wk ?_; try simp only [aCh]
   refine ⟨(), trivial, [], ?_⟩
   simp only [go_sem, AObj.bel, AObj.ren, AV.ren, aB, sg, Int.natCast_zero, aM, hcE] <;> first | (simp [q1]; done) | (simp [hdA, q1]; done)
 rintro ⟨⟩ -
 refine aA fun k12 => sr rfl fun k13 => (ja) ?_
 refine vi [] 0 (xs := [Ni (Plain.kid (Plain.hless entLt) τ n j : Int), Ni (j : Int)]) rfl rfl rfl rfl bCa pH vH ⟨func233, rfl, rfl⟩ (tE τ N hN (Plain.kid (Plain.hless entLt) τ n j) j og og (hne2 _ og) (hne2 _ og)) rfl (by simp [sg, Abs.get]) rfl rfl rfl rfl oG (rM (.inl rfl) Aj Aj Ak Ak oS ⟨rfl, rfl⟩ dg) (.inl rfl) ?_
 refine (Av) (k13 ((cdA) ?_ ?_)) <;> intro hc3
 . have hfin : Plain.downGo (Plain.hless entLt) n f τ j = (τ, j) := aQt fun h => by rw [h.2] at hc3; simp at hc3
   refine we ((jt) (k3 ((aj) (wR ?_))))
   rw [<- hgo, hfin]; refine ⟨[], ?_⟩
   simp only [go_sem, AObj.bel, AObj.ren, AV.ren, aB, sg, aM, hcE] <;> first | (simp; done) | (simp [hdA]; done)
 have hless : Plain.hless entLt (τ (Plain.kid (Plain.hless entLt) τ n j)) (τ j) = true := by simpa using hc3
 obtain ⟨f', rfl⟩ : ∃ f', f = f' + 1 := ⟨f - 1, og⟩
 refine wk (k12 (sr rfl fun k15 => (ja) ?_))
 refine vi [] 0 (xs := [Ni (j : Int), Ni (Plain.kid (Plain.hless entLt) τ n j : Int)]) rfl rfl rfl rfl bDk pH vH ⟨func234, rfl, rfl⟩ (sX τ N hN j (Plain.kid (Plain.hless entLt) τ n j) og og og) rfl (by simp [sg, Abs.get]) rfl rfl rfl rfl oG (rM (.inl rfl) Aj Aj Ak Ak oS ⟨rfl, rfl⟩ dg) (.inl rfl) ?_
 refine (Av) (k15 (wg rfl ((ja) ((jt) ((jt) ?_)))))
 refine ⟨(f', Plain.swpA τ j (Plain.kid (Plain.hless entLt) τ n j), Plain.kid (Plain.hless entLt) τ n j), ⟨hne2.swp og og, by simp only; omega, by simp only; omega, by simp only; rw [bFi hlt hless] at hgo; exact hgo⟩, by simp only; omega, [], ?_⟩
 simp only [go_sem, AObj.bel, AObj.ren, AV.ren, aB, sg, Int.natCast_zero, aM, hcE] <;> first | (simp; done) | (simp [hdA]; done)
def zZ (g : Nat -> List Entry × Nat) (N : Nat) (hN : N <= 1048576)  : aO P 99 [.iface 78 (.ptr 0 0), Ni (0 : Int)] [(0, hcE), (1, aM g N)] 2 (.tup []) [(0, hcE), (1, aM (g) N)] 2 := by
 refine (gq 23 [] func99) ?_
 simp only [aM, hcE]; refine wb ?_
 refine wl (α := Nat) (fun x => True) (fun x => 0) (fun x => ([(0, .iface 78 (.ptr 0 0)), (1, Ni (0 : Int))], [(0, hcE), (1, aM g N)])) 2 0 trivial [] ?_ ?_
 . simp only [go_sem, AObj.bel, AObj.ren, AV.ren, aB, sg, Int.natCast_zero, aM, hcE] <;> first | (simp; done) | (simp [hdA]; done)
 rintro u -
 refine wb ?_
 have hq : IntKind.i64.wrap ((IntKind.i64.wrap (0 - 1)).tdiv 2) = 0 := by decide
 refine sr rfl fun k1 => (Aa hq) ((jr) (k1 (aA fun k2 => sr rfl fun k3 => (ja) ?_)))
 refine vC (fun hN => dK (rt := []) (rd := []) (val := Nb false) hN rfl rfl rfl rfl trivial (fun hg => absurd hg oS) (by trivial)) (.inl rfl) ?_
 refine (ja) (k3 ?_)
 refine cd rfl (fun hc1 => ?_) (fun hc => by simp at hc)
 refine we ((jt) ?_)
 refine ⟨[], ?_⟩; exact jz
def xB (g : Nat -> List Entry × Nat) (N : Nat) (hN : N <= 1048576) (hne : NE g N) : aO P 46 [.iface 78 (.ptr 0 0)] [(0, hcE), (1, aM g N)] 2 (.tup []) [(0, hcE), (1, aM (Plain.initGo (Plain.hless entLt) N (N / 2) g) N)] 2 := by
 refine (gq 17 [] func46) ?_
 simp only [aM, hcE]
 refine sr rfl fun k1 => (ja) ?_
 refine vi [] 0 (xs := []) rfl rfl rfl rfl aZr pH vH ⟨func232, rfl, rfl⟩ (pB g N hN) rfl (by simp [sg, Abs.get]) rfl rfl rfl rfl oG (rM (.inl rfl) Aj Aj Ak Ak oS ⟨rfl, rfl⟩ dg) (.inl rfl) ?_
 refine (Av) (k1 ?_)
 have hq : IntKind.i64.wrap (Int.tdiv (N : Int) 2) = ((N / 2 : Nat) : Int) := by rw [H5 og, IntKind.wrap_i64]; omega
 have hw1 := wr (((N / 2 : Nat) : Int) - 1) (((N / 2 : Nat) : Int) - 1) og
 refine sr rfl fun k2 => (Aq hq hw1) ((jr) (k2 (wb ?_)))
 refine wl (α := (Nat -> List Entry × Nat) × Nat) (fun x => NE x.1 N /\ x.2 <= 1048576 /\ Plain.initGo (Plain.hless entLt) N x.2 x.1 = Plain.initGo (Plain.hless entLt) N (N / 2) g) (fun x => x.2) (fun x => ([(0, .iface 78 (.ptr 0 0)), (2, Ni (N : Int)), (3, Ni ((x.2 : Int) - 1))], [(0, hcE), (1, aM x.1 N)])) 2 (g, N / 2) ⟨hne, by simp only; omega, rfl⟩ [] ?_ ?_
 . simp only [go_sem, AObj.bel, AObj.ren, AV.ren, aB, sg, Int.natCast_zero, aM, hcE] <;> first | (simp; done) | (simp [hdA]; done)
 rintro ⟨τ, j⟩ ⟨hne2, hj, hgo⟩
 simp only at hne2 hj hgo ⊢
 refine aA fun k3 => (aj) ((cdB) ?_ ?_) <;> intro hc1
 . have hj0 : j = 0 := by simp at hc1; omega
   subst hj0
   refine we ((jt) ?_)
   rw [<- hgo]; rw [Plain.initGo]; refine ⟨[], ?_⟩
   simp only [go_sem, AObj.bel, AObj.ren, AV.ren, aB, sg, aM, hcE] <;> first | (simp; done) | (simp [hdA]; done)
 obtain ⟨j', rfl⟩ : ∃ j', j = j' + 1 := ⟨j - 1, by simp at hc1; omega⟩
 have hjj : ((j' + 1 : Nat) : Int) - 1 = (j' : Int) := by omega
 rw [hjj]
 have hw3 := wr ((j' : Int) - 1) ((j' : Int) - 1) og
 refine wk (k3 (aA fun k5 => wb (wg rfl ((ja) ?_))))
 refine vg [] 0 rfl rfl rfl ⟨func98, rfl, rfl⟩ (iS τ N hN j' N hne2 og (A0 _)) rfl Bw oG (rM (.inl rfl) Aj Aj Ak Ak oS ⟨rfl, rfl⟩ dg) (.inl rfl) ?_
 refine (Av) ((jt) (k5 (wg rfl ((Aa hw3) ((jt) ?_)))))
 refine ⟨((Plain.downGo (Plain.hless entLt) N N τ j').1, j'), ⟨aDb _ _ _ hne2, by simp only; omega, by simp only; rw [bGq] at hgo; exact hgo⟩, by simp only; omega, [], ?_⟩
 simp only [go_sem, AObj.bel, AObj.ren, AV.ren, aB, sg, Int.natCast_zero, aM, hcE] <;> first | (simp; done) | (simp [hdA]; done)
end
section
variable {e : Entry} {r all l : List Entry} {n f m k : Nat}
def bPh (g : Nat -> List Entry × Nat) (N : Nat) (hN : N <= 1048576) (i j : Nat) (hi : i < N) (hj : j < N) : aO P 234 [.ref 1, Ni (i : Int), Ni (j : Int)] [(0, hcE), (1, aM g N)] 2 (.tup []) [(0, hcE), (1, aM (Plain.swpA g i j) N)] 2 := by
  by_cases h : i = j
  . subst h; rw [bCn]; exact bEp g N hN i hi
  exact sX g N hN i j hi hj h
open Go.Plain (mergeGo mergeAll qA dD dO hless)
def iI (lists : List (List Entry)) (k : Nat) : List (List Entry × Nat) := (qA (lists.take k)).map fun p => (bF p.1, p.2)
def aEu {lists : List (List Entry)} (h : lists[k]? = some l) : iI lists (k + 1) = iI lists k ++ (if l = [] then [] else [(bF l, k)]) := by
  have hk := (B2.1 h).1
  unfold iI qA; rw [F5, h, Option.toList_some, List.zipIdx_append, List.filter_append, D5]
  congr 1
  rw [B0, Nat.min_eq_left og]
  cases l <;> simp
def aXf {lists : List (List Entry)} : ∀ k, (iI lists k).length <= k := fun k => by
  unfold iI qA; rw [A6]
  refine F6 (List.length_filter_le _ _) ?_
  rw [List.length_zipIdx, B0]; omega
def gOf (hs : List (List Entry × Nat)) : Nat -> List Entry × Nat := fun k => hs.getD k ([], 0)
def bOp (hs : List (List Entry × Nat)) : hs.map hdA = (List.range hs.length).map fun k => hdA (gOf hs k) := by
  refine List.ext_getElem? fun i => ?_
  rw [B4, B4]
  by_cases h : i < hs.length
  . rw [C6 h, A1 h]
    simp [gOf, E7, A1 h]
  rw [E3 og, E3 (by simp; omega)]; rfl
def aRc (U : Nat -> Prop) (ls : List (List Entry × Nat)) : aI U (ls.map hdA) := pZ (f := hdA) (fun _ _ => aDi _ _) U ls
def bGg (σ : Nat -> Nat) (ls : List (List Entry × Nat)) : aB σ (ls.map hdA) = ls.map hdA := dJ σ (aRc _ ls)
attribute [go_sem] aRc bGg
def bGk : bF l = [] ↔ l = [] := by
  rw [<- List.length_eq_zero_iff, mL, List.length_eq_zero_iff]
def bCp (lists : List (List Entry)) (k : Nat) : NE (gOf (iI lists k)) (iI lists k).length := fun i hi => by
  unfold gOf; rw [E7, A1 hi, Option.getD_some]
  have hm := C9 hi
  generalize (iI lists k)[i] = p at hm
  unfold iI qA at hm
  obtain ⟨q, hq, rfl⟩ := A9.1 hm
  have := (List.mem_filter.1 hq).2
  simp only [ne_eq, bGk]
  simpa using this
def aQg (hs : List (List Entry × Nat)) : dD hs.length (gOf hs) = hs.flatMap (·.1) := by
  unfold dD
  congr 1
  refine List.ext_getElem? fun i => ?_
  rw [B4]
  by_cases h : i < hs.length
  . rw [C6 h, A1 h]
    simp [gOf, E7, A1 h]
  rw [E3 (by simp; omega), E3 og]; rfl
def aXo (lists : List (List Entry)) : mergeAll entLt lists = mergeGo entLt (dD (iI lists lists.length).length (gOf (iI lists lists.length))).length (Plain.initGo (hless entLt) (iI lists lists.length).length ((iI lists lists.length).length / 2) (gOf (iI lists lists.length))) (iI lists lists.length).length [] := by
  rw [aQg]; unfold mergeAll
  have : (qA lists).map (fun p => (p.1.foldl (Plain.put entLt) [], p.2)) = iI lists lists.length := by
    unfold iI; rw [F4]
    congr 1
    funext p
    rw [tY]
  simp only [this]; rfl
def aHb (lists : List (List Entry)) : ∀ k, ((iI lists k).flatMap (·.1)).length <= ((lists.take k).flatMap id).length
  | 0 => by simp [iI, qA]
  | k + 1 => by
    have ih := aHb lists k
    by_cases h : k < lists.length
    . have hl := A1 h
      rw [aEu hl, F5, hl, List.flatMap_append, List.flatMap_append]; split
      . simp at ih ⊢; omega
      simp [mL] at ih ⊢; omega
    have e1 : lists.take (k + 1) = lists.take k := by rw [List.take_of_length_le og, List.take_of_length_le og]
    have e2 : iI lists (k + 1) = iI lists k := by unfold iI; rw [e1]
    rw [e1, e2]; exact ih
def bGl {g : Nat -> List Entry × Nat} (h : (g 0).1 = [e]) : mergeGo entLt (f + 1) g (m + 1) all = mergeGo entLt f (Plain.downGo (hless entLt) m m (Plain.swpA (dO g) 0 m) 0).1 m (all ++ [e]) := by
  exact (@Go.Plain.mergeGo.eq_2 _ entLt g all f m e [] h).trans (if_pos rfl)
def bGy {g : Nat -> List Entry × Nat} (h : (g 0).1 = e :: r) (hr : r ≠ []) : mergeGo entLt (f + 1) g (m + 1) all = mergeGo entLt f (Plain.downGo (hless entLt) (m + 1) (m + 1) (dO g) 0).1 (m + 1) (all ++ [e]) := by
  exact (@Go.Plain.mergeGo.eq_2 _ entLt g all f m e r h).trans (if_neg fun h2 => hr (List.length_eq_zero_iff.1 h2))
def bFt {g : Nat -> List Entry × Nat} : mergeGo entLt f g 0 all = all := by
  cases f <;> simp [mergeGo]
def aEo {g : Nat -> List Entry × Nat} (h : (g 0).1 = e :: r) : dO g 0 = (r, (g 0).2) := by unfold dO Plain.updA; rw [if_pos rfl, h]; rfl
def aDv {g : Nat -> List Entry × Nat} (h : k ≠ 0) : dO g k = g k := by unfold dO Plain.updA; rw [if_neg h]
def bHc {g : Nat -> List Entry × Nat} (h : (g 0).1 = e :: r) : ((List.range n).map fun k => hdA (g k)).set 0 (.agg [.sl 5 (r.map enA), Ni (((g 0).2 : Nat) : Int)]) = (List.range n).map fun k => hdA (dO g k) := by
  refine List.ext_getElem? fun i => ?_
  rw [F9, B4, B4]; simp only [A6, D7]
  by_cases h0 : i = 0
  . subst h0
    by_cases hn : 0 < n
    . rw [if_pos rfl, if_pos hn, C6 hn, Option.map_some, aEo h]; rfl
    rw [if_pos rfl, if_neg hn, E3 (by simp; omega)]; rfl
  rw [if_neg (fun e => h0 e.symm)]
  by_cases hn : i < n
  . rw [C6 hn, Option.map_some, Option.map_some, aDv h0]
  rw [E3 (by simp; omega)]; rfl
def bDj {g : Nat -> List Entry × Nat} (h : (g 0).1 = e :: r) (hr : r ≠ []) (hne : NE g m) : NE (dO g) m := fun k hk => by
  by_cases h0 : k = 0
  . subst h0; rw [aEo h]; exact hr
  rw [aDv h0]; exact hne k hk
def aXr {g : Nat -> List Entry × Nat} (hne : NE g (m + 1)) : NE (Plain.swpA (dO g) 0 m) m := fun k hk => by
  unfold Plain.swpA; split
  . rw [aDv og]; exact hne m og
  rename_i h
  rw [if_neg og, aDv h]; exact hne k og
def bLp {g : Nat -> List Entry × Nat} (h : (g 0).1 = [e]) : (dD m (Plain.downGo (hless entLt) m m (Plain.swpA (dO g) 0 m) 0).1).length + 1 = (dD (m + 1) g).length := by
  have h1 := (Plain.flatH_same (zD (n := m) m (Plain.swpA (dO g) 0 m) 0)).length_eq
  have h2 := (Plain.flatH_same (Plain.SameA.swp (n := m + 1) (dO g) (i := 0) (j := m) og og)).length_eq
  rw [Plain.flatH_succ, A2] at h2
  have h3 : (Plain.swpA (dO g) 0 m m).1 = [] := by
    unfold Plain.swpA; split
    . rename_i h0; rw [h0, aEo h]
    rw [if_pos rfl, aEo h]
  rw [h3] at h2
  have h4 := congrArg List.length (Plain.flatH_top (m := m) h)
  rw [C4] at h4; simp at h2; omega
def bKv {g : Nat -> List Entry × Nat} (h : (g 0).1 = e :: r) : (dD (m + 1) (Plain.downGo (hless entLt) (m + 1) (m + 1) (dO g) 0).1).length + 1 = (dD (m + 1) g).length := by
  have h1 := (Plain.flatH_same (zD (n := m + 1) (m + 1) (dO g) 0)).length_eq
  have h4 := congrArg List.length (Plain.flatH_top (m := m) h)
  rw [C4] at h4; omega
def bLo {g : Nat -> List Entry × Nat} (hne : NE g n) (hn : 0 < n) (hf : (dD n g).length <= f) : 0 < f := by
  obtain ⟨m, rfl⟩ : ∃ m, n = m + 1 := ⟨n - 1, og⟩
  obtain ⟨e, r, h⟩ := G4 (hne 0 hn)
  have h4 := congrArg List.length (Plain.flatH_top (m := m) h)
  rw [C4] at h4; omega
def bBt {g : Nat -> List Entry × Nat} (hn : 0 < n) (h : (g 0).1 = [e]) : mergeGo entLt (f + 1) g n all = mergeGo entLt f (Plain.downGo (hless entLt) (n - 1) (n - 1) (Plain.swpA (dO g) 0 (n - 1)) 0).1 (n - 1) (all ++ [e]) := by
  obtain ⟨m, rfl⟩ : ∃ m, n = m + 1 := ⟨n - 1, og⟩
  exact bGl h
def aZy {g : Nat -> List Entry × Nat} (hn : 0 < n) (h : (g 0).1 = e :: r) (hr : r ≠ []) : mergeGo entLt (f + 1) g n all = mergeGo entLt f (Plain.downGo (hless entLt) n n (dO g) 0).1 n (all ++ [e]) := by
  obtain ⟨m, rfl⟩ : ∃ m, n = m + 1 := ⟨n - 1, og⟩
  exact bGy h hr
def aDp {g : Nat -> List Entry × Nat} (hn : 0 < n) (hne : NE g n) : NE (Plain.swpA (dO g) 0 (n - 1)) (n - 1) := by
  obtain ⟨m, rfl⟩ : ∃ m, n = m + 1 := ⟨n - 1, og⟩
  exact aXr hne
def bEy {g : Nat -> List Entry × Nat} (hn : 0 < n) (h : (g 0).1 = [e]) : (dD (n - 1) (Plain.downGo (hless entLt) (n - 1) (n - 1) (Plain.swpA (dO g) 0 (n - 1)) 0).1).length + 1 = (dD n g).length := by
  obtain ⟨m, rfl⟩ : ∃ m, n = m + 1 := ⟨n - 1, og⟩
  exact bLp h
def bFj {g : Nat -> List Entry × Nat} (hn : 0 < n) (h : (g 0).1 = e :: r) : (dD n (Plain.downGo (hless entLt) n n (dO g) 0).1).length + 1 = (dD n g).length := by
  obtain ⟨m, rfl⟩ : ∃ m, n = m + 1 := ⟨n - 1, og⟩
  exact bKv h
def bRt (lists : List (List Entry)) : Prop := lists.length <= 1048576 /\ (∀ l ∈ lists, l.length <= 1048576) /\ (lists.flatMap id).length <= 1000000000
def yP (g : Nat -> List Entry × Nat) (N : Nat) (hN : N <= 1048576) (hne : NE g N) : aO P 48 [.iface 78 (.ptr 0 0), Ni (0 : Int)] [(0, hcE), (1, aM g N)] 2 (.tup []) [(0, hcE), (1, aM ((Plain.downGo (Plain.hless entLt) N N g 0).1) N)] 2 := by
 refine (gq 13 [] func48) ?_
 simp only [aM, hcE]
 refine sr rfl fun k1 => (ja) ?_
 refine vi [] 0 (xs := []) rfl rfl rfl rfl aZr pH vH ⟨func232, rfl, rfl⟩ (pB g N hN) rfl (by simp [sg, Abs.get]) rfl rfl rfl rfl oG (rM (.inl rfl) Aj Aj Ak Ak oS ⟨rfl, rfl⟩ dg) (.inl rfl) ?_
 refine (Av) ?_
 refine vg [] 0 rfl rfl rfl ⟨func98, rfl, rfl⟩ (iS g N hN 0 N hne og (A0 _)) rfl Bw oG (rM (.inl rfl) Aj Aj Ak Ak oS ⟨rfl, rfl⟩ dg) (.inl rfl) ?_
 refine (Av) (k1 ((cdB) ?_ ?_)) <;> intro hc1
 . refine wk ?_; refine ⟨[], ?_⟩
   simp only [go_sem, AObj.bel, AObj.ren, AV.ren, aB, sg, aM, hcE] <;> first | (simp; done) | (simp [hdA]; done)
 refine wg rfl ((ja) ?_)
 refine vg [] 0 rfl rfl rfl ⟨func99, rfl, rfl⟩ (zZ (Plain.downGo (Plain.hless entLt) N N g 0).1 N hN) rfl Bw oG (rM (.inl rfl) Aj Aj Ak Ak oS ⟨rfl, rfl⟩ dg) (.inl rfl) ?_
 refine (Av) ?_
 refine ⟨[], ?_⟩
 simp only [go_sem, AObj.bel, AObj.ren, AV.ren, aB, sg, aM, hcE] <;> first | (simp; done) | (simp [hdA]; done)
def yG (g : Nat -> List Entry × Nat) (N : Nat) (hN : N <= 1048576) (hp : 0 < N) (hne : NE (Plain.swpA g 0 (N - 1)) (N - 1)) : aO P 47 [.iface 78 (.ptr 0 0)] [(0, hcE), (1, aM g N)] 2 (.iface 76 (hdA ((Plain.downGo (Plain.hless entLt) (N - 1) (N - 1) (Plain.swpA g 0 (N - 1)) 0).1 (N - 1)))) [(0, .cells 72 [.ref 2]), (1, .dead), (2, aM (Plain.downGo (Plain.hless entLt) (N - 1) (N - 1) (Plain.swpA g 0 (N - 1)) 0).1 (N - 1))] 3 := by
 refine (gq 15 [.tmp 2] func47) ?_
 simp only [aM, hcE]
 have hw := wr ((N : Int) - 1) (((N - 1 : Nat) : Int)) og
 refine (aj) ?_
 refine sr rfl fun k2 => (Aa hw) ?_
 refine vi [] 0 (xs := []) rfl rfl rfl rfl aZr pH vH ⟨func232, rfl, rfl⟩ (pB g N hN) rfl (by simp [sg, Abs.get]) rfl rfl rfl rfl oG (rM (.inl rfl) Aj Aj Ak Ak oS ⟨rfl, rfl⟩ dg) (.inl rfl) ?_
 simp only [go_sem, AV.ren, AObj.ren, aB, shift, sg, A0, Nat.add_zero, Nat.sub_self, aM, hcE, hw]
 refine k2 (sr rfl fun k3 => (ja) ?_)
 refine vi [] 0 (xs := [Ni (0 : Int), Ni ((N - 1 : Nat) : Int)]) rfl rfl rfl rfl bDk pH vH ⟨func234, rfl, rfl⟩ (bPh g N hN 0 (N - 1) hp og) rfl (by simp [sg, Abs.get]) rfl rfl rfl rfl oG (rM (.inl rfl) Aj Aj Ak Ak oS ⟨rfl, rfl⟩ dg) (.inl rfl) ?_
 refine (Av) (k3 (sr rfl fun k4 => (ja) ?_))
 refine vg [] 0 rfl rfl rfl ⟨func98, rfl, rfl⟩ (iS (Plain.swpA g 0 (N - 1)) N hN 0 (N - 1) hne og og) rfl Bw oG (rM (.inl rfl) Aj Aj Ak Ak oS ⟨rfl, rfl⟩ dg) (.inl rfl) ?_
 refine (Av) (k4 (sr rfl fun k5 => (ja) ?_))
 refine vj [] 1 (xs := []) rfl rfl rfl rfl bPn pH' uH ⟨func235, rfl, rfl⟩ (aFn (Plain.downGo (Plain.hless entLt) (N - 1) (N - 1) (Plain.swpA g 0 (N - 1)) 0).1 N hN hp) rfl rfl rfl oG (rM (.inl rfl) Aj Aj Ak Ak oS ⟨rfl, rfl⟩ dg) (.inr dg) ?_
 refine (Av) (k5 (wR ?_))
 refine ⟨[], ?_⟩
 simp only [go_sem, AObj.bel, AObj.ren, AV.ren, aB, sg, aM, hcE] <;> first | (simp; done) | (simp [hdA]; done)
def aIg (lists : List (List Entry)) (hz : bRt lists) : aO P 17 [.sl 1 (lists.map esA)] [] 0 (.ref 0) [(0, .row 43 5 ((mergeAll entLt lists).map enA))] 1 := by
 refine (gq 62 [.tmp 2] func17) ?_
 have hmx := mxl
 obtain ⟨hz1, hz2, hz3⟩ := hz
 have hhl := aXf (lists := lists) lists.length
 refine (aj) ((aj) ?_)
 refine aA fun k3 => (aj) (wb ?_)
 refine aVf (i := 0) (j := 0) 76 2 rfl rfl dg ?_
 refine (ja) ?_
 refine wn lists.length (fun x => ([(3, .ptr 0 0), (8, .sl 1 (lists.map esA)), (9, Ni (lists.length : Int)), (10, Ni (x : Int))], [(0, .cells 72 [.ref 1]), (1, .row 76 2 ((iI lists x).map hdA))])) 2 [] ?_ ?_
 . simp only [go_sem, AObj.bel, iI, qA, List.take_zero, List.zipIdx_nil, List.filter_nil, List.map_nil, Int.natCast_zero] <;> simp
 rintro i hi
 refine sr rfl fun k5 => (Au) (k5 (aA fun k6 => (cdA) ?_ ?_)) <;> intro hc1
 . obtain ⟨hlt, l, hl, _, hml⟩ := ixc hc1
   have hll := hz2 l hml
   have hhi := aXf (lists := lists) i
   have hsl := mL l
   refine wk (k6 (aA fun k7 => wb (sr rfl fun k8 => (Bh hl) ((jr) (k8 (sr rfl fun k9 => (Di) (k9 ((cdB) ?_ ?_)))))))) <;> intro hc2
   . have hlz : l = [] := by cases l with
       | nil => rfl
       | cons a b => simp at hc2 <;> omega
     have hstep : (iI lists i).map hdA = (iI lists (i + 1)).map hdA := by rw [aEu hl, if_pos hlz, List.append_nil]
     refine wk ((jt) (k7 ?_))
     have hw9 := wiS i og
     refine wg rfl ((Aa hw9) ((jt) ?_))
     refine ⟨i + 1, og, og, [], ?_⟩
     simp only [go_sem, AObj.bel, AObj.ren, AV.ren, aB, sg, Int.natCast_zero, aM, hcE]
     first | exact hstep | (simp; exact hstep) | exact ⟨hstep, trivial⟩
   have hlz : l ≠ [] := by intro h; rw [h] at hc2; simp at hc2
   have hstep : (iI lists i).map hdA ++ [AV.agg [.sl 5 ((bF l).map enA), .raw (.int .i64 (i : Int))]] = (iI lists (i + 1)).map hdA := by rw [aEu hl, if_neg hlz, D5]; rfl
   refine sr rfl fun k10 => (Di) ((jr) (k10 (sr rfl fun k11 => (ja) ?_)))
   refine vg [(0, 2)] 0 rfl rfl rfl ⟨func44, rfl, rfl⟩ (aZz l hll) rfl (by simp only [go_sem, gS, aB, AV.ren, sg]) Al (mZ (H1 := []) (.inr ⟨2, rfl⟩) (by simp only [go_sem, sg, AObj.ren]) (by simp only [go_sem, AObj.bel])) (.inl rfl) ?_
   refine (jn) (k11 ?_)
   refine aFz 2 rfl ?_
   refine (Ac) ?_
   refine wg rfl ((Au) ((jr) ((jt) (k7 ?_))))
   have hw9 := wiS i og
   refine wg rfl ((Aa hw9) ((jt) ?_))
   refine ⟨i + 1, og, og, [(1, 4)], ?_⟩
   simp only [go_sem, AObj.bel, AObj.ren, AV.ren, aB, sg, Int.natCast_zero, aM, hcE]
   first | exact hstep | (simp; exact hstep) | exact ⟨hstep, trivial⟩
 have hge : i = lists.length := by have h9 : ¬ i < lists.length := (by simpa using hc1); omega
 subst hge; rw [bOp]
 have hfl0 := A0 (dD (iI lists lists.length).length (gOf (iI lists lists.length))).length
 have hft := aHb lists lists.length
 rw [F4, <- aQg] at hft
 refine we ((jt) (k3 (sr rfl fun k12 => (ja) ?_)))
 refine vg [] 0 rfl rfl rfl ⟨func46, rfl, rfl⟩ (xB (gOf (iI lists lists.length)) (iI lists lists.length).length og (bCp _ _)) rfl Bw oG (rM (.inl rfl) Aj Aj Ak Ak oS ⟨rfl, rfl⟩ dg) (.inl rfl) ?_
 refine (Av) (k12 ((aj) ?_))
 refine aA fun k14 => wb ?_
 refine pV (t := 7) 43 5 rfl dg ?_
 refine (ja) ?_
 refine wl (α := Nat × (Nat -> List Entry × Nat) × Nat × List Entry) (fun x => (dD x.2.2.1 x.2.1).length <= x.1 /\ NE x.2.1 x.2.2.1 /\ x.2.2.1 <= 1048576 /\ x.2.2.2.length + x.1 <= 1000000000 /\ mergeGo entLt x.1 x.2.1 x.2.2.1 x.2.2.2 = mergeAll entLt lists) (fun x => x.1) (fun x => ([(3, .ptr 0 0), (7, .ref 2)], [(0, .cells 72 [.ref 1]), (1, aM x.2.1 x.2.2.1), (2, .row 43 5 (x.2.2.2.map enA))])) 3 ((dD (iI lists lists.length).length (gOf (iI lists lists.length))).length, Plain.initGo (Plain.hless entLt) (iI lists lists.length).length ((iI lists lists.length).length / 2) (gOf (iI lists lists.length)), (iI lists lists.length).length, []) ⟨by simp only; exact Nat.le_of_eq (Plain.flatH_same (aQz _ _)).length_eq, bCd _ _ (bCp _ _), by simp only; omega, by simp only [List.length_nil]; omega, (aXo lists).symm⟩ [] ?_ ?_
 . simp only [go_sem, AObj.bel, AObj.ren, AV.ren, aB, sg, Int.natCast_zero, aM, hcE] <;> first | (simp; done) | (simp [enA]; done)
 rintro ⟨f, g, n, all⟩ ⟨hfl, hne, hn, hlen, hgo⟩
 simp only at hfl hne hn hlen hgo ⊢
 refine aA fun k15 => sr rfl fun k16 => ?_
 simp only [go_sem, A6, D7]
 refine k16 ((cdB) ?_ ?_) <;> intro hc3
 . have hn0 : n = 0 := by simp at hc3; omega
   subst hn0; rw [bFt] at hgo
   refine we ((jt) (k14 ((aj) (wR ?_))))
   refine ⟨[(0, 2)], ?_⟩
   rw [hgo]; exact jz
 have hn0 : 0 < n := by simp at hc3; omega
 obtain ⟨f', rfl⟩ : ∃ f', f = f' + 1 := ⟨f - 1, by have := bLo hne hn0 hfl; omega⟩
 obtain ⟨e, r, hx⟩ := G4 (hne 0 hn0)
 have hr0 : (List.range n)[0]? = some 0 := C6 og
 have hA0 : hdA (g 0) = .agg [.sl 5 (enA e :: r.map enA), .raw (.int .i64 (((g 0).2 : Nat) : Int))] := by unfold hdA; rw [hx]; rfl
 have htk : (r.map enA).take r.length = r.map enA := List.take_of_length_le oS
 have hA1 : hdA (dO g 0) = .agg [.sl 5 (r.map enA), .raw (.int .i64 (((g 0).2 : Nat) : Int))] := by rw [aEo hx]; rfl
 refine wk (k15 (wb (sr rfl fun k17 => ?_)))
 simp only [go_sem, hr0, hA0, enA, Int.toNat_zero, List.getElem?_cons_zero, List.map_cons, C4, B0, A2, List.nil_append, A6, B1, D7]
 refine (jr) (k17 ?_)
 have hrow := bHc (n := n) hx
 refine sd mixed rfl fun k18 => ?_
 simp only [go_sem, htk, hr0, hA0, Int.toNat_zero, A6, D7, C4, List.drop_succ_cons, List.drop_zero, Int.toNat_one]
 refine (jr) ?_
 rw [hrow]
 refine (jy) (k18 (sr rfl fun k19 => ?_))
 simp only [go_sem, hr0, hA1, Int.toNat_zero, A6, D7]
 refine (jr) (k19 ((cdB) ?_ ?_)) <;> intro hc4
 . have hr : r ≠ [] := by intro h; rw [h] at hc4; simp at hc4
   refine wg rfl ((ja) ?_)
   refine vg [] 0 rfl rfl rfl ⟨func48, rfl, rfl⟩ (yP (dO g) n og (bDj hx hr hne)) rfl Bw oG (rM (.inl rfl) Aj Aj Ak Ak oS ⟨rfl, rfl⟩ dg) (.inl rfl) ?_
   refine (Av) ((jt) ((jt) ?_))
   refine ⟨(f', (Plain.downGo (hless entLt) n n (dO g) 0).1, n, all ++ [e]), ⟨by have := bFj hn0 hx; simp only; omega, aDb _ _ _ (bDj hx hr hne), by simp only; omega, by simp only [A2, List.length_singleton]; omega, by simp only; rw [aZy hn0 hx hr] at hgo; exact hgo⟩, by simp only; omega, [(2, 4)], ?_⟩
   simp only [go_sem, AObj.bel, AObj.ren, AV.ren, aB, sg, Int.natCast_zero, aM, hcE] <;> first | (simp; done) | (simp [enA]; done)
 have hr : r = [] := by cases r with
   | nil => rfl
   | cons a b => simp at hc4 <;> omega
 subst hr
 refine wg rfl ((ja) ?_)
 refine vg [] 1 rfl rfl rfl ⟨func47, rfl, rfl⟩ (yG (dO g) n og hn0 (aDp hn0 hne)) rfl oG oG (rM (.inl rfl) Aj Aj Ak Ak oS ⟨rfl, rfl⟩ dg) (.inr dg) ?_
 refine (Av) ((jt) ((jt) ?_))
 refine ⟨(f', (Plain.downGo (hless entLt) (n - 1) (n - 1) (Plain.swpA (dO g) 0 (n - 1)) 0).1, n - 1, all ++ [e]), ⟨by have := bEy hn0 hx; simp only; omega, aDb _ _ _ (aDp hn0 hne), by simp only; omega, by simp only [A2, List.length_singleton]; omega, by simp only; rw [bBt hn0 hx] at hgo; exact hgo⟩, by simp only; omega, [(1, 5), (2, 4)], ?_⟩
 simp only [go_sem, AObj.bel, AObj.ren, AV.ren, aB, sg, Int.natCast_zero, aM, hcE] <;> first | (simp; done) | (simp [enA]; done)
end
def bGd (ls : List Entry) : (AObj.row 43 5 (ls.map enA)).noFz = true := by
  show sB (ls.map enA) = true
  induction ls with
  | nil => rfl
  | cons a r ih => rw [List.map_cons, sB, ih]; rfl
def yI (ls : List Entry) (hz : cW ls) : aK P 56 [.sl 5 (ls.map enA)] [] 0 (Nb (isB ls)) := by
 refine (pq 40 [.tmp 2] func56) ?_
 have hlen := hz.1
 refine (aj) ?_
 refine aA fun k2 => (aj) ((cdA) ?_ ?_) <;> intro hc1
 . have hlb : (decide (1 <= (ls.length : Int)) && decide ((ls.length : Int) <= 12)) = false := by simp at hc1 ⊢; omega
   have h9 : isB ls = false := by unfold isB; rw [hlb, Bool.and_false]
   exact (aj) (wR (fq h9))
 have hlb : (decide (1 <= (ls.length : Int)) && decide ((ls.length : Int) <= 12)) = true := by simp at hc1 ⊢; omega
 refine wk (k2 (aA fun k5 => (aj) (wb ?_)))
 refine wa ls.length (jE ls) (fun x => ([(0, .sl 5 (ls.map enA)), (13, .sl 5 (ls.map enA)), (14, Ni (ls.length : Int)), (15, Ni (x : Int))], [])) 0 [] ?_ ?_
 . exact jc
 rintro i ⟨hi, hall⟩
 refine (aj) ?_
 refine aA fun k8 => (cdB) ?_ ?_ <;> intro hc2
 . have hge := gec hc2
   refine we ((jt) (k5 ((aj) (wR ?_))))
   have h9 : isB ls = true := by unfold isB; rw [gF hge hall, hlb]; rfl
   exact fq h9
 obtain ⟨hlt, l, hl, hdrop, hml⟩ := ixc hc2
 have hw1 := wr ((i : Int) - 1) ((i : Int) - 1) og
 have hpn : ((i : Int) - 1).toNat = i - 1 := by omega
 have hpv : ls[i - 1]? = some (bX ls i) := by unfold bX; rw [A1 og]; rfl
 refine wk (k8 (aA fun k9 => wb (sr rfl fun k10 => (An hl) ((jr) (k10 (sd mixed rfl fun k11 => (Ay hl hw1 hpn hpv) ((jr) ?_)))))))
 refine tp rfl rfl rfl ⟨func108, rfl, rfl⟩ (xZ l (hz.2 l hml)) Ae Ae ?_
 refine (Ay hl hw1 hpn hpv) ((jr) ((jy) (k11 ((cdA) ?_ ?_)))) <;> intro hc3
 . have hp : jE ls i = false := by unfold jE; rw [hl]; simp only [hc3]; rfl
   refine (aj) (wR ((Ah) ?_))
   have h9 : isB ls = false := by unfold isB; rw [hZ hlt hp]; rfl
   exact fq h9
 have hp : jE ls i = true := by unfold jE; rw [hl]; simp only [hc3]; rfl
 refine wk ((jt) (k9 ((jw (wiS i og)) ((jt) ?_))))
 refine ⟨i + 1, ⟨og, cG hall hp⟩, og, [], ?_⟩
 exact jo
def aVm {x y : Entry} (h1 : entLt x y = false) (h2 : entLt y x = false) : x.seq = y.seq := by
  rw [<- pO] at h1 h2
  rw [aHj x y] at h2
  simp at h1 h2
  have h0 : jZ x y = 0 := by omega
  unfold jZ at h0; split at h0
  . rename_i h; exact absurd h0 h
  unfold aIf at h0; split at h0
  . omega
  split at h0
  . omega
  omega
def aWl (seq : Int) : ∀ (r : List Entry) (i : Nat) (out : List Entry), out.length = i -> (∀ (k : Nat) (d : Entry), out[k]? = some d -> d.seq = seq + 1 + k) -> ∀ (k : Nat) (d : Entry), (uG seq r i out).1[k]? = some d -> d.seq = seq + 1 + k
  | [], i, out, _, h => h
  | e :: r, i, out, hi, h => by
    unfold uG; split
    . split
      . refine aWl seq r (i + 1) _ (by simp [hi]) fun k d hk => ?_
        by_cases hlt : k < out.length
        . rw [G6 hlt] at hk; exact h k d hk
        rw [G7 og] at hk
        have h0 : k - out.length = 0 := by
          have := (B2.1 hk).1
          simp at this; omega
        rw [h0] at hk; cases hk
        have : k = i := by omega
        subst this; rfl
      exact h
    exact h
end Go.Proofs.S
end
section
open Go.Shelf
namespace Go.Proofs
def Tryz.lays137_ren : Go.Shelf.Ren := ⟨fun | 137 => 155 | 217 => 174 | 266 => 192 | n => n, fun | 9 => 9 | 5 => 5 | 3 => 3 | n => n, fun | n => n⟩
theorem Tryz.lays137 : Go.Proofs.Lays.n137 Tryz.prog Tryz.lays137_ren := {
  mixed := by kernel_rfl
  f137 := Tryz.func155.trans (congrArg some (by kernel_rfl))
  f217 := Tryz.func174.trans (congrArg some (by kernel_rfl))
  f266 := Tryz.func192.trans (congrArg some (by kernel_rfl))
  t3 := Tryz.underlying3
  a3 := Tryz.isAgg3
  z3 := Tryz.sizeOf3
  v3 := Tryz.zeroValue3
  t5 := Tryz.underlying5
  a5 := Tryz.isAgg5
  z5 := Tryz.sizeOf5
  v5 := Tryz.zeroValue5
  t9 := Tryz.underlying9
  a9 := Tryz.isAgg9
  z9 := Tryz.sizeOf9
  v9 := Tryz.zeroValue9 }
def Tryz.laysM171_ren : Go.Shelf.Ren := ⟨fun | 171 => 58 | 243 => 110 | 246 => 143 | 283 => 160 | 284 => 161 | 285 => 162 | 286 => 163 | 129 => 183 | 317 => 182 | 318 => 184 | 319 => 185 | 320 => 186 | 337 => 196 | 338 => 197 | n => n, fun | 3 => 3 | 9 => 9 | 2 => 2 | 4 => 4 | 171 => 182 | 0 => 0 | 53 => 183 | 37 => 22 | 5 => 5 | 173 => 186 | 212 => 205 | 51 => 206 | 20 => 20 | 213 => 207 | 46 => 181 | 232 => 225 | 233 => 226 | n => n, fun | 17 => 0 | 18 => 4 | 19 => 5 | n => n⟩
theorem Tryz.laysM171 : Go.Proofs.LaysM.n171 Tryz.prog Tryz.laysM171_ren := {
  mixed := by kernel_rfl
  f129 := Tryz.func183.trans (congrArg some (by kernel_rfl))
  f171 := Tryz.func58.trans (congrArg some (by kernel_rfl))
  f243 := Tryz.func110.trans (congrArg some (by kernel_rfl))
  f246 := Tryz.func143.trans (congrArg some (by kernel_rfl))
  f283 := Tryz.func160.trans (congrArg some (by kernel_rfl))
  f284 := Tryz.func161.trans (congrArg some (by kernel_rfl))
  f285 := Tryz.func162.trans (congrArg some (by kernel_rfl))
  f286 := Tryz.func163.trans (congrArg some (by kernel_rfl))
  f317 := Tryz.func182.trans (congrArg some (by kernel_rfl))
  f318 := Tryz.func184.trans (congrArg some (by kernel_rfl))
  f319 := Tryz.func185.trans (congrArg some (by kernel_rfl))
  f320 := Tryz.func186.trans (congrArg some (by kernel_rfl))
  f337 := Tryz.func196.trans (congrArg some (by kernel_rfl))
  f338 := Tryz.func197.trans (congrArg some (by kernel_rfl))
  t0 := Tryz.underlying0
  a0 := Tryz.isAgg0
  z0 := Tryz.sizeOf0
  v0 := Tryz.zeroValue0
  t2 := Tryz.underlying2
  a2 := Tryz.isAgg2
  z2 := Tryz.sizeOf2
  v2 := Tryz.zeroValue2
  t3 := Tryz.underlying3
  a3 := Tryz.isAgg3
  z3 := Tryz.sizeOf3
  v3 := Tryz.zeroValue3
  t4 := Tryz.underlying4
  a4 := Tryz.isAgg4
  z4 := Tryz.sizeOf4
  v4 := Tryz.zeroValue4
  t5 := Tryz.underlying5
  a5 := Tryz.isAgg5
  z5 := Tryz.sizeOf5
  v5 := Tryz.zeroValue5
  t9 := Tryz.underlying9
  a9 := Tryz.isAgg9
  z9 := Tryz.sizeOf9
  v9 := Tryz.zeroValue9
  t20 := Tryz.underlying20
  a20 := Tryz.isAgg20
  z20 := Tryz.sizeOf20
  v20 := Tryz.zeroValue20
  t37 := Tryz.underlying22
  a37 := Tryz.isAgg22
  z37 := Tryz.sizeOf22
  v37 := Tryz.zeroValue22
  t46 := Tryz.underlying181
  a46 := Tryz.isAgg181
  z46 := Tryz.sizeOf181
  v46 := Tryz.zeroValue181
  t51 := Tryz.underlying206
  a51 := Tryz.isAgg206
  z51 := Tryz.sizeOf206
  v51 := Tryz.zeroValue206
  t53 := Tryz.underlying183
  a53 := Tryz.isAgg183
  z53 := Tryz.sizeOf183
  v53 := Tryz.zeroValue183
  t171 := Tryz.underlying182
  a171 := Tryz.isAgg182
  z171 := Tryz.sizeOf182
  v171 := Tryz.zeroValue182
  t173 := Tryz.underlying186
  a173 := Tryz.isAgg186
  z173 := Tryz.sizeOf186
  v173 := Tryz.zeroValue186
  t212 := Tryz.underlying205
  a212 := Tryz.isAgg205
  z212 := Tryz.sizeOf205
  v212 := Tryz.zeroValue205
  t213 := Tryz.underlying207
  a213 := Tryz.isAgg207
  z213 := Tryz.sizeOf207
  t232 := Tryz.underlying225
  a232 := Tryz.isAgg225
  z232 := Tryz.sizeOf225
  v232 := Tryz.zeroValue225
  t233 := Tryz.underlying226
  a233 := Tryz.isAgg226
  z233 := Tryz.sizeOf226
  v233 := Tryz.zeroValue226
  g17 := by kernel_rfl
  g18 := by kernel_rfl
  g19 := by kernel_rfl
  i0 := by kernel_rfl
  i2 := by kernel_rfl
  i3 := by kernel_rfl
  i4 := by kernel_rfl
  i5 := by kernel_rfl
  i9 := by kernel_rfl
  i20 := by kernel_rfl
  i37 := by kernel_rfl
  i46 := by kernel_rfl
  i51 := by kernel_rfl
  i53 := by kernel_rfl
  i171 := by kernel_rfl
  i173 := by kernel_rfl
  i212 := by kernel_rfl
  i232 := by kernel_rfl
  i233 := by kernel_rfl
  m17 := by kernel_rfl
  m18 := by kernel_rfl
  m19 := by kernel_rfl }
def Tryz.laysC172_ren : Go.Shelf.Ren := ⟨fun | 172 => 127 | 244 => 156 | 245 => 157 | 247 => 175 | 279 => 176 | 280 => 177 | 281 => 178 | 282 => 179 | 287 => 193 | 316 => 194 | 171 => 58 | 205 => 195 | 321 => 201 | 322 => 202 | 243 => 110 | 246 => 143 | 283 => 160 | 284 => 161 | 285 => 162 | 286 => 163 | 129 => 183 | 317 => 182 | 318 => 184 | 319 => 185 | 320 => 186 | 337 => 196 | 338 => 197 | n => n, fun | 9 => 9 | 3 => 3 | 75 => 89 | 76 => 90 | 4 => 4 | 5 => 5 | 167 => 198 | 37 => 22 | 0 => 0 | 85 => 199 | 2 => 2 | 168 => 201 | 53 => 183 | 175 => 211 | 46 => 181 | 210 => 215 | 127 => 142 | 145 => 224 | 143 => 222 | 21 => 21 | 171 => 182 | 173 => 186 | 212 => 205 | 51 => 206 | 20 => 20 | 213 => 207 | 232 => 225 | 233 => 226 | 80 => 94 | n => n, fun | 15 => 1 | 16 => 2 | 17 => 0 | 18 => 4 | 19 => 5 | n => n⟩
theorem Tryz.laysC172 : Go.Proofs.LaysC.n172 Tryz.prog Tryz.laysC172_ren := {
  mixed := by kernel_rfl
  f129 := Tryz.func183.trans (congrArg some (by kernel_rfl))
  f171 := Tryz.func58.trans (congrArg some (by kernel_rfl))
  f172 := Tryz.func127.trans (congrArg some (by kernel_rfl))
  f205 := Tryz.func195.trans (congrArg some (by kernel_rfl))
  f243 := Tryz.func110.trans (congrArg some (by kernel_rfl))
  f244 := Tryz.func156.trans (congrArg some (by kernel_rfl))
  f245 := Tryz.func157.trans (congrArg some (by kernel_rfl))
  f246 := Tryz.func143.trans (congrArg some (by kernel_rfl))
  f247 := Tryz.func175.trans (congrArg some (by kernel_rfl))
  f279 := Tryz.func176.trans (congrArg some (by kernel_rfl))
  f280 := Tryz.func177.trans (congrArg some (by kernel_rfl))
  f281 := Tryz.func178.trans (congrArg some (by kernel_rfl))
  f282 := Tryz.func179.trans (congrArg some (by kernel_rfl))
  f283 := Tryz.func160.trans (congrArg some (by kernel_rfl))
  f284 := Tryz.func161.trans (congrArg some (by kernel_rfl))
  f285 := Tryz.func162.trans (congrArg some (by kernel_rfl))
  f286 := Tryz.func163.trans (congrArg some (by kernel_rfl))
  f287 := Tryz.func193.trans (congrArg some (by kernel_rfl))
  f316 := Tryz.func194.trans (congrArg some (by kernel_rfl))
  f317 := Tryz.func182.trans (congrArg some (by kernel_rfl))
  f318 := Tryz.func184.trans (congrArg some (by kernel_rfl))
  f319 := Tryz.func185.trans (congrArg some (by kernel_rfl))
  f320 := Tryz.func186.trans (congrArg some (by kernel_rfl))
  f321 := Tryz.func201.trans (congrArg some (by kernel_rfl))
  f322 := Tryz.func202.trans (congrArg some (by kernel_rfl))
  f337 := Tryz.func196.trans (congrArg some (by kernel_rfl))
  f338 := Tryz.func197.trans (congrArg some (by kernel_rfl))
  t0 := Tryz.underlying0
  a0 := Tryz.isAgg0
  z0 := Tryz.sizeOf0
  v0 := Tryz.zeroValue0
  t2 := Tryz.underlying2
  a2 := Tryz.isAgg2
  z2 := Tryz.sizeOf2
  v2 := Tryz.zeroValue2
  t3 := Tryz.underlying3
  a3 := Tryz.isAgg3
  z3 := Tryz.sizeOf3
  v3 := Tryz.zeroValue3
  t4 := Tryz.underlying4
  a4 := Tryz.isAgg4
  z4 := Tryz.sizeOf4
  v4 := Tryz.zeroValue4
  t5 := Tryz.underlying5
  a5 := Tryz.isAgg5
  z5 := Tryz.sizeOf5
  v5 := Tryz.zeroValue5
  t9 := Tryz.underlying9
  a9 := Tryz.isAgg9
  z9 := Tryz.sizeOf9
  v9 := Tryz.zeroValue9
  t20 := Tryz.underlying20
  a20 := Tryz.isAgg20
  z20 := Tryz.sizeOf20
  v20 := Tryz.zeroValue20
  t21 := Tryz.underlying21
  a21 := Tryz.isAgg21
  z21 := Tryz.sizeOf21
  v21 := Tryz.zeroValue21
  t37 := Tryz.underlying22
  a37 := Tryz.isAgg22
  z37 := Tryz.sizeOf22
  v37 := Tryz.zeroValue22
  t46 := Tryz.underlying181
  a46 := Tryz.isAgg181
  z46 := Tryz.sizeOf181
  v46 := Tryz.zeroValue181
  t51 := Tryz.underlying206
  a51 := Tryz.isAgg206
  z51 := Tryz.sizeOf206
  v51 := Tryz.zeroValue206
  t53 := Tryz.underlying183
  a53 := Tryz.isAgg183
  z53 := Tryz.sizeOf183
  v53 := Tryz.zeroValue183
  t75 := Tryz.underlying89
  a75 := Tryz.isAgg89
  z75 := Tryz.sizeOf89
  v75 := Tryz.zeroValue89
  t76 := Tryz.underlying90
  a76 := Tryz.isAgg90
  z76 := Tryz.sizeOf90
  v76 := Tryz.zeroValue90
  t85 := Tryz.underlying199
  a85 := Tryz.isAgg199
  z85 := Tryz.sizeOf199
  v85 := Tryz.zeroValue199
  t127 := Tryz.underlying142
  a127 := Tryz.isAgg142
  z127 := Tryz.sizeOf142
  v127 := Tryz.zeroValue142
  t143 := Tryz.underlying222
  a143 := Tryz.isAgg222
  z143 := Tryz.sizeOf222
  v143 := Tryz.zeroValue222
  t145 := Tryz.underlying224
  a145 := Tryz.isAgg224
  z145 := Tryz.sizeOf224
  v145 := Tryz.zeroValue224
  t167 := Tryz.underlying198
  a167 := Tryz.isAgg198
  z167 := Tryz.sizeOf198
  v167 := Tryz.zeroValue198
  t168 := Tryz.underlying201
  a168 := Tryz.isAgg201
  z168 := Tryz.sizeOf201
  v168 := Tryz.zeroValue201
  t171 := Tryz.underlying182
  a171 := Tryz.isAgg182
  z171 := Tryz.sizeOf182
  v171 := Tryz.zeroValue182
  t173 := Tryz.underlying186
  a173 := Tryz.isAgg186
  z173 := Tryz.sizeOf186
  v173 := Tryz.zeroValue186
  t175 := Tryz.underlying211
  a175 := Tryz.isAgg211
  z175 := Tryz.sizeOf211
  v175 := Tryz.zeroValue211
  t210 := Tryz.underlying215
  a210 := Tryz.isAgg215
  z210 := Tryz.sizeOf215
  v210 := Tryz.zeroValue215
  t212 := Tryz.underlying205
  a212 := Tryz.isAgg205
  z212 := Tryz.sizeOf205
  v212 := Tryz.zeroValue205
  t213 := Tryz.underlying207
  a213 := Tryz.isAgg207
  z213 := Tryz.sizeOf207
  t232 := Tryz.underlying225
  a232 := Tryz.isAgg225
  z232 := Tryz.sizeOf225
  v232 := Tryz.zeroValue225
  t233 := Tryz.underlying226
  a233 := Tryz.isAgg226
  z233 := Tryz.sizeOf226
  v233 := Tryz.zeroValue226
  g15 := by kernel_rfl
  g16 := by kernel_rfl
  g17 := by kernel_rfl
  g18 := by kernel_rfl
  g19 := by kernel_rfl
  t80 := Tryz.underlying94
  a80 := Tryz.isAgg94
  z80 := Tryz.sizeOf94
  v80 := Tryz.zeroValue94
  i0 := by kernel_rfl
  i2 := by kernel_rfl
  i3 := by kernel_rfl
  i4 := by kernel_rfl
  i5 := by kernel_rfl
  i9 := by kernel_rfl
  i20 := by kernel_rfl
  i21 := by kernel_rfl
  i37 := by kernel_rfl
  i46 := by kernel_rfl
  i51 := by kernel_rfl
  i53 := by kernel_rfl
  i75 := by kernel_rfl
  i76 := by kernel_rfl
  i80 := by kernel_rfl
  i85 := by kernel_rfl
  i127 := by kernel_rfl
  i143 := by kernel_rfl
  i145 := by kernel_rfl
  i167 := by kernel_rfl
  i168 := by kernel_rfl
  i171 := by kernel_rfl
  i173 := by kernel_rfl
  i175 := by kernel_rfl
  i210 := by kernel_rfl
  i212 := by kernel_rfl
  i232 := by kernel_rfl
  i233 := by kernel_rfl
  m15 := by kernel_rfl
  m16 := by kernel_rfl
  m17 := by kernel_rfl
  m18 := by kernel_rfl
  m19 := by kernel_rfl
  c0 := by kernel_rfl
  c2 := by kernel_rfl
  c3 := by kernel_rfl
  c4 := by kernel_rfl
  c5 := by kernel_rfl
  c9 := by kernel_rfl
  c20 := by kernel_rfl
  c21 := by kernel_rfl
  c37 := by kernel_rfl
  c46 := by kernel_rfl
  c51 := by kernel_rfl
  c53 := by kernel_rfl
  c75 := by kernel_rfl
  c76 := by kernel_rfl
  c80 := by kernel_rfl
  c85 := by kernel_rfl
  c127 := by kernel_rfl
  c143 := by kernel_rfl
  c145 := by kernel_rfl
  c167 := by kernel_rfl
  c168 := by kernel_rfl
  c171 := by kernel_rfl
  c173 := by kernel_rfl
  c175 := by kernel_rfl
  c210 := by kernel_rfl
  c212 := by kernel_rfl
  c213 := by kernel_rfl
  c232 := by kernel_rfl
  c233 := by kernel_rfl }
end Go.Proofs
end
section
open Go Go.Abs Go.Proofs Go.Proofs.Tryz
namespace Go.Proofs.S
section
variable {G R : Prop} {ρ : Nat -> Value} {av : Nat -> Prop} {hp : Array Obj} {v : Value} {vals : Array Value}
def bJg (h : eB ρ av hp [.raw v] vals) : vals = #[v] := by
  obtain ⟨h1, h2⟩ := h
  have h3 := h2 0 _ rfl
  apply Array.ext
  . exact h1
  intro i h4 h5
  have hi : i = 0 := by simp at h5; omega
  subst hi; rw [B5, D4 h4, Option.getD_some] at h3
  generalize vals[0] = u at h3
  cases h3; rfl
def qF {v u : Value} (h : eB ρ av hp [.raw v, .raw u] vals) : vals = #[v, u] := by
  obtain ⟨h1, h2⟩ := h
  have h3 := h2 0 _ rfl
  have h4 := h2 1 _ rfl
  apply Array.ext
  . exact h1
  intro i h5 h6
  have hs : vals.size = 2 := h1
  have hi : i = 0 ∨ i = 1 := by simp at h6; omega
  rcases hi with rfl | rfl
  . rw [B5, D4 h5, Option.getD_some] at h3
    generalize vals[0] = z at h3
    cases h3; rfl
  rw [B5, D4 h5, Option.getD_some] at h4
  generalize vals[1] = z at h4
  cases h4; rfl
def aYb (n : Int) : ByteArray := ⟨(Lib.itoa n).toArray⟩
def gn0 : P.globalNamed "internal/strconv.uint64pow10" = some 0 := kr
def xG (n : Int) (h0 : -9223372036854775808 <= n) (h1 : n <= 9223372036854775807) : aK P 58 [Ni n] [] 0 (Ns (aYb n)) := by
  refine pX trivial fun C w vals hR hv => ?_
  rw [bJg hv]
  obtain ⟨o, ho1, ho2, _⟩ := hR.gl 0 (.inl rfl)
  obtain ⟨t, fr, rfl⟩ := ho2.1 rfl
  have htab : Lib.TabIs P w "internal/strconv.uint64pow10" .u64 Lib.pow10Tab := by
    unfold Lib.TabIs World.var?
    rw [show P.globalNamed "internal/strconv.uint64pow10" = _ from gn0]; simp only [Option.bind_some, ho1]
  refine (Any.strconv_Itoa Tryz.laysM171 n h0 h1 w htab).mono fun e w' ⟨he, k, os, hw⟩ => ⟨_, he, .raw _, ?_⟩
  rw [hw]; exact bAl w k os
def iK (s : ByteArray) : Int × Bool := match Lib.atoiAll s.data.toList with
  | .ok v => (v, true)
  | .range => (Lib.atoiSat s.data.toList, false)
  | _ => (0, false)
def bQy {C : Conc} {w : World} (hR : RelH C [] (UU 0) w) {g : Nat} (hg : g = 1 ∨ g = 2) : ∃ te pe, w.cell? ⟨g, 0, none⟩ = some (.iface te pe) := by
  obtain ⟨o, ho1, ho2, _⟩ := hR.gl g (.inr hg)
  obtain ⟨te, pe, t, fr, rfl⟩ := ho2.2.1 hg
  exact ⟨te, pe, by rw [Lib.cell_of_heap ho1]; rfl⟩
def bFm (s : ByteArray) (hs : s.size <= 1048576) (h : (iK s).2 = true) : aK P 127 [Ns s] [] 0 (.tup [.raw (.int .i64 (iK s).1), .raw .nilIface]) := by
  refine pX ⟨trivial, trivial, trivial⟩ fun C w vals hR hv => ?_
  rw [bJg hv]
  have hat : Lib.atoiAll s.data.toList = .ok (iK s).1 := by
    unfold iK at h ⊢
    split at h
    . rename_i v hq; simp only [hq]
    . cases h
    cases h
  refine (Any.strconv_Atoi_ok Tryz.laysC172 s og _ hat w).mono fun e w' ⟨he, hw⟩ => ⟨_, he, ?_, ?_⟩
  . exact .tup _ _ rfl fun j x hj => by
      match j, hj with
      | 0, hj => cases hj; exact .raw _
      | 1, hj => cases hj; exact .raw _
  . rcases hw with rfl | ⟨t, rfl⟩
    . exact RowKit.Below.refl _ _
    exact Lib.bytesWorld_below w _ t
def bEn (s : ByteArray) (hs : s.size <= 1048576) (h : (iK s).2 = false) : aK P 127 [Ns s] [] 0 (.tup [.raw (.int .i64 (iK s).1), .iface 201 .any]) := by
  refine pX ⟨trivial, trivial, trivial⟩ fun C w vals hR hv => ?_
  rw [bJg hv]
  have hrep : ∀ (hp : Array Obj) (N : Nat) (n : Int), Rep C.ρ (C.avoid []) hp (.tup [.raw (.int .i64 n), .iface 201 .any]) (.tuple #[.int .i64 n, .iface 201 (.pointer (some ⟨N, 0, none⟩))]) := fun hp N n => .tup _ _ rfl fun j x hj => by
    match j, hj with
    | 0, hj => cases hj; exact .raw _
    | 1, hj => cases hj; exact .iface _ _ _ (.any _)
  cases hat : Lib.atoiAll s.data.toList with
  | ok v => unfold iK at h; rw [hat] at h; cases h
  | range =>
    have hv0 : (iK s).1 = Lib.atoiSat s.data.toList := by unfold iK; rw [hat]
    obtain ⟨te, pe, hc⟩ := bQy hR (.inr rfl)
    refine (Any.strconv_Atoi_range Tryz.laysC172 s og hat _ w hc (.inr ⟨te, pe, rfl⟩)).mono fun e w' ⟨N, he, _, _, hB⟩ => ⟨_, he, ?_, hB⟩
    rw [hv0]; exact hrep _ N _
  | _ =>
    have hv0 : (iK s).1 = 0 := by unfold iK; rw [hat]
    obtain ⟨te, pe, hc⟩ := bQy hR (.inl rfl)
    refine (Any.strconv_Atoi_syntax Tryz.laysC172 s og hat _ w hc (.inr ⟨te, pe, rfl⟩)).mono fun e w' ⟨N, he, _, _, hB⟩ => ⟨_, he, ?_, hB⟩
    rw [hv0]; exact hrep _ N 0
def zU (s : ByteArray) (c : Int) : aK P 155 [Ns s, .raw (.int .u8 c)] [] 0 (Ni (Lib.indexByte s.data.toList c.toNat.toUInt8)) := by
  refine pX trivial fun C w vals hR hv => ?_
  rw [qF hv]
  refine (Any.strings_IndexByte Tryz.lays137 s c w).mono fun e w' ⟨he, hw⟩ => ⟨_, he, .raw _, ?_⟩
  rw [hw]; exact RowKit.Below.refl _ _
abbrev tK : AObj := .cells 87 [.raw (.pointer none), .raw (.slice none 0 0)]
def Cy (h : G := by simp only [go_sem, AObj.ren, AV.ren, tK, aB, sg] <;> simp [Abs.get]) : G := h
abbrev lP (k : Nat) : AObj := .cells 87 [.ptr 0 0, .ref k]
abbrev bR (l : List UInt8) : AObj := .row 5 1 (l.map byteAV)
attribute [go_sem] pD aRv
def Dl (h : R -> G := by intro k; simp only [go_sem, AObj.ren, AV.ren, Nat.add_zero, A0, Nat.sub_self, lP, aB, bR, sg, shift]; exact k) : R -> G := h
def Cx (h : R -> G := by intro k; simp only [go_sem, AObj.ren, AV.ren, Nat.add_zero, A0, Nat.sub_self, tK, lP, aB, bR, sg, shift]; exact k) : R -> G := h
def Cm (h : G := by simp only [go_sem, AObj.ren, AV.ren, lP, aB, bR, sg] <;> simp [Abs.get]) : G := h
def uPB : P.underlying 85 = some (.pointer 87) := kr
def uUP : P.underlying 166 = some .unsafePointer := kr
def uBS : P.underlying 22 = some (.slice 5) := kr
def uST : P.underlying 9 = some .string := kr
def uPU : P.underlying 142 = some (.pointer 5) := kr
def ceU : P.cellsOf 5 = 1 := kr
def bKb : ∃ j, P.info? 87 = some j /\ j.size ≠ 0 := by
  have h : (P.info? 87).map (·.size) = some 2 := kr
  obtain ⟨j, hj, hs⟩ := B3.1 h
  exact ⟨j, hj, by rw [hs]; decide⟩
def bKm : ∃ i, P.info? 5 = some i /\ i.zero = some (.int .u8 0) /\ i.size = 1 /\ i.bytes = 1 := by
  have h : (P.info? 5).map (fun i => (i.zero, i.size, i.bytes)) = some (some (.int .u8 0), 1, 1) := kr
  obtain ⟨j, hj, hs⟩ := B3.1 h
  simp only [Prod.mk.injEq] at hs
  exact ⟨j, hj, hs.1, hs.2.1, hs.2.2⟩
def bOu : liesAt P P.depth 87 (2 / P.cellsOf 87) 0 87 1 = true := kr
def aAq : P.funcs[(142 : Nat)]? = some Tryz.f142 /\ (Tryz.f142.name == "runtime.NumGoroutine") = false /\ Tryz.f142.body.isNone = true /\ Extern.findNext Tryz.f142 = none /\ Extern.find Tryz.f142 = some Extern.AbiNoEscape.same := by
  refine ⟨?_, ?_, ?_, ?_, ?_⟩ <;> kernel_rfl
def aUg  : aO P 109 [.ptr 0 0] [(0, tK)] 1 (.tup []) [(0, .cells 87 [.ptr 0 0, .raw (.slice none 0 0)])] 1 := by
 refine (gq 20 [] func109) ?_
 simp only [tK]
 obtain ⟨j, hj, hjs⟩ := bKb
 refine sr rfl fun k1 => (ja) ?_
 refine vC (fun hN => aHi rfl rfl hN uPB rfl) (.inl rfl) ?_
 refine (ja) (k1 ?_)
 refine cd rfl (fun hc1 => ?_) (fun hc => by simp at hc)
 refine wg rfl ((ja) ?_)
 refine vC (fun hN => xP rfl rfl hN uPB uUP hj hjs rfl rfl dg) (.inl rfl) ?_
 refine (ja) ?_
 refine vC (fun hN => xT rfl rfl rfl rfl hN aAq.1 aAq.2.1 aAq.2.2.1 aAq.2.2.2.1 aAq.2.2.2.2 rfl) (.inl rfl) ?_
 refine (ja) ?_
 refine vC (fun hN => uP rfl rfl hN uUP uPB hj rfl rfl bOu) (.inl rfl) ?_
 refine (ja) ?_
 refine ⟨[], ?_⟩; exact jz
def aTr (l : List UInt8) : aO P 109 [.ptr 0 0] [(0, lP 1), (1, bR l)] 2 (.tup []) [(0, lP 1), (1, bR l)] 2 := by
 refine (gq 20 [] func109) ?_
 simp only [lP, bR]
 obtain ⟨j, hj, hjs⟩ := bKb
 refine sr rfl fun k1 => (ja) ?_
 refine vC (fun hN => aTv rfl rfl hN uPB rfl) (.inl rfl) ?_
 refine (ja) (k1 ((cdA) (fun hc => by simp at hc) fun hc1 => ?_))
 refine sr rfl fun k2 => (ja) ?_
 refine vC (fun hN => aSy rfl rfl hN uPB hj rfl rfl) (.inl rfl) ?_
 refine (ja) (k2 ((cdA) (fun hc => by simp at hc) fun hc2 => ?_))
 refine wk ?_; refine ⟨[], ?_⟩; exact jz
def aMp (s : ByteArray) (hs : s.size <= 140737488355328) : aO P 57 [.ptr 0 0, Ns s] [(0, tK)] 1 (.tup [Ni (s.size : Int), .raw .nilIface]) [(0, lP 1), (1, bR s.data.toList)] 2 := by
 refine (gq 19 [.tmp 4, .tmp 5] func57) ?_
 simp only [tK, lP, bR]
 have hmx := mxl
 refine (aj) ?_
 refine sr rfl fun k2 => (ja) ?_
 refine vg [] 0 rfl rfl rfl ⟨func109, rfl, rfl⟩ aUg rfl oG oG (mZ (H1 := []) (.inl rfl) (by simp only [go_sem, tK]) (by simp only [go_sem, AObj.bel, tK])) (.inl rfl) ?_
 refine (jn) (k2 (sr rfl fun k3 => (ja) ?_))
 refine vC (fun hN => aOe rfl rfl rfl rfl rfl hN uBS uST bKm rfl rfl hs) (.inr dg) ?_
 refine (ja) ((jr) (k3 ((aj) (wR ?_))))
 refine ⟨[], ?_⟩; exact jz
def yW (l : List UInt8) (s : ByteArray) (hs : l.length + s.size <= 140737488355328) : aO P 57 [.ptr 0 0, Ns s] [(0, lP 1), (1, bR l)] 2 (.tup [Ni (s.size : Int), .raw .nilIface]) [(0, lP 2), (1, .dead), (2, bR (l ++ s.data.toList))] 3 := by
 refine (gq 19 [.tmp 4, .tmp 5] func57) ?_
 simp only [lP, bR]
 have hmx := mxl
 refine (aj) ?_
 refine sr rfl fun k2 => (ja) ?_
 refine vg [] 0 rfl rfl rfl ⟨func109, rfl, rfl⟩ (aTr l) rfl oG oG (rM (.inl rfl) (by simp only [go_sem, lP, bR]) (by simp only [go_sem, lP, bR]) (by simp only [go_sem, AObj.bel, lP, bR] <;> simp) (by simp only [go_sem, AObj.bel, lP, bR]) oS ⟨rfl, rfl⟩ dg) (.inl rfl) ?_
 refine (jn) (k2 (sr rfl fun k3 => (ja) ?_))
 refine vC (fun hN => aDy rfl rfl rfl rfl rfl hN uBS uST bKm rfl rfl rfl hs) (.inr dg) ?_
 refine (ja) ((jr) (k3 ((aj) (wR ?_))))
 refine ⟨[], ?_⟩; exact jz
def bOd (l : List UInt8) : aO P 59 [.ptr 0 0] [(0, lP 1), (1, bR l)] 2 (Ni (l.length : Int)) [(0, lP 1), (1, bR l)] 2 := by
 refine (gq 8 [.tmp 2] func59) ?_
 simp only [lP, bR]
 refine (aj) ?_
 refine sr rfl fun k2 => (Bk) (k2 (wR ?_))
 refine ⟨[], ?_⟩; exact jz
def bLy  : aO P 59 [.ptr 0 0] [(0, tK)] 1 (Ni 0) [(0, tK)] 1 := by
 refine (gq 8 [.tmp 2] func59) ?_
 simp only [tK]
 refine (aj) ((aj) (wR ?_))
 refine ⟨[], ?_⟩; exact jz
def bAv (l : List UInt8) (h0 : l ≠ []) : aO P 60 [.ptr 0 0] [(0, lP 1), (1, bR l)] 2 (Ns ⟨l.toArray⟩) [(0, lP 1), (1, .dead)] 2 := by
 refine (gq 14 [.tmp 2] func60) ?_
 simp only [lP, bR]
 refine (aj) ?_
 refine sd mixed rfl fun k2 => (Bk) ?_
 refine aN (fun hN => wS (l := l) rfl rfl rfl rfl hN rfl rfl h0 (.inl dg)) (.inl rfl) ?_
 refine (Bk) ?_
 refine aN (fun hN => aHw (l := l) rfl rfl rfl rfl rfl hN uPU ceU rfl rfl rfl h0) (.inr dg) ?_
 refine (Bk) ((jy) (k2 (wR ?_)))
 refine ⟨[], ?_⟩; exact jz
end
section
variable {G : Prop} {n : Int}
def adr (b : Bool) : AV := if b then .ptr 0 0 else .raw (.pointer none)
def aX : adr true = .ptr 0 0 := rfl
def pI : adr false = .raw (.pointer none) := rfl
def bNu (b : Bool) : (adr b).bel (UU 2) := by
  cases b
  . trivial
  exact .inl dg
def bOk (b : Bool) : (adr b).ren (sg []) = adr b := AV.ren_nil _
attribute [go_sem] bNu bOk
abbrev eT (b : Bool) (k : Nat) : AObj := .cells 87 [adr b, .ref k]
def Cj (h : G := by simp only [go_sem, AObj.bel, aX, eT, bR]) : G := h
def Ci (h : G := by simp only [go_sem, AObj.bel, aX, eT, bR] <;> simp) : G := h
def Ch {R G : Prop} (h : R -> G := by intro k; simp only [go_sem, AObj.ren, AV.ren, Nat.add_zero, A0, Nat.sub_self, aX, eT, aB, bR, sg, shift]; exact k) : R -> G := h
def Bq (h : G := by simp only [go_sem, aX, eT, bR]) : G := h
def aSa {m : Int} (h0 : 0 <= m) (h1 : m <= 9) : aEx m = ⟨#[UInt8.ofNat (48 + m.toNat)]⟩ := by
  unfold aEx
  have e1 := wr (48 + m) (48 + m) og
  have e2 : IntKind.u8.wrap (48 + m) = 48 + m := by rw [IntKind.wrap_u8]; omega
  rw [e1, e2, show (48 + m).toNat = 48 + m.toNat by omega]; rfl
def bPt (a b : List UInt8) : (⟨a.toArray⟩ : ByteArray) ++ ⟨b.toArray⟩ = ⟨(a ++ b).toArray⟩ := by
  apply ByteArray.ext
  simp
def aKr : ∀ (f : Nat) (u : Nat) (out : ByteArray), u < 10 ^ (f + 1) -> tG f (u : Int) out = ⟨(Lib.decDigits u).toArray⟩ ++ out
  | 0, u, out, h => by
    unfold tG; rw [Lib.decDigits, dif_pos (by simpa using h), aSa og (by simp at h; omega)]; rfl
  | f + 1, u, out, h => by
    unfold tG; split
    . rename_i h9
      have hu : 10 <= u := by omega
      rw [Lib.decDigits, dif_neg og, H5 og, Int.tmod_eq_emod_of_nonneg og]
      have e1 : (u : Int) / 10 = ((u / 10 : Nat) : Int) := by omega
      have e2 : (u : Int) % 10 = ((u % 10 : Nat) : Int) := by omega
      rw [e1, e2, aKr f (u / 10) _ (by rw [Nat.pow_succ] at h; omega), aSa og og, <- bPt, ByteArray.append_assoc]
      rfl
    rename_i h9
    have hu : u < 10 := by omega
    rw [Lib.decDigits, dif_pos hu, aSa og og]; rfl
def aFh (h0 : -1000000000000000000 <= n) (h1 : n <= 1000000000000000000) : aYb n = dec n := by
  unfold aYb Lib.itoa dec aUs; split
  . rename_i h
    have e : -n = ((n.natAbs : Nat) : Int) := by omega
    rw [e, aKr 19 n.natAbs _ og]; apply ByteArray.ext
    simp
  rename_i h
  obtain ⟨u, rfl⟩ := Int.eq_ofNat_of_zero_le (by omega : 0 <= n)
  rw [aKr 19 u _ og]; apply ByteArray.ext
  simp
def bL (s : ByteArray) : List UInt8 := s.data.toList
def qU (a b : ByteArray) : bL (a ++ b) = bL a ++ bL b := by unfold bL; simp [ByteArray.data_append]
def rE (s : ByteArray) : (⟨(bL s).toArray⟩ : ByteArray) = s := by apply ByteArray.ext; simp [bL]
def aQ (s : ByteArray) : (bL s).length = s.size := by unfold bL; rw [Array.length_toList]; rfl
def lC (e : Entry) : List Int := [e.seq, e.kind, e.n, (e.text.size : Int)]
def qX (ns : List Int) : List UInt8 := ns.flatMap fun n => bL (dec n ++ spB)
def bGv {ns : List Int} {k : Nat} (h : ns[k]? = some n) : qX (ns.take (k + 1)) = qX (ns.take k) ++ bL (dec n ++ spB) := by
  unfold qX; rw [F5, h, List.flatMap_append]
  simp
def aKg (ns : List Int) : (qX ns).length <= 22 * ns.length := by
  induction ns with
  | nil => simp [qX]
  | cons a r ih =>
    have h1 := gK a
    have h2 : (bL (dec a ++ spB)).length = (dec a).size + 1 := by rw [aQ, B8, bW]
    simp only [qX, List.flatMap_cons, A2, C4] at ih ⊢
    omega
def mT (ls : List Entry) : List UInt8 := bL (bTx ls)
def aCf {ls : List Entry} {i : Nat} {e : Entry} (h : ls[i]? = some e) : mT (ls.take (i + 1)) = mT (ls.take i) ++ bL (e.key ++ spB) ++ qX (lC e) ++ bL e.text := by
  unfold mT bTx; rw [F5, h, List.foldl_append]; simp only [Option.toList_some, List.foldl_cons, List.foldl_nil, pT, qX, lC, List.flatMap_cons, List.flatMap_nil, qU, F8, List.append_nil]
def aUf (l : List UInt8) : aO P 109 [.ptr 0 0] [(0, eT false 1), (1, bR l)] 2 (.tup []) [(0, eT true 1), (1, bR l)] 2 := by
 refine (gq 20 [] func109) ?_
 simp only [eT, bR, aX, pI]
 obtain ⟨j, hj, hjs⟩ := bKb
 refine sr rfl fun k1 => (ja) ?_
 refine vC (fun hN => aHi rfl rfl hN uPB rfl) (.inl rfl) ?_
 refine (ja) (k1 ?_)
 refine cd rfl (fun hc1 => ?_) (fun hc => by simp at hc)
 refine wg rfl ((ja) ?_)
 refine vC (fun hN => xP rfl rfl hN uPB uUP hj hjs rfl rfl dg) (.inl rfl) ?_
 refine (ja) ?_
 refine vC (fun hN => xT rfl rfl rfl rfl hN aAq.1 aAq.2.1 aAq.2.2.1 aAq.2.2.2.1 aAq.2.2.2.2 rfl) (.inl rfl) ?_
 refine (ja) ?_
 refine vC (fun hN => uP rfl rfl hN uUP uPB hj rfl rfl bOu) (.inl rfl) ?_
 refine (ja) ?_
 refine ⟨[], ?_⟩; exact jz
def aLf (l : List UInt8) (s : ByteArray) (hs : l.length + s.size <= 140737488355328) : aO P 57 [.ptr 0 0, Ns s] [(0, eT false 1), (1, bR l)] 2 (.tup [Ni (s.size : Int), .raw .nilIface]) [(0, eT true 2), (1, .dead), (2, bR (l ++ s.data.toList))] 3 := by
 refine (gq 19 [.tmp 4, .tmp 5] func57) ?_
 simp only [eT, bR, aX, pI]
 have hmx := mxl
 refine (aj) ?_
 refine sr rfl fun k2 => (ja) ?_
 refine vg [] 0 rfl rfl rfl ⟨func109, rfl, rfl⟩ (aUf l) rfl oG oG (rM (.inl rfl) (by simp only [go_sem, eT, bR, aX, pI]) (by simp only [go_sem, eT, bR, aX, pI]) (by simp only [go_sem, AObj.bel, eT, bR, aX, pI] <;> simp) (by simp only [go_sem, AObj.bel, eT, bR, aX, pI]) oS ⟨rfl, rfl⟩ dg) (.inl rfl) ?_
 simp only [go_sem, AV.ren, AObj.ren, aB, shift, sg, A0, Nat.add_zero, Nat.sub_self, eT, bR, aX, pI]
 refine k2 (sr rfl fun k3 => (ja) ?_)
 refine vC (fun hN => aDy rfl rfl rfl rfl rfl hN uBS uST bKm rfl rfl rfl hs) (.inr dg) ?_
 refine (ja) ((jr) (k3 ((aj) (wR ?_))))
 refine ⟨[], ?_⟩; exact jz
def tN (b : Bool) (l : List UInt8) (s : ByteArray) (hs : l.length + s.size <= 140737488355328) : aO P 57 [.ptr 0 0, Ns s] [(0, eT b 1), (1, bR l)] 2 (.tup [Ni (s.size : Int), .raw .nilIface]) [(0, eT true 2), (1, .dead), (2, bR (l ++ bL s))] 3 := by
  cases b
  . exact aLf l s hs
  exact yW l s hs
def bPe (l : List UInt8) : aO P 59 [.ptr 0 0] [(0, eT true 1), (1, bR l)] 2 (Ni (l.length : Int)) [(0, eT true 1), (1, bR l)] 2 := bOd l
def bFd (l : List UInt8) (h0 : l ≠ []) : aO P 60 [.ptr 0 0] [(0, eT true 1), (1, bR l)] 2 (Ns ⟨l.toArray⟩) [(0, eT true 1), (1, .dead)] 2 := bAv l h0
end
def aZb {ls : List Entry} (h : ∀ e ∈ ls, e.key.size <= 1048576 /\ e.text.size <= 1048576) : ∀ i, (mT (ls.take i)).length <= 3000000 * i
  | 0 => by simp [mT, bTx, bL]
  | i + 1 => by
    have ih := aZb h i
    by_cases hi : i < ls.length
    . have he := A1 hi
      obtain ⟨h1, h2⟩ := h _ (C9 hi)
      have h3 := aKg (lC ls[i])
      have h4 : (lC ls[i]).length = 4 := rfl
      rw [aCf he]; simp only [A2, aQ, B8, bW]; omega
    rw [List.take_of_length_le og]; rw [List.take_of_length_le og] at ih; omega
def bMa {e : Entry} {k : Nat} (h : k < 4) : ∃ n, (lC e)[k]? = some n /\ (n = e.seq ∨ n = e.kind ∨ n = e.n ∨ n = (e.text.size : Int)) := by
  have : k = 0 ∨ k = 1 ∨ k = 2 ∨ k = 3 := by omega
  rcases this with rfl | rfl | rfl | rfl
  . exact ⟨_, rfl, .inl rfl⟩
  . exact ⟨_, rfl, .inr (.inl rfl)⟩
  . exact ⟨_, rfl, .inr (.inr (.inl rfl))⟩
  exact ⟨_, rfl, .inr (.inr (.inr rfl))⟩
def bKh {ls : List Entry} (h : 1 <= ls.length) : mT ls ≠ [] := by
  intro h0
  obtain ⟨i, hi⟩ : ∃ i, ls.length = i + 1 := ⟨ls.length - 1, og⟩
  have he := A1 (l := ls) (i := i) og
  have h1 := aCf he
  rw [<- hi, F4, h0] at h1
  have h2 := congrArg List.length h1
  simp only [List.length_nil, A2, aQ, B8, bW] at h2
  omega
def nX (ls : List Entry) (hz : cW ls) : aK P 22 [.sl 5 (ls.map enA)] [] 0 (Ns (fTx ls)) := by
 refine (pq 51 [.tmp 2] func22) ?_
 have hmx := mxl
 have hsp : (#[32] : Array UInt8).size = 1 := rfl
 have hsn : (#[10] : Array UInt8).size = 1 := rfl
 refine (aj) ?_
 refine aA fun k2 => sr rfl fun k3 => (ja) ((vq func56 (yI ls hz)) (k3 ((cdA) ?_ ?_))) <;> intro hc1
 . have hb : isB ls = false := by simpa using hc1
   refine (aj) (wR ?_)
   refine fO ?_ trivial; simp only [go_sem, fTx, hb, C5, if_false]
 have hb : isB ls = true := by simpa using hc1
 obtain ⟨hok, hb1, hb2⟩ := bQ hb
 have hbl := aZb (ls := ls) fun e he => cO (hok e he)
 refine wk (k2 ((aj) ?_))
 refine aA fun k6 => (aj) (wb ?_)
 refine aVf (i := 0) (j := 1) 5 1 rfl rfl dg ?_
 refine (ja) ?_
 refine wn ls.length (fun x => ([(3, .ptr 0 0), (11, .sl 5 (ls.map enA)), (12, Ni (ls.length : Int)), (13, Ni (x : Int))], [(0, eT (decide (0 < x)) 1), (1, bR (mT (ls.take x)))])) 2 [] ?_ ?_
 . simp only [go_sem, AObj.bel, eT, bR, List.take_zero, Int.natCast_zero] <;> simp [adr, mT, bTx, bL]
 rintro i hi
 refine (aj) ?_
 refine aA fun k9 => (cdB) ?_ ?_ <;> intro hc2
 . have hge := gec hc2
   have hie : i = ls.length := by omega
   subst hie
   have hpos : decide (0 < ls.length) = true := by simp; omega
   have hbi := hbl ls.length
   rw [F4] at hbi; rw [F4, hpos]
   have hds := gK ((bTx ls).size : Int)
   have hit : aYb ((mT ls).length : Int) = dec ((bTx ls).size : Int) := by rw [aFh og og]; unfold mT; rw [aQ]
   refine we ((jt) (k6 (sr rfl fun k19 => (ja) ?_)))
   refine vg [] 0 rfl rfl rfl ⟨func59, rfl, rfl⟩ (bPe (mT ls)) rfl oG oG (rM (.inl rfl) Bq Bq Ci Cj oS ⟨rfl, rfl⟩ dg) (.inl rfl) ?_
   refine (Ch) ?_
   refine vs rfl rfl rfl func58 (xG ((mT ls).length : Int) og og) oG oG ?_
   refine (Aa hit) ?_
   refine ⟨og, ?_⟩
   refine vg [] 0 rfl rfl rfl ⟨func60, rfl, rfl⟩ (bFd (mT ls) (bKh hb1)) rfl oG oG (rM (.inl rfl) Bq Bq Ci Cj oS ⟨rfl, rfl⟩ dg) (.inl rfl) ?_
   simp only [go_sem, AV.ren, AObj.ren, aB, shift, sg, A0, Nat.add_zero, Nat.sub_self, eT, bR, aX, List.size_toArray]
   refine ⟨og, og, ?_⟩
   refine k19 (wR ?_)
   have hm : (⟨(mT ls).toArray⟩ : ByteArray) = bTx ls := rE _
   refine fO ?_ trivial; simp only [go_sem, fTx, hb, if_true, hm]
 obtain ⟨hlt, l, hl, hdrop, hml⟩ := ixc hc2
 obtain ⟨r1, r2, r3, r4, r5, r6, r7, r8⟩ := gQ (hok l hml)
 obtain ⟨z1, z2⟩ := cO (hok l hml)
 have hbi := hbl i
 refine wk (k9 (aA fun k10 => wb (sr rfl fun k11 => (An hl) ((jr) (k11 (sr rfl fun k12 => (ja) ?_))))))
 refine ⟨og, ?_⟩
 refine vg [] 1 rfl rfl rfl ⟨func57, rfl, rfl⟩ (tN (decide (0 < i)) (mT (ls.take i)) (l.key ++ spB) (by rw [B8, bW]; omega)) rfl oG oG (rM (.inl rfl) (by simp only [go_sem, eT, bR]) (by simp only [go_sem, eT, bR]) (by simp only [go_sem, AObj.bel, eT, bR] <;> simp) (by simp only [go_sem, AObj.bel, eT, bR]) oS ⟨rfl, rfl⟩ dg) (.inr dg) ?_
 refine (Ch) (k12 (aA fun k13 => sr rfl fun k14 => (ja) ((jr) (k14 (wb ?_)))))
 refine wn 4 (fun x => ([(3, .ptr 0 0), (5, .ptr 3 0), (11, .sl 5 (ls.map enA)), (12, Ni (ls.length : Int)), (13, Ni (i : Int)), (30, .ref 2), (31, Ni (4 : Int)), (32, Ni (x : Int))], [(0, eT true 1), (1, bR ((mT (ls.take i) ++ bL (l.key ++ spB)) ++ qX ((lC l).take x))), (2, .row 3 1 ((lC l).map inA)), (3, .cells 43 [Ns l.key, Ni l.seq, Ni l.kind, Ns l.text, Ni l.n])])) 4 [(1, 3), (2, 4), (3, 2)] ?_ ?_
 . simp only [go_sem, AObj.bel, AObj.ren, AV.ren, aB, sg, eT, bR, aX, Int.natCast_zero] <;> simp [qX, aX]
   rfl
 rintro k hk
 refine (aj) ?_
 refine aA fun k16 => (cdB) ?_ ?_ <;> intro hc3
 . have hk4 : k = 4 := by simp at hc3; omega
   subst hk4
   have hft : (lC l).take 4 = lC l := rfl
   rw [hft]
   have hnl := aKg (lC l)
   have h44 : (lC l).length = 4 := rfl
   refine we ((jt) (k13 (wg rfl ((ja) ?_))))
   refine vg [] 1 rfl rfl rfl ⟨func57, rfl, rfl⟩ (tN (true) ((mT (ls.take i) ++ bL (l.key ++ spB)) ++ qX (lC l)) (l.text) (by simp only [A2, aQ, B8, bW]; omega)) rfl oG oG (rM (.inl rfl) Bq Bq Ci Cj oS ⟨rfl, rfl⟩ dg) (.inr dg) ?_
   refine (Ch) ((jt) (k10 ?_))
   have hw := wiS i og
   have hfin : (mT (ls.take i)).map byteAV ++ ((bL (l.key ++ spB)).map byteAV ++ ((qX (lC l)).map byteAV ++ (bL l.text).map byteAV)) = (mT (ls.take (i + 1))).map byteAV := by rw [aCf hl]; simp only [D5, F8]
   refine wg rfl ((Aa hw) ((jt) ?_))
   refine ⟨i + 1, og, og, [(1, 4)], ?_⟩
   simp only [go_sem, AObj.bel, AObj.ren, AV.ren, aB, sg, eT, bR, aX, Int.natCast_zero] <;> simp [hfin, aX, AV.ren, sg, Abs.get]
 have hlt4 : k < 4 := by simp at hc3; omega
 obtain ⟨n, hn, hnc⟩ := bMa (e := l) hlt4
 have h44 : (lC l).length = 4 := rfl
 have hnum : (qX ((lC l).take (k + 1))).map byteAV = (qX ((lC l).take k)).map byteAV ++ (bL (dec n ++ spB)).map byteAV := by rw [bGv hn, D5]
 have hit := aFh (n := n) og og
 have hds := gK n
 have hnl := aKg ((lC l).take k)
 rw [B0] at hnl
 refine wk (k16 (aA fun k17 => wb (sr rfl fun k18 => ?_)))
 simp only [go_sem, hn, inA, A6, B4]
 refine (jr) (k18 (wg rfl ((ja) ?_)))
 skip
 refine vs rfl rfl rfl func58 (xG n og og) oG oG ?_
 refine (Aa hit) ?_
 refine ⟨og, ?_⟩
 refine vg [] 1 rfl rfl rfl ⟨func57, rfl, rfl⟩ (tN (true) ((mT (ls.take i) ++ bL (l.key ++ spB)) ++ qX ((lC l).take k)) (dec n ++ spB) (by simp only [A2, aQ, B8, bW]; omega)) rfl oG oG (rM (.inl rfl) Bq Bq Ci Cj oS ⟨rfl, rfl⟩ dg) (.inr dg) ?_
 refine (Ch) ((jt) (k17 ?_))
 have hwk := wiS k og
 refine wg rfl ((Aa hwk) ((jt) ?_))
 refine ⟨k + 1, og, og, [(1, 4)], ?_⟩
 simp only [go_sem, AObj.bel, AObj.ren, AV.ren, aB, sg, eT, bR, aX, Int.natCast_zero] <;> simp [hnum]
section
variable {G A : Prop} {s : ByteArray} {a : Nat}
abbrev rdr (s : ByteArray) (a : Nat) : AObj := .cells 65 [.raw (.string s), .raw (.int .i64 (a : Int))]
def Dj (h : G := by simp only [go_sem, AObj.bel, AObj.ren, AV.ren, Int.natCast_zero, List.map_nil, rdr, aB, sg] <;> simp) : G := h
def Ck (e : A) (h : A -> G := by intro e; simp only [go_sem, e, AObj.bel, AObj.ren, AV.ren, enA, rdr, aB, sg, iQ] <;> simp) : G := h e
def Bz (e : A) (h : A -> G := by intro e; simp only [go_sem, e, AObj.bel, AObj.ren, AV.ren, List.map_nil, rdr, aB, sg] <;> simp) : G := h e
def By {R G : Prop} (h : R -> G := by intro k; simp only [go_sem, AObj.ren, AV.ren, Nat.add_zero, A0, Nat.sub_self, rdr, aB, sg, shift]; exact k) : R -> G := h
def Bx (e : A) (h : A -> G := by intro e; simp only [go_sem, e, AObj.bel, AObj.ren, AV.ren, rdr, aB, sg] <;> simp) : G := h e
def Bm (h : G := by simp only [go_sem, rdr]) : G := h
def Bd (h : G := by simp only [go_sem, AObj.bel, rdr] <;> simp) : G := h
def mG (s : ByteArray) (a : Nat) : ByteArray := s.extract a (min s.size (a + 9))
def aBg (s : ByteArray) (a : Nat) : Int := Lib.indexByte (mG s a).data.toList 32
def wI (s : ByteArray) (a : Nat) : ByteArray × Bool × Nat := if aBg s a < 0 then (⟨#[]⟩, false, a) else ((mG s a).extract 0 (aBg s a).toNat, true, a + ((aBg s a).toNat + 1))
def nI (s : ByteArray) (a : Nat) : Int × Bool × Nat := if (wI s a).2.1 = true then ((iK (wI s a).1).1, (iK (wI s a).1).2, (wI s a).2.2) else (0, false, (wI s a).2.2)
def tI (s : ByteArray) (a : Nat) (n : Int) : ByteArray × Bool × Nat := if n < 0 ∨ (s.size : Int) - a < n then (⟨#[]⟩, false, a) else (s.extract a (a + n.toNat), true, a + n.toNat)
def aCq : ∀ (l : List UInt8) (c : UInt8), Lib.indexByte l c < l.length /\ -1 <= Lib.indexByte l c
  | [], c => by simp [Lib.indexByte]
  | b :: l, c => by
    have ih := aCq l c
    unfold Lib.indexByte; simp only [C4]; split
    . omega
    split <;> omega
def bCc (ha : a <= s.size) : aBg s a < (min s.size (a + 9) - a : Nat) /\ -1 <= aBg s a := by
  have h := aCq (mG s a).data.toList 32
  have h2 : (mG s a).data.toList.length = min s.size (a + 9) - a := by
    rw [Array.length_toList]
    exact iH s a _ og
  rw [h2] at h; exact h
def aPr (ha : a <= s.size) : a <= (wI s a).2.2 /\ (wI s a).2.2 <= s.size /\ (wI s a).1.size <= 8 /\ ((wI s a).2.1 = true -> a < (wI s a).2.2) := by
  have h := bCc ha
  unfold wI; split
  . exact ⟨A0 _, ha, A5 _, fun h => by cases h⟩
  simp only
  refine ⟨og, og, ?_, fun _ => by omega⟩
  rw [ByteArray.size_extract]; omega
def bCo (ha : a <= s.size) : a <= (nI s a).2.2 /\ (nI s a).2.2 <= s.size /\ ((nI s a).2.1 = true -> a < (nI s a).2.2) := by
  have h := aPr ha
  unfold nI; split
  . rename_i hw; exact ⟨h.1, h.2.1, fun _ => h.2.2.2 hw⟩
  exact ⟨h.1, h.2.1, fun h => by cases h⟩
def aWk {n : Int} (ha : a <= s.size) : a <= (tI s a n).2.2 /\ (tI s a n).2.2 <= s.size := by
  unfold tI; split
  . exact ⟨A0 _, ha⟩
  simp only; omega
def iP (s : ByteArray) (a : Nat) (ha : a <= s.size) (hs : s.size <= 1048576) : aO P 126 [.ptr 0 0] [(0, rdr s a)] 1 (.tup [.raw (.string (wI s a).1), .raw (.bool (wI s a).2.1)]) [(0, rdr s (wI s a).2.2)] 1 := by
 refine (gq 43 [.tmp 2, .tmp 3] func126) ?_
 simp only [rdr]
 refine (aj) ?_
 have hw1 := wr ((a : Int) + 8) ((a : Int) + 8) og
 have hw2 := wr ((a : Int) + 8 + 1) ((a : Int) + 8 + 1) og
 have hmn : (min (s.size : Int) ((a : Int) + 8 + 1)).toNat = min s.size (a + 9) := by omega
 have hah : s.extract a (min s.size (a + 9)) = mG s a := rfl
 refine sd mixed rfl fun k2 => (Bp hw1 hw2 hmn hah) ((jr) ((jy) (k2 ?_)))
 have hix : Lib.indexByte (mG s a).data.toList (Int.toNat 32).toUInt8 = aBg s a := rfl
 have hsz := bCc ha
 have hes : (mG s a).size = min s.size (a + 9) - a := iH s a _ og
 refine sr rfl fun k3 => (ja) ?_
 refine vs rfl rfl rfl func155 (zU (mG s a) 32) oG oG ?_
 refine (Aa hix) (k3 (aA fun k4 => (aj) ((cdA) ?_ ?_))) <;> intro hc1
 . have h9 : wI s a = (⟨#[]⟩, false, a) := by unfold wI; rw [if_pos (by simpa using hc1)]
   refine (aj) (wR ?_)
   refine ⟨[], ?_⟩
   exact Bx h9
 have hc9 : ¬ aBg s a < 0 := by simpa using hc1
 have h9 : wI s a = ((mG s a).extract 0 (aBg s a).toNat, true, a + ((aBg s a).toNat + 1)) := by unfold wI; rw [if_neg hc9]
 refine wk (k4 ?_)
 have hw5 := wr (aBg s a + 1) (aBg s a + 1) og
 have hw6 := wr ((a : Int) + (aBg s a + 1)) (((a + ((aBg s a).toNat + 1) : Nat) : Int)) og
 refine sr rfl fun k7 => (Aq hw5 hw6) (k7 (sr rfl fun k8 => (ja) ((jr) (k8 (wR ?_)))))
 refine ⟨[], ?_⟩
 exact Bx h9
def aVg (s : ByteArray) (a : Nat) (ha : a <= s.size) (hs : s.size <= 1048576) (hat : (iK (wI s a).1).2 = true) : aO P 86 [.ptr 0 0] [(0, rdr s a)] 1 (.tup [.raw (.int .i64 (nI s a).1), .raw (.bool (nI s a).2.1)]) [(0, rdr s (nI s a).2.2)] 1 := by
 refine (gq 23 [.tmp 2, .tmp 3] func86) ?_
 simp only [rdr]
 have hl := aPr ha
 refine (aj) ?_
 refine sr rfl fun k2 => (ja) ?_
 refine vg [] 0 rfl rfl rfl ⟨func126, rfl, rfl⟩ (iP s a ha hs) rfl oG oG (mZ (H1 := []) (.inl rfl) Bm Bd) (.inl rfl) ?_
 refine (By) (k2 (aA fun k3 => (aj) ((cdA) ?_ ?_))) <;> intro hc1
 . have hw : (wI s a).2.1 = false := by simpa using hc1
   have h9 : nI s a = (0, false, (wI s a).2.2) := by unfold nI; rw [if_neg (by rw [hw]; simp)]
   refine (aj) (wR ?_)
   refine ⟨[], ?_⟩
   exact Bx h9
 have hw : (wI s a).2.1 = true := by simpa using hc1
 have h9 : nI s a = ((iK (wI s a).1).1, (iK (wI s a).1).2, (wI s a).2.2) := by unfold nI; rw [if_pos hw]
 refine wk (k3 (sr rfl fun k6 => (ja) ((vq func127 (bFm (wI s a).1 og hat)) (k6 (sd mixed rfl fun k7 => (ja) ((jy) (k7 (wR ?_))))))))
 refine ⟨[], ?_⟩
 simp only [go_sem, AObj.bel, AObj.ren, AV.ren, aB, sg, rdr, h9, hat] <;> simp
def aXm (s : ByteArray) (a : Nat) (ha : a <= s.size) (hs : s.size <= 1048576) (hat : (iK (wI s a).1).2 = false) : aO P 86 [.ptr 0 0] [(0, rdr s a)] 1 (.tup [.raw (.int .i64 (nI s a).1), .raw (.bool (nI s a).2.1)]) [(0, rdr s (nI s a).2.2)] 1 := by
 refine (gq 23 [.tmp 2, .tmp 3] func86) ?_
 simp only [rdr]
 have hl := aPr ha
 refine (aj) ?_
 refine sr rfl fun k2 => (ja) ?_
 refine vg [] 0 rfl rfl rfl ⟨func126, rfl, rfl⟩ (iP s a ha hs) rfl oG oG (mZ (H1 := []) (.inl rfl) Bm Bd) (.inl rfl) ?_
 refine (By) (k2 (aA fun k3 => (aj) ((cdA) ?_ ?_))) <;> intro hc1
 . have hw : (wI s a).2.1 = false := by simpa using hc1
   have h9 : nI s a = (0, false, (wI s a).2.2) := by unfold nI; rw [if_neg (by rw [hw]; simp)]
   refine (aj) (wR ?_)
   refine ⟨[], ?_⟩
   exact Bx h9
 have hw : (wI s a).2.1 = true := by simpa using hc1
 have h9 : nI s a = ((iK (wI s a).1).1, (iK (wI s a).1).2, (wI s a).2.2) := by unfold nI; rw [if_pos hw]
 refine wk (k3 (sr rfl fun k6 => (ja) ((vq func127 (bEn (wI s a).1 og hat)) (k6 (sd mixed rfl fun k7 => (ja) ((jy) (k7 (wR ?_))))))))
 refine ⟨[], ?_⟩
 simp only [go_sem, AObj.bel, AObj.ren, AV.ren, aB, sg, rdr, h9, hat] <;> simp
def iR (s : ByteArray) (a : Nat) (ha : a <= s.size) (hs : s.size <= 1048576) (n : Int) (h0 : -9223372036854775808 <= n) (h1 : n <= 9223372036854775807) : aO P 87 [.ptr 0 0, Ni n] [(0, rdr s a)] 1 (.tup [.raw (.string (tI s a n).1), .raw (.bool (tI s a n).2.1)]) [(0, rdr s (tI s a n).2.2)] 1 := by
 refine (gq 45 [.tmp 4, .tmp 5] func87) ?_
 simp only [rdr]
 refine (aj) ?_
 refine aA fun k2 => ?_
 have hw1 := wr ((s.size : Int) - (a : Int)) ((s.size : Int) - (a : Int)) og
 refine sd mixed rfl fun k3 => (Aa hw1) ((jy) (k3 ((cdA) ?_ ?_))) <;> intro hc1
 . have h9 : tI s a n = (⟨#[]⟩, false, a) := by unfold tI; rw [if_pos]; simp at hc1; omega
   refine (aj) (wR ?_)
   refine ⟨[], ?_⟩
   exact Bx h9
 have hc9 : 0 <= n /\ n <= (s.size : Int) - a := by simp at hc1; omega
 have h9 : tI s a n = (s.extract a (a + n.toNat), true, a + n.toNat) := by unfold tI; rw [if_neg og]
 have hw3 := wr ((a : Int) + n) (((a + n.toNat : Nat) : Int)) og
 have hw4 := wr (((a + n.toNat : Nat) : Int) - n) ((a : Int)) og
 have hto : ((a + n.toNat : Nat) : Int).toNat = a + n.toNat := by omega
 refine wk (k2 (sr rfl fun k5 => (Aa hw3) (k5 (sd mixed rfl fun k6 => (Aq hw4 hto) ((jr) ((jy) (k6 (wR ?_))))))))
 refine ⟨[], ?_⟩
 exact Bx h9
def aXq (s : ByteArray) (a : Nat) (ha : a <= s.size) (hs : s.size <= 1048576) : aO P 86 [.ptr 0 0] [(0, rdr s a)] 1 (.tup [.raw (.int .i64 (nI s a).1), .raw (.bool (nI s a).2.1)]) [(0, rdr s (nI s a).2.2)] 1 := by
  cases h : (iK (wI s a).1).2
  . exact aXm s a ha hs h
  exact aVg s a ha hs h
end
def aLr (L : List Int) : List Int := L ++ List.replicate (4 - L.length) 0
def bKp {L : List Int} (h : L.length <= 4) : (aLr L).length = 4 := by
  unfold aLr; rw [A2, List.length_replicate]; omega
def bAp {L : List Int} (h : L.length < 4) (v : Int) : bM ((aLr L).map inA) L.length [Ni v] = (aLr (L ++ [v])).map inA := by
  unfold bM aLr
  obtain ⟨k, hk⟩ : ∃ k, 4 - L.length = k + 1 := ⟨3 - L.length, og⟩
  rw [hk, show 4 - (L ++ [v]).length = k by rw [A2, List.length_singleton]; omega, List.replicate_succ, D5, List.map_cons]
  have e1 : (L.map inA ++ inA 0 :: (List.replicate k 0).map inA).take L.length = L.map inA := by
    rw [List.take_left' oS]
  have e2 : (L.map inA ++ inA 0 :: (List.replicate k 0).map inA).drop (L.length + [AV.raw (Value.int IntKind.i64 v)].length) = (List.replicate k 0).map inA := by
    rw [List.length_singleton, <- List.drop_drop, List.drop_left' oS]; rfl
  rw [e1, e2]
  simp [inA]
def eL (s : ByteArray) : Nat -> Nat -> List Int × Bool × Nat
  | 0, a => ([], true, a)
  | k + 1, a => if (nI s a).2.1 = true then ((nI s a).1 :: (eL s k (nI s a).2.2).1, (eL s k (nI s a).2.2).2) else ([], false, (nI s a).2.2)
def aTy (L : List Int) (r : List Int × Bool × Nat) : List Int × Bool × Nat := (L ++ r.1, r.2)
def bEs {s : ByteArray} {k a : Nat} {L : List Int} (h : (nI s a).2.1 = true) : aTy L (eL s (k + 1) a) = aTy (L ++ [(nI s a).1]) (eL s k (nI s a).2.2) := by
  unfold aTy; rw [eL, if_pos h]
  simp
def bNa {s : ByteArray} {k a : Nat} {L : List Int} (h : (nI s a).2.1 = false) : aTy L (eL s (k + 1) a) = (L, false, (nI s a).2.2) := by
  unfold aTy
  rw [eL, if_neg (by rw [h]; simp)]
  simp
def bHi {s : ByteArray} {a : Nat} {L : List Int} : aTy L (eL s 0 a) = (L, true, a) := by
  unfold aTy eL; simp
def eI (s : ByteArray) (a : Nat) : Entry × Bool × Nat :=
  if (wI s a).2.1 = true then
    (if (eL s 4 (wI s a).2.2).2.1 = true then
      (if (tI s (eL s 4 (wI s a).2.2).2.2 ((eL s 4 (wI s a).2.2).1.getD 3 0)).2.1 = true then
        (⟨(wI s a).1, (eL s 4 (wI s a).2.2).1.getD 0 0, (eL s 4 (wI s a).2.2).1.getD 1 0, (tI s (eL s 4 (wI s a).2.2).2.2 ((eL s 4 (wI s a).2.2).1.getD 3 0)).1, (eL s 4 (wI s a).2.2).1.getD 2 0⟩, true, (tI s (eL s 4 (wI s a).2.2).2.2 ((eL s 4 (wI s a).2.2).1.getD 3 0)).2.2)
      else (iQ, false, (tI s (eL s 4 (wI s a).2.2).2.2 ((eL s 4 (wI s a).2.2).1.getD 3 0)).2.2))
    else (iQ, false, (eL s 4 (wI s a).2.2).2.2))
  else (iQ, false, (wI s a).2.2)
def bJs : P.underlying 154 = some (.array 4 3) := kr
def bId : (P.info? 3).map (·.size) = some 1 := kr
def aWh (s : ByteArray) : -9223372036854775808 <= (iK s).1 /\ (iK s).1 <= 9223372036854775807 := by
  unfold iK; split
  . rename_i v h
    simp only
    unfold Lib.atoiAll at h; split at h
    . cases h
    simp only at h
    split at h
    . cases h
    . cases h
    rename_i u _
    split at h
    . cases h
    split at h
    . cases h
    rename_i h1 h2
    cases h; split
    . rename_i hn
      have : ¬ 9223372036854775808 < u := fun h => h2 ⟨hn, h⟩
      omega
    rename_i hn
    have : ¬ 9223372036854775808 <= u := fun h => h1 ⟨hn, h⟩
    omega
  . simp only [Lib.atoiSat]; split <;> omega
  simp only; omega
def aXa (s : ByteArray) (a : Nat) : -9223372036854775808 <= (nI s a).1 /\ (nI s a).1 <= 9223372036854775807 := by
  unfold nI; split
  . exact aWh _
  simp only; omega
def aYm {s : ByteArray} : ∀ (k a : Nat), a <= s.size -> a <= (eL s k a).2.2 /\ (eL s k a).2.2 <= s.size
  | 0, a, h => ⟨A0 _, h⟩
  | k + 1, a, h => by
    have h1 := bCo h
    unfold eL; split
    . have := aYm k _ h1.2.1
      simp only; omega
    simp only; omega
def bRg {s : ByteArray} {a : Nat} (ha : a <= s.size) : a <= (eI s a).2.2 /\ (eI s a).2.2 <= s.size /\ ((eI s a).2.1 = true -> a < (eI s a).2.2) := by
  have h1 := aPr ha
  have h2 := aYm 4 _ h1.2.1
  have h3 := aWk (n := (eL s 4 (wI s a).2.2).1.getD 3 0) h2.2
  unfold eI; split
  . rename_i hw
    have := h1.2.2.2 hw
    split
    . split
      . simp only; exact ⟨og, h3.2, fun _ => by omega⟩
      simp only; exact ⟨og, h3.2, fun h => by cases h⟩
    simp only; exact ⟨og, h2.2, fun h => by cases h⟩
  exact ⟨h1.1, h1.2.1, fun h => by cases h⟩
def vV (s : ByteArray) (a : Nat) (ha : a <= s.size) (hs : s.size <= 1048576) : aO P 88 [.ptr 0 0] [(0, rdr s a)] 1 (.tup [enA (eI s a).1, .raw (.bool (eI s a).2.1)]) [(0, rdr s (eI s a).2.2)] 1 := by
 refine (gq 50 [.cell 2 43, .tmp 3] func88) ?_
 simp only [rdr]
 have hl := aPr ha
 have tn3 : (3 : Int).toNat = 3 := rfl
 refine (aj) ?_
 refine sr rfl fun k2 => (ja) ?_
 refine vg [] 0 rfl rfl rfl ⟨func126, rfl, rfl⟩ (iP s a ha hs) rfl oG oG (mZ (H1 := []) (.inl rfl) Bm Bd) (.inl rfl) ?_
 refine (By) (k2 (aA fun k3 => (aj) ((cdA) ?_ ?_))) <;> intro hc1
 . have hw0 : (wI s a).2.1 = false := by simpa using hc1
   have h9 : eI s a = (iQ, false, (wI s a).2.2) := by unfold eI; rw [if_neg (by rw [hw0]; simp)]
   refine (aj) (wR ?_)
   refine ⟨[], ?_⟩
   exact Ck h9
 have hw0 : (wI s a).2.1 = true := by simpa using hc1
 refine wk (k3 ((aj) ?_))
 refine aA fun k7 => (aj) (wb ?_)
 refine wl (α := List Int × Nat) (fun x => x.1.length <= 4 /\ x.2 <= s.size /\ (∀ v ∈ x.1, -9223372036854775808 <= v /\ v <= 9223372036854775807) /\ aTy x.1 (eL s (4 - x.1.length) x.2) = eL s 4 (wI s a).2.2) (fun x => 4 - x.1.length) (fun x => ([(0, .ptr 0 0), (2, .ptr 1 0), (4, .raw (.string (wI s a).1)), (6, .ptr 2 0), (17, Ni (x.1.length : Int))], [(0, rdr s x.2), (1, .cells 43 [Ns ⟨#[]⟩, Ni 0, Ni 0, Ns ⟨#[]⟩, Ni 0]), (2, .cells 154 ((aLr x.1).map inA))])) 3 ([], (wI s a).2.2) ⟨by simp, hl.2.1, by simp, by unfold aTy; simp⟩ [] ?_ ?_
 . simp only [go_sem, AObj.bel, AObj.ren, AV.ren, aB, sg, rdr, Int.natCast_zero] <;> simp [aLr, inA]
 rintro ⟨L, b⟩ ⟨hL, hb, hr, hgo⟩
 simp only at hL hb hr hgo ⊢
 refine (aj) ?_
 refine aA fun k10 => (cdA) ?_ ?_ <;> intro hc2
 . have hlt : L.length < 4 := by simp at hc2; omega
   obtain ⟨k, hk⟩ : ∃ k, 4 - L.length = k + 1 := ⟨3 - L.length, og⟩
   have hsp := bAp hlt (nI s b).1
   have hsp2 : ((aLr L).map inA).take L.length ++ AV.raw (.int .i64 (nI s b).1) :: ((aLr L).map inA).drop (L.length + 1) = (aLr (L ++ [(nI s b).1])).map inA := by simpa [bM] using hsp
   have hpl := bKp hL
   have hle4 : (L.length + 1 <= 4) = True := by simp; omega
   have hn := bCo hb
   refine wk (k10 (aA fun k11 => wb ((aj) ?_)))
   refine sr rfl fun k13 => ?_
   simp only [go_sem, hsp, hpl, hle4]
   refine (jr) ?_
   refine vg [] 0 rfl rfl rfl ⟨func86, rfl, rfl⟩ (aXq s b hb hs) rfl oG oG (mZ (H1 := []) (.inl rfl) Bm Bd) (.inl rfl) ?_
   refine (By) ((jr) ?_)
   refine vC (fun hN => jO (n := (L.length : Int)) rfl rfl hN bJs bId rfl rfl og og) (.inl rfl) ?_
   simp only [go_sem, Int.toNat_natCast, Nat.mul_one, C3, hsp, hpl, hle4, A6, hsp, hpl, hle4]
   refine (jr) (k13 ((aj) ((cdA) ?_ ?_))) <;> intro hc3
   . have hok : (nI s b).2.1 = false := by simpa using hc3
     rw [hk, bNa hok] at hgo
     have h9 : eI s a = (iQ, false, (nI s b).2.2) := by unfold eI; rw [if_pos hw0, <- hgo, if_neg oS]
     refine (aj) (wR ((Ah) ?_))
     refine ⟨[], ?_⟩
     exact Ck h9
   have hok : (nI s b).2.1 = true := by simpa using hc3
   refine wk ((jt) (k11 ?_))
   have hw := wr ((L.length : Int) + 1) (((L.length + 1 : Nat) : Int)) og
   refine wg rfl ((Aa hw) ((jt) ?_))
   refine ⟨(L ++ [(nI s b).1], (nI s b).2.2), ⟨by simp; omega, hn.2.1, fun v hv => (by rcases A7.1 hv with h | h; exact hr v h; rw [B6.1 h]; exact aXa s b), by rw [A2, List.length_singleton, show 4 - (L.length + 1) = k from by omega]; rw [hk, bEs hok] at hgo; exact hgo⟩, by simp only [A2, List.length_singleton]; omega, [], ?_⟩
   simp only [go_sem, AObj.bel, AObj.ren, AV.ren, aB, sg, rdr] <;> simp
   exact hsp2
 have hl4 : L.length = 4 := by simp at hc2; omega
 rw [hl4, Nat.sub_self, bHi] at hgo
 obtain ⟨p, q, r, t, rfl⟩ : ∃ p q r t, L = [p, q, r, t] := by
   match L, hl4 with
   | [p, q, r, t], _ => exact ⟨p, q, r, t, rfl⟩
 have padL : aLr [p, q, r, t] = [p, q, r, t] := rfl
 obtain ⟨hr1, hr2⟩ := hr t oS
 have hns : (eL s 4 (wI s a).2.2).2.1 = true := by rw [<- hgo]
 refine we ((jt) (k7 (sr rfl fun k16 => (ja) ((jr) ?_))))
 refine vC (fun hN => jO (n := 3) rfl rfl hN bJs bId rfl rfl dg dg) (.inl rfl) ?_
 refine (Cl) ((jr) ?_)
 refine vg [] 0 rfl rfl rfl ⟨func87, rfl, rfl⟩ (iR s b hb hs t og og) rfl oG oG (mZ (H1 := []) (.inl rfl) Bm Bd) (.inl rfl) ?_
 refine (By) ((jr) (k16 (aA fun k17 => (aj) ((cdA) ?_ ?_)))) <;> intro hc4
 . have ht0 : (tI s b t).2.1 = false := by simpa using hc4
   have h9 : eI s a = (iQ, false, (tI s b t).2.2) := by unfold eI; rw [if_pos hw0, if_pos hns, <- hgo]; exact if_neg (by show ¬ (tI s b t).2.1 = true; rw [ht0]; simp)
   refine (aj) (wR ?_)
   refine ⟨[], ?_⟩
   exact Ck h9
 have ht0 : (tI s b t).2.1 = true := by simpa using hc4
 have h9 : eI s a = (⟨(wI s a).1, p, q, (tI s b t).1, r⟩, true, (tI s b t).2.2) := by unfold eI; rw [if_pos hw0, if_pos hns, <- hgo]; exact if_pos ht0
 refine wk (k17 (sr rfl fun k20 => (ja) ((jr) ?_)))
 refine vC (fun hN => jO (n := 0) rfl rfl hN bJs bId rfl rfl dg dg) (.inl rfl) ?_
 refine (Cl) ((jr) ?_)
 refine vC (fun hN => jO (n := 1) rfl rfl hN bJs bId rfl rfl dg dg) (.inl rfl) ?_
 refine (Cl) ((jr) ?_)
 refine vC (fun hN => jO (n := 2) rfl rfl hN bJs bId rfl rfl dg dg) (.inl rfl) ?_
 refine (Cl) ((jr) (k20 (wR ?_)))
 refine ⟨[], ?_⟩
 exact Ck h9
def aYc (s : ByteArray) (a : Nat) (n : Int) : (tI s a n).1.size <= s.size := by
  unfold tI; split
  . exact A5 _
  show (s.extract a (a + n.toNat)).size <= s.size
  rw [ByteArray.size_extract]; omega
def bLc {s : ByteArray} {a : Nat} (ha : a <= s.size) : (eI s a).1.key.size <= 8 /\ (eI s a).1.text.size <= s.size := by
  have h1 := (aPr ha).2.2.1
  have hz : iQ.key.size <= 8 /\ iQ.text.size <= s.size := ⟨by decide, A5 _⟩
  unfold eI
  generalize wI s a = w at h1 ⊢
  generalize eL s 4 w.2.2 = r
  have h2 := aYc s r.2.2 (r.1.getD 3 0)
  generalize tI s r.2.2 (r.1.getD 3 0) = t at h2 ⊢
  split
  . split
    . split
      . exact ⟨h1, h2⟩
      exact hz
    exact hz
  exact hz
def jQ (s : ByteArray) : Nat -> Nat -> List Entry -> List Entry × Bool
  | 0, _, out => (out, true)
  | f + 1, a, out => if a < s.size then (if (!(eI s a).2.1 || decide (12 <= (out.length : Int))) = true then (out, false) else jQ s f (eI s a).2.2 (out ++ [(eI s a).1])) else (out, true)
def aLu {s : ByteArray} {f a : Nat} {out : List Entry} (h : ¬ a < s.size) : jQ s f a out = (out, true) := by
  cases f with
  | zero => rfl
  | succ f => rw [jQ, if_neg h]
def aZt (s : ByteArray) (a b : Nat) (r : List Entry) : Bool := !isB r || !((fTx r).toList == (s.extract a b).toList)
def bI (s : ByteArray) (a : Nat) : List Entry × Bool × Nat :=
  if (nI s a).2.1 = true then
    (if (tI s (nI s a).2.2 (nI s a).1).2.1 = true then
      (if (tI s (tI s (nI s a).2.2 (nI s a).1).2.2 1).2.1 = true then
        (if (jQ (tI s (nI s a).2.2 (nI s a).1).1 (tI s (nI s a).2.2 (nI s a).1).1.size 0 []).2 = true then
          (if aZt s a (tI s (tI s (nI s a).2.2 (nI s a).1).2.2 1).2.2 (jQ (tI s (nI s a).2.2 (nI s a).1).1 (tI s (nI s a).2.2 (nI s a).1).1.size 0 []).1 = true then ([], false, (tI s (tI s (nI s a).2.2 (nI s a).1).2.2 1).2.2)
          else ((jQ (tI s (nI s a).2.2 (nI s a).1).1 (tI s (nI s a).2.2 (nI s a).1).1.size 0 []).1, true, (tI s (tI s (nI s a).2.2 (nI s a).1).2.2 1).2.2))
        else ([], false, (tI s (tI s (nI s a).2.2 (nI s a).1).2.2 1).2.2))
      else ([], false, (tI s (tI s (nI s a).2.2 (nI s a).1).2.2 1).2.2))
    else ([], false, (tI s (nI s a).2.2 (nI s a).1).2.2))
  else ([], false, (nI s a).2.2)
def aZf {s : ByteArray} {a : Nat} (ha : a <= s.size) : a <= (bI s a).2.2 /\ (bI s a).2.2 <= s.size /\ ((bI s a).2.1 = true -> a < (bI s a).2.2) := by
  have h1 := bCo ha
  have h2 := aWk (n := (nI s a).1) h1.2.1
  have h3 := aWk (n := 1) h2.2
  unfold bI; split
  . rename_i hn
    have := h1.2.2 hn
    split
    . split
      . split
        . split
          . simp only; exact ⟨og, h3.2, fun h => by cases h⟩
          simp only; exact ⟨og, h3.2, fun _ => by omega⟩
        simp only; exact ⟨og, h3.2, fun h => by cases h⟩
      simp only; exact ⟨og, h3.2, fun h => by cases h⟩
    simp only; exact ⟨og, h2.2, fun h => by cases h⟩
  exact ⟨h1.1, h1.2.1, fun h => by cases h⟩
def sT (s : ByteArray) : Nat -> Nat -> List (List Entry) -> List (List Entry) × Nat
  | 0, a, out => (out, a)
  | f + 1, a, out => if (bI s a).2.1 = true then sT s f (bI s a).2.2 (out ++ [(bI s a).1]) else (out, a)
def raI (s : ByteArray) : List (List Entry) × Nat := sT s (s.size + 1) 0 []
def vL (s : ByteArray) (a : Nat) (ha : a <= s.size) (hs : s.size <= 1048576) : aO P 39 [.ptr 0 0] [(0, rdr s a)] 1 (.tup [.sl 5 ((bI s a).1.map enA), .raw (.bool (bI s a).2.1)]) [(0, rdr s (bI s a).2.2)] 1 := by
 refine (gq 79 [.tmp 2, .tmp 3] func39) ?_
 simp only [rdr]
 have hmx := mxl
 have hn := bCo ha
 have hnr := aXa s a
 have ht := aWk (n := (nI s a).1) hn.2.1
 have hu := aWk (n := 1) ht.2
 obtain ⟨n1, hn1⟩ : ∃ z, z = (nI s a).1 := ⟨_, rfl⟩
 obtain ⟨n2, hn2⟩ : ∃ z, z = (nI s a).2.2 := ⟨_, rfl⟩
 obtain ⟨b0, hb0⟩ : ∃ z, z = (tI s n2 n1).1 := ⟨_, rfl⟩
 obtain ⟨t2, ht2⟩ : ∃ z, z = (tI s n2 n1).2.2 := ⟨_, rfl⟩
 obtain ⟨u2, hu2⟩ : ∃ z, z = (tI s t2 1).2.2 := ⟨_, rfl⟩
 rw [<- hn1, <- hn2] at ht hu
 rw [<- ht2] at ht hu
 rw [<- hu2] at hu; rw [<- hn2] at hn; rw [<- hn1] at hnr
 have hbs : b0.size <= s.size := by rw [hb0]; exact aYc _ _ _
 refine (aj) ((aj) ?_)
 refine sr rfl fun k3 => (ja) ?_
 refine vg [] 0 rfl rfl rfl ⟨func86, rfl, rfl⟩ (aXq s a ha hs) rfl oG oG (mZ (H1 := []) (.inl rfl) Bm Bd) (.inl rfl) ?_
 simp only [go_sem, AV.ren, AObj.ren, aB, shift, sg, A0, Nat.add_zero, Nat.sub_self, rdr, <- hn1, <- hn2]
 refine k3 (aA fun k4 => (aj) ((cdA) ?_ ?_)) <;> intro hc1
 . have hk : (nI s a).2.1 = false := by simpa using hc1
   have h9 : bI s a = ([], false, n2) := by unfold bI; rw [if_neg (by rw [hk]; simp), hn2]
   refine (aj) ?_
   refine pV (t := 2) 43 5 rfl dg ?_
   refine (ja) ?_
   refine aFz 1 rfl ?_
   refine (Ac) (wR ?_)
   refine ⟨[], ?_⟩
   exact Bz h9
 have hk1 : (nI s a).2.1 = true := by simpa using hc1
 refine wk (k4 (sr rfl fun k7 => (ja) ?_))
 refine vg [] 0 rfl rfl rfl ⟨func87, rfl, rfl⟩ (iR s n2 hn.2.1 hs n1 hnr.1 hnr.2) rfl oG oG (mZ (H1 := []) (.inl rfl) Bm Bd) (.inl rfl) ?_
 simp only [go_sem, AV.ren, AObj.ren, aB, shift, sg, A0, Nat.add_zero, Nat.sub_self, rdr, <- hb0, <- ht2]
 refine k7 (aA fun k8 => (aj) ((cdA) ?_ ?_)) <;> intro hc2
 . have hk : (tI s n2 n1).2.1 = false := by simpa using hc2
   have h9 : bI s a = ([], false, t2) := by unfold bI; rw [if_pos hk1, <- hn1, <- hn2, if_neg (by rw [hk]; simp), ht2]
   refine (aj) ?_
   refine pV (t := 2) 43 5 rfl dg ?_
   refine (ja) ?_
   refine aFz 1 rfl ?_
   refine (Ac) (wR ?_)
   refine ⟨[], ?_⟩
   exact Bz h9
 have hk2 : (tI s n2 n1).2.1 = true := by simpa using hc2
 refine wk (k8 (aA fun k11 => sr rfl fun k12 => (ja) ?_))
 refine vg [] 0 rfl rfl rfl ⟨func87, rfl, rfl⟩ (iR s t2 ht.2 hs 1 og og) rfl oG oG (mZ (H1 := []) (.inl rfl) Bm Bd) (.inl rfl) ?_
 simp only [go_sem, AV.ren, AObj.ren, aB, shift, sg, A0, Nat.add_zero, Nat.sub_self, rdr, <- hu2]
 refine k12 ((aj) ((cdA) ?_ ?_)) <;> intro hc3
 . have hk : (tI s t2 1).2.1 = false := by simpa using hc3
   have h9 : bI s a = ([], false, u2) := by unfold bI; rw [if_pos hk1, <- hn1, <- hn2, if_pos hk2, <- ht2, if_neg (by rw [hk]; simp), hu2]
   refine (aj) ?_
   refine pV (t := 2) 43 5 rfl dg ?_
   refine (ja) ?_
   refine aFz 1 rfl ?_
   refine (Ac) (wR ?_)
   refine ⟨[], ?_⟩
   exact Bz h9
 have hk3 : (tI s t2 1).2.1 = true := by simpa using hc3
 have hbI : bI s a = if (jQ b0 b0.size 0 []).2 = true then (if aZt s a u2 (jQ b0 b0.size 0 []).1 = true then ([], false, u2) else ((jQ b0 b0.size 0 []).1, true, u2)) else ([], false, u2) := by
   unfold bI; rw [if_pos hk1, <- hn1, <- hn2, if_pos hk2, <- ht2, <- hb0, if_pos hk3, <- hu2]
 refine wk (k11 ((aj) ((aj) ?_)))
 refine aA fun k17 => wb ?_
 refine pV (t := 9) 43 5 rfl dg ?_
 refine (ja) ?_
 refine wl (α := Nat × Nat × List Entry) (fun x => b0.size <= x.1 + x.2.1 /\ x.2.1 <= b0.size /\ x.2.2.length <= 12 /\ (∀ e ∈ x.2.2, e.key.size <= 1048576 /\ e.text.size <= 1048576) /\ jQ b0 x.1 x.2.1 x.2.2 = jQ b0 b0.size 0 []) (fun x => x.1) (fun x => ([(0, .ptr 0 0), (4, Ni (a : Int)), (7, Ns b0), (8, .ptr 1 0), (9, .ref 2)], [(0, rdr s u2), (1, rdr b0 x.2.1), (2, .row 43 5 (x.2.2.map enA))])) 3 (b0.size, 0, []) ⟨by simp, A5 _, by simp, by simp, rfl⟩ [] ?_ ?_
 . exact Dj
 rintro ⟨f, at0, out⟩ ⟨hf, hat, hol, hoz, hgo⟩
 simp only at hf hat hol hoz hgo ⊢
 refine aA fun k18 => (aj) ((cdA) ?_ ?_) <;> intro hc4
 . have hlt : at0 < b0.size := by simpa using hc4
   obtain ⟨g, rfl⟩ : ∃ g, f = g + 1 := ⟨f - 1, og⟩
   have he := bRg hat
   have hes := bLc hat
   refine wk (k18 (wb (sr rfl fun k20 => (Bg) ?_)))
   refine vg [(0, 1)] 0 rfl rfl rfl ⟨func88, rfl, rfl⟩ (vV b0 at0 hat og) rfl (by simp only [go_sem, AV.ren, aB, sg]) oG (mZ (H1 := []) (.inr ⟨1, rfl⟩) (by simp only [go_sem, rdr, sg, AObj.ren] <;> simp [AV.ren, aB, sg, Abs.get]) Bd) (.inl rfl) ?_
   simp only [go_sem, AV.ren, AObj.ren, aB, shift, sg, A0, Nat.add_zero, Nat.sub_self, rdr, enA]
   refine k20 (aA fun k21 => (aj) ((cdA) ?_ ?_)) <;> intro hc5
   . rw [jQ, if_pos hlt, if_pos hc5] at hgo
     have h9 : bI s a = ([], false, u2) := by rw [hbI, <- hgo]; exact if_neg oS
     refine (aj) ?_
     refine pV (t := 2) 43 5 rfl dg ?_
     refine (ja) ?_
     refine aFz 4 rfl ?_
     refine (Ac) (wR ((Ah) ?_))
     refine ⟨[], ?_⟩
     exact Bz h9
   have hok : (eI b0 at0).2.1 = true /\ out.length < 12 := by simp at hc5; exact ⟨hc5.1, og⟩
   have hlt2 := he.2.2 hok.1
   refine wk (k21 (wg rfl ((Cu) ((jr) ((jt) ((jt) ?_))))))
   refine ⟨(g, (eI b0 at0).2.2, out ++ [(eI b0 at0).1]), ⟨by simp only; omega, he.2.1, by simp; omega, fun e h => (by rcases A7.1 h with h | h; exact hoz e h; rw [B6.1 h]; omega), by simp only; rw [jQ, if_pos hlt, if_neg (by rw [hc5]; simp)] at hgo; exact hgo⟩, by simp only; omega, [(2, 5)], ?_⟩
   simp only [go_sem, AObj.bel, AObj.ren, AV.ren, aB, sg, rdr] <;> simp [enA]
 have hge : ¬ at0 < b0.size := by simpa using hc4
 rw [aLu hge] at hgo; rw [<- hgo] at hbI
 simp only [if_true] at hbI
 have hto : ((u2 : Nat) : Int).toNat = u2 := Int.toNat_natCast _
 refine we ((jt) (k17 (aA fun k24 => ?_)))
 have hmx : cW out := ⟨og, fun e he => ⟨by have := hoz e he; omega, by have := hoz e he; omega⟩⟩
 refine aFz 2 rfl ?_
 refine (Ac) ?_
 refine sd mixed rfl fun k25 => (Aa hto) ((jr) ?_)
 refine tp rfl rfl rfl ⟨func56, rfl, rfl⟩ (yI out hmx) oG oG ?_
 refine (ja) ((jr) ?_)
 refine tpg rfl rfl rfl rfl rfl rfl ⟨func22, rfl, rfl⟩ (fun hg => nX out hmx) oG (fun hg => oG) oG trivial ?_
 refine (ja) ((jr) ((jy) (k25 ((cdA) ?_ ?_)))) <;> intro hc6
 . have h9 : bI s a = ([], false, u2) := by rw [hbI]; exact if_pos hc6
   refine (aj) ?_
   refine pV (t := 2) 43 5 rfl dg ?_
   refine (ja) ?_
   refine aFz 3 rfl ?_
   refine (Ac) (wR ?_)
   refine ⟨[], ?_⟩
   exact Bz h9
 have h9 : bI s a = (out, true, u2) := by rw [hbI]; exact if_neg (by unfold aZt; rw [hc6]; simp)
 refine wk (k24 ((aj) (wR ?_)))
 refine ⟨[], ?_⟩
 exact Bz h9
def pS (s : ByteArray) (hs : s.size <= 1048576) : aK P 13 [Ns s] [] 0 (.tup [.sl 1 ((raI s).1.map esA), Ni ((raI s).2 : Int)]) := by
 refine (pq 25 [.tmp 2, .tmp 3] func13) ?_
 have hmx := mxl
 refine (aj) ((aj) ((aj) (wb ?_)))
 refine pV (t := 5) 23 1 rfl dg ?_
 refine (ja) ?_
 refine wl (α := Nat × Nat × List (List Entry)) (fun x => x.2.1 <= s.size /\ s.size < x.1 + x.2.1 /\ x.2.2.length <= x.2.1 /\ sT s x.1 x.2.1 x.2.2 = raI s) (fun x => x.1) (fun x => ([(4, .ptr 0 0), (5, .ref 1)], [(0, rdr s x.2.1), (1, .row 23 1 (x.2.2.map esA))])) 2 (s.size + 1, 0, []) ⟨A5 _, by simp, by simp, rfl⟩ [] ?_ ?_
 . exact Dj
 rintro ⟨f, a, out⟩ ⟨ha, hf, hol, hgo⟩
 simp only at ha hf hol hgo ⊢
 obtain ⟨g, rfl⟩ : ∃ g, f = g + 1 := ⟨f - 1, og⟩
 have hb := aZf ha
 refine wb ((aj) ?_)
 refine sr rfl fun k5 => (ja) ?_
 refine vg [] 0 rfl rfl rfl ⟨func39, rfl, rfl⟩ (vL s a ha hs) rfl oG oG (mZ (H1 := []) (.inl rfl) Bm Bd) (.inl rfl) ?_
 refine (By) (k5 (aA fun k6 => (aj) ((cdA) ?_ ?_))) <;> intro hc1
 . have hok : (bI s a).2.1 = false := by simpa using hc1
   rw [sT, if_neg (by rw [hok]; simp)] at hgo
   refine (aj) ?_
   refine aFz 1 rfl ?_
   refine (Ac) (wR ((Ah) ?_))
   refine fO ?_ ⟨by simp only [go_sem], trivial, trivial⟩
   simp only [go_sem, <- hgo]
 have hok : (bI s a).2.1 = true := by simpa using hc1
 have hlt := hb.2.2 hok
 refine wk (k6 (wg rfl ((Au) ((jr) ((jt) ((jt) ?_))))))
 refine ⟨(g, (bI s a).2.2, out ++ [(bI s a).1]), ⟨hb.2.1, by simp only; omega, by simp; omega, by simp only; rw [sT, if_pos hok] at hgo; exact hgo⟩, by simp only; omega, [(1, 3)], ?_⟩
 simp only [go_sem, AObj.bel, AObj.ren, AV.ren, aB, sg, rdr] <;> simp [esA]
def jT (seq : Int) (st : List Entry × Int) (e : Entry) : List Entry × Int := if seq < e.seq then (st.1 ++ [e], max st.2 e.seq) else st
def iY (seq : Int) (st : List Entry × Int) (b : List Entry) : List Entry × Int := b.foldl (jT seq) st
def hJ (bs : List (List Entry)) (seq : Int) : List Entry × Int := (bF (bs.foldl (iY seq) ([], seq)).1, (bs.foldl (iY seq) ([], seq)).2)
def bAf (seq : Int) (st : List Entry × Int) (e : Entry) : (jT seq st e).1.length <= st.1.length + 1 := by
  unfold jT; split
  . simp
  omega
def bQx (bs : List (List Entry)) : Prop := bs.length <= 12001 /\ ∀ b ∈ bs, b.length <= 12
def sP (d : Disk) : Bool := if 12000 < (d.log.size : Int) ∨ d.safe < 0 ∨ (d.log.size : Int) < d.safe then false else eC ⟨d.seq, [], d.levels, []⟩
def bQw {s : ByteArray} {a : Nat} (h : (bI s a).2.1 = true) : isB (bI s a).1 = true := by
  unfold bI at h ⊢
  generalize nI s a = n at h ⊢
  generalize tI s n.2.2 n.1 = t at h ⊢
  generalize tI s t.2.2 1 = u at h ⊢
  generalize jQ t.1 t.1.size 0 [] = r at h ⊢
  split at h
  . rename_i h1
    split at h
    . rename_i h2
      split at h
      . rename_i h3
        split at h
        . rename_i h4
          split at h
          . cases h
          rename_i h5
          rw [if_pos h1, if_pos h2, if_pos h3, if_pos h4, if_neg h5]; unfold aZt at h5; simp at h5
          exact h5.1
        cases h
      cases h
    cases h
  cases h
def aVb {s : ByteArray} : ∀ (f a : Nat) (out : List (List Entry)), a <= s.size -> out.length <= a -> (∀ b ∈ out, isB b = true) -> (∀ b ∈ (sT s f a out).1, isB b = true) /\ (sT s f a out).1.length <= s.size
  | 0, a, out, ha, hl, h => ⟨h, by simp only [sT]; omega⟩
  | f + 1, a, out, ha, hl, h => by
    unfold sT
    have hb := aZf ha
    split
    . rename_i hk
      have := hb.2.2 hk
      refine aVb f _ _ hb.2.1 (by simp; omega) fun b hb' => ?_
      rcases A7.1 hb' with h1 | h1
      . exact h b h1
      rw [B6.1 h1]; exact bQw hk
    exact ⟨h, by simp only; omega⟩
def tD (s : ByteArray) : (∀ b ∈ (raI s).1, isB b = true) /\ (raI s).1.length <= s.size := aVb _ 0 [] (A5 _) (A0 _) oS
def vU {s : ByteArray} (hs : s.size <= 12000) : bQx (raI s).1 := by
  obtain ⟨h1, h2⟩ := tD s
  exact ⟨og, fun b hb => (bQ (h1 b hb)).2.2⟩
def bAu (d : Disk) (hs : aKz d.levels) : aK P 41 [.agg [Ni d.seq, .raw (.slice none 0 0), .sl 1 (d.levels.map rsA), .raw (.slice none 0 0)]] [] 0 (Nb (eC ⟨d.seq, [], d.levels, []⟩)) :=
  (aAc ⟨d.seq, [], d.levels, []⟩ ⟨⟨by simp, by simp⟩, hs, by simp⟩).args_le (LeL.cons (Le.aggL (LeL.cons (.refl _) (LeL.cons (.nil _) (LeL.cons (.refl _) (LeL.cons (.nil _) LeL.nil))))) LeL.nil) ⟨gD _ _, trivial⟩
def sN (bs : List (List Entry)) (seq : Int) (hb : bQx bs) : aK P 42 [.sl 1 (bs.map esA), Ni seq] [] 0 (.tup [.sl 5 ((hJ bs seq).1.map enA), .raw (.int .i64 (hJ bs seq).2)]) := by
 refine (pq 43 [.tmp 4, .tmp 5] func42) ?_
 have hmx := mxl
 obtain ⟨hb1, hb2⟩ := hb
 refine (aj) ((aj) ((aj) ?_))
 refine aA fun k4 => (aj) (wb ?_)
 refine pV (t := 6) 43 5 rfl dg ?_
 refine (ja) ?_
 refine wl (α := Nat × List Entry × Int) (fun x => x.1 <= bs.length /\ x.2.1.length <= 12 * x.1 /\ (bs.drop x.1).foldl (iY seq) x.2 = bs.foldl (iY seq) ([], seq)) (fun x => bs.length - x.1) (fun x => ([(1, Ni seq), (6, .ref 0), (7, Ni x.2.2), (13, .sl 1 (bs.map esA)), (14, Ni (bs.length : Int)), (15, Ni (x.1 : Int))], [(0, .row 43 5 (x.2.1.map enA))])) 1 (0, [], seq) ⟨A5 _, by simp, rfl⟩ [] ?_ ?_
 . exact Bu
 rintro ⟨i, st⟩ ⟨hi, hol, hfold⟩
 simp only at hi hol hfold ⊢
 refine (aj) ?_
 refine aA fun k7 => (cdB) ?_ ?_ <;> intro hc1
 . have hge := gec hc1
   rw [E6 hge, List.foldl_nil] at hfold
   have h9 : hJ bs seq = (bF st.1, st.2) := by unfold hJ; rw [<- hfold]
   refine we ((jt) (k4 (sr rfl fun k17 => (ja) ?_)))
   refine vg [] 0 rfl rfl rfl ⟨func44, rfl, rfl⟩ (aZz st.1 og) rfl Al Al (mZ (H1 := []) (.inl rfl) oG (by simp only [go_sem, AObj.bel])) (.inl rfl) ?_
   refine (jn) (k17 ((aj) ?_))
   refine aFz 0 rfl ?_
   refine (Ac) (wR ?_)
   refine fO ?_ ⟨enB _ _, trivial, trivial⟩
   exact Ab h9
 obtain ⟨hlt, l, hl, hdrop, hml⟩ := ixc hc1
 have hl12 := hb2 l hml
 refine wk (k7 (aA fun k8 => wb (sr rfl fun k9 => (Bh hl) ((jr) (k9 ((aj) (wb ?_)))))))
 refine wl (α := Nat × List Entry × Int) (fun x => x.1 <= l.length /\ x.2.1.length <= 12 * i + x.1 /\ (l.drop x.1).foldl (jT seq) x.2 = iY seq st l) (fun x => l.length - x.1) (fun x => ([(1, Ni seq), (6, .ref 0), (7, Ni x.2.2), (13, .sl 1 (bs.map esA)), (14, Ni (bs.length : Int)), (15, Ni (i : Int)), (19, .sl 5 (l.map enA)), (20, Ni (l.length : Int)), (21, Ni (x.1 : Int))], [(0, .row 43 5 (x.2.1.map enA))])) 1 (0, st) ⟨A5 _, by simpa using hol, rfl⟩ [] ?_ ?_
 . exact jp
 rintro ⟨k, st2⟩ ⟨hk, hol2, hfold2⟩
 simp only at hk hol2 hfold2 ⊢
 refine (aj) ?_
 refine aA fun k12 => (cdB) ?_ ?_ <;> intro hc2
 . have hgek : l.length <= k := by have h9 : ¬ k < l.length := (by simpa using hc2); omega
   rw [E6 hgek, List.foldl_nil] at hfold2
   have hf2 : iY seq st l = st2 := hfold2.symm
   refine we ((jt) ((jt) (k8 ((jw (wiS i og)) ((jt) ?_)))))
   refine ⟨(i + 1, st2), ⟨og, by simp only; omega, by rw [hdrop, List.foldl_cons] at hfold; rw [<- hfold]; exact congrArg (fun z => (bs.drop (i + 1)).foldl (iY seq) z) hf2.symm⟩, og, [], ?_⟩
   exact jp
 have hltk : k < l.length := by simpa using hc2
 obtain ⟨e, he, hdrop2, _⟩ := ix hltk
 refine wk (k12 (aA fun k13 => wb (sr rfl fun k14 => (An he) ((jr) (k14 (sr rfl fun k15 => (Bg) (k15 ((cdB) ?_ ?_)))))))) <;> intro hc3
 . have hgt : ¬ seq < e.seq := by simpa using hc3
   have hst : jT seq st2 e = st2 := by unfold jT; rw [if_neg hgt]
   refine wk ((jt) (k13 ?_))
   have hwk := wiS k og
   refine wg rfl ((Aa hwk) ((jt) ?_))
   refine ⟨(k + 1, st2), ⟨og, by simp only; omega, by rw [hdrop2, List.foldl_cons] at hfold2; rw [<- hfold2, hst]⟩, og, [], ?_⟩
   exact jp
 have hgt : seq < e.seq := by simpa using hc3
 have hst : jT seq st2 e = (st2.1 ++ [e], max st2.2 e.seq) := by unfold jT; rw [if_pos hgt]
 have hmx : max st2.2 e.seq = max st2.2 e.seq := rfl
 refine sr rfl fun k16 => ?_
 simp only [go_sem, B0, A2, List.nil_append, A6, H6, B1, enA]
 refine (jr) (k16 (wg rfl ((Aa hmx) ((jt) (k13 ?_)))))
 have hwk := wiS k og
 refine wg rfl ((Aa hwk) ((jt) ?_))
 refine ⟨(k + 1, st2.1 ++ [e], max st2.2 e.seq), ⟨og, by simp; omega, by rw [hdrop2, List.foldl_cons] at hfold2; rw [<- hfold2, hst]⟩, og, [(0, 3)], ?_⟩
 simp only [go_sem, AObj.bel, AObj.ren, AV.ren, aB, sg] <;> simp [enA]
def aAo (d : Disk) (hs : aKz d.levels) : aK P 40 [dkA d] [] 0 (Nb (sP d)) := by
 refine (pq 28 [.tmp 2] func40) ?_
 simp only [dkA]
 refine (aj) ?_
 refine sr rfl fun k2 => (ja) ?_
 refine vpg rfl rfl rfl rfl rfl rfl ⟨func41, rfl, rfl⟩ (fun hg => bAu d hs) oG (fun hg => oG) oG trivial ?_
 refine (ja) (k2 (wR ?_))
 have h9 : sP d = (((decide ((d.log.size : Int) <= 12000) && decide (0 <= d.safe)) && decide (d.safe <= (d.log.size : Int))) && eC ⟨d.seq, [], d.levels, []⟩) := by
   unfold sP; split
   . rename_i h; have : ((decide ((d.log.size : Int) <= 12000) && decide (0 <= d.safe)) && decide (d.safe <= (d.log.size : Int))) = false := by simp; omega
     rw [this]; rfl
   rename_i h; have : ((decide ((d.log.size : Int) <= 12000) && decide (0 <= d.safe)) && decide (d.safe <= (d.log.size : Int))) = true := by simp; omega
   rw [this]; rfl
 exact fq h9
section
variable {H : Heap} {ro : Option Nat} {N nx b0 : Nat} {E : Env} {o : Oper} {c : Call} {x : Operand}
def aNn {P : Program} {ds : List (Option Tmp)} (hg : o.guard = none) (ho : o.op = .call c) (hc : c.callee = .builtin .unsafeSliceData) (hargs : c.args = #[x]) (hN : ∀ d, o.dst = some d -> d < N)
    (hx : opv E x = some (.raw (.slice none 0 0))) : aY P ro N ds o b0 E H (aF [x]) [] (.raw (.pointer none)) [] nx 0 := by
  refine lsO hg fun E' H' U hE hH' hnx => ?_
  rw [aU0]
  have hops := oCg hE
  refine aT (by simp [ho, Op.noDefer]) hN fun C a w hR => ?_
  obtain ⟨h1, h2⟩ := hR.opv (x := x) (by rw [hops x oS]; exact hx)
  have hev : a.eval x = .slice none 0 0 := by
    generalize a.eval x = v at h1
    cases h1; rfl
  have hr := Lib.run_unsafeSliceData_nil (P := P) w c.argTypes o.type 0 0
  exact ⟨trivial, .pointer none, by simp [execOp, ho, resolve, hc, hargs, invoke, builtin, hev, hr], .raw _⟩
def aHz {P : Program} {ds : List (Option Tmp)} {x y : Operand} {pt it : Nat} (hg : o.guard = none) (ho : o.op = .call c) (hc : c.callee = .builtin .unsafeString) (hargs : c.args = #[x, y]) (hts : c.argTypes = #[pt, it]) (hN : ∀ d, o.dst = some d -> d < N)
    (hx : opv E x = some (.raw (.pointer none))) (hy : opv E y = some (Ni 0)) : aY P ro N ds o b0 E H (aF [x, y]) [] (Ns ⟨#[]⟩) [] nx 0 := by
  refine lsO hg fun E' H' U hE hH' hnx => ?_
  rw [aU0]
  have hops := oCg hE
  refine aT (by simp [ho, Op.noDefer]) hN fun C a w hR => ?_
  obtain ⟨h1, h2⟩ := hR.opv (x := x) (by rw [hops x oS]; exact hx)
  obtain ⟨h3, _⟩ := hR.opv (x := y) (by rw [hops y oS]; exact hy)
  have hev : a.eval x = .pointer none := by
    generalize a.eval x = v at h1
    cases h1; rfl
  have hey : a.eval y = .int .i64 0 := by
    generalize a.eval y = v at h3
    cases h3; rfl
  have hr := Lib.run_unsafeString_none (P := P) w pt it o.type none
  exact ⟨trivial, .string .empty, by simp [execOp, ho, resolve, hc, hargs, hts, invoke, builtin, hev, hey, hr], .raw _⟩
def bEj (L : List UInt8) : Heap := if L = [] then [(2, .cells 87 [.raw (.pointer none), .raw (.slice none 0 0)])] else [(2, .cells 87 [.ptr 2 0, .ref 3]), (3, .row 5 1 (L.map byteAV))]
def aFg {s : ByteArray} : bL s = [] ↔ s.size = 0 := by rw [<- List.length_eq_zero_iff, aQ]
def yK {b : List Entry} (h : isB b = true) : (fTx b).size <= 4000 /\ 1 <= (fTx b).size := by
  obtain ⟨hok, h1, h2⟩ := bQ h
  have h3 := sU b ⟨#[]⟩ fun e he => by obtain ⟨_, _, _, _, _, _, r7, r8⟩ := gQ (hok e he); exact ⟨r7, r8⟩
  have h4 := gK ((bTx b).size : Int)
  have h5 : (bTx b).size = (b.foldl pT ⟨#[]⟩).size := rfl
  have h6 : (⟨#[]⟩ : ByteArray).size = 0 := rfl
  unfold fTx; rw [if_pos h]; simp only [B8, bW, nG]; omega
def aAe (s : Store) : Store :=
  ⟨true, ⟨(hJ (raI s.disk.log).1 s.disk.seq).2, (hJ (raI s.disk.log).1 s.disk.seq).1, s.disk.levels, []⟩, ⟨mR (raI s.disk.log).1 s.disk.seq, ((mR (raI s.disk.log).1 s.disk.seq).size : Int), s.disk.levels, s.disk.seq⟩⟩
def bOt {H H1 : Heap} {s : List (Nat × Nat)} {g : AObj} {nw : Nat} (hs : s = [] ∨ ∃ j, s = [(0, j)]) (ho : Abs.get H (sg s 0) = some (g.ren (sg s))) (hb : g.bel (UU 1)) (hk : ∀ i ∈ H1.map (·.1), i < 1 + nw) (ha : (Abs.get H1 0).isSome = true) (hf : nw <= 900) : FitC H s [(0, g)] 1 nw H1 where
  objs := ⟨ho, .inl og, hb, trivial⟩
  inj := by simp
  cov := fun i hi => by have : i = 0 := by omega
                        subst this; rfl
  sk := fun p hp => by
    rcases hs with rfl | ⟨j, rfl⟩
    . cases hp
    rw [B6.1 hp]; rfl
  dom := fun p hp => by
    have := hk p.1 (A9.2 ⟨p, hp, rfl⟩)
    by_cases h : p.1 = 0
    . left; rw [h]; rfl
    exact .inr ⟨og, this⟩
  all := fun p hp => by rw [B6.1 hp]; exact ha
  far := by omega
def bBa  : aO P 60 [.ptr 0 0] [(0, tK)] 1 (Ns ⟨#[]⟩) [(0, tK)] 1 := by
 refine (gq 14 [.tmp 2] func60) ?_
 simp only [tK]
 refine (aj) ?_
 refine sd mixed rfl fun k2 => (ja) ?_
 refine aN (fun hN => aNn rfl rfl rfl rfl hN rfl) (.inl rfl) ?_
 refine (ja) ?_
 refine aN (fun hN => aHz rfl rfl rfl rfl rfl hN rfl rfl) (.inl rfl) ?_
 refine (ja) ((jy) (k2 (wR ?_)))
 refine ⟨[], ?_⟩; exact jz
def bBe (l : List UInt8) (h0 : l ≠ []) : aO P 60 [.ptr 0 0] [(0, lP 1), (1, bR l)] 2 (Ns ⟨l.toArray⟩) [(0, .cells 87 [.ptr 0 0, .sl 1 (l.map byteAV)]), (1, .dead)] 2 := by
 refine (gq 14 [.tmp 2] func60) ?_
 simp only [lP, bR]
 refine (aj) ?_
 refine sd mixed rfl fun k2 => (Bk) ?_
 refine aN (fun hN => wS (l := l) rfl rfl rfl rfl hN rfl rfl h0 (.inl dg)) (.inl rfl) ?_
 refine (Bk) ?_
 refine aN (fun hN => aGf (l := l) (m := 0) (jj := 1) rfl rfl rfl rfl rfl hN uPU ceU rfl rfl rfl h0 rfl rfl dg) (.inr dg) ?_
 simp only [go_sem, List.set_cons_succ, List.set_cons_zero, A6]
 refine (jy) (k2 (wR ?_))
 refine ⟨[], ?_⟩; exact jz
def bNn (l : List UInt8) : aO P 59 [.ptr 0 0] [(0, .cells 87 [.ptr 0 0, .sl 1 (l.map byteAV)])] 1 (Ni (l.length : Int)) [(0, .cells 87 [.ptr 0 0, .sl 1 (l.map byteAV)])] 1 := by
 refine (gq 8 [.tmp 2] func59) ((aj) ?_)
 refine sr rfl fun k2 => (Bk) (k2 (wR ?_))
 refine ⟨[], ?_⟩; exact jz
def aOz (s : Store) (hlog : s.disk.log.size <= 12000) : aK P 38 [stA s] [] 0 (stA (aAe s)) := by
 refine (pq 64 [.cell 2 31] func38) ?_
 simp only [stA]
 have hb0 : bEj (bL (⟨#[]⟩ : ByteArray)) = [(2, .cells 87 [.raw (.pointer none), .raw (.slice none 0 0)])] := if_pos rfl
 have hbok := (tD s.disk.log).1
 have hbl := (tD s.disk.log).2
 refine (aj) ?_
 refine sr rfl fun k2 => (ja) ((vq func13 (pS s.disk.log og)) (k2 ((aj) ?_)))
 refine aA fun k4 => (aj) (wb ?_)
 refine wl (α := Nat × ByteArray) (fun x => x.1 <= (raI s.disk.log).1.length /\ x.2.size <= 4000 * x.1 /\ ((raI s.disk.log).1.drop x.1).foldl (cB s.disk.seq) x.2 = mR (raI s.disk.log).1 s.disk.seq) (fun x => (raI s.disk.log).1.length - x.1) (fun x => ([(1, .ptr 0 0), (2, .ptr 1 0), (3, .sl 1 ((raI s.disk.log).1.map esA)), (5, .ptr 2 0), (18, .sl 1 ((raI s.disk.log).1.map esA)), (19, Ni ((raI s.disk.log).1.length : Int)), (20, Ni (x.1 : Int))], [(0, .cells 31 [Nb s.up, Ni s.tree.seq, .sl 5 (s.tree.mem.map enA), .sl 1 (s.tree.levels.map rsA), .sl 1 (s.tree.snaps.map inA), Ns s.disk.log, Ni s.disk.safe, .sl 1 (s.disk.levels.map rsA), Ni s.disk.seq]), (1, .cells 31 [Nb false, Ni 0, .raw (.slice none 0 0), .raw (.slice none 0 0), .raw (.slice none 0 0), Ns ⟨#[]⟩, Ni 0, .raw (.slice none 0 0), Ni 0])] ++ bEj (bL x.2) ++ [])) 4 (0, ⟨#[]⟩) ⟨A5 _, A5 _, rfl⟩ [] ?_ ?_
 . simp only [hb0, List.cons_append, List.nil_append, List.append_nil, go_sem, AObj.bel, Int.natCast_zero] <;> simp
 rintro ⟨i, L⟩ ⟨hi, hL, hfold⟩
 simp only at hi hL hfold ⊢
 rcases Nat.eq_zero_or_pos L.size with hLz | hLz
 . have hbh : bEj (bL L) = [(2, .cells 87 [.raw (.pointer none), .raw (.slice none 0 0)])] := if_pos (aFg.2 hLz)
   have hLe : L = ⟨#[]⟩ := by rw [<- rE L, aFg.2 hLz]
   have hLb : bL L = [] := aFg.2 hLz
   simp only [hbh, List.cons_append, List.nil_append, List.append_nil]
   refine (aj) ?_
   refine aA fun k7 => (cdB) ?_ ?_ <;> intro hc1
   . have hge : (raI s.disk.log).1.length <= i := by have h9 : ¬ i < (raI s.disk.log).1.length := (by simpa using hc1); omega
     rw [E6 hge, List.foldl_nil] at hfold; subst hLe
     refine we ((jt) (k4 (sr rfl fun k11 => (ja) ((vq func42 (sN (raI s.disk.log).1 s.disk.seq (vU hlog))) (k11 ((aj) ?_))))))
     refine sr rfl fun k13 => (ja) ?_
     refine vg [(0, 2)] 0 rfl rfl rfl ⟨func60, rfl, rfl⟩ (bBa) rfl Ca oG (mZ (H1 := []) (.inr ⟨2, rfl⟩) Cy (by simp only [go_sem, AObj.bel, tK])) (.inl rfl) ?_
     refine (Cx) (k13 (sr rfl fun k14 => (ja) ?_))
     refine vg [(0, 2)] 0 rfl rfl rfl ⟨func59, rfl, rfl⟩ (bLy) rfl Ca oG (mZ (H1 := []) (.inr ⟨2, rfl⟩) Cy (by simp only [go_sem, AObj.bel, tK])) (.inl rfl) ?_
     refine (Cx) (k14 ((aj) ((aj) ?_)))
     refine dI 1 (ds := [Nb true, .raw (.int .i64 (hJ (raI s.disk.log).1 s.disk.seq).2), .sl 5 ((hJ (raI s.disk.log).1 s.disk.seq).1.map enA), .sl 1 (s.disk.levels.map rsA), .sl 1 [], Ns ⟨#[]⟩, Ni 0, .sl 1 (s.disk.levels.map rsA), Ni s.disk.seq]) rfl (by repeat (first | exact LeL.nil | refine LeL.cons (by first | exact Le.refl _ | exact Le.nil _) ?_)) oG ?_
     refine (ja) (wR ?_)
     have h9 : mR (raI s.disk.log).1 s.disk.seq = ⟨#[]⟩ := hfold.symm
     refine fO ?_ (bK _ _)
     simp only [go_sem, aAe, h9, stA, List.map_nil]; rfl
   have hlt : i < (raI s.disk.log).1.length := by simpa using hc1
   obtain ⟨l, hl, hdrop, hml⟩ := ix hlt
   have hib := hbok l hml
   obtain ⟨hok, hb1, hb2⟩ := bQ hib
   obtain ⟨hf1, hf2⟩ := yK hib
   have hpv : l[l.length - 1]? = some (dR l) := by unfold dR; rw [A1 og]; rfl
   have hw6 := wr ((l.length : Int) - 1) ((l.length : Int) - 1) og
   have hpn : ((l.length : Int) - 1).toNat = l.length - 1 := by omega
   have hbn : bEj (bL (L ++ fTx l)) = [(2, .cells 87 [.ptr 2 0, .ref 3]), (3, .row 5 1 ((bL (L ++ fTx l)).map byteAV))] := if_neg (by rw [aFg, B8]; omega)
   refine wk (k7 (aA fun k8 => wb (sr rfl fun k9 => (Bh hl) ((jr) (k9 (sd mixed rfl fun k10 => ?_))))))
   simp only [go_sem, hw6, hpn, hpv, enA, A6]
   refine (jr) ((jy) (k10 ((cdB) ?_ ?_))) <;> intro hc2
   . have hgt : ¬ s.disk.seq < (dR l).seq := by simpa using hc2
     have hst : cB s.disk.seq L l = L := by unfold cB; rw [if_neg hgt]
     refine wk ((jt) (k8 ((jw (wiS i og)) ((jt) ?_))))
     refine ⟨(i + 1, L), ⟨og, by simp only; omega, by rw [hdrop, List.foldl_cons, hst] at hfold; exact hfold⟩, og, [], ?_⟩
     exact Dk hbh
   have hgt : s.disk.seq < (dR l).seq := by simpa using hc2
   have hst : cB s.disk.seq L l = L ++ fTx l := by unfold cB; rw [if_pos hgt]
   refine wg rfl ((ja) ((vq func22 (nX l (by exact ⟨og, fun e he => ⟨by have := (cO (hok e he)).1; omega, by have := (cO (hok e he)).2; omega⟩⟩))) ?_))
   refine vg [(0, 2)] 1 rfl rfl rfl ⟨func57, rfl, rfl⟩ (aMp (fTx l) og) rfl Ca oG (bOt (.inr ⟨2, rfl⟩) Cy (by simp only [go_sem, AObj.bel, tK]) oS rfl dg) (.inr dg) ?_
   refine (Cx) ((jt) (k8 ((jw (wiS i og)) ((jt) ?_))))
   refine ⟨(i + 1, L ++ fTx l), ⟨og, by simp only [B8]; omega, by rw [hdrop, List.foldl_cons, hst] at hfold; exact hfold⟩, og, [(3, 4)], ?_⟩
   simp only [go_sem, AObj.bel, AObj.ren, AV.ren, aB, sg, hbn, List.cons_append, List.nil_append, List.append_nil] <;> simp [qU, hLb, Abs.get, sg]
   rfl
 have hLn : bL L ≠ [] := fun h => by rw [aFg] at h; omega
 have hbh : bEj (bL L) = [(2, .cells 87 [.ptr 2 0, .ref 3]), (3, .row 5 1 ((bL L).map byteAV))] := if_neg hLn
 simp only [hbh, List.cons_append, List.nil_append, List.append_nil]
 refine (aj) ?_
 refine aA fun k18 => (cdB) ?_ ?_ <;> intro hc3
 . have hge : (raI s.disk.log).1.length <= i := by have h9 : ¬ i < (raI s.disk.log).1.length := (by simpa using hc3); omega
   rw [E6 hge, List.foldl_nil] at hfold
   have hLm : (⟨(bL L).toArray⟩ : ByteArray) = L := rE L
   refine we ((jt) (k4 (sr rfl fun k22 => (ja) ((vq func42 (sN (raI s.disk.log).1 s.disk.seq (vU hlog))) (k22 ((aj) ?_))))))
   refine sr rfl fun k24 => (ja) ?_
   refine vg [(0, 2), (1, 3)] 0 rfl rfl rfl ⟨func60, rfl, rfl⟩ (bBe (bL L) hLn) rfl Ca oG (rM (.inr ⟨2, 3, by decide, rfl⟩) Cm Cm (by simp only [go_sem, AObj.bel, lP, bR] <;> simp) (by simp only [go_sem, AObj.bel, lP, bR]) oS ⟨rfl, rfl⟩ dg) (.inl rfl) ?_
   refine (Dl) (k24 (sr rfl fun k25 => (ja) ?_))
   refine vg [(0, 2)] 0 rfl rfl rfl ⟨func59, rfl, rfl⟩ (bNn (bL L)) rfl Ca oG (mZ (H1 := []) (.inr ⟨2, rfl⟩) (by simp only [go_sem, sg, AObj.ren, AV.ren, aB] <;> simp [Abs.get]) Bo) (.inl rfl) ?_
   simp only [go_sem, AV.ren, AObj.ren, aB, shift, sg, A0, Nat.add_zero, Nat.sub_self, aQ]
   refine k25 ((aj) ((aj) ?_))
   refine dI 1 (ds := [Nb true, .raw (.int .i64 (hJ (raI s.disk.log).1 s.disk.seq).2), .sl 5 ((hJ (raI s.disk.log).1 s.disk.seq).1.map enA), .sl 1 (s.disk.levels.map rsA), .sl 1 [], Ns L, Ni (L.size : Int), .sl 1 (s.disk.levels.map rsA), Ni s.disk.seq]) rfl (by repeat (first | exact LeL.nil | refine LeL.cons (by first | exact Le.refl _ | exact Le.nil _) ?_)) oG ?_
   refine (ja) (wR ?_)
   have h9 : mR (raI s.disk.log).1 s.disk.seq = L := hfold.symm
   refine fO ?_ (bK _ _)
   simp only [go_sem, aAe, h9, stA, List.map_nil]
 have hlt : i < (raI s.disk.log).1.length := by simpa using hc3
 obtain ⟨l, hl, hdrop, hml⟩ := ix hlt
 have hib := hbok l hml
 obtain ⟨hok, hb1, hb2⟩ := bQ hib
 obtain ⟨hf1, hf2⟩ := yK hib
 have hpv : l[l.length - 1]? = some (dR l) := by unfold dR; rw [A1 og]; rfl
 have hw6 := wr ((l.length : Int) - 1) ((l.length : Int) - 1) og
 have hpn : ((l.length : Int) - 1).toNat = l.length - 1 := by omega
 have hbn : bEj (bL (L ++ fTx l)) = [(2, .cells 87 [.ptr 2 0, .ref 3]), (3, .row 5 1 ((bL (L ++ fTx l)).map byteAV))] := if_neg (by rw [aFg, B8]; omega)
 refine wk (k18 (aA fun k19 => wb (sr rfl fun k20 => (Bh hl) ((jr) (k20 (sd mixed rfl fun k21 => ?_))))))
 simp only [go_sem, hw6, hpn, hpv, enA, A6]
 refine (jr) ((jy) (k21 ((cdB) ?_ ?_))) <;> intro hc4
 . have hgt : ¬ s.disk.seq < (dR l).seq := by simpa using hc4
   have hst : cB s.disk.seq L l = L := by unfold cB; rw [if_neg hgt]
   refine wk ((jt) (k19 ((jw (wiS i og)) ((jt) ?_))))
   refine ⟨(i + 1, L), ⟨og, by simp only; omega, by rw [hdrop, List.foldl_cons, hst] at hfold; exact hfold⟩, og, [], ?_⟩
   exact Dk hbh
 have hgt : s.disk.seq < (dR l).seq := by simpa using hc4
 have hst : cB s.disk.seq L l = L ++ fTx l := by unfold cB; rw [if_pos hgt]
 refine wg rfl ((ja) ((vq func22 (nX l (by exact ⟨og, fun e he => ⟨by have := (cO (hok e he)).1; omega, by have := (cO (hok e he)).2; omega⟩⟩))) ?_))
 refine vg [(0, 2), (1, 3)] 1 rfl rfl rfl ⟨func57, rfl, rfl⟩ (yW (bL L) (fTx l) (by rw [aQ]; omega)) rfl Ca oG (rM (.inr ⟨2, 3, by decide, rfl⟩) Cm Cm (by simp only [go_sem, AObj.bel, lP, bR] <;> simp) (by simp only [go_sem, AObj.bel, lP, bR]) oS ⟨rfl, rfl⟩ dg) (.inr dg) ?_
 refine (Dl) ((jt) (k19 ((jw (wiS i og)) ((jt) ?_))))
 refine ⟨(i + 1, L ++ fTx l), ⟨og, by simp only [B8]; omega, by rw [hdrop, List.foldl_cons, hst] at hfold; exact hfold⟩, og, [(3, 4)], ?_⟩
 simp only [go_sem, AObj.bel, AObj.ren, AV.ren, aB, sg, hbn, List.cons_append, List.nil_append, List.append_nil] <;> simp [qU, Abs.get, sg]
 rfl
end
def bJu (seq : Int) : ∀ (bs : List (List Entry)) (st : List Entry × Int), (∀ b ∈ bs, b.length <= 12 /\ ∀ e ∈ b, e.key.size <= 1048576 /\ e.text.size <= 1048576) -> (∀ e ∈ st.1, e.key.size <= 1048576 /\ e.text.size <= 1048576) -> (bs.foldl (iY seq) st).1.length <= st.1.length + 12 * bs.length /\ ∀ e ∈ (bs.foldl (iY seq) st).1, e.key.size <= 1048576 /\ e.text.size <= 1048576 := by
  have row : ∀ (b : List Entry) (st : List Entry × Int), (∀ e ∈ b, e.key.size <= 1048576 /\ e.text.size <= 1048576) -> (∀ e ∈ st.1, e.key.size <= 1048576 /\ e.text.size <= 1048576) -> (iY seq st b).1.length <= st.1.length + b.length /\ ∀ e ∈ (iY seq st b).1, e.key.size <= 1048576 /\ e.text.size <= 1048576 := by
    intro b
    induction b with
    | nil => intro st _ h; exact ⟨by simp [iY], h⟩
    | cons x r ih =>
      intro st hb h
      have h1 := bAf seq st x
      have h2 : ∀ e ∈ (jT seq st x).1, e.key.size <= 1048576 /\ e.text.size <= 1048576 := fun e he => by
        unfold jT at he; split at he
        . rcases A7.1 he with h3 | h3
          . exact h e h3
          rw [B6.1 h3]; exact hb x A3
        exact h e he
      have h3 := ih (jT seq st x) (fun e he => hb e (A4 _ he)) h2
      simp only [iY, List.foldl_cons, C4] at h3 ⊢
      exact ⟨og, h3.2⟩
  intro bs
  induction bs with
  | nil => intro st _ h; exact ⟨by simp, h⟩
  | cons b r ih =>
    intro st hb h
    have h1 := row b st (hb b A3).2 h
    have h2 := ih (iY seq st b) (fun x hx => hb x (A4 _ hx)) h1.2
    have h3 := (hb b A3).1
    simp only [List.foldl_cons, C4]
    exact ⟨og, h2.2⟩
def aDn {s : ByteArray} (hs : s.size <= 12000) (seq : Int) : rB (hJ (raI s).1 seq).1 := by
  obtain ⟨h1, h2⟩ := tD s
  have h3 := bJu seq (raI s).1 ([], seq) (fun b hb => ⟨(bQ (h1 b hb)).2.2, fun e he => cO ((bQ (h1 b hb)).1 e he)⟩) oS
  simp only [List.length_nil, C3] at h3
  unfold hJ
  refine ⟨?_, fun e he => h3.2 e ((gU _).mem_iff.1 he)⟩
  rw [mL]; omega
def aFq (s : Store) : Bool := (!eC s.tree || !decide (s.tree.levels = s.disk.levels)) || decide (s.tree.seq < s.disk.seq)
def upI (s : Store) : Bool := if aFq s = true then false else if ((raI s.disk.log).2 : Int) ≠ (s.disk.log.size : Int) then false else decide ((hJ (raI s.disk.log).1 s.disk.seq).2 = s.tree.seq) && decide ((hJ (raI s.disk.log).1 s.disk.seq).1 = s.tree.mem)
def sV (s : Store) : Bool := if sP s.disk = false then false else upI s
def gC (s : Store) : Bool := if sP s.disk = false then false else if s.up = true then upI s else hP s.tree lZ && sV (aAe s)
def aWa {d : Disk} (h : sP d = true) : d.log.size <= 12000 := by
  unfold sP at h; split at h
  . cases h
  rename_i h1; omega
def aLi {ls : List (List Run)} (h : aKz ls) : bDu ls := by
  refine ⟨by have := h.1; omega, fun rs hrs => ?_⟩
  have h1 := h.2 rs hrs
  exact ⟨by have := h1.1; omega, fun r hr => ⟨by have := (h1.2 r hr).1; omega, fun e he => ⟨by have := ((h1.2 r hr).2 e he).1; omega, by have := ((h1.2 r hr).2 e he).2; omega⟩⟩⟩
def aPe {t : Tree} (h : gW t) : bAt t := ⟨⟨by have := h.1.1; omega, fun e he => ⟨by have := (h.1.2 e he).1; omega, by have := (h.1.2 e he).2; omega⟩⟩, aLi h.2.1, by have := h.2.2; omega⟩
def aSe (t : Tree) (hs : gW t) : aK P 29 [trA t, .agg [Ni 0, .raw (.slice none 0 0), .raw (.slice none 0 0), .raw (.slice none 0 0)]] [] 0 (Nb (hP t lZ)) :=
  (aIh t lZ (aPe hs)).args_le (LeL.cons (.refl _) (LeL.cons (Le.aggL (LeL.cons (.refl _) (LeL.cons (.nil _) (LeL.cons (.nil _) (LeL.cons (.nil _) LeL.nil))))) LeL.nil)) ⟨gD _ _, gD _ _, trivial⟩
def aZc {s : Store} (hs : gA s) (hlog : s.disk.log.size <= 12000) : gA (aAe s) := by
  have h1 := aDn hlog s.disk.seq
  have h2 := hs.2
  unfold gA gW aAe
  generalize hJ (raI s.disk.log).1 s.disk.seq = f at h1 ⊢
  exact ⟨⟨h1, h2, A5 _⟩, h2⟩
def aCr (s : Store) (hs : gA s) (hup : s.up = true) : aK P 15 [stA s] [] 0 (Nb (sV s)) := by
 refine (pq 79 [.tmp 2] func15) ?_
 simp only [stA]
 refine (aj) ?_
 refine aA fun k2 => sr rfl fun k3 => (ja) ?_
 refine (vr rfl rfl rfl func40 (aAo s.disk hs.2) (by simp only [go_sem, dkA]) (by simp only [go_sem, dkA])) (k3 ((cdA) ?_ ?_)) <;> intro hc1
 . have hd : sP s.disk = false := by simpa using hc1
   have h9 : sV s = false := by unfold sV; rw [if_pos hd]
   exact (aj) (wR (fq h9))
 have hd : sP s.disk = true := by simpa using hc1
 have hlog := aWa hd
 refine wk (k2 (aA fun k5 => (aj) ((cdA) ?_ ?_))) <;> intro hc2
 . exfalso
   rw [hup] at hc2; simp at hc2
 refine wk (k5 (aA fun k7 => sr rfl fun k8 => (ja) ?_))
 refine (vr rfl rfl rfl func41 (aAc s.tree hs.1) Af Af) ?_
 refine vpg rfl rfl rfl rfl rfl rfl ⟨func30, rfl, rfl⟩ (fun hg => sW s.tree.levels s.disk.levels (aLi hs.1.2.1)) oG (fun hg => oG) oG trivial ?_
 refine (ja) (k8 ((cdA) ?_ ?_)) <;> intro hc3
 . have hb : aFq s = true := hc3
   have h9 : sV s = false := by unfold sV upI; rw [if_neg (by rw [hd]; simp), if_pos hb]
   exact (aj) (wR (fq h9))
 have hb : aFq s = false := hc3
 refine wk (k7 (sr rfl fun k10 => (ja) ((vq func13 (pS s.disk.log og)) (k10 (aA fun k11 => (aj) ((cdA) ?_ ?_)))))) <;> intro hc4
 . have hn : ((raI s.disk.log).2 : Int) ≠ (s.disk.log.size : Int) := by simpa using hc4
   have h9 : sV s = false := by unfold sV upI; rw [if_neg (by rw [hd]; simp), if_neg (by rw [hb]; simp), if_pos hn]
   exact (aj) (wR (fq h9))
 have hn : ¬ ((raI s.disk.log).2 : Int) ≠ (s.disk.log.size : Int) := by simpa using hc4
 have h9 : sV s = (decide ((hJ (raI s.disk.log).1 s.disk.seq).2 = s.tree.seq) && decide ((hJ (raI s.disk.log).1 s.disk.seq).1 = s.tree.mem)) := by unfold sV upI; rw [if_neg (by rw [hd]; simp), if_neg (by rw [hb]; simp), if_neg hn]
 refine wk (k11 (sr rfl fun k14 => (ja) ((vq func42 (sN (raI s.disk.log).1 s.disk.seq (vU hlog))) (k14 (sr rfl fun k15 => (ja) ?_)))))
 refine vpg rfl rfl rfl rfl rfl rfl ⟨func43, rfl, rfl⟩ (fun hg => cH (hJ (raI s.disk.log).1 s.disk.seq).1 s.tree.mem (by have := (aDn hlog s.disk.seq).1; omega)) oG (fun hg => oG) oG trivial ?_
 exact (ja) (k15 (wR (fq h9)))
def aTs (s : Store) (hs : gA s) (hup : s.up = false) : aK P 15 [stA s] [] 0 (Nb (gC s)) := by
 refine (pq 79 [.tmp 2] func15) ?_
 simp only [stA]
 refine (aj) ?_
 refine aA fun k2 => sr rfl fun k3 => (ja) ?_
 refine (vr rfl rfl rfl func40 (aAo s.disk hs.2) (by simp only [go_sem, dkA]) (by simp only [go_sem, dkA])) (k3 ((cdA) ?_ ?_)) <;> intro hc1
 . have hd : sP s.disk = false := by simpa using hc1
   have h9 : gC s = false := by unfold gC; rw [if_pos hd]
   exact (aj) (wR (fq h9))
 have hd : sP s.disk = true := by simpa using hc1
 have hlog := aWa hd
 refine wk (k2 (aA fun k5 => (aj) ((cdB) ?_ ?_))) <;> intro hc2
 . exfalso
   rw [hup] at hc2; simp at hc2
 have h9 : gC s = (hP s.tree lZ && sV (aAe s)) := by unfold gC; rw [if_neg (by rw [hd]; simp), if_neg (by rw [hup]; simp)]
 refine sr rfl fun k7 => (ja) ?_
 refine (vr rfl rfl rfl func29 (aSe s.tree hs.1) Af Af) ?_
 refine vpg rfl rfl rfl rfl rfl rfl ⟨func38, rfl, rfl⟩ (fun hg => aOz s hlog) oG (fun hg => Ad) Ad (bK _ _) ?_
 refine (ja) ?_
 refine vpg rfl rfl rfl rfl rfl rfl ⟨func15, rfl, rfl⟩ (fun hg => aCr (aAe s) (aZc hs hlog) rfl) oG (fun hg => Ad) Ad trivial ?_
 exact (ja) (k7 (wR (fq h9)))
def aRm (s : Store) (hs : gA s) : aK P 15 [stA s] [] 0 (Nb (gC s)) := by
  cases h : s.up
  . exact aTs s hs h
  have := aCr s hs h
  rwa [show sV s = gC s by unfold sV gC; rw [h]; simp] at this
inductive StepI where
  | log (t : ByteArray)
  | lev (ls : List (List Run)) (seq : Int)
  | emp
def bPy : StepI -> AV
  | .log t => .iface 137 (.agg [.raw (.string t)])
  | .lev ls q => .iface 0 (.agg [.sl 1 (ls.map rsA), .raw (.int .i64 q)])
  | .emp => .iface 0 (.agg [])
def bHg (U : Nat -> Prop) (p : StepI) : (bPy p).bel U := by
  cases p with
  | log t => exact ⟨trivial, trivial⟩
  | lev ls q => exact ⟨bC _ _, trivial, trivial⟩
  | emp => trivial
def bOo (U : Nat -> Prop) (ps : List StepI) : aI U (ps.map bPy) := pZ (f := bPy) (fun _ _ => bHg _ _) U ps
attribute [go_sem] bHg bOo


def aAl (s : ByteArray) (hs : s.size <= 1048576) : aK P 81 [Ns s] [] 0 (.tup [.sl 1 ((bN s).1.map esA), .raw (.int .i64 (bN s).2)]) :=
  cC (aBq s hs) (by simp only [go_sem, aFs]) oG
def aKj (ls : List (List Run)) (hs : aKz ls) : aK P 72 [.sl 1 (ls.map rsA)] [] 0 (.sl 1 (ls.map rsA)) :=
  cC (cP ls hs) oG oG
def aWd (d : Disk) (hs : aKz d.levels) : aK P 33 [.agg [Ni d.seq, .raw (.slice none 0 0), .sl 1 (d.levels.map rsA), .raw (.slice none 0 0)]] [] 0 (Nb (cZ ⟨d.seq, [], d.levels, []⟩)) :=
  (tM ⟨d.seq, [], d.levels, []⟩ ⟨⟨by simp, by simp⟩, hs, by simp⟩).args_le (LeL.cons (Le.aggL (LeL.cons (.refl _) (LeL.cons (.nil _) (LeL.cons (.refl _) (LeL.cons (.nil _) LeL.nil))))) LeL.nil) ⟨gD _ _, trivial⟩
def aOn (t : Tree) (hs : gW t) : aK P 35 [trA t, .agg [Ni 0, .raw (.slice none 0 0), .raw (.slice none 0 0), .raw (.slice none 0 0)]] [] 0 (Nb (hP t lZ)) :=
  (aHv t lZ (aPe hs)).args_le (LeL.cons (.refl _) (LeL.cons (Le.aggL (LeL.cons (.refl _) (LeL.cons (.nil _) (LeL.cons (.nil _) (LeL.cons (.nil _) LeL.nil))))) LeL.nil)) ⟨gD _ _, gD _ _, trivial⟩
def aQu {s : ByteArray} (hs : s.size <= 1048576) : (bN s).1.length <= 1048576 /\ (∀ b ∈ (bN s).1, b.length <= 1048576) /\ ∀ b ∈ (bN s).1, rB b /\ 1 <= b.length := by
  obtain ⟨h1, h2⟩ := uO hs
  exact ⟨og, fun b hb => by have := (tS (h1 b hb)).2.2; omega, fun b hb => ⟨(tS (h1 b hb)).1, (tS (h1 b hb)).2.1⟩⟩
def aCb (s : ByteArray) (a : Nat) (h : 0 <= (aW s a).2) : (fTx (aW s a).1).toList = (s.extract a (aW s a).2.toNat).toList := by
  have hf : aW s a = if jP s a = true then ([], -1) else if (!((fTx (pC s a)).toList == (s.extract a ((bV s (a : Int)).2 + (bV s (a : Int)).1 + 1).toNat).toList)) = true then ([], -1) else (pC s a, (bV s (a : Int)).2 + (bV s (a : Int)).1 + 1) := rfl
  rw [hf] at h ⊢
  split
  . rename_i hb; rw [if_pos hb] at h; simp at h
  rename_i hb
  rw [if_neg hb] at h; split
  . rename_i hc; rw [if_pos hc] at h; simp at h
  rename_i hc
  simpa using hc
def aGr (x : ByteArray) : x.toList.length = x.size := by rw [ByteArray.toList_eq]; rfl
def yL (bs : List (List Entry)) : Nat := (bs.map fun b => (fTx b).size).sum
def bEc (a b : List (List Entry)) : yL (a ++ b) = yL a + yL b := by simp [yL]
def aMy (s : ByteArray) : ∀ (f a : Nat) (out : List (List Entry)), yL out <= a -> a <= s.size -> yL (cT s f a out).1 <= s.size
  | 0, a, out, h, ha => by simp only [cT]; omega
  | f + 1, a, out, h, ha => by
    unfold cT; split
    . split
      . simp only; omega
      rename_i hn
      have h1 := rR s a og
      have h2 := uK s a
      have h3 := congrArg List.length (aCb s a og)
      rw [aGr, aGr, iH s _ _ og] at h3
      refine aMy s f _ _ ?_ og
      rw [bEc]
      simp only [yL, List.map_cons, List.map_nil, List.sum_cons, List.sum_nil] at h ⊢
      omega
    simp only; omega
def aKp : ∀ (bs : List (List Entry)) (seq : Int) (out : ByteArray), (bs.foldl (cB seq) out).size <= out.size + yL bs
  | [], seq, out => by simp [yL]
  | b :: r, seq, out => by
    have h1 := aKp r seq (cB seq out b)
    have h2 : (cB seq out b).size <= out.size + (fTx b).size := by
      unfold cB; split
      . rw [B8]; omega
      omega
    simp only [List.foldl_cons, yL, List.map_cons, List.sum_cons] at h1 ⊢
    omega
def aDs (s : Store) (h : s.disk.log.size <= 12000) : (eF s).disk.log.size <= 12000 := by
  have h1 := aKp (bN s.disk.log).1 s.disk.seq ⟨#[]⟩
  have h2 := aMy s.disk.log s.disk.log.size 0 [] (by simp [yL]) (A5 _)
  have h3 : (⟨#[]⟩ : ByteArray).size = 0 := rfl
  show (mR (bN s.disk.log).1 s.disk.seq).size <= _
  unfold mR
  unfold bN at h1 ⊢
  omega
def aRz {s : Store} (hs : gA s) (hlog : s.disk.log.size <= 12000) : gA (eF s) := by
  have h0 := uO (s := s.disk.log) og
  have h1 := aJe (bs := (bN s.disk.log).1) s.disk.seq h0.1
  have h3 := h0.2
  have h2 := hs.2
  unfold gA gW eF
  generalize pJ (bN s.disk.log).1 s.disk.seq = f at h1 ⊢
  exact ⟨⟨⟨by show f.1.length <= _; omega, h1.2⟩, h2, A5 _⟩, h2⟩
def aAt (s : Store) (hs : gA s) (hlog : s.disk.log.size <= 1048576) : aK P 36 [stA s] [] 0 (stA (eF s)) := by
 refine (pq 45 [.cell 2 31] func36) ?_
 simp only [stA]
 have hrb := aQu hlog
 obtain ⟨hrb1, hrb2, hrb3⟩ := hrb
 refine (aj) ?_
 refine sr rfl fun k2 => (ja) ((vq func81 (aAl s.disk.log hlog)) (k2 (sr rfl fun k3 => (ja) ((vq func82 (aEr (bN s.disk.log).1 s.disk.seq hrb1 hrb2)) (k3 ((aj) ?_))))))
 refine sr rfl fun k5 => (ja) ((vq func85 (aOo (bN s.disk.log).1 s.disk.seq hrb1 hrb3)) (k5 ((aj) ?_)))
 refine sr rfl fun k7 => (ja) ((vq func72 (aKj s.disk.levels hs.2)) (k7 ((aj) ?_)))
 refine dI 1 (ds := [Nb true, .raw (.int .i64 (pJ (bN s.disk.log).1 s.disk.seq).2), .sl 5 ((pJ (bN s.disk.log).1 s.disk.seq).1.map enA), .sl 1 (s.disk.levels.map rsA), .sl 1 [], Ns (mR (bN s.disk.log).1 s.disk.seq), Ni ((mR (bN s.disk.log).1 s.disk.seq).size : Int), .sl 1 (s.disk.levels.map rsA), Ni s.disk.seq]) rfl (by repeat (first | exact LeL.nil | refine LeL.cons (by first | exact Le.refl _ | exact Le.nil _) ?_)) oG ?_
 refine (ja) (wR ?_)
 refine fO ?_ (bK _ _)
 simp only [go_sem, eF, stA, List.map_nil]
def aGt (s : Store) (hs : gA s) (hlog : s.disk.log.size <= 1048576) : aK P 34 [stA s] [] 0 (Nb (upS s)) := by
 refine (pq 71 [.tmp 2] func34) ?_
 simp only [stA]
 have hrb := aQu hlog
 obtain ⟨hrb1, hrb2, hrb3⟩ := hrb
 refine (aj) ?_
 refine aA fun k2 => sr rfl fun k3 => (ja) ?_
 refine (vr rfl rfl rfl func33 (tM s.tree hs.1) Af Af) ?_
 refine vpg rfl rfl rfl rfl rfl rfl ⟨func80, rfl, rfl⟩ (fun hg => wT s.disk.levels s.tree.levels (aLi hs.2)) oG (fun hg => oG) oG trivial ?_
 refine (ja) (k3 ((cdA) ?_ ?_)) <;> intro hc1
 . have h9 : upS s = false := by unfold upS; rw [if_pos (show aQk s = true from hc1)]
   exact (aj) (wR (fq h9))
 have h9 : upS s = ((decide ((bN s.disk.log).2 = (s.disk.log.size : Int)) && decide ((pJ (bN s.disk.log).1 s.disk.seq).1 = s.tree.mem)) && decide ((pJ (bN s.disk.log).1 s.disk.seq).2 = s.tree.seq)) := by unfold upS; rw [show aQk s = false from hc1, if_neg oS]
 refine wk (k2 (sr rfl fun k5 => (ja) ((vq func81 (aAl s.disk.log hlog)) (k5 (sr rfl fun k6 => (ja) ((vq func82 (aEr (bN s.disk.log).1 s.disk.seq hrb1 hrb2)) (k6 (sr rfl fun k7 => (ja) ?_))))))))
 refine vpg rfl rfl rfl rfl rfl rfl ⟨func83, rfl, rfl⟩ (fun hg => tL (pJ (bN s.disk.log).1 s.disk.seq).1 s.tree.mem (by have := (aJe (bs := (bN s.disk.log).1) s.disk.seq (uO hlog).1).1; omega)) oG (fun hg => oG) oG trivial ?_
 exact (ja) (k7 (wR (fq h9)))
def jX (s : Store) (hs : gA s) (hlg : s.disk.log.size <= 1048576) : aK P 11 [stA s] [] 0 (Nb (aJ s)) := by
 refine (pq 46 [.tmp 2] func11) ?_
 simp only [stA]
 refine (aj) ?_
 refine aA fun k2 => (aj) ((cdA) ?_ ?_) <;> intro hc1
 . have h9 : aJ s = false := by unfold aJ; rw [if_pos (show nN s = true from hc1)]
   exact (aj) (wR (fq h9))
 have hd : nN s = false := hc1
 have hlog : s.disk.log.size <= 12000 := by unfold nN at hd; simp at hd; omega
 refine wk (k2 (aA fun k5 => sr rfl fun k6 => (ja) ((vq func33 (aWd s.disk hs.2)) (k6 ((cdA) ?_ ?_))))) <;> intro hc2
 . have ht : cZ ⟨s.disk.seq, [], s.disk.levels, []⟩ = false := by simpa using hc2
   have h9 : aJ s = false := by unfold aJ; rw [hd, if_neg oS, if_pos ht]
   exact (aj) (wR (fq h9))
 have ht : cZ ⟨s.disk.seq, [], s.disk.levels, []⟩ = true := by simpa using hc2
 refine wk (k5 (aA fun k8 => (aj) ((cdA) ?_ ?_))) <;> intro hc3
 . have hup : s.up = true := hc3
   have h9 : aJ s = upS s := by unfold aJ; rw [hd, if_neg oS, if_neg (by rw [ht]; simp), if_pos hup]
   refine sr rfl fun k10 => (ja) ?_
   exact (vr rfl rfl rfl func34 (aGt s hs og) Ad Ad) (k10 (wR (fq h9)))
 have hup : s.up = false := hc3
 have h9 : aJ s = (hP s.tree lZ && upS (eF s)) := by unfold aJ; rw [hd, if_neg oS, if_neg (by rw [ht]; simp), if_neg (by rw [hup]; simp)]
 have hos := aRz hs hlog
 have hol := aDs s hlog
 refine wk (k8 (sr rfl fun k11 => (ja) ?_))
 refine (vr rfl rfl rfl func35 (aOn s.tree hs.1) Af Af) ?_
 refine vpg rfl rfl rfl rfl rfl rfl ⟨func36, rfl, rfl⟩ (fun hg => aAt s hs og) oG (fun hg => Ad) Ad (bK _ _) ?_
 refine (ja) ?_
 refine vpg rfl rfl rfl rfl rfl rfl ⟨func34, rfl, rfl⟩ (fun hg => aGt (eF s) hos og) oG (fun hg => Ad) Ad trivial ?_
 exact (ja) (k11 (wR (fq h9)))
def bDg {s : Store} (h : gA s) : gA (cD s) := by
  unfold cD; split
  . exact h
  exact ⟨⟨⟨A5 _, fun e he => by cases he⟩, ⟨A5 _, fun e he => by cases he⟩, A5 _⟩, h.2⟩
def aNr (s : Store) (b : List Entry) (hs : gA s) (hb : cW b) (hl : b.length <= 1048576) (h0 : 0 <= s.tree.seq) (h1 : s.tree.seq <= 100000) (hlog : s.disk.log.size <= 12000) : aK P 52 [stA s, .sl 5 (b.map enA)] [] 0 (.tup [stA (eO s b).1, .raw (.bool (eO s b).2)]) := by
 refine (pq 51 [.cell 4 31, .tmp 5] func52) ?_
 simp only [stA]
 have hsm := aEp (seq := s.tree.seq) hl
 have hmx : cW (aP b s.tree.seq).1 := ⟨by have := hsm.1; omega, fun e he => ⟨by have := (hsm.2 e he).1; omega, by have := (hsm.2 e he).2; omega⟩⟩
 have hft := tP (aP b s.tree.seq).1
 have hwb : uS s b = (!s.up || !(iA s.tree b).2 || decide (12000 < ((s.disk.log.size + (fTx (aP b s.tree.seq).1).size : Nat) : Int))) := by unfold uS; rw [B8]
 refine (aj) ?_
 refine sr rfl fun k2 => (ja) ((vq func104 (xV b s.tree.seq hb hl h0 h1)) (k2 (sr rfl fun k3 => (ja) ?_)))
 refine vs rfl rfl rfl func105 (aKn s.tree b hb hl (by have := hs.1.1.1; omega) h0 h1) Af Af ?_
 simp only [go_sem, trA]
 refine k3 (sd mixed rfl fun k4 => (ja) ?_)
 refine tp rfl rfl rfl ⟨func106, rfl, rfl⟩ (pR (aP b s.tree.seq).1 hmx) oG oG ?_
 refine (ja) ?_
 refine ⟨og, ?_⟩
 refine (jy) (k4 (aA fun k5 => (aj) ((cdA) ?_ ?_))) <;> intro hc1
 . have h9 : eO s b = (s, false) := by unfold eO; rw [if_pos (hwb.trans hc1)]
   refine (aj) (wR ?_)
   refine fO ?_ ⟨bK _ _, trivial, trivial⟩
   exact Aw h9
 have h9 : eO s b = (⟨s.up, (iA s.tree b).1, { s.disk with log := s.disk.log ++ fTx (aP b s.tree.seq).1 }⟩, true) := by unfold eO; rw [hwb.trans hc1, if_neg oS]
 refine wk (k5 ((aj) ((aj) ((aj) (wR ?_)))))
 refine fO ?_ ⟨bK _ _, trivial, trivial⟩
 exact Aw h9
section
variable {s : ByteArray} {a : Nat}
def bBr (seq : Int) (bs : List (List Entry)) : pJ bs seq = hJ bs seq := by
  have step : ∀ (st : List Entry × Int) (e : Entry), jH seq (bF st.1, st.2) e = (bF (jT seq st e).1, (jT seq st e).2) := fun st e => by
    unfold jH jT; split
    . simp [bF, List.foldl_append]
    rfl
  have row : ∀ (b : List Entry) (st : List Entry × Int), mJ seq (bF st.1, st.2) b = (bF (iY seq st b).1, (iY seq st b).2) := by
    intro b
    induction b with
    | nil => intro st; rfl
    | cons x r ih =>
      intro st
      have h1 := ih (jT seq st x)
      simp only [mJ, iY, List.foldl_cons] at h1 ⊢
      rw [step st x]; exact h1
  have all : ∀ (bs : List (List Entry)) (st : List Entry × Int), bs.foldl (mJ seq) (bF st.1, st.2) = (bF (bs.foldl (iY seq) st).1, (bs.foldl (iY seq) st).2) := by
    intro bs
    induction bs with
    | nil => intro st; rfl
    | cons b r ih => intro st; rw [List.foldl_cons, List.foldl_cons, row b st]; exact ih _
  exact all bs ([], seq)
def Has (s : ByteArray) (a : Nat) (t : List UInt8) : Prop := ((bL s).drop a).take t.length = t
def Has.len {t : List UInt8} (h : Has s a t) (ha : a <= s.size) : a + t.length <= s.size := by
  have h1 := congrArg List.length h
  rw [B0, B1, aQ] at h1; omega
def Has.split {t u : List UInt8} (h : Has s a (t ++ u)) : Has s a t /\ Has s (a + t.length) u := by
  unfold Has at h ⊢
  rw [A2] at h
  have h1 := congrArg (List.take t.length) h
  have h2 := congrArg (List.drop t.length) h
  rw [List.take_take, Nat.min_eq_left og, List.take_left'  rfl] at h1; rw [List.drop_take, List.drop_drop, List.drop_left' rfl] at h2
  refine ⟨h1, ?_⟩
  rw [show t.length + u.length - t.length = u.length by omega] at h2; exact h2
def aBn (s : ByteArray) (a b : Nat) : bL (s.extract a b) = ((bL s).drop a).take (b - a) := by
  unfold bL; rw [ByteArray.data_extract, Array.toList_extract]
def Has.ext {t : List UInt8} (h : Has s a t) : s.extract a (a + t.length) = ⟨t.toArray⟩ := by
  rw [<- rE (s.extract a (a + t.length)), aBn, show a + t.length - a = t.length by omega, h]
def Has.of_ext {a b : Nat} {t : List UInt8} (h : bL (s.extract a b) = t) (hb : a + t.length = b) : Has s a t := by
  rw [aBn] at h; unfold Has
  rw [show t.length = b - a by omega]; exact h
def Has.at {a i : Nat} {t : List UInt8} (h : Has s a t) (hi : i < t.length) : (bL s)[a + i]? = t[i]? := by
  have h1 := congrArg (·[i]?) h
  simp only [G1, if_pos hi, H4] at h1
  exact h1
def Has.rest {t : List UInt8} (h : Has s a t) : ∃ r, (bL s).drop a = t ++ r := ⟨((bL s).drop a).drop t.length, by
  have := List.take_append_drop t.length ((bL s).drop a)
  rw [show ((bL s).drop a).take t.length = t from h] at this
  exact this.symm⟩
def bJi : ∀ (w r : List UInt8), (∀ c ∈ w, c ≠ 32) -> Lib.indexByte (w ++ 32 :: r) 32 = (w.length : Int)
  | [], r, _ => by simp [Lib.indexByte]
  | c :: w, r, h => by
    have h1 : (c == 32) = false := by simpa using h c A3
    have ih := bJi w r fun x hx => h x (A4 _ hx)
    rw [List.cons_append, Lib.indexByte, h1, ih]; simp only [C5, if_false, C4]; split
    . rename_i h2; simp at h2
    omega
def bOz {w : List UInt8} (ha : a <= s.size) (h : Has s a (w ++ [32])) (hw : ∀ c ∈ w, c ≠ 32) (hl : w.length <= 8) : wI s a = (⟨w.toArray⟩, true, a + (w.length + 1)) := by
  obtain ⟨r, hr⟩ := h.rest
  have hln := h.len ha
  rw [A2, List.length_singleton] at hln
  have hah : bL (mG s a) = w ++ 32 :: r.take (min s.size (a + 9) - a - (w.length + 1)) := by
    unfold mG
    rw [aBn, hr, List.take_append, A2, List.length_singleton, List.take_of_length_le (by rw [A2, List.length_singleton]; omega)]
    simp
  have hsp : aBg s a = (w.length : Int) := by
    unfold aBg; rw [show (mG s a).data.toList = bL (mG s a) from rfl, hah]
    exact bJi _ _ hw
  have hx : (mG s a).extract 0 w.length = ⟨w.toArray⟩ := by
    rw [<- rE ((mG s a).extract 0 w.length), aBn, hah, List.drop_zero, Nat.sub_zero, List.take_left' rfl]
  unfold wI; rw [hsp, if_neg og, Int.toNat_natCast, hx]
end
def aMj {s : ByteArray} {a i : Nat} {t : List UInt8} {c : UInt8} (h : Has s a t) (hi : t[i]? = some c) : aS s (a + i) = (c.toNat : Int) := by
  have hl : i < t.length := (B2.1 hi).1
  have h1 := h.at hl
  rw [hi] at h1; unfold aS
  show ((((bL s).getD (a + i) 0).toNat : Nat) : Int) = _
  rw [E7, h1]; rfl
def bRc {c : UInt8} (h : c ≠ 32) : (c.toNat : Int) ≠ 32 := by
  intro h1; apply h; apply UInt8.toNat_inj.1
  show c.toNat = 32
  omega
def bCv {s : ByteArray} : ∀ (w : List UInt8) (a f : Nat), Has s a (w ++ [32]) -> (∀ c ∈ w, c ≠ 32) -> w.length < f -> aGa s f a = some (a + w.length)
  | [], a, 0, _, _, hf => by simp at hf
  | [], a, f + 1, h, _, _ => by
    have h1 := aMj (i := 0) (c := 32) h rfl
    rw [Nat.add_zero] at h1
    rw [aGa, if_pos (by rw [h1]; rfl)]
    rfl
  | c :: w, a, 0, _, _, hf => by simp at hf
  | c :: w, a, f + 1, h, hw, hf => by
    have h1 := aMj (i := 0) (c := c) h rfl
    rw [Nat.add_zero] at h1
    rw [aGa, if_neg (by rw [h1]; exact bRc (hw c A3))]
    have h2 : Has s (a + 1) (w ++ [32]) := (Has.split (t := [c]) (u := w ++ [32]) h).2
    rw [bCv w (a + 1) f h2 (fun x hx => hw x (A4 _ hx)) (by rw [C4] at hf; omega), C4]
    congr 1; omega
def aWe {s : ByteArray} {a : Nat} {w : List UInt8} (ha : a <= s.size) (h : Has s a (w ++ [32])) (hw : ∀ c ∈ w, c ≠ 32) : jL s a = (⟨w.toArray⟩, ((a + (w.length + 1) : Nat) : Int)) := by
  have hln := h.len ha
  rw [A2, List.length_singleton] at hln; unfold jL; rw [bCv w a _ h hw og]
  simp only
  rw [(Has.split h).1.ext]
  congr 1
def bJf {s : ByteArray} {a : Nat} {t : List UInt8} (ha : a <= s.size) (h : Has s a t) : tI s a (t.length : Int) = (⟨t.toArray⟩, true, a + t.length) := by
  have hln := h.len ha
  unfold tI; rw [if_neg og, Int.toNat_natCast, h.ext]
def aGm {u : Nat} (h : u < 10) : Lib.decDigits u = [UInt8.ofNat (48 + u)] := by rw [Lib.decDigits, dif_pos h]
def aRl {u : Nat} (h : ¬ u < 10) : Lib.decDigits u = Lib.decDigits (u / 10) ++ [UInt8.ofNat (48 + u % 10)] := by rw [Lib.decDigits, dif_neg h]
def aFt {m : Nat} (h : m < 10) : (UInt8.ofNat (48 + m)).toNat = 48 + m := by
  rw [UInt8.toNat_ofNat']; omega
def aTi (u : Nat) : ∀ c ∈ Lib.decDigits u, 48 <= c.toNat /\ c.toNat <= 57 := by
  induction u using Nat.strongRecOn with
  | ind u ih =>
    intro c hc
    by_cases h : u < 10
    . rw [aGm h] at hc
      rw [B6.1 hc, aFt h]; omega
    rw [aRl h] at hc
    rcases A7.1 hc with h1 | h1
    . exact ih (u / 10) og c h1
    rw [B6.1 h1, aFt og]; omega
def bLm (u : Nat) : ∀ r, u < 1000000000000000000 -> Lib.parseUint10 0 (Lib.decDigits u ++ r) = Lib.parseUint10 u r := by
  have one : ∀ (acc m : Nat) r, m < 10 -> acc < 1000000000000000000 -> Lib.parseUint10 acc (UInt8.ofNat (48 + m) :: r) = Lib.parseUint10 (acc * 10 + m) r := fun acc m r hm ha => by
    rw [Lib.parseUint10, aFt hm, if_pos og, if_neg og, if_neg og, show 48 + m - 48 = m by omega]
  induction u using Nat.strongRecOn with
  | ind u ih =>
    intro r hu
    by_cases h : u < 10
    . rw [aGm h, List.singleton_append, one 0 u r h og, Nat.zero_mul, C3]
    rw [aRl h, F8, ih (u / 10) og _ og, List.singleton_append, one _ _ r og og]
    congr 1; omega
def bCj (u : Nat) : Lib.decDigits u ≠ [] := by
  by_cases h : u < 10
  . rw [aGm h]; simp
  rw [aRl h]; simp
def bHe (l : List UInt8) : Int := l.foldl (fun a c => a * 10 + ((c.toNat : Int) - 48)) 0
def aYy (l : List UInt8) (c : UInt8) : bHe (l ++ [c]) = bHe l * 10 + ((c.toNat : Int) - 48) := by unfold bHe; rw [List.foldl_append]; rfl
def bPr (u : Nat) : bHe (Lib.decDigits u) = (u : Int) := by
  induction u using Nat.strongRecOn with
  | ind u ih =>
    by_cases h : u < 10
    . rw [aGm h]
      show (0 : Int) * 10 + (((UInt8.ofNat (48 + u)).toNat : Int) - 48) = _
      rw [aFt h]; omega
    rw [aRl h, aYy, ih (u / 10) og, aFt og]; omega
def zI {l : List UInt8} {i : Nat} {c : UInt8} (h : l[i]? = some c) : aS ⟨l.toArray⟩ i = (c.toNat : Int) := by
  unfold aS; rw [E7]
  show (((l[i]?.getD 0).toNat : Nat) : Int) = _
  rw [h]; rfl
def aQq {l : List UInt8} (hl : ∀ c ∈ l, 48 <= c.toNat /\ c.toNat <= 57) : ∀ i, i <= l.length -> lN ⟨l.toArray⟩ i = some (bHe (l.take i))
  | 0, _ => by rw [List.take_zero]; rfl
  | i + 1, h => by
    have he := A1 (l := l) (i := i) og
    have hd := hl _ (C9 (l := l) (n := i) og)
    have hb := zI he
    rw [lN, aQq hl i og]
    simp only
    rw [hb, if_neg (by simp; omega), F5, he]; simp only [Option.toList_some, aYy]
def bLb {u k : Nat} (h : u < 10 ^ (k + 1)) : (Lib.decDigits u).length <= k + 1 := by
  induction k generalizing u with
  | zero => rw [aGm (by simpa using h)]; simp
  | succ k ih =>
    by_cases h1 : u < 10
    . rw [aGm h1]; simp
    rw [aRl h1, A2, List.length_singleton]
    have := ih (u := u / 10) (by rw [Nat.pow_succ] at h; omega)
    omega
def bNp (u : Nat) (h : 1 <= u) : ∃ c r, Lib.decDigits u = c :: r /\ c.toNat ≠ 48 := by
  induction u using Nat.strongRecOn with
  | ind u ih =>
    by_cases h1 : u < 10
    . exact ⟨_, [], aGm h1, by rw [aFt h1]; omega⟩
    obtain ⟨c, r, h2, h3⟩ := ih (u / 10) og og
    exact ⟨c, r ++ [UInt8.ofNat (48 + u % 10)], by rw [aRl h1, h2]; rfl, h3⟩
def aTf {n : Int} (h0 : -1000000000000000000 <= n) (h1 : n <= 1000000000000000000) : bL (dec n) = if n < 0 then 45 :: Lib.decDigits n.natAbs else Lib.decDigits n.natAbs := by
  rw [<- aFh h0 h1]; unfold aYb Lib.itoa bL; split
  . simp
  rename_i h
  simp
  rw [show n.toNat = n.natAbs by omega]
abbrev inN (n : Int) : Prop := -10000000000000000 < n /\ n < 10000000000000000
def aZm {n : Int} (h : inN n) : ∀ c ∈ bL (dec n), c ≠ 32 := by
  rw [aTf og og]
  have hd : ∀ c ∈ Lib.decDigits n.natAbs, c ≠ 32 := fun c hc e => by
    have := aTi _ c hc
    rw [e] at this
    exact absurd this.1 dg
  split
  . intro c hc
    rcases A8.1 hc with rfl | h1
    . decide
    exact hd c h1
  exact hd
def bEx {n : Int} (h : inN n) : iK (dec n) = (n, true) := by
  have hp := bLm n.natAbs [] og
  rw [List.append_nil] at hp
  have hm : Lib.parseMag (Lib.decDigits n.natAbs) = .ok n.natAbs := by
    unfold Lib.parseMag
    rw [if_neg (bCj _), hp]; rfl
  have ha : Lib.atoiAll (bL (dec n)) = .ok n := by
    rw [aTf og og]; split
    . rename_i hn
      unfold Lib.atoiAll; simp only [show (45 : UInt8).toNat = 45 from rfl, or_true, if_true, hm, not_true_eq_false, false_and, if_false, true_and]; rw [if_neg og]
      congr 1; omega
    rename_i hn
    obtain ⟨c, r, hc⟩ := G4 (bCj n.natAbs)
    have hd := aTi n.natAbs c (by rw [hc]; exact A3)
    rw [hc] at hm ⊢
    unfold Lib.atoiAll
    have e1 : ¬ c.toNat = 45 := by omega
    have e2 : ¬ c.toNat = 43 := by omega
    simp only [e1, e2, or_self, if_false, hm, not_false_eq_true, true_and, false_and]; rw [if_neg og]
    congr 1; omega
  unfold iK; rw [show (dec n).data.toList = bL (dec n) from rfl, ha]
def bPa {s : ByteArray} {a : Nat} {n : Int} (h : inN n) (hl : (dec n).size <= 8) (ha : a <= s.size) (hh : Has s a (bL (dec n ++ spB))) : nI s a = (n, true, a + ((dec n).size + 1)) := by
  rw [qU] at hh
  have hw := bOz ha hh (aZm h) (by rw [aQ]; exact hl)
  unfold nI; rw [hw]; simp only [if_true, rE, bEx h, aQ]
def bLf {n : Int} (h : inN n) : (Lib.decDigits n.natAbs).length <= 17 := bLb (k := 16) og
def aUa (l : List UInt8) : (⟨l.toArray⟩ : ByteArray).size = l.length := by show l.toArray.size = _; simp
def bIg (u : Nat) : 1 <= (Lib.decDigits u).length := by
  have := bCj u
  cases h : Lib.decDigits u with
  | nil => exact absurd h this
  | cons c r => simp
def aQe {u : Nat} {ng : Bool} (hl : (Lib.decDigits u).length <= 17) (hn : ng = true -> 1 <= u) : tJ ⟨(Lib.decDigits u).toArray⟩ ng = false := by
  have hp := bIg u
  unfold tJ; rw [aUa]
  by_cases h0 : u = 0
  . subst h0
    have : ng = false := by cases ng; rfl; exact absurd (hn rfl) og
    subst this; rw [aGm og]
    decide
  obtain ⟨c, r, hc, h48⟩ := bNp u og
  have hb : aS ⟨(Lib.decDigits u).toArray⟩ 0 = (c.toNat : Int) := zI (by rw [hc]; rfl)
  rw [hb]
  have e1 : decide (((Lib.decDigits u).length : Int) = 0) = false := decide_eq_false og
  have e2 : decide (17 < ((Lib.decDigits u).length : Int)) = false := decide_eq_false og
  have e3 : decide ((c.toNat : Int) = 48) = false := decide_eq_false og
  rw [e1, e2, e3]; rfl
def aWw (u : Nat) : lN ⟨(Lib.decDigits u).toArray⟩ (⟨(Lib.decDigits u).toArray⟩ : ByteArray).size = some (u : Int) := by
  rw [aUa, aQq (aTi u) _ (A0 _), F4, bPr]
def bHm {n : Int} (h : inN n) : aIk (dec n) = some n := by
  have hb := aTf (n := n) og og
  have hl := bLf h
  have hp := bIg n.natAbs
  by_cases hn : n < 0
  . rw [if_pos hn] at hb
    have hd : dec n = ⟨(45 :: Lib.decDigits n.natAbs).toArray⟩ := by rw [<- hb, rE]
    have hng : tB (dec n) = true := by
      unfold tB; rw [hd, zI (i := 0) (c := 45) rfl, aUa, C4]
      have e1 : decide (0 < (((Lib.decDigits n.natAbs).length + 1 : Nat) : Int)) = true := decide_eq_true og
      rw [e1]; rfl
    have hun : mU (dec n) = ⟨(Lib.decDigits n.natAbs).toArray⟩ := by
      unfold mU; rw [if_pos hng, <- rE ((dec n).extract 1 (dec n).size), aBn, hb, <- aQ, hb]
      simp
    unfold aIk; rw [hun, hng, aQe hl (fun _ => by omega), aWw]; simp only [C5, if_false, Option.map_some, if_true]
    congr 1; omega
  rw [if_neg hn] at hb
  have hd : dec n = ⟨(Lib.decDigits n.natAbs).toArray⟩ := by rw [<- hb, rE]
  obtain ⟨c, r, hc⟩ := G4 (bCj n.natAbs)
  have hdg := aTi n.natAbs c (by rw [hc]; exact A3)
  have hng : tB (dec n) = false := by
    unfold tB
    rw [hd, zI (i := 0) (c := c) (by rw [hc]; rfl)]
    have e1 : decide ((c.toNat : Int) = 45) = false := decide_eq_false og
    rw [e1, Bool.and_false]
  have hun : mU (dec n) = ⟨(Lib.decDigits n.natAbs).toArray⟩ := by
    unfold mU
    rw [hng]; simpa using hd
  unfold aIk; rw [hun, hng, aQe hl (fun h => by cases h), aWw]; simp only [C5, if_false, Option.map_some]
  congr 1; omega
def yS {s : ByteArray} {a : Nat} {n : Int} (h : inN n) (ha : a <= s.size) (hh : Has s a (bL (dec n ++ spB))) : bV s (a : Int) = (n, ((a + ((dec n).size + 1) : Nat) : Int)) := by
  rw [qU] at hh
  have hw := aWe ha hh (aZm h)
  unfold bV; rw [if_neg og, Int.toNat_natCast, hw, rE, bHm h, aQ]
abbrev inS (n : Int) : Prop := -10000000 < n /\ n < 10000000
def aQr {n : Int} (h : inS n) : (dec n).size <= 8 := by
  have hl : (Lib.decDigits n.natAbs).length <= 7 := bLb (k := 6) og
  rw [<- aQ, aTf og og]; split
  . rw [C4]; omega
  omega
def aYx {s : ByteArray} : ∀ (ns : List Int) (a : Nat), (∀ n ∈ ns, inS n) -> a <= s.size -> Has s a (qX ns) -> eL s ns.length a = (ns, true, a + (qX ns).length)
  | [], a, _, _, _ => by simp [eL, qX]
  | n :: r, a, hn, ha, hh => by
    have h0 : qX (n :: r) = bL (dec n ++ spB) ++ qX r := by simp [qX]
    rw [h0] at hh
    have hs := hn n A3
    have hlen := hh.split.1.len ha
    have hl : (bL (dec n ++ spB)).length = (dec n).size + 1 := by rw [aQ, B8, bW]
    have h1 := bPa (n := n) ⟨og, og⟩ (aQr hs) ha hh.split.1
    rw [hl] at hlen
    have h2 := hh.split.2
    rw [hl] at h2
    have ih := aYx r _ (fun m hm => hn m (A4 _ hm)) og h2
    rw [C4, eL, h1]; simp only [if_true, ih]; rw [h0, A2, hl]; simp only [Prod.mk.injEq, true_and]; omega
def entL (e : Entry) : List UInt8 := bL (e.key ++ spB) ++ qX (lC e) ++ bL e.text
def aVw {k : ByteArray} (h : jJ k = true) : ∀ c ∈ bL k, c ≠ 32 := by
  intro c hc e; subst e
  obtain ⟨i, hi, he⟩ := List.mem_iff_getElem.1 hc
  have hb : aS k i = 32 := by
    unfold aS; rw [E7]
    show ((((bL k)[i]?.getD 0).toNat : Nat) : Int) = _
    rw [A1 hi, he]; rfl
  rw [aQ] at hi
  simp only [jJ, B7, C8, List.mem_range] at h
  have := h.1 i hi
  simp [wM, hb] at this
def aPn {e : Entry} (h : bJ e = true) : jJ e.key = true /\ (∀ n ∈ lC e, inS n) /\ e.key.size <= 8 := by
  have hr := gQ h
  refine ⟨?_, ?_, hr.2.2.2.2.2.2.2⟩
  . unfold bJ at h; split at h
    . cases h
    rename_i hb
    simp [jS] at hb
    simp [hb]
  intro n hn
  simp only [lC, A8, List.not_mem_nil, or_false] at hn
  rcases hn with rfl | rfl | rfl | rfl <;> exact ⟨og, og⟩
def bRe {s : ByteArray} {a : Nat} {e : Entry} (h : bJ e = true) (ha : a <= s.size) (hh : Has s a (entL e)) : eI s a = (e, true, a + (entL e).length) := by
  obtain ⟨hk, hn, h8⟩ := aPn h
  have hlen := hh.len ha
  unfold entL at hh hlen ⊢
  have hA := hh.split.1.split.1
  have hB := hh.split.1.split.2
  have hC := hh.split.2
  have hlk : (bL (e.key ++ spB)).length = e.key.size + 1 := by rw [aQ, B8, bW]
  simp only [A2, hlk] at hlen hB hC ⊢
  rw [qU] at hA
  have h1 := bOz ha hA (aVw hk) (by rw [aQ]; exact h8)
  rw [aQ, rE] at h1
  have h2 := aYx (lC e) _ hn og hB
  rw [show (lC e).length = 4 from rfl] at h2
  have h3 := bJf og hC
  rw [aQ, rE] at h3; unfold eI; rw [h1]; simp only [if_true]; rw [h2]; simp only [if_true]; rw [<- Nat.add_assoc a (e.key.size + 1)] at h3; rw [show (lC e).getD 3 0 = (e.text.size : Int) from rfl]; rw [h3]; simp only [if_true, aQ]; rw [show (lC e).getD 0 0 = e.seq from rfl, show (lC e).getD 1 0 = e.kind from rfl, show (lC e).getD 2 0 = e.n from rfl]; simp only [Prod.mk.injEq, true_and]; omega
def bOg {s : ByteArray} {a : Nat} {e : Entry} (h : bJ e = true) (ha : a <= s.size) (hh : Has s a (entL e)) : wF s a = (e, ((a + (entL e).length : Nat) : Int)) := by
  obtain ⟨hk, hn, h8⟩ := aPn h
  have hlen := hh.len ha
  unfold entL at hh hlen ⊢
  have hA := hh.split.1.split.1
  have hB := hh.split.1.split.2
  have hC := hh.split.2
  have hlk : (bL (e.key ++ spB)).length = e.key.size + 1 := by rw [aQ, B8, bW]
  have hnl : qX (lC e) = bL (dec e.seq ++ spB) ++ bL (dec e.kind ++ spB) ++ bL (dec e.n ++ spB) ++ bL (dec (e.text.size : Int) ++ spB) := by simp [qX, lC]
  have hdl : ∀ n, (bL (dec n ++ spB)).length = (dec n).size + 1 := fun n => by rw [aQ, B8, bW]
  rw [qU] at hA
  have i1 := hn e.seq (by simp [lC])
  have i2 := hn e.kind (by simp [lC])
  have i3 := hn e.n (by simp [lC])
  have i4 := hn (e.text.size : Int) (by simp [lC])
  rw [hnl] at hB hC hlen ⊢
  have h1 := aWe ha hA (aVw hk)
  rw [aQ, rE] at h1; rw [hlk] at hB
  have b4 := hB.split.2
  have b3 := hB.split.1.split.2
  have b2 := hB.split.1.split.1.split.2
  have b1 := hB.split.1.split.1.split.1
  simp only [A2, hlk, hdl, aQ] at b1 b2 b3 b4 hC hlen ⊢
  have f1 : e1 s a = (e.key, ((a + (e.key.size + 1) : Nat) : Int)) := h1
  have f2 : e2 s a = (e.seq, ((a + (e.key.size + 1) + ((dec e.seq).size + 1) : Nat) : Int)) := by
    unfold e2; rw [f1]; exact yS ⟨og, og⟩ og b1
  have f3 : e3 s a = (e.kind, ((a + (e.key.size + 1) + ((dec e.seq).size + 1) + ((dec e.kind).size + 1) : Nat) : Int)) := by
    unfold e3; rw [f2]; exact yS ⟨og, og⟩ og b2
  have f4 : e4 s a = (e.n, ((a + (e.key.size + 1) + ((dec e.seq).size + 1 + ((dec e.kind).size + 1)) + ((dec e.n).size + 1) : Nat) : Int)) := by
    unfold e4; rw [f3, Nat.add_assoc (a + (e.key.size + 1))]; exact yS ⟨og, og⟩ og b3
  have f5 : e5 s a = ((e.text.size : Int), ((a + (e.key.size + 1) + ((dec e.seq).size + 1 + ((dec e.kind).size + 1) + ((dec e.n).size + 1)) + ((dec (e.text.size : Int)).size + 1) : Nat) : Int)) := by
    unfold e5; rw [f4, Nat.add_assoc (a + (e.key.size + 1))]; exact yS ⟨og, og⟩ og b4
  have hb : yU s a = false := by
    unfold yU; rw [f5]
    simp
    omega
  have hx := hC.ext
  rw [aQ, rE] at hx; unfold wF; rw [hb, f1, f2, f3, f4, f5]; simp only [C5, if_false, Prod.mk.injEq]
  refine ⟨?_, og⟩
  rw [<- Int.natCast_add, Int.toNat_natCast, Int.toNat_natCast]
  have e0 : a + (e.key.size + 1) + ((dec e.seq).size + 1 + ((dec e.kind).size + 1) + ((dec e.n).size + 1)) + ((dec (e.text.size : Int)).size + 1) = a + (e.key.size + 1 + ((dec e.seq).size + 1 + ((dec e.kind).size + 1) + ((dec e.n).size + 1) + ((dec (e.text.size : Int)).size + 1))) := by omega
  rw [e0, hx]
def aVx (out : ByteArray) (e : Entry) : bL (pT out e) = bL out ++ entL e := by
  unfold pT entL; simp only [qU, qX, lC, List.flatMap_cons, List.flatMap_nil, F8, List.append_nil]
def aQd (ls : List Entry) : bL (bTx ls) = ls.flatMap entL := by
  have : ∀ (ls : List Entry) (out : ByteArray), bL (ls.foldl pT out) = bL out ++ ls.flatMap entL := by
    intro ls
    induction ls with
    | nil => intro out; simp
    | cons e r ih => intro out; rw [List.foldl_cons, ih, aVx, List.flatMap_cons, F8]
  unfold bTx
  rw [this]; rfl
def aLe (e : Entry) : 1 <= (entL e).length := by
  unfold entL
  rw [A2, A2, aQ, B8, bW]; omega
def bHr (r : List Entry) : r.length <= (r.flatMap entL).length := by
  induction r with
  | nil => simp
  | cons e r ih =>
    have := aLe e
    rw [List.flatMap_cons, A2, C4]; omega
def aPv {s : ByteArray} : ∀ (r : List Entry) (f a : Nat) (out : List Entry), (∀ e ∈ r, bJ e = true) -> a <= s.size -> Has s a (r.flatMap entL) -> a + (r.flatMap entL).length = s.size -> out.length + r.length <= 12 -> r.length <= f -> jQ s f a out = (out ++ r, true)
  | [], f, a, out, _, _, _, hl, _, _ => by
    rw [aLu (by simp at hl; omega), List.append_nil]
  | e :: r, 0, a, out, _, _, _, _, _, hf => by simp at hf
  | e :: r, f + 1, a, out, he, ha, hh, hl, h12, hf => by
    rw [List.flatMap_cons] at hh hl
    have hp := aLe e
    rw [A2] at hl
    have h1 := bRe (he e A3) ha hh.split.1
    rw [C4] at h12 hf
    rw [jQ, if_pos og, h1]
    have e1 : decide (12 <= (out.length : Int)) = false := decide_eq_false og
    simp only [e1, Bool.not_true, Bool.or_self, C5, if_false]
    rw [aPv r f _ _ (fun x hx => he x (A4 _ hx)) og hh.split.2 og (by rw [A2, List.length_singleton]; omega) og]
    simp
def aQo {s : ByteArray} : ∀ (r : List Entry) (f a : Nat) (out : List Entry), (∀ e ∈ r, bJ e = true) -> a <= s.size -> Has s a (r.flatMap entL) -> a + (r.flatMap entL).length = s.size -> out.length + r.length <= 12 -> r.length < f -> mF s f (a : Int) out = out ++ r
  | [], 0, a, out, _, _, _, _, _, hf => by simp at hf
  | [], f + 1, a, out, _, _, _, hl, _, _ => by
    simp at hl
    have e1 : decide ((a : Int) < (s.size : Int)) = false := decide_eq_false og
    rw [mF, e1]; simp
  | e :: r, 0, a, out, _, _, _, _, _, hf => by simp at hf
  | e :: r, f + 1, a, out, he, ha, hh, hl, h12, hf => by
    rw [List.flatMap_cons] at hh hl
    have hp := aLe e
    rw [A2] at hl
    have h1 := bOg (he e A3) ha hh.split.1
    rw [C4] at h12 hf
    rw [mF, if_pos (by simp; omega), Int.toNat_natCast, h1]
    simp only
    rw [aQo r f _ _ (fun x hx => he x (A4 _ hx)) og hh.split.2 og (by rw [A2, List.length_singleton]; omega) og]
    simp
def Has.self (s : ByteArray) : Has s 0 (bL s) := by unfold Has; rw [List.drop_zero, F4]
def bBm {b : List Entry} (h : isB b = true) : jQ (bTx b) (bTx b).size 0 [] = (b, true) := by
  obtain ⟨h1, h2, h3⟩ := bQ h
  have hs := Has.self (bTx b)
  have hl := aQ (bTx b)
  rw [aQd] at hs hl
  have hf := bHr b
  rw [aPv b _ 0 [] h1 (A5 _) hs og (by simpa using h3) og]; rfl
def bAi {b : List Entry} (h : isB b = true) : aHs (bTx b) = b := by
  obtain ⟨h1, h2, h3⟩ := bQ h
  have hs := Has.self (bTx b)
  have hl := aQ (bTx b)
  rw [aQd] at hs hl
  have := aQo b 14 0 [] h1 (A5 _) hs og (by simpa using h3) og
  unfold aHs
  rw [show (0 : Int) = ((0 : Nat) : Int) from rfl, this]; rfl
def aLj {b : List Entry} (h : isB b = true) : (bTx b).size <= 1884 := by
  obtain ⟨h1, h2, h3⟩ := bQ h
  have := sU b ⟨#[]⟩ fun e he => by have := gQ (h1 e he); omega
  have h0 : (⟨#[]⟩ : ByteArray).size = 0 := rfl
  unfold bTx; omega
section
variable {b : List Entry} {s t : ByteArray} {a : Nat}
def aTq (h : isB b = true) : bL (fTx b) = bL (dec ((bTx b).size : Int) ++ spB) ++ bL (bTx b) ++ [10] := by
  unfold fTx
  rw [if_pos h, qU, qU]; rfl
def aLd (h : isB b = true) : (fTx b).size = (dec ((bTx b).size : Int)).size + 1 + (bTx b).size + 1 := by
  rw [<- aQ, aTq h, A2, A2, aQ, aQ, B8, bW]; rfl
def Has.extT (h : Has s a (bL t)) : s.extract a (a + t.size) = t := by
  have := h.ext
  rw [aQ, rE] at this; exact this
def bQt (h : isB b = true) (ha : a <= s.size) (hh : Has s a (bL (fTx b))) : bI s a = (b, true, a + (fTx b).size) := by
  have hsm := aLj h
  have hx := hh.extT
  have hlen := hh.len ha
  rw [aQ] at hlen
  rw [aLd h] at hx hlen ⊢
  rw [aTq h] at hh
  have hA := hh.split.1.split.1
  have hB := hh.split.1.split.2
  have hC := hh.split.2
  have hl : ∀ n, (bL (dec n ++ spB)).length = (dec n).size + 1 := fun n => by rw [aQ, B8, bW]
  simp only [A2, hl, aQ] at hB hC
  have h1 := bPa (n := ((bTx b).size : Int)) ⟨og, og⟩ (aQr ⟨og, og⟩) ha hA
  have h2 := bJf og hB
  rw [aQ, rE] at h2
  have h3 := bJf og hC
  rw [show ((([10] : List UInt8).length : Nat) : Int) = 1 from rfl, <- Nat.add_assoc a] at h3
  have hbad : aZt s a (a + ((dec ((bTx b).size : Int)).size + 1) + (bTx b).size + ([10] : List UInt8).length) b = false := by
    unfold aZt
    rw [h, show a + ((dec ((bTx b).size : Int)).size + 1) + (bTx b).size + ([10] : List UInt8).length = a + ((dec ((bTx b).size : Int)).size + 1 + (bTx b).size + 1) by simp only [List.length_singleton]; omega, hx]
    simp
  rw [List.length_singleton] at hbad; unfold bI; rw [h1]; simp only [if_true, h2, h3, bBm h, hbad, C5, if_false, List.length_singleton]
  refine Prod.ext rfl (Prod.ext rfl ?_)
  show (_ : Nat) = _
  simp only
  omega
def rQ (h : isB b = true) (ha : a <= s.size) (hh : Has s a (bL (fTx b))) : aW s a = (b, ((a + (fTx b).size : Nat) : Int)) := by
  have hsm := aLj h
  have hx := hh.extT
  have hlen := hh.len ha
  rw [aQ] at hlen
  rw [aLd h] at hx hlen ⊢
  rw [aTq h] at hh
  have hA := hh.split.1.split.1
  have hB := hh.split.1.split.2
  have hl : ∀ n, (bL (dec n ++ spB)).length = (dec n).size + 1 := fun n => by rw [aQ, B8, bW]
  simp only [hl] at hB
  have h1 := yS (n := ((bTx b).size : Int)) ⟨og, og⟩ ha hA
  have hbx := hB.extT
  have hb : jP s a = false := by
    unfold jP; rw [h1]
    simp
    omega
  have hf : pC s a = b := by
    unfold pC; rw [h1]
    simp only
    rw [Int.toNat_natCast, <- Int.natCast_add, Int.toNat_natCast, hbx, bAi h]
  unfold aW; rw [hb, hf, h1]; simp only [C5, if_false]
  have e : (((a + ((dec ((bTx b).size : Int)).size + 1) : Nat) : Int) + ((bTx b).size : Int) + 1) = ((a + ((dec ((bTx b).size : Int)).size + 1 + (bTx b).size + 1) : Nat) : Int) := by omega
  rw [e, Int.toNat_natCast, hx]
  simp
def Has.of_toList {a b : Nat} (h : t.toList = (s.extract a b).toList) (hab : a <= b) (hb : b <= s.size) : Has s a (bL t) := by
  have e : ∀ x : ByteArray, x.toList = bL x := fun x => by rw [ByteArray.toList_eq]; rfl
  rw [e, e] at h
  have hl := congrArg List.length h
  rw [aQ, aQ, iH s a b hb] at hl
  exact Has.of_ext h.symm (by rw [aQ]; omega)
def bHs (s : ByteArray) (hs : s.size <= 1048576) (a : Nat) (ha : a <= s.size) : (0 <= (aW s a).2 ↔ (bI s a).2.1 = true) /\ (0 <= (aW s a).2 -> (bI s a).1 = (aW s a).1 /\ (((bI s a).2.2 : Nat) : Int) = (aW s a).2) := by
  have hto : 0 <= (aW s a).2 -> bI s a = ((aW s a).1, true, (aW s a).2.toNat) := fun h => by
    have hb := aEy s hs a h
    have hg := rR s a h
    have hle := uK s a
    have hh := Has.of_toList (aCb s a h) og og
    have h1 := rQ hb ha hh
    rw [bQt hb ha hh]; rw [Prod.ext_iff] at h1; simp only [Prod.mk.injEq, true_and]
    have h2 := h1.2
    simp only at h2
    omega
  have hfrom : (bI s a).2.1 = true -> 0 <= (aW s a).2 := fun h => by
    have hg := aZf (s := s) ha
    generalize hr : bI s a = r at h hg
    unfold bI at hr; split at hr
    . split at hr
      . split at hr
        . split at hr
          . split at hr
            . subst hr; cases h
            rename_i hbad
            subst hr; unfold aZt at hbad
            simp only [D6, Bool.not_eq_true', not_or, Bool.not_eq_false, beq_iff_eq] at hbad
            simp only at hg
            have hh := Has.of_toList hbad.2 og og
            rw [rQ hbad.1 ha hh]
            simp only; omega
          subst hr; cases h
        subst hr; cases h
      subst hr; cases h
    subst hr; cases h
  refine ⟨⟨fun h => by rw [hto h], hfrom⟩, fun h => ?_⟩
  rw [hto h]
  exact ⟨rfl, by simp only; omega⟩
end
def aUp (s : ByteArray) (hs : s.size <= 1048576) : ∀ (f g a : Nat) (out : List (List Entry)), a <= s.size -> s.size - a < f -> s.size - a <= g -> (sT s f a out).1 = (cT s g a out).1 /\ (((sT s f a out).2 : Nat) : Int) = (cT s g a out).2
  | 0, g, a, out, _, hf, _ => by omega
  | f + 1, 0, a, out, ha, hf, hg => by
    have h1 := aZf (s := s) ha
    have hno : ¬ (bI s a).2.1 = true := fun h => by have := h1.2.2 h; omega
    rw [sT, if_neg hno, cT]
    exact ⟨rfl, rfl⟩
  | f + 1, g + 1, a, out, ha, hf, hg => by
    have h1 := aZf (s := s) ha
    obtain ⟨h2, h3⟩ := bHs s hs a ha
    by_cases h : (bI s a).2.1 = true
    . have hp := h1.2.2 h
      have h0 := h2.2 h
      obtain ⟨e1, e2⟩ := h3 h0
      rw [sT, if_pos h, cT, if_pos og, if_neg og, <- e1, <- e2, Int.toNat_natCast]
      exact aUp s hs f g _ _ og og og
    have h0 : (aW s a).2 < 0 := by
      refine Int.not_le.1 fun h0 => h (h2.1 h0)
    rw [sT, if_neg h, cT]; split
    . first | exact ⟨rfl, rfl⟩ | (rw [if_pos h0]; exact ⟨rfl, rfl⟩)
    exact ⟨rfl, rfl⟩
def aFy (s : ByteArray) (hs : s.size <= 1048576) : (raI s).1 = (bN s).1 := (aUp s hs _ _ 0 [] (A5 _) og og).1
def aRb (s : ByteArray) (hs : s.size <= 1048576) : (((raI s).2 : Nat) : Int) = (bN s).2 := (aUp s hs _ _ 0 [] (A5 _) og og).2
def bOj {s : Store} (h : s.disk.log.size <= 1048576) : aAe s = eF s := by
  unfold aAe eF; rw [aFy _ h, <- bBr]
def bOr {s : Store} (h : s.disk.log.size <= 1048576) (hq : 0 <= s.disk.seq) : upI s = upS s := by
  have h2 := aRb s.disk.log h
  have hb : aFq s = aQk s := by
    unfold aFq aQk; rw [zP, show decide (s.disk.seq < 0) = false from decide_eq_false og, Bool.or_false, decide_eq_decide.2 (show s.tree.levels = s.disk.levels ↔ s.disk.levels = s.tree.levels from ⟨Eq.symm, Eq.symm⟩)]
  unfold upI upS; rw [hb, aFy _ h, <- bBr, h2]; split
  . rfl
  split
  . rename_i hn
    rw [decide_eq_false hn]; rfl
  rename_i hn
  rw [decide_eq_true (Classical.not_not.1 hn), Bool.true_and, Bool.and_comm]
def bCz (d : Disk) (s : Store) (hs : s.disk = d) : sP d = (!nN s && cZ ⟨d.seq, [], d.levels, []⟩) := by
  subst hs; unfold sP nN; rw [zP]; split
  . rename_i h
    have e : ((decide (12000 < (s.disk.log.size : Int)) || decide (s.disk.safe < 0)) || decide ((s.disk.log.size : Int) < s.disk.safe)) = true := by
      simp only [D6, decide_eq_true_eq]; omega
    rw [e]; rfl
  rename_i h
  have e : ((decide (12000 < (s.disk.log.size : Int)) || decide (s.disk.safe < 0)) || decide ((s.disk.log.size : Int) < s.disk.safe)) = false := by
    simp only [Bool.or_eq_false_iff, decide_eq_false_iff_not]; omega
  rw [e]; rfl
def bAg {t : Tree} (h : cZ t = true) : 0 <= t.seq := by
  unfold cZ at h; split at h
  . cases h
  rename_i hb
  simp [qI] at hb
  omega
def aBp (s : Store) : gC s = aJ s := by
  have hd := bCz s.disk s rfl
  unfold gC aJ; rw [hd]
  cases h1 : nN s with
  | true => rfl
  | false =>
    cases h2 : cZ ⟨s.disk.seq, [], s.disk.levels, []⟩ with
    | false => rfl
    | true =>
      have hq : 0 <= s.disk.seq := bAg h2
      have hl : s.disk.log.size <= 12000 := by
        simp [nN] at h1; omega
      simp only [Bool.not_false, Bool.and_self, Bool.true_eq_false, C5, if_false]; split
      . exact bOr og hq
      have ho := bOj (s := s) og
      have hol := aDs s hl
      have hdo := bCz (eF s).disk (eF s) rfl
      have hq2 : (eF s).disk.seq = s.disk.seq := rfl
      have hlv : (eF s).disk.levels = s.disk.levels := rfl
      have hsf : (eF s).disk.safe = ((eF s).disk.log.size : Int) := rfl
      have hb : nN (eF s) = false := by
        unfold nN; rw [hsf]
        simp only [Bool.or_eq_false_iff, decide_eq_false_iff_not]; omega
      rw [hb, hq2, hlv, h2] at hdo; unfold sV
      rw [ho, hdo, if_neg dg, bOr og (by rw [hq2]; exact hq)]
def aVo {a b : Tree} (h : hP a b = true) : a = b := by
  unfold hP at h
  simp only [B7, decide_eq_true_eq] at h
  cases a; cases b
  simp only at h
  obtain ⟨⟨⟨rfl, rfl⟩, rfl⟩, rfl⟩ := h
  rfl
section
variable {α : Type} {a : Addr} {t : Nat}
section
variable {H : Type} {enc : TypeId × Value -> H} {w : World} {base : Nat} {sp : Nat -> Bool} {held : Bool} {ρ : Nat -> Value} {av : Nat -> Prop}
def bIu {n : Nat} {cs : List Value} (h : w.cells? base a n = some cs) : cs.length = n /\ ∀ (k : Nat) (v : Value), cs[k]? = some v -> w.cell? (a.add k) = some v := by
  unfold World.cells? at h
  split at h
  . have hl := mapM_some_length h
    refine ⟨by simpa using hl, fun k v hk => ?_⟩
    have hkl := (B2.1 hk).1
    have hkn : k < n := by have : cs.length = n := by simpa using hl
                           omega
    have := mapM_some_get h k k (by simp [hkn])
    rw [this]; exact hk
  cases h
def aXb (h : a.spot = none) (n : Nat) : a.add n = ⟨a.block, a.off + n, none⟩ := by
  unfold Addr.add; split
  . rename_i e; subst e; cases a; simp at h; subst h; rfl
  cases a; rfl
def aRq {v : Value} (h : w.cell? a = some v) : a.spot = none /\ ∃ cells t fr, w.heap[a.block]? = some (.cells cells t fr) /\ cells[a.off]? = some v := by
  unfold World.cell? at h
  split at h
  . rename_i c t fr hh
    cases hs : a.spot with
    | none => rw [hs] at h; exact ⟨rfl, c, t, fr, hh, by simpa using h⟩
    | some s => rw [hs] at h; simp at h
  cases h
def bPi (val : α -> Value) (f : α -> AV) (good : α -> Prop) (sz : Nat) (hsz : 0 < sz) (hcl : ∀ x, good x -> (val x).cells.size = sz) (hrep : ∀ x, good x -> Rep ρ av w.heap (f x) (val x))
    (hav : ∀ b, ¬ av b) {len cap : Nat} (hlc : len <= cap) (hcm : cap <= maxLen)
    (h : ∀ i, i < len -> ∃ x, w.cells? base (a.add (i * sz)) sz = some (val x).cells.toList /\ good x) :
    ∃ xs : List α, xs.length = len /\ (∀ x ∈ xs, good x) /\ Rep ρ av w.heap (.sl sz (xs.map f)) (.slice (some a) len cap) := by
  have hlist : ∀ n, n <= len -> ∃ xs : List α, xs.length = n /\ ∀ (i : Nat) (x : α), xs[i]? = some x -> w.cells? base (a.add (i * sz)) sz = some (val x).cells.toList /\ good x := by
    intro n
    induction n with
    | zero => exact fun _ => ⟨[], rfl, fun i x hi => by simp at hi⟩
    | succ n ih =>
      intro hn
      obtain ⟨xs, h1, h2⟩ := ih og
      obtain ⟨x, hx⟩ := h n og
      refine ⟨xs ++ [x], by simp [h1], fun i y hi => ?_⟩
      rcases Nat.lt_or_ge i n with h3 | h3
      . rw [G6 og] at hi
        exact h2 i y hi
      rw [G7 og] at hi
      have hin : i = n := by
        have := (B2.1 hi).1
        simp at this; omega
      subst hin; rw [h1] at hi; simp at hi; subst hi; exact hx
  obtain ⟨xs, h1, h2⟩ := hlist len (A0 _)
  refine ⟨xs, h1, fun x hx => ?_, ?_⟩
  . obtain ⟨i, hi⟩ := G2 hx
    exact (h2 i x hi).2
  rcases Nat.eq_zero_or_pos len with h0 | h0
  . have : xs = [] := G8 og
    subst this; rw [h0]
    exact .sl0 sz (some a) cap hcm
  obtain ⟨x0, hx0⟩ : ∃ x0, xs[0]? = some x0 := ⟨_, A1 og⟩
  have hg : ∀ (i : Nat) (x : α), xs[i]? = some x -> (val x).cells.size = sz := fun i x hi => hcl x (h2 i x hi).2
  have hcell : ∀ (i : Nat) (x : α), xs[i]? = some x -> ∀ k v, (val x).cells.toList[k]? = some v -> w.cell? ((a.add (i * sz)).add k) = some v := fun i x hi => (bIu (h2 i x hi).1).2
  obtain ⟨v0, hv0⟩ : ∃ v0, (val x0).cells.toList[0]? = some v0 := ⟨_, A1 (by rw [Array.length_toList, hg 0 x0 hx0]; exact hsz)⟩
  have hc0 := hcell 0 x0 hx0 0 v0 hv0
  have h00 : (a.add (0 * sz)).add 0 = a := by simp [Addr.add]
  rw [h00] at hc0
  obtain ⟨hspot, cells, t, fr, hh, _⟩ := aRq hc0
  have hget : ∀ (i : Nat) (x : α), xs[i]? = some x -> ∀ k v, (val x).cells.toList[k]? = some v -> cells[a.off + i * sz + k]? = some v := fun i x hi k v hk => by
    have := hcell i x hi k v hk
    rw [aXb hspot, aXb rfl] at this
    obtain ⟨_, c2, t2, fr2, hh2, h3⟩ := aRq this
    have hh2' : w.heap[a.block]? = some (.cells c2 t2 fr2) := hh2
    rw [hh] at hh2'
    cases hh2'
    exact h3
  have hlen : (xs.map f).length = len := by rw [A6, h1]
  have ha : a = ⟨a.block, a.off, none⟩ := by cases a; simp at hspot; subst hspot; rfl
  have hvals : ∀ (i : Nat) (x : α), xs[i]? = some x -> ((xs[i]?).map val).getD undef = val x := fun i x hi => by rw [hi]; rfl
  have := Rep.sl (ρ := ρ) (av := av) (hp := w.heap) sz (xs.map f) a.block a.off cap cells t fr (fun i => ((xs[i]?).map val).getD undef) og og hcm (hav _) hh (fun j y hj => by
    rw [B4] at hj
    obtain ⟨x, hx, rfl⟩ := B3.1 hj
    show Rep ρ av w.heap (f x) (((xs[j]?).map val).getD undef)
    rw [hvals j x hx]
    exact hrep x (h2 j x hx).2) (fun j hj => by
    obtain ⟨x, hx⟩ : ∃ x, xs[j]? = some x := ⟨_, A1 og⟩
    show (((xs[j]?).map val).getD undef).cells.size = sz /\ _
    rw [hvals j x hx]
    refine ⟨hg j x hx, fun k hk => ?_⟩
    obtain ⟨v, hv⟩ : ∃ v, (val x).cells.toList[k]? = some v := ⟨_, A1 (by rw [Array.length_toList, hg j x hx]; exact hk)⟩
    show cells[a.off + j * sz + k]? = (((xs[j]?).map val).getD undef).cells[k]?
    rw [hvals j x hx, hget j x hx k v hv]
    rw [<- D8, hv])
  rw [hlen] at this; rw [ha]; exact this
def Op (H : Type) (enc : TypeId × Value -> H) (w : World) (base : Nat) (sp : Nat -> Bool) (held : Bool) (ρ : Nat -> Value) (av : Nat -> Prop) (t sz : Nat) (g : α -> AV) (good : α -> Prop) : Prop :=
  ∀ fuel cs x, DataW.trod enc P w base sp held fuel t cs = some x -> ∃ a v, good a /\ v.cells = cs.toArray /\ cs.length = sz /\ (sz = 1 -> cs = [v]) /\ (sz ≠ 1 -> v = .agg cs.toArray) /\ Rep ρ av w.heap (g a) v
def bNd (u : P.underlying t = some (.int .u8)) : Op H enc w base sp held ρ av t 1 byteAV (fun _ => True) := by
  intro fuel cs x h
  obtain ⟨n, rfl, _, hw⟩ := DataW.trod_int u h
  have hmin : IntKind.u8.min = 0 := rfl
  have hmax : IntKind.u8.max = 255 := rfl
  have hn : 0 <= n /\ n <= 255 := by simp [Lit.wf, IntKind.has] at hw; omega
  have e : ((UInt8.ofNat n.toNat).toNat : Int) = n := by
    show ((n.toNat % 256 : Nat) : Int) = n
    omega
  refine ⟨UInt8.ofNat n.toNat, _, trivial, rfl, rfl, fun _ => rfl, fun h => (h rfl).elim, ?_⟩
  unfold byteAV; rw [e]
  exact .raw _
def bRb {t e sz : Nat} {g : α -> AV} {good : α -> Prop} (hav : ∀ b, ¬ av b) (u : P.underlying t = some (.slice e)) (hz : P.cellsOf e = sz) (h0 : 0 < sz) (O : Op H enc w base sp held ρ av e sz g good) :
    Op H enc w base sp held ρ av t 1 (fun ls : List α => .sl sz (ls.map g)) (fun ls => ls.length <= maxLen /\ ∀ l ∈ ls, good l) := by
  intro fuel cs x h
  rcases DataW.trod_slice u h with ⟨h1, _⟩ | ⟨a, len, cap, elems, rest, n, _, h1, _, hb, hlc, hcm, hel, hi, _⟩
  . subst h1
    exact ⟨[], _, ⟨A5 _, by simp⟩, rfl, rfl, fun _ => rfl, fun h => (h rfl).elim, .sl0 sz none 0 (A5 _)⟩
  subst h1; rw [hz] at hi
  obtain ⟨ls, k1, k2, k3⟩ := bPi (w := w) (base := base) (α := α × Value) (fun x => x.2) (fun x => g x.1) (fun x => good x.1 /\ x.2.cells.size = sz /\ Rep ρ av w.heap (g x.1) x.2) sz h0 (fun x hx => hx.2.1) (fun x hx => hx.2.2) (ρ := ρ) (av := av) hav hlc hcm (fun i hil => by
      have := hi i hil
      rw [A1 og] at this
      obtain ⟨cs, hcs, ht⟩ := G9.1 this
      obtain ⟨p, v, q1, q2, q3, _, _, q4⟩ := O _ _ _ ht
      exact ⟨(p, v), by rw [hcs, q2], q1, by rw [q2]; simpa using q3, q4⟩)
  refine ⟨ls.map (·.1), _, ⟨by rw [A6]; omega, fun p hp => ?_⟩, rfl, rfl, fun _ => rfl, fun h => (h rfl).elim, by show Rep ρ av w.heap (.sl sz ((ls.map fun x => x.1).map g)) _; rw [List.map_map]; exact k3⟩
  obtain ⟨q, hq, rfl⟩ := A9.1 hp
  exact (k2 q hq).1
end
section
variable {H : Type} {enc : TypeId × Value -> H} {w : World} {base : Nat} {sp : Nat -> Bool} {held : Bool} {ρ : Nat -> Value} {av : Nat -> Prop}
def uB : P.underlying 4 = some .bool := kr
def bJt (hav : ∀ b, ¬ av b) : Op H enc w base sp held ρ av 22 1 (fun ls : List UInt8 => .sl 1 (ls.map byteAV)) (fun ls => ls.length <= maxLen /\ ∀ l ∈ ls, True) := bRb hav uBS ceU og (bNd (by kernel_rfl : P.underlying 5 = some (.int .u8)))
end
end
end Go.Proofs.S
end
section
open Go Go.Abs Go.Proofs Go.Proofs.Tryz
open Go.ChangeShapes Go.WideShapes Go.RowKit Go.Proofs.YtaaomkdcmncjnaaGreatDoor
namespace Go.Proofs.S
def bRk : ownKnob P.godebug = none := kr
def bRj : laidOutB P = true := kr
def bRn : P.underlying 89 = some (.interface #[("Error", 94)]) := kr
def bRu : P.readableRec 22 = true := kr
def aIr {w : World} : ∀ {l : List (String × DataW Unit)} {ps : List MemPlace}, DataW.LaidVars P w l ps -> ∀ {n : String} {d : DataW Unit}, (n, d) ∈ l ->
    ∃ t cs fuel p, ∀ g, P.globalNamed n = some g -> (P.globals[g]?).map (·.type) = some t /\ (∃ u fr, w.heap[g]? = some (.cells cs u fr)) /\ DataW.trod (fun _ => ()) P w 0 (fun _ => true) false fuel t cs.toList = some (d, p)
  | [], _, _, _, _, hm => by cases hm
  | (n', d') :: l, ps, h, n, d, hm => by
    obtain ⟨g, t, cs, fuel, p, q, h1, h2, h3, h4, h5, _⟩ := h
    rcases A8.1 hm with e | hm
    . cases e
      refine ⟨t, cs, fuel, p, fun g' hg' => ?_⟩
      obtain rfl := Option.some.inj (h1.symm.trans hg')
      refine ⟨h2, ?_, h4⟩
      simp only [World.var?, h1, Option.bind_some] at h3
      split at h3
      . rename_i cs' u fr hb; cases h3; exact ⟨u, fr, hb⟩
      cases h3
    exact aIr h5 hm
def bQs {w : World} {l : List (String × DataW Unit)} (hL : laidMet P l w) (m0 : ("internal/strconv.uint64pow10", (Rows.laid_internal_strconv_uint64pow10 : DataW Unit)) ∈ l) (m1 : ("strconv.ErrSyntax", (Rows.laid_strconv_ErrSyntax : DataW Unit)) ∈ l) (m2 : ("strconv.ErrRange", (Rows.laid_strconv_ErrRange : DataW Unit)) ∈ l) :
    ∀ g, Globals.on g -> ∃ o, w.heap[g]? = some o /\ Globals.G0 g o := by
  obtain ⟨ps, hv, _, _⟩ := hL
  intro g hg
  rcases hg with rfl | rfl | rfl
  . obtain ⟨t, cs, fuel, p, h⟩ := aIr hv m0
    obtain ⟨ht, ⟨u, fr, hh⟩, hd⟩ := h 0 kr
    obtain rfl : 205 = t := Option.some.inj ((show (P.globals[0]?).map (·.type) = some 205 by kernel_rfl).symm.trans ht)
    have e := Lib.cells_of_tab (k := .u64) (zs := Lib.pow10Tab) (e := 183) (n := 20) kr kr kr kr (show _ = some (Lib.tabData .u64 Lib.pow10Tab, p) from hd)
    have hcs : cs = ((Lib.pow10Tab.map fun z => Value.int .u64 z)).toArray := by rw [<- e]
    exact ⟨_, hh, fun _ => ⟨u, fr, by rw [hcs]⟩, fun h => by omega, _, _, _, rfl⟩
  . obtain ⟨t, cs, fuel, p, h⟩ := aIr hv m1
    obtain ⟨ht, ⟨u, fr, hh⟩, hd⟩ := h 1 kr
    obtain rfl : 89 = t := Option.some.inj ((show (P.globals[1]?).map (·.type) = some 89 by kernel_rfl).symm.trans ht)
    obtain ⟨_, a, b, e, _, _⟩ := iface_of_trod (bRn) hd
    have hcs : cs = #[.iface a b] := by cases cs; simpa using e
    exact ⟨_, hh, fun h => by omega, fun _ => ⟨a, b, u, fr, by rw [hcs]⟩, _, _, _, rfl⟩
  obtain ⟨t, cs, fuel, p, h⟩ := aIr hv m2
  obtain ⟨ht, ⟨u, fr, hh⟩, hd⟩ := h 2 kr
  obtain rfl : 89 = t := Option.some.inj ((show (P.globals[2]?).map (·.type) = some 89 by kernel_rfl).symm.trans ht)
  obtain ⟨_, a, b, e, _, _⟩ := iface_of_trod (bRn) hd
  have hcs : cs = #[.iface a b] := by cases cs; simpa using e
  exact ⟨_, hh, fun h => by omega, fun _ => ⟨a, b, u, fr, by rw [hcs]⟩, _, _, _, rfl⟩
def C0 : Conc := { ρ := fun _ => .pointer (some ⟨0, 0, none⟩), one := fun _ => rfl, own := fun _ => [], X := fun _ => False, B := 0 }
def bOy (b : Nat) : ¬ C0.avoid [] b := by
  rintro (h | ⟨i, o, h, _⟩)
  . exact h
  simp [Abs.get] at h
def bQj {w : World} (gl : ∀ g, Globals.on g -> ∃ o, w.heap[g]? = some o /\ Globals.G0 g o) : RelH C0 [] (UU 0) w where
  obj := fun i o h => by simp [Abs.get] at h
  apart := fun i j oi oj b _ h => by simp [Abs.get] at h
  xapart := fun i o b h => by simp [Abs.get] at h
  xlt := fun b h => h.elim
  objb := fun i o h => by simp [Abs.get] at h
  gl := fun g hg => by obtain ⟨o, h1, h2⟩ := gl g hg; exact ⟨o, h1, h2, bOy g⟩
def bHk {w w' : World} {C' : Conc} {H' : Heap} (h : StepR C0 [] (UU 0) w C' H' w') : Below w.heap.size w w' :=
  ⟨h.os, h.tape, h.output, h.size, fun k hk => h.keep k hk fun ⟨i, o, hi, _⟩ => by simp [Abs.get] at hi⟩
def bJy {w : World} {base : Nat} {t e : Nat} {v : Value} (u : P.underlying t = some (.slice e)) (h : Value.okWide P w .any base t v) : v.cells.toList = [v] := by
  simp only [Value.okWide, u] at h
  cases v <;> simp_all [Cell.okWide, Cell.ok, u, Value.cells]
end Go.Proofs.S
end
section
open Go Go.Abs Go.Proofs Go.Proofs.Tryz
namespace Go.Proofs.S
def bEr (older iZ : Int) (ts : List Int) (i : Nat) : Bool := match ts[i]? with
  | some s => !(decide (older <= s) && decide (s < iZ))
  | none => true
def apB (older iZ : Int) (ts : List Int) : Bool := !(List.range ts.length).all (bEr older iZ ts)
def rX : Entry -> Bool -> List Entry -> Entry
  | o, _, [] => o
  | o, f, e :: r => if e.kind = 3 then rX { o with n := o.n + e.n } false r
    else if e.kind = 1 then { o with kind := 1, text := e.text, n := o.n + e.n } else if f = true then { o with kind := 2 } else { o with kind := 1 }
def aDw (x : Entry) : Entry := ⟨x.key, x.seq, 3, ⟨#[]⟩, 0⟩
def rL (ls : List Entry) : Entry := match ls with
  | [] => iQ
  | x :: _ => rX (aDw x) true ls
def sqC (ls : List Entry) (bare : Bool) : List Entry := if (decide (1000000 < (rL ls).n) || decide ((rL ls).n < -1000000)) = true then ls
  else if bare = true then (if (rL ls).kind = 2 then [] else if (rL ls).kind = 3 then [{ rL ls with kind := 1 }] else [rL ls]) else [rL ls]
def pL : Entry -> Bool -> List Entry -> Entry
  | o, _, [] => o
  | o, f, e :: r => if e.kind = 1 then { o with kind := 1, text := e.text, n := o.n + e.n }
    else if e.kind = 2 then (if f = true then { o with kind := 2, n := o.n + e.n } else { o with kind := 1, n := o.n + e.n }) else pL { o with n := o.n + e.n } false r
def vQ (ls : List Entry) : Entry := match ls with
  | [] => iQ
  | x :: _ => pL (aDw x) true ls
def jC (ls : List Entry) (last : Bool) : List Entry := if nP (vQ ls).n = false then ls
  else if (last && decide ((vQ ls).kind = 2)) = true then [] else if (last && decide ((vQ ls).kind = 3)) = true then [{ vQ ls with kind := 1 }] else [vQ ls]
def aEe (ls : List Entry) : Prop := ls.length <= 1048576 /\ ∀ e ∈ ls, -1000000 <= e.n /\ e.n <= 1000000
def aMm (ts : List Int) (o n : Int) (hz : ts.length <= 4611686018427387904) : aK P 204 [.sl 1 (ts.map inA), Ni o, Ni n] [] 0 (Nb (apB o n ts)) := by
 refine (pq 28 [.tmp 6] func204) ((aj) ?_)
 refine aA fun k2 => (aj) (wb ?_)
 refine wa ts.length (bEr o n ts) (fun x => ([(0, .sl 1 (ts.map inA)), (1, Ni o), (2, Ni n), (7, Ni (x : Int))], [])) 0 [] ?_ ?_
 . exact jc
 rintro i ⟨hi, hall⟩
 refine aA fun k4 => (aj) ((cdB) ?_ ?_) <;> intro hc1
 . have hge := gec hc1
   refine we ((jt) (k2 ((aj) (wR ?_))))
   have h9 : apB o n ts = false := by unfold apB; rw [gF hge hall]; rfl
   exact fq h9
 obtain ⟨hlt, l, hl, hdrop, hml⟩ := ixc hc1
 refine wk (k4 (aA fun k6 => wb (sr rfl fun k7 => ?_)))
 simp only [go_sem, hl, inA]
 refine (jr) (k7 ((cdA) ?_ ?_)) <;> intro hc2
 . have hp : bEr o n ts i = false := by unfold bEr; rw [hl]; simp only [hc2]; rfl
   refine (aj) (wR ((Ah) ?_))
   have h9 : apB o n ts = true := by unfold apB; rw [hZ hlt hp]; rfl
   exact fq h9
 have hp : bEr o n ts i = true := by unfold bEr; rw [hl]; simp only [hc2]; rfl
 refine wk ((jt) (k6 ((jw (wiS i og)) ((jt) ?_))))
 refine ⟨i + 1, ⟨og, cG hall hp⟩, og, [], ?_⟩
 exact jo
def aPc (ls : List Entry) (hz : aEe ls) (hne : ls ≠ []) : aK P 213 [.sl 5 (ls.map enA)] [] 0 (.tup [enA (vQ ls), Nb (nP (vQ ls).n)]) := by
 refine (pq 50 [.cell 2 43, .tmp 3] func213) ?_
 have hlen := hz.1
 have hpos : 0 < ls.length := F7.2 hne
 obtain ⟨y, r, hy⟩ := G4 hne
 have hy0 : ls[0]? = some y := by rw [hy]; rfl
 have h0 : pL (aDw y) (decide ((0 : Nat) = 0)) (ls.drop 0) = vQ ls := by rw [hy]; rfl
 refine (aj) ?_
 refine sd mixed rfl fun k2 => (Cf hy0) ((jr) ((jy) (k2 (aA fun k3 => (aj) (wb ?_)))))
 refine wl (α := Nat × Entry) (fun x => x.1 <= ls.length /\ -(1000000 * (x.1 : Int)) <= x.2.n /\ x.2.n <= 1000000 * (x.1 : Int) /\ pL x.2 (decide (x.1 = 0)) (ls.drop x.1) = vQ ls) (fun x => ls.length - x.1) (fun x => ([(0, .sl 5 (ls.map enA)), (2, .ptr 0 0), (4, .ptr 1 0), (5, Ni (x.1 : Int))], [(0, .cells 43 [Ns ⟨#[]⟩, Ni 0, Ni 0, Ns ⟨#[]⟩, Ni 0]), (1, .cells 43 [Ns x.2.key, Ni x.2.seq, Ni x.2.kind, Ns x.2.text, Ni x.2.n])])) 2 (0, aDw y) ⟨A5 _, by simp [aDw], by simp [aDw], h0⟩ [] ?_ ?_
 . simp only [go_sem, AObj.bel, Int.natCast_zero, aDw] <;> simp
 rintro ⟨i, o⟩ ⟨hi, hn0, hn1, hgo⟩
 simp only at hi hn0 hn1 hgo ⊢
 refine aA fun k5 => (aj) ((cdB) ?_ ?_) <;> intro hc1
 . have hge := gec hc1
   rw [E6 hge, pL] at hgo
   refine we ((jt) (k3 (sd mixed rfl fun k21 => (ja) ?_)))
   refine tp rfl rfl rfl ⟨func151, rfl, rfl⟩ (nB _) rfl oG ?_
   refine (Bg) ((jy) (k21 (wR ?_)))
   refine fO ?_ ⟨dQ _ _, trivial, trivial⟩
   simp only [go_sem, enA, <- hgo]
 obtain ⟨hlt, l, hl, hdrop, hml⟩ := ixc hc1
 have hnl := hz.2 l hml
 have hwn := wr (o.n + l.n) (o.n + l.n) og
 rw [hdrop, pL] at hgo
 refine wk (k5 (aA fun k7 => wb (sr rfl fun k8 => (An hl) ((jr) (k8 (sr rfl fun k9 => (Aa hwn) (k9 (aA fun k10 => (aj) ((cdA) ?_ ?_))))))))) <;> intro hc2
 . have n2 : l.kind = 1 := by simpa using hc2
   rw [if_pos n2] at hgo
   refine (aj) ((aj) (we ((jt) (k3 (sd mixed rfl fun k14 => (ja) ?_)))))
   refine tp rfl rfl rfl ⟨func151, rfl, rfl⟩ (nB _) rfl oG ?_
   refine (Bg) ((jy) (k14 (wR ?_)))
   refine fO ?_ ⟨dQ _ _, trivial, trivial⟩
   simp only [go_sem, enA, <- hgo]
 have n2 : ¬ l.kind = 1 := by simpa using hc2
 rw [if_neg n2] at hgo
 refine wk (k10 ((aj) ((cdB) ?_ ?_))) <;> intro hc3
 . have n3 : ¬ l.kind = 2 := by simpa using hc3
   rw [if_neg n3] at hgo
   refine wk ((jt) (k7 ((jw (wiS i og)) ((jt) ?_))))
   refine ⟨(i + 1, { o with n := o.n + l.n }), ⟨og, by simp only; omega, by simp only; omega, hgo⟩, og, [], ?_⟩
   exact jz
 have n3 : l.kind = 2 := by simpa using hc3
 rw [if_pos n3] at hgo
 refine (aj) ?_
 refine aA fun k17 => (aj) ((cdA) ?_ ?_) <;> intro hc4
 . have n4 : i = 0 := by simp at hc4; omega
   rw [if_pos (by simp [n4])] at hgo
   refine wg rfl ((ja) (k17 (we ((jt) (k3 (sd mixed rfl fun k19 => (ja) ?_))))))
   refine tp rfl rfl rfl ⟨func151, rfl, rfl⟩ (nB _) rfl oG ?_
   refine (Bg) ((jy) (k19 (wR ?_)))
   refine fO ?_ ⟨dQ _ _, trivial, trivial⟩
   simp only [go_sem, enA, <- hgo]
 have n4 : ¬ i = 0 := by simp at hc4; omega
 rw [if_neg (by simp [n4])] at hgo
 refine wk (k17 (we ((jt) (k3 (sd mixed rfl fun k20 => (ja) ?_)))))
 refine tp rfl rfl rfl ⟨func151, rfl, rfl⟩ (nB _) rfl oG ?_
 refine (Bg) ((jy) (k20 (wR ?_)))
 refine fO ?_ ⟨dQ _ _, trivial, trivial⟩
 simp only [go_sem, enA, <- hgo]
def aMz (ls : List Entry) (last : Bool) (hz : aEe ls) (hne : ls ≠ []) : aK P 203 [.sl 5 (ls.map enA), Nb last] [] 0 (.sl 5 ((jC ls last).map enA)) := by
 refine (pq 33 [.tmp 4] func203) ?_
 have hmx := mxl
 have hlen := hz.1
 refine (aj) ?_
 refine sr rfl fun k2 => (ja) ?_
 refine vs rfl rfl rfl func213 (aPc ls hz hne) Ae Ae ?_
 refine (Bg) (k2 (aA fun k3 => (aj) ((cdA) ?_ ?_))) <;> intro hc1
 . have hs : nP (vQ ls).n = false := by simpa using hc1
   refine sr rfl fun k5 => (Au) ((jr) (k5 ?_))
   have h9 : jC ls last = ls := by unfold jC; rw [if_pos hs]
   refine aFz 2 rfl ?_
   refine (Ac) (wR ?_)
   refine fO ?_ (enB _ _)
   exact Ab h9
 have hs : ¬ nP (vQ ls).n = false := by simpa using hc1
 refine wk (k3 (aA fun k6 => (aj) ((cdA) ?_ ?_))) <;> intro hc2
 . have hl2 := hc2
   refine sr rfl fun k8 => (ja) ((jr) (k8 ?_))
   have h9 : jC ls last = [] := by unfold jC; rw [if_neg hs, if_pos hl2]
   refine aFz 1 rfl ?_
   refine (Ac) (wR ?_)
   refine fO ?_ (enB _ _)
   simp only [go_sem, h9, List.map_nil]
 have hl2 := hc2
 refine wk (k6 (aA fun k9 => (aj) ((cdA) ?_ ?_))) <;> intro hc3
 . have hl3 := hc3
   refine wg rfl ((ja) (k9 (sr rfl fun k11 => (ja) ((jr) (k11 ?_)))))
   have h9 : jC ls last = [{ vQ ls with kind := 1 }] := by unfold jC; rw [if_neg hs, if_neg (by rw [hl2]; simp), if_pos hl3]
   refine aFz 1 rfl ?_
   refine (Ac) (wR ?_)
   refine fO ?_ (enB _ _)
   simp only [go_sem, h9, List.map_cons, List.map_nil, enA]
 have hl3 := hc3
 refine wk (k9 (sr rfl fun k12 => (ja) ((jr) (k12 ?_))))
 have h9 : jC ls last = [vQ ls] := by unfold jC; rw [if_neg hs, if_neg (by rw [hl2]; simp), if_neg (by rw [hl3]; simp)]
 refine aFz 1 rfl ?_
 refine (Ac) (wR ?_)
 refine fO ?_ (enB _ _)
 simp only [go_sem, h9, List.map_cons, List.map_nil, enA]
def qH (ls : List Entry) (i : Nat) : Entry := (ls[i]?).getD iQ
def uR {ls : List Entry} {i : Nat} (h : i < ls.length) : ls[i]? = some (qH ls i) := by
  unfold qH; rw [A1 h]; rfl
def bEb (ts : List Int) (ls : List Entry) (i : Nat) : Bool := apB (qH ls i).seq (bX ls i).seq ts
def mQ (ts : List Int) (ls : List Entry) : Nat -> Nat -> Nat -> List (List Entry)
  | 0, _, _ => []
  | f + 1, s, i => if (decide ((i : Int) < (ls.length : Int)) && !bEb ts ls i) = true then mQ ts ls f s (i + 1) else (ls.take i).drop s :: mQ ts ls f i (i + 1)
def mO (ts : List Int) (ls : List Entry) : List (List Entry) := mQ ts ls ls.length 0 1

def lfL (f : List Entry -> Bool -> List Entry) : List (List Entry) -> Bool -> List (List Entry) × Bool
  | [], b => ([], b)
  | c :: r, b => (f c (lfL f r b).2 :: (lfL f r b).1, (lfL f r b).2 && decide (((f c (lfL f r b).2).length : Int) = 0))
def sqK (ts : List Int) (ls : List Entry) (bottom : Bool) : List Entry := (lfL sqC (mO ts ls) bottom).1.flatten
def aFp (ts : List Int) (ls : List Entry) : ∀ f s i, f + i = ls.length + 1 -> s <= i -> (mQ ts ls f s i).flatten.length <= ls.length - s
  | 0, s, i, h, hs => by simp [mQ]
  | f + 1, s, i, h, hs => by
    unfold mQ; split
    . have := aFp ts ls f s (i + 1) og og
      omega
    have := aFp ts ls f i (i + 1) og og
    simp only [List.flatten_cons, A2, B1, B0]; omega
def aFr (ts : List Int) (ls : List Entry) : ∀ f s i, f + i = ls.length + 1 -> s < i -> ∀ c ∈ mQ ts ls f s i, c ≠ [] /\ c.length <= ls.length /\ ∀ e ∈ c, e ∈ ls
  | 0, s, i, h, hs => by simp [mQ]
  | f + 1, s, i, h, hs => by
    intro c hc; unfold mQ at hc; split at hc
    . exact aFr ts ls f s (i + 1) og og c hc
    rcases A8.1 hc with rfl | hc
    . refine ⟨fun e => ?_, by simp only [B1, B0]; omega, fun e he => D1 (D2 he)⟩
      have := congrArg List.length e
      simp only [B1, B0, List.length_nil] at this
      omega
    exact aFr ts ls f i (i + 1) og og c hc
def jF {ts : List Int} {ls : List Entry} {c : List Entry} (h : c ∈ mO ts ls) : c ≠ [] /\ c.length <= ls.length /\ ∀ e ∈ c, e ∈ ls := aFr ts ls ls.length 0 1 rfl og c h
def aPg {ts : List Int} {ls : List Entry} (hz : aEe ls) {c : List Entry} (h : c ∈ mO ts ls) : aEe c := ⟨by have := (jF h).2.1; have := hz.1; omega, fun e he => hz.2 e ((jF h).2.2 e he)⟩
def bCw {α : Type} : ∀ {cs : List (List α)}, (∀ c ∈ cs, c ≠ []) -> cs.length <= cs.flatten.length
  | [], _ => by simp
  | c :: r, h => by
    have h1 := bCw (cs := r) fun x hx => h x (A4 _ hx)
    have h2 := F7.2 (h c A3)
    simp only [C4, List.flatten_cons, A2]; omega
def rP {ts : List Int} {ls : List Entry} : (mO ts ls).length <= ls.length /\ (mO ts ls).flatten.length <= ls.length := by
  have h1 := aFp ts ls ls.length 0 1 rfl og
  have h2 := bCw (cs := mO ts ls) fun c hc => (jF hc).1
  have h1' : (mO ts ls).flatten.length <= ls.length - 0 := h1
  omega
def bNr (ls : List Entry) (b : Bool) (h : ls ≠ []) : (sqC ls b).length <= ls.length := by
  have hp := F7.2 h
  unfold sqC
  repeat' split
  all_goals first | omega | (simp only [List.length_nil, C4]; omega)
def aZh (b : Bool) : ∀ {cs : List (List Entry)}, (∀ c ∈ cs, c ≠ []) -> (lfL sqC cs b).1.flatten.length <= cs.flatten.length
  | [], _ => by simp [lfL]
  | c :: r, h => by
    have h1 := aZh b (cs := r) fun x hx => h x (A4 _ hx)
    have h2 := bNr c (lfL sqC r b).2 (h c A3)
    simp only [lfL, List.flatten_cons, A2]; omega
def bMl (ts : List Int) (ls : List Entry) (b : Bool) : (sqK ts ls b).length <= ls.length := by
  have h1 := aZh b (cs := mO ts ls) fun c hc => (jF hc).1
  have h2 := (rP (ts := ts) (ls := ls)).2
  unfold sqK; omega

section
variable {ls : List Entry} {s : Nat} {e : Entry}
def aYv (ls : List Entry) (s e : Nat) : Bool := (qH ls e).key.toList == (qH ls s).key.toList
def aAu (ls : List Entry) : Nat -> Nat -> Nat -> Nat
  | 0, _, e => e
  | f + 1, s, e => if (decide ((e : Int) < (ls.length : Int)) && aYv ls s e) = true then aAu ls f s (e + 1) else e
def dP (ls : List Entry) (s : Nat) : Nat := aAu ls (ls.length - (s + 1)) s (s + 1)
def rF (g : List Entry -> List Entry) (ls : List Entry) : Nat -> Nat -> List Entry
  | 0, _ => []
  | f + 1, s => if s < ls.length then g ((ls.take (dP ls s)).drop s) ++ rF g ls f (dP ls s) else []
def cI (ls : List Entry) (ts : List Int) (bottom : Bool) : List Entry := if bU ls = true then rF (fun c => sqK ts c bottom) ls ls.length 0 else []
def aVj (ls : List Entry) : ∀ f s e, f + e = ls.length -> e <= aAu ls f s e /\ aAu ls f s e <= ls.length
  | 0, s, e, h => by unfold aAu; omega
  | f + 1, s, e, h => by
    unfold aAu; split
    . have := aVj ls f s (e + 1) og; omega
    omega
def xM (h : s < ls.length) : s + 1 <= dP ls s /\ dP ls s <= ls.length := aVj ls (ls.length - (s + 1)) s (s + 1) og
def bIo {g : List Entry -> List Entry} (h : ls.length <= s) : ∀ f, rF g ls f s = []
  | 0 => rfl
  | f + 1 => by unfold rF; rw [if_neg og]
def bNz {p : Nat -> Bool} {n i : Nat} (h : (List.range n).all p = true) (hi : i < n) : p i = true := C8.1 h i (List.mem_range.2 hi)
def lY (h : bU ls = true) (he : e ∈ ls) : bJ e = true := by
  obtain ⟨i, hi⟩ := G2 he
  have hlt := (B2.1 hi).1
  have := bNz h hlt
  unfold zX at this; rw [hi] at this
  simp only [Bool.not_eq_true', Bool.or_eq_false_iff] at this
  simpa using this.1
def bEh (h : bJ e = true) : -1000000 <= e.n /\ e.n <= 1000000 := by
  unfold bJ at h; split at h
  . cases h
  rename_i hb
  have hb' : jS e = false := by simpa using hb
  unfold jS at hb'
  simp only [Bool.or_eq_false_iff, Bool.not_eq_false', nP, B7, decide_eq_true_eq] at hb'
  omega
def bMb (h : bU ls = true) (hl : ls.length <= 1048576) : aEe ls := ⟨hl, fun e he => bEh (lY h he)⟩
def bGh {ls c : List Entry} (h : aEe ls) (hl : c.length <= ls.length) (hs : ∀ e ∈ c, e ∈ ls) : aEe c := ⟨by have := h.1; omega, fun e he => h.2 e (hs e he)⟩
end
def aYn (ls : List Entry) (ts : List Int) (b : Bool) : (cI ls ts b).length <= ls.length := by
  have key : ∀ f s, (rF (fun c => sqK ts c b) ls f s).length <= ls.length - s := by
    intro f
    induction f with
    | zero => intro s; simp [rF]
    | succ f ih =>
      intro s; unfold rF; split
      . rename_i hs
        have h1 := bMl ts ((ls.take (dP ls s)).drop s) b
        have h2 := ih (dP ls s)
        have h3 := xM hs
        simp only [A2, B1, B0] at h1 ⊢
        omega
      simp
  unfold cI; split
  . have := key ls.length 0; omega
  simp
def bDa {p : Entry -> Prop} (b : Bool) : ∀ {cs : List (List Entry)}, (∀ c ∈ cs, ∀ b, ∀ e ∈ sqC c b, p e) -> ∀ l ∈ (lfL sqC cs b).1, ∀ e ∈ l, p e
  | [], _ => by simp [lfL]
  | c :: r, h => by
    intro l hl
    simp only [lfL, A8] at hl
    rcases hl with rfl | hl
    . exact h c A3 _
    exact bDa b (cs := r) (fun x hx => h x (A4 _ hx)) l hl
def bMr {p : Entry -> Prop} {ts : List Int} {ls : List Entry} {b : Bool} (h : ∀ c ∈ mO ts ls, ∀ b, ∀ e ∈ sqC c b, p e) : ∀ e ∈ sqK ts ls b, p e := by
  intro e he
  obtain ⟨l, hl, hel⟩ := List.mem_flatten.1 he
  exact bDa b h l hl e hel
def aDd {p : Entry -> Prop} {g : List Entry -> List Entry} {ls : List Entry} (h : ∀ s, s < ls.length -> ∀ e ∈ g ((ls.take (dP ls s)).drop s), p e) : ∀ f s, ∀ e ∈ rF g ls f s, p e
  | 0, s => by simp [rF]
  | f + 1, s => by
    intro e he; unfold rF at he; split at he
    . rename_i hs
      rcases A7.1 he with he | he
      . exact h s hs e he
      exact aDd h f _ e he
    cases he

def bPm {s : Store} (h : gC s = true) (hu : s.up = true) : s.tree.levels.length = 3 := by
  unfold gC at h; rw [if_pos hu] at h; split at h
  . cases h
  unfold upI at h; split at h
  . cases h
  rename_i hb
  unfold aFq at hb
  simp only [D6, not_or] at hb
  have h1 : eC s.tree = true := by have := hb.1.1; simpa using this
  unfold eC at h1; split at h1
  . cases h1
  rename_i h2
  unfold sM at h2; simp at h2; omega
def bHu (ls : List Entry) (b : Bool) (h : ls ≠ []) : (jC ls b).length <= ls.length := by
  have hp := F7.2 h
  unfold jC
  repeat' split
  all_goals first | omega | (simp only [List.length_nil, C4]; omega)
def aEv {f : List Entry -> Bool -> List Entry} (hf : ∀ c b, c ≠ [] -> (f c b).length <= c.length) (b : Bool) : ∀ {cs : List (List Entry)}, (∀ c ∈ cs, c ≠ []) -> (lfL f cs b).1.flatten.length <= cs.flatten.length
  | [], _ => by simp [lfL]
  | c :: r, h => by
    have h1 := aEv hf b (cs := r) fun x hx => h x (A4 _ hx)
    have h2 := hf c (lfL f r b).2 (h c A3)
    simp only [lfL, List.flatten_cons, A2]; omega
def bEg {α : Type} (cs : List (List α)) (i : Nat) : (cs.drop i).flatten.length <= cs.flatten.length := by
  have h := congrArg (fun z => z.flatten.length) (List.take_append_drop i cs)
  simp only [List.flatten_append, A2] at h
  omega
def jK (ts : List Int) (ls : List Entry) (b : Bool) : List Entry := (lfL jC (mO ts ls) b).1.flatten
def bKf (ts : List Int) (ls : List Entry) (b : Bool) : (jK ts ls b).length <= ls.length := by
  have h1 := aEv bHu b (cs := mO ts ls) fun c hc => (jF hc).1
  have h2 := (rP (ts := ts) (ls := ls)).2
  unfold jK; omega
def bO (ls : List Entry) (ts : List Int) (b : Bool) : List Entry := if bU ls = true then rF (fun c => jK ts c b) ls ls.length 0 else []
def tX (ls : List Entry) (ts : List Int) (hl : ls.length <= 1048576) (hts : ts.length <= 1048576) : aK P 199 [.sl 5 (ls.map enA), .sl 1 (ts.map inA)] [] 0 (.sl 1 ((mO ts ls).map esA)) := by
 refine (pq 46 [.tmp 4] func199) ?_
 have hmx := mxl
 refine (aj) ?_
 refine sr rfl fun k2 => (ja) ((jr) (k2 (aA fun k3 => (aj) (wb ?_))))
 refine wl (α := Nat × List (List Entry)) (fun x => x.1 <= ls.length /\ x.2.length <= x.1 /\ x.2 ++ mQ ts ls (ls.length - x.1) x.1 (x.1 + 1) = mO ts ls) (fun x => ls.length - x.1) (fun x => ([(0, .sl 5 (ls.map enA)), (1, .sl 1 (ts.map inA)), (5, .ref 0), (6, Ni (x.1 : Int))], [(0, .row 23 1 (x.2.map esA))])) 1 (0, []) ⟨A5 _, by simp, rfl⟩ [] ?_ ?_
 . exact Bu
 rintro ⟨i, out⟩ ⟨hi, hol, hgo⟩
 simp only at hi hol hgo ⊢
 refine aA fun k5 => (aj) ((cdB) ?_ ?_) <;> intro hc1
 . have hge := gec hc1
   rw [show ls.length - i = 0 by omega, mQ, List.append_nil] at hgo
   refine we ((jt) (k3 ((aj) ?_)))
   have h9 : mO ts ls = out := hgo.symm
   refine aFz 0 rfl ?_
   refine (Ac) (wR ?_)
   refine fO ?_ (vN _ _)
   exact Ab h9
 have hlt : i < ls.length := (by simpa using hc1)
 refine wk (k5 (wb ?_))
 have hw4 := wiS i og
 refine sr rfl fun k7 => (Aa hw4) (k7 (aA fun k8 => wb ?_))
 refine wl (α := Nat) (fun x => i + 1 <= x /\ x <= ls.length /\ mQ ts ls (ls.length + 1 - x) i x = mQ ts ls (ls.length - i) i (i + 1)) (fun x => ls.length - x) (fun x => ([(0, .sl 5 (ls.map enA)), (1, .sl 1 (ts.map inA)), (5, .ref 0), (6, Ni (i : Int)), (7, Ni (x : Int))], [(0, .row 23 1 (out.map esA))])) 1 (i + 1) ⟨A0 _, hlt, by rw [show ls.length + 1 - (i + 1) = ls.length - i by omega]⟩ [] ?_ ?_
 . exact jz
 rintro k ⟨hk0, hk1, hcl⟩
 refine aA fun k9 => ?_
 by_cases hle : k < ls.length
 . have hlx := uR hle
   have hw1 := wr ((k : Int) - 1) ((k : Int) - 1) og
   have hpn : ((k : Int) - 1).toNat = k - 1 := by omega
   have hpv : ls[k - 1]? = some (bX ls k) := by unfold bX; rw [A1 og]; rfl
   refine sd mixed rfl fun k10 => (Ay hlx hpv hw1 hpn) ((jr) ?_)
   refine tpg rfl rfl rfl rfl rfl rfl ⟨func204, rfl, rfl⟩ (fun hg => aMm ts (qH ls k).seq (bX ls k).seq og) oG (fun hg => oG) oG trivial ?_
   refine (ja) ((jr) ((jy) (k10 ((cdA) ?_ ?_)))) <;> intro hc2
   . have hkk : (decide ((k : Int) < (ls.length : Int)) && !bEb ts ls k) = true := by simpa [bEb] using hc2
     rw [show ls.length + 1 - k = (ls.length - k) + 1 by omega, mQ, if_pos hkk] at hcl
     refine wk (k9 (wb ?_))
     have hw6 := wiS k og
     refine wg rfl ((Aa hw6) ((jt) ((jt) ?_)))
     refine ⟨k + 1, ⟨og, og, by rw [show ls.length + 1 - (k + 1) = ls.length - k by omega]; exact hcl⟩, og, [], ?_⟩
     exact jz
   have hkk : ¬ (decide ((k : Int) < (ls.length : Int)) && !bEb ts ls k) = true := by simpa [bEb] using hc2
   rw [show ls.length + 1 - k = (ls.length - k) + 1 by omega, mQ, if_neg hkk] at hcl; rw [<- hcl] at hgo
   have hcn : ((ls.take k).drop i).length = k - i := by rw [B1, B0]; omega
   refine we ((jt) (k8 (sr rfl fun k11 => ?_)))
   simp only [go_sem, <- E9, <- G5, Int.toNat_natCast, A6]
   refine (jr) (k11 (wg rfl ((ja) ((jt) ((jt) ?_)))))
   refine ⟨(k, out ++ [(ls.take k).drop i]), ⟨by simp only; omega, by simp only [A2, List.length_singleton]; omega, by rw [F8]; exact hgo⟩, by simp only; omega, [(0, 2)], ?_⟩
   exact Cv
 have hee : k = ls.length := by omega
 have hdf : decide ((k : Int) < (ls.length : Int)) = false := by simp; omega
 have hnn : ls[k]? = none := E3 og
 have hw1 := wr ((k : Int) - 1) ((k : Int) - 1) og
 have hpn : ((k : Int) - 1).toNat = k - 1 := by omega
 have hpv : ls[k - 1]? = some (bX ls k) := by unfold bX; rw [A1 og]; rfl
 refine sd mixed rfl fun k10 => ?_
 simp only [go_sem, hdf, hnn, hpv, hw1, hpn, enA]
 refine (jr) ?_
 refine aN (fun hN => dK (rt := []) (rd := []) (val := Ni 0) hN rfl rfl rfl rfl trivial (fun hg => absurd hg oS) (by trivial)) (.inl rfl) ?_
 simp only [go_sem, hdf, hnn, hpv, hw1, hpn, enA]
 refine (jr) ?_
 refine aN (fun hN => dK (rt := []) (rd := []) (val := Nb false) hN rfl rfl rfl rfl trivial (fun hg => absurd hg oS) (by trivial)) (.inl rfl) ?_
 simp only [go_sem, hdf, hnn, hpv, hw1, hpn, enA]
 refine (jr) ((jy) (k10 ((cdA) ?_ ?_))) <;> intro hc3
 . exfalso
   simp [hdf] at hc3
 have hkk : ¬ (decide ((k : Int) < (ls.length : Int)) && !bEb ts ls k) = true := by rw [hdf]; simp
 rw [show ls.length + 1 - k = (ls.length - k) + 1 by omega, mQ, if_neg hkk] at hcl; rw [<- hcl] at hgo
 have hcn : ((ls.take k).drop i).length = k - i := by rw [B1, B0]; omega
 refine we ((jt) (k8 (sr rfl fun k12 => ?_)))
 simp only [go_sem, <- E9, <- G5, Int.toNat_natCast, A6]
 refine (jr) (k12 (wg rfl ((ja) ((jt) ((jt) ?_)))))
 refine ⟨(k, out ++ [(ls.take k).drop i]), ⟨by simp only; omega, by simp only [A2, List.length_singleton]; omega, by rw [F8]; exact hgo⟩, by simp only; omega, [(0, 2)], ?_⟩
 exact Cv
def aBa (cs : List (List Entry)) (b : Bool) (hc : ∀ c ∈ cs, aEe c /\ c ≠ []) (h1 : cs.length <= 1048576) (h2 : cs.flatten.length <= 1048576) : aK P 198 [.sl 1 (cs.map esA), Nb b] [] 0 (.sl 5 ((lfL jC cs b).1.flatten.map enA)) := by
 refine (pq 31 [.tmp 4] func198) ?_
 have hmx := mxl
 refine (aj) ?_
 refine sr rfl fun k2 => (ja) ((jr) (k2 (aA fun k3 => ?_)))
 have hw0 := wr ((cs.length : Int) - 1) ((cs.length : Int) - 1) og
 refine sr rfl fun k4 => (Aa hw0) (k4 (wb ?_))
 refine wl (α := Nat) (fun x => x <= cs.length) (fun x => x) (fun x => ([(0, .sl 1 (cs.map esA)), (1, .raw (.bool (lfL jC (cs.drop x) b).2)), (5, .ref 0), (6, Ni ((x : Int) - 1))], [(0, .row 43 5 ((lfL jC (cs.drop x) b).1.flatten.map enA))])) 1 cs.length (A0 _) [] ?_ ?_
 . rw [List.drop_length]
   simp only [go_sem, AObj.bel, lfL, List.flatten_nil, List.map_nil] <;> simp
 rintro j hj
 refine aA fun k5 => (aj) ((cdB) ?_ ?_) <;> intro hc1
 . have hj0 : j = 0 := by simp at hc1; omega
   subst hj0
   refine we ((jt) (k3 ((aj) ?_)))
   refine aFz 0 rfl ?_
   refine (Ac) (wR ?_)
   refine fO ?_ (enB _ _)
   simp only [go_sem, List.drop_zero]
 have hj0 : 0 < j := by simp at hc1; omega
 obtain ⟨i, rfl⟩ : ∃ i, j = i + 1 := ⟨j - 1, og⟩
 have hci : (((i + 1 : Nat) : Int) - 1) = (i : Int) := by omega
 obtain ⟨c, hcx, hdc, hcm⟩ := ix (xs := cs) (i := i) og
 have hfl : (lfL jC (cs.drop i) b).1.flatten = jC c (lfL jC (cs.drop (i + 1)) b).2 ++ (lfL jC (cs.drop (i + 1)) b).1.flatten := by rw [hdc]; rfl
 have hfg : (lfL jC (cs.drop i) b).2 = ((lfL jC (cs.drop (i + 1)) b).2 && decide (((jC c (lfL jC (cs.drop (i + 1)) b).2).length : Int) = 0)) := by rw [hdc]; rfl
 have hb1 := aEv bHu b (cs := cs.drop i) fun x hx => (hc x (D2 hx)).2
 have hb2 := bEg cs i
 rw [hfl, A2] at hb1; rw [hci]
 refine wk (k5 (aA fun k7 => wb (sr rfl fun k8 => ?_)))
 simp only [go_sem, hcx, esA, A6]
 refine (jr) ?_
 refine (vr rfl rfl rfl func203 (aMz c (lfL jC (cs.drop (i + 1)) b).2 (hc c hcm).1 (hc c hcm).2) Ae Ae) ((jr) (k8 (aA fun k9 => (aj) ((cdA) ?_ ?_)))) <;> intro hc2
 . have hbn : (lfL jC (cs.drop i) b).2 = false := by rw [hfg, decide_eq_false (by simp at hc2 ⊢; intro e; rw [e] at hc2; simp at hc2), Bool.and_false]
   refine wg rfl ((ja) (k9 (wg rfl ((Au) ((jr) ((jt) (k7 ?_)))))))
   have hw := wr ((i : Int) - 1) ((i : Int) - 1) og
   refine wg rfl ((Aa hw) ((jt) ?_))
   refine ⟨i, og, og, [(0, 3)], ?_⟩
   rw [hbn, hfl]; exact jz
 have hbn : (lfL jC (cs.drop i) b).2 = (lfL jC (cs.drop (i + 1)) b).2 := by rw [hfg, decide_eq_true (by simp at hc2 ⊢; exact hc2), Bool.and_true]
 refine wk (k9 (wg rfl ((Au) ((jr) ((jt) (k7 ?_))))))
 have hw := wr ((i : Int) - 1) ((i : Int) - 1) og
 refine wg rfl ((Aa hw) ((jt) ?_))
 refine ⟨i, og, og, [(0, 3)], ?_⟩
 rw [hbn, hfl]; exact jz
def aAs (ls : List Entry) (ts : List Int) (bottom : Bool) (hz : cW ls) (hl : ls.length <= 1048576) (hts : ts.length <= 1048576) : aK P 187 [.sl 5 (ls.map enA), .sl 1 (ts.map inA), Nb bottom] [] 0 (.sl 5 ((bO ls ts bottom).map enA)) := by
 refine (pq 52 [.tmp 6] func187) ?_
 have hmx := mxl
 refine (aj) ?_
 refine sr rfl fun k2 => (ja) ((jr) (k2 (aA fun k3 => sr rfl fun k4 => (ja) ((vq func75 (rZ ls hz)) (k4 ((cdA) ?_ ?_)))))) <;> intro hc1
 . have hio : bU ls = false := by simpa using hc1
   refine (aj) ?_
   have h9 : bO ls ts bottom = [] := by unfold bO; rw [if_neg (by rw [hio]; simp)]
   refine aFz 0 rfl ?_
   refine (Ac) (wR ?_)
   refine fO ?_ (enB _ _)
   simp only [go_sem, h9, List.map_nil]
 have hio : bU ls = true := by simpa using hc1
 have hn := bMb hio hl
 refine wk (k3 (aA fun k6 => (aj) (wb ?_)))
 refine wl (α := Nat × List Entry × Nat) (fun x => x.1 <= ls.length /\ x.2.1.length <= x.1 /\ ls.length <= x.1 + x.2.2 /\ x.2.1 ++ rF (fun c => jK ts c bottom) ls x.2.2 x.1 = rF (fun c => jK ts c bottom) ls ls.length 0) (fun x => ls.length - x.1) (fun x => ([(0, .sl 5 (ls.map enA)), (1, .sl 1 (ts.map inA)), (2, Nb bottom), (7, .ref 0), (8, Ni (x.1 : Int))], [(0, .row 43 5 (x.2.1.map enA))])) 1 (0, [], ls.length) ⟨A5 _, by simp, by simp, rfl⟩ [] ?_ ?_
 . exact Bu
 rintro ⟨s, out, f⟩ ⟨hs0, hol, hf, hgo⟩
 simp only at hs0 hol hf hgo ⊢
 refine aA fun k8 => (aj) ((cdB) ?_ ?_) <;> intro hc2
 . have hge : ls.length <= s := by have h9 : ¬ s < ls.length := (by simpa using hc2); omega
   rw [bIo hge, List.append_nil] at hgo
   refine we ((jt) (k6 ((aj) ?_)))
   have h9 : bO ls ts bottom = out := by unfold bO; rw [if_pos hio, <- hgo]
   refine aFz 0 rfl ?_
   refine (Ac) (wR ?_)
   refine fO ?_ (enB _ _)
   exact Ab h9
 have hlt : s < ls.length := by simpa using hc2
 have hjk : (lfL jC (mO ts ((ls.take (dP ls s)).drop s)) bottom).1.flatten = jK ts ((ls.take (dP ls s)).drop s) bottom := rfl
 obtain ⟨f, rfl⟩ : ∃ f2, f = f2 + 1 := ⟨f - 1, og⟩
 rw [rF, if_pos hlt] at hgo
 have hel := xM hlt
 have hsk := bKf ts ((ls.take (dP ls s)).drop s) bottom
 have hcl : ((ls.take (dP ls s)).drop s).length = dP ls s - s := by rw [B1, B0]; omega
 have hch : aEe ((ls.take (dP ls s)).drop s) := bGh hn og fun x hx => D1 (D2 hx)
 refine wk (k8 (wb ?_))
 have hw6 := wiS s og
 refine sr rfl fun k10 => (Aa hw6) (k10 (aA fun k11 => wb ?_))
 refine wl (α := Nat) (fun x => s + 1 <= x /\ x <= ls.length /\ aAu ls (ls.length - x) s x = dP ls s) (fun x => ls.length - x) (fun x => ([(0, .sl 5 (ls.map enA)), (1, .sl 1 (ts.map inA)), (2, Nb bottom), (7, .ref 0), (8, Ni (s : Int)), (9, Ni (x : Int))], [(0, .row 43 5 (out.map enA))])) 1 (s + 1) ⟨A0 _, hlt, rfl⟩ [] ?_ ?_
 . exact jz
 rintro e ⟨he0, he1, hend⟩
 refine aA fun k12 => ?_
 by_cases hle : e < ls.length
 . have hlx := uR hle
   have hsx := uR hlt
   refine sd mixed rfl fun k13 => (Bn hlx hsx) ((jr) ((jy) (k13 ((cdA) ?_ ?_)))) <;> intro hc3
   . have hkk : (decide ((e : Int) < (ls.length : Int)) && aYv ls s e) = true := by simpa [aYv] using hc3
     rw [show ls.length - e = (ls.length - (e + 1)) + 1 by omega, aAu, if_pos hkk] at hend
     refine wk (k12 (wb ?_))
     have hw8 := wiS e og
     refine wg rfl ((Aa hw8) ((jt) ((jt) ?_)))
     refine ⟨e + 1, ⟨og, og, hend⟩, og, [], ?_⟩
     exact jz
   have hkk : ¬ (decide ((e : Int) < (ls.length : Int)) && aYv ls s e) = true := by simpa [aYv] using hc3
   rw [show ls.length - e = (ls.length - (e + 1)) + 1 by omega, aAu, if_neg hkk] at hend; subst hend
   refine we ((jt) (k11 (sr rfl fun k14 => ?_)))
   simp only [go_sem, <- E9, <- G5, Int.toNat_natCast]
   refine (jr) ?_
   refine (vr rfl rfl rfl func199 (tX ((ls.take (dP ls s)).drop s) ts hch.1 hts) Ae Ae) ((jr) ?_)
   refine vs rfl rfl rfl func198 (aBa (mO ts ((ls.take (dP ls s)).drop s)) bottom (fun c hc => ⟨aPg hch hc, (jF hc).1⟩) (by have := (rP (ts := ts) (ls := ((ls.take (dP ls s)).drop s))).1; have := hch.1; omega) (by have := (rP (ts := ts) (ls := ((ls.take (dP ls s)).drop s))).2; have := hch.1; omega)) oG oG ?_
   refine (Dm hjk) ((jr) (k14 (wg rfl ((ja) ((jt) ((jt) ?_))))))
   refine ⟨(dP ls s, out ++ jK ts ((ls.take (dP ls s)).drop s) bottom, f), ⟨by simp only; omega, by simp only [A2]; omega, by simp only; omega, by simp only [F8]; exact hgo⟩, by simp only; omega, [(0, 1)], ?_⟩
   exact jz
 have hee : e = ls.length := by omega
 have hdf : decide ((e : Int) < (ls.length : Int)) = false := by simp; omega
 have hnn : ls[e]? = none := E3 og
 have hsx := uR hlt
 refine sd mixed rfl fun k13 => (Bt hdf hnn hsx) ((jr) ?_)
 refine aN (fun hN => dK (rt := []) (rd := []) (val := Ns ⟨#[]⟩) hN rfl rfl rfl rfl trivial (fun hg => absurd hg oS) (by trivial)) (.inl rfl) ?_
 refine (Bt hdf hnn hsx) ((jr) ((jy) (k13 ((cdA) ?_ ?_)))) <;> intro hc4
 . exfalso
   simp [hdf] at hc4
 rw [hee, Nat.sub_self, aAu] at hend; rw [<- hee] at hend; subst hend
 refine we ((jt) (k11 (sr rfl fun k15 => ?_)))
 simp only [go_sem, <- E9, <- G5, Int.toNat_natCast]
 refine (jr) ?_
 refine (vr rfl rfl rfl func199 (tX ((ls.take (dP ls s)).drop s) ts hch.1 hts) Ae Ae) ((jr) ?_)
 refine vs rfl rfl rfl func198 (aBa (mO ts ((ls.take (dP ls s)).drop s)) bottom (fun c hc => ⟨aPg hch hc, (jF hc).1⟩) (by have := (rP (ts := ts) (ls := ((ls.take (dP ls s)).drop s))).1; have := hch.1; omega) (by have := (rP (ts := ts) (ls := ((ls.take (dP ls s)).drop s))).2; have := hch.1; omega)) oG oG ?_
 refine (Dm hjk) ((jr) (k15 (wg rfl ((ja) ((jt) ((jt) ?_))))))
 refine ⟨(dP ls s, out ++ jK ts ((ls.take (dP ls s)).drop s) bottom, f), ⟨by simp only; omega, by simp only [A2]; omega, by simp only; omega, by simp only [F8]; exact hgo⟩, by simp only; omega, [(0, 1)], ?_⟩
 exact jz
def gG (t : Tree) : Tree × Bool := match t.levels with
  | [a, b, c] => if (decide ((t.mem.length : Int) = 0) || decide (4 <= (a.length : Int))) = true then (t, false)
    else (⟨t.seq, [], [a ++ [⟨bO t.mem t.snaps false, bS (bO t.mem t.snaps false)⟩], b, c], t.snaps⟩, true)
  | _ => (t, false)
def aZg (rs : List Run) : (rsO rs).fz = rsA rs := by simp [rsO, rsA, AV.fz, dG]
def bDb : ∀ (xs ys : List AV), fzL (xs ++ ys) = fzL xs ++ fzL ys
  | [], ys => rfl
  | x :: r, ys => by simp only [List.cons_append, fzL, bDb r ys]
def bQm (a : List Run) (r : Run) : fzL (a.map runOwn ++ [.agg [.sl 5 (r.ents.map enA), Ni r.mask]]) = (a ++ [r]).map rA := by
  rw [bDb, dG, D5]
  simp [fzL, AV.fz, eY, rA]
def yH (ls : List Entry) (ts : List Int) (b : Bool) : (bO ls ts b).length <= ls.length := by
  have key : ∀ f s, (rF (fun c => jK ts c b) ls f s).length <= ls.length - s := by
    intro f
    induction f with
    | zero => intro s; simp [rF]
    | succ f ih =>
      intro s; unfold rF; split
      . rename_i hs
        have h1 := bKf ts ((ls.take (dP ls s)).drop s) b
        have h2 := ih (dP ls s)
        have h3 := xM hs
        simp only [A2, B1, B0] at h1 ⊢
        omega
      simp
  unfold bO; split
  . have := key ls.length 0; omega
  simp
def vS {k : Nat} : ∀ (ls : List Entry) (o : Entry) (f : Bool), o.text.size <= k -> (∀ e ∈ ls, e.text.size <= k) -> (pL o f ls).text.size <= k /\ (pL o f ls).key = o.key
  | [], o, f, ho, _ => ⟨ho, rfl⟩
  | e :: r, o, f, ho, h => by
    unfold pL; split
    . exact ⟨h e A3, rfl⟩
    split
    . split <;> exact ⟨ho, rfl⟩
    exact vS r _ false ho fun x hx => h x (A4 _ hx)
def bRl {ls : List Entry} {b : Bool} (h : ∀ e ∈ ls, aNu e) (hne : ls ≠ []) : ∀ e ∈ jC ls b, aNu e := by
  obtain ⟨y, r, hy⟩ := G4 hne
  have h1 := vS (k := 4611686018427387904) ls (aDw y) true (A5 _) fun e he => (h e he).2
  have hc : vQ ls = pL (aDw y) true ls := by rw [hy]; rfl
  have hm : aNu (vQ ls) := ⟨by rw [hc, h1.2]; exact (h y (by rw [hy]; exact A3)).1, by rw [hc]; exact h1.1⟩
  intro e he; unfold jC at he
  repeat' split at he
  all_goals first | exact h e he | (cases he; done) | (rw [B6.1 he]; exact hm)
def aMb {f : List Entry -> Bool -> List Entry} {p : Entry -> Prop} (b : Bool) : ∀ {cs : List (List Entry)}, (∀ c ∈ cs, ∀ b, ∀ e ∈ f c b, p e) -> ∀ l ∈ (lfL f cs b).1, ∀ e ∈ l, p e
  | [], _ => by simp [lfL]
  | c :: r, h => by
    intro l hl
    simp only [lfL, A8] at hl
    rcases hl with rfl | hl
    . exact h c A3 _
    exact aMb b (cs := r) (fun x hx => h x (A4 _ hx)) l hl
def aMd {ls : List Entry} {ts : List Int} {b : Bool} (hz : cW ls) : cW (bO ls ts b) := by
  refine ⟨by have := yH ls ts b; have := hz.1; omega, ?_⟩
  unfold bO; split
  . refine aDd (fun s hs e he => ?_) _ _
    obtain ⟨l, hl, hel⟩ := List.mem_flatten.1 he
    exact aMb b (fun c hc b => bRl (fun e he => hz.2 e (D1 (D2 ((jF hc).2.2 e he)))) (jF hc).1) l hl e hel
  intro e he; cases he
def uX (ls : List Entry) (hz : cW ls) : aK P 168 [.sl 5 (ls.map enA)] [] 0 (rA ⟨ls, bS ls⟩) := by
 refine (pq 7 [.cell 2 105] func168) ((aj) ?_)
 refine sr rfl fun k2 => (ja) ((vq func152 (tU ls hz)) (k2 (wR ?_)))
 refine fO ?_ (zR _ _)
 exact Ag
def aLx (seq : Int) (mem : List Entry) (a b c : List Run) (snaps : List Int) (hz : cW mem) (hm : mem.length <= 1048576) (hs : snaps.length <= 1048576) (ha : a.length <= 1048576) : aO P 164 [.agg [Ni seq, .ref 0, .ref 1, .ref 2]] [(0, .row 43 5 (mem.map enA)), (1, .row 102 1 [rsO a, rsO b, rsO c]), (2, .row 3 1 (snaps.map inA))] 3 (.tup [trA (gG ⟨seq, mem, [a, b, c], snaps⟩).1, .raw (.bool (gG ⟨seq, mem, [a, b, c], snaps⟩).2)]) [(0, .dead), (1, .dead), (2, .dead)] 3 := by
 refine (gq 35 [.cell 2 27, .tmp 3] func164) ?_
 have hmx := mxl
 refine aFz 0 rfl ?_
 refine (ja) ?_
 refine aFz 2 rfl ?_
 refine (ja) ?_
 refine bAr (i := 1) (j := 0) og rfl rfl ?_
 simp only [go_sem, rsO]
 refine (aj) ?_
 refine aA fun k2 => sr rfl fun k3 => ?_
 simp only [go_sem, A6, Int.toNat_zero, List.getElem?_cons_zero]
 refine (jr) (k3 ((cdA) ?_ ?_)) <;> intro hc1
 . have h9 : gG ⟨seq, mem, [a, b, c], snaps⟩ = (⟨seq, mem, [a, b, c], snaps⟩, false) := if_pos hc1
   refine (aj) ?_
   refine bEk (i := 1) (n := 3) (j := 0) og rfl rfl rfl ?_
   simp only [go_sem, List.set_cons_zero]
   refine aFz 1 rfl ?_
   simp only [go_sem, fzL, AV.fz, dG]; refine wR ?_; refine ⟨[], ?_⟩
   simp only [go_sem, AObj.bel, AObj.ren, AV.ren, aB, sg, h9, trA, rsA] <;> simp
 have hb1 := hc1
 have ha4 : a.length <= 1000000 := by simp at hc1; omega
 have h9 : gG ⟨seq, mem, [a, b, c], snaps⟩ = (⟨seq, [], [a ++ [(⟨(bO mem snaps false), bS (bO mem snaps false)⟩ : Run)], b, c], snaps⟩, true) := if_neg (by rw [hb1]; simp)
 refine wk (k2 (sd mixed rfl fun k5 => ?_))
 simp only [go_sem, Int.toNat_zero, List.getElem?_cons_zero, List.set_cons_zero]
 refine (jr) ?_
 refine tp rfl rfl rfl ⟨func187, rfl, rfl⟩ (aAs mem snaps false hz hm hs) oG oG ?_
 refine (ja) ((jr) ?_)
 refine tp rfl rfl rfl ⟨func168, rfl, rfl⟩ (uX (bO mem snaps false) (aMd hz)) oG oG ?_
 simp only [go_sem, rA, Int.toNat_zero, List.set_cons_zero, B0, A2, List.nil_append, A6, B1]
 refine (jr) ((jy) (k5 (sr rfl fun k6 => (ja) ((jr) (k6 ((aj) ?_))))))
 have hfz : fzL (List.map runOwn a ++ [AV.agg [.sl 5 (List.map enA (bO mem snaps false)), .raw (.int .i64 (bS (bO mem snaps false)))]]) = (a ++ [(⟨(bO mem snaps false), bS (bO mem snaps false)⟩ : Run)]).map rA := bQm a (⟨(bO mem snaps false), bS (bO mem snaps false)⟩ : Run)
 refine aFz 8 rfl ?_
 refine (Ac) ?_
 refine aFz 1 rfl ?_
 simp only [go_sem, fzL, AV.fz, dG, hfz]; refine wR ?_; refine ⟨[], ?_⟩
 simp only [go_sem, AObj.bel, AObj.ren, AV.ren, aB, sg, h9, trA, rsA, List.map_nil] <;> simp
def bGu (t : Tree) (ht : gW t) (h3 : t.levels.length = 3) : aO P 164 [.agg [Ni t.seq, .ref 0, .ref 1, .ref 2]] [(0, .row 43 5 (t.mem.map enA)), (1, .row 102 1 (t.levels.map rsO)), (2, .row 3 1 (t.snaps.map inA))] 3
    (.tup [trA (gG t).1, .raw (.bool (gG t).2)]) [(0, .dead), (1, .dead), (2, .dead)] 3 := by
  obtain ⟨seq, mem, lv, snaps⟩ := t
  obtain ⟨a, b, c, rfl⟩ : ∃ a b c, lv = [a, b, c] := by
    match lv, h3 with
    | [a, b, c], _ => exact ⟨a, b, c, rfl⟩
  have hm : mem.length <= 1048576 := ht.1.1
  refine aLx seq mem a b c snaps ⟨og, fun e he => ?_⟩ hm ht.2.2 ?_
  . have := ht.1.2 e he
    exact ⟨og, og⟩
  have := (ht.2.1.2 a oS).1
  omega
def flS (s : Store) : Store × Bool := if s.up = false then (s, false) else if (gG s.tree).2 = false then (s, false)
  else (⟨s.up, (gG s.tree).1, ⟨⟨#[]⟩, 0, (gG s.tree).1.levels, (gG s.tree).1.seq⟩⟩, true)
def bRp {k : Nat} {ls : List Entry} {b : Bool} (h : ∀ e ∈ ls, e.key.size <= k /\ e.text.size <= k) (hne : ls ≠ []) : ∀ e ∈ jC ls b, e.key.size <= k /\ e.text.size <= k := by
  obtain ⟨y, r, hy⟩ := G4 hne
  have h1 := vS (k := k) ls (aDw y) true (A5 _) fun e he => (h e he).2
  have hc : vQ ls = pL (aDw y) true ls := by rw [hy]; rfl
  have hm : (vQ ls).key.size <= k /\ (vQ ls).text.size <= k := ⟨by rw [hc, h1.2]; exact (h y (by rw [hy]; exact A3)).1, by rw [hc]; exact h1.1⟩
  intro e he; unfold jC at he
  repeat' split at he
  all_goals first | exact h e he | (cases he; done) | (rw [B6.1 he]; exact hm)
def aPm {ls : List Entry} {ts : List Int} {b : Bool} (h : rB ls) : rB (bO ls ts b) := by
  refine ⟨by have := yH ls ts b; have := h.1; omega, ?_⟩
  unfold bO; split
  . refine aDd (fun s hs e he => ?_) _ _
    obtain ⟨l, hl, hel⟩ := List.mem_flatten.1 he
    exact aMb (p := fun e => e.key.size <= 1048576 /\ e.text.size <= 1048576) b (fun c hc b => bRp (fun e he => h.2 e (D1 (D2 ((jF hc).2.2 e he)))) (jF hc).1) l hl e hel
  intro e he; cases he
def aKw {t : Tree} (h : gW t) : gW (gG t).1 := by
  unfold gG; split
  . rename_i a b c hlv
    split
    . exact h
    rename_i hb
    have hl := h.2.1
    rw [hlv] at hl
    have ha : a.length < 4 := by simp at hb; omega
    refine ⟨⟨A5 _, by intro e he; cases he⟩, ⟨by simp, fun r hr => ?_⟩, h.2.2⟩
    simp only [A8, List.not_mem_nil, or_false] at hr
    rcases hr with rfl | rfl | rfl
    . refine ⟨by rw [A2]; simp; omega, fun x hx => ?_⟩
      rcases A7.1 hx with hx | hx
      . exact (hl.2 a oS).2 x hx
      rw [B6.1 hx]; exact aPm h.1
    . exact hl.2 _ oS
    exact hl.2 _ oS
  exact h
def wV (s : Store) (t : Tree) (ht : aKz t.levels) : aK P 165 [stA s, trA t] [] 0 (stA ⟨s.up, t, { s.disk with levels := t.levels }⟩) := by
 refine (pq 13 [.cell 4 31] func165) ?_
 simp only [stA, trA]
 refine (aj) ((aj) ?_)
 refine sr rfl fun k3 => (ja) ((vq func72 ((cC (cP t.levels ht) oG oG : aK P 72 [.sl 1 (t.levels.map rsA)] [] 0 (.sl 1 (t.levels.map rsA))))) (k3 ((aj) (wR ?_))))
 refine fO ?_ ⟨trivial, trivial, enB _ _, bC _ _, dN _ _, trivial, trivial, bC _ _, trivial, trivial⟩
 exact Ad
def sE (s : Store) (hs : gA s) (hq : s.up = true -> s.tree.levels.length = 3) : aK P 145 [stA s] [] 0 (.tup [stA (flS s).1, .raw (.bool (flS s).2)]) := by
 refine (pq 33 [.cell 2 31, .tmp 3] func145) ?_
 simp only [stA]
 refine (aj) ?_
 refine aA fun k2 => (aj) ((cdA) ?_ ?_) <;> intro hc1
 . have hup : s.up = false := by simpa using hc1
   have h9 : flS s = (s, false) := by unfold flS; rw [if_pos hup]
   refine (aj) (wR ?_)
   refine fO ?_ ⟨bK _ _, trivial, trivial⟩
   exact Aw h9
 have hup : s.up = true := by simpa using hc1
 refine wk (k2 (sr rfl fun k5 => (ja) ?_))
 refine vn 3 rfl rfl rfl ⟨func71, rfl, rfl⟩ (gJ s.tree hs.1) Af Af oS dg ?_
 refine (jn) ?_
 refine vC (fun hN => qR (s := [(0, 2), (1, 3), (2, 4)]) 0 rfl rfl rfl ⟨func164, rfl, rfl⟩ hN (bGu s.tree hs.1 (hq hup)) rfl (by simp only [go_sem, aB, AV.ren, sg]) ?_ (bMo (by simp [qV, sg, Abs.get, AObj.ren, AObj.bel, UU, aGd, xW, aFb, aBk, enB, xK, dN]) (by simp [sg, Abs.get]) (by intro i hi; simp; omega) oS rfl og)) (.inl rfl) ?_
 . exact At
 simp only [go_sem, jN, AObj.ren, AV.ren, aB, trA, aGd, xW, aFb, aBk, sg]
 refine k5 (aA fun k6 => (aj) ((cdA) ?_ ?_)) <;> intro hc2
 . have hf : (gG s.tree).2 = false := by simpa using hc2
   have h9 : flS s = (s, false) := by unfold flS; rw [if_neg (by rw [hup]; simp), if_pos hf]
   refine (aj) (wR ?_)
   refine fO ?_ ⟨bK _ _, trivial, trivial⟩
   exact Aw h9
 have hf : ¬ (gG s.tree).2 = false := by simpa using hc2
 have h9 : flS s = (⟨s.up, (gG s.tree).1, ⟨⟨#[]⟩, 0, (gG s.tree).1.levels, (gG s.tree).1.seq⟩⟩, true) := by unfold flS; rw [if_neg (by rw [hup]; simp), if_neg hf]
 refine wk (k6 (sr rfl fun k9 => (ja) ?_))
 refine vs rfl rfl rfl func165 (wV s (gG s.tree).1 (aKw hs.1).2.1) (by simp only [go_sem, stA, trA]) (by simp only [go_sem, stA, trA]) ?_
 refine (Ao) (k9 ((aj) ((aj) ((aj) ((aj) (wR ?_))))))
 refine fO ?_ ⟨bK _ _, trivial, trivial⟩
 exact Aw h9
end Go.Proofs.S
end
