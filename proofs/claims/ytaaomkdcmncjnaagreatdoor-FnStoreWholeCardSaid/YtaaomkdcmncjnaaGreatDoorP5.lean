/-
  The abstract layer, the walks and the plain laws that the claim leans on, part 5 of 6 (working texts S30 to S84). It proves lemmas alone; no condition of its own.
-/
import Derived.Test.YtaaomkdcmncjnaaGreatDoorP4
import Derived.ProofKit
import Derived.Test.YtaaomkdcmncjnaaGreatDoorRows
import Derived.LaidLaws
import Derived.LaidHandle
import Derived.Stop.Joined
import Derived.Lay
import Derived.MakeChecks
import Derived.WalkKit
import Derived.Laws.CopyRow
set_option linter.all false
set_option maxRecDepth 20000
section
open Go Go.Abs Go.Proofs Go.Proofs.Tryz
namespace Go.Proofs.S
section
variable {G A : Prop} {s : ByteArray} {a : Nat}
abbrev rdr (s : ByteArray) (a : Nat) : AObj := .cells 65 [.raw (.string s), .raw (.int .i64 (a : Int))]
def Df (h : G := by simp only [go_sem, AObj.bel, AObj.ren, AV.ren, Int.natCast_zero, List.map_nil, rdr, aB, sg] <;> simp) : G := h
def Cj (e : A) (h : A -> G := by intro e; simp only [go_sem, e, AObj.bel, AObj.ren, AV.ren, enA, rdr, aB, sg, iO] <;> simp) : G := h e
def Bw (e : A) (h : A -> G := by intro e; simp only [go_sem, e, AObj.bel, AObj.ren, AV.ren, List.map_nil, rdr, aB, sg] <;> simp) : G := h e
def Bv {R G : Prop} (h : R -> G := by intro k; simp only [go_sem, AObj.ren, AV.ren, Nat.add_zero, A0, Nat.sub_self, rdr, aB, sg, shift]; exact k) : R -> G := h
def Bu (e : A) (h : A -> G := by intro e; simp only [go_sem, e, AObj.bel, AObj.ren, AV.ren, rdr, aB, sg] <;> simp) : G := h e
def Bj (h : G := by simp only [go_sem, rdr]) : G := h
def Bc (h : G := by simp only [go_sem, AObj.bel, rdr] <;> simp) : G := h
def mE (s : ByteArray) (a : Nat) : ByteArray := s.extract a (min s.size (a + 9))
def aBb (s : ByteArray) (a : Nat) : Int := Lib.indexByte (mE s a).data.toList 32
def wI (s : ByteArray) (a : Nat) : ByteArray × Bool × Nat := if aBb s a < 0 then (⟨#[]⟩, false, a) else ((mE s a).extract 0 (aBb s a).toNat, true, a + ((aBb s a).toNat + 1))
def nI (s : ByteArray) (a : Nat) : Int × Bool × Nat := if (wI s a).2.1 = true then ((iK (wI s a).1).1, (iK (wI s a).1).2, (wI s a).2.2) else (0, false, (wI s a).2.2)
def tI (s : ByteArray) (a : Nat) (n : Int) : ByteArray × Bool × Nat := if n < 0 ∨ (s.size : Int) - a < n then (⟨#[]⟩, false, a) else (s.extract a (a + n.toNat), true, a + n.toNat)
def aCn : ∀ (l : List UInt8) (c : UInt8), Lib.indexByte l c < l.length /\ -1 <= Lib.indexByte l c
  | [], c => by simp [Lib.indexByte]
  | b :: l, c => by
    have ih := aCn l c
    unfold Lib.indexByte; simp only [C5]; split
    . omega
    split <;> omega
def bBp (ha : a <= s.size) : aBb s a < (min s.size (a + 9) - a : Nat) /\ -1 <= aBb s a := by
  have h := aCn (mE s a).data.toList 32
  have h2 : (mE s a).data.toList.length = min s.size (a + 9) - a := by
    rw [Array.length_toList]
    exact iI s a _ og
  rw [h2] at h; exact h
def aPn (ha : a <= s.size) : a <= (wI s a).2.2 /\ (wI s a).2.2 <= s.size /\ (wI s a).1.size <= 8 /\ ((wI s a).2.1 = true -> a < (wI s a).2.2) := by
  have h := bBp ha
  unfold wI; split
  . exact ⟨A0 _, ha, A3 _, fun h => by cases h⟩
  simp only
  refine ⟨og, og, ?_, fun _ => by omega⟩
  rw [ByteArray.size_extract]; omega
def bBz (ha : a <= s.size) : a <= (nI s a).2.2 /\ (nI s a).2.2 <= s.size /\ ((nI s a).2.1 = true -> a < (nI s a).2.2) := by
  have h := aPn ha
  unfold nI; split
  . rename_i hw; exact ⟨h.1, h.2.1, fun _ => h.2.2.2 hw⟩
  exact ⟨h.1, h.2.1, fun h => by cases h⟩
def aWg {n : Int} (ha : a <= s.size) : a <= (tI s a n).2.2 /\ (tI s a n).2.2 <= s.size := by
  unfold tI; split
  . exact ⟨A0 _, ha⟩
  simp only; omega
def iN (s : ByteArray) (a : Nat) (ha : a <= s.size) (hs : s.size <= 1048576) : aP P 126 [.ptr 0 0] [(0, rdr s a)] 1 (.tup [.raw (.string (wI s a).1), .raw (.bool (wI s a).2.1)]) [(0, rdr s (wI s a).2.2)] 1 := by
 refine (gq 43 [.tmp 2, .tmp 3] func126) ?_
 simp only [rdr]
 refine (aj) ?_
 have hw1 := wr ((a : Int) + 8) ((a : Int) + 8) og
 have hw2 := wr ((a : Int) + 8 + 1) ((a : Int) + 8 + 1) og
 have hmn : (min (s.size : Int) ((a : Int) + 8 + 1)).toNat = min s.size (a + 9) := by omega
 have hah : s.extract a (min s.size (a + 9)) = mE s a := rfl
 refine sd mixed rfl fun k2 => (Bk hw1 hw2 hmn hah) ((jr) ((jy) (k2 ?_)))
 have hix : Lib.indexByte (mE s a).data.toList (Int.toNat 32).toUInt8 = aBb s a := rfl
 have hsz := bBp ha
 have hes : (mE s a).size = min s.size (a + 9) - a := iI s a _ og
 refine sr rfl fun k3 => (ja) ?_
 refine vs rfl rfl rfl func155 (zT (mE s a) 32) oG oG ?_
 refine (Aa hix) (k3 (aA fun k4 => (aj) ((cdA) ?_ ?_))) <;> intro hc1
 . have h9 : wI s a = (⟨#[]⟩, false, a) := by unfold wI; rw [if_pos (by simpa using hc1)]
   refine (aj) (wR ?_)
   refine ⟨[], ?_⟩
   exact Bu h9
 have hc9 : ¬ aBb s a < 0 := by simpa using hc1
 have h9 : wI s a = ((mE s a).extract 0 (aBb s a).toNat, true, a + ((aBb s a).toNat + 1)) := by unfold wI; rw [if_neg hc9]
 refine wk (k4 ?_)
 have hw5 := wr (aBb s a + 1) (aBb s a + 1) og
 have hw6 := wr ((a : Int) + (aBb s a + 1)) (((a + ((aBb s a).toNat + 1) : Nat) : Int)) og
 refine sr rfl fun k7 => (As hw5 hw6) (k7 (sr rfl fun k8 => (ja) ((jr) (k8 (wR ?_)))))
 refine ⟨[], ?_⟩
 exact Bu h9
def aVc (s : ByteArray) (a : Nat) (ha : a <= s.size) (hs : s.size <= 1048576) (hat : (iK (wI s a).1).2 = true) : aP P 86 [.ptr 0 0] [(0, rdr s a)] 1 (.tup [.raw (.int .i64 (nI s a).1), .raw (.bool (nI s a).2.1)]) [(0, rdr s (nI s a).2.2)] 1 := by
 refine (gq 23 [.tmp 2, .tmp 3] func86) ?_
 simp only [rdr]
 have hl := aPn ha
 refine (aj) ?_
 refine sr rfl fun k2 => (ja) ?_
 refine vg [] 0 rfl rfl rfl ⟨func126, rfl, rfl⟩ (iN s a ha hs) rfl oG oG (mT (H1 := []) (.inl rfl) Bj Bc) (.inl rfl) ?_
 refine (Bv) (k2 (aA fun k3 => (aj) ((cdA) ?_ ?_))) <;> intro hc1
 . have hw : (wI s a).2.1 = false := by simpa using hc1
   have h9 : nI s a = (0, false, (wI s a).2.2) := by unfold nI; rw [if_neg (by rw [hw]; simp)]
   refine (aj) (wR ?_)
   refine ⟨[], ?_⟩
   exact Bu h9
 have hw : (wI s a).2.1 = true := by simpa using hc1
 have h9 : nI s a = ((iK (wI s a).1).1, (iK (wI s a).1).2, (wI s a).2.2) := by unfold nI; rw [if_pos hw]
 refine wk (k3 (sr rfl fun k6 => (ja) ((vq func127 (bEr (wI s a).1 og hat)) (k6 (sd mixed rfl fun k7 => (ja) ((jy) (k7 (wR ?_))))))))
 refine ⟨[], ?_⟩
 simp only [go_sem, AObj.bel, AObj.ren, AV.ren, aB, sg, rdr, h9, hat] <;> simp
def aXg (s : ByteArray) (a : Nat) (ha : a <= s.size) (hs : s.size <= 1048576) (hat : (iK (wI s a).1).2 = false) : aP P 86 [.ptr 0 0] [(0, rdr s a)] 1 (.tup [.raw (.int .i64 (nI s a).1), .raw (.bool (nI s a).2.1)]) [(0, rdr s (nI s a).2.2)] 1 := by
 refine (gq 23 [.tmp 2, .tmp 3] func86) ?_
 simp only [rdr]
 have hl := aPn ha
 refine (aj) ?_
 refine sr rfl fun k2 => (ja) ?_
 refine vg [] 0 rfl rfl rfl ⟨func126, rfl, rfl⟩ (iN s a ha hs) rfl oG oG (mT (H1 := []) (.inl rfl) Bj Bc) (.inl rfl) ?_
 refine (Bv) (k2 (aA fun k3 => (aj) ((cdA) ?_ ?_))) <;> intro hc1
 . have hw : (wI s a).2.1 = false := by simpa using hc1
   have h9 : nI s a = (0, false, (wI s a).2.2) := by unfold nI; rw [if_neg (by rw [hw]; simp)]
   refine (aj) (wR ?_)
   refine ⟨[], ?_⟩
   exact Bu h9
 have hw : (wI s a).2.1 = true := by simpa using hc1
 have h9 : nI s a = ((iK (wI s a).1).1, (iK (wI s a).1).2, (wI s a).2.2) := by unfold nI; rw [if_pos hw]
 refine wk (k3 (sr rfl fun k6 => (ja) ((vq func127 (bDx (wI s a).1 og hat)) (k6 (sd mixed rfl fun k7 => (ja) ((jy) (k7 (wR ?_))))))))
 refine ⟨[], ?_⟩
 simp only [go_sem, AObj.bel, AObj.ren, AV.ren, aB, sg, rdr, h9, hat] <;> simp
def iP (s : ByteArray) (a : Nat) (ha : a <= s.size) (hs : s.size <= 1048576) (n : Int) (h0 : -9223372036854775808 <= n) (h1 : n <= 9223372036854775807) : aP P 87 [.ptr 0 0, Ni n] [(0, rdr s a)] 1 (.tup [.raw (.string (tI s a n).1), .raw (.bool (tI s a n).2.1)]) [(0, rdr s (tI s a n).2.2)] 1 := by
 refine (gq 45 [.tmp 4, .tmp 5] func87) ?_
 simp only [rdr]
 refine (aj) ?_
 refine aA fun k2 => ?_
 have hw1 := wr ((s.size : Int) - (a : Int)) ((s.size : Int) - (a : Int)) og
 refine sd mixed rfl fun k3 => (Aa hw1) ((jy) (k3 ((cdA) ?_ ?_))) <;> intro hc1
 . have h9 : tI s a n = (⟨#[]⟩, false, a) := by unfold tI; rw [if_pos]; simp at hc1; omega
   refine (aj) (wR ?_)
   refine ⟨[], ?_⟩
   exact Bu h9
 have hc9 : 0 <= n /\ n <= (s.size : Int) - a := by simp at hc1; omega
 have h9 : tI s a n = (s.extract a (a + n.toNat), true, a + n.toNat) := by unfold tI; rw [if_neg og]
 have hw3 := wr ((a : Int) + n) (((a + n.toNat : Nat) : Int)) og
 have hw4 := wr (((a + n.toNat : Nat) : Int) - n) ((a : Int)) og
 have hto : ((a + n.toNat : Nat) : Int).toNat = a + n.toNat := by omega
 refine wk (k2 (sr rfl fun k5 => (Aa hw3) (k5 (sd mixed rfl fun k6 => (As hw4 hto) ((jr) ((jy) (k6 (wR ?_))))))))
 refine ⟨[], ?_⟩
 exact Bu h9
def aXj (s : ByteArray) (a : Nat) (ha : a <= s.size) (hs : s.size <= 1048576) : aP P 86 [.ptr 0 0] [(0, rdr s a)] 1 (.tup [.raw (.int .i64 (nI s a).1), .raw (.bool (nI s a).2.1)]) [(0, rdr s (nI s a).2.2)] 1 := by
  cases h : (iK (wI s a).1).2
  . exact aXg s a ha hs h
  exact aVc s a ha hs h
end
def aLl (L : List Int) : List Int := L ++ List.replicate (4 - L.length) 0
def bJs {L : List Int} (h : L.length <= 4) : (aLl L).length = 4 := by
  unfold aLl; rw [A4, List.length_replicate]; omega
def bAe {L : List Int} (h : L.length < 4) (v : Int) : bN ((aLl L).map inA) L.length [Ni v] = (aLl (L ++ [v])).map inA := by
  unfold bN aLl
  obtain ⟨k, hk⟩ : ∃ k, 4 - L.length = k + 1 := ⟨3 - L.length, og⟩
  rw [hk, show 4 - (L ++ [v]).length = k by rw [A4, List.length_singleton]; omega, List.replicate_succ, D9, List.map_cons]
  have e1 : (L.map inA ++ inA 0 :: (List.replicate k 0).map inA).take L.length = L.map inA := by
    rw [List.take_left' oS]
  have e2 : (L.map inA ++ inA 0 :: (List.replicate k 0).map inA).drop (L.length + [AV.raw (Value.int IntKind.i64 v)].length) = (List.replicate k 0).map inA := by
    rw [List.length_singleton, <- List.drop_drop, List.drop_left' oS]; rfl
  rw [e1, e2]
  simp [inA]
def eH (s : ByteArray) : Nat -> Nat -> List Int × Bool × Nat
  | 0, a => ([], true, a)
  | k + 1, a => if (nI s a).2.1 = true then ((nI s a).1 :: (eH s k (nI s a).2.2).1, (eH s k (nI s a).2.2).2) else ([], false, (nI s a).2.2)
def aTu (L : List Int) (r : List Int × Bool × Nat) : List Int × Bool × Nat := (L ++ r.1, r.2)
def bEb {s : ByteArray} {k a : Nat} {L : List Int} (h : (nI s a).2.1 = true) : aTu L (eH s (k + 1) a) = aTu (L ++ [(nI s a).1]) (eH s k (nI s a).2.2) := by
  unfold aTu; rw [eH, if_pos h]
  simp
def bLx {s : ByteArray} {k a : Nat} {L : List Int} (h : (nI s a).2.1 = false) : aTu L (eH s (k + 1) a) = (L, false, (nI s a).2.2) := by
  unfold aTu
  rw [eH, if_neg (by rw [h]; simp)]
  simp
def bGl {s : ByteArray} {a : Nat} {L : List Int} : aTu L (eH s 0 a) = (L, true, a) := by
  unfold aTu eH; simp
def eI (s : ByteArray) (a : Nat) : Entry × Bool × Nat :=
  if (wI s a).2.1 = true then
    (if (eH s 4 (wI s a).2.2).2.1 = true then
      (if (tI s (eH s 4 (wI s a).2.2).2.2 ((eH s 4 (wI s a).2.2).1.getD 3 0)).2.1 = true then
        (⟨(wI s a).1, (eH s 4 (wI s a).2.2).1.getD 0 0, (eH s 4 (wI s a).2.2).1.getD 1 0, (tI s (eH s 4 (wI s a).2.2).2.2 ((eH s 4 (wI s a).2.2).1.getD 3 0)).1, (eH s 4 (wI s a).2.2).1.getD 2 0⟩, true, (tI s (eH s 4 (wI s a).2.2).2.2 ((eH s 4 (wI s a).2.2).1.getD 3 0)).2.2)
      else (iO, false, (tI s (eH s 4 (wI s a).2.2).2.2 ((eH s 4 (wI s a).2.2).1.getD 3 0)).2.2))
    else (iO, false, (eH s 4 (wI s a).2.2).2.2))
  else (iO, false, (wI s a).2.2)
def bIw : P.underlying 154 = some (.array 4 3) := kr
def bHg : (P.info? 3).map (·.size) = some 1 := kr
def aWd (s : ByteArray) : -9223372036854775808 <= (iK s).1 /\ (iK s).1 <= 9223372036854775807 := by
  unfold iK; split
  . rename_i v h
    simp only
    unfold Lib.atoiAll at h; split at h
    . cases h
    simp only at h
    split at h
    . cases h
    . cases h
    rename_i u _
    split at h
    . cases h
    split at h
    . cases h
    rename_i h1 h2
    cases h; split
    . rename_i hn
      have : ¬ 9223372036854775808 < u := fun h => h2 ⟨hn, h⟩
      omega
    rename_i hn
    have : ¬ 9223372036854775808 <= u := fun h => h1 ⟨hn, h⟩
    omega
  . simp only [Lib.atoiSat]; split <;> omega
  simp only; omega
def aWw (s : ByteArray) (a : Nat) : -9223372036854775808 <= (nI s a).1 /\ (nI s a).1 <= 9223372036854775807 := by
  unfold nI; split
  . exact aWd _
  simp only; omega
def aYf {s : ByteArray} : ∀ (k a : Nat), a <= s.size -> a <= (eH s k a).2.2 /\ (eH s k a).2.2 <= s.size
  | 0, a, h => ⟨A0 _, h⟩
  | k + 1, a, h => by
    have h1 := bBz h
    unfold eH; split
    . have := aYf k _ h1.2.1
      simp only; omega
    simp only; omega
def bPx {s : ByteArray} {a : Nat} (ha : a <= s.size) : a <= (eI s a).2.2 /\ (eI s a).2.2 <= s.size /\ ((eI s a).2.1 = true -> a < (eI s a).2.2) := by
  have h1 := aPn ha
  have h2 := aYf 4 _ h1.2.1
  have h3 := aWg (n := (eH s 4 (wI s a).2.2).1.getD 3 0) h2.2
  unfold eI; split
  . rename_i hw
    have := h1.2.2.2 hw
    split
    . split
      . simp only; exact ⟨og, h3.2, fun _ => by omega⟩
      simp only; exact ⟨og, h3.2, fun h => by cases h⟩
    simp only; exact ⟨og, h2.2, fun h => by cases h⟩
  exact ⟨h1.1, h1.2.1, fun h => by cases h⟩
def vS (s : ByteArray) (a : Nat) (ha : a <= s.size) (hs : s.size <= 1048576) : aP P 88 [.ptr 0 0] [(0, rdr s a)] 1 (.tup [enA (eI s a).1, .raw (.bool (eI s a).2.1)]) [(0, rdr s (eI s a).2.2)] 1 := by
 refine (gq 50 [.cell 2 43, .tmp 3] func88) ?_
 simp only [rdr]
 have hl := aPn ha
 have tn3 : (3 : Int).toNat = 3 := rfl
 refine (aj) ?_
 refine sr rfl fun k2 => (ja) ?_
 refine vg [] 0 rfl rfl rfl ⟨func126, rfl, rfl⟩ (iN s a ha hs) rfl oG oG (mT (H1 := []) (.inl rfl) Bj Bc) (.inl rfl) ?_
 refine (Bv) (k2 (aA fun k3 => (aj) ((cdA) ?_ ?_))) <;> intro hc1
 . have hw0 : (wI s a).2.1 = false := by simpa using hc1
   have h9 : eI s a = (iO, false, (wI s a).2.2) := by unfold eI; rw [if_neg (by rw [hw0]; simp)]
   refine (aj) (wR ?_)
   refine ⟨[], ?_⟩
   exact Cj h9
 have hw0 : (wI s a).2.1 = true := by simpa using hc1
 refine wk (k3 ((aj) ?_))
 refine aA fun k7 => (aj) (wb ?_)
 refine wl (α := List Int × Nat) (fun x => x.1.length <= 4 /\ x.2 <= s.size /\ (∀ v ∈ x.1, -9223372036854775808 <= v /\ v <= 9223372036854775807) /\ aTu x.1 (eH s (4 - x.1.length) x.2) = eH s 4 (wI s a).2.2) (fun x => 4 - x.1.length) (fun x => ([(0, .ptr 0 0), (2, .ptr 1 0), (4, .raw (.string (wI s a).1)), (6, .ptr 2 0), (17, Ni (x.1.length : Int))], [(0, rdr s x.2), (1, .cells 43 [Ns ⟨#[]⟩, Ni 0, Ni 0, Ns ⟨#[]⟩, Ni 0]), (2, .cells 154 ((aLl x.1).map inA))])) 3 ([], (wI s a).2.2) ⟨by simp, hl.2.1, by simp, by unfold aTu; simp⟩ [] ?_ ?_
 . simp only [go_sem, AObj.bel, AObj.ren, AV.ren, aB, sg, rdr, Int.natCast_zero] <;> simp [aLl, inA]
 rintro ⟨L, b⟩ ⟨hL, hb, hr, hgo⟩
 simp only at hL hb hr hgo ⊢
 refine (aj) ?_
 refine aA fun k10 => (cdA) ?_ ?_ <;> intro hc2
 . have hlt : L.length < 4 := by simp at hc2; omega
   obtain ⟨k, hk⟩ : ∃ k, 4 - L.length = k + 1 := ⟨3 - L.length, og⟩
   have hsp := bAe hlt (nI s b).1
   have hsp2 : ((aLl L).map inA).take L.length ++ AV.raw (.int .i64 (nI s b).1) :: ((aLl L).map inA).drop (L.length + 1) = (aLl (L ++ [(nI s b).1])).map inA := by simpa [bN] using hsp
   have hpl := bJs hL
   have hle4 : (L.length + 1 <= 4) = True := by simp; omega
   have hn := bBz hb
   refine wk (k10 (aA fun k11 => wb ((aj) ?_)))
   refine sr rfl fun k13 => ?_
   simp only [go_sem, hsp, hpl, hle4]
   refine (jr) ?_
   refine vg [] 0 rfl rfl rfl ⟨func86, rfl, rfl⟩ (aXj s b hb hs) rfl oG oG (mT (H1 := []) (.inl rfl) Bj Bc) (.inl rfl) ?_
   refine (Bv) ((jr) ?_)
   refine vC (fun hN => jM (n := (L.length : Int)) rfl rfl hN bIw bHg rfl rfl og og) (.inl rfl) ?_
   simp only [go_sem, Int.toNat_natCast, Nat.mul_one, C3, hsp, hpl, hle4, A8, hsp, hpl, hle4]
   refine (jr) (k13 ((aj) ((cdA) ?_ ?_))) <;> intro hc3
   . have hok : (nI s b).2.1 = false := by simpa using hc3
     rw [hk, bLx hok] at hgo
     have h9 : eI s a = (iO, false, (nI s b).2.2) := by unfold eI; rw [if_pos hw0, <- hgo, if_neg oS]
     refine (aj) (wR ((Ah) ?_))
     refine ⟨[], ?_⟩
     exact Cj h9
   have hok : (nI s b).2.1 = true := by simpa using hc3
   refine wk ((jt) (k11 ?_))
   have hw := wr ((L.length : Int) + 1) (((L.length + 1 : Nat) : Int)) og
   refine wg rfl ((Aa hw) ((jt) ?_))
   refine ⟨(L ++ [(nI s b).1], (nI s b).2.2), ⟨by simp; omega, hn.2.1, fun v hv => (by rcases A6.1 hv with h | h; exact hr v h; rw [B4.1 h]; exact aWw s b), by rw [A4, List.length_singleton, show 4 - (L.length + 1) = k from by omega]; rw [hk, bEb hok] at hgo; exact hgo⟩, by simp only [A4, List.length_singleton]; omega, [], ?_⟩
   simp only [go_sem, AObj.bel, AObj.ren, AV.ren, aB, sg, rdr] <;> simp
   exact hsp2
 have hl4 : L.length = 4 := by simp at hc2; omega
 rw [hl4, Nat.sub_self, bGl] at hgo
 obtain ⟨p, q, r, t, rfl⟩ : ∃ p q r t, L = [p, q, r, t] := by
   match L, hl4 with
   | [p, q, r, t], _ => exact ⟨p, q, r, t, rfl⟩
 have padL : aLl [p, q, r, t] = [p, q, r, t] := rfl
 obtain ⟨hr1, hr2⟩ := hr t oS
 have hns : (eH s 4 (wI s a).2.2).2.1 = true := by rw [<- hgo]
 refine we ((jt) (k7 (sr rfl fun k16 => (ja) ((jr) ?_))))
 refine vC (fun hN => jM (n := 3) rfl rfl hN bIw bHg rfl rfl dg dg) (.inl rfl) ?_
 refine (Ck) ((jr) ?_)
 refine vg [] 0 rfl rfl rfl ⟨func87, rfl, rfl⟩ (iP s b hb hs t og og) rfl oG oG (mT (H1 := []) (.inl rfl) Bj Bc) (.inl rfl) ?_
 refine (Bv) ((jr) (k16 (aA fun k17 => (aj) ((cdA) ?_ ?_)))) <;> intro hc4
 . have ht0 : (tI s b t).2.1 = false := by simpa using hc4
   have h9 : eI s a = (iO, false, (tI s b t).2.2) := by unfold eI; rw [if_pos hw0, if_pos hns, <- hgo]; exact if_neg (by show ¬ (tI s b t).2.1 = true; rw [ht0]; simp)
   refine (aj) (wR ?_)
   refine ⟨[], ?_⟩
   exact Cj h9
 have ht0 : (tI s b t).2.1 = true := by simpa using hc4
 have h9 : eI s a = (⟨(wI s a).1, p, q, (tI s b t).1, r⟩, true, (tI s b t).2.2) := by unfold eI; rw [if_pos hw0, if_pos hns, <- hgo]; exact if_pos ht0
 refine wk (k17 (sr rfl fun k20 => (ja) ((jr) ?_)))
 refine vC (fun hN => jM (n := 0) rfl rfl hN bIw bHg rfl rfl dg dg) (.inl rfl) ?_
 refine (Ck) ((jr) ?_)
 refine vC (fun hN => jM (n := 1) rfl rfl hN bIw bHg rfl rfl dg dg) (.inl rfl) ?_
 refine (Ck) ((jr) ?_)
 refine vC (fun hN => jM (n := 2) rfl rfl hN bIw bHg rfl rfl dg dg) (.inl rfl) ?_
 refine (Ck) ((jr) (k20 (wR ?_)))
 refine ⟨[], ?_⟩
 exact Cj h9
def aXv (s : ByteArray) (a : Nat) (n : Int) : (tI s a n).1.size <= s.size := by
  unfold tI; split
  . exact A3 _
  show (s.extract a (a + n.toNat)).size <= s.size
  rw [ByteArray.size_extract]; omega
def bKd {s : ByteArray} {a : Nat} (ha : a <= s.size) : (eI s a).1.key.size <= 8 /\ (eI s a).1.text.size <= s.size := by
  have h1 := (aPn ha).2.2.1
  have hz : iO.key.size <= 8 /\ iO.text.size <= s.size := ⟨by decide, A3 _⟩
  unfold eI
  generalize wI s a = w at h1 ⊢
  generalize eH s 4 w.2.2 = r
  have h2 := aXv s r.2.2 (r.1.getD 3 0)
  generalize tI s r.2.2 (r.1.getD 3 0) = t at h2 ⊢
  split
  . split
    . split
      . exact ⟨h1, h2⟩
      exact hz
    exact hz
  exact hz
def jO (s : ByteArray) : Nat -> Nat -> List Entry -> List Entry × Bool
  | 0, _, out => (out, true)
  | f + 1, a, out => if a < s.size then (if (!(eI s a).2.1 || decide (12 <= (out.length : Int))) = true then (out, false) else jO s f (eI s a).2.2 (out ++ [(eI s a).1])) else (out, true)
def aLo {s : ByteArray} {f a : Nat} {out : List Entry} (h : ¬ a < s.size) : jO s f a out = (out, true) := by
  cases f with
  | zero => rfl
  | succ f => rw [jO, if_neg h]
def aZk (s : ByteArray) (a b : Nat) (r : List Entry) : Bool := !isB r || !((fTx r).toList == (s.extract a b).toList)
def bI (s : ByteArray) (a : Nat) : List Entry × Bool × Nat :=
  if (nI s a).2.1 = true then
    (if (tI s (nI s a).2.2 (nI s a).1).2.1 = true then
      (if (tI s (tI s (nI s a).2.2 (nI s a).1).2.2 1).2.1 = true then
        (if (jO (tI s (nI s a).2.2 (nI s a).1).1 (tI s (nI s a).2.2 (nI s a).1).1.size 0 []).2 = true then
          (if aZk s a (tI s (tI s (nI s a).2.2 (nI s a).1).2.2 1).2.2 (jO (tI s (nI s a).2.2 (nI s a).1).1 (tI s (nI s a).2.2 (nI s a).1).1.size 0 []).1 = true then ([], false, (tI s (tI s (nI s a).2.2 (nI s a).1).2.2 1).2.2)
          else ((jO (tI s (nI s a).2.2 (nI s a).1).1 (tI s (nI s a).2.2 (nI s a).1).1.size 0 []).1, true, (tI s (tI s (nI s a).2.2 (nI s a).1).2.2 1).2.2))
        else ([], false, (tI s (tI s (nI s a).2.2 (nI s a).1).2.2 1).2.2))
      else ([], false, (tI s (tI s (nI s a).2.2 (nI s a).1).2.2 1).2.2))
    else ([], false, (tI s (nI s a).2.2 (nI s a).1).2.2))
  else ([], false, (nI s a).2.2)
def aYx {s : ByteArray} {a : Nat} (ha : a <= s.size) : a <= (bI s a).2.2 /\ (bI s a).2.2 <= s.size /\ ((bI s a).2.1 = true -> a < (bI s a).2.2) := by
  have h1 := bBz ha
  have h2 := aWg (n := (nI s a).1) h1.2.1
  have h3 := aWg (n := 1) h2.2
  unfold bI; split
  . rename_i hn
    have := h1.2.2 hn
    split
    . split
      . split
        . split
          . simp only; exact ⟨og, h3.2, fun h => by cases h⟩
          simp only; exact ⟨og, h3.2, fun _ => by omega⟩
        simp only; exact ⟨og, h3.2, fun h => by cases h⟩
      simp only; exact ⟨og, h3.2, fun h => by cases h⟩
    simp only; exact ⟨og, h2.2, fun h => by cases h⟩
  exact ⟨h1.1, h1.2.1, fun h => by cases h⟩
def sP (s : ByteArray) : Nat -> Nat -> List (List Entry) -> List (List Entry) × Nat
  | 0, a, out => (out, a)
  | f + 1, a, out => if (bI s a).2.1 = true then sP s f (bI s a).2.2 (out ++ [(bI s a).1]) else (out, a)
def raI (s : ByteArray) : List (List Entry) × Nat := sP s (s.size + 1) 0 []
def vG (s : ByteArray) (a : Nat) (ha : a <= s.size) (hs : s.size <= 1048576) : aP P 39 [.ptr 0 0] [(0, rdr s a)] 1 (.tup [.sl 5 ((bI s a).1.map enA), .raw (.bool (bI s a).2.1)]) [(0, rdr s (bI s a).2.2)] 1 := by
 refine (gq 79 [.tmp 2, .tmp 3] func39) ?_
 simp only [rdr]
 have hmx := mxl
 have hn := bBz ha
 have hnr := aWw s a
 have ht := aWg (n := (nI s a).1) hn.2.1
 have hu := aWg (n := 1) ht.2
 obtain ⟨n1, hn1⟩ : ∃ z, z = (nI s a).1 := ⟨_, rfl⟩
 obtain ⟨n2, hn2⟩ : ∃ z, z = (nI s a).2.2 := ⟨_, rfl⟩
 obtain ⟨b0, hb0⟩ : ∃ z, z = (tI s n2 n1).1 := ⟨_, rfl⟩
 obtain ⟨t2, ht2⟩ : ∃ z, z = (tI s n2 n1).2.2 := ⟨_, rfl⟩
 obtain ⟨u2, hu2⟩ : ∃ z, z = (tI s t2 1).2.2 := ⟨_, rfl⟩
 rw [<- hn1, <- hn2] at ht hu
 rw [<- ht2] at ht hu
 rw [<- hu2] at hu; rw [<- hn2] at hn; rw [<- hn1] at hnr
 have hbs : b0.size <= s.size := by rw [hb0]; exact aXv _ _ _
 refine (aj) ((aj) ?_)
 refine sr rfl fun k3 => (ja) ?_
 refine vg [] 0 rfl rfl rfl ⟨func86, rfl, rfl⟩ (aXj s a ha hs) rfl oG oG (mT (H1 := []) (.inl rfl) Bj Bc) (.inl rfl) ?_
 simp only [go_sem, AV.ren, AObj.ren, aB, shift, sg, A0, Nat.add_zero, Nat.sub_self, rdr, <- hn1, <- hn2]
 refine k3 (aA fun k4 => (aj) ((cdA) ?_ ?_)) <;> intro hc1
 . have hk : (nI s a).2.1 = false := by simpa using hc1
   have h9 : bI s a = ([], false, n2) := by unfold bI; rw [if_neg (by rw [hk]; simp), hn2]
   refine (aj) ?_
   refine nC (t := 2) 43 5 rfl dg ?_
   refine (ja) ?_
   refine aFz 1 rfl ?_
   refine (Ad) (wR ?_)
   refine ⟨[], ?_⟩
   exact Bw h9
 have hk1 : (nI s a).2.1 = true := by simpa using hc1
 refine wk (k4 (sr rfl fun k7 => (ja) ?_))
 refine vg [] 0 rfl rfl rfl ⟨func87, rfl, rfl⟩ (iP s n2 hn.2.1 hs n1 hnr.1 hnr.2) rfl oG oG (mT (H1 := []) (.inl rfl) Bj Bc) (.inl rfl) ?_
 simp only [go_sem, AV.ren, AObj.ren, aB, shift, sg, A0, Nat.add_zero, Nat.sub_self, rdr, <- hb0, <- ht2]
 refine k7 (aA fun k8 => (aj) ((cdA) ?_ ?_)) <;> intro hc2
 . have hk : (tI s n2 n1).2.1 = false := by simpa using hc2
   have h9 : bI s a = ([], false, t2) := by unfold bI; rw [if_pos hk1, <- hn1, <- hn2, if_neg (by rw [hk]; simp), ht2]
   refine (aj) ?_
   refine nC (t := 2) 43 5 rfl dg ?_
   refine (ja) ?_
   refine aFz 1 rfl ?_
   refine (Ad) (wR ?_)
   refine ⟨[], ?_⟩
   exact Bw h9
 have hk2 : (tI s n2 n1).2.1 = true := by simpa using hc2
 refine wk (k8 (aA fun k11 => sr rfl fun k12 => (ja) ?_))
 refine vg [] 0 rfl rfl rfl ⟨func87, rfl, rfl⟩ (iP s t2 ht.2 hs 1 og og) rfl oG oG (mT (H1 := []) (.inl rfl) Bj Bc) (.inl rfl) ?_
 simp only [go_sem, AV.ren, AObj.ren, aB, shift, sg, A0, Nat.add_zero, Nat.sub_self, rdr, <- hu2]
 refine k12 ((aj) ((cdA) ?_ ?_)) <;> intro hc3
 . have hk : (tI s t2 1).2.1 = false := by simpa using hc3
   have h9 : bI s a = ([], false, u2) := by unfold bI; rw [if_pos hk1, <- hn1, <- hn2, if_pos hk2, <- ht2, if_neg (by rw [hk]; simp), hu2]
   refine (aj) ?_
   refine nC (t := 2) 43 5 rfl dg ?_
   refine (ja) ?_
   refine aFz 1 rfl ?_
   refine (Ad) (wR ?_)
   refine ⟨[], ?_⟩
   exact Bw h9
 have hk3 : (tI s t2 1).2.1 = true := by simpa using hc3
 have hbI : bI s a = if (jO b0 b0.size 0 []).2 = true then (if aZk s a u2 (jO b0 b0.size 0 []).1 = true then ([], false, u2) else ((jO b0 b0.size 0 []).1, true, u2)) else ([], false, u2) := by
   unfold bI; rw [if_pos hk1, <- hn1, <- hn2, if_pos hk2, <- ht2, <- hb0, if_pos hk3, <- hu2]
 refine wk (k11 ((aj) ((aj) ?_)))
 refine aA fun k17 => wb ?_
 refine nC (t := 9) 43 5 rfl dg ?_
 refine (ja) ?_
 refine wl (α := Nat × Nat × List Entry) (fun x => b0.size <= x.1 + x.2.1 /\ x.2.1 <= b0.size /\ x.2.2.length <= 12 /\ (∀ e ∈ x.2.2, e.key.size <= 1048576 /\ e.text.size <= 1048576) /\ jO b0 x.1 x.2.1 x.2.2 = jO b0 b0.size 0 []) (fun x => x.1) (fun x => ([(0, .ptr 0 0), (4, Ni (a : Int)), (7, Ns b0), (8, .ptr 1 0), (9, .ref 2)], [(0, rdr s u2), (1, rdr b0 x.2.1), (2, .row 43 5 (x.2.2.map enA))])) 3 (b0.size, 0, []) ⟨by simp, A3 _, by simp, by simp, rfl⟩ [] ?_ ?_
 . exact Df
 rintro ⟨f, at0, out⟩ ⟨hf, hat, hol, hoz, hgo⟩
 simp only at hf hat hol hoz hgo ⊢
 refine aA fun k18 => (aj) ((cdA) ?_ ?_) <;> intro hc4
 . have hlt : at0 < b0.size := by simpa using hc4
   obtain ⟨g, rfl⟩ : ∃ g, f = g + 1 := ⟨f - 1, og⟩
   have he := bPx hat
   have hes := bKd hat
   refine wk (k18 (wb (sr rfl fun k20 => (Bg) ?_)))
   refine vg [(0, 1)] 0 rfl rfl rfl ⟨func88, rfl, rfl⟩ (vS b0 at0 hat og) rfl (by simp only [go_sem, AV.ren, aB, sg]) oG (mT (H1 := []) (.inr ⟨1, rfl⟩) (by simp only [go_sem, rdr, sg, AObj.ren] <;> simp [AV.ren, aB, sg, Abs.get]) Bc) (.inl rfl) ?_
   simp only [go_sem, AV.ren, AObj.ren, aB, shift, sg, A0, Nat.add_zero, Nat.sub_self, rdr, enA]
   refine k20 (aA fun k21 => (aj) ((cdA) ?_ ?_)) <;> intro hc5
   . rw [jO, if_pos hlt, if_pos hc5] at hgo
     have h9 : bI s a = ([], false, u2) := by rw [hbI, <- hgo]; exact if_neg oS
     refine (aj) ?_
     refine nC (t := 2) 43 5 rfl dg ?_
     refine (ja) ?_
     refine aFz 4 rfl ?_
     refine (Ad) (wR ((Ah) ?_))
     refine ⟨[], ?_⟩
     exact Bw h9
   have hok : (eI b0 at0).2.1 = true /\ out.length < 12 := by simp at hc5; exact ⟨hc5.1, og⟩
   have hlt2 := he.2.2 hok.1
   refine wk (k21 (wg rfl ((Cr) ((jr) ((jt) ((jt) ?_))))))
   refine ⟨(g, (eI b0 at0).2.2, out ++ [(eI b0 at0).1]), ⟨by simp only; omega, he.2.1, by simp; omega, fun e h => (by rcases A6.1 h with h | h; exact hoz e h; rw [B4.1 h]; omega), by simp only; rw [jO, if_pos hlt, if_neg (by rw [hc5]; simp)] at hgo; exact hgo⟩, by simp only; omega, [(2, 5)], ?_⟩
   simp only [go_sem, AObj.bel, AObj.ren, AV.ren, aB, sg, rdr] <;> simp [enA]
 have hge : ¬ at0 < b0.size := by simpa using hc4
 rw [aLo hge] at hgo; rw [<- hgo] at hbI
 simp only [if_true] at hbI
 have hto : ((u2 : Nat) : Int).toNat = u2 := Int.toNat_natCast _
 refine we ((jt) (k17 (aA fun k24 => ?_)))
 have hmx : cZ out := ⟨og, fun e he => ⟨by have := hoz e he; omega, by have := hoz e he; omega⟩⟩
 refine aFz 2 rfl ?_
 refine (Ad) ?_
 refine sd mixed rfl fun k25 => (Aa hto) ((jr) ?_)
 refine tp rfl rfl rfl ⟨func56, rfl, rfl⟩ (yE out hmx) oG oG ?_
 refine (ja) ((jr) ?_)
 refine tpg rfl rfl rfl rfl rfl rfl ⟨func22, rfl, rfl⟩ (fun hg => nX out hmx) oG (fun hg => oG) oG trivial ?_
 refine (ja) ((jr) ((jy) (k25 ((cdA) ?_ ?_)))) <;> intro hc6
 . have h9 : bI s a = ([], false, u2) := by rw [hbI]; exact if_pos hc6
   refine (aj) ?_
   refine nC (t := 2) 43 5 rfl dg ?_
   refine (ja) ?_
   refine aFz 3 rfl ?_
   refine (Ad) (wR ?_)
   refine ⟨[], ?_⟩
   exact Bw h9
 have h9 : bI s a = (out, true, u2) := by rw [hbI]; exact if_neg (by unfold aZk; rw [hc6]; simp)
 refine wk (k24 ((aj) (wR ?_)))
 refine ⟨[], ?_⟩
 exact Bw h9
def pO (s : ByteArray) (hs : s.size <= 1048576) : aJ P 13 [Ns s] [] 0 (.tup [.sl 1 ((raI s).1.map esA), Ni ((raI s).2 : Int)]) := by
 refine (pq 25 [.tmp 2, .tmp 3] func13) ?_
 have hmx := mxl
 refine (aj) ((aj) ((aj) (wb ?_)))
 refine nC (t := 5) 23 1 rfl dg ?_
 refine (ja) ?_
 refine wl (α := Nat × Nat × List (List Entry)) (fun x => x.2.1 <= s.size /\ s.size < x.1 + x.2.1 /\ x.2.2.length <= x.2.1 /\ sP s x.1 x.2.1 x.2.2 = raI s) (fun x => x.1) (fun x => ([(4, .ptr 0 0), (5, .ref 1)], [(0, rdr s x.2.1), (1, .row 23 1 (x.2.2.map esA))])) 2 (s.size + 1, 0, []) ⟨A3 _, by simp, by simp, rfl⟩ [] ?_ ?_
 . exact Df
 rintro ⟨f, a, out⟩ ⟨ha, hf, hol, hgo⟩
 simp only at ha hf hol hgo ⊢
 obtain ⟨g, rfl⟩ : ∃ g, f = g + 1 := ⟨f - 1, og⟩
 have hb := aYx ha
 refine wb ((aj) ?_)
 refine sr rfl fun k5 => (ja) ?_
 refine vg [] 0 rfl rfl rfl ⟨func39, rfl, rfl⟩ (vG s a ha hs) rfl oG oG (mT (H1 := []) (.inl rfl) Bj Bc) (.inl rfl) ?_
 refine (Bv) (k5 (aA fun k6 => (aj) ((cdA) ?_ ?_))) <;> intro hc1
 . have hok : (bI s a).2.1 = false := by simpa using hc1
   rw [sP, if_neg (by rw [hok]; simp)] at hgo
   refine (aj) ?_
   refine aFz 1 rfl ?_
   refine (Ad) (wR ((Ah) ?_))
   refine fO ?_ ⟨by simp only [go_sem], trivial, trivial⟩
   simp only [go_sem, <- hgo]
 have hok : (bI s a).2.1 = true := by simpa using hc1
 have hlt := hb.2.2 hok
 refine wk (k6 (wg rfl ((Av) ((jr) ((jt) ((jt) ?_))))))
 refine ⟨(g, (bI s a).2.2, out ++ [(bI s a).1]), ⟨hb.2.1, by simp only; omega, by simp; omega, by simp only; rw [sP, if_pos hok] at hgo; exact hgo⟩, by simp only; omega, [(1, 3)], ?_⟩
 simp only [go_sem, AObj.bel, AObj.ren, AV.ren, aB, sg, rdr] <;> simp [esA]
def jR (seq : Int) (st : List Entry × Int) (e : Entry) : List Entry × Int := if seq < e.seq then (st.1 ++ [e], max st.2 e.seq) else st
def iU (seq : Int) (st : List Entry × Int) (b : List Entry) : List Entry × Int := b.foldl (jR seq) st
def gY (bs : List (List Entry)) (seq : Int) : List Entry × Int := (bU (bs.foldl (iU seq) ([], seq)).1, (bs.foldl (iU seq) ([], seq)).2)
def aZw (seq : Int) (st : List Entry × Int) (e : Entry) : (jR seq st e).1.length <= st.1.length + 1 := by
  unfold jR; split
  . simp
  omega
def bPo (bs : List (List Entry)) : Prop := bs.length <= 12001 /\ ∀ b ∈ bs, b.length <= 12
def qQ (d : Disk) : Bool := if 12000 < (d.log.size : Int) ∨ d.safe < 0 ∨ (d.log.size : Int) < d.safe then false else dP ⟨d.seq, [], d.levels, []⟩
def bPn {s : ByteArray} {a : Nat} (h : (bI s a).2.1 = true) : isB (bI s a).1 = true := by
  unfold bI at h ⊢
  generalize nI s a = n at h ⊢
  generalize tI s n.2.2 n.1 = t at h ⊢
  generalize tI s t.2.2 1 = u at h ⊢
  generalize jO t.1 t.1.size 0 [] = r at h ⊢
  split at h
  . rename_i h1
    split at h
    . rename_i h2
      split at h
      . rename_i h3
        split at h
        . rename_i h4
          split at h
          . cases h
          rename_i h5
          rw [if_pos h1, if_pos h2, if_pos h3, if_pos h4, if_neg h5]; unfold aZk at h5; simp at h5
          exact h5.1
        cases h
      cases h
    cases h
  cases h
def aUy {s : ByteArray} : ∀ (f a : Nat) (out : List (List Entry)), a <= s.size -> out.length <= a -> (∀ b ∈ out, isB b = true) -> (∀ b ∈ (sP s f a out).1, isB b = true) /\ (sP s f a out).1.length <= s.size
  | 0, a, out, ha, hl, h => ⟨h, by simp only [sP]; omega⟩
  | f + 1, a, out, ha, hl, h => by
    unfold sP
    have hb := aYx ha
    split
    . rename_i hk
      have := hb.2.2 hk
      refine aUy f _ _ hb.2.1 (by simp; omega) fun b hb' => ?_
      rcases A6.1 hb' with h1 | h1
      . exact h b h1
      rw [B4.1 h1]; exact bPn hk
    exact ⟨h, by simp only; omega⟩
def sX (s : ByteArray) : (∀ b ∈ (raI s).1, isB b = true) /\ (raI s).1.length <= s.size := aUy _ 0 [] (A3 _) (A0 _) oS
def vR {s : ByteArray} (hs : s.size <= 12000) : bPo (raI s).1 := by
  obtain ⟨h1, h2⟩ := sX s
  exact ⟨og, fun b hb => (bS (h1 b hb)).2.2⟩
def bAj (d : Disk) (hs : aIc d.levels) : aJ P 41 [.agg [Ni d.seq, .raw (.slice none 0 0), .sl 1 (d.levels.map rsA), .raw (.slice none 0 0)]] [] 0 (Nb (dP ⟨d.seq, [], d.levels, []⟩)) :=
  (aAb ⟨d.seq, [], d.levels, []⟩ ⟨⟨by simp, by simp⟩, hs, by simp⟩).args_le (LeL.cons (Le.aggL (LeL.cons (.refl _) (LeL.cons (.nil _) (LeL.cons (.refl _) (LeL.cons (.nil _) LeL.nil))))) LeL.nil) ⟨gC _ _, trivial⟩
def sK (bs : List (List Entry)) (seq : Int) (hb : bPo bs) : aJ P 42 [.sl 1 (bs.map esA), Ni seq] [] 0 (.tup [.sl 5 ((gY bs seq).1.map enA), .raw (.int .i64 (gY bs seq).2)]) := by
 refine (pq 43 [.tmp 4, .tmp 5] func42) ?_
 have hmx := mxl
 obtain ⟨hb1, hb2⟩ := hb
 refine (aj) ((aj) ((aj) ?_))
 refine aA fun k4 => (aj) (wb ?_)
 refine nC (t := 6) 43 5 rfl dg ?_
 refine (ja) ?_
 refine wl (α := Nat × List Entry × Int) (fun x => x.1 <= bs.length /\ x.2.1.length <= 12 * x.1 /\ (bs.drop x.1).foldl (iU seq) x.2 = bs.foldl (iU seq) ([], seq)) (fun x => bs.length - x.1) (fun x => ([(1, Ni seq), (6, .ref 0), (7, Ni x.2.2), (13, .sl 1 (bs.map esA)), (14, Ni (bs.length : Int)), (15, Ni (x.1 : Int))], [(0, .row 43 5 (x.2.1.map enA))])) 1 (0, [], seq) ⟨A3 _, by simp, rfl⟩ [] ?_ ?_
 . exact Br
 rintro ⟨i, st⟩ ⟨hi, hol, hfold⟩
 simp only at hi hol hfold ⊢
 refine (aj) ?_
 refine aA fun k7 => (cdB) ?_ ?_ <;> intro hc1
 . have hge := gec hc1
   rw [E5 hge, List.foldl_nil] at hfold
   have h9 : gY bs seq = (bU st.1, st.2) := by unfold gY; rw [<- hfold]
   refine we ((jt) (k4 (sr rfl fun k17 => (ja) ?_)))
   refine vg [] 0 rfl rfl rfl ⟨func44, rfl, rfl⟩ (bHr st.1 og) rfl Ak Ak (mT (H1 := []) (.inl rfl) oG Cc) (.inl rfl) ?_
   refine (jn) (k17 ((aj) ?_))
   refine aFz 0 rfl ?_
   refine (Ad) (wR ?_)
   refine fO ?_ ⟨enB _ _, trivial, trivial⟩
   exact Ac h9
 obtain ⟨hlt, l, hl, hdrop, hml⟩ := ixc hc1
 have hl12 := hb2 l hml
 refine wk (k7 (aA fun k8 => wb (sr rfl fun k9 => (Bm hl) ((jr) (k9 ((aj) (wb ?_)))))))
 refine wl (α := Nat × List Entry × Int) (fun x => x.1 <= l.length /\ x.2.1.length <= 12 * i + x.1 /\ (l.drop x.1).foldl (jR seq) x.2 = iU seq st l) (fun x => l.length - x.1) (fun x => ([(1, Ni seq), (6, .ref 0), (7, Ni x.2.2), (13, .sl 1 (bs.map esA)), (14, Ni (bs.length : Int)), (15, Ni (i : Int)), (19, .sl 5 (l.map enA)), (20, Ni (l.length : Int)), (21, Ni (x.1 : Int))], [(0, .row 43 5 (x.2.1.map enA))])) 1 (0, st) ⟨A3 _, by simpa using hol, rfl⟩ [] ?_ ?_
 . exact jp
 rintro ⟨k, st2⟩ ⟨hk, hol2, hfold2⟩
 simp only at hk hol2 hfold2 ⊢
 refine (aj) ?_
 refine aA fun k12 => (cdB) ?_ ?_ <;> intro hc2
 . have hgek : l.length <= k := by have h9 : ¬ k < l.length := (by simpa using hc2); omega
   rw [E5 hgek, List.foldl_nil] at hfold2
   have hf2 : iU seq st l = st2 := hfold2.symm
   refine we ((jt) ((jt) (k8 ((jw (wiS i og)) ((jt) ?_)))))
   refine ⟨(i + 1, st2), ⟨og, by simp only; omega, by rw [hdrop, List.foldl_cons] at hfold; rw [<- hfold]; exact congrArg (fun z => (bs.drop (i + 1)).foldl (iU seq) z) hf2.symm⟩, og, [], ?_⟩
   exact jp
 have hltk : k < l.length := by simpa using hc2
 obtain ⟨e, he, hdrop2, _⟩ := ix hltk
 refine wk (k12 (aA fun k13 => wb (sr rfl fun k14 => (Am he) ((jr) (k14 (sr rfl fun k15 => (Bg) (k15 ((cdB) ?_ ?_)))))))) <;> intro hc3
 . have hgt : ¬ seq < e.seq := by simpa using hc3
   have hst : jR seq st2 e = st2 := by unfold jR; rw [if_neg hgt]
   refine wk ((jt) (k13 ?_))
   have hwk := wiS k og
   refine wg rfl ((Aa hwk) ((jt) ?_))
   refine ⟨(k + 1, st2), ⟨og, by simp only; omega, by rw [hdrop2, List.foldl_cons] at hfold2; rw [<- hfold2, hst]⟩, og, [], ?_⟩
   exact jp
 have hgt : seq < e.seq := by simpa using hc3
 have hst : jR seq st2 e = (st2.1 ++ [e], max st2.2 e.seq) := by unfold jR; rw [if_pos hgt]
 have hmx : max st2.2 e.seq = max st2.2 e.seq := rfl
 refine sr rfl fun k16 => ?_
 simp only [go_sem, B3, A4, List.nil_append, A8, H5, B1, enA]
 refine (jr) (k16 (wg rfl ((Aa hmx) ((jt) (k13 ?_)))))
 have hwk := wiS k og
 refine wg rfl ((Aa hwk) ((jt) ?_))
 refine ⟨(k + 1, st2.1 ++ [e], max st2.2 e.seq), ⟨og, by simp; omega, by rw [hdrop2, List.foldl_cons] at hfold2; rw [<- hfold2, hst]⟩, og, [(0, 3)], ?_⟩
 simp only [go_sem, AObj.bel, AObj.ren, AV.ren, aB, sg] <;> simp [enA]
def hZ (s : Store) (hs : bQ s) : aP P 65 [stA s] [] 0 (.agg [Nb s.up, Ni s.tree.seq, .ref 0, .ref 1, .ref 2, Ns s.disk.log, Ni s.disk.safe, .ref 3, Ni s.disk.seq]) [(0, .row 43 5 (s.tree.mem.map enA)), (1, .row 102 1 (s.tree.levels.map rsO)), (2, .row 3 1 (s.tree.snaps.map inA)), (3, .row 102 1 (s.disk.levels.map rsO))] 4 := by
 refine (gq 16 [.cell 2 31] func65) ?_
 simp only [stA]
 refine (aj) ((aj) ?_)
 refine sr rfl fun k3 => (ja) ?_
 refine vn 3 rfl rfl rfl ⟨func107, rfl, rfl⟩ (aDi s.tree hs.1) Ae Ae oS dg ?_
 refine (jn) (k3 (sr rfl fun k4 => (ja) ?_))
 refine vn 1 rfl rfl rfl ⟨func115, rfl, rfl⟩ (qZ s.disk.levels hs.2) oG oG oS dg ?_
 refine (jn) (k4 ((aj) (wR ?_)))
 refine ⟨[(0, 3), (1, 4), (2, 5), (3, 6)], ?_⟩
 exact jz
def aAk (d : Disk) (hs : aIc d.levels) : aJ P 40 [dkA d] [] 0 (Nb (qQ d)) := by
 refine (pq 28 [.tmp 2] func40) ?_
 simp only [dkA]
 refine (aj) ?_
 refine sr rfl fun k2 => (ja) ?_
 refine vpg rfl rfl rfl rfl rfl rfl ⟨func41, rfl, rfl⟩ (fun hg => bAj d hs) oG (fun hg => oG) oG trivial ?_
 refine (ja) (k2 (wR ?_))
 have h9 : qQ d = (((decide ((d.log.size : Int) <= 12000) && decide (0 <= d.safe)) && decide (d.safe <= (d.log.size : Int))) && dP ⟨d.seq, [], d.levels, []⟩) := by
   unfold qQ; split
   . rename_i h; have : ((decide ((d.log.size : Int) <= 12000) && decide (0 <= d.safe)) && decide (d.safe <= (d.log.size : Int))) = false := by simp; omega
     rw [this]; rfl
   rename_i h; have : ((decide ((d.log.size : Int) <= 12000) && decide (0 <= d.safe)) && decide (d.safe <= (d.log.size : Int))) = true := by simp; omega
   rw [this]; rfl
 exact fq h9
section
variable {H : Heap} {ro : Option Nat} {N nx b0 : Nat} {E : Env} {o : Oper} {c : Call} {x : Operand}
def aNi {P : Program} {ds : List (Option Tmp)} (hg : o.guard = none) (ho : o.op = .call c) (hc : c.callee = .builtin .unsafeSliceData) (hargs : c.args = #[x]) (hN : ∀ d, o.dst = some d -> d < N)
    (hx : opv E x = some (.raw (.slice none 0 0))) : bE P ro N ds o b0 E H (aG [x]) [] (.raw (.pointer none)) [] nx 0 := by
  refine lsO hg fun E' H' U hE hH' hnx => ?_
  rw [aU0]
  have hops := oCg hE
  refine aT (by simp [ho, Op.noDefer]) hN fun C a w hR => ?_
  obtain ⟨h1, h2⟩ := hR.opv (x := x) (by rw [hops x oS]; exact hx)
  have hev : a.eval x = .slice none 0 0 := by
    generalize a.eval x = v at h1
    cases h1; rfl
  have hr := Lib.run_unsafeSliceData_nil (P := P) w c.argTypes o.type 0 0
  exact ⟨trivial, .pointer none, by simp [execOp, ho, resolve, hc, hargs, invoke, builtin, hev, hr], .raw _⟩
def aHv {P : Program} {ds : List (Option Tmp)} {x y : Operand} {pt it : Nat} (hg : o.guard = none) (ho : o.op = .call c) (hc : c.callee = .builtin .unsafeString) (hargs : c.args = #[x, y]) (hts : c.argTypes = #[pt, it]) (hN : ∀ d, o.dst = some d -> d < N)
    (hx : opv E x = some (.raw (.pointer none))) (hy : opv E y = some (Ni 0)) : bE P ro N ds o b0 E H (aG [x, y]) [] (Ns ⟨#[]⟩) [] nx 0 := by
  refine lsO hg fun E' H' U hE hH' hnx => ?_
  rw [aU0]
  have hops := oCg hE
  refine aT (by simp [ho, Op.noDefer]) hN fun C a w hR => ?_
  obtain ⟨h1, h2⟩ := hR.opv (x := x) (by rw [hops x oS]; exact hx)
  obtain ⟨h3, _⟩ := hR.opv (x := y) (by rw [hops y oS]; exact hy)
  have hev : a.eval x = .pointer none := by
    generalize a.eval x = v at h1
    cases h1; rfl
  have hey : a.eval y = .int .i64 0 := by
    generalize a.eval y = v at h3
    cases h3; rfl
  have hr := Lib.run_unsafeString_none (P := P) w pt it o.type none
  exact ⟨trivial, .string .empty, by simp [execOp, ho, resolve, hc, hargs, hts, invoke, builtin, hev, hey, hr], .raw _⟩
def bDt (L : List UInt8) : Heap := if L = [] then [(2, .cells 87 [.raw (.pointer none), .raw (.slice none 0 0)])] else [(2, .cells 87 [.ptr 2 0, .ref 3]), (3, .row 5 1 (L.map byteAV))]
def aFb {s : ByteArray} : bL s = [] ↔ s.size = 0 := by rw [<- List.length_eq_zero_iff, aO]
def yG {b : List Entry} (h : isB b = true) : (fTx b).size <= 4000 /\ 1 <= (fTx b).size := by
  obtain ⟨hok, h1, h2⟩ := bS h
  have h3 := sQ b ⟨#[]⟩ fun e he => by obtain ⟨_, _, _, _, _, _, r7, r8⟩ := gP (hok e he); exact ⟨r7, r8⟩
  have h4 := gK ((bTx b).size : Int)
  have h5 : (bTx b).size = (b.foldl pP ⟨#[]⟩).size := rfl
  have h6 : (⟨#[]⟩ : ByteArray).size = 0 := rfl
  unfold fTx; rw [if_pos h]; simp only [B8, cA, nD]; omega
def tW (s : Store) : Store :=
  ⟨true, ⟨(gY (raI s.disk.log).1 s.disk.seq).2, (gY (raI s.disk.log).1 s.disk.seq).1, s.disk.levels, []⟩, ⟨mN (raI s.disk.log).1 s.disk.seq, ((mN (raI s.disk.log).1 s.disk.seq).size : Int), s.disk.levels, s.disk.seq⟩⟩
def bHu {H H1 : Heap} {s : List (Nat × Nat)} {g : AObj} {nw : Nat} (hs : s = [] ∨ ∃ j, s = [(0, j)]) (ho : Abs.get H (sg s 0) = some (g.ren (sg s))) (hb : g.bel (UU 1)) (hk : ∀ i ∈ H1.map (·.1), i < 1 + nw) (ha : (Abs.get H1 0).isSome = true) (hf : nw <= 900) : FitC H s [(0, g)] 1 nw H1 where
  objs := ⟨ho, .inl og, hb, trivial⟩
  inj := by simp
  cov := fun i hi => by have : i = 0 := by omega
                        subst this; rfl
  sk := fun p hp => by
    rcases hs with rfl | ⟨j, rfl⟩
    . cases hp
    rw [B4.1 hp]; rfl
  dom := fun p hp => by
    have := hk p.1 (A9.2 ⟨p, hp, rfl⟩)
    by_cases h : p.1 = 0
    . left; rw [h]; rfl
    exact .inr ⟨og, this⟩
  all := fun p hp => by rw [B4.1 hp]; exact ha
  far := by omega
def bAp  : aP P 60 [.ptr 0 0] [(0, tD)] 1 (Ns ⟨#[]⟩) [(0, tD)] 1 := by
 refine (gq 14 [.tmp 2] func60) ?_
 simp only [tD]
 refine (aj) ?_
 refine sd mixed rfl fun k2 => (ja) ?_
 refine aN (fun hN => aNi rfl rfl rfl rfl hN rfl) (.inl rfl) ?_
 refine (ja) ?_
 refine aN (fun hN => aHv rfl rfl rfl rfl rfl hN rfl rfl) (.inl rfl) ?_
 refine (ja) ((jy) (k2 (wR ?_)))
 refine ⟨[], ?_⟩; exact jz
def bAt (l : List UInt8) (h0 : l ≠ []) : aP P 60 [.ptr 0 0] [(0, lM 1), (1, bT l)] 2 (Ns ⟨l.toArray⟩) [(0, .cells 87 [.ptr 0 0, .sl 1 (l.map byteAV)]), (1, .dead)] 2 := by
 refine (gq 14 [.tmp 2] func60) ?_
 simp only [lM, bT]
 refine (aj) ?_
 refine sd mixed rfl fun k2 => (Bi) ?_
 refine aN (fun hN => wN (l := l) rfl rfl rfl rfl hN rfl rfl h0 (.inl dg)) (.inl rfl) ?_
 refine (Bi) ?_
 refine aN (fun hN => aGb (l := l) (m := 0) (jj := 1) rfl rfl rfl rfl rfl hN uPU ceU rfl rfl rfl h0 rfl rfl dg) (.inr dg) ?_
 simp only [go_sem, List.set_cons_succ, List.set_cons_zero, A8]
 refine (jy) (k2 (wR ?_))
 refine ⟨[], ?_⟩; exact jz
def bMk (l : List UInt8) : aP P 59 [.ptr 0 0] [(0, .cells 87 [.ptr 0 0, .sl 1 (l.map byteAV)])] 1 (Ni (l.length : Int)) [(0, .cells 87 [.ptr 0 0, .sl 1 (l.map byteAV)])] 1 := by
 refine (gq 8 [.tmp 2] func59) ((aj) ?_)
 refine sr rfl fun k2 => (Bi) (k2 (wR ?_))
 refine ⟨[], ?_⟩; exact jz
def aAt (s : Store) (hlog : s.disk.log.size <= 12000) : aJ P 38 [stA s] [] 0 (stA (tW s)) := by
 refine (pq 64 [.cell 2 31] func38) ?_
 simp only [stA]
 have hb0 : bDt (bL (⟨#[]⟩ : ByteArray)) = [(2, .cells 87 [.raw (.pointer none), .raw (.slice none 0 0)])] := if_pos rfl
 have hbok := (sX s.disk.log).1
 have hbl := (sX s.disk.log).2
 refine (aj) ?_
 refine sr rfl fun k2 => (ja) ((vq func13 (pO s.disk.log og)) (k2 ((aj) ?_)))
 refine aA fun k4 => (aj) (wb ?_)
 refine wl (α := Nat × ByteArray) (fun x => x.1 <= (raI s.disk.log).1.length /\ x.2.size <= 4000 * x.1 /\ ((raI s.disk.log).1.drop x.1).foldl (cG s.disk.seq) x.2 = mN (raI s.disk.log).1 s.disk.seq) (fun x => (raI s.disk.log).1.length - x.1) (fun x => ([(1, .ptr 0 0), (2, .ptr 1 0), (3, .sl 1 ((raI s.disk.log).1.map esA)), (5, .ptr 2 0), (18, .sl 1 ((raI s.disk.log).1.map esA)), (19, Ni ((raI s.disk.log).1.length : Int)), (20, Ni (x.1 : Int))], [(0, .cells 31 [Nb s.up, Ni s.tree.seq, .sl 5 (s.tree.mem.map enA), .sl 1 (s.tree.levels.map rsA), .sl 1 (s.tree.snaps.map inA), Ns s.disk.log, Ni s.disk.safe, .sl 1 (s.disk.levels.map rsA), Ni s.disk.seq]), (1, .cells 31 [Nb false, Ni 0, .raw (.slice none 0 0), .raw (.slice none 0 0), .raw (.slice none 0 0), Ns ⟨#[]⟩, Ni 0, .raw (.slice none 0 0), Ni 0])] ++ bDt (bL x.2) ++ [])) 4 (0, ⟨#[]⟩) ⟨A3 _, A3 _, rfl⟩ [] ?_ ?_
 . simp only [hb0, List.cons_append, List.nil_append, List.append_nil, go_sem, AObj.bel, Int.natCast_zero] <;> simp
 rintro ⟨i, L⟩ ⟨hi, hL, hfold⟩
 simp only at hi hL hfold ⊢
 rcases Nat.eq_zero_or_pos L.size with hLz | hLz
 . have hbh : bDt (bL L) = [(2, .cells 87 [.raw (.pointer none), .raw (.slice none 0 0)])] := if_pos (aFb.2 hLz)
   have hLe : L = ⟨#[]⟩ := by rw [<- rB L, aFb.2 hLz]
   have hLb : bL L = [] := aFb.2 hLz
   simp only [hbh, List.cons_append, List.nil_append, List.append_nil]
   refine (aj) ?_
   refine aA fun k7 => (cdB) ?_ ?_ <;> intro hc1
   . have hge : (raI s.disk.log).1.length <= i := by have h9 : ¬ i < (raI s.disk.log).1.length := (by simpa using hc1); omega
     rw [E5 hge, List.foldl_nil] at hfold; subst hLe
     refine we ((jt) (k4 (sr rfl fun k11 => (ja) ((vq func42 (sK (raI s.disk.log).1 s.disk.seq (vR hlog))) (k11 ((aj) ?_))))))
     refine sr rfl fun k13 => (ja) ?_
     refine vg [(0, 2)] 0 rfl rfl rfl ⟨func60, rfl, rfl⟩ (bAp) rfl Bx oG (mT (H1 := []) (.inr ⟨2, rfl⟩) Cv (by simp only [go_sem, AObj.bel, tD])) (.inl rfl) ?_
     refine (Cu) (k13 (sr rfl fun k14 => (ja) ?_))
     refine vg [(0, 2)] 0 rfl rfl rfl ⟨func59, rfl, rfl⟩ (bKv) rfl Bx oG (mT (H1 := []) (.inr ⟨2, rfl⟩) Cv (by simp only [go_sem, AObj.bel, tD])) (.inl rfl) ?_
     refine (Cu) (k14 ((aj) ((aj) ?_)))
     refine cP 1 (ds := [Nb true, .raw (.int .i64 (gY (raI s.disk.log).1 s.disk.seq).2), .sl 5 ((gY (raI s.disk.log).1 s.disk.seq).1.map enA), .sl 1 (s.disk.levels.map rsA), .sl 1 [], Ns ⟨#[]⟩, Ni 0, .sl 1 (s.disk.levels.map rsA), Ni s.disk.seq]) rfl (by repeat (first | exact LeL.nil | refine LeL.cons (by first | exact Le.refl _ | exact Le.nil _) ?_)) oG ?_
     refine (ja) (wR ?_)
     have h9 : mN (raI s.disk.log).1 s.disk.seq = ⟨#[]⟩ := hfold.symm
     refine fO ?_ (aR _ _)
     simp only [go_sem, tW, h9, stA, List.map_nil]; rfl
   have hlt : i < (raI s.disk.log).1.length := by simpa using hc1
   obtain ⟨l, hl, hdrop, hml⟩ := ix hlt
   have hib := hbok l hml
   obtain ⟨hok, hb1, hb2⟩ := bS hib
   obtain ⟨hf1, hf2⟩ := yG hib
   have hpv : l[l.length - 1]? = some (bW l) := by unfold bW; rw [A1 og]; rfl
   have hw6 := wr ((l.length : Int) - 1) ((l.length : Int) - 1) og
   have hpn : ((l.length : Int) - 1).toNat = l.length - 1 := by omega
   have hbn : bDt (bL (L ++ fTx l)) = [(2, .cells 87 [.ptr 2 0, .ref 3]), (3, .row 5 1 ((bL (L ++ fTx l)).map byteAV))] := if_neg (by rw [aFb, B8]; omega)
   refine wk (k7 (aA fun k8 => wb (sr rfl fun k9 => (Bm hl) ((jr) (k9 (sd mixed rfl fun k10 => ?_))))))
   simp only [go_sem, hw6, hpn, hpv, enA, A8]
   refine (jr) ((jy) (k10 ((cdB) ?_ ?_))) <;> intro hc2
   . have hgt : ¬ s.disk.seq < (bW l).seq := by simpa using hc2
     have hst : cG s.disk.seq L l = L := by unfold cG; rw [if_neg hgt]
     refine wk ((jt) (k8 ((jw (wiS i og)) ((jt) ?_))))
     refine ⟨(i + 1, L), ⟨og, by simp only; omega, by rw [hdrop, List.foldl_cons, hst] at hfold; exact hfold⟩, og, [], ?_⟩
     exact Dg hbh
   have hgt : s.disk.seq < (bW l).seq := by simpa using hc2
   have hst : cG s.disk.seq L l = L ++ fTx l := by unfold cG; rw [if_pos hgt]
   refine wg rfl ((ja) ((vq func22 (nX l (by exact ⟨og, fun e he => ⟨by have := (cQ (hok e he)).1; omega, by have := (cQ (hok e he)).2; omega⟩⟩))) ?_))
   refine vg [(0, 2)] 1 rfl rfl rfl ⟨func57, rfl, rfl⟩ (aMl (fTx l) og) rfl Bx oG (bHu (.inr ⟨2, rfl⟩) Cv (by simp only [go_sem, AObj.bel, tD]) oS rfl dg) (.inr dg) ?_
   refine (Cu) ((jt) (k8 ((jw (wiS i og)) ((jt) ?_))))
   refine ⟨(i + 1, L ++ fTx l), ⟨og, by simp only [B8]; omega, by rw [hdrop, List.foldl_cons, hst] at hfold; exact hfold⟩, og, [(3, 4)], ?_⟩
   simp only [go_sem, AObj.bel, AObj.ren, AV.ren, aB, sg, hbn, List.cons_append, List.nil_append, List.append_nil] <;> simp [qR, hLb, Abs.get, sg]
   rfl
 have hLn : bL L ≠ [] := fun h => by rw [aFb] at h; omega
 have hbh : bDt (bL L) = [(2, .cells 87 [.ptr 2 0, .ref 3]), (3, .row 5 1 ((bL L).map byteAV))] := if_neg hLn
 simp only [hbh, List.cons_append, List.nil_append, List.append_nil]
 refine (aj) ?_
 refine aA fun k18 => (cdB) ?_ ?_ <;> intro hc3
 . have hge : (raI s.disk.log).1.length <= i := by have h9 : ¬ i < (raI s.disk.log).1.length := (by simpa using hc3); omega
   rw [E5 hge, List.foldl_nil] at hfold
   have hLm : (⟨(bL L).toArray⟩ : ByteArray) = L := rB L
   refine we ((jt) (k4 (sr rfl fun k22 => (ja) ((vq func42 (sK (raI s.disk.log).1 s.disk.seq (vR hlog))) (k22 ((aj) ?_))))))
   refine sr rfl fun k24 => (ja) ?_
   refine vg [(0, 2), (1, 3)] 0 rfl rfl rfl ⟨func60, rfl, rfl⟩ (bAt (bL L) hLn) rfl Bx oG (aUl (.inr ⟨2, 3, by decide, rfl⟩) Cl Cl (by simp only [go_sem, AObj.bel, lM, bT] <;> simp) (by simp only [go_sem, AObj.bel, lM, bT]) oS ⟨rfl, rfl⟩ dg) (.inl rfl) ?_
   refine (Dh) (k24 (sr rfl fun k25 => (ja) ?_))
   refine vg [(0, 2)] 0 rfl rfl rfl ⟨func59, rfl, rfl⟩ (bMk (bL L)) rfl Bx oG (mT (H1 := []) (.inr ⟨2, rfl⟩) (by simp only [go_sem, sg, AObj.ren, AV.ren, aB] <;> simp [Abs.get]) Bf) (.inl rfl) ?_
   simp only [go_sem, AV.ren, AObj.ren, aB, shift, sg, A0, Nat.add_zero, Nat.sub_self, aO]
   refine k25 ((aj) ((aj) ?_))
   refine cP 1 (ds := [Nb true, .raw (.int .i64 (gY (raI s.disk.log).1 s.disk.seq).2), .sl 5 ((gY (raI s.disk.log).1 s.disk.seq).1.map enA), .sl 1 (s.disk.levels.map rsA), .sl 1 [], Ns L, Ni (L.size : Int), .sl 1 (s.disk.levels.map rsA), Ni s.disk.seq]) rfl (by repeat (first | exact LeL.nil | refine LeL.cons (by first | exact Le.refl _ | exact Le.nil _) ?_)) oG ?_
   refine (ja) (wR ?_)
   have h9 : mN (raI s.disk.log).1 s.disk.seq = L := hfold.symm
   refine fO ?_ (aR _ _)
   simp only [go_sem, tW, h9, stA, List.map_nil]
 have hlt : i < (raI s.disk.log).1.length := by simpa using hc3
 obtain ⟨l, hl, hdrop, hml⟩ := ix hlt
 have hib := hbok l hml
 obtain ⟨hok, hb1, hb2⟩ := bS hib
 obtain ⟨hf1, hf2⟩ := yG hib
 have hpv : l[l.length - 1]? = some (bW l) := by unfold bW; rw [A1 og]; rfl
 have hw6 := wr ((l.length : Int) - 1) ((l.length : Int) - 1) og
 have hpn : ((l.length : Int) - 1).toNat = l.length - 1 := by omega
 have hbn : bDt (bL (L ++ fTx l)) = [(2, .cells 87 [.ptr 2 0, .ref 3]), (3, .row 5 1 ((bL (L ++ fTx l)).map byteAV))] := if_neg (by rw [aFb, B8]; omega)
 refine wk (k18 (aA fun k19 => wb (sr rfl fun k20 => (Bm hl) ((jr) (k20 (sd mixed rfl fun k21 => ?_))))))
 simp only [go_sem, hw6, hpn, hpv, enA, A8]
 refine (jr) ((jy) (k21 ((cdB) ?_ ?_))) <;> intro hc4
 . have hgt : ¬ s.disk.seq < (bW l).seq := by simpa using hc4
   have hst : cG s.disk.seq L l = L := by unfold cG; rw [if_neg hgt]
   refine wk ((jt) (k19 ((jw (wiS i og)) ((jt) ?_))))
   refine ⟨(i + 1, L), ⟨og, by simp only; omega, by rw [hdrop, List.foldl_cons, hst] at hfold; exact hfold⟩, og, [], ?_⟩
   exact Dg hbh
 have hgt : s.disk.seq < (bW l).seq := by simpa using hc4
 have hst : cG s.disk.seq L l = L ++ fTx l := by unfold cG; rw [if_pos hgt]
 refine wg rfl ((ja) ((vq func22 (nX l (by exact ⟨og, fun e he => ⟨by have := (cQ (hok e he)).1; omega, by have := (cQ (hok e he)).2; omega⟩⟩))) ?_))
 refine vg [(0, 2), (1, 3)] 1 rfl rfl rfl ⟨func57, rfl, rfl⟩ (yT (bL L) (fTx l) (by rw [aO]; omega)) rfl Bx oG (aUl (.inr ⟨2, 3, by decide, rfl⟩) Cl Cl (by simp only [go_sem, AObj.bel, lM, bT] <;> simp) (by simp only [go_sem, AObj.bel, lM, bT]) oS ⟨rfl, rfl⟩ dg) (.inr dg) ?_
 refine (Dh) ((jt) (k19 ((jw (wiS i og)) ((jt) ?_))))
 refine ⟨(i + 1, L ++ fTx l), ⟨og, by simp only [B8]; omega, by rw [hdrop, List.foldl_cons, hst] at hfold; exact hfold⟩, og, [(3, 4)], ?_⟩
 simp only [go_sem, AObj.bel, AObj.ren, AV.ren, aB, sg, hbn, List.cons_append, List.nil_append, List.append_nil] <;> simp [qR, Abs.get, sg]
 rfl
end
def bIy (seq : Int) : ∀ (bs : List (List Entry)) (st : List Entry × Int), (∀ b ∈ bs, b.length <= 12 /\ ∀ e ∈ b, e.key.size <= 1048576 /\ e.text.size <= 1048576) -> (∀ e ∈ st.1, e.key.size <= 1048576 /\ e.text.size <= 1048576) -> (bs.foldl (iU seq) st).1.length <= st.1.length + 12 * bs.length /\ ∀ e ∈ (bs.foldl (iU seq) st).1, e.key.size <= 1048576 /\ e.text.size <= 1048576 := by
  have row : ∀ (b : List Entry) (st : List Entry × Int), (∀ e ∈ b, e.key.size <= 1048576 /\ e.text.size <= 1048576) -> (∀ e ∈ st.1, e.key.size <= 1048576 /\ e.text.size <= 1048576) -> (iU seq st b).1.length <= st.1.length + b.length /\ ∀ e ∈ (iU seq st b).1, e.key.size <= 1048576 /\ e.text.size <= 1048576 := by
    intro b
    induction b with
    | nil => intro st _ h; exact ⟨by simp [iU], h⟩
    | cons x r ih =>
      intro st hb h
      have h1 := aZw seq st x
      have h2 : ∀ e ∈ (jR seq st x).1, e.key.size <= 1048576 /\ e.text.size <= 1048576 := fun e he => by
        unfold jR at he; split at he
        . rcases A6.1 he with h3 | h3
          . exact h e h3
          rw [B4.1 h3]; exact hb x A2
        exact h e he
      have h3 := ih (jR seq st x) (fun e he => hb e (A5 _ he)) h2
      simp only [iU, List.foldl_cons, C5] at h3 ⊢
      exact ⟨og, h3.2⟩
  intro bs
  induction bs with
  | nil => intro st _ h; exact ⟨by simp, h⟩
  | cons b r ih =>
    intro st hb h
    have h1 := row b st (hb b A2).2 h
    have h2 := ih (iU seq st b) (fun x hx => hb x (A5 _ hx)) h1.2
    have h3 := (hb b A2).1
    simp only [List.foldl_cons, C5]
    exact ⟨og, h2.2⟩
def aDm {s : ByteArray} (hs : s.size <= 12000) (seq : Int) : qW (gY (raI s).1 seq).1 := by
  obtain ⟨h1, h2⟩ := sX s
  have h3 := bIy seq (raI s).1 ([], seq) (fun b hb => ⟨(bS (h1 b hb)).2.2, fun e he => cQ ((bS (h1 b hb)).1 e he)⟩) oS
  simp only [List.length_nil, C3] at h3
  unfold gY
  refine ⟨?_, fun e he => h3.2 e ((iG _).mem_iff.1 he)⟩
  rw [tX]; omega
def aCd (s : Store) : Bool := (!dP s.tree || !decide (s.tree.levels = s.disk.levels)) || decide (s.tree.seq < s.disk.seq)
def upI (s : Store) : Bool := if aCd s = true then false else if ((raI s.disk.log).2 : Int) ≠ (s.disk.log.size : Int) then false else decide ((gY (raI s.disk.log).1 s.disk.seq).2 = s.tree.seq) && decide ((gY (raI s.disk.log).1 s.disk.seq).1 = s.tree.mem)
def sR (s : Store) : Bool := if qQ s.disk = false then false else upI s
def bM (s : Store) : Bool := if qQ s.disk = false then false else if s.up = true then upI s else eY s.tree hP && sR (tW s)
def aJt {d : Disk} (h : qQ d = true) : d.log.size <= 12000 := by
  unfold qQ at h; split at h
  . cases h
  rename_i h1; omega
def aDq {ls : List (List Run)} (h : aIc ls) : bDb ls := by
  refine ⟨by have := h.1; omega, fun rs hrs => ?_⟩
  have h1 := h.2 rs hrs
  exact ⟨by have := h1.1; omega, fun r hr => ⟨by have := (h1.2 r hr).1; omega, fun e he => ⟨by have := ((h1.2 r hr).2 e he).1; omega, by have := ((h1.2 r hr).2 e he).2; omega⟩⟩⟩
def aEp {t : Tree} (h : gL t) : bAi t := ⟨⟨by have := h.1.1; omega, fun e he => ⟨by have := (h.1.2 e he).1; omega, by have := (h.1.2 e he).2; omega⟩⟩, aDq h.2.1, by have := h.2.2; omega⟩
def aRz (t : Tree) (hs : gL t) : aJ P 29 [trA t, .agg [Ni 0, .raw (.slice none 0 0), .raw (.slice none 0 0), .raw (.slice none 0 0)]] [] 0 (Nb (eY t hP)) :=
  (wT t hP (aEp hs)).args_le (LeL.cons (.refl _) (LeL.cons (Le.aggL (LeL.cons (.refl _) (LeL.cons (.nil _) (LeL.cons (.nil _) (LeL.cons (.nil _) LeL.nil))))) LeL.nil)) ⟨gC _ _, gC _ _, trivial⟩
def aHo {s : Store} (hs : bQ s) (hlog : s.disk.log.size <= 12000) : bQ (tW s) := by
  have h1 := aDm hlog s.disk.seq
  have h2 := hs.2
  unfold bQ gL tW
  generalize gY (raI s.disk.log).1 s.disk.seq = f at h1 ⊢
  exact ⟨⟨h1, h2, A3 _⟩, h2⟩
def aCo (s : Store) (hs : bQ s) (hup : s.up = true) : aJ P 15 [stA s] [] 0 (Nb (sR s)) := by
 refine (pq 79 [.tmp 2] func15) ?_
 simp only [stA]
 refine (aj) ?_
 refine aA fun k2 => sr rfl fun k3 => (ja) ?_
 refine (vr rfl rfl rfl func40 (aAk s.disk hs.2) (by simp only [go_sem, dkA]) (by simp only [go_sem, dkA])) (k3 ((cdA) ?_ ?_)) <;> intro hc1
 . have hd : qQ s.disk = false := by simpa using hc1
   have h9 : sR s = false := by unfold sR; rw [if_pos hd]
   exact (aj) (wR (fq h9))
 have hd : qQ s.disk = true := by simpa using hc1
 have hlog := aJt hd
 refine wk (k2 (aA fun k5 => (aj) ((cdA) ?_ ?_))) <;> intro hc2
 . exfalso
   rw [hup] at hc2; simp at hc2
 refine wk (k5 (aA fun k7 => sr rfl fun k8 => (ja) ?_))
 refine (vr rfl rfl rfl func41 (aAb s.tree hs.1) Ae Ae) ?_
 refine vpg rfl rfl rfl rfl rfl rfl ⟨func30, rfl, rfl⟩ (fun hg => nE s.tree.levels s.disk.levels (aDq hs.1.2.1)) oG (fun hg => oG) oG trivial ?_
 refine (ja) (k8 ((cdA) ?_ ?_)) <;> intro hc3
 . have hb : aCd s = true := hc3
   have h9 : sR s = false := by unfold sR upI; rw [if_neg (by rw [hd]; simp), if_pos hb]
   exact (aj) (wR (fq h9))
 have hb : aCd s = false := hc3
 refine wk (k7 (sr rfl fun k10 => (ja) ((vq func13 (pO s.disk.log og)) (k10 (aA fun k11 => (aj) ((cdA) ?_ ?_)))))) <;> intro hc4
 . have hn : ((raI s.disk.log).2 : Int) ≠ (s.disk.log.size : Int) := by simpa using hc4
   have h9 : sR s = false := by unfold sR upI; rw [if_neg (by rw [hd]; simp), if_neg (by rw [hb]; simp), if_pos hn]
   exact (aj) (wR (fq h9))
 have hn : ¬ ((raI s.disk.log).2 : Int) ≠ (s.disk.log.size : Int) := by simpa using hc4
 have h9 : sR s = (decide ((gY (raI s.disk.log).1 s.disk.seq).2 = s.tree.seq) && decide ((gY (raI s.disk.log).1 s.disk.seq).1 = s.tree.mem)) := by unfold sR upI; rw [if_neg (by rw [hd]; simp), if_neg (by rw [hb]; simp), if_neg hn]
 refine wk (k11 (sr rfl fun k14 => (ja) ((vq func42 (sK (raI s.disk.log).1 s.disk.seq (vR hlog))) (k14 (sr rfl fun k15 => (ja) ?_)))))
 refine vpg rfl rfl rfl rfl rfl rfl ⟨func43, rfl, rfl⟩ (fun hg => cJ (gY (raI s.disk.log).1 s.disk.seq).1 s.tree.mem (by have := (aDm hlog s.disk.seq).1; omega)) oG (fun hg => oG) oG trivial ?_
 exact (ja) (k15 (wR (fq h9)))
def aTn (s : Store) (hs : bQ s) (hup : s.up = false) : aJ P 15 [stA s] [] 0 (Nb (bM s)) := by
 refine (pq 79 [.tmp 2] func15) ?_
 simp only [stA]
 refine (aj) ?_
 refine aA fun k2 => sr rfl fun k3 => (ja) ?_
 refine (vr rfl rfl rfl func40 (aAk s.disk hs.2) (by simp only [go_sem, dkA]) (by simp only [go_sem, dkA])) (k3 ((cdA) ?_ ?_)) <;> intro hc1
 . have hd : qQ s.disk = false := by simpa using hc1
   have h9 : bM s = false := by unfold bM; rw [if_pos hd]
   exact (aj) (wR (fq h9))
 have hd : qQ s.disk = true := by simpa using hc1
 have hlog := aJt hd
 refine wk (k2 (aA fun k5 => (aj) ((cdB) ?_ ?_))) <;> intro hc2
 . exfalso
   rw [hup] at hc2; simp at hc2
 have h9 : bM s = (eY s.tree hP && sR (tW s)) := by unfold bM; rw [if_neg (by rw [hd]; simp), if_neg (by rw [hup]; simp)]
 refine sr rfl fun k7 => (ja) ?_
 refine (vr rfl rfl rfl func29 (aRz s.tree hs.1) Ae Ae) ?_
 refine vpg rfl rfl rfl rfl rfl rfl ⟨func38, rfl, rfl⟩ (fun hg => aAt s hlog) oG (fun hg => Ab) Ab (aR _ _) ?_
 refine (ja) ?_
 refine vpg rfl rfl rfl rfl rfl rfl ⟨func15, rfl, rfl⟩ (fun hg => aCo (tW s) (aHo hs hlog) rfl) oG (fun hg => Ab) Ab trivial ?_
 exact (ja) (k7 (wR (fq h9)))
def aRf (s : Store) (hs : bQ s) : aJ P 15 [stA s] [] 0 (Nb (bM s)) := by
  cases h : s.up
  . exact aTn s hs h
  have := aCo s hs h
  rwa [show sR s = bM s by unfold sR bM; rw [h]; simp] at this
inductive StepI where
  | log (t : ByteArray)
  | lev (ls : List (List Run)) (seq : Int)
  | emp
def bOq : StepI -> AV
  | .log t => .iface 137 (.agg [.raw (.string t)])
  | .lev ls q => .iface 0 (.agg [.sl 1 (ls.map rsA), .raw (.int .i64 q)])
  | .emp => .iface 0 (.agg [])
def bGj (U : Nat -> Prop) (p : StepI) : (bOq p).bel U := by
  cases p with
  | log t => exact ⟨trivial, trivial⟩
  | lev ls q => exact ⟨aY _ _, trivial, trivial⟩
  | emp => trivial
def bNm (U : Nat -> Prop) (ps : List StepI) : aK U (ps.map bOq) := pW (f := bOq) (fun _ _ => bGj _ _) U ps
attribute [go_sem] bGj bNm
def sdI (F : Store -> Store × Bool) (s : Store) : Store × Bool := if bM s = false then (zStore, false) else if (F s).2 = false then (s, false) else ((F s).1, true)
def aIp {s : Store} (h : bM s = true) (hu : s.up = true) : 0 <= s.tree.seq /\ s.tree.seq <= 100000 /\ s.tree.mem.length <= 60 := by
  unfold bM at h; rw [if_pos hu] at h; split at h
  . cases h
  unfold upI at h; split at h
  . cases h
  rename_i hb
  unfold aCd at hb
  simp only [D4, not_or] at hb
  have h1 : dP s.tree = true := by have := hb.1.1; simpa using this
  unfold dP at h1; split at h1
  . cases h1
  rename_i h2
  unfold qI at h2; simp at h2; omega
def bAq {s : Store} (h : bM s = true) : s.disk.log.size <= 12000 := by
  unfold bM at h; split at h
  . cases h
  rename_i h1; exact aJt (by simpa using h1)
def aFk (σ : Nat -> Nat) (s : Store) : (stA s).ren σ = stA s := AV.ren_closed σ (aR _ s)
def aAi (s : ByteArray) (hs : s.size <= 1048576) : aJ P 81 [Ns s] [] 0 (.tup [.sl 1 ((bO s).1.map esA), .raw (.int .i64 (bO s).2)]) :=
  bY (aBl s hs) (by simp only [go_sem, aFn]) oG
def aKi (ls : List (List Run)) (hs : aIc ls) : aJ P 72 [.sl 1 (ls.map rsA)] [] 0 (.sl 1 (ls.map rsA)) :=
  bY (cR ls hs) oG oG
def aVy (d : Disk) (hs : aIc d.levels) : aJ P 33 [.agg [Ni d.seq, .raw (.slice none 0 0), .sl 1 (d.levels.map rsA), .raw (.slice none 0 0)]] [] 0 (Nb (dE ⟨d.seq, [], d.levels, []⟩)) :=
  (tF ⟨d.seq, [], d.levels, []⟩ ⟨⟨by simp, by simp⟩, hs, by simp⟩).args_le (LeL.cons (Le.aggL (LeL.cons (.refl _) (LeL.cons (.nil _) (LeL.cons (.refl _) (LeL.cons (.nil _) LeL.nil))))) LeL.nil) ⟨gC _ _, trivial⟩
def aOl (t : Tree) (hs : gL t) : aJ P 35 [trA t, .agg [Ni 0, .raw (.slice none 0 0), .raw (.slice none 0 0), .raw (.slice none 0 0)]] [] 0 (Nb (eY t hP)) :=
  (aHr t hP (aEp hs)).args_le (LeL.cons (.refl _) (LeL.cons (Le.aggL (LeL.cons (.refl _) (LeL.cons (.nil _) (LeL.cons (.nil _) (LeL.cons (.nil _) LeL.nil))))) LeL.nil)) ⟨gC _ _, gC _ _, trivial⟩
def aQp {s : ByteArray} (hs : s.size <= 1048576) : (bO s).1.length <= 1048576 /\ (∀ b ∈ (bO s).1, b.length <= 1048576) /\ ∀ b ∈ (bO s).1, qW b /\ 1 <= b.length := by
  obtain ⟨h1, h2⟩ := uO hs
  exact ⟨og, fun b hb => by have := (tL (h1 b hb)).2.2; omega, fun b hb => ⟨(tL (h1 b hb)).1, (tL (h1 b hb)).2.1⟩⟩
def aBx (s : ByteArray) (a : Nat) (h : 0 <= (aV s a).2) : (fTx (aV s a).1).toList = (s.extract a (aV s a).2.toNat).toList := by
  have hf : aV s a = if jN s a = true then ([], -1) else if (!((fTx (pB s a)).toList == (s.extract a ((bZ s (a : Int)).2 + (bZ s (a : Int)).1 + 1).toNat).toList)) = true then ([], -1) else (pB s a, (bZ s (a : Int)).2 + (bZ s (a : Int)).1 + 1) := rfl
  rw [hf] at h ⊢
  split
  . rename_i hb; rw [if_pos hb] at h; simp at h
  rename_i hb
  rw [if_neg hb] at h; split
  . rename_i hc; rw [if_pos hc] at h; simp at h
  rename_i hc
  simpa using hc
def aGn (x : ByteArray) : x.toList.length = x.size := by rw [ByteArray.toList_eq]; rfl
def yH (bs : List (List Entry)) : Nat := (bs.map fun b => (fTx b).size).sum
def bDl (a b : List (List Entry)) : yH (a ++ b) = yH a + yH b := by simp [yH]
def aMu (s : ByteArray) : ∀ (f a : Nat) (out : List (List Entry)), yH out <= a -> a <= s.size -> yH (cV s f a out).1 <= s.size
  | 0, a, out, h, ha => by simp only [cV]; omega
  | f + 1, a, out, h, ha => by
    unfold cV; split
    . split
      . simp only; omega
      rename_i hn
      have h1 := rM s a og
      have h2 := uJ s a
      have h3 := congrArg List.length (aBx s a og)
      rw [aGn, aGn, iI s _ _ og] at h3
      refine aMu s f _ _ ?_ og
      rw [bDl]
      simp only [yH, List.map_cons, List.map_nil, List.sum_cons, List.sum_nil] at h ⊢
      omega
    simp only; omega
def aKo : ∀ (bs : List (List Entry)) (seq : Int) (out : ByteArray), (bs.foldl (cG seq) out).size <= out.size + yH bs
  | [], seq, out => by simp [yH]
  | b :: r, seq, out => by
    have h1 := aKo r seq (cG seq out b)
    have h2 : (cG seq out b).size <= out.size + (fTx b).size := by
      unfold cG; split
      . rw [B8]; omega
      omega
    simp only [List.foldl_cons, yH, List.map_cons, List.sum_cons] at h1 ⊢
    omega
def aDr (s : Store) (h : s.disk.log.size <= 12000) : (dX s).disk.log.size <= 12000 := by
  have h1 := aKo (bO s.disk.log).1 s.disk.seq ⟨#[]⟩
  have h2 := aMu s.disk.log s.disk.log.size 0 [] (by simp [yH]) (A3 _)
  have h3 : (⟨#[]⟩ : ByteArray).size = 0 := rfl
  show (mN (bO s.disk.log).1 s.disk.seq).size <= _
  unfold mN
  unfold bO at h1 ⊢
  omega
def aRt {s : Store} (hs : bQ s) (hlog : s.disk.log.size <= 12000) : bQ (dX s) := by
  have h0 := uO (s := s.disk.log) og
  have h1 := aJa (bs := (bO s.disk.log).1) s.disk.seq h0.1
  have h3 := h0.2
  have h2 := hs.2
  unfold bQ gL dX
  generalize nT (bO s.disk.log).1 s.disk.seq = f at h1 ⊢
  exact ⟨⟨⟨by show f.1.length <= _; omega, h1.2⟩, h2, A3 _⟩, h2⟩
def aAp (s : Store) (hs : bQ s) (hlog : s.disk.log.size <= 1048576) : aJ P 36 [stA s] [] 0 (stA (dX s)) := by
 refine (pq 45 [.cell 2 31] func36) ?_
 simp only [stA]
 have hrb := aQp hlog
 obtain ⟨hrb1, hrb2, hrb3⟩ := hrb
 refine (aj) ?_
 refine sr rfl fun k2 => (ja) ((vq func81 (aAi s.disk.log hlog)) (k2 (sr rfl fun k3 => (ja) ((vq func82 (aEm (bO s.disk.log).1 s.disk.seq hrb1 hrb2)) (k3 ((aj) ?_))))))
 refine sr rfl fun k5 => (ja) ((vq func85 (aOm (bO s.disk.log).1 s.disk.seq hrb1 hrb3)) (k5 ((aj) ?_)))
 refine sr rfl fun k7 => (ja) ((vq func72 (aKi s.disk.levels hs.2)) (k7 ((aj) ?_)))
 refine cP 1 (ds := [Nb true, .raw (.int .i64 (nT (bO s.disk.log).1 s.disk.seq).2), .sl 5 ((nT (bO s.disk.log).1 s.disk.seq).1.map enA), .sl 1 (s.disk.levels.map rsA), .sl 1 [], Ns (mN (bO s.disk.log).1 s.disk.seq), Ni ((mN (bO s.disk.log).1 s.disk.seq).size : Int), .sl 1 (s.disk.levels.map rsA), Ni s.disk.seq]) rfl (by repeat (first | exact LeL.nil | refine LeL.cons (by first | exact Le.refl _ | exact Le.nil _) ?_)) oG ?_
 refine (ja) (wR ?_)
 refine fO ?_ (aR _ _)
 simp only [go_sem, dX, stA, List.map_nil]
def aGp (s : Store) (hs : bQ s) (hlog : s.disk.log.size <= 1048576) : aJ P 34 [stA s] [] 0 (Nb (upS s)) := by
 refine (pq 71 [.tmp 2] func34) ?_
 simp only [stA]
 have hrb := aQp hlog
 obtain ⟨hrb1, hrb2, hrb3⟩ := hrb
 refine (aj) ?_
 refine aA fun k2 => sr rfl fun k3 => (ja) ?_
 refine (vr rfl rfl rfl func33 (tF s.tree hs.1) Ae Ae) ?_
 refine vpg rfl rfl rfl rfl rfl rfl ⟨func80, rfl, rfl⟩ (fun hg => wO s.disk.levels s.tree.levels (aDq hs.2)) oG (fun hg => oG) oG trivial ?_
 refine (ja) (k3 ((cdA) ?_ ?_)) <;> intro hc1
 . have h9 : upS s = false := by unfold upS; rw [if_pos (show aQf s = true from hc1)]
   exact (aj) (wR (fq h9))
 have h9 : upS s = ((decide ((bO s.disk.log).2 = (s.disk.log.size : Int)) && decide ((nT (bO s.disk.log).1 s.disk.seq).1 = s.tree.mem)) && decide ((nT (bO s.disk.log).1 s.disk.seq).2 = s.tree.seq)) := by unfold upS; rw [show aQf s = false from hc1, if_neg oS]
 refine wk (k2 (sr rfl fun k5 => (ja) ((vq func81 (aAi s.disk.log hlog)) (k5 (sr rfl fun k6 => (ja) ((vq func82 (aEm (bO s.disk.log).1 s.disk.seq hrb1 hrb2)) (k6 (sr rfl fun k7 => (ja) ?_))))))))
 refine vpg rfl rfl rfl rfl rfl rfl ⟨func83, rfl, rfl⟩ (fun hg => tE (nT (bO s.disk.log).1 s.disk.seq).1 s.tree.mem (by have := (aJa (bs := (bO s.disk.log).1) s.disk.seq (uO hlog).1).1; omega)) oG (fun hg => oG) oG trivial ?_
 exact (ja) (k7 (wR (fq h9)))
def nO (s : Store) (hs : bQ s) (hlg : s.disk.log.size <= 1048576) : aJ P 11 [stA s] [] 0 (Nb (aF s)) := by
 refine (pq 46 [.tmp 2] func11) ?_
 simp only [stA]
 refine (aj) ?_
 refine aA fun k2 => (aj) ((cdA) ?_ ?_) <;> intro hc1
 . have h9 : aF s = false := by unfold aF; rw [if_pos (show nL s = true from hc1)]
   exact (aj) (wR (fq h9))
 have hd : nL s = false := hc1
 have hlog : s.disk.log.size <= 12000 := by unfold nL at hd; simp at hd; omega
 refine wk (k2 (aA fun k5 => sr rfl fun k6 => (ja) ((vq func33 (aVy s.disk hs.2)) (k6 ((cdA) ?_ ?_))))) <;> intro hc2
 . have ht : dE ⟨s.disk.seq, [], s.disk.levels, []⟩ = false := by simpa using hc2
   have h9 : aF s = false := by unfold aF; rw [hd, if_neg oS, if_pos ht]
   exact (aj) (wR (fq h9))
 have ht : dE ⟨s.disk.seq, [], s.disk.levels, []⟩ = true := by simpa using hc2
 refine wk (k5 (aA fun k8 => (aj) ((cdA) ?_ ?_))) <;> intro hc3
 . have hup : s.up = true := hc3
   have h9 : aF s = upS s := by unfold aF; rw [hd, if_neg oS, if_neg (by rw [ht]; simp), if_pos hup]
   refine sr rfl fun k10 => (ja) ?_
   exact (vr rfl rfl rfl func34 (aGp s hs og) Ab Ab) (k10 (wR (fq h9)))
 have hup : s.up = false := hc3
 have h9 : aF s = (eY s.tree hP && upS (dX s)) := by unfold aF; rw [hd, if_neg oS, if_neg (by rw [ht]; simp), if_neg (by rw [hup]; simp)]
 have hos := aRt hs hlog
 have hol := aDr s hlog
 refine wk (k8 (sr rfl fun k11 => (ja) ?_))
 refine (vr rfl rfl rfl func35 (aOl s.tree hs.1) Ae Ae) ?_
 refine vpg rfl rfl rfl rfl rfl rfl ⟨func36, rfl, rfl⟩ (fun hg => aAp s hs og) oG (fun hg => Ab) Ab (aR _ _) ?_
 refine (ja) ?_
 refine vpg rfl rfl rfl rfl rfl rfl ⟨func34, rfl, rfl⟩ (fun hg => aGp (dX s) hos og) oG (fun hg => Ab) Ab trivial ?_
 exact (ja) (k11 (wR (fq h9)))
def aIr {s : Store} (h : bQ s) : bQ (bH s) := by
  unfold bH; split
  . exact h
  exact ⟨⟨⟨A3 _, fun e he => by cases he⟩, ⟨A3 _, fun e he => by cases he⟩, A3 _⟩, h.2⟩
def aNm (s : Store) (b : List Entry) (hs : bQ s) (hb : cZ b) (hl : b.length <= 1048576) (h0 : 0 <= s.tree.seq) (h1 : s.tree.seq <= 100000) (hlog : s.disk.log.size <= 12000) : aJ P 52 [stA s, .sl 5 (b.map enA)] [] 0 (.tup [stA (eN s b).1, .raw (.bool (eN s b).2)]) := by
 refine (pq 51 [.cell 4 31, .tmp 5] func52) ?_
 simp only [stA]
 have hsm := aEk (seq := s.tree.seq) hl
 have hmx : cZ (aM b s.tree.seq).1 := ⟨by have := hsm.1; omega, fun e he => ⟨by have := (hsm.2 e he).1; omega, by have := (hsm.2 e he).2; omega⟩⟩
 have hft := tH (aM b s.tree.seq).1
 have hwb : uR s b = (!s.up || !(hJ s.tree b).2 || decide (12000 < ((s.disk.log.size + (fTx (aM b s.tree.seq).1).size : Nat) : Int))) := by unfold uR; rw [B8]
 refine (aj) ?_
 refine sr rfl fun k2 => (ja) ((vq func104 (xT b s.tree.seq hb hl h0 h1)) (k2 (sr rfl fun k3 => (ja) ?_)))
 refine vs rfl rfl rfl func105 (aKm s.tree b hb hl (by have := hs.1.1.1; omega) h0 h1) Ae Ae ?_
 simp only [go_sem, trA]
 refine k3 (sd mixed rfl fun k4 => (ja) ?_)
 refine tp rfl rfl rfl ⟨func106, rfl, rfl⟩ (pN (aM b s.tree.seq).1 hmx) oG oG ?_
 refine (ja) ?_
 refine ⟨og, ?_⟩
 refine (jy) (k4 (aA fun k5 => (aj) ((cdA) ?_ ?_))) <;> intro hc1
 . have h9 : eN s b = (s, false) := by unfold eN; rw [if_pos (hwb.trans hc1)]
   refine (aj) (wR ?_)
   refine fO ?_ ⟨aR _ _, trivial, trivial⟩
   exact Ap h9
 have h9 : eN s b = (⟨s.up, (hJ s.tree b).1, { s.disk with log := s.disk.log ++ fTx (aM b s.tree.seq).1 }⟩, true) := by unfold eN; rw [hwb.trans hc1, if_neg oS]
 refine wk (k5 ((aj) ((aj) ((aj) (wR ?_)))))
 refine fO ?_ ⟨aR _ _, trivial, trivial⟩
 exact Ap h9
section
variable {s : ByteArray} {a : Nat}
def bBh (seq : Int) (bs : List (List Entry)) : nT bs seq = gY bs seq := by
  have step : ∀ (st : List Entry × Int) (e : Entry), jE seq (bU st.1, st.2) e = (bU (jR seq st e).1, (jR seq st e).2) := fun st e => by
    unfold jE jR; split
    . simp [bU, List.foldl_append]
    rfl
  have row : ∀ (b : List Entry) (st : List Entry × Int), mH seq (bU st.1, st.2) b = (bU (iU seq st b).1, (iU seq st b).2) := by
    intro b
    induction b with
    | nil => intro st; rfl
    | cons x r ih =>
      intro st
      have h1 := ih (jR seq st x)
      simp only [mH, iU, List.foldl_cons] at h1 ⊢
      rw [step st x]; exact h1
  have all : ∀ (bs : List (List Entry)) (st : List Entry × Int), bs.foldl (mH seq) (bU st.1, st.2) = (bU (bs.foldl (iU seq) st).1, (bs.foldl (iU seq) st).2) := by
    intro bs
    induction bs with
    | nil => intro st; rfl
    | cons b r ih => intro st; rw [List.foldl_cons, List.foldl_cons, row b st]; exact ih _
  exact all bs ([], seq)
def Has (s : ByteArray) (a : Nat) (t : List UInt8) : Prop := ((bL s).drop a).take t.length = t
def Has.len {t : List UInt8} (h : Has s a t) (ha : a <= s.size) : a + t.length <= s.size := by
  have h1 := congrArg List.length h
  rw [B3, B1, aO] at h1; omega
def Has.split {t u : List UInt8} (h : Has s a (t ++ u)) : Has s a t /\ Has s (a + t.length) u := by
  unfold Has at h ⊢
  rw [A4] at h
  have h1 := congrArg (List.take t.length) h
  have h2 := congrArg (List.drop t.length) h
  rw [List.take_take, Nat.min_eq_left og, List.take_left'  rfl] at h1; rw [List.drop_take, List.drop_drop, List.drop_left' rfl] at h2
  refine ⟨h1, ?_⟩
  rw [show t.length + u.length - t.length = u.length by omega] at h2; exact h2
def aBi (s : ByteArray) (a b : Nat) : bL (s.extract a b) = ((bL s).drop a).take (b - a) := by
  unfold bL; rw [ByteArray.data_extract, Array.toList_extract]
def Has.ext {t : List UInt8} (h : Has s a t) : s.extract a (a + t.length) = ⟨t.toArray⟩ := by
  rw [<- rB (s.extract a (a + t.length)), aBi, show a + t.length - a = t.length by omega, h]
def Has.of_ext {a b : Nat} {t : List UInt8} (h : bL (s.extract a b) = t) (hb : a + t.length = b) : Has s a t := by
  rw [aBi] at h; unfold Has
  rw [show t.length = b - a by omega]; exact h
def Has.at {a i : Nat} {t : List UInt8} (h : Has s a t) (hi : i < t.length) : (bL s)[a + i]? = t[i]? := by
  have h1 := congrArg (·[i]?) h
  simp only [F7, if_pos hi, H4] at h1
  exact h1
def Has.rest {t : List UInt8} (h : Has s a t) : ∃ r, (bL s).drop a = t ++ r := ⟨((bL s).drop a).drop t.length, by
  have := List.take_append_drop t.length ((bL s).drop a)
  rw [show ((bL s).drop a).take t.length = t from h] at this
  exact this.symm⟩
def bIl : ∀ (w r : List UInt8), (∀ c ∈ w, c ≠ 32) -> Lib.indexByte (w ++ 32 :: r) 32 = (w.length : Int)
  | [], r, _ => by simp [Lib.indexByte]
  | c :: w, r, h => by
    have h1 : (c == 32) = false := by simpa using h c A2
    have ih := bIl w r fun x hx => h x (A5 _ hx)
    rw [List.cons_append, Lib.indexByte, h1, ih]; simp only [C4, if_false, C5]; split
    . rename_i h2; simp at h2
    omega
def bNv {w : List UInt8} (ha : a <= s.size) (h : Has s a (w ++ [32])) (hw : ∀ c ∈ w, c ≠ 32) (hl : w.length <= 8) : wI s a = (⟨w.toArray⟩, true, a + (w.length + 1)) := by
  obtain ⟨r, hr⟩ := h.rest
  have hln := h.len ha
  rw [A4, List.length_singleton] at hln
  have hah : bL (mE s a) = w ++ 32 :: r.take (min s.size (a + 9) - a - (w.length + 1)) := by
    unfold mE
    rw [aBi, hr, List.take_append, A4, List.length_singleton, List.take_of_length_le (by rw [A4, List.length_singleton]; omega)]
    simp
  have hsp : aBb s a = (w.length : Int) := by
    unfold aBb; rw [show (mE s a).data.toList = bL (mE s a) from rfl, hah]
    exact bIl _ _ hw
  have hx : (mE s a).extract 0 w.length = ⟨w.toArray⟩ := by
    rw [<- rB ((mE s a).extract 0 w.length), aBi, hah, List.drop_zero, Nat.sub_zero, List.take_left' rfl]
  unfold wI; rw [hsp, if_neg og, Int.toNat_natCast, hx]
end
def aMe {s : ByteArray} {a i : Nat} {t : List UInt8} {c : UInt8} (h : Has s a t) (hi : t[i]? = some c) : aS s (a + i) = (c.toNat : Int) := by
  have hl : i < t.length := (B2.1 hi).1
  have h1 := h.at hl
  rw [hi] at h1; unfold aS
  show ((((bL s).getD (a + i) 0).toNat : Nat) : Int) = _
  rw [E7, h1]; rfl
def bPt {c : UInt8} (h : c ≠ 32) : (c.toNat : Int) ≠ 32 := by
  intro h1; apply h; apply UInt8.toNat_inj.1
  show c.toNat = 32
  omega
def bCf {s : ByteArray} : ∀ (w : List UInt8) (a f : Nat), Has s a (w ++ [32]) -> (∀ c ∈ w, c ≠ 32) -> w.length < f -> aFv s f a = some (a + w.length)
  | [], a, 0, _, _, hf => by simp at hf
  | [], a, f + 1, h, _, _ => by
    have h1 := aMe (i := 0) (c := 32) h rfl
    rw [Nat.add_zero] at h1
    rw [aFv, if_pos (by rw [h1]; rfl)]
    rfl
  | c :: w, a, 0, _, _, hf => by simp at hf
  | c :: w, a, f + 1, h, hw, hf => by
    have h1 := aMe (i := 0) (c := c) h rfl
    rw [Nat.add_zero] at h1
    rw [aFv, if_neg (by rw [h1]; exact bPt (hw c A2))]
    have h2 : Has s (a + 1) (w ++ [32]) := (Has.split (t := [c]) (u := w ++ [32]) h).2
    rw [bCf w (a + 1) f h2 (fun x hx => hw x (A5 _ hx)) (by rw [C5] at hf; omega), C5]
    congr 1; omega
def aVz {s : ByteArray} {a : Nat} {w : List UInt8} (ha : a <= s.size) (h : Has s a (w ++ [32])) (hw : ∀ c ∈ w, c ≠ 32) : jH s a = (⟨w.toArray⟩, ((a + (w.length + 1) : Nat) : Int)) := by
  have hln := h.len ha
  rw [A4, List.length_singleton] at hln; unfold jH; rw [bCf w a _ h hw og]
  simp only
  rw [(Has.split h).1.ext]
  congr 1
def bIi {s : ByteArray} {a : Nat} {t : List UInt8} (ha : a <= s.size) (h : Has s a t) : tI s a (t.length : Int) = (⟨t.toArray⟩, true, a + t.length) := by
  have hln := h.len ha
  unfold tI; rw [if_neg og, Int.toNat_natCast, h.ext]
def aGi {u : Nat} (h : u < 10) : Lib.decDigits u = [UInt8.ofNat (48 + u)] := by rw [Lib.decDigits, dif_pos h]
def aRe {u : Nat} (h : ¬ u < 10) : Lib.decDigits u = Lib.decDigits (u / 10) ++ [UInt8.ofNat (48 + u % 10)] := by rw [Lib.decDigits, dif_neg h]
def aFp {m : Nat} (h : m < 10) : (UInt8.ofNat (48 + m)).toNat = 48 + m := by
  rw [UInt8.toNat_ofNat']; omega
def aTd (u : Nat) : ∀ c ∈ Lib.decDigits u, 48 <= c.toNat /\ c.toNat <= 57 := by
  induction u using Nat.strongRecOn with
  | ind u ih =>
    intro c hc
    by_cases h : u < 10
    . rw [aGi h] at hc
      rw [B4.1 hc, aFp h]; omega
    rw [aRe h] at hc
    rcases A6.1 hc with h1 | h1
    . exact ih (u / 10) og c h1
    rw [B4.1 h1, aFp og]; omega
def bKm (u : Nat) : ∀ r, u < 1000000000000000000 -> Lib.parseUint10 0 (Lib.decDigits u ++ r) = Lib.parseUint10 u r := by
  have one : ∀ (acc m : Nat) r, m < 10 -> acc < 1000000000000000000 -> Lib.parseUint10 acc (UInt8.ofNat (48 + m) :: r) = Lib.parseUint10 (acc * 10 + m) r := fun acc m r hm ha => by
    rw [Lib.parseUint10, aFp hm, if_pos og, if_neg og, if_neg og, show 48 + m - 48 = m by omega]
  induction u using Nat.strongRecOn with
  | ind u ih =>
    intro r hu
    by_cases h : u < 10
    . rw [aGi h, List.singleton_append, one 0 u r h og, Nat.zero_mul, C3]
    rw [aRe h, F5, ih (u / 10) og _ og, List.singleton_append, one _ _ r og og]
    congr 1; omega
def bBw (u : Nat) : Lib.decDigits u ≠ [] := by
  by_cases h : u < 10
  . rw [aGi h]; simp
  rw [aRe h]; simp
def bGh (l : List UInt8) : Int := l.foldl (fun a c => a * 10 + ((c.toNat : Int) - 48)) 0
def aYs (l : List UInt8) (c : UInt8) : bGh (l ++ [c]) = bGh l * 10 + ((c.toNat : Int) - 48) := by unfold bGh; rw [List.foldl_append]; rfl
def bOk (u : Nat) : bGh (Lib.decDigits u) = (u : Int) := by
  induction u using Nat.strongRecOn with
  | ind u ih =>
    by_cases h : u < 10
    . rw [aGi h]
      show (0 : Int) * 10 + (((UInt8.ofNat (48 + u)).toNat : Int) - 48) = _
      rw [aFp h]; omega
    rw [aRe h, aYs, ih (u / 10) og, aFp og]; omega
def zG {l : List UInt8} {i : Nat} {c : UInt8} (h : l[i]? = some c) : aS ⟨l.toArray⟩ i = (c.toNat : Int) := by
  unfold aS; rw [E7]
  show (((l[i]?.getD 0).toNat : Nat) : Int) = _
  rw [h]; rfl
def aQm {l : List UInt8} (hl : ∀ c ∈ l, 48 <= c.toNat /\ c.toNat <= 57) : ∀ i, i <= l.length -> lL ⟨l.toArray⟩ i = some (bGh (l.take i))
  | 0, _ => by rw [List.take_zero]; rfl
  | i + 1, h => by
    have he := A1 (l := l) (i := i) og
    have hd := hl _ (C8 (l := l) (n := i) og)
    have hb := zG he
    rw [lL, aQm hl i og]
    simp only
    rw [hb, if_neg (by simp; omega), G2, he]; simp only [Option.toList_some, aYs]
def bKc {u k : Nat} (h : u < 10 ^ (k + 1)) : (Lib.decDigits u).length <= k + 1 := by
  induction k generalizing u with
  | zero => rw [aGi (by simpa using h)]; simp
  | succ k ih =>
    by_cases h1 : u < 10
    . rw [aGi h1]; simp
    rw [aRe h1, A4, List.length_singleton]
    have := ih (u := u / 10) (by rw [Nat.pow_succ] at h; omega)
    omega
def bMm (u : Nat) (h : 1 <= u) : ∃ c r, Lib.decDigits u = c :: r /\ c.toNat ≠ 48 := by
  induction u using Nat.strongRecOn with
  | ind u ih =>
    by_cases h1 : u < 10
    . exact ⟨_, [], aGi h1, by rw [aFp h1]; omega⟩
    obtain ⟨c, r, h2, h3⟩ := ih (u / 10) og og
    exact ⟨c, r ++ [UInt8.ofNat (48 + u % 10)], by rw [aRe h1, h2]; rfl, h3⟩
def aTa {n : Int} (h0 : -1000000000000000000 <= n) (h1 : n <= 1000000000000000000) : bL (dec n) = if n < 0 then 45 :: Lib.decDigits n.natAbs else Lib.decDigits n.natAbs := by
  rw [<- aFc h0 h1]; unfold aXu Lib.itoa bL; split
  . simp
  rename_i h
  simp
  rw [show n.toNat = n.natAbs by omega]
abbrev inN (n : Int) : Prop := -10000000000000000 < n /\ n < 10000000000000000
def aZe {n : Int} (h : inN n) : ∀ c ∈ bL (dec n), c ≠ 32 := by
  rw [aTa og og]
  have hd : ∀ c ∈ Lib.decDigits n.natAbs, c ≠ 32 := fun c hc e => by
    have := aTd _ c hc
    rw [e] at this
    exact absurd this.1 dg
  split
  . intro c hc
    rcases A7.1 hc with rfl | h1
    . decide
    exact hd c h1
  exact hd
def bEf {n : Int} (h : inN n) : iK (dec n) = (n, true) := by
  have hp := bKm n.natAbs [] og
  rw [List.append_nil] at hp
  have hm : Lib.parseMag (Lib.decDigits n.natAbs) = .ok n.natAbs := by
    unfold Lib.parseMag
    rw [if_neg (bBw _), hp]; rfl
  have ha : Lib.atoiAll (bL (dec n)) = .ok n := by
    rw [aTa og og]; split
    . rename_i hn
      unfold Lib.atoiAll; simp only [show (45 : UInt8).toNat = 45 from rfl, or_true, if_true, hm, not_true_eq_false, false_and, if_false, true_and]; rw [if_neg og]
      congr 1; omega
    rename_i hn
    obtain ⟨c, r, hc⟩ := H3 (bBw n.natAbs)
    have hd := aTd n.natAbs c (by rw [hc]; exact A2)
    rw [hc] at hm ⊢
    unfold Lib.atoiAll
    have e1 : ¬ c.toNat = 45 := by omega
    have e2 : ¬ c.toNat = 43 := by omega
    simp only [e1, e2, or_self, if_false, hm, not_false_eq_true, true_and, false_and]; rw [if_neg og]
    congr 1; omega
  unfold iK; rw [show (dec n).data.toList = bL (dec n) from rfl, ha]
def bNw {s : ByteArray} {a : Nat} {n : Int} (h : inN n) (hl : (dec n).size <= 8) (ha : a <= s.size) (hh : Has s a (bL (dec n ++ spB))) : nI s a = (n, true, a + ((dec n).size + 1)) := by
  rw [qR] at hh
  have hw := bNv ha hh (aZe h) (by rw [aO]; exact hl)
  unfold nI; rw [hw]; simp only [if_true, rB, bEf h, aO]
def bKg {n : Int} (h : inN n) : (Lib.decDigits n.natAbs).length <= 17 := bKc (k := 16) og
def aTw (l : List UInt8) : (⟨l.toArray⟩ : ByteArray).size = l.length := by show l.toArray.size = _; simp
def bHj (u : Nat) : 1 <= (Lib.decDigits u).length := by
  have := bBw u
  cases h : Lib.decDigits u with
  | nil => exact absurd h this
  | cons c r => simp
def aQa {u : Nat} {ng : Bool} (hl : (Lib.decDigits u).length <= 17) (hn : ng = true -> 1 <= u) : tC ⟨(Lib.decDigits u).toArray⟩ ng = false := by
  have hp := bHj u
  unfold tC; rw [aTw]
  by_cases h0 : u = 0
  . subst h0
    have : ng = false := by cases ng; rfl; exact absurd (hn rfl) og
    subst this; rw [aGi og]
    decide
  obtain ⟨c, r, hc, h48⟩ := bMm u og
  have hb : aS ⟨(Lib.decDigits u).toArray⟩ 0 = (c.toNat : Int) := zG (by rw [hc]; rfl)
  rw [hb]
  have e1 : decide (((Lib.decDigits u).length : Int) = 0) = false := decide_eq_false og
  have e2 : decide (17 < ((Lib.decDigits u).length : Int)) = false := decide_eq_false og
  have e3 : decide ((c.toNat : Int) = 48) = false := decide_eq_false og
  rw [e1, e2, e3]; rfl
def aWs (u : Nat) : lL ⟨(Lib.decDigits u).toArray⟩ (⟨(Lib.decDigits u).toArray⟩ : ByteArray).size = some (u : Int) := by
  rw [aTw, aQm (aTd u) _ (A0 _), E9, bOk]
def bGp {n : Int} (h : inN n) : aIe (dec n) = some n := by
  have hb := aTa (n := n) og og
  have hl := bKg h
  have hp := bHj n.natAbs
  by_cases hn : n < 0
  . rw [if_pos hn] at hb
    have hd : dec n = ⟨(45 :: Lib.decDigits n.natAbs).toArray⟩ := by rw [<- hb, rB]
    have hng : sV (dec n) = true := by
      unfold sV; rw [hd, zG (i := 0) (c := 45) rfl, aTw, C5]
      have e1 : decide (0 < (((Lib.decDigits n.natAbs).length + 1 : Nat) : Int)) = true := decide_eq_true og
      rw [e1]; rfl
    have hun : mP (dec n) = ⟨(Lib.decDigits n.natAbs).toArray⟩ := by
      unfold mP; rw [if_pos hng, <- rB ((dec n).extract 1 (dec n).size), aBi, hb, <- aO, hb]
      simp
    unfold aIe; rw [hun, hng, aQa hl (fun _ => by omega), aWs]; simp only [C4, if_false, Option.map_some, if_true]
    congr 1; omega
  rw [if_neg hn] at hb
  have hd : dec n = ⟨(Lib.decDigits n.natAbs).toArray⟩ := by rw [<- hb, rB]
  obtain ⟨c, r, hc⟩ := H3 (bBw n.natAbs)
  have hdg := aTd n.natAbs c (by rw [hc]; exact A2)
  have hng : sV (dec n) = false := by
    unfold sV
    rw [hd, zG (i := 0) (c := c) (by rw [hc]; rfl)]
    have e1 : decide ((c.toNat : Int) = 45) = false := decide_eq_false og
    rw [e1, Bool.and_false]
  have hun : mP (dec n) = ⟨(Lib.decDigits n.natAbs).toArray⟩ := by
    unfold mP
    rw [hng]; simpa using hd
  unfold aIe; rw [hun, hng, aQa hl (fun h => by cases h), aWs]; simp only [C4, if_false, Option.map_some]
  congr 1; omega
def yP {s : ByteArray} {a : Nat} {n : Int} (h : inN n) (ha : a <= s.size) (hh : Has s a (bL (dec n ++ spB))) : bZ s (a : Int) = (n, ((a + ((dec n).size + 1) : Nat) : Int)) := by
  rw [qR] at hh
  have hw := aVz ha hh (aZe h)
  unfold bZ; rw [if_neg og, Int.toNat_natCast, hw, rB, bGp h, aO]
abbrev inS (n : Int) : Prop := -10000000 < n /\ n < 10000000
def aQn {n : Int} (h : inS n) : (dec n).size <= 8 := by
  have hl : (Lib.decDigits n.natAbs).length <= 7 := bKc (k := 6) og
  rw [<- aO, aTa og og]; split
  . rw [C5]; omega
  omega
def aYr {s : ByteArray} : ∀ (ns : List Int) (a : Nat), (∀ n ∈ ns, inS n) -> a <= s.size -> Has s a (qU ns) -> eH s ns.length a = (ns, true, a + (qU ns).length)
  | [], a, _, _, _ => by simp [eH, qU]
  | n :: r, a, hn, ha, hh => by
    have h0 : qU (n :: r) = bL (dec n ++ spB) ++ qU r := by simp [qU]
    rw [h0] at hh
    have hs := hn n A2
    have hlen := hh.split.1.len ha
    have hl : (bL (dec n ++ spB)).length = (dec n).size + 1 := by rw [aO, B8, cA]
    have h1 := bNw (n := n) ⟨og, og⟩ (aQn hs) ha hh.split.1
    rw [hl] at hlen
    have h2 := hh.split.2
    rw [hl] at h2
    have ih := aYr r _ (fun m hm => hn m (A5 _ hm)) og h2
    rw [C5, eH, h1]; simp only [if_true, ih]; rw [h0, A4, hl]; simp only [Prod.mk.injEq, true_and]; omega
def entL (e : Entry) : List UInt8 := bL (e.key ++ spB) ++ qU (lA e) ++ bL e.text
def aVs {k : ByteArray} (h : jG k = true) : ∀ c ∈ bL k, c ≠ 32 := by
  intro c hc e; subst e
  obtain ⟨i, hi, he⟩ := List.mem_iff_getElem.1 hc
  have hb : aS k i = 32 := by
    unfold aS; rw [E7]
    show ((((bL k)[i]?.getD 0).toNat : Nat) : Int) = _
    rw [A1 hi, he]; rfl
  rw [aO] at hi
  simp only [jG, B7, C7, List.mem_range] at h
  have := h.1 i hi
  simp [wH, hb] at this
def aPj {e : Entry} (h : bK e = true) : jG e.key = true /\ (∀ n ∈ lA e, inS n) /\ e.key.size <= 8 := by
  have hr := gP h
  refine ⟨?_, ?_, hr.2.2.2.2.2.2.2⟩
  . unfold bK at h; split at h
    . cases h
    rename_i hb
    simp [jQ] at hb
    simp [hb]
  intro n hn
  simp only [lA, A7, List.not_mem_nil, or_false] at hn
  rcases hn with rfl | rfl | rfl | rfl <;> exact ⟨og, og⟩
def bPv {s : ByteArray} {a : Nat} {e : Entry} (h : bK e = true) (ha : a <= s.size) (hh : Has s a (entL e)) : eI s a = (e, true, a + (entL e).length) := by
  obtain ⟨hk, hn, h8⟩ := aPj h
  have hlen := hh.len ha
  unfold entL at hh hlen ⊢
  have hA := hh.split.1.split.1
  have hB := hh.split.1.split.2
  have hC := hh.split.2
  have hlk : (bL (e.key ++ spB)).length = e.key.size + 1 := by rw [aO, B8, cA]
  simp only [A4, hlk] at hlen hB hC ⊢
  rw [qR] at hA
  have h1 := bNv ha hA (aVs hk) (by rw [aO]; exact h8)
  rw [aO, rB] at h1
  have h2 := aYr (lA e) _ hn og hB
  rw [show (lA e).length = 4 from rfl] at h2
  have h3 := bIi og hC
  rw [aO, rB] at h3; unfold eI; rw [h1]; simp only [if_true]; rw [h2]; simp only [if_true]; rw [<- Nat.add_assoc a (e.key.size + 1)] at h3; rw [show (lA e).getD 3 0 = (e.text.size : Int) from rfl]; rw [h3]; simp only [if_true, aO]; rw [show (lA e).getD 0 0 = e.seq from rfl, show (lA e).getD 1 0 = e.kind from rfl, show (lA e).getD 2 0 = e.n from rfl]; simp only [Prod.mk.injEq, true_and]; omega
def bNe {s : ByteArray} {a : Nat} {e : Entry} (h : bK e = true) (ha : a <= s.size) (hh : Has s a (entL e)) : wB s a = (e, ((a + (entL e).length : Nat) : Int)) := by
  obtain ⟨hk, hn, h8⟩ := aPj h
  have hlen := hh.len ha
  unfold entL at hh hlen ⊢
  have hA := hh.split.1.split.1
  have hB := hh.split.1.split.2
  have hC := hh.split.2
  have hlk : (bL (e.key ++ spB)).length = e.key.size + 1 := by rw [aO, B8, cA]
  have hnl : qU (lA e) = bL (dec e.seq ++ spB) ++ bL (dec e.kind ++ spB) ++ bL (dec e.n ++ spB) ++ bL (dec (e.text.size : Int) ++ spB) := by simp [qU, lA]
  have hdl : ∀ n, (bL (dec n ++ spB)).length = (dec n).size + 1 := fun n => by rw [aO, B8, cA]
  rw [qR] at hA
  have i1 := hn e.seq (by simp [lA])
  have i2 := hn e.kind (by simp [lA])
  have i3 := hn e.n (by simp [lA])
  have i4 := hn (e.text.size : Int) (by simp [lA])
  rw [hnl] at hB hC hlen ⊢
  have h1 := aVz ha hA (aVs hk)
  rw [aO, rB] at h1; rw [hlk] at hB
  have b4 := hB.split.2
  have b3 := hB.split.1.split.2
  have b2 := hB.split.1.split.1.split.2
  have b1 := hB.split.1.split.1.split.1
  simp only [A4, hlk, hdl, aO] at b1 b2 b3 b4 hC hlen ⊢
  have f1 : e1 s a = (e.key, ((a + (e.key.size + 1) : Nat) : Int)) := h1
  have f2 : e2 s a = (e.seq, ((a + (e.key.size + 1) + ((dec e.seq).size + 1) : Nat) : Int)) := by
    unfold e2; rw [f1]; exact yP ⟨og, og⟩ og b1
  have f3 : e3 s a = (e.kind, ((a + (e.key.size + 1) + ((dec e.seq).size + 1) + ((dec e.kind).size + 1) : Nat) : Int)) := by
    unfold e3; rw [f2]; exact yP ⟨og, og⟩ og b2
  have f4 : e4 s a = (e.n, ((a + (e.key.size + 1) + ((dec e.seq).size + 1 + ((dec e.kind).size + 1)) + ((dec e.n).size + 1) : Nat) : Int)) := by
    unfold e4; rw [f3, Nat.add_assoc (a + (e.key.size + 1))]; exact yP ⟨og, og⟩ og b3
  have f5 : e5 s a = ((e.text.size : Int), ((a + (e.key.size + 1) + ((dec e.seq).size + 1 + ((dec e.kind).size + 1) + ((dec e.n).size + 1)) + ((dec (e.text.size : Int)).size + 1) : Nat) : Int)) := by
    unfold e5; rw [f4, Nat.add_assoc (a + (e.key.size + 1))]; exact yP ⟨og, og⟩ og b4
  have hb : yR s a = false := by
    unfold yR; rw [f5]
    simp
    omega
  have hx := hC.ext
  rw [aO, rB] at hx; unfold wB; rw [hb, f1, f2, f3, f4, f5]; simp only [C4, if_false, Prod.mk.injEq]
  refine ⟨?_, og⟩
  rw [<- Int.natCast_add, Int.toNat_natCast, Int.toNat_natCast]
  have e0 : a + (e.key.size + 1) + ((dec e.seq).size + 1 + ((dec e.kind).size + 1) + ((dec e.n).size + 1)) + ((dec (e.text.size : Int)).size + 1) = a + (e.key.size + 1 + ((dec e.seq).size + 1 + ((dec e.kind).size + 1) + ((dec e.n).size + 1) + ((dec (e.text.size : Int)).size + 1))) := by omega
  rw [e0, hx]
def aVt (out : ByteArray) (e : Entry) : bL (pP out e) = bL out ++ entL e := by
  unfold pP entL; simp only [qR, qU, lA, List.flatMap_cons, List.flatMap_nil, F5, List.append_nil]
def aPz (ls : List Entry) : bL (bTx ls) = ls.flatMap entL := by
  have : ∀ (ls : List Entry) (out : ByteArray), bL (ls.foldl pP out) = bL out ++ ls.flatMap entL := by
    intro ls
    induction ls with
    | nil => intro out; simp
    | cons e r ih => intro out; rw [List.foldl_cons, ih, aVt, List.flatMap_cons, F5]
  unfold bTx
  rw [this]; rfl
def aLb (e : Entry) : 1 <= (entL e).length := by
  unfold entL
  rw [A4, A4, aO, B8, cA]; omega
def bGu (r : List Entry) : r.length <= (r.flatMap entL).length := by
  induction r with
  | nil => simp
  | cons e r ih =>
    have := aLb e
    rw [List.flatMap_cons, A4, C5]; omega
def aPr {s : ByteArray} : ∀ (r : List Entry) (f a : Nat) (out : List Entry), (∀ e ∈ r, bK e = true) -> a <= s.size -> Has s a (r.flatMap entL) -> a + (r.flatMap entL).length = s.size -> out.length + r.length <= 12 -> r.length <= f -> jO s f a out = (out ++ r, true)
  | [], f, a, out, _, _, _, hl, _, _ => by
    rw [aLo (by simp at hl; omega), List.append_nil]
  | e :: r, 0, a, out, _, _, _, _, _, hf => by simp at hf
  | e :: r, f + 1, a, out, he, ha, hh, hl, h12, hf => by
    rw [List.flatMap_cons] at hh hl
    have hp := aLb e
    rw [A4] at hl
    have h1 := bPv (he e A2) ha hh.split.1
    rw [C5] at h12 hf
    rw [jO, if_pos og, h1]
    have e1 : decide (12 <= (out.length : Int)) = false := decide_eq_false og
    simp only [e1, Bool.not_true, Bool.or_self, C4, if_false]
    rw [aPr r f _ _ (fun x hx => he x (A5 _ hx)) og hh.split.2 og (by rw [A4, List.length_singleton]; omega) og]
    simp
def aQk {s : ByteArray} : ∀ (r : List Entry) (f a : Nat) (out : List Entry), (∀ e ∈ r, bK e = true) -> a <= s.size -> Has s a (r.flatMap entL) -> a + (r.flatMap entL).length = s.size -> out.length + r.length <= 12 -> r.length < f -> mC s f (a : Int) out = out ++ r
  | [], 0, a, out, _, _, _, _, _, hf => by simp at hf
  | [], f + 1, a, out, _, _, _, hl, _, _ => by
    simp at hl
    have e1 : decide ((a : Int) < (s.size : Int)) = false := decide_eq_false og
    rw [mC, e1]; simp
  | e :: r, 0, a, out, _, _, _, _, _, hf => by simp at hf
  | e :: r, f + 1, a, out, he, ha, hh, hl, h12, hf => by
    rw [List.flatMap_cons] at hh hl
    have hp := aLb e
    rw [A4] at hl
    have h1 := bNe (he e A2) ha hh.split.1
    rw [C5] at h12 hf
    rw [mC, if_pos (by simp; omega), Int.toNat_natCast, h1]
    simp only
    rw [aQk r f _ _ (fun x hx => he x (A5 _ hx)) og hh.split.2 og (by rw [A4, List.length_singleton]; omega) og]
    simp
def Has.self (s : ByteArray) : Has s 0 (bL s) := by unfold Has; rw [List.drop_zero, E9]
def bBc {b : List Entry} (h : isB b = true) : jO (bTx b) (bTx b).size 0 [] = (b, true) := by
  obtain ⟨h1, h2, h3⟩ := bS h
  have hs := Has.self (bTx b)
  have hl := aO (bTx b)
  rw [aPz] at hs hl
  have hf := bGu b
  rw [aPr b _ 0 [] h1 (A3 _) hs og (by simpa using h3) og]; rfl
def aZz {b : List Entry} (h : isB b = true) : aHm (bTx b) = b := by
  obtain ⟨h1, h2, h3⟩ := bS h
  have hs := Has.self (bTx b)
  have hl := aO (bTx b)
  rw [aPz] at hs hl
  have := aQk b 14 0 [] h1 (A3 _) hs og (by simpa using h3) og
  unfold aHm
  rw [show (0 : Int) = ((0 : Nat) : Int) from rfl, this]; rfl
def aLe {b : List Entry} (h : isB b = true) : (bTx b).size <= 1884 := by
  obtain ⟨h1, h2, h3⟩ := bS h
  have := sQ b ⟨#[]⟩ fun e he => by have := gP (h1 e he); omega
  have h0 : (⟨#[]⟩ : ByteArray).size = 0 := rfl
  unfold bTx; omega
section
variable {b : List Entry} {s t : ByteArray} {a : Nat}
def aTl (h : isB b = true) : bL (fTx b) = bL (dec ((bTx b).size : Int) ++ spB) ++ bL (bTx b) ++ [10] := by
  unfold fTx
  rw [if_pos h, qR, qR]; rfl
def aLa (h : isB b = true) : (fTx b).size = (dec ((bTx b).size : Int)).size + 1 + (bTx b).size + 1 := by
  rw [<- aO, aTl h, A4, A4, aO, aO, B8, cA]; rfl
def Has.extT (h : Has s a (bL t)) : s.extract a (a + t.size) = t := by
  have := h.ext
  rw [aO, rB] at this; exact this
def bPl (h : isB b = true) (ha : a <= s.size) (hh : Has s a (bL (fTx b))) : bI s a = (b, true, a + (fTx b).size) := by
  have hsm := aLe h
  have hx := hh.extT
  have hlen := hh.len ha
  rw [aO] at hlen
  rw [aLa h] at hx hlen ⊢
  rw [aTl h] at hh
  have hA := hh.split.1.split.1
  have hB := hh.split.1.split.2
  have hC := hh.split.2
  have hl : ∀ n, (bL (dec n ++ spB)).length = (dec n).size + 1 := fun n => by rw [aO, B8, cA]
  simp only [A4, hl, aO] at hB hC
  have h1 := bNw (n := ((bTx b).size : Int)) ⟨og, og⟩ (aQn ⟨og, og⟩) ha hA
  have h2 := bIi og hB
  rw [aO, rB] at h2
  have h3 := bIi og hC
  rw [show ((([10] : List UInt8).length : Nat) : Int) = 1 from rfl, <- Nat.add_assoc a] at h3
  have hbad : aZk s a (a + ((dec ((bTx b).size : Int)).size + 1) + (bTx b).size + ([10] : List UInt8).length) b = false := by
    unfold aZk
    rw [h, show a + ((dec ((bTx b).size : Int)).size + 1) + (bTx b).size + ([10] : List UInt8).length = a + ((dec ((bTx b).size : Int)).size + 1 + (bTx b).size + 1) by simp only [List.length_singleton]; omega, hx]
    simp
  rw [List.length_singleton] at hbad; unfold bI; rw [h1]; simp only [if_true, h2, h3, bBc h, hbad, C4, if_false, List.length_singleton]
  refine Prod.ext rfl (Prod.ext rfl ?_)
  show (_ : Nat) = _
  simp only
  omega
def rL (h : isB b = true) (ha : a <= s.size) (hh : Has s a (bL (fTx b))) : aV s a = (b, ((a + (fTx b).size : Nat) : Int)) := by
  have hsm := aLe h
  have hx := hh.extT
  have hlen := hh.len ha
  rw [aO] at hlen
  rw [aLa h] at hx hlen ⊢
  rw [aTl h] at hh
  have hA := hh.split.1.split.1
  have hB := hh.split.1.split.2
  have hl : ∀ n, (bL (dec n ++ spB)).length = (dec n).size + 1 := fun n => by rw [aO, B8, cA]
  simp only [hl] at hB
  have h1 := yP (n := ((bTx b).size : Int)) ⟨og, og⟩ ha hA
  have hbx := hB.extT
  have hb : jN s a = false := by
    unfold jN; rw [h1]
    simp
    omega
  have hf : pB s a = b := by
    unfold pB; rw [h1]
    simp only
    rw [Int.toNat_natCast, <- Int.natCast_add, Int.toNat_natCast, hbx, aZz h]
  unfold aV; rw [hb, hf, h1]; simp only [C4, if_false]
  have e : (((a + ((dec ((bTx b).size : Int)).size + 1) : Nat) : Int) + ((bTx b).size : Int) + 1) = ((a + ((dec ((bTx b).size : Int)).size + 1 + (bTx b).size + 1) : Nat) : Int) := by omega
  rw [e, Int.toNat_natCast, hx]
  simp
def Has.of_toList {a b : Nat} (h : t.toList = (s.extract a b).toList) (hab : a <= b) (hb : b <= s.size) : Has s a (bL t) := by
  have e : ∀ x : ByteArray, x.toList = bL x := fun x => by rw [ByteArray.toList_eq]; rfl
  rw [e, e] at h
  have hl := congrArg List.length h
  rw [aO, aO, iI s a b hb] at hl
  exact Has.of_ext h.symm (by rw [aO]; omega)
def bGv (s : ByteArray) (hs : s.size <= 1048576) (a : Nat) (ha : a <= s.size) : (0 <= (aV s a).2 ↔ (bI s a).2.1 = true) /\ (0 <= (aV s a).2 -> (bI s a).1 = (aV s a).1 /\ (((bI s a).2.2 : Nat) : Int) = (aV s a).2) := by
  have hto : 0 <= (aV s a).2 -> bI s a = ((aV s a).1, true, (aV s a).2.toNat) := fun h => by
    have hb := aEt s hs a h
    have hg := rM s a h
    have hle := uJ s a
    have hh := Has.of_toList (aBx s a h) og og
    have h1 := rL hb ha hh
    rw [bPl hb ha hh]; rw [Prod.ext_iff] at h1; simp only [Prod.mk.injEq, true_and]
    have h2 := h1.2
    simp only at h2
    omega
  have hfrom : (bI s a).2.1 = true -> 0 <= (aV s a).2 := fun h => by
    have hg := aYx (s := s) ha
    generalize hr : bI s a = r at h hg
    unfold bI at hr; split at hr
    . split at hr
      . split at hr
        . split at hr
          . split at hr
            . subst hr; cases h
            rename_i hbad
            subst hr; unfold aZk at hbad
            simp only [D4, Bool.not_eq_true', not_or, Bool.not_eq_false, beq_iff_eq] at hbad
            simp only at hg
            have hh := Has.of_toList hbad.2 og og
            rw [rL hbad.1 ha hh]
            simp only; omega
          subst hr; cases h
        subst hr; cases h
      subst hr; cases h
    subst hr; cases h
  refine ⟨⟨fun h => by rw [hto h], hfrom⟩, fun h => ?_⟩
  rw [hto h]
  exact ⟨rfl, by simp only; omega⟩
end
def aUk (s : ByteArray) (hs : s.size <= 1048576) : ∀ (f g a : Nat) (out : List (List Entry)), a <= s.size -> s.size - a < f -> s.size - a <= g -> (sP s f a out).1 = (cV s g a out).1 /\ (((sP s f a out).2 : Nat) : Int) = (cV s g a out).2
  | 0, g, a, out, _, hf, _ => by omega
  | f + 1, 0, a, out, ha, hf, hg => by
    have h1 := aYx (s := s) ha
    have hno : ¬ (bI s a).2.1 = true := fun h => by have := h1.2.2 h; omega
    rw [sP, if_neg hno, cV]
    exact ⟨rfl, rfl⟩
  | f + 1, g + 1, a, out, ha, hf, hg => by
    have h1 := aYx (s := s) ha
    obtain ⟨h2, h3⟩ := bGv s hs a ha
    by_cases h : (bI s a).2.1 = true
    . have hp := h1.2.2 h
      have h0 := h2.2 h
      obtain ⟨e1, e2⟩ := h3 h0
      rw [sP, if_pos h, cV, if_pos og, if_neg og, <- e1, <- e2, Int.toNat_natCast]
      exact aUk s hs f g _ _ og og og
    have h0 : (aV s a).2 < 0 := by
      refine Int.not_le.1 fun h0 => h (h2.1 h0)
    rw [sP, if_neg h, cV]; split
    . first | exact ⟨rfl, rfl⟩ | (rw [if_pos h0]; exact ⟨rfl, rfl⟩)
    exact ⟨rfl, rfl⟩
def aFt (s : ByteArray) (hs : s.size <= 1048576) : (raI s).1 = (bO s).1 := (aUk s hs _ _ 0 [] (A3 _) og og).1
def bFj (s : ByteArray) (hs : s.size <= 1048576) : (((raI s).2 : Nat) : Int) = (bO s).2 := (aUk s hs _ _ 0 [] (A3 _) og og).2
def bDd {s : Store} (h : s.disk.log.size <= 1048576) : tW s = dX s := by
  unfold tW dX; rw [aFt _ h, <- bBh]
def bNo {s : Store} (h : s.disk.log.size <= 1048576) (hq : 0 <= s.disk.seq) : upI s = upS s := by
  have h2 := bFj s.disk.log h
  have hb : aCd s = aQf s := by
    unfold aCd aQf; rw [zO, show decide (s.disk.seq < 0) = false from decide_eq_false og, Bool.or_false, decide_eq_decide.2 (show s.tree.levels = s.disk.levels ↔ s.disk.levels = s.tree.levels from ⟨Eq.symm, Eq.symm⟩)]
  unfold upI upS; rw [hb, aFt _ h, <- bBh, h2]; split
  . rfl
  split
  . rename_i hn
    rw [decide_eq_false hn]; rfl
  rename_i hn
  rw [decide_eq_true (Classical.not_not.1 hn), Bool.true_and, Bool.and_comm]
def bCj (d : Disk) (s : Store) (hs : s.disk = d) : qQ d = (!nL s && dE ⟨d.seq, [], d.levels, []⟩) := by
  subst hs; unfold qQ nL; rw [zO]; split
  . rename_i h
    have e : ((decide (12000 < (s.disk.log.size : Int)) || decide (s.disk.safe < 0)) || decide ((s.disk.log.size : Int) < s.disk.safe)) = true := by
      simp only [D4, decide_eq_true_eq]; omega
    rw [e]; rfl
  rename_i h
  have e : ((decide (12000 < (s.disk.log.size : Int)) || decide (s.disk.safe < 0)) || decide ((s.disk.log.size : Int) < s.disk.safe)) = false := by
    simp only [Bool.or_eq_false_iff, decide_eq_false_iff_not]; omega
  rw [e]; rfl
def aZx {t : Tree} (h : dE t = true) : 0 <= t.seq := by
  unfold dE at h; split at h
  . cases h
  rename_i hb
  simp [qE] at hb
  omega
def mD (s : Store) : bM s = aF s := by
  have hd := bCj s.disk s rfl
  unfold bM aF; rw [hd]
  cases h1 : nL s with
  | true => rfl
  | false =>
    cases h2 : dE ⟨s.disk.seq, [], s.disk.levels, []⟩ with
    | false => rfl
    | true =>
      have hq : 0 <= s.disk.seq := aZx h2
      have hl : s.disk.log.size <= 12000 := by
        simp [nL] at h1; omega
      simp only [Bool.not_false, Bool.and_self, Bool.true_eq_false, C4, if_false]; split
      . exact bNo og hq
      have ho := bDd (s := s) og
      have hol := aDr s hl
      have hdo := bCj (dX s).disk (dX s) rfl
      have hq2 : (dX s).disk.seq = s.disk.seq := rfl
      have hlv : (dX s).disk.levels = s.disk.levels := rfl
      have hsf : (dX s).disk.safe = ((dX s).disk.log.size : Int) := rfl
      have hb : nL (dX s) = false := by
        unfold nL; rw [hsf]
        simp only [Bool.or_eq_false_iff, decide_eq_false_iff_not]; omega
      rw [hb, hq2, hlv, h2] at hdo; unfold sR
      rw [ho, hdo, if_neg dg, bNo og (by rw [hq2]; exact hq)]
def aVk {a b : Tree} (h : eY a b = true) : a = b := by
  unfold eY at h
  simp only [B7, decide_eq_true_eq] at h
  cases a; cases b
  simp only at h
  obtain ⟨⟨⟨rfl, rfl⟩, rfl⟩, rfl⟩ := h
  rfl
section
variable {α : Type} {a : Addr} {t : Nat}
section
variable {H : Type} {enc : TypeId × Value -> H} {w : World} {base : Nat} {sp : Nat -> Bool} {held : Bool} {ρ : Nat -> Value} {av : Nat -> Prop}
def bHx {n : Nat} {cs : List Value} (h : w.cells? base a n = some cs) : cs.length = n /\ ∀ (k : Nat) (v : Value), cs[k]? = some v -> w.cell? (a.add k) = some v := by
  unfold World.cells? at h
  split at h
  . have hl := mapM_some_length h
    refine ⟨by simpa using hl, fun k v hk => ?_⟩
    have hkl := (B2.1 hk).1
    have hkn : k < n := by have : cs.length = n := by simpa using hl
                           omega
    have := mapM_some_get h k k (by simp [hkn])
    rw [this]; exact hk
  cases h
def aWx (h : a.spot = none) (n : Nat) : a.add n = ⟨a.block, a.off + n, none⟩ := by
  unfold Addr.add; split
  . rename_i e; subst e; cases a; simp at h; subst h; rfl
  cases a; rfl
def aRj {v : Value} (h : w.cell? a = some v) : a.spot = none /\ ∃ cells t fr, w.heap[a.block]? = some (.cells cells t fr) /\ cells[a.off]? = some v := by
  unfold World.cell? at h
  split at h
  . rename_i c t fr hh
    cases hs : a.spot with
    | none => rw [hs] at h; exact ⟨rfl, c, t, fr, hh, by simpa using h⟩
    | some s => rw [hs] at h; simp at h
  cases h
def bOd (val : α -> Value) (f : α -> AV) (good : α -> Prop) (sz : Nat) (hsz : 0 < sz) (hcl : ∀ x, good x -> (val x).cells.size = sz) (hrep : ∀ x, good x -> Rep ρ av w.heap (f x) (val x))
    (hav : ∀ b, ¬ av b) {len cap : Nat} (hlc : len <= cap) (hcm : cap <= maxLen)
    (h : ∀ i, i < len -> ∃ x, w.cells? base (a.add (i * sz)) sz = some (val x).cells.toList /\ good x) :
    ∃ xs : List α, xs.length = len /\ (∀ x ∈ xs, good x) /\ Rep ρ av w.heap (.sl sz (xs.map f)) (.slice (some a) len cap) := by
  have hlist : ∀ n, n <= len -> ∃ xs : List α, xs.length = n /\ ∀ (i : Nat) (x : α), xs[i]? = some x -> w.cells? base (a.add (i * sz)) sz = some (val x).cells.toList /\ good x := by
    intro n
    induction n with
    | zero => exact fun _ => ⟨[], rfl, fun i x hi => by simp at hi⟩
    | succ n ih =>
      intro hn
      obtain ⟨xs, h1, h2⟩ := ih og
      obtain ⟨x, hx⟩ := h n og
      refine ⟨xs ++ [x], by simp [h1], fun i y hi => ?_⟩
      rcases Nat.lt_or_ge i n with h3 | h3
      . rw [G3 og] at hi
        exact h2 i y hi
      rw [G4 og] at hi
      have hin : i = n := by
        have := (B2.1 hi).1
        simp at this; omega
      subst hin; rw [h1] at hi; simp at hi; subst hi; exact hx
  obtain ⟨xs, h1, h2⟩ := hlist len (A0 _)
  refine ⟨xs, h1, fun x hx => ?_, ?_⟩
  . obtain ⟨i, hi⟩ := F8 hx
    exact (h2 i x hi).2
  rcases Nat.eq_zero_or_pos len with h0 | h0
  . have : xs = [] := G6 og
    subst this; rw [h0]
    exact .sl0 sz (some a) cap hcm
  obtain ⟨x0, hx0⟩ : ∃ x0, xs[0]? = some x0 := ⟨_, A1 og⟩
  have hg : ∀ (i : Nat) (x : α), xs[i]? = some x -> (val x).cells.size = sz := fun i x hi => hcl x (h2 i x hi).2
  have hcell : ∀ (i : Nat) (x : α), xs[i]? = some x -> ∀ k v, (val x).cells.toList[k]? = some v -> w.cell? ((a.add (i * sz)).add k) = some v := fun i x hi => (bHx (h2 i x hi).1).2
  obtain ⟨v0, hv0⟩ : ∃ v0, (val x0).cells.toList[0]? = some v0 := ⟨_, A1 (by rw [Array.length_toList, hg 0 x0 hx0]; exact hsz)⟩
  have hc0 := hcell 0 x0 hx0 0 v0 hv0
  have h00 : (a.add (0 * sz)).add 0 = a := by simp [Addr.add]
  rw [h00] at hc0
  obtain ⟨hspot, cells, t, fr, hh, _⟩ := aRj hc0
  have hget : ∀ (i : Nat) (x : α), xs[i]? = some x -> ∀ k v, (val x).cells.toList[k]? = some v -> cells[a.off + i * sz + k]? = some v := fun i x hi k v hk => by
    have := hcell i x hi k v hk
    rw [aWx hspot, aWx rfl] at this
    obtain ⟨_, c2, t2, fr2, hh2, h3⟩ := aRj this
    have hh2' : w.heap[a.block]? = some (.cells c2 t2 fr2) := hh2
    rw [hh] at hh2'
    cases hh2'
    exact h3
  have hlen : (xs.map f).length = len := by rw [A8, h1]
  have ha : a = ⟨a.block, a.off, none⟩ := by cases a; simp at hspot; subst hspot; rfl
  have hvals : ∀ (i : Nat) (x : α), xs[i]? = some x -> ((xs[i]?).map val).getD undef = val x := fun i x hi => by rw [hi]; rfl
  have := Rep.sl (ρ := ρ) (av := av) (hp := w.heap) sz (xs.map f) a.block a.off cap cells t fr (fun i => ((xs[i]?).map val).getD undef) og og hcm (hav _) hh (fun j y hj => by
    rw [B5] at hj
    obtain ⟨x, hx, rfl⟩ := B0.1 hj
    show Rep ρ av w.heap (f x) (((xs[j]?).map val).getD undef)
    rw [hvals j x hx]
    exact hrep x (h2 j x hx).2) (fun j hj => by
    obtain ⟨x, hx⟩ : ∃ x, xs[j]? = some x := ⟨_, A1 og⟩
    show (((xs[j]?).map val).getD undef).cells.size = sz /\ _
    rw [hvals j x hx]
    refine ⟨hg j x hx, fun k hk => ?_⟩
    obtain ⟨v, hv⟩ : ∃ v, (val x).cells.toList[k]? = some v := ⟨_, A1 (by rw [Array.length_toList, hg j x hx]; exact hk)⟩
    show cells[a.off + j * sz + k]? = (((xs[j]?).map val).getD undef).cells[k]?
    rw [hvals j x hx, hget j x hx k v hv]
    rw [<- D5, hv])
  rw [hlen] at this; rw [ha]; exact this
def Op (H : Type) (enc : TypeId × Value -> H) (w : World) (base : Nat) (sp : Nat -> Bool) (held : Bool) (ρ : Nat -> Value) (av : Nat -> Prop) (t sz : Nat) (g : α -> AV) (good : α -> Prop) : Prop :=
  ∀ fuel cs x, DataW.trod enc P w base sp held fuel t cs = some x -> ∃ a v, good a /\ v.cells = cs.toArray /\ cs.length = sz /\ (sz = 1 -> cs = [v]) /\ (sz ≠ 1 -> v = .agg cs.toArray) /\ Rep ρ av w.heap (g a) v
def bMa (u : P.underlying t = some (.int .u8)) : Op H enc w base sp held ρ av t 1 byteAV (fun _ => True) := by
  intro fuel cs x h
  obtain ⟨n, rfl, _, hw⟩ := DataW.trod_int u h
  have hmin : IntKind.u8.min = 0 := rfl
  have hmax : IntKind.u8.max = 255 := rfl
  have hn : 0 <= n /\ n <= 255 := by simp [Lit.wf, IntKind.has] at hw; omega
  have e : ((UInt8.ofNat n.toNat).toNat : Int) = n := by
    show ((n.toNat % 256 : Nat) : Int) = n
    omega
  refine ⟨UInt8.ofNat n.toNat, _, trivial, rfl, rfl, fun _ => rfl, fun h => (h rfl).elim, ?_⟩
  unfold byteAV; rw [e]
  exact .raw _
def bPs {t e sz : Nat} {g : α -> AV} {good : α -> Prop} (hav : ∀ b, ¬ av b) (u : P.underlying t = some (.slice e)) (hz : P.cellsOf e = sz) (h0 : 0 < sz) (O : Op H enc w base sp held ρ av e sz g good) :
    Op H enc w base sp held ρ av t 1 (fun ls : List α => .sl sz (ls.map g)) (fun ls => ls.length <= maxLen /\ ∀ l ∈ ls, good l) := by
  intro fuel cs x h
  rcases DataW.trod_slice u h with ⟨h1, _⟩ | ⟨a, len, cap, elems, rest, n, _, h1, _, hb, hlc, hcm, hel, hi, _⟩
  . subst h1
    exact ⟨[], _, ⟨A3 _, by simp⟩, rfl, rfl, fun _ => rfl, fun h => (h rfl).elim, .sl0 sz none 0 (A3 _)⟩
  subst h1; rw [hz] at hi
  obtain ⟨ls, k1, k2, k3⟩ := bOd (w := w) (base := base) (α := α × Value) (fun x => x.2) (fun x => g x.1) (fun x => good x.1 /\ x.2.cells.size = sz /\ Rep ρ av w.heap (g x.1) x.2) sz h0 (fun x hx => hx.2.1) (fun x hx => hx.2.2) (ρ := ρ) (av := av) hav hlc hcm (fun i hil => by
      have := hi i hil
      rw [A1 og] at this
      obtain ⟨cs, hcs, ht⟩ := G7.1 this
      obtain ⟨p, v, q1, q2, q3, _, _, q4⟩ := O _ _ _ ht
      exact ⟨(p, v), by rw [hcs, q2], q1, by rw [q2]; simpa using q3, q4⟩)
  refine ⟨ls.map (·.1), _, ⟨by rw [A8]; omega, fun p hp => ?_⟩, rfl, rfl, fun _ => rfl, fun h => (h rfl).elim, by show Rep ρ av w.heap (.sl sz ((ls.map fun x => x.1).map g)) _; rw [List.map_map]; exact k3⟩
  obtain ⟨q, hq, rfl⟩ := A9.1 hp
  exact (k2 q hq).1
end
section
variable {H : Type} {enc : TypeId × Value -> H} {w : World} {base : Nat} {sp : Nat -> Bool} {held : Bool} {ρ : Nat -> Value} {av : Nat -> Prop}
def uB : P.underlying 4 = some .bool := kr
def bIx (hav : ∀ b, ¬ av b) : Op H enc w base sp held ρ av 22 1 (fun ls : List UInt8 => .sl 1 (ls.map byteAV)) (fun ls => ls.length <= maxLen /\ ∀ l ∈ ls, True) := bPs hav uBS ceU og (bMa (by kernel_rfl : P.underlying 5 = some (.int .u8)))
end
end
end Go.Proofs.S
end
section
open Go Go.Abs Go.Proofs Go.Proofs.Tryz
open Go.ChangeShapes Go.WideShapes Go.RowKit Go.Proofs.YtaaomkdcmncjnaaGreatDoor
namespace Go.Proofs.S
def bQb : ownKnob P.godebug = none := kr
def bQa : laidOutB P = true := kr
def bQf : P.underlying 89 = some (.interface #[("Error", 94)]) := kr
def bQm : P.readableRec 22 = true := kr
def aIl {w : World} : ∀ {l : List (String × DataW Unit)} {ps : List MemPlace}, DataW.LaidVars P w l ps -> ∀ {n : String} {d : DataW Unit}, (n, d) ∈ l ->
    ∃ t cs fuel p, ∀ g, P.globalNamed n = some g -> (P.globals[g]?).map (·.type) = some t /\ (∃ u fr, w.heap[g]? = some (.cells cs u fr)) /\ DataW.trod (fun _ => ()) P w 0 (fun _ => true) false fuel t cs.toList = some (d, p)
  | [], _, _, _, _, hm => by cases hm
  | (n', d') :: l, ps, h, n, d, hm => by
    obtain ⟨g, t, cs, fuel, p, q, h1, h2, h3, h4, h5, _⟩ := h
    rcases A7.1 hm with e | hm
    . cases e
      refine ⟨t, cs, fuel, p, fun g' hg' => ?_⟩
      obtain rfl := Option.some.inj (h1.symm.trans hg')
      refine ⟨h2, ?_, h4⟩
      simp only [World.var?, h1, Option.bind_some] at h3
      split at h3
      . rename_i cs' u fr hb; cases h3; exact ⟨u, fr, hb⟩
      cases h3
    exact aIl h5 hm
def bPk {w : World} {l : List (String × DataW Unit)} (hL : laidMet P l w) (m0 : ("internal/strconv.uint64pow10", (Rows.laid_internal_strconv_uint64pow10 : DataW Unit)) ∈ l) (m1 : ("strconv.ErrSyntax", (Rows.laid_strconv_ErrSyntax : DataW Unit)) ∈ l) (m2 : ("strconv.ErrRange", (Rows.laid_strconv_ErrRange : DataW Unit)) ∈ l) :
    ∀ g, Globals.on g -> ∃ o, w.heap[g]? = some o /\ Globals.G0 g o := by
  obtain ⟨ps, hv, _, _⟩ := hL
  intro g hg
  rcases hg with rfl | rfl | rfl
  . obtain ⟨t, cs, fuel, p, h⟩ := aIl hv m0
    obtain ⟨ht, ⟨u, fr, hh⟩, hd⟩ := h 0 kr
    obtain rfl : 205 = t := Option.some.inj ((show (P.globals[0]?).map (·.type) = some 205 by kernel_rfl).symm.trans ht)
    have e := Lib.cells_of_tab (k := .u64) (zs := Lib.pow10Tab) (e := 183) (n := 20) kr kr kr kr (show _ = some (Lib.tabData .u64 Lib.pow10Tab, p) from hd)
    have hcs : cs = ((Lib.pow10Tab.map fun z => Value.int .u64 z)).toArray := by rw [<- e]
    exact ⟨_, hh, fun _ => ⟨u, fr, by rw [hcs]⟩, fun h => by omega, _, _, _, rfl⟩
  . obtain ⟨t, cs, fuel, p, h⟩ := aIl hv m1
    obtain ⟨ht, ⟨u, fr, hh⟩, hd⟩ := h 1 kr
    obtain rfl : 89 = t := Option.some.inj ((show (P.globals[1]?).map (·.type) = some 89 by kernel_rfl).symm.trans ht)
    obtain ⟨_, a, b, e, _, _⟩ := iface_of_trod (bQf) hd
    have hcs : cs = #[.iface a b] := by cases cs; simpa using e
    exact ⟨_, hh, fun h => by omega, fun _ => ⟨a, b, u, fr, by rw [hcs]⟩, _, _, _, rfl⟩
  obtain ⟨t, cs, fuel, p, h⟩ := aIl hv m2
  obtain ⟨ht, ⟨u, fr, hh⟩, hd⟩ := h 2 kr
  obtain rfl : 89 = t := Option.some.inj ((show (P.globals[2]?).map (·.type) = some 89 by kernel_rfl).symm.trans ht)
  obtain ⟨_, a, b, e, _, _⟩ := iface_of_trod (bQf) hd
  have hcs : cs = #[.iface a b] := by cases cs; simpa using e
  exact ⟨_, hh, fun h => by omega, fun _ => ⟨a, b, u, fr, by rw [hcs]⟩, _, _, _, rfl⟩
def C0 : Conc := { ρ := fun _ => .pointer (some ⟨0, 0, none⟩), one := fun _ => rfl, own := fun _ => [], X := fun _ => False, B := 0 }
def bNu (b : Nat) : ¬ C0.avoid [] b := by
  rintro (h | ⟨i, o, h, _⟩)
  . exact h
  simp [Abs.get] at h
def bPc {w : World} (gl : ∀ g, Globals.on g -> ∃ o, w.heap[g]? = some o /\ Globals.G0 g o) : RelH C0 [] (UU 0) w where
  obj := fun i o h => by simp [Abs.get] at h
  apart := fun i j oi oj b _ h => by simp [Abs.get] at h
  xapart := fun i o b h => by simp [Abs.get] at h
  xlt := fun b h => h.elim
  objb := fun i o h => by simp [Abs.get] at h
  gl := fun g hg => by obtain ⟨o, h1, h2⟩ := gl g hg; exact ⟨o, h1, h2, bNu g⟩
def bGn {w w' : World} {C' : Conc} {H' : Heap} (h : StepR C0 [] (UU 0) w C' H' w') : Below w.heap.size w w' :=
  ⟨h.os, h.tape, h.output, h.size, fun k hk => h.keep k hk fun ⟨i, o, hi, _⟩ => by simp [Abs.get] at hi⟩
def bJb {w : World} {base : Nat} {t e : Nat} {v : Value} (u : P.underlying t = some (.slice e)) (h : Value.okWide P w .any base t v) : v.cells.toList = [v] := by
  simp only [Value.okWide, u] at h
  cases v <;> simp_all [Cell.okWide, Cell.ok, u, Value.cells]
end Go.Proofs.S
end
section
open Go Go.Abs Go.Proofs Go.Proofs.Tryz
namespace Go.Proofs.S
def bEa (older iW : Int) (ts : List Int) (i : Nat) : Bool := match ts[i]? with
  | some s => !(decide (older <= s) && decide (s < iW))
  | none => true
def apB (older iW : Int) (ts : List Int) : Bool := !(List.range ts.length).all (bEa older iW ts)
def rS : Entry -> Bool -> List Entry -> Entry
  | o, _, [] => o
  | o, f, e :: r => if e.kind = 3 then rS { o with n := o.n + e.n } false r
    else if e.kind = 1 then { o with kind := 1, text := e.text, n := o.n + e.n } else if f = true then { o with kind := 2 } else { o with kind := 1 }
def aDu (x : Entry) : Entry := ⟨x.key, x.seq, 3, ⟨#[]⟩, 0⟩
def rI (ls : List Entry) : Entry := match ls with
  | [] => iO
  | x :: _ => rS (aDu x) true ls
def sqC (ls : List Entry) (bare : Bool) : List Entry := if (decide (1000000 < (rI ls).n) || decide ((rI ls).n < -1000000)) = true then ls
  else if bare = true then (if (rI ls).kind = 2 then [] else if (rI ls).kind = 3 then [{ rI ls with kind := 1 }] else [rI ls]) else [rI ls]
def pI : Entry -> Bool -> List Entry -> Entry
  | o, _, [] => o
  | o, f, e :: r => if e.kind = 1 then { o with kind := 1, text := e.text, n := o.n + e.n }
    else if e.kind = 2 then (if f = true then { o with kind := 2, n := o.n + e.n } else { o with kind := 1, n := o.n + e.n }) else pI { o with n := o.n + e.n } false r
def vM (ls : List Entry) : Entry := match ls with
  | [] => iO
  | x :: _ => pI (aDu x) true ls
def jC (ls : List Entry) (last : Bool) : List Entry := if nN (vM ls).n = false then ls
  else if (last && decide ((vM ls).kind = 2)) = true then [] else if (last && decide ((vM ls).kind = 3)) = true then [{ vM ls with kind := 1 }] else [vM ls]
def aEa (ls : List Entry) : Prop := ls.length <= 1048576 /\ ∀ e ∈ ls, -1000000 <= e.n /\ e.n <= 1000000
def aMi (ts : List Int) (o n : Int) (hz : ts.length <= 4611686018427387904) : aJ P 204 [.sl 1 (ts.map inA), Ni o, Ni n] [] 0 (Nb (apB o n ts)) := by
 refine (pq 28 [.tmp 6] func204) ((aj) ?_)
 refine aA fun k2 => (aj) (wb ?_)
 refine wa ts.length (bEa o n ts) (fun x => ([(0, .sl 1 (ts.map inA)), (1, Ni o), (2, Ni n), (7, Ni (x : Int))], [])) 0 [] ?_ ?_
 . exact jc
 rintro i ⟨hi, hall⟩
 refine aA fun k4 => (aj) ((cdB) ?_ ?_) <;> intro hc1
 . have hge := gec hc1
   refine we ((jt) (k2 ((aj) (wR ?_))))
   have h9 : apB o n ts = false := by unfold apB; rw [gE hge hall]; rfl
   exact fq h9
 obtain ⟨hlt, l, hl, hdrop, hml⟩ := ixc hc1
 refine wk (k4 (aA fun k6 => wb (sr rfl fun k7 => ?_)))
 simp only [go_sem, hl, inA]
 refine (jr) (k7 ((cdA) ?_ ?_)) <;> intro hc2
 . have hp : bEa o n ts i = false := by unfold bEa; rw [hl]; simp only [hc2]; rfl
   refine (aj) (wR ((Ah) ?_))
   have h9 : apB o n ts = true := by unfold apB; rw [gZ hlt hp]; rfl
   exact fq h9
 have hp : bEa o n ts i = true := by unfold bEa; rw [hl]; simp only [hc2]; rfl
 refine wk ((jt) (k6 ((jw (wiS i og)) ((jt) ?_))))
 refine ⟨i + 1, ⟨og, cO hall hp⟩, og, [], ?_⟩
 exact jo
def aPa (ls : List Entry) (hz : aEa ls) (hne : ls ≠ []) : aJ P 213 [.sl 5 (ls.map enA)] [] 0 (.tup [enA (vM ls), Nb (nN (vM ls).n)]) := by
 refine (pq 50 [.cell 2 43, .tmp 3] func213) ?_
 have hlen := hz.1
 have hpos : 0 < ls.length := E8.2 hne
 obtain ⟨y, r, hy⟩ := H3 hne
 have hy0 : ls[0]? = some y := by rw [hy]; rfl
 have h0 : pI (aDu y) (decide ((0 : Nat) = 0)) (ls.drop 0) = vM ls := by rw [hy]; rfl
 refine (aj) ?_
 refine sd mixed rfl fun k2 => (Ce hy0) ((jr) ((jy) (k2 (aA fun k3 => (aj) (wb ?_)))))
 refine wl (α := Nat × Entry) (fun x => x.1 <= ls.length /\ -(1000000 * (x.1 : Int)) <= x.2.n /\ x.2.n <= 1000000 * (x.1 : Int) /\ pI x.2 (decide (x.1 = 0)) (ls.drop x.1) = vM ls) (fun x => ls.length - x.1) (fun x => ([(0, .sl 5 (ls.map enA)), (2, .ptr 0 0), (4, .ptr 1 0), (5, Ni (x.1 : Int))], [(0, .cells 43 [Ns ⟨#[]⟩, Ni 0, Ni 0, Ns ⟨#[]⟩, Ni 0]), (1, .cells 43 [Ns x.2.key, Ni x.2.seq, Ni x.2.kind, Ns x.2.text, Ni x.2.n])])) 2 (0, aDu y) ⟨A3 _, by simp [aDu], by simp [aDu], h0⟩ [] ?_ ?_
 . simp only [go_sem, AObj.bel, Int.natCast_zero, aDu] <;> simp
 rintro ⟨i, o⟩ ⟨hi, hn0, hn1, hgo⟩
 simp only at hi hn0 hn1 hgo ⊢
 refine aA fun k5 => (aj) ((cdB) ?_ ?_) <;> intro hc1
 . have hge := gec hc1
   rw [E5 hge, pI] at hgo
   refine we ((jt) (k3 (sd mixed rfl fun k21 => (ja) ?_)))
   refine tp rfl rfl rfl ⟨func151, rfl, rfl⟩ (mW _) rfl oG ?_
   refine (Bg) ((jy) (k21 (wR ?_)))
   refine fO ?_ ⟨eL _ _, trivial, trivial⟩
   simp only [go_sem, enA, <- hgo]
 obtain ⟨hlt, l, hl, hdrop, hml⟩ := ixc hc1
 have hnl := hz.2 l hml
 have hwn := wr (o.n + l.n) (o.n + l.n) og
 rw [hdrop, pI] at hgo
 refine wk (k5 (aA fun k7 => wb (sr rfl fun k8 => (Am hl) ((jr) (k8 (sr rfl fun k9 => (Aa hwn) (k9 (aA fun k10 => (aj) ((cdA) ?_ ?_))))))))) <;> intro hc2
 . have n2 : l.kind = 1 := by simpa using hc2
   rw [if_pos n2] at hgo
   refine (aj) ((aj) (we ((jt) (k3 (sd mixed rfl fun k14 => (ja) ?_)))))
   refine tp rfl rfl rfl ⟨func151, rfl, rfl⟩ (mW _) rfl oG ?_
   refine (Bg) ((jy) (k14 (wR ?_)))
   refine fO ?_ ⟨eL _ _, trivial, trivial⟩
   simp only [go_sem, enA, <- hgo]
 have n2 : ¬ l.kind = 1 := by simpa using hc2
 rw [if_neg n2] at hgo
 refine wk (k10 ((aj) ((cdB) ?_ ?_))) <;> intro hc3
 . have n3 : ¬ l.kind = 2 := by simpa using hc3
   rw [if_neg n3] at hgo
   refine wk ((jt) (k7 ((jw (wiS i og)) ((jt) ?_))))
   refine ⟨(i + 1, { o with n := o.n + l.n }), ⟨og, by simp only; omega, by simp only; omega, hgo⟩, og, [], ?_⟩
   exact jz
 have n3 : l.kind = 2 := by simpa using hc3
 rw [if_pos n3] at hgo
 refine (aj) ?_
 refine aA fun k17 => (aj) ((cdA) ?_ ?_) <;> intro hc4
 . have n4 : i = 0 := by simp at hc4; omega
   rw [if_pos (by simp [n4])] at hgo
   refine wg rfl ((ja) (k17 (we ((jt) (k3 (sd mixed rfl fun k19 => (ja) ?_))))))
   refine tp rfl rfl rfl ⟨func151, rfl, rfl⟩ (mW _) rfl oG ?_
   refine (Bg) ((jy) (k19 (wR ?_)))
   refine fO ?_ ⟨eL _ _, trivial, trivial⟩
   simp only [go_sem, enA, <- hgo]
 have n4 : ¬ i = 0 := by simp at hc4; omega
 rw [if_neg (by simp [n4])] at hgo
 refine wk (k17 (we ((jt) (k3 (sd mixed rfl fun k20 => (ja) ?_)))))
 refine tp rfl rfl rfl ⟨func151, rfl, rfl⟩ (mW _) rfl oG ?_
 refine (Bg) ((jy) (k20 (wR ?_)))
 refine fO ?_ ⟨eL _ _, trivial, trivial⟩
 simp only [go_sem, enA, <- hgo]
def aMv (ls : List Entry) (last : Bool) (hz : aEa ls) (hne : ls ≠ []) : aJ P 203 [.sl 5 (ls.map enA), Nb last] [] 0 (.sl 5 ((jC ls last).map enA)) := by
 refine (pq 33 [.tmp 4] func203) ?_
 have hmx := mxl
 have hlen := hz.1
 refine (aj) ?_
 refine sr rfl fun k2 => (ja) ?_
 refine vs rfl rfl rfl func213 (aPa ls hz hne) Af Af ?_
 refine (Bg) (k2 (aA fun k3 => (aj) ((cdA) ?_ ?_))) <;> intro hc1
 . have hs : nN (vM ls).n = false := by simpa using hc1
   refine sr rfl fun k5 => (Av) ((jr) (k5 ?_))
   have h9 : jC ls last = ls := by unfold jC; rw [if_pos hs]
   refine aFz 2 rfl ?_
   refine (Ad) (wR ?_)
   refine fO ?_ (enB _ _)
   exact Ac h9
 have hs : ¬ nN (vM ls).n = false := by simpa using hc1
 refine wk (k3 (aA fun k6 => (aj) ((cdA) ?_ ?_))) <;> intro hc2
 . have hl2 := hc2
   refine sr rfl fun k8 => (ja) ((jr) (k8 ?_))
   have h9 : jC ls last = [] := by unfold jC; rw [if_neg hs, if_pos hl2]
   refine aFz 1 rfl ?_
   refine (Ad) (wR ?_)
   refine fO ?_ (enB _ _)
   simp only [go_sem, h9, List.map_nil]
 have hl2 := hc2
 refine wk (k6 (aA fun k9 => (aj) ((cdA) ?_ ?_))) <;> intro hc3
 . have hl3 := hc3
   refine wg rfl ((ja) (k9 (sr rfl fun k11 => (ja) ((jr) (k11 ?_)))))
   have h9 : jC ls last = [{ vM ls with kind := 1 }] := by unfold jC; rw [if_neg hs, if_neg (by rw [hl2]; simp), if_pos hl3]
   refine aFz 1 rfl ?_
   refine (Ad) (wR ?_)
   refine fO ?_ (enB _ _)
   simp only [go_sem, h9, List.map_cons, List.map_nil, enA]
 have hl3 := hc3
 refine wk (k9 (sr rfl fun k12 => (ja) ((jr) (k12 ?_))))
 have h9 : jC ls last = [vM ls] := by unfold jC; rw [if_neg hs, if_neg (by rw [hl2]; simp), if_neg (by rw [hl3]; simp)]
 refine aFz 1 rfl ?_
 refine (Ad) (wR ?_)
 refine fO ?_ (enB _ _)
 simp only [go_sem, h9, List.map_cons, List.map_nil, enA]
def qD (ls : List Entry) (i : Nat) : Entry := (ls[i]?).getD iO
def uQ {ls : List Entry} {i : Nat} (h : i < ls.length) : ls[i]? = some (qD ls i) := by
  unfold qD; rw [A1 h]; rfl
def bDk (ts : List Int) (ls : List Entry) (i : Nat) : Bool := apB (qD ls i).seq (cB ls i).seq ts
def mM (ts : List Int) (ls : List Entry) : Nat -> Nat -> Nat -> List (List Entry)
  | 0, _, _ => []
  | f + 1, s, i => if (decide ((i : Int) < (ls.length : Int)) && !bDk ts ls i) = true then mM ts ls f s (i + 1) else (ls.take i).drop s :: mM ts ls f i (i + 1)
def mK (ts : List Int) (ls : List Entry) : List (List Entry) := mM ts ls ls.length 0 1

def lfL (f : List Entry -> Bool -> List Entry) : List (List Entry) -> Bool -> List (List Entry) × Bool
  | [], b => ([], b)
  | c :: r, b => (f c (lfL f r b).2 :: (lfL f r b).1, (lfL f r b).2 && decide (((f c (lfL f r b).2).length : Int) = 0))
def sqK (ts : List Int) (ls : List Entry) (bottom : Bool) : List Entry := (lfL sqC (mK ts ls) bottom).1.flatten
def aFl (ts : List Int) (ls : List Entry) : ∀ f s i, f + i = ls.length + 1 -> s <= i -> (mM ts ls f s i).flatten.length <= ls.length - s
  | 0, s, i, h, hs => by simp [mM]
  | f + 1, s, i, h, hs => by
    unfold mM; split
    . have := aFl ts ls f s (i + 1) og og
      omega
    have := aFl ts ls f i (i + 1) og og
    simp only [List.flatten_cons, A4, B1, B3]; omega
def aFm (ts : List Int) (ls : List Entry) : ∀ f s i, f + i = ls.length + 1 -> s < i -> ∀ c ∈ mM ts ls f s i, c ≠ [] /\ c.length <= ls.length /\ ∀ e ∈ c, e ∈ ls
  | 0, s, i, h, hs => by simp [mM]
  | f + 1, s, i, h, hs => by
    intro c hc; unfold mM at hc; split at hc
    . exact aFm ts ls f s (i + 1) og og c hc
    rcases A7.1 hc with rfl | hc
    . refine ⟨fun e => ?_, by simp only [B1, B3]; omega, fun e he => C9 (D0 he)⟩
      have := congrArg List.length e
      simp only [B1, B3, List.length_nil] at this
      omega
    exact aFm ts ls f i (i + 1) og og c hc
def jB {ts : List Int} {ls : List Entry} {c : List Entry} (h : c ∈ mK ts ls) : c ≠ [] /\ c.length <= ls.length /\ ∀ e ∈ c, e ∈ ls := aFm ts ls ls.length 0 1 rfl og c h
def aPd {ts : List Int} {ls : List Entry} (hz : aEa ls) {c : List Entry} (h : c ∈ mK ts ls) : aEa c := ⟨by have := (jB h).2.1; have := hz.1; omega, fun e he => hz.2 e ((jB h).2.2 e he)⟩
def bCg {α : Type} : ∀ {cs : List (List α)}, (∀ c ∈ cs, c ≠ []) -> cs.length <= cs.flatten.length
  | [], _ => by simp
  | c :: r, h => by
    have h1 := bCg (cs := r) fun x hx => h x (A5 _ hx)
    have h2 := E8.2 (h c A2)
    simp only [C5, List.flatten_cons, A4]; omega
def rK {ts : List Int} {ls : List Entry} : (mK ts ls).length <= ls.length /\ (mK ts ls).flatten.length <= ls.length := by
  have h1 := aFl ts ls ls.length 0 1 rfl og
  have h2 := bCg (cs := mK ts ls) fun c hc => (jB hc).1
  have h1' : (mK ts ls).flatten.length <= ls.length - 0 := h1
  omega
def bMo (ls : List Entry) (b : Bool) (h : ls ≠ []) : (sqC ls b).length <= ls.length := by
  have hp := E8.2 h
  unfold sqC
  repeat' split
  all_goals first | omega | (simp only [List.length_nil, C5]; omega)
def aYz (b : Bool) : ∀ {cs : List (List Entry)}, (∀ c ∈ cs, c ≠ []) -> (lfL sqC cs b).1.flatten.length <= cs.flatten.length
  | [], _ => by simp [lfL]
  | c :: r, h => by
    have h1 := aYz b (cs := r) fun x hx => h x (A5 _ hx)
    have h2 := bMo c (lfL sqC r b).2 (h c A2)
    simp only [lfL, List.flatten_cons, A4]; omega
def bLh (ts : List Int) (ls : List Entry) (b : Bool) : (sqK ts ls b).length <= ls.length := by
  have h1 := aYz b (cs := mK ts ls) fun c hc => (jB hc).1
  have h2 := (rK (ts := ts) (ls := ls)).2
  unfold sqK; omega

section
variable {ls : List Entry} {s : Nat} {e : Entry}
def aYp (ls : List Entry) (s e : Nat) : Bool := (qD ls e).key.toList == (qD ls s).key.toList
def aAq (ls : List Entry) : Nat -> Nat -> Nat -> Nat
  | 0, _, e => e
  | f + 1, s, e => if (decide ((e : Int) < (ls.length : Int)) && aYp ls s e) = true then aAq ls f s (e + 1) else e
def dR (ls : List Entry) (s : Nat) : Nat := aAq ls (ls.length - (s + 1)) s (s + 1)
def rC (g : List Entry -> List Entry) (ls : List Entry) : Nat -> Nat -> List Entry
  | 0, _ => []
  | f + 1, s => if s < ls.length then g ((ls.take (dR ls s)).drop s) ++ rC g ls f (dR ls s) else []
def cK (ls : List Entry) (ts : List Int) (bottom : Bool) : List Entry := if cD ls = true then rC (fun c => sqK ts c bottom) ls ls.length 0 else []
def aVf (ls : List Entry) : ∀ f s e, f + e = ls.length -> e <= aAq ls f s e /\ aAq ls f s e <= ls.length
  | 0, s, e, h => by unfold aAq; omega
  | f + 1, s, e, h => by
    unfold aAq; split
    . have := aVf ls f s (e + 1) og; omega
    omega
def xK (h : s < ls.length) : s + 1 <= dR ls s /\ dR ls s <= ls.length := aVf ls (ls.length - (s + 1)) s (s + 1) og
def bHq {g : List Entry -> List Entry} (h : ls.length <= s) : ∀ f, rC g ls f s = []
  | 0 => rfl
  | f + 1 => by unfold rC; rw [if_neg og]
def bMw {p : Nat -> Bool} {n i : Nat} (h : (List.range n).all p = true) (hi : i < n) : p i = true := C7.1 h i (List.mem_range.2 hi)
def lW (h : cD ls = true) (he : e ∈ ls) : bK e = true := by
  obtain ⟨i, hi⟩ := F8 he
  have hlt := (B2.1 hi).1
  have := bMw h hlt
  unfold zX at this; rw [hi] at this
  simp only [Bool.not_eq_true', Bool.or_eq_false_iff] at this
  simpa using this.1
def bDr (h : bK e = true) : -1000000 <= e.n /\ e.n <= 1000000 := by
  unfold bK at h; split at h
  . cases h
  rename_i hb
  have hb' : jQ e = false := by simpa using hb
  unfold jQ at hb'
  simp only [Bool.or_eq_false_iff, Bool.not_eq_false', nN, B7, decide_eq_true_eq] at hb'
  omega
def bKy (h : cD ls = true) (hl : ls.length <= 1048576) : aEa ls := ⟨hl, fun e he => bDr (lW h he)⟩
def bFn {ls c : List Entry} (h : aEa ls) (hl : c.length <= ls.length) (hs : ∀ e ∈ c, e ∈ ls) : aEa c := ⟨by have := h.1; omega, fun e he => h.2 e (hs e he)⟩
end
def aYg (ls : List Entry) (ts : List Int) (b : Bool) : (cK ls ts b).length <= ls.length := by
  have key : ∀ f s, (rC (fun c => sqK ts c b) ls f s).length <= ls.length - s := by
    intro f
    induction f with
    | zero => intro s; simp [rC]
    | succ f ih =>
      intro s; unfold rC; split
      . rename_i hs
        have h1 := bLh ts ((ls.take (dR ls s)).drop s) b
        have h2 := ih (dR ls s)
        have h3 := xK hs
        simp only [A4, B1, B3] at h1 ⊢
        omega
      simp
  unfold cK; split
  . have := key ls.length 0; omega
  simp
def bCk {p : Entry -> Prop} (b : Bool) : ∀ {cs : List (List Entry)}, (∀ c ∈ cs, ∀ b, ∀ e ∈ sqC c b, p e) -> ∀ l ∈ (lfL sqC cs b).1, ∀ e ∈ l, p e
  | [], _ => by simp [lfL]
  | c :: r, h => by
    intro l hl
    simp only [lfL, A7] at hl
    rcases hl with rfl | hl
    . exact h c A2 _
    exact bCk b (cs := r) (fun x hx => h x (A5 _ hx)) l hl
def bLp {p : Entry -> Prop} {ts : List Int} {ls : List Entry} {b : Bool} (h : ∀ c ∈ mK ts ls, ∀ b, ∀ e ∈ sqC c b, p e) : ∀ e ∈ sqK ts ls b, p e := by
  intro e he
  obtain ⟨l, hl, hel⟩ := List.mem_flatten.1 he
  exact bCk b h l hl e hel
def aDa {p : Entry -> Prop} {g : List Entry -> List Entry} {ls : List Entry} (h : ∀ s, s < ls.length -> ∀ e ∈ g ((ls.take (dR ls s)).drop s), p e) : ∀ f s, ∀ e ∈ rC g ls f s, p e
  | 0, s => by simp [rC]
  | f + 1, s => by
    intro e he; unfold rC at he; split at he
    . rename_i hs
      rcases A6.1 he with he | he
      . exact h s hs e he
      exact aDa h f _ e he
    cases he

def bOg {s : Store} (h : bM s = true) (hu : s.up = true) : s.tree.levels.length = 3 := by
  unfold bM at h; rw [if_pos hu] at h; split at h
  . cases h
  unfold upI at h; split at h
  . cases h
  rename_i hb
  unfold aCd at hb
  simp only [D4, not_or] at hb
  have h1 : dP s.tree = true := by have := hb.1.1; simpa using this
  unfold dP at h1; split at h1
  . cases h1
  rename_i h2
  unfold qI at h2; simp at h2; omega
def bGx (ls : List Entry) (b : Bool) (h : ls ≠ []) : (jC ls b).length <= ls.length := by
  have hp := E8.2 h
  unfold jC
  repeat' split
  all_goals first | omega | (simp only [List.length_nil, C5]; omega)
def aEq {f : List Entry -> Bool -> List Entry} (hf : ∀ c b, c ≠ [] -> (f c b).length <= c.length) (b : Bool) : ∀ {cs : List (List Entry)}, (∀ c ∈ cs, c ≠ []) -> (lfL f cs b).1.flatten.length <= cs.flatten.length
  | [], _ => by simp [lfL]
  | c :: r, h => by
    have h1 := aEq hf b (cs := r) fun x hx => h x (A5 _ hx)
    have h2 := hf c (lfL f r b).2 (h c A2)
    simp only [lfL, List.flatten_cons, A4]; omega
def bDq {α : Type} (cs : List (List α)) (i : Nat) : (cs.drop i).flatten.length <= cs.flatten.length := by
  have h := congrArg (fun z => z.flatten.length) (List.take_append_drop i cs)
  simp only [List.flatten_append, A4] at h
  omega
def jK (ts : List Int) (ls : List Entry) (b : Bool) : List Entry := (lfL jC (mK ts ls) b).1.flatten
def bJi (ts : List Int) (ls : List Entry) (b : Bool) : (jK ts ls b).length <= ls.length := by
  have h1 := aEq bGx b (cs := mK ts ls) fun c hc => (jB hc).1
  have h2 := (rK (ts := ts) (ls := ls)).2
  unfold jK; omega
def bP (ls : List Entry) (ts : List Int) (b : Bool) : List Entry := if cD ls = true then rC (fun c => jK ts c b) ls ls.length 0 else []
def tV (ls : List Entry) (ts : List Int) (hl : ls.length <= 1048576) (hts : ts.length <= 1048576) : aJ P 199 [.sl 5 (ls.map enA), .sl 1 (ts.map inA)] [] 0 (.sl 1 ((mK ts ls).map esA)) := by
 refine (pq 46 [.tmp 4] func199) ?_
 have hmx := mxl
 refine (aj) ?_
 refine sr rfl fun k2 => (ja) ((jr) (k2 (aA fun k3 => (aj) (wb ?_))))
 refine wl (α := Nat × List (List Entry)) (fun x => x.1 <= ls.length /\ x.2.length <= x.1 /\ x.2 ++ mM ts ls (ls.length - x.1) x.1 (x.1 + 1) = mK ts ls) (fun x => ls.length - x.1) (fun x => ([(0, .sl 5 (ls.map enA)), (1, .sl 1 (ts.map inA)), (5, .ref 0), (6, Ni (x.1 : Int))], [(0, .row 23 1 (x.2.map esA))])) 1 (0, []) ⟨A3 _, by simp, rfl⟩ [] ?_ ?_
 . exact Br
 rintro ⟨i, out⟩ ⟨hi, hol, hgo⟩
 simp only at hi hol hgo ⊢
 refine aA fun k5 => (aj) ((cdB) ?_ ?_) <;> intro hc1
 . have hge := gec hc1
   rw [show ls.length - i = 0 by omega, mM, List.append_nil] at hgo
   refine we ((jt) (k3 ((aj) ?_)))
   have h9 : mK ts ls = out := hgo.symm
   refine aFz 0 rfl ?_
   refine (Ad) (wR ?_)
   refine fO ?_ (vK _ _)
   exact Ac h9
 have hlt : i < ls.length := (by simpa using hc1)
 refine wk (k5 (wb ?_))
 have hw4 := wiS i og
 refine sr rfl fun k7 => (Aa hw4) (k7 (aA fun k8 => wb ?_))
 refine wl (α := Nat) (fun x => i + 1 <= x /\ x <= ls.length /\ mM ts ls (ls.length + 1 - x) i x = mM ts ls (ls.length - i) i (i + 1)) (fun x => ls.length - x) (fun x => ([(0, .sl 5 (ls.map enA)), (1, .sl 1 (ts.map inA)), (5, .ref 0), (6, Ni (i : Int)), (7, Ni (x : Int))], [(0, .row 23 1 (out.map esA))])) 1 (i + 1) ⟨A0 _, hlt, by rw [show ls.length + 1 - (i + 1) = ls.length - i by omega]⟩ [] ?_ ?_
 . exact jz
 rintro k ⟨hk0, hk1, hcl⟩
 refine aA fun k9 => ?_
 by_cases hle : k < ls.length
 . have hlx := uQ hle
   have hw1 := wr ((k : Int) - 1) ((k : Int) - 1) og
   have hpn : ((k : Int) - 1).toNat = k - 1 := by omega
   have hpv : ls[k - 1]? = some (cB ls k) := by unfold cB; rw [A1 og]; rfl
   refine sd mixed rfl fun k10 => (Aw hlx hpv hw1 hpn) ((jr) ?_)
   refine tpg rfl rfl rfl rfl rfl rfl ⟨func204, rfl, rfl⟩ (fun hg => aMi ts (qD ls k).seq (cB ls k).seq og) oG (fun hg => oG) oG trivial ?_
   refine (ja) ((jr) ((jy) (k10 ((cdA) ?_ ?_)))) <;> intro hc2
   . have hkk : (decide ((k : Int) < (ls.length : Int)) && !bDk ts ls k) = true := by simpa [bDk] using hc2
     rw [show ls.length + 1 - k = (ls.length - k) + 1 by omega, mM, if_pos hkk] at hcl
     refine wk (k9 (wb ?_))
     have hw6 := wiS k og
     refine wg rfl ((Aa hw6) ((jt) ((jt) ?_)))
     refine ⟨k + 1, ⟨og, og, by rw [show ls.length + 1 - (k + 1) = ls.length - k by omega]; exact hcl⟩, og, [], ?_⟩
     exact jz
   have hkk : ¬ (decide ((k : Int) < (ls.length : Int)) && !bDk ts ls k) = true := by simpa [bDk] using hc2
   rw [show ls.length + 1 - k = (ls.length - k) + 1 by omega, mM, if_neg hkk] at hcl; rw [<- hcl] at hgo
   have hcn : ((ls.take k).drop i).length = k - i := by rw [B1, B3]; omega
   refine we ((jt) (k8 (sr rfl fun k11 => ?_)))
   simp only [go_sem, <- E3, <- G1, Int.toNat_natCast, A8]
   refine (jr) (k11 (wg rfl ((ja) ((jt) ((jt) ?_)))))
   refine ⟨(k, out ++ [(ls.take k).drop i]), ⟨by simp only; omega, by simp only [A4, List.length_singleton]; omega, by rw [F5]; exact hgo⟩, by simp only; omega, [(0, 2)], ?_⟩
   exact Cs
 have hee : k = ls.length := by omega
 have hdf : decide ((k : Int) < (ls.length : Int)) = false := by simp; omega
 have hnn : ls[k]? = none := F6 og
 have hw1 := wr ((k : Int) - 1) ((k : Int) - 1) og
 have hpn : ((k : Int) - 1).toNat = k - 1 := by omega
 have hpv : ls[k - 1]? = some (cB ls k) := by unfold cB; rw [A1 og]; rfl
 refine sd mixed rfl fun k10 => ?_
 simp only [go_sem, hdf, hnn, hpv, hw1, hpn, enA]
 refine (jr) ?_
 refine aN (fun hN => eQ (rt := []) (rd := []) (val := Ni 0) hN rfl rfl rfl rfl trivial (fun hg => absurd hg oS) (by trivial)) (.inl rfl) ?_
 simp only [go_sem, hdf, hnn, hpv, hw1, hpn, enA]
 refine (jr) ?_
 refine aN (fun hN => eQ (rt := []) (rd := []) (val := Nb false) hN rfl rfl rfl rfl trivial (fun hg => absurd hg oS) (by trivial)) (.inl rfl) ?_
 simp only [go_sem, hdf, hnn, hpv, hw1, hpn, enA]
 refine (jr) ((jy) (k10 ((cdA) ?_ ?_))) <;> intro hc3
 . exfalso
   simp [hdf] at hc3
 have hkk : ¬ (decide ((k : Int) < (ls.length : Int)) && !bDk ts ls k) = true := by rw [hdf]; simp
 rw [show ls.length + 1 - k = (ls.length - k) + 1 by omega, mM, if_neg hkk] at hcl; rw [<- hcl] at hgo
 have hcn : ((ls.take k).drop i).length = k - i := by rw [B1, B3]; omega
 refine we ((jt) (k8 (sr rfl fun k12 => ?_)))
 simp only [go_sem, <- E3, <- G1, Int.toNat_natCast, A8]
 refine (jr) (k12 (wg rfl ((ja) ((jt) ((jt) ?_)))))
 refine ⟨(k, out ++ [(ls.take k).drop i]), ⟨by simp only; omega, by simp only [A4, List.length_singleton]; omega, by rw [F5]; exact hgo⟩, by simp only; omega, [(0, 2)], ?_⟩
 exact Cs
def aAx (cs : List (List Entry)) (b : Bool) (hc : ∀ c ∈ cs, aEa c /\ c ≠ []) (h1 : cs.length <= 1048576) (h2 : cs.flatten.length <= 1048576) : aJ P 198 [.sl 1 (cs.map esA), Nb b] [] 0 (.sl 5 ((lfL jC cs b).1.flatten.map enA)) := by
 refine (pq 31 [.tmp 4] func198) ?_
 have hmx := mxl
 refine (aj) ?_
 refine sr rfl fun k2 => (ja) ((jr) (k2 (aA fun k3 => ?_)))
 have hw0 := wr ((cs.length : Int) - 1) ((cs.length : Int) - 1) og
 refine sr rfl fun k4 => (Aa hw0) (k4 (wb ?_))
 refine wl (α := Nat) (fun x => x <= cs.length) (fun x => x) (fun x => ([(0, .sl 1 (cs.map esA)), (1, .raw (.bool (lfL jC (cs.drop x) b).2)), (5, .ref 0), (6, Ni ((x : Int) - 1))], [(0, .row 43 5 ((lfL jC (cs.drop x) b).1.flatten.map enA))])) 1 cs.length (A0 _) [] ?_ ?_
 . rw [List.drop_length]
   simp only [go_sem, AObj.bel, lfL, List.flatten_nil, List.map_nil] <;> simp
 rintro j hj
 refine aA fun k5 => (aj) ((cdB) ?_ ?_) <;> intro hc1
 . have hj0 : j = 0 := by simp at hc1; omega
   subst hj0
   refine we ((jt) (k3 ((aj) ?_)))
   refine aFz 0 rfl ?_
   refine (Ad) (wR ?_)
   refine fO ?_ (enB _ _)
   simp only [go_sem, List.drop_zero]
 have hj0 : 0 < j := by simp at hc1; omega
 obtain ⟨i, rfl⟩ : ∃ i, j = i + 1 := ⟨j - 1, og⟩
 have hci : (((i + 1 : Nat) : Int) - 1) = (i : Int) := by omega
 obtain ⟨c, hcx, hdc, hcm⟩ := ix (xs := cs) (i := i) og
 have hfl : (lfL jC (cs.drop i) b).1.flatten = jC c (lfL jC (cs.drop (i + 1)) b).2 ++ (lfL jC (cs.drop (i + 1)) b).1.flatten := by rw [hdc]; rfl
 have hfg : (lfL jC (cs.drop i) b).2 = ((lfL jC (cs.drop (i + 1)) b).2 && decide (((jC c (lfL jC (cs.drop (i + 1)) b).2).length : Int) = 0)) := by rw [hdc]; rfl
 have hb1 := aEq bGx b (cs := cs.drop i) fun x hx => (hc x (D0 hx)).2
 have hb2 := bDq cs i
 rw [hfl, A4] at hb1; rw [hci]
 refine wk (k5 (aA fun k7 => wb (sr rfl fun k8 => ?_)))
 simp only [go_sem, hcx, esA, A8]
 refine (jr) ?_
 refine (vr rfl rfl rfl func203 (aMv c (lfL jC (cs.drop (i + 1)) b).2 (hc c hcm).1 (hc c hcm).2) Af Af) ((jr) (k8 (aA fun k9 => (aj) ((cdA) ?_ ?_)))) <;> intro hc2
 . have hbn : (lfL jC (cs.drop i) b).2 = false := by rw [hfg, decide_eq_false (by simp at hc2 ⊢; intro e; rw [e] at hc2; simp at hc2), Bool.and_false]
   refine wg rfl ((ja) (k9 (wg rfl ((Av) ((jr) ((jt) (k7 ?_)))))))
   have hw := wr ((i : Int) - 1) ((i : Int) - 1) og
   refine wg rfl ((Aa hw) ((jt) ?_))
   refine ⟨i, og, og, [(0, 3)], ?_⟩
   rw [hbn, hfl]; exact jz
 have hbn : (lfL jC (cs.drop i) b).2 = (lfL jC (cs.drop (i + 1)) b).2 := by rw [hfg, decide_eq_true (by simp at hc2 ⊢; exact hc2), Bool.and_true]
 refine wk (k9 (wg rfl ((Av) ((jr) ((jt) (k7 ?_))))))
 have hw := wr ((i : Int) - 1) ((i : Int) - 1) og
 refine wg rfl ((Aa hw) ((jt) ?_))
 refine ⟨i, og, og, [(0, 3)], ?_⟩
 rw [hbn, hfl]; exact jz
def aAo (ls : List Entry) (ts : List Int) (bottom : Bool) (hz : cZ ls) (hl : ls.length <= 1048576) (hts : ts.length <= 1048576) : aJ P 187 [.sl 5 (ls.map enA), .sl 1 (ts.map inA), Nb bottom] [] 0 (.sl 5 ((bP ls ts bottom).map enA)) := by
 refine (pq 52 [.tmp 6] func187) ?_
 have hmx := mxl
 refine (aj) ?_
 refine sr rfl fun k2 => (ja) ((jr) (k2 (aA fun k3 => sr rfl fun k4 => (ja) ((vq func75 (rU ls hz)) (k4 ((cdA) ?_ ?_)))))) <;> intro hc1
 . have hio : cD ls = false := by simpa using hc1
   refine (aj) ?_
   have h9 : bP ls ts bottom = [] := by unfold bP; rw [if_neg (by rw [hio]; simp)]
   refine aFz 0 rfl ?_
   refine (Ad) (wR ?_)
   refine fO ?_ (enB _ _)
   simp only [go_sem, h9, List.map_nil]
 have hio : cD ls = true := by simpa using hc1
 have hn := bKy hio hl
 refine wk (k3 (aA fun k6 => (aj) (wb ?_)))
 refine wl (α := Nat × List Entry × Nat) (fun x => x.1 <= ls.length /\ x.2.1.length <= x.1 /\ ls.length <= x.1 + x.2.2 /\ x.2.1 ++ rC (fun c => jK ts c bottom) ls x.2.2 x.1 = rC (fun c => jK ts c bottom) ls ls.length 0) (fun x => ls.length - x.1) (fun x => ([(0, .sl 5 (ls.map enA)), (1, .sl 1 (ts.map inA)), (2, Nb bottom), (7, .ref 0), (8, Ni (x.1 : Int))], [(0, .row 43 5 (x.2.1.map enA))])) 1 (0, [], ls.length) ⟨A3 _, by simp, by simp, rfl⟩ [] ?_ ?_
 . exact Br
 rintro ⟨s, out, f⟩ ⟨hs0, hol, hf, hgo⟩
 simp only at hs0 hol hf hgo ⊢
 refine aA fun k8 => (aj) ((cdB) ?_ ?_) <;> intro hc2
 . have hge : ls.length <= s := by have h9 : ¬ s < ls.length := (by simpa using hc2); omega
   rw [bHq hge, List.append_nil] at hgo
   refine we ((jt) (k6 ((aj) ?_)))
   have h9 : bP ls ts bottom = out := by unfold bP; rw [if_pos hio, <- hgo]
   refine aFz 0 rfl ?_
   refine (Ad) (wR ?_)
   refine fO ?_ (enB _ _)
   exact Ac h9
 have hlt : s < ls.length := by simpa using hc2
 have hjk : (lfL jC (mK ts ((ls.take (dR ls s)).drop s)) bottom).1.flatten = jK ts ((ls.take (dR ls s)).drop s) bottom := rfl
 obtain ⟨f, rfl⟩ : ∃ f2, f = f2 + 1 := ⟨f - 1, og⟩
 rw [rC, if_pos hlt] at hgo
 have hel := xK hlt
 have hsk := bJi ts ((ls.take (dR ls s)).drop s) bottom
 have hcl : ((ls.take (dR ls s)).drop s).length = dR ls s - s := by rw [B1, B3]; omega
 have hch : aEa ((ls.take (dR ls s)).drop s) := bFn hn og fun x hx => C9 (D0 hx)
 refine wk (k8 (wb ?_))
 have hw6 := wiS s og
 refine sr rfl fun k10 => (Aa hw6) (k10 (aA fun k11 => wb ?_))
 refine wl (α := Nat) (fun x => s + 1 <= x /\ x <= ls.length /\ aAq ls (ls.length - x) s x = dR ls s) (fun x => ls.length - x) (fun x => ([(0, .sl 5 (ls.map enA)), (1, .sl 1 (ts.map inA)), (2, Nb bottom), (7, .ref 0), (8, Ni (s : Int)), (9, Ni (x : Int))], [(0, .row 43 5 (out.map enA))])) 1 (s + 1) ⟨A0 _, hlt, rfl⟩ [] ?_ ?_
 . exact jz
 rintro e ⟨he0, he1, hend⟩
 refine aA fun k12 => ?_
 by_cases hle : e < ls.length
 . have hlx := uQ hle
   have hsx := uQ hlt
   refine sd mixed rfl fun k13 => (Bt hlx hsx) ((jr) ((jy) (k13 ((cdA) ?_ ?_)))) <;> intro hc3
   . have hkk : (decide ((e : Int) < (ls.length : Int)) && aYp ls s e) = true := by simpa [aYp] using hc3
     rw [show ls.length - e = (ls.length - (e + 1)) + 1 by omega, aAq, if_pos hkk] at hend
     refine wk (k12 (wb ?_))
     have hw8 := wiS e og
     refine wg rfl ((Aa hw8) ((jt) ((jt) ?_)))
     refine ⟨e + 1, ⟨og, og, hend⟩, og, [], ?_⟩
     exact jz
   have hkk : ¬ (decide ((e : Int) < (ls.length : Int)) && aYp ls s e) = true := by simpa [aYp] using hc3
   rw [show ls.length - e = (ls.length - (e + 1)) + 1 by omega, aAq, if_neg hkk] at hend; subst hend
   refine we ((jt) (k11 (sr rfl fun k14 => ?_)))
   simp only [go_sem, <- E3, <- G1, Int.toNat_natCast]
   refine (jr) ?_
   refine (vr rfl rfl rfl func199 (tV ((ls.take (dR ls s)).drop s) ts hch.1 hts) Af Af) ((jr) ?_)
   refine vs rfl rfl rfl func198 (aAx (mK ts ((ls.take (dR ls s)).drop s)) bottom (fun c hc => ⟨aPd hch hc, (jB hc).1⟩) (by have := (rK (ts := ts) (ls := ((ls.take (dR ls s)).drop s))).1; have := hch.1; omega) (by have := (rK (ts := ts) (ls := ((ls.take (dR ls s)).drop s))).2; have := hch.1; omega)) oG oG ?_
   refine (Di hjk) ((jr) (k14 (wg rfl ((ja) ((jt) ((jt) ?_))))))
   refine ⟨(dR ls s, out ++ jK ts ((ls.take (dR ls s)).drop s) bottom, f), ⟨by simp only; omega, by simp only [A4]; omega, by simp only; omega, by simp only [F5]; exact hgo⟩, by simp only; omega, [(0, 1)], ?_⟩
   exact jz
 have hee : e = ls.length := by omega
 have hdf : decide ((e : Int) < (ls.length : Int)) = false := by simp; omega
 have hnn : ls[e]? = none := F6 og
 have hsx := uQ hlt
 refine sd mixed rfl fun k13 => (Bq hdf hnn hsx) ((jr) ?_)
 refine aN (fun hN => eQ (rt := []) (rd := []) (val := Ns ⟨#[]⟩) hN rfl rfl rfl rfl trivial (fun hg => absurd hg oS) (by trivial)) (.inl rfl) ?_
 refine (Bq hdf hnn hsx) ((jr) ((jy) (k13 ((cdA) ?_ ?_)))) <;> intro hc4
 . exfalso
   simp [hdf] at hc4
 rw [hee, Nat.sub_self, aAq] at hend; rw [<- hee] at hend; subst hend
 refine we ((jt) (k11 (sr rfl fun k15 => ?_)))
 simp only [go_sem, <- E3, <- G1, Int.toNat_natCast]
 refine (jr) ?_
 refine (vr rfl rfl rfl func199 (tV ((ls.take (dR ls s)).drop s) ts hch.1 hts) Af Af) ((jr) ?_)
 refine vs rfl rfl rfl func198 (aAx (mK ts ((ls.take (dR ls s)).drop s)) bottom (fun c hc => ⟨aPd hch hc, (jB hc).1⟩) (by have := (rK (ts := ts) (ls := ((ls.take (dR ls s)).drop s))).1; have := hch.1; omega) (by have := (rK (ts := ts) (ls := ((ls.take (dR ls s)).drop s))).2; have := hch.1; omega)) oG oG ?_
 refine (Di hjk) ((jr) (k15 (wg rfl ((ja) ((jt) ((jt) ?_))))))
 refine ⟨(dR ls s, out ++ jK ts ((ls.take (dR ls s)).drop s) bottom, f), ⟨by simp only; omega, by simp only [A4]; omega, by simp only; omega, by simp only [F5]; exact hgo⟩, by simp only; omega, [(0, 1)], ?_⟩
 exact jz
def gG (t : Tree) : Tree × Bool := match t.levels with
  | [a, b, c] => if (decide ((t.mem.length : Int) = 0) || decide (4 <= (a.length : Int))) = true then (t, false)
    else (⟨t.seq, [], [a ++ [⟨bP t.mem t.snaps false, bV (bP t.mem t.snaps false)⟩], b, c], t.snaps⟩, true)
  | _ => (t, false)
def aYy (rs : List Run) : (rsO rs).fz = rsA rs := by simp [rsO, rsA, AV.fz, dL]
def bCl : ∀ (xs ys : List AV), fzL (xs ++ ys) = fzL xs ++ fzL ys
  | [], ys => rfl
  | x :: r, ys => by simp only [List.cons_append, fzL, bCl r ys]
def bPf (a : List Run) (r : Run) : fzL (a.map runOwn ++ [.agg [.sl 5 (r.ents.map enA), Ni r.mask]]) = (a ++ [r]).map rA := by
  rw [bCl, dL, D9]
  simp [fzL, AV.fz, eZ, rA]
def yD (ls : List Entry) (ts : List Int) (b : Bool) : (bP ls ts b).length <= ls.length := by
  have key : ∀ f s, (rC (fun c => jK ts c b) ls f s).length <= ls.length - s := by
    intro f
    induction f with
    | zero => intro s; simp [rC]
    | succ f ih =>
      intro s; unfold rC; split
      . rename_i hs
        have h1 := bJi ts ((ls.take (dR ls s)).drop s) b
        have h2 := ih (dR ls s)
        have h3 := xK hs
        simp only [A4, B1, B3] at h1 ⊢
        omega
      simp
  unfold bP; split
  . have := key ls.length 0; omega
  simp
def vP {k : Nat} : ∀ (ls : List Entry) (o : Entry) (f : Bool), o.text.size <= k -> (∀ e ∈ ls, e.text.size <= k) -> (pI o f ls).text.size <= k /\ (pI o f ls).key = o.key
  | [], o, f, ho, _ => ⟨ho, rfl⟩
  | e :: r, o, f, ho, h => by
    unfold pI; split
    . exact ⟨h e A2, rfl⟩
    split
    . split <;> exact ⟨ho, rfl⟩
    exact vP r _ false ho fun x hx => h x (A5 _ hx)
def bQc {ls : List Entry} {b : Bool} (h : ∀ e ∈ ls, aNq e) (hne : ls ≠ []) : ∀ e ∈ jC ls b, aNq e := by
  obtain ⟨y, r, hy⟩ := H3 hne
  have h1 := vP (k := 4611686018427387904) ls (aDu y) true (A3 _) fun e he => (h e he).2
  have hc : vM ls = pI (aDu y) true ls := by rw [hy]; rfl
  have hm : aNq (vM ls) := ⟨by rw [hc, h1.2]; exact (h y (by rw [hy]; exact A2)).1, by rw [hc]; exact h1.1⟩
  intro e he; unfold jC at he
  repeat' split at he
  all_goals first | exact h e he | (cases he; done) | (rw [B4.1 he]; exact hm)
def aLw {f : List Entry -> Bool -> List Entry} {p : Entry -> Prop} (b : Bool) : ∀ {cs : List (List Entry)}, (∀ c ∈ cs, ∀ b, ∀ e ∈ f c b, p e) -> ∀ l ∈ (lfL f cs b).1, ∀ e ∈ l, p e
  | [], _ => by simp [lfL]
  | c :: r, h => by
    intro l hl
    simp only [lfL, A7] at hl
    rcases hl with rfl | hl
    . exact h c A2 _
    exact aLw b (cs := r) (fun x hx => h x (A5 _ hx)) l hl
def aLy {ls : List Entry} {ts : List Int} {b : Bool} (hz : cZ ls) : cZ (bP ls ts b) := by
  refine ⟨by have := yD ls ts b; have := hz.1; omega, ?_⟩
  unfold bP; split
  . refine aDa (fun s hs e he => ?_) _ _
    obtain ⟨l, hl, hel⟩ := List.mem_flatten.1 he
    exact aLw b (fun c hc b => bQc (fun e he => hz.2 e (C9 (D0 ((jB hc).2.2 e he)))) (jB hc).1) l hl e hel
  intro e he; cases he
def uV (ls : List Entry) (hz : cZ ls) : aJ P 168 [.sl 5 (ls.map enA)] [] 0 (rA ⟨ls, bV ls⟩) := by
 refine (pq 7 [.cell 2 105] func168) ((aj) ?_)
 refine sr rfl fun k2 => (ja) ((vq func152 (tN ls hz)) (k2 (wR ?_)))
 refine fO ?_ (zQ _ _)
 exact Ag
def aLs (seq : Int) (mem : List Entry) (a b c : List Run) (snaps : List Int) (hz : cZ mem) (hm : mem.length <= 1048576) (hs : snaps.length <= 1048576) (ha : a.length <= 1048576) : aP P 164 [.agg [Ni seq, .ref 0, .ref 1, .ref 2]] [(0, .row 43 5 (mem.map enA)), (1, .row 102 1 [rsO a, rsO b, rsO c]), (2, .row 3 1 (snaps.map inA))] 3 (.tup [trA (gG ⟨seq, mem, [a, b, c], snaps⟩).1, .raw (.bool (gG ⟨seq, mem, [a, b, c], snaps⟩).2)]) [(0, .dead), (1, .dead), (2, .dead)] 3 := by
 refine (gq 35 [.cell 2 27, .tmp 3] func164) ?_
 have hmx := mxl
 refine aFz 0 rfl ?_
 refine (ja) ?_
 refine aFz 2 rfl ?_
 refine (ja) ?_
 refine bAg (i := 1) (j := 0) og rfl rfl ?_
 simp only [go_sem, rsO]
 refine (aj) ?_
 refine aA fun k2 => sr rfl fun k3 => ?_
 simp only [go_sem, A8, Int.toNat_zero, List.getElem?_cons_zero]
 refine (jr) (k3 ((cdA) ?_ ?_)) <;> intro hc1
 . have h9 : gG ⟨seq, mem, [a, b, c], snaps⟩ = (⟨seq, mem, [a, b, c], snaps⟩, false) := if_pos hc1
   refine (aj) ?_
   refine bDu (i := 1) (n := 3) (j := 0) og rfl rfl rfl ?_
   simp only [go_sem, List.set_cons_zero]
   refine aFz 1 rfl ?_
   simp only [go_sem, fzL, AV.fz, dL]; refine wR ?_; refine ⟨[], ?_⟩
   simp only [go_sem, AObj.bel, AObj.ren, AV.ren, aB, sg, h9, trA, rsA] <;> simp
 have hb1 := hc1
 have ha4 : a.length <= 1000000 := by simp at hc1; omega
 have h9 : gG ⟨seq, mem, [a, b, c], snaps⟩ = (⟨seq, [], [a ++ [(⟨(bP mem snaps false), bV (bP mem snaps false)⟩ : Run)], b, c], snaps⟩, true) := if_neg (by rw [hb1]; simp)
 refine wk (k2 (sd mixed rfl fun k5 => ?_))
 simp only [go_sem, Int.toNat_zero, List.getElem?_cons_zero, List.set_cons_zero]
 refine (jr) ?_
 refine tp rfl rfl rfl ⟨func187, rfl, rfl⟩ (aAo mem snaps false hz hm hs) oG oG ?_
 refine (ja) ((jr) ?_)
 refine tp rfl rfl rfl ⟨func168, rfl, rfl⟩ (uV (bP mem snaps false) (aLy hz)) oG oG ?_
 simp only [go_sem, rA, Int.toNat_zero, List.set_cons_zero, B3, A4, List.nil_append, A8, B1]
 refine (jr) ((jy) (k5 (sr rfl fun k6 => (ja) ((jr) (k6 ((aj) ?_))))))
 have hfz : fzL (List.map runOwn a ++ [AV.agg [.sl 5 (List.map enA (bP mem snaps false)), .raw (.int .i64 (bV (bP mem snaps false)))]]) = (a ++ [(⟨(bP mem snaps false), bV (bP mem snaps false)⟩ : Run)]).map rA := bPf a (⟨(bP mem snaps false), bV (bP mem snaps false)⟩ : Run)
 refine aFz 8 rfl ?_
 refine (Ad) ?_
 refine aFz 1 rfl ?_
 simp only [go_sem, fzL, AV.fz, dL, hfz]; refine wR ?_; refine ⟨[], ?_⟩
 simp only [go_sem, AObj.bel, AObj.ren, AV.ren, aB, sg, h9, trA, rsA, List.map_nil] <;> simp
def bFz (t : Tree) (ht : gL t) (h3 : t.levels.length = 3) : aP P 164 [.agg [Ni t.seq, .ref 0, .ref 1, .ref 2]] [(0, .row 43 5 (t.mem.map enA)), (1, .row 102 1 (t.levels.map rsO)), (2, .row 3 1 (t.snaps.map inA))] 3
    (.tup [trA (gG t).1, .raw (.bool (gG t).2)]) [(0, .dead), (1, .dead), (2, .dead)] 3 := by
  obtain ⟨seq, mem, lv, snaps⟩ := t
  obtain ⟨a, b, c, rfl⟩ : ∃ a b c, lv = [a, b, c] := by
    match lv, h3 with
    | [a, b, c], _ => exact ⟨a, b, c, rfl⟩
  have hm : mem.length <= 1048576 := ht.1.1
  refine aLs seq mem a b c snaps ⟨og, fun e he => ?_⟩ hm ht.2.2 ?_
  . have := ht.1.2 e he
    exact ⟨og, og⟩
  have := (ht.2.1.2 a oS).1
  omega
def flS (s : Store) : Store × Bool := if s.up = false then (s, false) else if (gG s.tree).2 = false then (s, false)
  else (⟨s.up, (gG s.tree).1, ⟨⟨#[]⟩, 0, (gG s.tree).1.levels, (gG s.tree).1.seq⟩⟩, true)
def bQi {k : Nat} {ls : List Entry} {b : Bool} (h : ∀ e ∈ ls, e.key.size <= k /\ e.text.size <= k) (hne : ls ≠ []) : ∀ e ∈ jC ls b, e.key.size <= k /\ e.text.size <= k := by
  obtain ⟨y, r, hy⟩ := H3 hne
  have h1 := vP (k := k) ls (aDu y) true (A3 _) fun e he => (h e he).2
  have hc : vM ls = pI (aDu y) true ls := by rw [hy]; rfl
  have hm : (vM ls).key.size <= k /\ (vM ls).text.size <= k := ⟨by rw [hc, h1.2]; exact (h y (by rw [hy]; exact A2)).1, by rw [hc]; exact h1.1⟩
  intro e he; unfold jC at he
  repeat' split at he
  all_goals first | exact h e he | (cases he; done) | (rw [B4.1 he]; exact hm)
def aPi {ls : List Entry} {ts : List Int} {b : Bool} (h : qW ls) : qW (bP ls ts b) := by
  refine ⟨by have := yD ls ts b; have := h.1; omega, ?_⟩
  unfold bP; split
  . refine aDa (fun s hs e he => ?_) _ _
    obtain ⟨l, hl, hel⟩ := List.mem_flatten.1 he
    exact aLw (p := fun e => e.key.size <= 1048576 /\ e.text.size <= 1048576) b (fun c hc b => bQi (fun e he => h.2 e (C9 (D0 ((jB hc).2.2 e he)))) (jB hc).1) l hl e hel
  intro e he; cases he
def aKv {t : Tree} (h : gL t) : gL (gG t).1 := by
  unfold gG; split
  . rename_i a b c hlv
    split
    . exact h
    rename_i hb
    have hl := h.2.1
    rw [hlv] at hl
    have ha : a.length < 4 := by simp at hb; omega
    refine ⟨⟨A3 _, by intro e he; cases he⟩, ⟨by simp, fun r hr => ?_⟩, h.2.2⟩
    simp only [A7, List.not_mem_nil, or_false] at hr
    rcases hr with rfl | rfl | rfl
    . refine ⟨by rw [A4]; simp; omega, fun x hx => ?_⟩
      rcases A6.1 hx with hx | hx
      . exact (hl.2 a oS).2 x hx
      rw [B4.1 hx]; exact aPi h.1
    . exact hl.2 _ oS
    exact hl.2 _ oS
  exact h
def wQ (s : Store) (t : Tree) (ht : aIc t.levels) : aJ P 165 [stA s, trA t] [] 0 (stA ⟨s.up, t, { s.disk with levels := t.levels }⟩) := by
 refine (pq 13 [.cell 4 31] func165) ?_
 simp only [stA, trA]
 refine (aj) ((aj) ?_)
 refine sr rfl fun k3 => (ja) ((vq func72 ((bY (cR t.levels ht) oG oG : aJ P 72 [.sl 1 (t.levels.map rsA)] [] 0 (.sl 1 (t.levels.map rsA))))) (k3 ((aj) (wR ?_))))
 refine fO ?_ ⟨trivial, trivial, enB _ _, aY _ _, dJ _ _, trivial, trivial, aY _ _, trivial, trivial⟩
 exact Ab
def rZ (s : Store) (hs : bQ s) (hq : s.up = true -> s.tree.levels.length = 3) : aJ P 145 [stA s] [] 0 (.tup [stA (flS s).1, .raw (.bool (flS s).2)]) := by
 refine (pq 33 [.cell 2 31, .tmp 3] func145) ?_
 simp only [stA]
 refine (aj) ?_
 refine aA fun k2 => (aj) ((cdA) ?_ ?_) <;> intro hc1
 . have hup : s.up = false := by simpa using hc1
   have h9 : flS s = (s, false) := by unfold flS; rw [if_pos hup]
   refine (aj) (wR ?_)
   refine fO ?_ ⟨aR _ _, trivial, trivial⟩
   exact Ap h9
 have hup : s.up = true := by simpa using hc1
 refine wk (k2 (sr rfl fun k5 => (ja) ?_))
 refine vn 3 rfl rfl rfl ⟨func71, rfl, rfl⟩ (gJ s.tree hs.1) Ae Ae oS dg ?_
 refine (jn) ?_
 refine vC (fun hN => qN (s := [(0, 2), (1, 3), (2, 4)]) 0 rfl rfl rfl ⟨func164, rfl, rfl⟩ hN (bFz s.tree hs.1 (hq hup)) rfl (by simp only [go_sem, aB, AV.ren, sg]) ?_ (bLl (by simp [qS, sg, Abs.get, AObj.ren, AObj.bel, UU, aFy, xU, aEw, aBf, enB, xI, dJ]) (by simp [sg, Abs.get]) (by intro i hi; simp; omega) oS rfl og)) (.inl rfl) ?_
 . exact At
 simp only [go_sem, jJ, AObj.ren, AV.ren, aB, trA, aFy, xU, aEw, aBf, sg]
 refine k5 (aA fun k6 => (aj) ((cdA) ?_ ?_)) <;> intro hc2
 . have hf : (gG s.tree).2 = false := by simpa using hc2
   have h9 : flS s = (s, false) := by unfold flS; rw [if_neg (by rw [hup]; simp), if_pos hf]
   refine (aj) (wR ?_)
   refine fO ?_ ⟨aR _ _, trivial, trivial⟩
   exact Ap h9
 have hf : ¬ (gG s.tree).2 = false := by simpa using hc2
 have h9 : flS s = (⟨s.up, (gG s.tree).1, ⟨⟨#[]⟩, 0, (gG s.tree).1.levels, (gG s.tree).1.seq⟩⟩, true) := by unfold flS; rw [if_neg (by rw [hup]; simp), if_neg hf]
 refine wk (k6 (sr rfl fun k9 => (ja) ?_))
 refine vs rfl rfl rfl func165 (wQ s (gG s.tree).1 (aKv hs.1).2.1) (by simp only [go_sem, stA, trA]) (by simp only [go_sem, stA, trA]) ?_
 refine (Aj) (k9 ((aj) ((aj) ((aj) ((aj) (wR ?_))))))
 refine fO ?_ ⟨aR _ _, trivial, trivial⟩
 exact Ap h9
section
variable {ls : List Entry} {e : Entry}
def tY (h : bK e = true) : (jG e.key = true /\ 1 <= e.seq /\ e.seq <= 100000 /\ nN e.n = true /\ e.text.size <= 60) /\ (e.kind = 1 ∨ (e.kind = 2 /\ e.n = 0) ∨ e.kind = 3) := by
  unfold bK at h; split at h
  . cases h
  rename_i hb
  have hb' : jQ e = false := by simpa using hb
  unfold jQ at hb'
  simp only [Bool.or_eq_false_iff, Bool.not_eq_false', decide_eq_false_iff_not] at hb'
  refine ⟨⟨hb'.1.1.1.1, og, og, hb'.1.2, og⟩, ?_⟩
  split at h
  . left; assumption
  split at h
  . right; left; rename_i hk; simp only [B7, decide_eq_true_eq] at h; exact ⟨hk, h.2⟩
  split at h
  . right; right; assumption
  cases h
def bCt (h1 : jG e.key = true) (h2 : 1 <= e.seq /\ e.seq <= 100000) (h3 : nN e.n = true) (h4 : e.text.size <= 60) (h5 : e.kind = 1 ∨ (e.kind = 2 /\ e.text = ⟨#[]⟩ /\ e.n = 0) ∨ (e.kind = 3 /\ e.text = ⟨#[]⟩)) : bK e = true := by
  have hb : jQ e = false := by
    unfold jQ; rw [h1, h3]
    simp; omega
  unfold bK; rw [hb, if_neg oS]
  rcases h5 with h | ⟨h, ht, hn⟩ | ⟨h, ht⟩
  . rw [if_pos h]
  . rw [if_neg og, if_pos h, ht, hn]; simp
  rw [if_neg og, if_neg og, if_pos h, ht]; simp
def bDe : ∀ (ls : List Entry) (o : Entry) (f : Bool), (∀ e ∈ ls, bK e = true) -> pI o f ls = rS o f ls
  | [], _, _, _ => rfl
  | e :: r, o, f, h => by
    have hk := (tY (h e A2)).2
    unfold pI rS
    rcases hk with hk | ⟨hk, hn⟩ | hk
    . rw [if_pos hk, if_neg og, if_pos hk]
    . have g1 : ¬ e.kind = 1 := by omega
      have g3 : ¬ e.kind = 3 := by omega
      rw [if_neg g1, if_pos hk, if_neg g3, if_neg g1, hn, Int.add_zero]
    rw [if_neg og, if_neg og, if_pos hk]
    exact bDe r _ false fun x hx => h x (A5 _ hx)
def bOz (h : ∀ e ∈ ls, bK e = true) : vM ls = rI ls := by
  cases ls with
  | nil => rfl
  | cons y r => exact bDe (y :: r) (aDu y) true h
def aSv (n : Int) : (nN n = false) ↔ ((decide (1000000 < n) || decide (n < -1000000)) = true) := by
  unfold nN
  simp
  omega
def bPw (h : ∀ e ∈ ls, bK e = true) (b : Bool) : jC ls b = sqC ls b := by
  unfold jC sqC; rw [bOz h]
  by_cases hs : nN (rI ls).n = false
  . rw [if_pos hs, if_pos ((aSv _).1 hs)]
  rw [if_neg hs, if_neg (fun e => hs ((aSv _).2 e))]
  cases b with
  | false => simp
  | true =>
    by_cases h2 : (rI ls).kind = 2
    . simp [h2]
    by_cases h3 : (rI ls).kind = 3
    . simp [h3]
    simp [h2, h3]
def aQx {f g : List Entry -> Bool -> List Entry} (b : Bool) : ∀ {cs : List (List Entry)}, (∀ c ∈ cs, ∀ b, f c b = g c b) -> lfL f cs b = lfL g cs b
  | [], _ => rfl
  | c :: r, h => by
    unfold lfL; rw [aQx b (cs := r) fun x hx => h x (A5 _ hx), h c A2]
def bPz {ts : List Int} (h : ∀ e ∈ ls, bK e = true) (b : Bool) : jK ts ls b = sqK ts ls b := by
  unfold jK sqK; rw [aQx b fun c hc b => bPw (fun e he => h e ((jB hc).2.2 e he)) b]
def aKn {f g : List Entry -> List Entry} {ls : List Entry} (h : ∀ c, (∀ e ∈ c, e ∈ ls) -> f c = g c) : ∀ n s, rC f ls n s = rC g ls n s
  | 0, _ => rfl
  | n + 1, s => by
    unfold rC; rw [aKn h n, h _ fun e he => C9 (D0 he)]
def aQb (ls : List Entry) (ts : List Int) (b : Bool) : bP ls ts b = cK ls ts b := by
  unfold bP cK; split
  . rename_i h
    exact aKn (fun c hc => bPz (fun e he => lW h (hc e he)) b) _ _
  rfl
def kp (e : Entry) : ByteArray × Int := (e.key, e.seq)
def aYe : ∀ (ls : List Entry) (o : Entry) (f : Bool), o.kind = 3 -> o.text = ⟨#[]⟩ -> (f = true -> o.n = 0) -> (∀ e ∈ ls, bK e = true) ->
    (rS o f ls).key = o.key /\ (rS o f ls).seq = o.seq /\ (rS o f ls).text.size <= 60 /\ ((rS o f ls).kind = 1 ∨ ((rS o f ls).kind = 2 /\ (rS o f ls).text = ⟨#[]⟩ /\ (rS o f ls).n = 0) ∨ ((rS o f ls).kind = 3 /\ (rS o f ls).text = ⟨#[]⟩))
  | [], o, f, hk, ht, hn, _ => ⟨rfl, rfl, by show o.text.size <= 60; rw [ht]; exact A3 _, .inr (.inr ⟨hk, ht⟩)⟩
  | e :: r, o, f, hk, ht, hn, h => by
    have hz : (⟨#[]⟩ : ByteArray).size <= 60 := A3 _
    unfold rS; split
    . exact aYe r { o with n := o.n + e.n } false hk ht (fun h => by cases h) fun x hx => h x (A5 _ hx)
    split
    . exact ⟨rfl, rfl, (tY (h e A2)).1.2.2.2.2, .inl rfl⟩
    split
    . rename_i hf
      exact ⟨rfl, rfl, by show o.text.size <= 60; rw [ht]; exact hz, .inr (.inl ⟨rfl, ht, hn hf⟩)⟩
    exact ⟨rfl, rfl, by show o.text.size <= 60; rw [ht]; exact hz, .inl rfl⟩
def bKw (h : ∀ e ∈ ls, bK e = true) {y : Entry} {r : List Entry} (hy : ls = y :: r) : kp (rI ls) = kp y /\
    (nN (rI ls).n = true -> bK (rI ls) = true /\ ((rI ls).kind = 3 -> bK { rI ls with kind := 1 } = true)) := by
  have hc : rI ls = rS (aDu y) true ls := by rw [hy]; rfl
  obtain ⟨h1, h2, h3, h4⟩ := aYe ls (aDu y) true rfl rfl (fun _ => rfl) h
  rw [<- hc] at h1 h2 h3 h4
  have hyo := (tY (h y (by rw [hy]; exact A2))).1
  have k1 : jG (rI ls).key = true := by rw [h1]; exact hyo.1
  have k2 : 1 <= (rI ls).seq /\ (rI ls).seq <= 100000 := by rw [h2]; exact ⟨hyo.2.1, hyo.2.2.1⟩
  refine ⟨by unfold kp; rw [h1, h2]; rfl, fun hs => ⟨bCt k1 k2 hs h3 h4, fun _ => bCt k1 k2 hs h3 (.inl rfl)⟩⟩
def bAd {c : List Entry} (h : ∀ e ∈ c, bK e = true) (hne : c ≠ []) (b : Bool) : ((sqC c b).map kp).Sublist (c.map kp) /\ (∀ e ∈ sqC c b, bK e = true) /\ (b = false -> sqC c b ≠ []) := by
  obtain ⟨y, r, hy⟩ := H3 hne
  obtain ⟨h1, h2⟩ := bKw h hy
  have hs1 : ([rI c].map kp).Sublist (c.map kp) := by rw [hy, List.map_cons, List.map_cons, <- hy, h1]; exact (List.nil_sublist _).cons₂ _
  have hs2 : ([{ rI c with kind := 1 }].map kp).Sublist (c.map kp) := hs1
  unfold sqC; split
  . exact ⟨List.Sublist.refl _, h, fun _ => hne⟩
  rename_i hr
  have hs : nN (rI c).n = true := by
    cases hq : nN (rI c).n with
    | true => rfl
    | false => exact absurd ((aSv _).1 hq) hr
  obtain ⟨g1, g2⟩ := h2 hs
  split
  . rename_i hb
    split
    . exact ⟨List.nil_sublist _, by simp, fun e => by rw [e] at hb; cases hb⟩
    split
    . rename_i hk
      exact ⟨hs2, fun e he => by rw [B4.1 he]; exact g2 hk, fun _ => by simp⟩
    exact ⟨hs1, fun e he => by rw [B4.1 he]; exact g1, fun _ => by simp⟩
  exact ⟨hs1, fun e he => by rw [B4.1 he]; exact g1, fun _ => by simp⟩
def bJm (b : Bool) : ∀ {cs : List (List Entry)}, (∀ c ∈ cs, c ≠ [] /\ ∀ e ∈ c, bK e = true) -> (((lfL sqC cs b).1.flatten).map kp).Sublist (cs.flatten.map kp) /\ ((lfL sqC cs false).2 = false) /\ (cs ≠ [] -> (lfL sqC cs false).1.flatten ≠ [])
  | [], _ => ⟨by simp [lfL], rfl, fun h => absurd rfl h⟩
  | c :: r, h => by
    obtain ⟨k1, k2, _⟩ := bJm b (cs := r) fun x hx => h x (A5 _ hx)
    have hc := h c A2
    refine ⟨?_, ?_, fun _ e => ?_⟩
    . simp only [lfL, List.flatten_cons, D9]
      exact (bAd hc.2 hc.1 _).1.append k1
    . simp only [lfL, k2, Bool.false_and]
    simp only [lfL, List.flatten_cons, List.append_eq_nil_iff] at e
    rw [k2] at e
    exact (bAd hc.2 hc.1 false).2.2 rfl e.1
def aCl (ts : List Int) (ls : List Entry) : ∀ f s i, f + 1 + i = ls.length + 1 -> s <= i -> (mM ts ls (f + 1) s i).flatten = ls.drop s
  | f, s, i, h, hs => by
    unfold mM; split
    . rename_i hc
      simp only [B7, decide_eq_true_eq] at hc
      obtain ⟨g, rfl⟩ : ∃ g, f = g + 1 := ⟨f - 1, og⟩
      exact aCl ts ls g s (i + 1) og og
    have hsp : (ls.take i).drop s ++ ls.drop i = ls.drop s := by
      have h1 := List.take_append_drop i ls
      have h2 : (ls.take i ++ ls.drop i).drop s = (ls.take i).drop s ++ ls.drop i := List.drop_append_of_le_length (by rw [B3]; omega)
      rw [h1] at h2; exact h2.symm
    rw [List.flatten_cons]
    rcases Nat.eq_zero_or_pos f with h0 | h0
    . subst h0
      have hi : i = ls.length := by omega
      rw [mM, List.flatten_nil, List.append_nil]; rw [hi, List.drop_length, List.append_nil] at hsp
      rw [hi]; exact hsp
    obtain ⟨g, rfl⟩ : ∃ g, f = g + 1 := ⟨f - 1, og⟩
    rw [aCl ts ls g i (i + 1) og og]; exact hsp
def aWp (ts : List Int) (ls : List Entry) : (mK ts ls).flatten = ls := by
  unfold mK
  rcases Nat.eq_zero_or_pos ls.length with h0 | h0
  . rw [h0, mM]; exact (G6 h0).symm
  obtain ⟨g, hg⟩ : ∃ g, ls.length = g + 1 := ⟨ls.length - 1, og⟩
  have := aCl ts ls g 0 1 og og
  rw [hg]; simpa using this
def aSg {ts : List Int} (h : ∀ e ∈ ls, bK e = true) (b : Bool) : ((sqK ts ls b).map kp).Sublist (ls.map kp) /\ (∀ e ∈ sqK ts ls b, bK e = true) /\ (ls ≠ [] -> sqK ts ls false ≠ []) := by
  have hc : ∀ c ∈ mK ts ls, c ≠ [] /\ ∀ e ∈ c, bK e = true := fun c hc => ⟨(jB hc).1, fun e he => h e ((jB hc).2.2 e he)⟩
  obtain ⟨h1, _, h3⟩ := bJm b hc
  rw [aWp] at h1
  refine ⟨h1, bLp fun c hm b => (bAd (hc c hm).2 (hc c hm).1 b).2.1, fun hne => h3 fun e => hne ?_⟩
  have := aWp ts ls
  rw [e] at this; exact this.symm
def aNo {g : List Entry -> List Entry} {ls : List Entry} (h : ∀ c, (∀ e ∈ c, e ∈ ls) -> ((g c).map kp).Sublist (c.map kp)) : ∀ f s, ((rC g ls f s).map kp).Sublist ((ls.drop s).map kp)
  | 0, s => by simp [rC]
  | f + 1, s => by
    unfold rC; split
    . rename_i hs
      have he := xK hs
      have hsp : (ls.take (dR ls s)).drop s ++ ls.drop (dR ls s) = ls.drop s := by
        have h1 := List.take_append_drop (dR ls s) ls
        have h2 : (ls.take (dR ls s) ++ ls.drop (dR ls s)).drop s = (ls.take (dR ls s)).drop s ++ ls.drop (dR ls s) := List.drop_append_of_le_length (by rw [B3]; omega)
        rw [h1] at h2; exact h2.symm
      rw [<- hsp, D9, D9]
      exact (h _ fun e he => C9 (D0 he)).append (aNo h f _)
    exact List.nil_sublist _
def aNe (h1 : ∀ e ∈ ls, bK e = true) (h2 : ls.Pairwise fun a b => entLt a b = true) : cD ls = true := by
  unfold cD; rw [C7]; intro i hi
  have hlt := List.mem_range.1 hi
  unfold zX; rw [A1 hlt]
  have g1 := h1 ls[i] (C8 hlt)
  simp only [g1, Bool.not_true, Bool.false_or, Bool.not_eq_true', Bool.and_eq_false_imp, decide_eq_true_eq, Bool.not_eq_false']; intro h0
  have hp : cB ls i = ls[i - 1] := by unfold cB; rw [A1 og]; rfl
  rw [hp]
  exact F9.1 h2 (i - 1) i og hlt og
def ltK (p q : ByteArray × Int) : Bool := Op.bytesLess p.1.toList q.1.toList || (p.1.toList == q.1.toList && decide (q.2 < p.2))
def aMx {ts : List Int} {b : Bool} (h : cD ls = true) : cD (cK ls ts b) = true /\ (ls ≠ [] -> cK ls ts false ≠ []) := by
  have hok := fun e he => lW h (e := e) he
  have hsub : ((cK ls ts b).map kp).Sublist (ls.map kp) := by
    unfold cK; rw [if_pos h]
    have := aNo (g := fun c => sqK ts c b) (ls := ls) (fun c hc => (aSg (fun e he => hok e (hc e he)) b).1) ls.length 0
    simpa using this
  refine ⟨aNe ?_ ?_, fun hne e => ?_⟩
  . unfold cK; rw [if_pos h]
    exact aDa (fun s hs e he => (aSg (fun e he => hok e (C9 (D0 he))) b).2.1 e he) _ _
  . have h1 : (ls.map kp).Pairwise fun p q => ltK p q = true := List.pairwise_map.2 (qP h)
    exact List.pairwise_map.1 (h1.sublist hsub)
  unfold cK at e; rw [if_pos h] at e
  have hp := E8.2 hne
  obtain ⟨g, hg⟩ : ∃ g, ls.length = g + 1 := ⟨ls.length - 1, og⟩
  rw [hg, rC, if_pos hp, List.append_eq_nil_iff] at e
  have he := xK hp
  refine (aSg (ts := ts) (ls := (ls.take (dR ls 0)).drop 0) (fun e he => hok e (C9 (D0 he))) false).2.2 (fun e2 => ?_) e.1
  have := congrArg List.length e2
  rw [B1, B3, List.length_nil] at this; omega
end
def aOj (s : Store) (k : Int) : Int := min (max k s.disk.safe) (s.disk.log.size : Int)
def aHe (s : Store) (k : Int) : Store := ⟨false, hP, { s.disk with log := s.disk.log.extract 0 (aOj s k).toNat, safe := aOj s k }⟩
def bNl {s : Store} (h : bQ s) (k : Int) : bQ (aHe s k) := ⟨⟨⟨A3 _, by intro e he; cases he⟩, ⟨A3 _, by intro e he; cases he⟩, A3 _⟩, h.2⟩
def bNd {s : Store} (h : bM s = true) : 0 <= s.disk.safe := by
  have : qQ s.disk = true := by
    unfold bM at h; split at h
    . cases h
    rename_i h1; simpa using h1
  unfold qQ at this; split at this
  . cases this
  rename_i h1; omega
def aNz (s : Store) (k : Int) (h0 : 0 <= s.disk.safe) : aJ P 28 [stA s, Ni k] [] 0 (stA (aHe s k)) := by
 refine (pq 30 [.cell 4 31] func28) ?_
 simp only [stA]
 refine (aj) ((aj) ((aj) ?_))
 have hn : 0 <= aOj s k /\ aOj s k <= (s.disk.log.size : Int) := by unfold aOj; omega
 have hcn : min (max k s.disk.safe) (s.disk.log.size : Int) = aOj s k := rfl
 try rw [hcn]
 refine sr rfl fun k4 => (ja) ?_
 refine ⟨⟨og, og, og⟩, ?_⟩
 refine k4 ((aj) ((aj) ?_))
 refine cP 1 (ds := [Nb false, Ni 0, .sl 5 [], .sl 1 [], .sl 1 [], Ns (s.disk.log.extract 0 (aOj s k).toNat), Ni (aOj s k), .sl 1 (s.disk.levels.map rsA), Ni s.disk.seq]) rfl (by repeat (first | exact LeL.nil | refine LeL.cons (by first | exact Le.refl _ | exact Le.nil _) ?_)) (by simp only [go_sem, Int.toNat_zero]) ?_
 refine (ja) (wR ?_)
 refine fO ?_ ⟨trivial, trivial, enB _ _, aY _ _, dJ _ _, trivial, trivial, aY _ _, trivial, trivial⟩
 simp only [go_sem, aHe, hP, List.map_nil, Int.toNat_zero]
def cX (s : Store) (k : Int) : Int := max s.disk.safe (min k (s.disk.log.size : Int))
def iJ (s : Store) (k : Int) : Store := ⟨false, hP, { s.disk with log := s.disk.log.extract 0 (cX s k).toNat, safe := cX s k }⟩
def brJ (s : Store) : Store := if (flS s).2 = true then { s with disk := { s.disk with levels := (flS s).1.disk.levels, seq := (flS s).1.disk.seq } } else s
def dY (s : Store) (k : Int) : Store := if aF s = false then zStore else if s.up = false then bH s else iJ (brJ (bH s)) k
def aKu (s : Store) : (brJ s).disk.safe = s.disk.safe /\ (brJ s).disk.log = s.disk.log := by
  unfold brJ; split <;> exact ⟨rfl, rfl⟩
def bPm {s : Store} (hs : bQ s) : bQ (flS s).1 := by
  unfold flS; split
  . exact hs
  split
  . exact hs
  exact ⟨aKv hs.1, (aKv hs.1).2.1⟩
def aKb (s : Store) : (bH s).disk = s.disk := by unfold bH; split <;> rfl
def aWc {s : Store} (h : bM s = true) : 0 <= s.disk.safe /\ s.disk.safe <= (s.disk.log.size : Int) := by
  have : qQ s.disk = true := by
    unfold bM at h; split at h
    . cases h
    rename_i h1; simpa using h1
  unfold qQ at this; split at this
  . cases this
  rename_i h1; omega
def aCv (a b : Int) : aJ P 74 [Ni a, Ni b] [] 0 (Ni (min a b)) := by
 refine (pq 10 [.tmp 4] func74) ((aj) ?_)
 refine aA fun k2 => (aj) ((cdA) ?_ ?_) <;> intro hc1
 . have h9 : min a b = a := Int.min_eq_left (by simp at hc1; omega)
   exact (aj) (wR (fq h9))
 have h9 : min a b = b := Int.min_eq_right (by simp at hc1; omega)
 exact wk (k2 ((aj) (wR (fq h9))))
def pS (s : Store) (k : Int) (h0 : 0 <= s.disk.safe) (h1 : s.disk.safe <= (s.disk.log.size : Int)) : aJ P 32 [stA s, Ni k] [] 0 (stA (iJ s k)) := by
 refine (pq 30 [.cell 4 31] func32) ?_
 simp only [stA]
 refine (aj) ?_
 refine sd mixed rfl fun k2 => (ja) ?_
 refine tp rfl rfl rfl ⟨func74, rfl, rfl⟩ (aCv k (s.disk.log.size : Int)) oG oG ?_
 refine (ja) ?_
 refine tp rfl rfl rfl ⟨func73, rfl, rfl⟩ (vB s.disk.safe (min k (s.disk.log.size : Int))) oG oG ?_
 refine (ja) ((jy) (k2 ((aj) ((aj) ?_))))
 have hn : 0 <= cX s k /\ cX s k <= (s.disk.log.size : Int) := by unfold cX; omega
 have hcn : max s.disk.safe (min k (s.disk.log.size : Int)) = cX s k := rfl
 try rw [hcn]
 refine sr rfl fun k5 => (ja) ?_
 refine ⟨⟨og, og, og⟩, ?_⟩
 refine k5 ((aj) ((aj) ?_))
 refine cP 0 (ds := [Nb false, Ni 0, .sl 5 [], .sl 1 [], .sl 1 [], Ns (s.disk.log.extract 0 (cX s k).toNat), Ni (cX s k), .sl 1 (s.disk.levels.map rsA), Ni s.disk.seq]) rfl (by repeat (first | exact LeL.nil | refine LeL.cons (by first | exact Le.refl _ | exact Le.nil _) ?_)) (by simp only [go_sem, Int.toNat_zero]) ?_
 refine (ja) ?_
 refine cP 1 (ds := [Nb false, Ni 0, .sl 5 [], .sl 1 [], .sl 1 [], Ns (s.disk.log.extract 0 (cX s k).toNat), Ni (cX s k), .sl 1 (s.disk.levels.map rsA), Ni s.disk.seq]) rfl (by repeat (first | exact LeL.nil | refine LeL.cons (by first | exact Le.refl _ | exact Le.nil _) ?_)) (by simp only [go_sem, Int.toNat_zero]) ?_
 refine (ja) (wR ?_)
 refine fO ?_ ⟨trivial, trivial, enB _ _, aY _ _, dJ _ _, trivial, trivial, aY _ _, trivial, trivial⟩
 simp only [go_sem, iJ, hP, List.map_nil, Int.toNat_zero]
def aEe (s : Store) (k : Int) (hs : bQ s) (hlg : s.disk.log.size <= 1048576) : aJ P 147 [stA s, Ni k] [] 0 (stA (dY s k)) := by
 refine (pq 39 [.cell 4 31] func147) ?_
 simp only [stA]
 refine (aj) ?_
 refine aA fun k2 => sr rfl fun k3 => (ja) ?_
 refine (vr rfl rfl rfl func11 (nO s hs hlg) Ab Ab) (k3 ((cdA) ?_ ?_)) <;> intro hc1
 . have hok : aF s = false := by simpa using hc1
   have h9 : dY s k = zStore := by unfold dY; rw [if_pos hok]
   refine (aj) ?_
   refine cP 1 (ds := [Nb false, Ni 0, .sl 5 [], .sl 1 [], .sl 1 [], Ns ⟨#[]⟩, Ni 0, .sl 1 [], Ni 0]) rfl (by repeat (first | exact LeL.nil | refine LeL.cons (by first | exact Le.refl _ | exact Le.nil _) ?_)) oG ?_
   refine (ja) (wR ?_)
   refine fO ?_ ⟨trivial, trivial, enB _ _, aY _ _, dJ _ _, trivial, trivial, aY _ _, trivial, trivial⟩
   simp only [go_sem, h9, stA, zStore, hP, aQg, List.map_nil]
 have hok : aF s = true := by simpa using hc1
 have hoi : bM s = true := by rw [mD]; exact hok
 obtain ⟨g0, g1⟩ := aWc hoi
 have hf1 : 0 <= (brJ (bH s)).disk.safe := by rw [(aKu _).1, aKb]; exact g0
 have hf2 : (brJ (bH s)).disk.safe <= ((brJ (bH s)).disk.log.size : Int) := by rw [(aKu _).1, (aKu _).2, aKb]; exact g1
 have hcl : (bH s).up = true -> (bH s).tree.levels.length = 3 := fun hu => by
   have hu2 : s.up = true := by
     unfold bH at hu; split at hu
     . assumption
     exact hu
   have e : bH s = s := by unfold bH; rw [if_pos hu2]
   rw [e]
   exact bOg hoi hu2
 refine wk (k2 (sr rfl fun k5 => (ja) ?_))
 refine vs rfl rfl rfl func31 (eP s hs) Ab Ab ?_
 refine (Aj) (k5 (aA fun k6 => (aj) ((cdA) ?_ ?_))) <;> intro hc2
 . have hup : s.up = false := by simpa using hc2
   have h9 : dY s k = bH s := by unfold dY; rw [if_neg (by rw [hok]; simp), if_pos hup]
   refine (aj) (wR ?_)
   refine fO ?_ ⟨trivial, trivial, enB _ _, aY _ _, dJ _ _, trivial, trivial, aY _ _, trivial, trivial⟩
   exact Ap h9
 have hup : ¬ s.up = false := by simpa using hc2
 have h9 : dY s k = iJ (brJ (bH s)) k := by unfold dY; rw [if_neg (by rw [hok]; simp), if_neg hup]
 refine wk (k6 (sr rfl fun k9 => (ja) ?_))
 refine vs rfl rfl rfl func31 (eP s hs) Ab Ab ?_
 refine (Aj) ?_
 refine vs rfl rfl rfl func145 (rZ (bH s) (aIr hs) hcl) Ab Ab ?_
 refine (Aj) (k9 (aA fun k10 => (aj) ((cdB) ?_ ?_))) <;> intro hc3
 . have hf : (flS (bH s)).2 = false := by simpa using hc3
   have hbj : brJ (bH s) = bH s := by unfold brJ; rw [if_neg (by rw [hf]; simp)]
   refine wk (k10 (sr rfl fun k14 => (ja) ?_))
   refine vs rfl rfl rfl func32 (pS (brJ (bH s)) k hf1 hf2) (Ap hbj) (Ap hbj) ?_
   refine (Aj) (k14 (wR ?_))
   refine fO ?_ ⟨trivial, trivial, enB _ _, aY _ _, dJ _ _, trivial, trivial, aY _ _, trivial, trivial⟩
   exact Ap h9
 have hf : (flS (bH s)).2 = true := by simpa using hc3
 have hbj : brJ (bH s) = { bH s with disk := { (bH s).disk with levels := (flS (bH s)).1.disk.levels, seq := (flS (bH s)).1.disk.seq } } := by unfold brJ; rw [if_pos hf]
 refine sr rfl fun k12 => (ja) ((vq func72 ((bY (cR (flS (bH s)).1.disk.levels (bPm (aIr hs)).2) oG oG : aJ P 72 [.sl 1 ((flS (bH s)).1.disk.levels.map rsA)] [] 0 (.sl 1 ((flS (bH s)).1.disk.levels.map rsA))))) (k12 (wg rfl ((ja) (k10 (sr rfl fun k13 => (ja) ?_))))))
 refine vs rfl rfl rfl func32 (pS (brJ (bH s)) k hf1 hf2) (Ap hbj) (Ap hbj) ?_
 refine (Aj) (k13 (wR ?_))
 refine fO ?_ ⟨trivial, trivial, enB _ _, aY _ _, dJ _ _, trivial, trivial, aY _ _, trivial, trivial⟩
 exact Ap h9
def bPe {s : Store} (k : Int) (h : s.disk.safe <= (s.disk.log.size : Int)) : aOj s k = cX s k := by unfold aOj cX; omega
def bLw {s : Store} (k : Int) (h : s.disk.safe <= (s.disk.log.size : Int)) : aHe s k = iJ s k := by unfold aHe iJ; rw [bPe k h]
section
variable {rs : List Run} {ls : List Entry} {r : Run}
def rngStep (st : ByteArray × ByteArray) (r : Run) : ByteArray × ByteArray := (bMt st.1 (aI r), aSc st.2 (aL r))
def vY (rs : List Run) : Run := (rs[0]?).getD wS
def lJ (rs : List Run) : ByteArray × ByteArray := (rs.drop 1).foldl rngStep (aI (vY rs), aL (vY rs))
def frm (rs : List Run) (low : ByteArray) : Nat := (rs.takeWhile fun r => Op.bytesLess (aL r).toList low.toList).length
def bLk (rs : List Run) (high : ByteArray) : Nat := (rs.takeWhile fun r => !Op.bytesLess high.toList (aI r).toList).length
def rX (rs : List Run) (low high : ByteArray) : Nat := max (frm rs low) (bLk rs high)
def aDx (rs : List Run) (low high : ByteArray) : List Run := (rs.take (rX rs low high)).drop (frm rs low)
def aAn (ls : List Entry) (e : Nat) : Bool := decide ((e : Int) < ls.length) && (decide ((e : Int) < 20) || decide ((qD ls e).key = (cB ls e).key))
def dZ (ls : List Entry) : Nat -> Nat -> Nat
  | 0, e => e
  | f + 1, e => if aAn ls e = true then dZ ls f (e + 1) else e
def eM (ls : List Entry) : Nat := dZ ls ls.length 1
def wG : Nat -> List Entry -> List (List Entry)
  | 0, _ => []
  | f + 1, ls => if ls = [] then [] else ls.take (eM ls) :: wG f (ls.drop (eM ls))
def aKq (ls : List Entry) : List (List Entry) := wG ls.length ls
def bQj (ls : List Entry) : List Run × Bool := if (aKq ls).all (fun p => (iQ p).2) = true then ((aKq ls).map fun p => (iQ p).1, true) else ([], false)
def aFi (taken beneath : List Run) : List Entry := Plain.mergeAll entLt ((taken ++ aDx beneath (lJ taken).1 (lJ taken).2).map Run.ents)
def bLo (taken beneath : List Run) (ts : List Int) (bot : Bool) : List Run × Bool :=
  let made := bQj (cK (aFi taken beneath) ts bot)
  let f := frm beneath (lJ taken).1
  let t := rX beneath (lJ taken).1 (lJ taken).2
  if (!made.2 || decide (8 < ((beneath.length : Int) - ((t : Int) - (f : Int)) + (made.1.length : Int)))) = true then ([], false) else (beneath.take f ++ made.1 ++ beneath.drop t, true)
def bPj (c : List Run) (all : List Entry) : Bool := decide ((frm c (qD all 0).key : Int) = (rX c (qD all 0).key (qD all (all.length - 1)).key : Int))
def lT (b : List Run) (p : Nat) : List Run := (b.take (p + 1)).drop p
def tZ (b : List Run) (p : Nat) : List Run := b.take p ++ b.drop (p + 1)
def bQn (t : Tree) (level pick : Int) : Tree × Bool := match t.levels with
  | [a, b, c] =>
    if level = 0 then
      if a = [] then (t, false) else
      if (bLo a b t.snaps (bPj c (aFi a b))).2 = false then (t, false) else (⟨t.seq, t.mem, [[], (bLo a b t.snaps (bPj c (aFi a b))).1, c], t.snaps⟩, true)
    else if level = 1 then
      if (decide (pick < 0) || decide ((b.length : Int) <= pick)) = true then (t, false) else
      if (bLo (lT b pick.toNat) c t.snaps true).2 = false then (t, false) else (⟨t.seq, t.mem, [a, tZ b pick.toNat, (bLo (lT b pick.toNat) c t.snaps true).1], t.snaps⟩, true)
    else (t, false)
  | _ => (t, false)
def jW (st : ByteArray × ByteArray) (r : Run) : ByteArray × ByteArray := (if Op.bytesLess (aI r).toList st.1.toList = true then aI r else st.1, if (!(Op.bytesLess (aL r).toList st.2.toList || (aL r).toList == st.2.toList)) = true then aL r else st.2)
def nQ (rs : List Run) : ByteArray × ByteArray := (rs.drop 1).foldl jW (aI (vY rs), aL (vY rs))
def iR (low high : ByteArray) (r : Run) : Bool := (Op.bytesLess (aI r).toList high.toList || (aI r).toList == high.toList) && (Op.bytesLess low.toList (aL r).toList || low.toList == (aL r).toList)
def sY (ls : List Entry) (s i : Nat) : Bool := decide ((i : Int) = ls.length) || (decide (20 <= (i : Int) - (s : Int)) && !decide ((qD ls i).key = (cB ls i).key))
def qY (ls : List Entry) : Nat -> Nat -> Nat -> List (List Entry)
  | 0, _, _ => []
  | f + 1, s, i => if sY ls s i = true then (ls.take i).drop s :: qY ls f i (i + 1) else qY ls f s (i + 1)
def wA (ls : List Entry) : List Run := (qY ls ls.length 0 1).map fun p => ⟨p, bV p⟩
def gH (ls : List Run) (r : Run) : Nat -> Nat
  | 0 => 0
  | k + 1 => if (!(Op.bytesLess (aI ((ls[k]?).getD wS)).toList (aI r).toList || (aI ((ls[k]?).getD wS)).toList == (aI r).toList)) = true then gH ls r k else k + 1
def pE (ls : List Run) (r : Run) : List Run := ls.take (gH ls r ls.length) ++ [r] ++ ls.drop (gH ls r ls.length)
def sI (a b : List Run) : List Run := b.foldl pE a
def nU (rs : List Run) : Bool := rs.all (fun r => !decide (150 < (r.ents.length : Int))) && decide ((rs.length : Int) <= 8)
def tJ (lists : List (List Entry)) : List Entry := lists.flatten.foldl cC []
def cL (taken beneath : List Run) : List Run := taken ++ beneath.filter (iR (nQ taken).1 (nQ taken).2)
def iS (c : List Run) (all : List Run) : Bool := decide (((c.filter (iR (nQ all).1 (nQ all).2)).length : Int) = 0)
def lS (taken beneath : List Run) (ts : List Int) (bot : Bool) : List Run := sI (beneath.filter fun r => !iR (nQ taken).1 (nQ taken).2 r) (wA (bP (tJ ((cL taken beneath).map Run.ents)) ts bot))
def qA (t : Tree) (level pick : Int) : Tree × Bool := match t.levels with
  | [a, b, c] =>
    if (decide (level = 0) && decide (0 < (a.length : Int))) = true then
      if nU (lS a b t.snaps (iS c (cL a b))) = false then (t, false) else (⟨t.seq, t.mem, [[], lS a b t.snaps (iS c (cL a b)), c], t.snaps⟩, true)
    else if ((decide (level = 1) && decide (0 <= pick)) && decide (pick < (b.length : Int))) = true then
      if nU (lS (lT b pick.toNat) c t.snaps true) = false then (t, false) else (⟨t.seq, t.mem, [a, tZ b pick.toNat, lS (lT b pick.toNat) c t.snaps true], t.snaps⟩, true)
    else (t, false)
  | _ => (t, false)
def leB (x y : List UInt8) : (Op.bytesLess x y || x == y) = !Op.bytesLess y x := by
  cases h : Op.bytesLess y x with
  | true =>
    rw [xF h, Bool.false_or]
    show (x == y) = false
    refine beq_eq_false_iff_ne.2 fun e => ?_
    rw [e, bR] at h; cases h
  | false =>
    cases h2 : Op.bytesLess x y with
    | true => rfl
    | false => rw [aBm x y h2 h]; simp
def aVl : jW = rngStep := by
  funext st r
  unfold jW rngStep bMt aSc; rw [leB, leB]
  cases Op.bytesLess (aI r).toList st.1.toList <;> cases h : Op.bytesLess st.2.toList (aL r).toList <;> simp
def bJz (rs : List Run) : nQ rs = lJ rs := by unfold nQ lJ; rw [aVl]
def aTv {α : Type} {p : α -> Bool} : ∀ {ls : List α}, (ls.Pairwise fun a b => p b = true -> p a = true) -> ∀ i x, ls[i]? = some x -> (p x = true ↔ i < (ls.takeWhile p).length)
  | [], _, i, x, h => by cases h
  | y :: r, hp, i, x, h => by
    obtain ⟨h1, h2⟩ := List.pairwise_cons.1 hp
    cases hy : p y with
    | true =>
      rw [List.takeWhile_cons_of_pos hy, C5]
      cases i with
      | zero => cases h; exact ⟨fun _ => Nat.succ_pos _, fun _ => hy⟩
      | succ i => rw [aTv h2 i x h]; omega
    | false =>
      rw [List.takeWhile_cons_of_neg (by rw [hy]; simp)]
      refine ⟨fun hx => ?_, fun h => absurd h (H7 _)⟩
      cases i with
      | zero => cases h; rw [hy] at hx; cases hx
      | succ i => have := h1 x (E4 h) hx; rw [hy] at this; cases this
def wF {α : Type} {q : α -> Bool} : ∀ {ls : List α} {f t : Nat}, f <= t -> (∀ i x, ls[i]? = some x -> q x = decide (f <= i /\ i < t)) -> ls.filter q = (ls.take t).drop f /\ ls.filter (fun x => !q x) = ls.take f ++ ls.drop t
  | [], f, t, _, _ => by simp
  | y :: r, f, t, hft, h => by
    have h0 := h 0 y rfl
    match f, t, hft with
    | 0, 0, _ =>
      obtain ⟨g1, g2⟩ := wF (q := q) (ls := r) (f := 0) (t := 0) (A0 _) fun i x hx => (h (i + 1) x hx).trans (decide_eq_decide.2 og)
      have hq : q y = false := by rw [h0]; simp
      simp only [List.filter_cons, hq, g1, g2]
      simp
    | 0, t + 1, _ =>
      obtain ⟨g1, g2⟩ := wF (q := q) (ls := r) (f := 0) (t := t) (A3 _) fun i x hx => (h (i + 1) x hx).trans (decide_eq_decide.2 og)
      have hq : q y = true := by rw [h0]; simp
      simp only [List.filter_cons, hq, g1, g2]
      simp
    | f + 1, t + 1, hft =>
      obtain ⟨g1, g2⟩ := wF (q := q) (ls := r) (f := f) (t := t) og fun i x hx => (h (i + 1) x hx).trans (decide_eq_decide.2 og)
      have hq : q y = false := by rw [h0]; simp
      simp only [List.filter_cons, hq, g1, g2]
      simp
def Lvl (rs : List Run) : Prop := (∀ r ∈ rs, cH r = true) /\ rs.Pairwise fun a b => Op.bytesLess (aL a).toList (aI b).toList = true
def aXt (h : Lvl rs) (low : ByteArray) : ∀ i x, rs[i]? = some x -> (Op.bytesLess (aL x).toList low.toList = true ↔ i < frm rs low) := by
  refine aTv (List.Pairwise.imp_of_mem (fun {a b} ha hb hab hp => ?_) h.2)
  exact rR _ _ _ (lP hab (aEd (h.1 b hb))) hp
def aPp (h : Lvl rs) (high : ByteArray) : ∀ i x, rs[i]? = some x -> ((!Op.bytesLess high.toList (aI x).toList) = true ↔ i < bLk rs high) := by
  refine aTv (List.Pairwise.imp_of_mem (fun {a b} ha hb hab hp => ?_) h.2)
  simp only [Bool.not_eq_true'] at hp ⊢
  cases hq : Op.bytesLess high.toList (aI a).toList with
  | false => rfl
  | true =>
    have := rR _ _ _ (lP hq (aEd (h.1 a ha))) hab
    rw [hp] at this; cases this
def bEj (h : Lvl rs) (low high : ByteArray) : ∀ i x, rs[i]? = some x -> iR low high x = decide (frm rs low <= i /\ i < rX rs low high) := by
  intro i x hx
  have h1 := aXt h low i x hx
  have h2 := aPp h high i x hx
  unfold iR rX; rw [leB, leB, Bool.eq_iff_iff, B7, decide_eq_true_eq, h2]; simp only [Bool.not_eq_true', Bool.eq_false_iff, ne_eq, h1]; omega
def bLy (h : Lvl rs) (low high : ByteArray) : rs.filter (iR low high) = aDx rs low high /\ rs.filter (fun r => !iR low high r) = rs.take (frm rs low) ++ rs.drop (rX rs low high) :=
  wF (by unfold rX; omega) (bEj h low high)
def bJd {x y : Entry} (h1 : entLt x y = false) (h2 : entLt y x = false) : x.key = y.key := by
  have e : x.key.toList = y.key.toList := by
    simp only [entLt, Bool.or_eq_false_iff] at h1 h2
    exact aBm _ _ h1.1 h2.1
  have := aBp x.key y.key
  rw [e] at this
  simpa using this.symm
def aDg (L : List (List Entry)) : Prop := ∀ x ∈ L.flatten, ∀ y ∈ L.flatten, entLt x y = false -> entLt y x = false -> x = y
def bIq {L : List (List Entry)} (h1 : ∀ l ∈ L, cD l = true) (h2 : L.Pairwise fun a b => lK b a = true) : aDg L := by
  intro x hx y hy e1 e2
  obtain ⟨l1, hl1, hx⟩ := List.mem_flatten.1 hx
  obtain ⟨l2, hl2, hy⟩ := List.mem_flatten.1 hy
  obtain ⟨i, hi, gi⟩ := lD hl1
  obtain ⟨j, hj, gj⟩ := lD hl2
  rw [A1 hi] at gi; rw [A1 hj] at gj
  cases gi; cases gj
  have hk := bJd e1 e2
  have hs := aVi e1 e2
  have hp := F9.1 h2
  rcases Nat.lt_trichotomy i j with h | h | h
  . have := (dI _ _).1 (hp i j hi hj h) y hy x hx hk.symm; omega
  . subst h; exact aGh (qP (h1 _ hl1)) x hx y hy e1 e2
  have := (dI _ _).1 (hp j i hj hi h) x hx y hy hk; omega
def aGf {L M : List (List Entry)} (h : aDg L) (hs : ∀ l ∈ M, l ∈ L) : aDg M := fun x hx y hy => by
  have g : ∀ z ∈ M.flatten, z ∈ L.flatten := fun z hz => by
    obtain ⟨l, hl, hz⟩ := List.mem_flatten.1 hz
    exact List.mem_flatten.2 ⟨l, hs l hl, hz⟩
  exact h x (g x hx) y (g y hy)
def bOy {L : List (List Entry)} (h : aDg L) : Plain.mergeAll entLt L = tJ L := by
  have hf : L.flatMap id = L.flatten := by simp [List.flatMap]
  rw [Plain.mergeAll_put qC L (by rw [hf]; exact h) L.flatten (by rw [hf])]
  unfold tJ
  congr 1
  funext a b
  exact bJx a b
def bCz : ∀ (rs : List Run) (st : ByteArray × ByteArray), (∀ r ∈ rs, Op.bytesLess (aI r).toList (rs.foldl rngStep st).1.toList = false) /\ Op.bytesLess st.1.toList (rs.foldl rngStep st).1.toList = false /\ ((rs.foldl rngStep st).1 = st.1 ∨ ∃ r ∈ rs, (rs.foldl rngStep st).1 = aI r)
  | [], st => ⟨fun r hr => by (cases hr), bR _, .inl rfl⟩
  | r :: rs, st => by
    obtain ⟨h1, h2, h3⟩ := bCz rs (rngStep st r)
    have e : (rngStep st r).1 = if Op.bytesLess (aI r).toList st.1.toList = true then aI r else st.1 := by rw [<- aVl]; rfl
    have g : Op.bytesLess (aI r).toList (rngStep st r).1.toList = false /\ Op.bytesLess st.1.toList (rngStep st r).1.toList = false /\ ((rngStep st r).1 = st.1 ∨ (rngStep st r).1 = aI r) := by
      rw [e]; split
      . rename_i h; exact ⟨bR _, xF h, .inr rfl⟩
      rename_i h; exact ⟨by simpa using h, bR _, .inl rfl⟩
    refine ⟨fun x hx => ?_, wE _ _ _ g.2.1 h2, ?_⟩
    . rcases A7.1 hx with rfl | hx
      . exact wE _ _ _ g.1 h2
      exact h1 x hx
    rcases h3 with h3 | ⟨x, hx, h3⟩
    . rcases g.2.2 with h4 | h4
      . exact .inl (h3.trans h4)
      exact .inr ⟨r, A2, h3.trans h4⟩
    exact .inr ⟨x, A5 _ hx, h3⟩
def aXs : ∀ (rs : List Run) (st : ByteArray × ByteArray), (∀ r ∈ rs, Op.bytesLess (rs.foldl rngStep st).2.toList (aL r).toList = false) /\ Op.bytesLess (rs.foldl rngStep st).2.toList st.2.toList = false /\ ((rs.foldl rngStep st).2 = st.2 ∨ ∃ r ∈ rs, (rs.foldl rngStep st).2 = aL r)
  | [], st => ⟨fun r hr => by (cases hr), bR _, .inl rfl⟩
  | r :: rs, st => by
    obtain ⟨h1, h2, h3⟩ := aXs rs (rngStep st r)
    have g : Op.bytesLess (rngStep st r).2.toList (aL r).toList = false /\ Op.bytesLess (rngStep st r).2.toList st.2.toList = false /\ ((rngStep st r).2 = st.2 ∨ (rngStep st r).2 = aL r) := by
      show Op.bytesLess (aSc st.2 (aL r)).toList _ = _ /\ Op.bytesLess (aSc st.2 (aL r)).toList _ = _ /\ (aSc st.2 (aL r) = _ ∨ aSc st.2 (aL r) = _)
      unfold aSc; split
      . rename_i h; exact ⟨by simpa using h, bR _, .inl rfl⟩
      rename_i h; exact ⟨bR _, xF (by simpa using h), .inr rfl⟩
    refine ⟨fun x hx => ?_, wE _ _ _ h2 g.2.1, ?_⟩
    . rcases A7.1 hx with rfl | hx
      . exact wE _ _ _ h2 g.1
      exact h1 x hx
    rcases h3 with h3 | ⟨x, hx, h3⟩
    . rcases g.2.2 with h4 | h4
      . exact .inl (h3.trans h4)
      exact .inr ⟨r, A2, h3.trans h4⟩
    exact .inr ⟨x, A5 _ hx, h3⟩
def bHk (hne : rs ≠ []) : (∀ r ∈ rs, Op.bytesLess (aI r).toList (lJ rs).1.toList = false /\ Op.bytesLess (lJ rs).2.toList (aL r).toList = false) /\ (∃ r ∈ rs, (lJ rs).1 = aI r) /\ (∃ r ∈ rs, (lJ rs).2 = aL r) := by
  obtain ⟨x, r, rfl⟩ := H3 hne
  obtain ⟨h1, h2, h3⟩ := bCz r (aI x, aL x)
  obtain ⟨k1, k2, k3⟩ := aXs r (aI x, aL x)
  show (∀ y ∈ x :: r, Op.bytesLess (aI y).toList (r.foldl rngStep (aI x, aL x)).1.toList = false /\ Op.bytesLess (r.foldl rngStep (aI x, aL x)).2.toList (aL y).toList = false) /\ (∃ y ∈ x :: r, (r.foldl rngStep (aI x, aL x)).1 = aI y) /\ ∃ y ∈ x :: r, (r.foldl rngStep (aI x, aL x)).2 = aL y
  refine ⟨fun y hy => ?_, ?_, ?_⟩
  . rcases A7.1 hy with rfl | hy
    . exact ⟨h2, k2⟩
    exact ⟨h1 y hy, k1 y hy⟩
  . rcases h3 with h3 | ⟨y, hy, h3⟩
    . exact ⟨x, A2, h3⟩
    exact ⟨y, A5 _ hy, h3⟩
  rcases k3 with k3 | ⟨y, hy, k3⟩
  . exact ⟨x, A2, k3⟩
  exact ⟨y, A5 _ hy, k3⟩
def aHp (ls : List Entry) : ∀ f e, e <= ls.length -> e <= dZ ls f e /\ dZ ls f e <= ls.length
  | 0, e, h => ⟨A0 _, h⟩
  | f + 1, e, h => by
    unfold dZ; split
    . rename_i hc
      have hlt : e < ls.length := by simp only [aAn, B7, decide_eq_true_eq] at hc; omega
      have := aHp ls f (e + 1) hlt
      omega
    exact ⟨A0 _, h⟩
def aFx (h : ls ≠ []) : 1 <= eM ls /\ eM ls <= ls.length := aHp ls _ 1 (E8.2 h)
def aXn {s i : Nat} (h : s < i) (hi : i <= ls.length) : aAn (ls.drop s) (i - s) = !sY ls s i := by
  have e1 : qD (ls.drop s) (i - s) = qD ls i := by unfold qD; rw [H4, show s + (i - s) = i by omega]
  have e2 : cB (ls.drop s) (i - s) = cB ls i := by unfold cB; rw [H4, show s + (i - s - 1) = i - 1 by omega]
  unfold aAn sY; rw [e1, e2, B1]
  by_cases g1 : i = ls.length
  . rw [decide_eq_false (show ¬ (((i - s : Nat) : Int) < ((ls.length - s : Nat) : Int)) by omega), decide_eq_true (show (i : Int) = ls.length by omega)]; rfl
  rw [decide_eq_true (show (((i - s : Nat) : Int) < ((ls.length - s : Nat) : Int)) by omega), decide_eq_false (show ¬ (i : Int) = ls.length by omega)]
  by_cases g2 : 20 <= i - s
  . rw [decide_eq_false (show ¬ ((i - s : Nat) : Int) < 20 by omega), decide_eq_true (show (20 : Int) <= (i : Int) - (s : Int) by omega)]
    by_cases g3 : (qD ls i).key = (cB ls i).key <;> simp [g3]
  rw [decide_eq_true (show ((i - s : Nat) : Int) < 20 by omega), decide_eq_false (show ¬ (20 : Int) <= (i : Int) - (s : Int) by omega)]; rfl
def bBm {ls : List Entry} {s : Nat} : ∀ (d i : Nat), s < i -> i + d = ls.length -> ∀ g, d <= g -> qY ls (d + 1) s i = (ls.take (s + dZ (ls.drop s) g (i - s))).drop s :: qY ls (ls.length - (s + dZ (ls.drop s) g (i - s))) (s + dZ (ls.drop s) g (i - s)) (s + dZ (ls.drop s) g (i - s) + 1)
  | 0, i, h, hi, g, _ => by
    have hi : i = ls.length := by omega
    have hc := aXn h (Nat.le_of_eq hi)
    have ha : sY ls s i = true := by unfold sY; rw [decide_eq_true (show (i : Int) = ls.length by omega), Bool.true_or]
    have he : dZ (ls.drop s) g (i - s) = i - s := by
      cases g with
      | zero => rfl
      | succ g => unfold dZ; rw [hc, ha, if_neg oS]
    rw [he, show s + (i - s) = i by omega]; unfold qY; rw [if_pos ha, show ls.length - i = 0 by omega]
    simp [qY]
  | d + 1, i, h, hi, g, hg => by
    obtain ⟨g, rfl⟩ : ∃ k, g = k + 1 := ⟨g - 1, og⟩
    have hc := aXn h (show i <= ls.length by omega)
    have h1 : qY ls (d + 1 + 1) s i = if sY ls s i = true then (ls.take i).drop s :: qY ls (d + 1) i (i + 1) else qY ls (d + 1) s (i + 1) := rfl
    have h2 : dZ (ls.drop s) (g + 1) (i - s) = if aAn (ls.drop s) (i - s) = true then dZ (ls.drop s) g (i - s + 1) else i - s := rfl
    rw [h1, h2, hc]
    cases ha : sY ls s i with
    | true =>
      simp only [Bool.not_true, C4, if_false, if_true]; rw [show s + (i - s) = i by omega, show ls.length - i = d + 1 by omega]
    | false =>
      simp only [Bool.not_false, C4, if_false, if_true]
      have := bBm (ls := ls) (s := s) d (i + 1) og og g og
      rw [show i + 1 - s = i - s + 1 by omega] at this; exact this
def bCh (ls : List Entry) : ∀ f s, s <= ls.length -> ls.length - s <= f -> wG f (ls.drop s) = qY ls (ls.length - s) s (s + 1)
  | 0, s, h, hf => by rw [show ls.length - s = 0 by omega]; rfl
  | f + 1, s, h, hf => by
    unfold wG
    rcases Nat.eq_or_lt_of_le h with h0 | h0
    . rw [h0, List.drop_length, if_pos rfl, Nat.sub_self]; rfl
    have hne : ls.drop s ≠ [] := by intro e; have := congrArg List.length e; rw [B1, List.length_nil] at this; omega
    have hb := aFx hne
    rw [B1] at hb; rw [if_neg hne, List.drop_drop, bCh ls f (s + eM (ls.drop s)) og og]
    obtain ⟨d, hd⟩ : ∃ d, ls.length - s = d + 1 := ⟨ls.length - s - 1, og⟩
    have := bBm (ls := ls) (s := s) d (s + 1) og og (ls.drop s).length (by rw [B1]; omega)
    rw [show s + 1 - s = 1 by omega] at this; rw [hd, this]
    have hc : dZ (ls.drop s) (ls.drop s).length 1 = eM (ls.drop s) := rfl
    rw [hc]
    congr 1
    rw [List.take_drop]
def aEf (ls : List Entry) : wA ls = (aKq ls).map fun p => ⟨p, bV p⟩ := by
  have := bCh ls ls.length 0 (A3 _) og
  rw [List.drop_zero, Nat.sub_zero] at this; unfold wA aKq; rw [this]
def zM : ∀ f (ls : List Entry), ls.length <= f -> (wG f ls).flatten = ls /\ ∀ p ∈ wG f ls, p ≠ []
  | 0, ls, h => by rw [List.length_eq_zero_iff.1 (Nat.le_zero.1 h)]; exact ⟨rfl, fun p hp => by (cases hp)⟩
  | f + 1, ls, h => by
    unfold wG; split
    . rename_i e; rw [e]; exact ⟨rfl, fun p hp => by (cases hp)⟩
    rename_i hne
    have hb := aFx hne
    obtain ⟨h1, h2⟩ := zM f (ls.drop (eM ls)) (by rw [B1]; omega)
    refine ⟨by rw [List.flatten_cons, h1, List.take_append_drop], fun p hp => ?_⟩
    rcases A7.1 hp with rfl | hp
    . intro e; have := congrArg List.length e; rw [B3, List.length_nil] at this; omega
    exact h2 p hp
def bBl {X Y : List Run} {r : Run} (hX : ∀ x ∈ X, Op.bytesLess (aI r).toList (aI x).toList = false) (hY : ∀ y ∈ Y, Op.bytesLess (aI r).toList (aI y).toList = true) : ∀ d, d <= Y.length -> gH (X ++ Y) r (X.length + d) = X.length
  | 0, _ => by
    rcases Nat.eq_zero_or_pos X.length with h0 | h0
    . rw [h0]; rfl
    obtain ⟨k, hk⟩ : ∃ k, X.length = k + 1 := ⟨X.length - 1, og⟩
    rw [Nat.add_zero, hk]; unfold gH; rw [leB, G3 og, A1 og, Option.getD_some, hX _ (C8 _)]
    simp
  | d + 1, h => by
    rw [show X.length + (d + 1) = X.length + d + 1 by omega]; unfold gH; rw [leB, G4 og, show X.length + d - X.length = d by omega, A1 og, Option.getD_some, hY _ (C8 _)]; simp only [Bool.not_true, Bool.not_false, if_true]
    exact bBl hX hY d og
def bMc {X Y : List Run} (hX : ∀ x ∈ X, Op.bytesLess (aI r).toList (aI x).toList = false) (hY : ∀ y ∈ Y, Op.bytesLess (aI r).toList (aI y).toList = true) : pE (X ++ Y) r = X ++ [r] ++ Y := by
  have := bBl hX hY Y.length (A0 _)
  unfold pE; rw [A4, this, List.take_left, List.drop_left]
def aVq : ∀ (M A B : List Run), (∀ m ∈ M, (∀ x ∈ A, Op.bytesLess (aI m).toList (aI x).toList = false) /\ ∀ y ∈ B, Op.bytesLess (aI m).toList (aI y).toList = true) -> (M.Pairwise fun a b => Op.bytesLess (aI b).toList (aI a).toList = false) -> sI (A ++ B) M = A ++ M ++ B
  | [], A, B, _, _ => by simp [sI]
  | m :: M, A, B, h, hp => by
    obtain ⟨p1, p2⟩ := List.pairwise_cons.1 hp
    have hm := h m A2
    have := aVq M (A ++ [m]) B (fun x hx => ⟨fun y hy => ?_, (h x (A5 _ hx)).2⟩) p2
    . unfold sI at this ⊢
      rw [List.foldl_cons, bMc hm.1 hm.2, this]
      simp
    rcases A6.1 hy with hy | hy
    . exact (h x (A5 _ hx)).1 y hy
    rw [B4.1 hy]; exact p1 x hx
def aRq (ls : List Entry) (ts : List Int) (b : Bool) : cD (cK ls ts b) = true /\ ∀ e ∈ cK ls ts b, ∃ f ∈ ls, kp e = kp f := by
  cases ho : cD ls with
  | false => unfold cK; rw [ho]; exact ⟨rfl, fun e he => by (cases he)⟩
  | true =>
    refine ⟨(aMx ho).1, fun e he => ?_⟩
    have hok := fun e he => lW ho (e := e) he
    have hsub : ((cK ls ts b).map kp).Sublist (ls.map kp) := by
      unfold cK; rw [if_pos ho]
      have := aNo (g := fun c => sqK ts c b) (ls := ls) (fun c hc => (aSg (fun e he => hok e (hc e he)) b).1) ls.length 0
      simpa using this
    obtain ⟨f, hf, e2⟩ := A9.1 (hsub.subset (D2 he))
    exact ⟨f, hf, e2.symm⟩
def aPh {ls p : List Entry} (h : cD ls = true) (hs : p.Sublist ls) : cD p = true :=
  aNe (fun e he => lW h (hs.subset he)) ((qP h).sublist hs)
def bCd (h : cD ls = true) : (∀ r ∈ wA ls, ∃ e ∈ ls, aI r = e.key) /\ (wA ls).Pairwise fun a b => Op.bytesLess (aI b).toList (aI a).toList = false := by
  obtain ⟨h1, h2⟩ := zM ls.length ls (A0 _)
  have hk : ∀ p ∈ aKq ls, ∃ e ∈ p, aI (⟨p, bV p⟩ : Run) = e.key := fun p hp => by
    obtain ⟨y, r, rfl⟩ := H3 (h2 p hp)
    exact ⟨y, A2, rfl⟩
  have hp : (aKq ls).Pairwise fun p q => ∀ x ∈ p, ∀ y ∈ q, entLt x y = true := by
    have := qP h
    rw [<- h1] at this
    exact (List.pairwise_flatten.1 this).2
  rw [aEf]
  refine ⟨fun r hr => ?_, ?_⟩
  . obtain ⟨p, hp, rfl⟩ := A9.1 hr
    obtain ⟨e, he, ek⟩ := hk p hp
    exact ⟨e, by rw [<- h1]; exact List.mem_flatten.2 ⟨p, hp, he⟩, ek⟩
  rw [List.pairwise_map]
  refine List.Pairwise.imp_of_mem (fun {p q} hp hq g => ?_) hp
  obtain ⟨x, hx, ex⟩ := hk p hp
  obtain ⟨y, hy, ey⟩ := hk q hq
  rw [ex, ey]
  exact aIz (g x hx y hy)
def aGc {low high : ByteArray} (h : r ∈ aDx rs low high) : r ∈ rs := C9 (D0 h)
def bHe {taken beneath : List Run} {ts : List Int} {bot : Bool} (ht : taken ≠ []) (hr : ∀ r ∈ taken, cH r = true) (hb : Lvl beneath) (ha : aDg ((taken ++ beneath).map Run.ents)) :
    ∃ f t, f <= t /\ t <= beneath.length /\ frm beneath (lJ taken).1 = f /\ rX beneath (lJ taken).1 (lJ taken).2 = t /\ lS taken beneath ts bot = beneath.take f ++ wA (cK (aFi taken beneath) ts bot) ++ beneath.drop t /\
      cD (cK (aFi taken beneath) ts bot) = true /\ (∀ e ∈ cK (aFi taken beneath) ts bot, ∃ g ∈ aH taken ++ aH beneath, kp e = kp g) /\
      ∀ e ∈ cK (aFi taken beneath) ts bot, (∀ x ∈ beneath.take f, Op.bytesLess (aL x).toList e.key.toList = true) /\ ∀ y ∈ beneath.drop t, Op.bytesLess e.key.toList (aI y).toList = true := by
  obtain ⟨q1, q2⟩ := bLy hb (lJ taken).1 (lJ taken).2
  have hall : cL taken beneath = taken ++ aDx beneath (lJ taken).1 (lJ taken).2 := by unfold cL; rw [bJz, q1]
  have hAr : ∀ r ∈ taken ++ aDx beneath (lJ taken).1 (lJ taken).2, cH r = true := fun r h => by
    rcases A6.1 h with h | h
    . exact hr r h
    exact hb.1 r (aGc h)
  have hm : aFi taken beneath = tJ ((cL taken beneath).map Run.ents) := by
    rw [hall]
    refine bOy (aGf ha fun l hl => ?_)
    obtain ⟨r, h, rfl⟩ := A9.1 hl
    refine D2 ?_
    rcases A6.1 h with h | h
    . exact List.mem_append_left _ h
    exact List.mem_append_right _ (aGc h)
  have hperm : (aFi taken beneath).Perm ((taken ++ aDx beneath (lJ taken).1 (lJ taken).2).map Run.ents).flatten := by
    have := (Plain.mergeAll_ok qC ((taken ++ aDx beneath (lJ taken).1 (lJ taken).2).map Run.ents)).1
    have hf : ∀ L : List (List Entry), L.flatMap id = L.flatten := fun L => by simp [List.flatMap]
    rw [hf] at this; exact this
  obtain ⟨s1, s2⟩ := aRq (aFi taken beneath) ts bot
  obtain ⟨l1, l2⟩ := bCd s1
  have hsq : bP (tJ ((cL taken beneath).map Run.ents)) ts bot = cK (aFi taken beneath) ts bot := by rw [<- hm]; exact aQb _ _ _
  generalize hL : cK (aFi taken beneath) ts bot = L at s1 s2 l1 l2 hsq
  generalize hf : frm beneath (lJ taken).1 = f at q2
  generalize hto : rX beneath (lJ taken).1 (lJ taken).2 = t at q2
  have hft : f <= t /\ t <= beneath.length := by
    rw [<- hf, <- hto]; unfold rX
    have h1 : frm beneath (lJ taken).1 <= beneath.length := List.Sublist.length_le (List.takeWhile_sublist _)
    have h2 : bLk beneath (lJ taken).2 <= beneath.length := List.Sublist.length_le (List.takeWhile_sublist _)
    omega
  have hsep : ∀ e ∈ L, (∀ x ∈ beneath.take f, Op.bytesLess (aL x).toList e.key.toList = true) /\ ∀ y ∈ beneath.drop t, Op.bytesLess e.key.toList (aI y).toList = true := fun e he => by
    obtain ⟨g, hg, ek2⟩ := s2 e he
    have ek2 : e.key = g.key := congrArg Prod.fst ek2
    rw [ek2]
    obtain ⟨l, hl, hgl⟩ := List.mem_flatten.1 (hperm.mem_iff.1 hg)
    obtain ⟨r, hrm, rfl⟩ := A9.1 hl
    have hrk := uL (hAr r hrm) hgl
    have hfc := aXt hb (lJ taken).1
    have huc := aPp hb (lJ taken).2
    have hpw := F9.1 hb.2
    refine ⟨fun x hx => ?_, fun y hy => ?_⟩
    . obtain ⟨i, hi, gi⟩ := List.mem_iff_getElem.1 hx
      have hi2 : i < f := by rw [B3] at hi; omega
      rw [List.getElem_take] at gi
      rcases A6.1 hrm with h | h
      . have h1 := (hfc i x (by rw [A1 og, gi])).2 og
        exact lP (lP h1 ((bHk ht).1 r h).1) hrk.1
      rw [aDx, hf, hto] at h
      obtain ⟨j, hj, gj⟩ := List.mem_iff_getElem.1 h
      rw [B1, B3] at hj; rw [List.getElem_drop, List.getElem_take] at gj
      have h1 := hpw i (f + j) og og og
      rw [gi, gj] at h1
      exact lP h1 hrk.1
    obtain ⟨i, hi, gi⟩ := List.mem_iff_getElem.1 hy
    rw [B1] at hi; rw [List.getElem_drop] at gi
    rcases A6.1 hrm with h | h
    . have h1 : ¬ (!Op.bytesLess (lJ taken).2.toList (aI y).toList) = true := fun hc => by
        have := (huc (t + i) y (by rw [A1 og, gi])).1 hc
        have h3 : bLk beneath (lJ taken).2 <= t := by rw [<- hto]; unfold rX; omega
        omega
      have h1 : Op.bytesLess (lJ taken).2.toList (aI y).toList = true := by simpa using h1
      exact rO (wE _ _ _ ((bHk ht).1 r h).2 hrk.2) h1
    . rw [aDx, hf, hto] at h
      obtain ⟨j, hj, gj⟩ := List.mem_iff_getElem.1 h
      rw [B1, B3] at hj; rw [List.getElem_drop, List.getElem_take] at gj
      have h1 := hpw (f + j) (t + i) og og og
      rw [gi, gj] at h1
      exact rO hrk.2 h1
  have hord : lS taken beneath ts bot = beneath.take f ++ wA L ++ beneath.drop t := by
    unfold lS; rw [bJz, q2, hsq]
    refine aVq _ _ _ (fun m hm => ?_) l2
    obtain ⟨e, he, ek⟩ := l1 m hm
    rw [ek]
    exact ⟨fun x hx => xF (rO (aEd (hb.1 x (C9 hx))) ((hsep e he).1 x hx)), (hsep e he).2⟩
  refine ⟨f, t, hft.1, hft.2, rfl, rfl, hord, s1, fun e he => ?_, hsep⟩
  obtain ⟨g, hg, ek⟩ := s2 e he
  refine ⟨g, ?_, ek⟩
  obtain ⟨l, hl, hgl⟩ := List.mem_flatten.1 (hperm.mem_iff.1 hg)
  obtain ⟨r, hrm, rfl⟩ := A9.1 hl
  rcases A6.1 hrm with h | h
  . exact List.mem_append_left _ (List.mem_flatMap.2 ⟨r, h, hgl⟩)
  exact List.mem_append_right _ (List.mem_flatMap.2 ⟨r, aGc h, hgl⟩)
end
section
variable {i : Nat} {rs : List Run} {l : Run}
def bOo {α : Type} {ls : List α} {k : Nat} {x : α} (h : ls[k]? = some x) (h1 : 1 <= k) : (ls.take (k + 1)).drop 1 = (ls.take k).drop 1 ++ [x] := by
  have := bNp (fun y => y) h h1
  simpa using this
def bBg {ls : List (List Entry)} {l : List Entry} (h : ls.drop i = l :: ls.drop (i + 1)) (m : List Entry) : (ls.drop i).flatten.foldl cC m = (ls.drop (i + 1)).flatten.foldl cC (l.foldl cC m) := by
  rw [h, List.flatten_cons, List.foldl_append]
def aPl (q : Run -> Bool) (h : rs[i]? = some l) : (rs.take (i + 1)).filter q = (rs.take i).filter q ++ (if q l = true then [l] else []) := by
  rw [G2, h, List.filter_append]; simp only [Option.toList_some, List.filter_cons, List.filter_nil]
def aSd (ls : List Run) (r : Run) : ∀ k, gH ls r k <= k
  | 0 => A0 _
  | k + 1 => by
    unfold gH; split
    . exact Nat.le_succ_of_le (aSd ls r k)
    exact A0 _
def aMm (ls : List Run) (r : Run) : (pE ls r).length = ls.length + 1 := by
  have := aSd ls r ls.length
  unfold pE; simp only [A4, B3, B1, List.length_singleton]; omega
def bLe (h : rs[i]? = some l) (h1 : (150 : Int) < (l.ents.length : Int)) : nU rs = false := by
  unfold nU
  have : rs.all (fun r => !decide (150 < (r.ents.length : Int))) = false := by
    rw [List.all_eq_false]
    exact ⟨l, E4 h, by simpa using h1⟩
  rw [this]; rfl
def bIk {q : Run -> Bool} (h : rs[i]? = some l) (h0 : (rs.take i).all q = true) (h1 : q l = true) : (rs.take (i + 1)).all q = true := by
  rw [G2, h, List.all_append, h0]
  simp [h1]
def bId {ls : List Entry} {f s i : Nat} : qY ls (f + 1) s i = if sY ls s i = true then (ls.take i).drop s :: qY ls f i (i + 1) else qY ls f s (i + 1) := rfl
def slR : cU P 102 = some (105, some (2, 32)) := kr
def zcR : zC P 105 = some [.slice none 0 0, .int .i64 0] := kr
def bEu (ls : List Run) : ∀ x ∈ ls.map rA, aPs x := fun x hx => by
  obtain ⟨r, _, rfl⟩ := A9.1 hx
  refine bGc fun y hy => ?_
  simp only [A7, List.not_mem_nil, or_false] at hy
  rcases hy with rfl | rfl
  . exact bIe _ _
  exact bDs _
def aGl {ls : List Run} {r : Run} {p : Run -> Prop} (h : ∀ x ∈ ls, p x) (hr : p r) : ∀ x ∈ pE ls r, p x := fun x hx => by
  unfold pE at hx
  simp only [A6, B4] at hx
  rcases hx with (hx | rfl) | hx
  . exact h x (C9 hx)
  . exact hr
  exact h x (D0 hx)
def aHx (ls : List (List Entry)) (hb : ls.length <= 1048576) (hs : ∀ b ∈ ls, b.length <= 1048576) : aJ P 207 [.sl 1 (ls.map esA)] [] 0 (.sl 5 ((tJ ls).map enA)) := by
 refine (pq 32 [.tmp 2] func207) ?_
 have hmx := mxl
 refine (aj) ?_
 refine sr rfl fun k2 => (ja) ((jr) (k2 (aA fun k3 => ?_)))
 refine aFz 0 rfl ?_
 refine (Ad) ((aj) (wb ?_))
 refine wl (α := Nat × List Entry) (fun x => x.1 <= ls.length /\ x.2.length <= 1048576 * x.1 /\ (ls.drop x.1).flatten.foldl cC x.2 = tJ ls) (fun x => ls.length - x.1) (fun x => ([(0, .sl 1 (ls.map esA)), (3, .sl 5 (x.2.map enA)), (4, Ni (x.1 : Int))], [])) 0 (0, []) ⟨A3 _, by simp, rfl⟩ [] ?_ ?_
 . simp only [go_sem, List.map_nil, Int.natCast_zero] <;> simp
 rintro ⟨i, st⟩ ⟨hi, hol, hfold⟩
 simp only at hi hol hfold ⊢
 refine aA fun k5 => (aj) ((cdB) ?_ ?_) <;> intro hc1
 . have hge := gec hc1
   refine we ((jt) (k3 ((aj) (wR ?_))))
   rw [E5 hge] at hfold
   have h9 : tJ ls = st := hfold.symm
   refine fO ?_ (enB _ _)
   exact Ac h9
 obtain ⟨hlt, l, hl, hdrop, hml⟩ := ixc hc1
 have hll := hs l hml
 refine wk (k5 (aA fun k7 => wb ((aj) (wb ?_))))
 refine wl (α := Nat × List Entry) (fun x => x.1 <= l.length /\ x.2.length <= 1048576 * i + x.1 /\ (l.drop x.1).foldl cC x.2 = l.foldl cC st) (fun x => l.length - x.1) (fun x => ([(0, .sl 1 (ls.map esA)), (3, .sl 5 (x.2.map enA)), (4, Ni (i : Int)), (5, Ni (x.1 : Int))], [])) 0 (0, st) ⟨A3 _, by simpa using hol, rfl⟩ [] ?_ ?_
 . exact jc
 rintro ⟨k, out⟩ ⟨hk, hol2, hfold2⟩
 simp only at hk hol2 hfold2 ⊢
 refine aA fun k9 => sr rfl fun k10 => (Bm hl) ((jr) (k10 ((cdB) ?_ ?_))) <;> intro hc2
 . have hgek : l.length <= k := by have h9 : ¬ k < l.length := (by simpa using hc2); omega
   rw [E5 hgek] at hfold2
   simp only [List.foldl_nil] at hfold2
   refine we ((jt) ((jt) (k7 ((jw (wiS i og)) ((jt) ?_)))))
   refine ⟨(i + 1, out), ⟨og, by simp only; omega, by rw [bBg hdrop, <- hfold2] at hfold; exact hfold⟩, og, [], ?_⟩
   exact jo
 have hltk : k < l.length := by simpa using hc2
 obtain ⟨e, he, hdrop2, hme⟩ := ix hltk
 refine wk (k9 (aA fun k11 => wb (wg rfl ?_)))
 simp only [go_sem, hl, he, esA, enA]
 refine (jr) ?_
 refine (vr rfl rfl rfl func125 (vH out e og) Af Af) ((jr) ((jt) (k11 ?_)))
 have hwk := wiS k og
 refine wg rfl ((Aa hwk) ((jt) ?_))
 refine ⟨(k + 1, cC out e), ⟨og, by have := nZ out e; simp only; omega, by rw [hdrop2] at hfold2; exact hfold2⟩, og, [], ?_⟩
 exact jo
def xZ (rs : List Run) (hne : rs ≠ []) (hr : ∀ r ∈ rs, 1 <= r.ents.length /\ r.ents.length <= 1048576) (hl : rs.length <= 1000000) : aJ P 205 [.sl 2 (rs.map rA)] [] 0 (.tup [.raw (.string (nQ rs).1), .raw (.string (nQ rs).2)]) := by
 refine (pq 47 [.tmp 2, .tmp 3] func205) ?_
 have hlen := E8.2 hne
 have h0 : rs[0]? = some (vY rs) := by unfold vY; rw [A1 hlen]; rfl
 have hq := hr (vY rs) (E4 h0)
 refine (aj) ?_
 refine sr rfl fun k2 => ?_
 simp only [go_sem, h0, rA, Int.toNat_zero]
 refine (jr) ?_
 refine (vr rfl rfl rfl func120 (eJ (vY rs) hq.1) Ag Ag) ((jr) (k2 (sr rfl fun k3 => ?_)))
 simp only [go_sem, h0, rA, Int.toNat_zero]
 refine (jr) ?_
 refine (vr rfl rfl rfl func119 (lO (vY rs) hq.1 og) Ag Ag) ((jr) (k3 (aA fun k4 => (aj) (wb ?_))))
 refine wl (α := Nat) (fun x => 1 <= x /\ x <= rs.length) (fun x => rs.length - x) (fun x => ([(0, .sl 2 (rs.map rA)), (4, .raw (.string (((rs.take x).drop 1).foldl jW (aI (vY rs), aL (vY rs))).1)), (5, .raw (.string (((rs.take x).drop 1).foldl jW (aI (vY rs), aL (vY rs))).2)), (6, Ni (x : Int))], [])) 0 1 ⟨A0 _, hlen⟩ [] ?_ ?_
 . have e1 : (rs.take 1).drop 1 = [] := by cases rs <;> rfl
   simp only [go_sem, e1, List.foldl_nil] <;> simp
 rintro i ⟨hi1, hi⟩
 refine aA fun k6 => (aj) ((cdB) ?_ ?_) <;> intro hc1
 . have hge := gec hc1
   have hie : i = rs.length := by omega
   subst hie; rw [E9]
   refine we ((jt) (k4 ((aj) (wR ?_))))
   refine fO ?_ ⟨trivial, trivial, trivial⟩
   simp only [go_sem, nQ]
 obtain ⟨hlt, l, hlx, hdrop, hml⟩ := ixc hc1
 have hst : ((rs.take (i + 1)).drop 1).foldl jW (aI (vY rs), aL (vY rs)) = jW (((rs.take i).drop 1).foldl jW (aI (vY rs), aL (vY rs))) l := by rw [bOo hlx hi1, List.foldl_append]; rfl
 obtain ⟨lo, hgh, hfo⟩ : ∃ lo hgh, ((rs.take i).drop 1).foldl jW (aI (vY rs), aL (vY rs)) = (lo, hgh) := ⟨_, _, rfl⟩
 have hst2 := hst
 rw [hfo] at hst2; rw [hfo]
 refine wk (k6 (aA fun k8 => wb ?_))
 refine yZ (α := Unit) (fun x => True) (fun x => ([(0, .sl 2 (rs.map rA)), (4, Ns (if Op.bytesLess (aI l).toList lo.toList = true then aI l else lo)), (5, Ns hgh), (6, Ni (i : Int))], [])) 0 ?_ ?_
 . refine sr rfl fun k10 => (Ao hlx) ((jr) ?_)
   refine vs rfl rfl rfl func120 (eJ l (hr l hml).1) Ag Ag ?_
   refine (Ao hlx) ((jr) (k10 ((cdB) ?_ ?_))) <;> intro hc2
   . have hx2 : Op.bytesLess (aI l).toList lo.toList = false := hc2
     refine wk ?_; try simp only [aFo]
     refine ⟨(), trivial, [], ?_⟩
     exact Cd hx2
   have hx2 : Op.bytesLess (aI l).toList lo.toList = true := hc2
   refine wg rfl ((Ao hlx) ((jr) ?_))
   refine vs rfl rfl rfl func120 (eJ l (hr l hml).1) Ag Ag ?_
   refine (Ao hlx) ((jr) ?_)
   try simp only [aFo]
   refine ⟨(), trivial, [], ?_⟩
   exact Cd hx2
 rintro ⟨⟩ -
 refine sr rfl fun k11 => (Ao hlx) ((jr) ?_)
 refine vs rfl rfl rfl func119 (lO l (hr l hml).1 (by have := (hr l hml).2; omega)) Ag Ag ?_
 refine (Ao hlx) ((jr) (k11 ((cdB) ?_ ?_))) <;> intro hc3
 . have hx3 : (!(Op.bytesLess (aL l).toList hgh.toList || (aL l).toList == hgh.toList)) = false := hc3
   refine wk ((jt) (k8 ((jw (wiS i og)) ((jt) ?_))))
   refine ⟨i + 1, ⟨og, og⟩, og, [], ?_⟩
   simp only [go_sem, hst2, jW, hx3, if_true, C4, if_false] <;> simp
 have hx3 : (!(Op.bytesLess (aL l).toList hgh.toList || (aL l).toList == hgh.toList)) = true := hc3
 refine wg rfl ((Ao hlx) ((jr) ?_))
 refine vs rfl rfl rfl func119 (lO l (hr l hml).1 (by have := (hr l hml).2; omega)) Ag Ag ?_
 refine (Ao hlx) ((jr) ((jt) (k8 ((jw (wiS i og)) ((jt) ?_)))))
 refine ⟨i + 1, ⟨og, og⟩, og, [], ?_⟩
 simp only [go_sem, hst2, jW, hx3, if_true, C4, if_false] <;> simp
def aOc (r : Run) (low high : ByteArray) (h1 : 1 <= r.ents.length) (h2 : r.ents.length <= 1048576) : aJ P 214 [rA r, Ns low, Ns high] [] 0 (Nb (iR low high r)) := by
 refine (pq 17 [.tmp 6] func214) ?_
 simp only [rA]
 refine (aj) ?_
 refine sr rfl fun k2 => (ja) ?_
 refine vs rfl rfl rfl func120 (eJ r h1) Ag Ag ?_
 simp only [go_sem, rA]
 refine vpg rfl rfl rfl rfl rfl rfl ⟨func119, rfl, rfl⟩ (fun hg => lO r h1 og) oG (fun hg => Ag) Ag trivial ?_
 simp only [go_sem, rA]
 refine k2 (wR (fO ?_ trivial))
 simp only [go_sem, iR]
def aBa (rs : List Run) (low high : ByteArray) (hr : ∀ r ∈ rs, 1 <= r.ents.length /\ r.ents.length <= 1048576) (hl : rs.length <= 1000000) : aJ P 206 [.sl 2 (rs.map rA), Ns low, Ns high] [] 0 (.tup [.sl 2 ((rs.filter (iR low high)).map rA), .sl 2 ((rs.filter (fun r => !iR low high r)).map rA)]) := by
 refine (pq 42 [.tmp 6, .tmp 7] func206) ?_
 have hmx := mxl
 refine (aj) ?_
 refine sr rfl fun k2 => (ja) ((jr) (k2 (sr rfl fun k3 => (ja) ((jr) (k3 (aA fun k4 => (aj) (wb ?_)))))))
 refine wn rs.length (fun x => ([(0, .sl 2 (rs.map rA)), (1, Ns low), (2, Ns high), (8, .ref 0), (9, .ref 1), (10, Ni (x : Int))], [(0, .row 105 2 (((rs.take x).filter (iR low high)).map rA)), (1, .row 105 2 (((rs.take x).filter (fun r => !iR low high r)).map rA))])) 2 [] ?_ ?_
 . simp only [go_sem, AObj.bel, List.take_zero, List.filter_nil, List.map_nil, Int.natCast_zero] <;> simp
 rintro i hi
 refine aA fun k6 => (aj) ((cdB) ?_ ?_) <;> intro hc1
 . have hge := gec hc1
   have hie : i = rs.length := by omega
   subst hie; rw [E9]
   refine we ((jt) (k4 ((aj) ?_)))
   refine aFz 0 rfl ?_
   refine (Ad) ?_
   refine aFz 1 rfl ?_
   refine (Ad) (wR ?_)
   refine fO ?_ ⟨pA _ _, pA _ _, trivial⟩
   exact At
 obtain ⟨hlt, l, hlx, hdrop, hml⟩ := ixc hc1
 have hf1 := aPl (iR low high) hlx
 have hf2 := aPl (fun r => !iR low high r) hlx
 have hfl1 : ((rs.take i).filter (iR low high)).length <= i := F4 (List.length_filter_le _ _) (by rw [B3]; omega)
 have hfl2 : ((rs.take i).filter (fun r => !iR low high r)).length <= i := F4 (List.length_filter_le _ _) (by rw [B3]; omega)
 refine wk (k6 (aA fun k8 => wb (sr rfl fun k9 => (Ao hlx) ((jr) ?_))))
 refine vs rfl rfl rfl func214 (aOc l low high (hr l hml).1 (hr l hml).2) Ag Ag ?_
 refine (Ao hlx) ((jr) (k9 ((cdA) ?_ ?_))) <;> intro hc2
 . rw [if_pos hc2] at hf1
   rw [if_neg (by rw [hc2]; simp), List.append_nil] at hf2
   refine wg rfl ((Cw hlx) ((jr) ((jt) (k8 ((jw (wiS i og)) ((jt) ?_))))))
   refine ⟨i + 1, og, og, [(0, 3), (1, 1)], ?_⟩
   rw [hf1, hf2]
   simp only [go_sem, AObj.bel, AObj.ren, AV.ren, aB, sg] <;> simp [rA]
 rw [if_neg (by rw [hc2]; simp), List.append_nil] at hf1
 rw [if_pos (by rw [hc2]; rfl)] at hf2
 refine wg rfl ((Cw hlx) ((jr) ((jt) (k8 ((jw (wiS i og)) ((jt) ?_))))))
 refine ⟨i + 1, og, og, [(0, 0), (1, 3)], ?_⟩
 rw [hf1, hf2]
 simp only [go_sem, AObj.bel, AObj.ren, AV.ren, aB, sg] <;> simp [rA]
def aJm (rs : List Run) (hl : rs.length <= 1000000) : aJ P 208 [.sl 2 (rs.map rA)] [] 0 (.sl 1 ((rs.map Run.ents).map esA)) := by
 refine (pq 21 [.tmp 2] func208) ?_
 have hmx := mxl
 refine (aj) ?_
 refine sr rfl fun k2 => (ja) ((jr) (k2 (aA fun k3 => (aj) (wb ?_))))
 refine wn rs.length (fun x => ([(0, .sl 2 (rs.map rA)), (3, .ref 0), (4, Ni (x : Int))], [(0, .row 23 1 (((rs.take x).map Run.ents).map esA))])) 1 [] ?_ ?_
 . exact Ca
 rintro i hi
 refine aA fun k5 => (aj) ((cdB) ?_ ?_) <;> intro hc1
 . have hge := gec hc1
   have hie : i = rs.length := by omega
   subst hie; rw [E9]
   refine we ((jt) (k3 ((aj) ?_)))
   refine aFz 0 rfl ?_
   refine (Ad) (wR ?_)
   refine fO ?_ (vK _ _)
   exact At
 obtain ⟨hlt, l, hlx, hdrop, hml⟩ := ixc hc1
 refine wk (k5 (aA fun k7 => wb (wg rfl ((Cw hlx) ((jr) ((jt) (k7 ?_)))))))
 have hw := wiS i og
 have htk : (((rs.take i).map Run.ents).map esA) ++ [AV.sl 5 (l.ents.map enA)] = (((rs.take (i + 1)).map Run.ents).map esA) := by
   rw [G2, hlx]; simp [esA]
 refine wg rfl ((Aa hw) ((jt) ?_))
 refine ⟨i + 1, og, og, [(0, 2)], ?_⟩
 simp only [go_sem, AObj.bel, AObj.ren, AV.ren, aB, sg, Int.natCast_zero] <;> simp
 first | exact htk | simpa using htk
def aNu (rs : List Run) (hl : rs.length <= 1000000) : aJ P 212 [.sl 2 (rs.map rA)] [] 0 (Nb (nU rs)) := by
 refine (pq 20 [.tmp 2] func212) ((aj) ?_)
 refine aA fun k2 => (aj) (wb ?_)
 refine wl (α := Nat) (fun x => x <= rs.length /\ (rs.take x).all (fun r => !decide (150 < (r.ents.length : Int))) = true) (fun x => rs.length - x) (fun x => ([(0, .sl 2 (rs.map rA)), (3, Ni (x : Int))], [])) 0 0 ⟨A3 _, rfl⟩ [] ?_ ?_
 . exact jc
 rintro i ⟨hi, hall⟩
 refine aA fun k4 => (aj) ((cdB) ?_ ?_) <;> intro hc1
 . have hge := gec hc1
   have hie : i = rs.length := by omega
   subst hie; rw [E9] at hall
   refine we ((jt) (k2 ((aj) (wR ?_))))
   have h9 : nU rs = decide ((rs.length : Int) <= 8) := by unfold nU; rw [hall]; rfl
   exact fq h9
 obtain ⟨hlt, l, hlx, hdrop, hml⟩ := ixc hc1
 refine wk (k4 (aA fun k6 => wb (sr rfl fun k7 => ?_)))
 simp only [go_sem, hlx, rA, A8]
 refine (jr) (k7 ((cdA) ?_ ?_)) <;> intro hc2
 . have hg : (150 : Int) < (l.ents.length : Int) := by simpa using hc2
   have h9 := bLe hlx hg
   exact (aj) (wR ((Ah) (fq h9)))
 refine wk ((jt) (k6 ((jw (wiS i og)) ((jt) ?_))))
 refine ⟨i + 1, ⟨og, bIk hlx hall (by rw [hc2]; rfl)⟩, og, [], ?_⟩
 exact jo
def aMs (a b : List Run) (ha : ∀ r ∈ a, 1 <= r.ents.length /\ r.ents.length <= 1048576) (hb : ∀ r ∈ b, 1 <= r.ents.length /\ r.ents.length <= 1048576) (hla : a.length <= 1000000) (hlb : b.length <= 1000000) : aJ P 210 [.sl 2 (a.map rA), .sl 2 (b.map rA)] [] 0 (.sl 2 ((sI a b).map rA)) := by
 refine (pq 55 [.tmp 4] func210) ?_
 have hmx := mxl
 refine (aj) ?_
 refine sr rfl fun k2 => (ja) ((jr) (k2 (aA fun k3 => (aj) (wb ?_))))
 refine wl (α := Nat × List Run) (fun x => x.1 <= b.length /\ x.2.length = a.length + x.1 /\ (b.drop x.1).foldl pE x.2 = sI a b /\ ∀ r ∈ x.2, 1 <= r.ents.length /\ r.ents.length <= 1048576) (fun x => b.length - x.1) (fun x => ([(1, .sl 2 (b.map rA)), (5, .ref 0), (6, Ni (x.1 : Int))], [(0, .row 105 2 (x.2.map rA))])) 1 (0, a) ⟨A3 _, rfl, rfl, ha⟩ [(0, 1)] ?_ ?_
 . exact Cm
 rintro ⟨i, out⟩ ⟨hi, hol, hfold, hgo⟩
 simp only at hi hol hfold hgo ⊢
 refine aA fun k5 => (aj) ((cdB) ?_ ?_) <;> intro hc1
 . have hge := gec hc1
   have hie : i = b.length := by omega
   subst hie; rw [List.drop_length] at hfold
   have h9 : sI a b = out := hfold.symm
   refine we ((jt) (k3 ((aj) ?_)))
   refine aFz 0 rfl ?_
   refine (Ad) (wR ?_)
   refine fO ?_ (pA _ _)
   exact Ac h9
 obtain ⟨hlt, l, hlx, hdrop, hml⟩ := ixc hc1
 refine wk (k5 (aA fun k7 => wb ((aj) ?_)))
 refine yZ (α := Unit) (fun x => True) (fun x => ([(1, .sl 2 (b.map rA)), (5, .ref 0), (6, Ni (i : Int)), (7, Ni ((gH out l out.length : Nat) : Int))], [(0, .row 105 2 (out.map rA))])) 1 ?_ ?_
 . refine wb ?_
   refine wl (α := Nat) (fun x => x <= out.length /\ gH out l x = gH out l out.length) (fun x => x) (fun x => ([(1, .sl 2 (b.map rA)), (5, .ref 0), (6, Ni (i : Int)), (7, Ni (x : Int))], [(0, .row 105 2 (out.map rA))])) 1 out.length ⟨A0 _, rfl⟩ [] ?_ ?_
   . exact jp
   rintro k ⟨hk, hpos⟩
   refine aA fun k10 => ?_
   have hw1 := wr ((k : Int) - 1) ((k : Int) - 1) og
   have hpn : ((k : Int) - 1).toNat = k - 1 := by omega
   by_cases hoe : out = []
   . have hk0 : k = 0 := by rw [hoe] at hk; exact Nat.le_zero.1 hk
     have hdf : decide (0 < (k : Int)) = false := by simp; omega
     have hnn : out[k - 1]? = none := by rw [hoe]; rfl
     refine sd mixed rfl fun k11 => ?_
     simp only [go_sem, hdf, hw1, hpn, hlx, rA, hnn]
     repeat (first | refine ⟨og, ?_⟩ | refine ⟨fun hg => by simp at hg, ?_⟩)
     refine aN (fun hN => eQ (rt := []) (rd := []) (val := rA wS) hN rfl rfl rfl rfl trivial (fun hg => absurd hg oS) (by exact zQ _ _)) (.inl rfl) ?_
     simp only [go_sem, rA, hdf, hw1, hpn, hlx, rA, hnn]
     refine (jr) ?_
     refine tpg rfl rfl rfl rfl rfl rfl ⟨func120, rfl, rfl⟩ (fun hg => eJ wS (by simp at hg)) oG (fun hg => Ag) Ag trivial ?_
     refine (Ax hdf hw1 hpn hlx) ((jr) ?_)
     refine tpg rfl rfl rfl rfl rfl rfl ⟨func120, rfl, rfl⟩ (fun hg => eJ l (hb l hml).1) oG (fun hg => Ag) Ag trivial ?_
     refine (Ax hdf hw1 hpn hlx) ((jr) ((jy) (k11 ((cdA) ?_ ?_)))) <;> intro hc2
     . exfalso; simp at hc2
     rw [hk0] at hpos
     have hke : (k : Int) = ((gH out l out.length : Nat) : Int) := by rw [<- hpos, hk0]; rfl
     rw [hke]
     refine we ((jt) ?_)
     try simp only [aFo]
     refine ⟨(), trivial, [], ?_⟩
     exact jp
   have hop := E8.2 hoe
   obtain ⟨q, hqx, _, hqm⟩ := ix (xs := out) (i := k - 1) og
   have hrp : gH out l k = if (decide (0 < (k : Int)) && !(Op.bytesLess (aI q).toList (aI l).toList || (aI q).toList == (aI l).toList)) = true then gH out l (k - 1) else k := by
     rcases Nat.eq_zero_or_pos k with h0 | h0
     . subst h0; rfl
     obtain ⟨j, rfl⟩ : ∃ j, k = j + 1 := ⟨k - 1, og⟩
     rw [Nat.add_sub_cancel] at hqx ⊢
     rw [decide_eq_true og, Bool.true_and]
     conv => lhs; unfold gH
     rw [hqx]; rfl
   refine sd mixed rfl fun k11 => (Ax hw1 hpn hlx hqx) ((jr) ?_)
   refine tpg rfl rfl rfl rfl rfl rfl ⟨func120, rfl, rfl⟩ (fun hg => eJ q (hgo q hqm).1) oG (fun hg => Ag) Ag trivial ?_
   refine (Ax hw1 hpn hlx hqx) ((jr) ?_)
   refine tpg rfl rfl rfl rfl rfl rfl ⟨func120, rfl, rfl⟩ (fun hg => eJ l (hb l hml).1) oG (fun hg => Ag) Ag trivial ?_
   refine (Ax hw1 hpn hlx hqx) ((jr) ((jy) (k11 ((cdB) ?_ ?_)))) <;> intro hc3
   . have hke : k = gH out l out.length := by rw [hrp, if_neg (by rw [hc3]; simp)] at hpos; exact hpos
     rw [hke]
     refine we ((jt) ?_)
     try simp only [aFo]
     refine ⟨(), trivial, [], ?_⟩
     exact jp
   have hkp : 0 < k := by simp at hc3; omega
   have hstep : gH out l (k - 1) = gH out l out.length := by rw [hrp, if_pos (by exact hc3)] at hpos; exact hpos
   refine wk (k10 (wb ?_))
   have hw7 := wr ((k : Int) - 1) (((k - 1 : Nat) : Int)) og
   refine wg rfl ((Aa hw7) ((jt) ((jt) ?_)))
   refine ⟨k - 1, ⟨og, hstep⟩, og, [], ?_⟩
   exact jp
 rintro ⟨⟩ -
 have hpl := aSd out l out.length
 have h9 : ((out.take (gH out l out.length)).map rA ++ [AV.agg [AV.sl 5 (l.ents.map enA), .raw (.int .i64 l.mask)]]) ++ (out.drop (gH out l out.length)).map rA = (pE out l).map rA := by unfold pE; simp [rA]
 refine sr rfl fun k12 => (Bi) ((jr) ?_)
 refine bEn (j := 1) (zs := [.slice none 0 0, .int .i64 0]) (lo := ((gH out l out.length : Nat) : Int)) rfl rfl rfl rfl rfl rfl rfl rfl slR zcR rfl dg rfl rfl rfl rfl rfl dg og (by simpa using hpl) (aJe _) (bEu _) (by simp [maxLen]; omega) (by simp; omega) dg ?_
 simp only [go_sem, Int.toNat_natCast, List.nil_append, A8]
 refine (jr) (k12 ?_)
 refine dA mixed rfl ?_
 simp only [go_sem, hlx, rA, B3, A4, List.length_singleton, A8, B1, Int.toNat_natCast, <- E3, <- G1]
 refine (jr) ?_
 refine aN (fun hN => bDp (h := ((gH out l out.length : Nat) : Int)) rfl rfl hN slR rfl rfl rfl og (by simpa using hpl)) (.inr dg) ?_
 simp only [go_sem, hlx, rA, Int.toNat_natCast, hlx, rA, B3, A4, List.length_singleton, A8, B1, Int.toNat_natCast, <- E3, <- G1]
 refine (jr) ((jy) ((jt) (k7 ((jw (wiS i og)) ((jt) ?_)))))
 refine ⟨(i + 1, pE out l), ⟨og, by have := aMm out l; simp only; omega, by rw [hdrop] at hfold; exact hfold, aGl hgo (hb l hml)⟩, og, [(0, 6)], ?_⟩
 simp only [go_sem, AObj.bel, AObj.ren, AV.ren, aB, sg, Int.natCast_zero] <;> simp
 first | exact h9 | simpa using h9
def aTe (ls : List Entry) (hz : cZ ls) (hl : ls.length <= 1048576) : aJ P 211 [.sl 5 (ls.map enA)] [] 0 (.sl 2 ((wA ls).map rA)) := by
 refine (pq 49 [.tmp 2] func211) ?_
 have hmx := mxl
 refine (aj) ?_
 refine sr rfl fun k2 => (ja) ((jr) (k2 ((aj) ?_)))
 refine aA fun k4 => (aj) (wb ?_)
 refine wl (α := Nat × Nat × List Run) (fun x => x.2.1 < x.1 /\ x.1 <= ls.length + 1 /\ x.2.2.length <= x.2.1 /\ x.2.2 ++ (qY ls (ls.length + 1 - x.1) x.2.1 x.1).map (fun p : List Entry => (⟨p, bV p⟩ : Run)) = wA ls) (fun x => ls.length + 1 - x.1) (fun x => ([(0, .sl 5 (ls.map enA)), (3, .ref 0), (4, Ni (x.2.1 : Int)), (5, Ni (x.1 : Int))], [(0, .row 105 2 (x.2.2.map rA))])) 1 (1, 0, []) ⟨by decide, by simp only; omega, by simp, by simp [wA]⟩ [] ?_ ?_
 . exact Br
 rintro ⟨i, s, out⟩ ⟨his, hi, hol, hgo⟩
 simp only at his hi hol hgo ⊢
 refine aA fun k6 => (aj) ((cdB) ?_ ?_) <;> intro hc1
 . have hgt : ls.length + 1 - i = 0 := by simp at hc1; omega
   rw [hgt] at hgo
   have h9 : wA ls = out := by rw [<- hgo]; simp [qY]
   refine we ((jt) (k4 ((aj) ?_)))
   refine aFz 0 rfl ?_
   refine (Ad) (wR ?_)
   refine fO ?_ (pA _ _)
   exact Ac h9
 have hle1 : i <= ls.length := by simpa using hc1
 rw [show ls.length + 1 - i = (ls.length - i) + 1 by omega, bId] at hgo
 have hzp : cZ ((ls.take i).drop s) := ⟨by rw [B1, B3]; omega, fun e he => hz.2 e (C9 (D0 he))⟩
 have hpl : ((ls.take i).drop s).length = i - s := by rw [B1, B3]; omega
 refine wk (k6 (aA fun k8 => wb ?_))
 have hw1 := wr ((i : Int) - 1) ((i : Int) - 1) og
 have hw2 := wr ((i : Int) - (s : Int)) ((i : Int) - (s : Int)) og
 have hpn : ((i : Int) - 1).toNat = i - 1 := by omega
 have hpv : ls[i - 1]? = some (cB ls i) := by unfold cB; rw [A1 og]; rfl
 by_cases hle : i < ls.length
 . have hlx := uQ hle
   refine sd mixed rfl fun k9 => ?_
   simp only [go_sem, hlx, hpv, hw1, hw2, hpn, enA]
   refine (jr) ((jy) (k9 ((cdB) ?_ ?_))) <;> intro hc2
   . have hap : ¬ sY ls s i = true := by unfold sY; simpa [aBp] using hc2
     rw [if_neg hap] at hgo
     refine wk ((jt) (k8 ((jw (wiS i og)) ((jt) ?_))))
     refine ⟨(i + 1, s, out), ⟨by simp only; omega, by simp only; omega, hol, by simp only [Nat.add_sub_add_right]; exact hgo⟩, by simp only; omega, [(0, 0)], ?_⟩
     exact Cm
   have hap : sY ls s i = true := by unfold sY; simpa [aBp] using hc2
   rw [if_pos hap] at hgo
   refine sr rfl fun k10 => (Dj) ((jr) ?_)
   refine bF 2 rfl ?_
   refine (Ad) ?_
   refine vs rfl rfl rfl func168 (uV ((ls.take i).drop s) hzp) oG oG ?_
   refine (Dk) ((jr) (k10 (wg rfl ((ja) ((jt) (k8 ((jw (wiS i og)) ((jt) ?_))))))))
   refine ⟨(i + 1, i, out ++ [⟨((ls.take i).drop s), bV ((ls.take i).drop s)⟩]), ⟨by simp only; omega, by simp only; omega, by simp only [A4, List.length_singleton]; omega, by simp only [Nat.add_sub_add_right]; rw [F5]; exact hgo⟩, by simp only; omega, [(0, 4)], ?_⟩
   exact Cm
 have hee : i = ls.length := by omega
 have hdf : decide ((i : Int) = (ls.length : Int)) = true := by simp; omega
 have hnn : ls[i]? = none := F6 og
 refine sd mixed rfl fun k9 => ?_
 simp only [go_sem, hdf, hnn, hpv, hw1, hw2, hpn, enA]
 repeat (first | refine ⟨og, ?_⟩ | refine ⟨fun hg => absurd hg.1 oS, ?_⟩)
 refine aN (fun hN => eQ (rt := []) (rd := []) (val := Ns ⟨#[]⟩) hN rfl rfl rfl rfl trivial (fun hg => absurd hg oS) (by trivial)) (.inl rfl) ?_
 simp only [go_sem, hdf, hnn, hpv, hw1, hw2, hpn, enA]
 refine (jr) ((jy) (k9 ((cdB) ?_ ?_))) <;> intro hc3
 . exfalso; simp at hc3
 have hap : sY ls s i = true := by unfold sY; rw [hdf]; rfl
 rw [if_pos hap] at hgo
 refine sr rfl fun k11 => (Dj) ((jr) ?_)
 refine bF 2 rfl ?_
 refine (Ad) ?_
 refine vs rfl rfl rfl func168 (uV ((ls.take i).drop s) hzp) oG oG ?_
 refine (Dk) ((jr) (k11 (wg rfl ((ja) ((jt) (k8 ((jw (wiS i og)) ((jt) ?_))))))))
 refine ⟨(i + 1, i, out ++ [⟨((ls.take i).drop s), bV ((ls.take i).drop s)⟩]), ⟨by simp only; omega, by simp only; omega, by simp only [A4, List.length_singleton]; omega, by simp only [Nat.add_sub_add_right]; rw [F5]; exact hgo⟩, by simp only; omega, [(0, 4)], ?_⟩
 exact Cm
end
def zS (rs : List Run) : Prop := (∀ r ∈ rs, cH r = true) /\ rs.length <= 8
def zI {rs : List Run} (h : zS rs) : ∀ r ∈ rs, 1 <= r.ents.length /\ r.ents.length <= 1048576 := fun r hr => by have := gI (h.1 r hr); omega
def bHz {rs ss : List Run} (h : zS rs) (hs : ∀ r ∈ ss, r ∈ rs) (hl : ss.length <= 8) : zS ss := ⟨fun r hr => h.1 r (hs r hr), hl⟩
def aPf {rs : List Run} (h : ∀ r ∈ rs, cH r = true) (hl : rs.length <= 16) : (tJ (rs.map Run.ents)).length <= 2400 /\ cZ (tJ (rs.map Run.ents)) /\ (∀ b ∈ rs.map Run.ents, b.length <= 1048576) /\ qW (tJ (rs.map Run.ents)) := by
  have hp : (tJ (rs.map Run.ents)).Perm (rs.map Run.ents).flatten := iG _
  have hlen : ∀ (ss : List Run), (∀ r ∈ ss, cH r = true) -> (ss.map Run.ents).flatten.length <= 150 * ss.length := fun ss => by
    induction ss with
    | nil => intro _; simp
    | cons x r ih =>
      intro h
      have h1 := ih fun y hy => h y (A5 _ hy)
      have h2 := gI (h x A2)
      simp only [List.map_cons, List.flatten_cons, A4, C5] at h1 ⊢
      omega
  have h1 := hlen rs h
  rw [<- hp.length_eq] at h1
  have hs : ∀ e ∈ tJ (rs.map Run.ents), e.key.size <= 1048576 /\ e.text.size <= 1048576 := fun e he => by
    obtain ⟨l, hl, he⟩ := List.mem_flatten.1 (hp.mem_iff.1 he)
    obtain ⟨r, hr, rfl⟩ := A9.1 hl
    have := h r hr
    simp only [cH, B7] at this
    exact cQ (lW this.1.2 he)
  refine ⟨og, ⟨og, fun e he => ?_⟩, fun b hb => ?_, ⟨og, hs⟩⟩
  . have := hs e he; exact ⟨og, og⟩
  obtain ⟨r, hr, rfl⟩ := A9.1 hb
  have := gI (h r hr); omega
def bFa (ls : List Entry) (hl : ls.length <= 2400) : (∀ r ∈ wA ls, 1 <= r.ents.length /\ r.ents.length <= 1048576) /\ (wA ls).length <= 2400 := by
  obtain ⟨h1, h2⟩ := zM ls.length ls (A0 _)
  have hlen : ∀ (L : List (List Entry)), (∀ p ∈ L, p ≠ []) -> L.length <= L.flatten.length := fun L => by
    induction L with
    | nil => intro _; simp
    | cons x r ih =>
      intro h
      have g1 := ih fun y hy => h y (A5 _ hy)
      have g2 := E8.2 (h x A2)
      simp only [List.flatten_cons, A4, C5] at g1 ⊢
      omega
  have h3 : (aKq ls).length <= ls.length := by have := hlen (aKq ls) h2; rw [show (aKq ls).flatten = ls from h1] at this; exact this
  rw [aEf]
  refine ⟨fun r hr => ?_, by rw [A8]; omega⟩
  obtain ⟨p, hp, rfl⟩ := A9.1 hr
  have g1 := E8.2 (h2 p hp)
  have g2 : p.length <= ls.length := by
    have := List.Sublist.length_le (H8 hp)
    rw [show (aKq ls).flatten = ls from h1] at this; exact this
  exact ⟨g1, by show p.length <= 1048576; omega⟩
def aJq : ∀ (b a : List Run), (sI a b).length = a.length + b.length
  | [], a => rfl
  | r :: b, a => by
    have := aJq b (pE a r)
    unfold sI at this ⊢
    rw [List.foldl_cons, this, aMm, C5]; omega
def bNf {ls : List (List Run)} (i j : Nat) (x y : List Run) : fzL (((ls.map rsO).set i (AV.sl 2 (x.map rA))).set j (AV.sl 2 (y.map rA))) = ((ls.set i x).set j y).map rsA := by
  refine List.ext_getElem? fun k => ?_
  simp only [aIu, B5, G5, D1, A8]
  by_cases h1 : j = k
  . subst h1
    by_cases h2 : j < ls.length
    . simp [h2, AV.fz, rsA, qL]
    simp [h2]
  by_cases h3 : i = k
  . subst h3
    by_cases h2 : i < ls.length
    . simp [h1, h2, AV.fz, rsA, qL]
    simp [h1, h2]
  simp only [if_neg h1, if_neg h3]
  cases ls[k]? with
  | none => rfl
  | some r => simp [aYy]
def tK (t : Tree) (lv : Nat) (taken rest b c : List Run) : Tree × Bool :=
  if nU (lS taken b t.snaps (if (lv : Int) + 1 = 2 then true else iS c (cL taken b))) = false then (t, false)
  else (⟨t.seq, t.mem, (t.levels.set lv rest).set (lv + 1) (lS taken b t.snaps (if (lv : Int) + 1 = 2 then true else iS c (cL taken b))), t.snaps⟩, true)
def bJo (seq : Int) (mem : List Entry) (a b c : List Run) (snaps : List Int) : tK ⟨seq, mem, [a, b, c], snaps⟩ 0 a [] b c = if nU (lS a b snaps (iS c (cL a b))) = false then (⟨seq, mem, [a, b, c], snaps⟩, false) else (⟨seq, mem, [[], lS a b snaps (iS c (cL a b)), c], snaps⟩, true) := by
  unfold tK; rw [if_neg (show ¬ ((0 : Nat) : Int) + 1 = 2 by decide)]; rfl
def bGr (seq : Int) (mem : List Entry) (a b c k r : List Run) (snaps : List Int) : tK ⟨seq, mem, [a, b, c], snaps⟩ 1 k r c c = if nU (lS k c snaps true) = false then (⟨seq, mem, [a, b, c], snaps⟩, false) else (⟨seq, mem, [a, r, lS k c snaps true], snaps⟩, true) := by
  unfold tK; rw [if_pos (show ((1 : Nat) : Int) + 1 = 2 by decide)]; rfl
def bKr {b : List Run} {p : Nat} (h : p < b.length) : lT b p ≠ [] := by
  intro e
  have := congrArg List.length e
  unfold lT at this; rw [B1, B3, List.length_nil] at this; omega
def aVa {b : List Run} (h : zS b) (p : Nat) : zS (lT b p) :=
  bHz h (fun r hr => C9 (D0 hr)) (by have := h.2; unfold lT; rw [B1, B3]; omega)
def aOt (t : Tree) (c : List Run) (n : Int) (all : List Run) (h2 : t.levels[2]? = some c) (hne : all ≠ []) (hr : ∀ r ∈ all, 1 <= r.ents.length /\ r.ents.length <= 1048576) (hl : all.length <= 1000000) (hc : ∀ r ∈ c, 1 <= r.ents.length /\ r.ents.length <= 1048576) (hcl : c.length <= 1000000) : aJ P 209 [trA t, Ni n, .sl 2 (all.map rA)] [] 0 (Nb (if n = 2 then true else iS c all)) := by
 refine (pq 31 [.tmp 6] func209) ?_
 simp only [trA]
 have hlt : 2 < t.levels.length := (B2.1 h2).1
 refine (aj) ?_
 refine aA fun k2 => (aj) ((cdA) ?_ ?_) <;> intro hc1
 . have h9 : (if n = 2 then true else iS c all) = true := if_pos (by simpa using hc1)
   exact (aj) (wR (fq h9))
 have h9 : (if n = 2 then true else iS c all) = iS c all := if_neg (by simpa using hc1)
 refine wk (k2 (sr rfl fun k5 => (ja) ((vq func205 (xZ all hne hr hl)) (k5 (sr rfl fun k6 => ?_)))))
 simp only [go_sem, tn2, B5, h2, rsA, Option.map_some, A8]
 refine (jr) ((vq func206 (aBa c (nQ all).1 (nQ all).2 hc hcl)) ((jr) (k6 (sr rfl fun k7 => (Bi) (k7 (wR ?_))))))
 rw [h9]; refine fO ?_ trivial; simp only [go_sem, iS]
def yJ (t : Tree) (lv : Nat) (taken rest b c : List Run) (hb : t.levels[lv + 1]? = some b) (hc : t.levels[2]? = some c) (ht : gL t) (hne : taken ≠ []) (hto : zS taken) (hbo : zS b) (hco : zS c) (hlv : lv <= 1) : aJ P 200 [trA t, Ni (lv : Int), .sl 2 (taken.map rA), .sl 2 (rest.map rA)] [] 0 (.tup [trA (tK t lv taken rest b c).1, .raw (.bool (tK t lv taken rest b c).2)]) := by
 refine (pq 73 [.cell 8 27, .tmp 9] func200) ?_
 simp only [trA]
 have hmx := mxl
 have hlt := (B2.1 hb).1
 have hw1 := wr ((lv : Int) + 1) ((lv : Int) + 1) og
 have hpn : ((lv : Int) + 1).toNat = lv + 1 := by omega
 have hin : (b.filter (iR (nQ taken).1 (nQ taken).2)).length <= b.length := List.length_filter_le _ _
 have hoff : (b.filter fun r => !iR (nQ taken).1 (nQ taken).2 r).length <= b.length := List.length_filter_le _ _
 have htl := hto.2
 have hbl := hbo.2
 have hal : (cL taken b).length <= 16 := by unfold cL; rw [A4]; omega
 have hao : ∀ r ∈ cL taken b, cH r = true := fun r hr => by
   rcases A6.1 hr with h | h
   . exact hto.1 r h
   exact hbo.1 r (List.mem_filter.1 h).1
 have hag : ∀ r ∈ cL taken b, 1 <= r.ents.length /\ r.ents.length <= 1048576 := fun r hr => by have := gI (hao r hr); omega
 have han : cL taken b ≠ [] := by unfold cL; simp [hne]
 obtain ⟨hm1, hm2, hm3, _⟩ := aPf hao hal
 have hall : taken ++ b.filter (iR (nQ taken).1 (nQ taken).2) = cL taken b := rfl
 have hsl := yD (tJ ((cL taken b).map Run.ents)) t.snaps (if (lv : Int) + 1 = 2 then true else iS c (cL taken b))
 obtain ⟨hc1', hc2'⟩ := bFa (bP (tJ ((cL taken b).map Run.ents)) t.snaps (if (lv : Int) + 1 = 2 then true else iS c (cL taken b))) og
 have hol := aJq (wA (bP (tJ ((cL taken b).map Run.ents)) t.snaps (if (lv : Int) + 1 = 2 then true else iS c (cL taken b)))) (b.filter fun r => !iR (nQ taken).1 (nQ taken).2 r)
 have hnew : sI (b.filter fun r => !iR (nQ taken).1 (nQ taken).2 r) (wA (bP (tJ ((cL taken b).map Run.ents)) t.snaps (if (lv : Int) + 1 = 2 then true else iS c (cL taken b)))) = (lS taken b t.snaps (if (lv : Int) + 1 = 2 then true else iS c (cL taken b))) := rfl
 obtain ⟨a, ha, _, _⟩ := ix (xs := t.levels) (i := lv) og
 have hse : ((t.levels.map rsO).set lv (AV.sl 2 (rest.map rA)))[lv + 1]? = some (rsO b) := by rw [List.getElem?_set_ne og, B5, hb]; rfl
 have hnl : (lS taken b t.snaps (if (lv : Int) + 1 = 2 then true else iS c (cL taken b))).length <= 1000000 := by rw [<- hnew, hol]; omega
 refine (aj) ?_
 refine sr rfl fun k2 => (Aa hw1) (k2 (sr rfl fun k3 => (ja) ((vq func205 (xZ taken hne (zI hto) og)) (k3 (sr rfl fun k4 => ?_)))))
 simp only [go_sem, hpn, B5, hb, rsA, Option.map_some, A8]
 refine (jr) ((vq func206 (aBa b (nQ taken).1 (nQ taken).2 (zI hbo) og)) ((jr) (k4 (sr rfl fun k5 => ?_))))
 simp only [go_sem, A8, List.nil_append, A4, <- D9]
 refine (jr) (k5 ?_)
 refine aFz 4 rfl ?_
 simp only [go_sem, fzL, AV.fz, hall]
 refine sd mixed rfl fun k6 => (ja) ?_
 refine tp rfl rfl rfl ⟨func208, rfl, rfl⟩ (aJm (cL taken b) og) oG oG ?_
 refine (ja) ?_
 refine tp rfl rfl rfl ⟨func207, rfl, rfl⟩ (aHx ((cL taken b).map Run.ents) (by rw [A8]; omega) hm3) oG oG ?_
 refine (ja) ?_
 refine tp rfl rfl rfl ⟨func209, rfl, rfl⟩ (aOt t c ((lv : Int) + 1) (cL taken b) hc han hag og (zI hco) (by have := hco.2; omega)) Ae Ae ?_
 refine (ja) ?_
 refine tp rfl rfl rfl ⟨func187, rfl, rfl⟩ (aAo (tJ ((cL taken b).map Run.ents)) t.snaps (if (lv : Int) + 1 = 2 then true else iS c (cL taken b)) hm2 og ht.2.2) oG oG ?_
 refine (ja) ((jy) (k6 (sr rfl fun k7 => (ja) ((vq func211 (aTe (bP (tJ ((cL taken b).map Run.ents)) t.snaps (if (lv : Int) + 1 = 2 then true else iS c (cL taken b))) (aLy hm2) og)) ?_))))
 refine vs rfl rfl rfl func210 (aMs (b.filter fun r => !iR (nQ taken).1 (nQ taken).2 r) (wA (bP (tJ ((cL taken b).map Run.ents)) t.snaps (if (lv : Int) + 1 = 2 then true else iS c (cL taken b)))) (fun r hr => zI hbo r (List.mem_filter.1 hr).1) hc1' og og) oG oG ?_
 refine (Aa hnew) (k7 (aA fun k8 => sr rfl fun k9 => (ja) ((vq func212 (aNu (lS taken b t.snaps (if (lv : Int) + 1 = 2 then true else iS c (cL taken b))) hnl)) (k9 ((cdA) ?_ ?_))))) <;> intro hc1
 . have hf : nU (lS taken b t.snaps (if (lv : Int) + 1 = 2 then true else iS c (cL taken b))) = false := by simpa using hc1
   have h9 : (tK t lv taken rest b c) = (t, false) := if_pos hf
   refine (aj) (wR ?_)
   rw [h9]
   refine fO ?_ ⟨⟨trivial, enB _ _, aY _ _, dJ _ _, trivial⟩, trivial, trivial⟩
   exact Ae
 have hf : ¬ nU (lS taken b t.snaps (if (lv : Int) + 1 = 2 then true else iS c (cL taken b))) = false := by simpa using hc1
 have h9 : (tK t lv taken rest b c) = (⟨t.seq, t.mem, (t.levels.set lv rest).set (lv + 1) (lS taken b t.snaps (if (lv : Int) + 1 = 2 then true else iS c (cL taken b))), t.snaps⟩, true) := if_neg hf
 refine wk (k8 (sr rfl fun k11 => (ja) ?_))
 refine vn 3 rfl rfl rfl ⟨func71, rfl, rfl⟩ (gJ t ht) Ae Ae oS dg ?_
 refine (jn) (k11 (sr rfl fun k12 => ?_))
 simp only [go_sem, Int.toNat_natCast, A8, B5, ha, Option.map_some]
 refine (jr) (k12 (sr rfl fun k13 => ?_))
 simp only [go_sem, hpn, A8, D1, hse]
 refine (jr) (k13 ((aj) ?_))
 refine aFz 5 rfl ?_
 refine (Ad) ?_
 refine aFz 6 rfl ?_
 simp only [go_sem, fzL, AV.fz, bNf]
 refine aFz 7 rfl ?_
 refine (Ad) (wR ?_)
 rw [h9]
 refine fO ?_ ⟨⟨trivial, enB _ _, aY _ _, dJ _ _, trivial⟩, trivial, trivial⟩
 exact Ae
def aFj (seq : Int) (mem : List Entry) (a b c : List Run) (snaps : List Int) (level pick : Int) (ht : gL ⟨seq, mem, [a, b, c], snaps⟩) (hao : zS a) (hbo : zS b) (hco : zS c) : aJ P 188 [trA ⟨seq, mem, [a, b, c], snaps⟩, Ni level, Ni pick] [] 0 (.tup [trA (qA ⟨seq, mem, [a, b, c], snaps⟩ level pick).1, .raw (.bool (qA ⟨seq, mem, [a, b, c], snaps⟩ level pick).2)]) := by
 refine (pq 73 [.cell 6 27, .tmp 7] func188) ?_
 simp only [trA, List.map_cons, List.map_nil]
 have hmx := mxl
 have hn0 : ((0 : Nat) : Int) = 0 := rfl
 have hn1 : ((1 : Nat) : Int) = 1 := rfl
 have hbl := hbo.2
 refine (aj) ?_
 refine aA fun k2 => sr rfl fun k3 => (Cx) ((jr) (k3 ((cdA) ?_ ?_))) <;> intro hc1
 . have hne : a ≠ [] := by intro e; rw [e] at hc1; simp at hc1
   have hm9 : tK ⟨seq, mem, [a, b, c], snaps⟩ 0 a [] b c = (qA ⟨seq, mem, [a, b, c], snaps⟩ level pick) := (bJo _ _ _ _ _ _).trans (if_pos hc1).symm
   refine sdT 5 mixed rfl fun k4 => ?_
   refine (Cx) ((jr) ?_)
   refine aN (fun hN => uF (e := 105) (sz := 2) (xs := []) rfl hN oG trivial oS) (.inr dg) ?_
   simp only [go_sem, fzL, Int.toNat_zero, tn1, tn2, List.getElem?_cons_zero, List.getElem?_cons_succ, rsA, A8]
   refine (jr) ?_
   refine tp rfl rfl rfl ⟨func200, rfl, rfl⟩ (yJ ⟨seq, mem, [a, b, c], snaps⟩ 0 a [] b c rfl rfl ht hne hao hbo hco dg) (by simp only [go_sem, trA, hn0, List.map_nil, List.map_cons, rsA]) (by simp only [go_sem, trA, hn0, List.map_nil, List.map_cons, rsA]) ?_
   simp only [go_sem, hm9, trA]
   refine (jr) ((jy) (k4 (wR ?_)))
   refine fO ?_ ⟨gC _ _, trivial, trivial⟩
   exact Ae
 refine wk (k2 (aA fun k5 => sr rfl fun k6 => (Cx) ((jr) (k6 ((cdB) ?_ ?_))))) <;> intro hc2
 . have h9 : (qA ⟨seq, mem, [a, b, c], snaps⟩ level pick) = (⟨seq, mem, [a, b, c], snaps⟩, false) := (if_neg (by rw [hc1]; simp)).trans (if_neg (by rw [hc2]; simp))
   refine wk (k5 ((aj) (wR ?_)))
   rw [h9]
   refine fO ?_ ⟨gC _ ⟨seq, mem, [a, b, c], snaps⟩, trivial, trivial⟩
   simp only [go_sem, trA, rsA, List.map_cons, List.map_nil]
 have hp0 : 0 <= pick /\ pick < (b.length : Int) := by simp at hc2; omega
 obtain ⟨p, rfl⟩ := Int.eq_ofNat_of_zero_le hp0.1
 have hpl : p < b.length := by omega
 have hwp := wiS p og
 have hm9 : tK ⟨seq, mem, [a, b, c], snaps⟩ 1 (lT b p) (tZ b p) c c = (qA ⟨seq, mem, [a, b, c], snaps⟩ level (p : Int)) := (bGr _ _ _ _ _ _ _ _).trans ((if_neg (by rw [hc1]; simp)).trans (if_pos hc2)).symm
 refine sd mixed rfl fun k7 => ?_
 simp only [go_sem, Int.toNat_zero, tn1, tn2, List.getElem?_cons_zero, List.getElem?_cons_succ, rsA, A8, Int.toNat_natCast, hwp, List.nil_append, A4, B3, B1, E9, <- E3, <- G1, <- D9]
 refine (jr) ((jy) (k7 ?_))
 refine aFz 4 rfl ?_
 simp only [go_sem, fzL, AV.fz, <- E3, <- G1, <- D9, qL]
 refine sd mixed rfl fun k8 => ?_
 simp only [go_sem, Int.toNat_zero, tn1, tn2, List.getElem?_cons_zero, List.getElem?_cons_succ, rsA, A8, Int.toNat_natCast, hwp, <- E3, <- G1]
 refine (jr) ?_
 refine tp rfl rfl rfl ⟨func200, rfl, rfl⟩ (yJ ⟨seq, mem, [a, b, c], snaps⟩ 1 (lT b p) (tZ b p) c c rfl rfl ht (bKr hpl) (aVa hbo p) hco hco dg) (by simp only [go_sem, trA, hn1, lT, tZ, List.map_nil, List.map_cons, rsA]) (by simp only [go_sem, trA, hn1, lT, tZ, List.map_nil, List.map_cons, rsA]) ?_
 simp only [go_sem, hm9, trA]
 refine (jr) ((jy) (k8 (wR ?_)))
 refine fO ?_ ⟨gC _ _, trivial, trivial⟩
 exact Ae
end Go.Proofs.S
end
