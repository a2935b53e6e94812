/-
  The law FnExactStoreCompact answers true for every input, and leaves its arguments as they were: the tied card. Conditions: those of the given row and card, none of its own (the listed variables as the program's text lays them).
-/
import Derived.Test.YthbibdnkiklemaaGreatDoorP6
import Derived.Test.YthbibdnkiklemaaGreatDoorTie
import Derived.Test.YthbibdnkiklemaaGreatDoorCards
import Derived.SevenTiedAt
set_option linter.all false
set_option maxRecDepth 100000
section
open Go Go.Abs Go.Proofs Go.Proofs.Tryz
namespace Go.Proofs.S
section
def aQu (rs : List Run) (lo hi : ByteArray) : frm rs lo <= aW rs lo hi := by unfold aW; omega
def aQl (rs : List Run) (lo hi : ByteArray) : aW rs lo hi <= rs.length := by
  have := bKh rs lo
  have := bEe rs hi
  unfold aW; omega
def aGr (rs : List Run) (lo hi : ByteArray) : (eJ rs lo hi).length <= rs.length := by unfold eJ; rw [B0, A7]; omega
def aQj {taken beneath : List Run} (ht : qD taken) (hb : qD beneath) (hne : taken ≠ []) : bQo ((taken ++ eJ beneath (aD taken).1 (aD taken).2).map Run.ents) /\ (bB taken beneath).length <= 2400 /\ dB (bB taken beneath) /\ gY (bB taken beneath) /\ bB taken beneath ≠ [] := by
  have hl := aGr beneath (aD taken).1 (aD taken).2
  have h1 := ht.2
  have h2 := hb.2
  have hal : (taken ++ eJ beneath (aD taken).1 (aD taken).2).length <= 16 := by rw [A3]; omega
  have hao : ∀ r ∈ taken ++ eJ beneath (aD taken).1 (aD taken).2, cW r = true := fun r hr => by
    rcases B4.1 hr with h | h
    . exact ht.1 r h
    exact hb.1 r (aAo h)
  obtain ⟨m1, m2, m3, m4⟩ := aFs hao hal
  have hp := (Plain.mergeAll_ok mY ((taken ++ eJ beneath (aD taken).1 (aD taken).2).map Run.ents))
  have hf : ∀ L : List (List Entry), L.flatMap id = L.flatten := fun L => by simp [List.flatMap]
  rw [hf] at hp
  have hq : (sG ((taken ++ eJ beneath (aD taken).1 (aD taken).2).map Run.ents)).Perm ((taken ++ eJ beneath (aD taken).1 (aD taken).2).map Run.ents).flatten := lZ _
  have hpm : (bB taken beneath).Perm (sG ((taken ++ eJ beneath (aD taken).1 (aD taken).2).map Run.ents)) := hp.1.trans hq.symm
  have hlen := hpm.length_eq
  refine ⟨⟨by rw [A2]; omega, m3, by rw [hf, <- hq.length_eq]; omega⟩, og, ⟨og, fun e he => m2.2 e (hpm.mem_iff.1 he)⟩, ⟨og, fun e he => m4.2 e (hpm.mem_iff.1 he)⟩, (aZe (by simp [hne]) hao hp.1 hp.2).1⟩
def bAf (ls : List Entry) (h : ls.length <= 2400) : (pL ls).1.length <= 2400 := by
  have := (aRw ls h).2
  rw [aAn, A2] at this; unfold pL; split
  . rw [A2]; exact this
  exact A6 _
def aXt (rs : List Run) (hne : rs ≠ []) (h : qD rs) : aB P 87 [rsA rs] [] 0 (.tup [.raw (.string (aD rs).1), .raw (.string (aD rs).2)]) := by
  obtain ⟨q, qs, rfl⟩ := G1 hne
  have hg := vF h
  have hl := h.2
  rw [B7] at hl
  exact aMb q qs (hg q A5) (fun r hr => hg r (A4 _ hr)) og
def aWy (a b : List Run) (h : a.length + b.length <= 1000000) : aB P 91 [.sl 1 [rsA a, rsA b]] [] 0 (.sl 2 ((a ++ b).map rA)) := by
  have := aGy [a, b] oS (by simp; omega)
  simpa using this
def aXo (a b c : List Run) (h : a.length + b.length + c.length <= 1000000) : aB P 91 [.sl 1 [rsA a, rsA b, rsA c]] [] 0 (.sl 2 ((a ++ b ++ c).map rA)) := by
  have := aGy [a, b, c] oS (by simp; omega)
  simpa using this
def bJv (lists : List (List Entry)) (h : bQo lists) : aB P 89 [.sl 1 (lists.map esA)] [] 0 (.sl 5 ((Plain.mergeAll entLt lists).map enA)) :=
  cO (aJf lists h) oG oG
section
variable {seq : Int} {mem : List Entry} {a b c : List Run} {snaps : List Int}
def sN (level pick : Int) : dX ⟨seq, mem, [a, b, c], snaps⟩ level pick = if level = 0 then
      if a = [] then (⟨seq, mem, [a, b, c], snaps⟩, false) else
      if (xT a b snaps (tZ c (bB a b))).2 = false then (⟨seq, mem, [a, b, c], snaps⟩, false) else (⟨seq, mem, [[], (xT a b snaps (tZ c (bB a b))).1, c], snaps⟩, true)
    else if level = 1 then
      if (decide (pick < 0) || decide ((b.length : Int) <= pick)) = true then (⟨seq, mem, [a, b, c], snaps⟩, false) else
      if (xT (aF b pick.toNat) c snaps true).2 = false then (⟨seq, mem, [a, b, c], snaps⟩, false) else (⟨seq, mem, [a, qG b pick.toNat, (xT (aF b pick.toNat) c snaps true).1], snaps⟩, true)
    else (⟨seq, mem, [a, b, c], snaps⟩, false) := rfl
def bJp (pick : Int) : dX ⟨seq, mem, [[], b, c], snaps⟩ 0 pick = (⟨seq, mem, [[], b, c], snaps⟩, false) := by rw [sN, if_pos rfl, if_pos rfl]
def bKo (pick : Int) (hne : a ≠ []) (hn : (xT a b snaps (tZ c (bB a b))).2 = false) : dX ⟨seq, mem, [a, b, c], snaps⟩ 0 pick = (⟨seq, mem, [a, b, c], snaps⟩, false) := by rw [sN, if_pos rfl, if_neg hne, if_pos hn]
def bLu (pick : Int) (hne : a ≠ []) {r : List Run} (hn : xT a b snaps (tZ c (bB a b)) = (r, true)) : dX ⟨seq, mem, [a, b, c], snaps⟩ 0 pick = (⟨seq, mem, [[], r, c], snaps⟩, true) := by
  rw [sN, if_pos rfl, if_neg hne, hn, if_neg (show ¬ (r, true).2 = false by simp)]
def bHz {pick : Int} (h : (decide (pick < 0) || decide ((b.length : Int) <= pick)) = true) : dX ⟨seq, mem, [a, b, c], snaps⟩ 1 pick = (⟨seq, mem, [a, b, c], snaps⟩, false) := by rw [sN, if_neg (show ¬ (1 : Int) = 0 by decide), if_pos rfl, if_pos h]
def bLf {p : Nat} (h : p < b.length) (hn : (xT (aF b p) c snaps true).2 = false) : dX ⟨seq, mem, [a, b, c], snaps⟩ 1 (p : Int) = (⟨seq, mem, [a, b, c], snaps⟩, false) := by
  rw [sN, if_neg (show ¬ (1 : Int) = 0 by decide), if_pos rfl, if_neg (show ¬ (decide ((p : Int) < 0) || decide ((b.length : Int) <= (p : Int))) = true by simp; omega), Int.toNat_natCast, if_pos hn]
def bLm {p : Nat} (h : p < b.length) {r : List Run} (hn : xT (aF b p) c snaps true = (r, true)) : dX ⟨seq, mem, [a, b, c], snaps⟩ 1 (p : Int) = (⟨seq, mem, [a, qG b p, r], snaps⟩, true) := by
  rw [sN, if_neg (show ¬ (1 : Int) = 0 by decide), if_pos rfl, if_neg (show ¬ (decide ((p : Int) < 0) || decide ((b.length : Int) <= (p : Int))) = true by simp; omega), Int.toNat_natCast, hn, if_neg (show ¬ (r, true).2 = false by simp)]
def bMx {level : Int} (pick : Int) (h0 : ¬ level = 0) (h1 : ¬ level = 1) : dX ⟨seq, mem, [a, b, c], snaps⟩ level pick = (⟨seq, mem, [a, b, c], snaps⟩, false) := by rw [sN, if_neg h0, if_neg h1]
end
def bJf {b : List Run} {p : Nat} (h : p < b.length) : xM b 1 (p : Int) = (aF b p, qG b p, true) := by
  unfold xM; rw [if_neg (show ¬ (1 : Int) = 0 by decide), if_neg (show ¬ (decide ((p : Int) < 0) || decide ((b.length : Int) <= (p : Int))) = true by simp; omega), Int.toNat_natCast]
def aHn (b : List Run) (pick : Int) : ((xM b 1 pick).2.2 = false -> (decide (pick < 0) || decide ((b.length : Int) <= pick)) = true) /\ ((xM b 1 pick).2.2 = true -> 0 <= pick /\ pick < (b.length : Int)) := by
  unfold xM; rw [if_neg (show ¬ (1 : Int) = 0 by decide)]; split
  . rename_i h; exact ⟨fun _ => h, fun e => by cases e⟩
  rename_i h
  exact ⟨fun e => (by cases e), fun _ => by simp at h; omega⟩
def scI (s : Store) (level pick : Int) : Store × Bool := if s.up = false then (s, false) else if (dX s.tree level pick).2 = false then (s, false) else (⟨true, (dX s.tree level pick).1, aDd s.disk (.lev (dX s.tree level pick).1.levels s.disk.seq)⟩, true)
def bRw {s : Store} (hs : dM s) (h : s.up = true -> bR s.tree = true) (level pick : Int) : dM (scI s level pick).1 := by
  unfold scI; split
  . exact hs
  rename_i hu
  split
  . exact hs
  have ht := h (by simpa using hu)
  rw [bDh ht]
  have := aTq ht hs.1 level pick
  exact ⟨this, this.2.1⟩
set_option maxHeartbeats 2000000 in
def aJk (seq : Int) (mem : List Entry) (a b c : List Run) (snaps : List Int) (pick : Int) (ha : qD a) (hb : qD b) (hc : qD c) (vb : Lvl b) (vc : Lvl c) (hs : snaps.length <= 1048576) : aB P 55 [trA ⟨seq, mem, [a, b, c], snaps⟩, Ni 0, Ni pick] [] 0 (.tup [trA (dX ⟨seq, mem, [a, b, c], snaps⟩ 0 pick).1, .raw (.bool (dX ⟨seq, mem, [a, b, c], snaps⟩ 0 pick).2)]) := by
 refine (pq 140 [.cell 6 36, .tmp 7] func55) ?_
 simp only [trA, List.map_cons, List.map_nil]
 have hmx := mxl
 have hw01 : IntKind.i64.wrap (0 + 1) = 1 := rfl
 have hw11 : IntKind.i64.wrap (1 + 1) = 2 := rfl
 have hd12 : decide ((1 : Int) = 2) = false := rfl
 have hd22 : decide ((2 : Int) = 2) = true := rfl
 have htake : xM a 0 pick = (a, [], decide (0 < (a.length : Int))) := if_pos rfl
 refine (aj) ?_
 refine sq fun k2 => (aj) ((cdA) ?_ ?_) <;> intro hc1
 . exfalso; simp at hc1
 refine wk (k2 (sr rfl fun k4 => (ja) ?_))
 refine vs rfl rfl rfl func85 (aHu a b c) Ai Ai ?_
 refine (Bt) (k4 (sr rfl fun k5 => (ja) ((jr) ?_)))
 refine vC (fun hN => aR (n := 0) rfl rfl hN aTf aDo rfl rfl dg dg) (.inl rfl) ?_
 refine (Dc) ((jr) ?_)
 refine vs rfl rfl rfl func86 (xL a 0 pick (by have := ha.2; omega)) Ai Ai ?_
 simp only [go_sem, htake, rsA, List.map_nil]
 refine (jr) (k5 (sq fun k6 => (aj) ((cdA) ?_ ?_))) <;> intro hc2
 . have hae : a = [] := by simpa using hc2
   subst hae
   have h9 := bJp (seq := seq) (mem := mem) (b := b) (c := c) (snaps := snaps) pick
   refine (aj) (wR ?_)
   rw [h9]
   refine fO ?_ ⟨⟨trivial, enB _ _, aX _ [_, _, _], bZ _ _, trivial⟩, trivial, trivial⟩
   exact Bv
 have hne : a ≠ [] := by intro e; rw [e] at hc2; simp at hc2
 obtain ⟨hsm, hal, hmx, hse, hnA⟩ := aQj ha hb hne
 have hin : ((b.take (aW b (aD a).1 (aD a).2)).drop (frm b (aD a).1)) = (eJ b (aD a).1 (aD a).2) := rfl
 have hf1 := aQu b (aD a).1 (aD a).2
 have hf2 := aQl b (aD a).1 (aD a).2
 have hinl := aGr b (aD a).1 (aD a).2
 have htk8 : a.length <= 8 := (ha).2
 have hbn8 : b.length <= 8 := hb.2
 have hall : Plain.mergeAll entLt ((a ++ (eJ b (aD a).1 (aD a).2)).map Run.ents) = (bB a b) := rfl
 have hAl := E8.2 hnA
 have hA0 : (bB a b)[0]? = some (gA (bB a b) 0) := eL hAl
 have hA1 : (bB a b)[(bB a b).length - 1]? = some (gA (bB a b) ((bB a b).length - 1)) := eL og
 have hwl := wr (((bB a b).length : Int) - 1) (((bB a b).length : Int) - 1) og
 have htl : (((bB a b).length : Int) - 1).toNat = (bB a b).length - 1 := by omega
 have hsql := zH (bB a b) snaps (tZ c (bB a b))
 have hcl := bAf (aK (bB a b) snaps (tZ c (bB a b))) og
 have hw112 := wr (((aW b (aD a).1 (aD a).2) : Int) - ((frm b (aD a).1) : Int)) (((aW b (aD a).1 (aD a).2) : Int) - ((frm b (aD a).1) : Int)) og
 have hw113 := wr ((b.length : Int) - (((aW b (aD a).1 (aD a).2) : Int) - ((frm b (aD a).1) : Int))) ((b.length : Int) - (((aW b (aD a).1 (aD a).2) : Int) - ((frm b (aD a).1) : Int))) og
 have hw116 := wr ((b.length : Int) - (((aW b (aD a).1 (aD a).2) : Int) - ((frm b (aD a).1) : Int)) + ((pL (aK (bB a b) snaps (tZ c (bB a b)))).1.length : Int)) ((b.length : Int) - (((aW b (aD a).1 (aD a).2) : Int) - ((frm b (aD a).1) : Int)) + ((pL (aK (bB a b) snaps (tZ c (bB a b)))).1.length : Int)) og
 have hbot : decide (((frm c (gA (bB a b) 0).key : Nat) : Int) = ((aW c (gA (bB a b) 0).key (gA (bB a b) ((bB a b).length - 1)).key : Nat) : Int)) = (tZ c (bB a b)) := rfl
 refine wk (k6 (sr rfl fun k9 => (Ar hw01 hw11) ((jr) ?_)))
 refine vC (fun hN => aR (n := 1) rfl rfl hN aTf aDo rfl rfl dg dg) (.inl rfl) ?_
 refine (Ea hw01 hw11) ((jr) (k9 (sr rfl fun k10 => (ja) ?_)))
 refine (vr rfl rfl rfl func87 (aXt a hne ha) Ai Ai) (k10 (sr rfl fun k11 => (ja) ?_))
 refine (vr rfl rfl rfl func88 (sD b (aD a).1 (aD a).2 vb og) Ai Ai) (k11 (sr rfl fun k12 => (Eb hin) ((jr) ?_)))
 refine dL 3 rfl ?_
 refine (Ag) ?_
 refine (vr rfl rfl rfl func91 (aWy a (eJ b (aD a).1 (aD a).2) og) (by simp only [go_sem, rsA, hin]) Ai) ((jr) ?_)
 refine (vr rfl rfl rfl func90 (aBg (a ++ (eJ b (aD a).1 (aD a).2)) (by rw [A3]; omega)) Ai Ai) ((jr) ?_)
 refine vs rfl rfl rfl func89 (bJv ((a ++ (eJ b (aD a).1 (aD a).2)).map Run.ents) hsm) oG oG ?_
 refine (Aa hall) ((jr) (k12 (sr rfl fun k13 => (Ax hw01 hw11 hd12 hd22) (k13 (sq fun k14 => (aj) ((cdB) ?_ ?_)))))) <;> intro hc3
 . exfalso; simp at hc3
 refine sd mixed rfl fun k16 => ?_
 simp only [go_sem, hA0, hA1, hwl, htl, enA, Int.toNat_zero, A2]
 refine (jr) ?_
 refine aM (fun hN => aR (n := 2) rfl rfl hN aTf aDo rfl rfl dg dg) (.inl rfl) ?_
 simp only [go_sem, tn1, tn2, Int.toNat_zero, Nat.zero_mul, Nat.one_mul, Nat.mul_one, Nat.add_zero, C5, rsA, A2, hA0, hA1, hwl, htl, enA, Int.toNat_zero, A2]
 refine (jr) ?_
 refine tp rfl rfl rfl ⟨func88, rfl, rfl⟩ (sD c (gA (bB a b) 0).key (gA (bB a b) ((bB a b).length - 1)).key vc (by have := hc.2; omega)) Ai Ai ?_
 refine (ja) ((jr) ((jy) (k16 (wg rfl ((Aa hbot) (k14 (sr rfl fun k17 => (ja) ((vq func93 (aBk (bB a b) snaps (tZ c (bB a b)) hmx og hs)) ((vq func92 (yD (aK (bB a b) snaps (tZ c (bB a b))) (aLn hmx) og)) (k17 (sq fun k18 => sr rfl fun k19 => ?_)))))))))))
 simp only [go_sem, hw112, hw113, hw116, A2]
 refine k19 ((cdA) ?_ ?_) <;> intro hc4
 . have hn : xT a b snaps (tZ c (bB a b)) = ([], false) := if_pos hc4
   have h9 := bKo (seq := seq) (mem := mem) pick hne (by rw [hn])
   refine (aj) (wR ?_)
   rw [h9]
   refine fO ?_ ⟨⟨trivial, enB _ _, aX _ [_, _, _], bZ _ _, trivial⟩, trivial, trivial⟩
   exact Bv
 have hn : xT a b snaps (tZ c (bB a b)) = ((b.take (frm b (aD a).1) ++ (pL (aK (bB a b) snaps (tZ c (bB a b)))).1 ++ b.drop (aW b (aD a).1 (aD a).2)), true) := if_neg (by rw [hc4]; simp)
 have h9 := bLu (seq := seq) (mem := mem) pick hne hn
 refine wk (k18 (sr rfl fun k21 => (ja) ((jr) ?_)))
 refine vC (fun hN => aR (n := 0) rfl rfl hN aTf aDo rfl rfl dg dg) (.inl rfl) ?_
 refine (Dc) ((jr) (k21 ?_))
 refine sdT 9 mixed rfl fun k22 => ?_
 refine (Ec hw01 hw11) ((jr) ?_)
 refine aM (fun hN => aAd (e := 107) (sz := 1) (xs := [rsA (b.take (frm b (aD a).1)), rsA (pL (aK (bB a b) snaps (tZ c (bB a b)))).1, rsA (b.drop (aW b (aD a).1 (aD a).2))]) rfl hN Ef trivial oS) (.inr dg) ?_
 refine (Ed hw01 hw11) ((jr) ?_)
 refine tp rfl rfl rfl ⟨func91, rfl, rfl⟩ (aXo (b.take (frm b (aD a).1)) (pL (aK (bB a b) snaps (tZ c (bB a b)))).1 (b.drop (aW b (aD a).1 (aD a).2)) (by rw [A7, B0]; omega)) Ai Ai ?_
 refine (Bt) ((jr) ?_)
 refine aM (fun hN => aR (n := 1) rfl rfl hN aTf aDo rfl rfl dg dg) (.inl rfl) ?_
 refine (Ee hw01 hw11) ((jr) ((jy) (k22 ((aj) ?_))))
 refine sr rfl fun k24 => (ja) ?_
 refine vs rfl rfl rfl func94 (aXp [] (b.take (frm b (aD a).1) ++ (pL (aK (bB a b) snaps (tZ c (bB a b)))).1 ++ b.drop (aW b (aD a).1 (aD a).2)) c) Ai Ai ?_
 refine (Bt) (k24 ((aj) (wR ?_)))
 rw [h9]
 refine fO ?_ ⟨⟨trivial, enB _ _, aX _ [_, _, _], bZ _ _, trivial⟩, trivial, trivial⟩
 exact Bv
set_option maxHeartbeats 2000000 in
def aJg (seq : Int) (mem : List Entry) (a b c : List Run) (snaps : List Int) (pick : Int) (ha : qD a) (hb : qD b) (hc : qD c) (vb : Lvl b) (vc : Lvl c) (hs : snaps.length <= 1048576) : aB P 55 [trA ⟨seq, mem, [a, b, c], snaps⟩, Ni 1, Ni pick] [] 0 (.tup [trA (dX ⟨seq, mem, [a, b, c], snaps⟩ 1 pick).1, .raw (.bool (dX ⟨seq, mem, [a, b, c], snaps⟩ 1 pick).2)]) := by
 refine (pq 140 [.cell 6 36, .tmp 7] func55) ?_
 simp only [trA, List.map_cons, List.map_nil]
 have hmx := mxl
 have hw01 : IntKind.i64.wrap (0 + 1) = 1 := rfl
 have hw11 : IntKind.i64.wrap (1 + 1) = 2 := rfl
 have hd12 : decide ((1 : Int) = 2) = false := rfl
 have hd22 : decide ((2 : Int) = 2) = true := rfl
 refine (aj) ?_
 refine sq fun k2 => (aj) ((cdA) ?_ ?_) <;> intro hc1
 . exfalso; simp at hc1
 refine wk (k2 (sr rfl fun k4 => (ja) ?_))
 refine vs rfl rfl rfl func85 (aHu a b c) Ai Ai ?_
 refine (Bt) (k4 (sr rfl fun k5 => (ja) ((jr) ?_)))
 refine vC (fun hN => aR (n := 1) rfl rfl hN aTf aDo rfl rfl dg dg) (.inl rfl) ?_
 refine (Dc) ((jr) ?_)
 refine vs rfl rfl rfl func86 (xL b 1 pick (by have := hb.2; omega)) Ai Ai ?_
 refine (Bt) ((jr) (k5 (sq fun k6 => (aj) ((cdA) ?_ ?_)))) <;> intro hc2
 . have hbad := (aHn b pick).1 (by simpa using hc2)
   have h9 := bHz (seq := seq) (mem := mem) (a := a) (c := c) (snaps := snaps) hbad
   refine (aj) (wR ?_)
   rw [h9]
   refine fO ?_ ⟨⟨trivial, enB _ _, aX _ [_, _, _], bZ _ _, trivial⟩, trivial, trivial⟩
   exact Bv
 have hp0 := (aHn b pick).2 (by simpa using hc2)
 obtain ⟨p, rfl⟩ := Int.eq_ofNat_of_zero_le hp0.1
 have hpl : p < b.length := by omega
 simp only [bJf hpl]
 have hne := bAi hpl
 obtain ⟨hsm, hal, hmx, hse, hnA⟩ := aQj (xV hb p) hc hne
 have hin : ((c.take (aW c (aD (aF b p)).1 (aD (aF b p)).2)).drop (frm c (aD (aF b p)).1)) = (eJ c (aD (aF b p)).1 (aD (aF b p)).2) := rfl
 have hf1 := aQu c (aD (aF b p)).1 (aD (aF b p)).2
 have hf2 := aQl c (aD (aF b p)).1 (aD (aF b p)).2
 have hinl := aGr c (aD (aF b p)).1 (aD (aF b p)).2
 have htk8 : (aF b p).length <= 8 := ((xV hb p)).2
 have hbn8 : c.length <= 8 := hc.2
 have hall : Plain.mergeAll entLt (((aF b p) ++ (eJ c (aD (aF b p)).1 (aD (aF b p)).2)).map Run.ents) = (bB (aF b p) c) := rfl
 have hAl := E8.2 hnA
 have hA0 : (bB (aF b p) c)[0]? = some (gA (bB (aF b p) c) 0) := eL hAl
 have hA1 : (bB (aF b p) c)[(bB (aF b p) c).length - 1]? = some (gA (bB (aF b p) c) ((bB (aF b p) c).length - 1)) := eL og
 have hwl := wr (((bB (aF b p) c).length : Int) - 1) (((bB (aF b p) c).length : Int) - 1) og
 have htl : (((bB (aF b p) c).length : Int) - 1).toNat = (bB (aF b p) c).length - 1 := by omega
 have hsql := zH (bB (aF b p) c) snaps true
 have hcl := bAf (aK (bB (aF b p) c) snaps true) og
 have hw112 := wr (((aW c (aD (aF b p)).1 (aD (aF b p)).2) : Int) - ((frm c (aD (aF b p)).1) : Int)) (((aW c (aD (aF b p)).1 (aD (aF b p)).2) : Int) - ((frm c (aD (aF b p)).1) : Int)) og
 have hw113 := wr ((c.length : Int) - (((aW c (aD (aF b p)).1 (aD (aF b p)).2) : Int) - ((frm c (aD (aF b p)).1) : Int))) ((c.length : Int) - (((aW c (aD (aF b p)).1 (aD (aF b p)).2) : Int) - ((frm c (aD (aF b p)).1) : Int))) og
 have hw116 := wr ((c.length : Int) - (((aW c (aD (aF b p)).1 (aD (aF b p)).2) : Int) - ((frm c (aD (aF b p)).1) : Int)) + ((pL (aK (bB (aF b p) c) snaps true)).1.length : Int)) ((c.length : Int) - (((aW c (aD (aF b p)).1 (aD (aF b p)).2) : Int) - ((frm c (aD (aF b p)).1) : Int)) + ((pL (aK (bB (aF b p) c) snaps true)).1.length : Int)) og
 refine wk (k6 (sr rfl fun k9 => (Ar hw01 hw11) ((jr) ?_)))
 refine vC (fun hN => aR (n := 2) rfl rfl hN aTf aDo rfl rfl dg dg) (.inl rfl) ?_
 refine (Ea hw01 hw11) ((jr) (k9 (sr rfl fun k10 => (ja) ?_)))
 refine (vr rfl rfl rfl func87 (aXt (aF b p) hne (xV hb p)) Ai Ai) (k10 (sr rfl fun k11 => (ja) ?_))
 refine (vr rfl rfl rfl func88 (sD c (aD (aF b p)).1 (aD (aF b p)).2 vc og) Ai Ai) (k11 (sr rfl fun k12 => (Eb hin) ((jr) ?_)))
 refine dL 3 rfl ?_
 refine (Ag) ?_
 refine (vr rfl rfl rfl func91 (aWy (aF b p) (eJ c (aD (aF b p)).1 (aD (aF b p)).2) og) (by simp only [go_sem, rsA, hin]) Ai) ((jr) ?_)
 refine (vr rfl rfl rfl func90 (aBg ((aF b p) ++ (eJ c (aD (aF b p)).1 (aD (aF b p)).2)) (by rw [A3]; omega)) Ai Ai) ((jr) ?_)
 refine vs rfl rfl rfl func89 (bJv (((aF b p) ++ (eJ c (aD (aF b p)).1 (aD (aF b p)).2)).map Run.ents) hsm) oG oG ?_
 refine (Aa hall) ((jr) (k12 (sr rfl fun k13 => (Ax hw01 hw11 hd12 hd22) (k13 (sq fun k14 => (aj) ((cdA) ?_ ?_)))))) <;> intro hc3
 . exfalso; simp at hc3
 refine wk (k14 (sr rfl fun k16 => (ja) ((vq func93 (aBk (bB (aF b p) c) snaps true hmx og hs)) ((vq func92 (yD (aK (bB (aF b p) c) snaps true) (aLn hmx) og)) (k16 (sq fun k17 => sr rfl fun k18 => ?_))))))
 simp only [go_sem, hw112, hw113, hw116, A2]
 refine k18 ((cdA) ?_ ?_) <;> intro hc4
 . have hn : xT (aF b p) c snaps true = ([], false) := if_pos hc4
   have h9 := bLf (seq := seq) (mem := mem) (a := a) hpl (by rw [hn])
   refine (aj) (wR ?_)
   rw [h9]
   refine fO ?_ ⟨⟨trivial, enB _ _, aX _ [_, _, _], bZ _ _, trivial⟩, trivial, trivial⟩
   exact Bv
 have hn : xT (aF b p) c snaps true = ((c.take (frm c (aD (aF b p)).1) ++ (pL (aK (bB (aF b p) c) snaps true)).1 ++ c.drop (aW c (aD (aF b p)).1 (aD (aF b p)).2)), true) := if_neg (by rw [hc4]; simp)
 have h9 := bLm (seq := seq) (mem := mem) (a := a) hpl hn
 refine wk (k17 (sr rfl fun k20 => (ja) ((jr) ?_)))
 refine vC (fun hN => aR (n := 1) rfl rfl hN aTf aDo rfl rfl dg dg) (.inl rfl) ?_
 refine (Dc) ((jr) (k20 ?_))
 refine sdT 9 mixed rfl fun k21 => ?_
 refine (Ec hw01 hw11) ((jr) ?_)
 refine aM (fun hN => aAd (e := 107) (sz := 1) (xs := [rsA (c.take (frm c (aD (aF b p)).1)), rsA (pL (aK (bB (aF b p) c) snaps true)).1, rsA (c.drop (aW c (aD (aF b p)).1 (aD (aF b p)).2))]) rfl hN Ef trivial oS) (.inr dg) ?_
 refine (Ed hw01 hw11) ((jr) ?_)
 refine tp rfl rfl rfl ⟨func91, rfl, rfl⟩ (aXo (c.take (frm c (aD (aF b p)).1)) (pL (aK (bB (aF b p) c) snaps true)).1 (c.drop (aW c (aD (aF b p)).1 (aD (aF b p)).2)) (by rw [A7, B0]; omega)) Ai Ai ?_
 refine (Bt) ((jr) ?_)
 refine aM (fun hN => aR (n := 2) rfl rfl hN aTf aDo rfl rfl dg dg) (.inl rfl) ?_
 refine (Ee hw01 hw11) ((jr) ((jy) (k21 ((aj) ?_))))
 refine sr rfl fun k23 => (ja) ?_
 refine vs rfl rfl rfl func94 (aXp a (qG b p) (c.take (frm c (aD (aF b p)).1) ++ (pL (aK (bB (aF b p) c) snaps true)).1 ++ c.drop (aW c (aD (aF b p)).1 (aD (aF b p)).2))) Ai Ai ?_
 refine (Bt) (k23 ((aj) (wR ?_)))
 rw [h9]
 refine fO ?_ ⟨⟨trivial, enB _ _, aX _ [_, _, _], bZ _ _, trivial⟩, trivial, trivial⟩
 exact Bv
def aJb (seq : Int) (mem : List Entry) (a b c : List Run) (snaps : List Int) (level pick : Int) (h0 : ¬ level = 0) (h1 : ¬ level = 1) : aB P 55 [trA ⟨seq, mem, [a, b, c], snaps⟩, Ni level, Ni pick] [] 0 (.tup [trA (dX ⟨seq, mem, [a, b, c], snaps⟩ level pick).1, .raw (.bool (dX ⟨seq, mem, [a, b, c], snaps⟩ level pick).2)]) := by
 refine (pq 140 [.cell 6 36, .tmp 7] func55) ?_
 simp only [trA, List.map_cons, List.map_nil]
 have hmx := mxl
 refine (aj) ?_
 refine sq fun k2 => (aj) ((cdB) ?_ ?_) <;> intro hc1
 . exfalso; simp at hc1; omega
 have h9 := bMx (seq := seq) (mem := mem) (a := a) (b := b) (c := c) (snaps := snaps) pick h0 h1
 refine (aj) (wR ?_)
 rw [h9]
 refine fO ?_ ⟨⟨trivial, enB _ _, aX _ [_, _, _], bZ _ _, trivial⟩, trivial, trivial⟩
 exact Bv
def bOt (t : Tree) (level pick : Int) (h : bR t = true) (hs : t.snaps.length <= 1048576) : aB P 55 [trA t, Ni level, Ni pick] [] 0 (.tup [trA (dX t level pick).1, .raw (.bool (dX t level pick).2)]) := by
  obtain ⟨a, b, c, hlv, ha, hb, hc, vb, vc⟩ := aAh h
  obtain ⟨seq, mem, lv, snaps⟩ := t
  obtain rfl : lv = [a, b, c] := hlv
  by_cases h0 : level = 0
  . subst h0; exact aJk seq mem a b c snaps pick ha hb hc vb vc hs
  by_cases h1 : level = 1
  . subst h1; exact aJg seq mem a b c snaps pick ha hb hc vb vc hs
  exact aJb seq mem a b c snaps level pick h0 h1
end
def xS (s : Store) (level pick : Int) (hs : dM s) (hq : s.up = true -> bR s.tree = true) (hlog : s.disk.log.size <= 12000) : aH P 54 [stA s, .ptr 0 0, .ptr 1 0] [(0, .cells 3 [Ni level]), (1, .cells 3 [Ni pick])] 2 (.tup [stA (scI s level pick).1, .raw (.bool (scI s level pick).2)]) [(0, .cells 3 [Ni level]), (1, .cells 3 [Ni pick])] 2 := by
 refine (gq 40 [.cell 4 40, .tmp 5] func54) ?_
 simp only [stA]
 have hmx := mxl
 have hzz : ∀ i p, (List.take 1 [StepI.lev (dX s.tree level pick).1.levels s.disk.seq])[i]? = some p -> (tT s.disk ((List.take 1 [StepI.lev (dX s.tree level pick).1.levels s.disk.seq]).take i)).log.size + bQh p <= 4611686018427387904 := fun i p hp => by
   match i, hp with
   | 0, hp => cases hp; show s.disk.log.size + 0 <= _; omega
   | i + 1, hp => simp at hp
 have hdd : tT s.disk (List.take 1 [StepI.lev (dX s.tree level pick).1.levels s.disk.seq]) = aDd s.disk (.lev (dX s.tree level pick).1.levels s.disk.seq) := rfl
 have hdd2 : tT s.disk [StepI.lev (dX s.tree level pick).1.levels s.disk.seq] = aDd s.disk (.lev (dX s.tree level pick).1.levels s.disk.seq) := rfl
 refine (aj) ?_
 refine sq fun k2 => (aj) ((cdA) ?_ ?_) <;> intro hc1
 . have hup : s.up = false := by simpa using hc1
   have h9 : (scI s level pick) = (s, false) := by unfold scI; rw [if_pos hup]
   refine (aj) (wR ?_)
   refine ⟨[], ?_⟩
   exact Dl h9
 have hup : s.up = true := by simpa using hc1
 refine wk (k2 (sr rfl fun k5 => (ja) ?_))
 refine vs rfl rfl rfl func55 (bOt s.tree level pick (hq hup) hs.1.2.2) Af Af ?_
 simp only [go_sem, trA]
 refine k5 (sq fun k6 => (aj) ((cdA) ?_ ?_)) <;> intro hc2
 . have hf : (dX s.tree level pick).2 = false := by simpa using hc2
   have h9 : (scI s level pick) = (s, false) := by unfold scI; rw [if_neg (by rw [hup]; simp), if_pos hf]
   refine (aj) (wR ?_)
   refine ⟨[], ?_⟩
   exact Dl h9
 have hf : ¬ (dX s.tree level pick).2 = false := by simpa using hc2
 have h9 : (scI s level pick) = (⟨true, (dX s.tree level pick).1, aDd s.disk (.lev (dX s.tree level pick).1.levels s.disk.seq)⟩, true) := by unfold scI; rw [if_neg (by rw [hup]; simp), if_neg hf]
 refine wk (k6 (sr rfl fun k9 => ?_))
 simp only [go_sem, bRb]
 refine (jr) (k9 ?_)
 refine aFz 5 rfl ?_
 refine (Ag) ?_
 refine sd mixed rfl fun k10 => (ja) ?_
 refine tp rfl rfl rfl ⟨func47, rfl, rfl⟩ (aLx s.disk [.lev (dX s.tree level pick).1.levels s.disk.seq] 1 oS oS hzz) (by simp only [go_sem, dkA, stAV, List.map_cons, List.map_nil]) (by simp only [go_sem, dkA, stAV, List.map_cons, List.map_nil]) ?_
 simp only [go_sem, dkA, hdd, hdd2]
 refine (jy) (k10 (wR ?_))
 refine ⟨[], ?_⟩
 exact Dl h9
def aXg (s : Store) (level pick : Int) (hs : dM s) : aH P 33 [stA s, .fn (.func 54) [] [.ptr 0 0, .ptr 1 0]] [(0, .cells 3 [Ni level]), (1, .cells 3 [Ni pick])] 2 (.tup [.agg [.raw (.bool (sdI (fun s => scI s level pick) s).1.up), .raw (.int .i64 (sdI (fun s => scI s level pick) s).1.tree.seq), .ref 2, .ref 3, .ref 4, .raw (.string (sdI (fun s => scI s level pick) s).1.disk.log), .raw (.int .i64 (sdI (fun s => scI s level pick) s).1.disk.safe), .ref 5, .raw (.int .i64 (sdI (fun s => scI s level pick) s).1.disk.seq)], .raw (.bool (sdI (fun s => scI s level pick) s).2)]) [(0, .cells 3 [Ni level]), (1, .cells 3 [Ni pick]), (2, .row 65 5 ((sdI (fun s => scI s level pick) s).1.tree.mem.map enA)), (3, .row 107 1 ((sdI (fun s => scI s level pick) s).1.tree.levels.map rsO)), (4, .row 3 1 ((sdI (fun s => scI s level pick) s).1.tree.snaps.map inA)), (5, .row 107 1 ((sdI (fun s => scI s level pick) s).1.disk.levels.map rsO))] 6 := by
 refine (gq 24 [.cell 4 40, .tmp 5] func33) ?_
 simp only [stA]
 refine (aj) ?_
 refine sq fun k2 => sr rfl fun k3 => (ja) ?_
 refine (vr rfl rfl rfl func68 (bHm s hs) Ae Ae) (k3 ((cdA) ?_ ?_)) <;> intro hc1
 . have hok : cQ s = false := by simpa using hc1
   have h9 : sdI (fun s => scI s level pick) s = (zStore, false) := by unfold sdI; rw [if_pos hok]
   refine (aj) ?_
   refine uP (i := 3) (j := 2) 65 5 rfl rfl dg ?_
   refine (Dd) ?_
   refine uP (i := 3) (j := 3) 107 1 rfl rfl dg ?_
   refine (Dd) ?_
   refine uP (i := 3) (j := 4) 3 1 rfl rfl dg ?_
   refine (Dd) ?_
   refine uP (i := 3) (j := 7) 107 1 rfl rfl dg ?_
   refine (Dd) (wR ?_)
   refine ⟨[(2, 4), (3, 5), (4, 6), (5, 7)], ?_⟩
   simp only [go_sem, AObj.bel, AObj.ren, AV.ren, aA, sg, h9, zStore, mM, bKx, List.map_nil] <;> simp
 have hok : cQ s = true := by simpa using hc1
 have hlog := bQu hok
 have hq : s.up = true -> 0 <= s.tree.seq /\ s.tree.seq <= 100000 := fun hu => ⟨(bEc hok hu).1, (bEc hok hu).2.1⟩
 refine wk (k2 (sr rfl fun k5 => (ja) ?_))
 refine vC (fun hN => rJ [] 0 (xs := [stA s]) rfl rfl rfl rfl ⟨func54, rfl, rfl⟩ hN (xS s level pick hs (aNr hok) hlog) rfl Ae (by simp only [go_sem, AV.ren, aA, aRu] <;> rfl) (by simp only [go_sem, dT]) (mP (.inl rfl) oG oG Au Au oS ⟨rfl, rfl⟩ dg)) (.inl rfl) ?_
 simp only [go_sem, AV.ren, AObj.ren, aA, shift, sg, A0, Nat.add_zero, Nat.sub_self, stA]
 refine k5 (sq fun k6 => (aj) ((cdA) ?_ ?_)) <;> intro hc2
 . have hf : ((fun s => scI s level pick) s).2 = false := by simpa using hc2
   have h9 : sdI (fun s => scI s level pick) s = (s, false) := by unfold sdI; rw [if_neg (by rw [hok]; simp), if_pos hf]
   refine sr rfl fun k8 => (ja) ?_
   refine vn 4 rfl rfl rfl ⟨func69, rfl, rfl⟩ (rU s hs) Ae Ae oS dg ?_
   refine (jn) (k8 (wR ?_))
   refine ⟨[(2, 5), (3, 6), (4, 7), (5, 8)], ?_⟩
   exact Cs h9
 have hf : ((fun s => scI s level pick) s).2 = true := by simpa using hc2
 have h9 : sdI (fun s => scI s level pick) s = (((fun s => scI s level pick) s).1, true) := by unfold sdI; rw [if_neg (by rw [hok]; simp), if_neg (by rw [hf]; simp)]
 refine wk (k6 (sr rfl fun k9 => (ja) ?_))
 refine vn 4 rfl rfl rfl ⟨func69, rfl, rfl⟩ (rU ((fun s => scI s level pick) s).1 (bRw hs (aNr hok) level pick)) Ae Ae oS dg ?_
 refine (jn) (k9 (wR ?_))
 refine ⟨[(2, 5), (3, 6), (4, 7), (5, 8)], ?_⟩
 exact Cs h9
def rG (s : Store) (level pick : Int) (hs : dM s) : aH P 23 [stA s, Ni level, Ni pick] [] 0 (.tup [.agg [.raw (.bool (sdI (fun s => scI s level pick) s).1.up), .raw (.int .i64 (sdI (fun s => scI s level pick) s).1.tree.seq), .ref 0, .ref 1, .ref 2, .raw (.string (sdI (fun s => scI s level pick) s).1.disk.log), .raw (.int .i64 (sdI (fun s => scI s level pick) s).1.disk.safe), .ref 3, .raw (.int .i64 (sdI (fun s => scI s level pick) s).1.disk.seq)], .raw (.bool (sdI (fun s => scI s level pick) s).2)]) [(0, .row 65 5 ((sdI (fun s => scI s level pick) s).1.tree.mem.map enA)), (1, .row 107 1 ((sdI (fun s => scI s level pick) s).1.tree.levels.map rsO)), (2, .row 3 1 ((sdI (fun s => scI s level pick) s).1.tree.snaps.map inA)), (3, .row 107 1 ((sdI (fun s => scI s level pick) s).1.disk.levels.map rsO))] 4 := by
 refine (gq 13 [.cell 6 40, .tmp 7] func23) ?_
 simp only [stA]
 refine (aj) ?_
 refine sr rfl fun k2 => (ja) ?_
 refine vg [(0, 1), (1, 2)] 4 rfl rfl rfl ⟨func33, rfl, rfl⟩ (aXg s level pick hs) rfl (by simp only [go_sem, AV.ren, aA, sg, aRu] <;> simp [stA, Abs.get]) (by simp only [go_sem, dT]) (mP (.inr ⟨1, 2, by decide, rfl⟩) Cz Cz Au Au oS ⟨rfl, rfl⟩ dg) (.inr dg) ?_
 refine (jn) (k2 (wR ?_))
 refine ⟨[(0, 4), (1, 5), (2, 6), (3, 7)], ?_⟩
 exact jz
def xR (s : Store) (level pick : Int) : sdI (fun s => scI s level pick) s = cG s level pick := by
  unfold sdI cG
  cases ho : cQ s with
  | false => rw [<- aCg, ho]; rfl
  | true =>
    rw [<- aCg, ho]; simp only [Bool.true_eq_false, if_false]
    cases hu : s.up with
    | false =>
      have hb : scI s level pick = (s, false) := by unfold scI; rw [if_pos hu]
      rw [hb, if_pos rfl, if_pos rfl, bLo ho hu]
    | true =>
      have ht := aNr ho hu
      have hcp : lD s = s := by unfold lD; rw [if_pos hu]
      have htc : cC s.tree level pick = dX s.tree level pick := by unfold cC; rw [<- pQ, ht, if_neg oS, bDh ht]
      rw [hcp, htc]
      cases hf : (dX s.tree level pick).2 with
      | false =>
        have hb : scI s level pick = (s, false) := by unfold scI; rw [if_neg (by rw [hu]; simp), if_pos hf]
        rw [hb]
        simp
      | true =>
        have hb : scI s level pick = (⟨true, (dX s.tree level pick).1, aDd s.disk (.lev (dX s.tree level pick).1.levels s.disk.seq)⟩, true) := by unfold scI; rw [if_neg (by rw [hu]; simp), if_neg (by rw [hf]; simp)]
        rw [hb]
        simp [aDd, hu]
def zU : ∀ (rs : List Run) (k : Int), (∀ r ∈ rs, r.ents.length <= 150) -> kRuns rs k <= k + 751 * (rs.length : Int)
  | [], k, _ => by show k <= _; simp
  | r :: rs, k, h => by
    have h1 := zU rs (stR r k) fun x hx => h x (A4 _ hx)
    have h2 := h r A5
    have h3 : stR r k <= k + 751 := by
      show kGo stE r.ents k + 1 <= _
      rw [aAk]; omega
    show kRuns rs (stR r k) <= _
    rw [B7]; omega
def bEs {x y z : List Run} (hx : (∀ r ∈ x, r.ents.length <= 150) /\ x.length <= 8) (hy : (∀ r ∈ y, r.ents.length <= 150) /\ y.length <= 8) (hz : (∀ r ∈ z, r.ents.length <= 150) /\ z.length <= 8) : kGo kRuns [x, y, z] 0 <= 18024 := by
  have h1 := zU x 0 hx.1
  have h2 := zU y (kRuns x 0) hy.1
  have h3 := zU z (kRuns y (kRuns x 0)) hz.1
  have g1 := hx.2
  have g2 := hy.2
  have g3 := hz.2
  show kRuns z (kRuns y (kRuns x 0)) <= _
  omega
def aXd {rs : List Run} (h : lL rs = true) : (∀ r ∈ rs, r.ents.length <= 150) /\ rs.length <= 8 := by
  unfold lL at h
  simp only [C8, C4, decide_eq_true_eq, Bool.not_eq_true', decide_eq_false_iff_not] at h
  exact ⟨fun r hr => by have := h.1 r hr; omega, og⟩
def zI {rs : List Run} (h : qD rs) : (∀ r ∈ rs, r.ents.length <= 150) /\ rs.length <= 8 := ⟨fun r hr => by have := eG (h.1 r hr); omega, h.2⟩
def bOn {t : Tree} (h : bR t = true) (level pick : Int) : (mT t level pick).1.mem = t.mem /\ (mT t level pick).1.snaps = t.snaps /\ kGo kRuns (mT t level pick).1.levels 0 <= kGo kRuns t.levels 0 + 18024 := by
  obtain ⟨a, b, c, hlv, ha, hb, hc, _, _⟩ := aAh h
  have hp := aFf t.levels
  have ho : ∀ p, (∀ r ∈ qG b p, r.ents.length <= 150) /\ (qG b p).length <= 8 := fun p => by
    have hb8 := (zI hb).2
    unfold qG
    refine ⟨fun r hr => ?_, by rw [A3, A7, B0]; omega⟩
    rcases B4.1 hr with hr | hr
    . exact (zI hb).1 r (D2 hr)
    exact (zI hb).1 r (D1 hr)
  unfold mT; simp only [hlv]; rw [hlv] at hp; split
  . split
    . rw [hlv]; exact ⟨rfl, rfl, og⟩
    rename_i hf
    have := bEs (x := []) ⟨fun r hr => (by cases hr), A6 _⟩ (aXd (by simpa using hf)) (zI hc)
    exact ⟨rfl, rfl, by simp only; omega⟩
  split
  . split
    . rw [hlv]; exact ⟨rfl, rfl, og⟩
    rename_i hf
    have := bEs (zI ha) (ho pick.toNat) (aXd (by simpa using hf))
    exact ⟨rfl, rfl, by simp only; omega⟩
  rw [hlv]; exact ⟨rfl, rfl, og⟩
def aVq {s : Store} (h : dM s) (level pick : Int) : dM (cG s level pick).1 /\ ∀ k, 0 <= k -> lI (cG s level pick).1 k <= 2 * lI s k + 40000 := by
  have hz : dM zStore := ⟨⟨⟨by decide, by intro e he; cases he⟩, ⟨by decide, by intro e he; cases he⟩, by decide⟩, ⟨by decide, by intro e he; cases he⟩⟩
  have p1 := aFf s.tree.levels
  have p2 := aFf s.disk.levels
  have z0 : kGo kRuns mM.levels 0 = 0 := rfl
  have z1 : mM.mem.length = 0 := rfl
  have z2 : mM.snaps.length = 0 := rfl
  have hc : ∀ k, lI (lD s) k <= lI s k := fun k => by
    unfold lD; split
    . exact Int.le_refl _
    rw [jM, jM]; simp only [z0, z1, z2]; omega
  have hk0 : ∀ k, 0 <= k -> 0 <= lI s k := fun k hk => by rw [jM]; omega
  unfold cG; split
  . refine ⟨hz, fun k hk => ?_⟩
    have : lI zStore k = k := rfl
    have h9 := jM s k
    simp only [this]; omega
  split
  . exact ⟨bEf h, fun k hk => by have := hc k; have := hk0 k hk; simp only; omega⟩
  rename_i hu
  have hu : s.up = true := by simpa using hu
  split
  . exact ⟨bEf h, fun k hk => by have := hc k; have := hk0 k hk; simp only; omega⟩
  rename_i hf
  have hok : bR s.tree = true := by
    rw [pQ]
    cases hq : eH s.tree with
    | true => rfl
    | false => exact absurd (by unfold cC; rw [hq]; rfl) hf
  have hcp : lD s = s := by unfold lD; rw [if_pos hu]
  have htc : cC s.tree level pick = mT s.tree level pick := by unfold cC; rw [<- pQ, hok, if_neg oS]
  have hts := aIb h.1 level pick
  obtain ⟨e1, e2, e3⟩ := bOn hok level pick
  refine ⟨⟨hts, hts.2.1⟩, fun k hk => ?_⟩
  rw [hcp, htc, jM, jM]; simp only [e1, e2]; omega
def bNq (s : Store) (level pick : Int) (hz1 : aRp s.tree.mem) (hz2 : bCf s.tree.levels) (hz3 : s.tree.snaps.length <= 9223372036854775807) (hz4 : s.disk.log.size <= 9223372036854775807) (hz5 : bCf s.disk.levels) : aB P 6 [stA s, Ni level, Ni pick] [] 0 (Nb true) := by
 refine (pq 106 [.tmp 6] func6) ?_
 simp only [stA]
 refine (aj) ((aj) ?_)
 refine sr rfl fun k3 => (ja) ?_
 refine (vr rfl rfl rfl func7 (aLe s 1048576 dg dg hz1 hz2 hz3 hz4 hz5) Ae Ae) (k3 (sq fun k4 => (aj) ((cdA) ?_ ?_))) <;> intro hc1
 . skip
   refine (aj) (wR ?_)
   refine fO ?_ trivial; exact Aj
 have hns : 0 <= nE s 1048576 := by simpa using hc1
 obtain ⟨hs, hlog, hk⟩ := bMw dg dg hns
 have hle : nE s 1048576 <= 1048576 := by have h1 := aGu s.tree 1048576 dg; unfold nE at hns ⊢; unfold Lq at h1; split at hns; omega; have h2 := aQi s.disk (gF s.tree 1048576) og; unfold Lq at h2; split <;> omega
 have hk1 := hk 1
 have hkp := aMv s 1
 refine wk (k4 (sr rfl fun k7 => (ja) ?_))
 refine vn 4 rfl rfl rfl ⟨func10, rfl, rfl⟩ (nB s hs.1.1 hs.1.2.1 hs.1.2.2 hs.2) Ae Ae oS dg ?_
 refine (jn) ?_
 refine dL 1 rfl ?_
 refine (Bz) ?_
 refine dL 2 rfl ?_
 refine (Bz) ?_
 refine dL 3 rfl ?_
 refine (Bz) ?_
 refine dL 4 rfl ?_
 refine (Bz) ?_
 refine vs rfl rfl rfl func22 (aAw s level pick hs hlog) Ae Ae ?_
 refine (Br) (k7 (sr rfl fun k8 => (ja) ?_))
 refine vn 4 rfl rfl rfl ⟨func10, rfl, rfl⟩ (nB s hs.1.1 hs.1.2.1 hs.1.2.2 hs.2) Ae Ae oS dg ?_
 refine (jn) (k8 (sr rfl fun k9 => (ja) ?_))
 refine vC (fun hN => aZv [6, 7, 8, 9] (xs := [.agg [Nb s.up, Ni s.tree.seq, .ref 6, .ref 7, .ref 8, Ns s.disk.log, Ni s.disk.safe, .ref 9, Ni s.disk.seq], Ni level, Ni pick]) rfl rfl rfl ⟨func23, rfl, rfl⟩ hN (rG s level pick hs) oS dg oG (by simp [zQ, qI, nT, Abs.get, bK, cF, dH, stA]) Ae rfl (bMv _)) (.inr dg) ?_
 rw [xR s level pick]
 obtain ⟨hr, hkr⟩ := aVq hs level pick
 have hkr1 := hkr 1 dg
 generalize hre : cG s level pick = r at hr hkr1 ⊢
 have hkrp := aMv r.1 1
 have hbnd : lI r.1 1 <= 1000000000000000000 := by omega
 clear hkr
 refine (jn) (k9 (sq fun k10 => sr rfl fun k11 => (ja) ?_))
 refine vC (fun hN => nZ (xs := [.agg [Nb r.1.up, Ni r.1.tree.seq, .ref 11, .ref 12, .ref 13, Ns r.1.disk.log, Ni r.1.disk.safe, .ref 14, Ni r.1.disk.seq], stA r.1]) [11, 12, 13, 14] rfl rfl rfl ⟨func13, rfl, rfl⟩ hN (nM r.1 hr.1.1 hr.1.2.1 hr.1.2.2 hr.2) Ae (by simp [zQ, qI, nT, Abs.get, cF, bK, dH, stA]) Ae rfl) (.inl rfl) ?_
 refine (Br) (k11 ((cdA) ?_ ?_)) <;> intro hc2
 . exfalso; simp at hc2
 refine wk (k10 (sq fun k12 => sd mixed rfl fun k13 => (ja) ?_))
 refine tn 4 rfl rfl rfl ⟨func10, rfl, rfl⟩ (nB s hs.1.1 hs.1.2.1 hs.1.2.2 hs.2) Ae Ae oS dg ?_
 refine (jn) ?_
 refine aM (fun hN => nZ (xs := [.agg [Nb s.up, Ni s.tree.seq, .ref 6, .ref 7, .ref 8, Ns s.disk.log, Ni s.disk.safe, .ref 9, Ni s.disk.seq], .agg [Nb s.up, Ni s.tree.seq, .ref 16, .ref 17, .ref 18, Ns s.disk.log, Ni s.disk.safe, .ref 19, Ni s.disk.seq]]) [6, 7, 8, 9, 16, 17, 18, 19] rfl rfl rfl ⟨func13, rfl, rfl⟩ hN (nM s hs.1.1 hs.1.2.1 hs.1.2.2 hs.2) Ae (by simp [zQ, qI, nT, Abs.get, cF, bK, dH, stA]) Ae rfl) (.inl rfl) ?_
 refine (Br) ((jy) (k13 ((cdA) ?_ ?_))) <;> intro hc3
 . exfalso; simp at hc3
 refine wk (k12 ((aj) ?_))
 refine sr rfl fun k15 => (ja) ?_
 refine vC (fun hN => dA (s := [(0, 6), (1, 7), (2, 8), (3, 9)]) 0 rfl rfl rfl ⟨func15, rfl, rfl⟩ hN (uW s 1 hs dg og) rfl Ba ?_ (sY (by simp [iD, sg, Abs.get, AObj.ren, AObj.bel, UU, gZ, cY, jX, enB, iA, bZ]) (by simp [sg, Abs.get]) (by intro i hi; simp; omega) oS rfl og)) (.inl rfl) ?_
 . exact Aj
 refine (De) (k15 (sq fun k16 => sr rfl fun k17 => (ja) ?_))
 refine vC (fun hN => bD hN rfl rfl rfl rfl oG (fun _ => nZ (xs := [.agg [Nb r.1.up, Ni r.1.tree.seq, .ref 11, .ref 12, .ref 13, Ns r.1.disk.log, Ni r.1.disk.safe, .ref 14, Ni r.1.disk.seq], stA r.1]) [11, 12, 13, 14] rfl rfl rfl ⟨func13, rfl, rfl⟩ hN (nM r.1 hr.1.1 hr.1.2.1 hr.1.2.2 hr.2) Ae (by simp [zQ, qI, nT, Abs.get, cF, bK, dH, stA]) Ae rfl) trivial) (.inl rfl) ?_
 refine (Br) (k17 ((cdA) ?_ ?_)) <;> intro hc4
 . exfalso; simp at hc4; omega
 refine wk (k16 ((aj) ?_))
 refine sr rfl fun k19 => (ja) ?_
 refine vC (fun hN => dA (s := [(0, 11), (1, 12), (2, 13), (3, 14)]) 0 rfl rfl rfl ⟨func15, rfl, rfl⟩ hN (uW r.1 1 hr dg hbnd) rfl Ba ?_ (sY (by simp [iD, sg, Abs.get, AObj.ren, AObj.bel, UU, gZ, cY, jX, enB, iA, bZ]) (by simp [sg, Abs.get]) (by intro i hi; simp; omega) oS rfl og)) (.inl rfl) ?_
 . exact Aj
 refine (De) (k19 ((aj) ?_))
 refine sr rfl fun k21 => (ja) ?_
 refine vC (fun hN => nZ (xs := [.agg [Nb r.1.up, Ni r.1.tree.seq, .ref 11, .ref 12, .ref 13, Ns r.1.disk.log, Ni r.1.disk.safe, .ref 14, Ni r.1.disk.seq], Ni 1]) [11, 12, 13, 14] rfl rfl rfl ⟨func17, rfl, rfl⟩ hN (vE r.1 1 hr dg hbnd) Ae (by simp [zQ, qI, nT, Abs.get, cF, bK, dH, stA]; exact ⟨rfl, rfl, rfl, rfl, rfl⟩) Ae rfl) (.inl rfl) ?_
 refine (Br) (k21 (sq fun k22 => (aj) ((cdA) ?_ ?_))) <;> intro hc5
 . exfalso; simp at hc5; omega
 refine wk (k22 (sq fun k24 => (aj) ((cdA) ?_ ?_))) <;> intro hc6
 . exfalso; simp at hc6
 refine wk (k24 (sr rfl fun k26 => (ja) ?_))
 refine vn 4 rfl rfl rfl ⟨func10, rfl, rfl⟩ (nB s hs.1.1 hs.1.2.1 hs.1.2.2 hs.2) Ae Ae oS dg ?_
 refine (jn) ?_
 refine vC (fun hN => aZv [20, 21, 22, 23] (xs := [.agg [Nb s.up, Ni s.tree.seq, .ref 20, .ref 21, .ref 22, Ns s.disk.log, Ni s.disk.safe, .ref 23, Ni s.disk.seq], Ni level, Ni pick]) rfl rfl rfl ⟨func23, rfl, rfl⟩ hN (rG s level pick hs) oS dg oG (by simp [zQ, qI, nT, Abs.get, bK, cF, dH, stA]) Ae rfl (bMv _)) (.inr dg) ?_
 rw [xR s level pick, hre]
 refine (jn) (k26 (sq fun k27 => sr rfl fun k28 => (ja) ?_))
 refine vC (fun hN => nZ (xs := [.agg [Nb r.1.up, Ni r.1.tree.seq, .ref 24, .ref 25, .ref 26, Ns r.1.disk.log, Ni r.1.disk.safe, .ref 27, Ni r.1.disk.seq], stA r.1]) [24, 25, 26, 27] rfl rfl rfl ⟨func13, rfl, rfl⟩ hN (nM r.1 hr.1.1 hr.1.2.1 hr.1.2.2 hr.2) Ae (by simp [zQ, qI, nT, Abs.get, cF, bK, dH, stA]) Ae rfl) (.inl rfl) ?_
 refine (Br) (k28 ((cdA) ?_ ?_)) <;> intro hc7
 . exfalso; simp at hc7
 refine wk (k27 ((aj) ?_))
 refine sr rfl fun k30 => (ja) ?_
 refine vC (fun hN => nZ (xs := [.agg [Nb r.1.up, Ni r.1.tree.seq, .ref 11, .ref 12, .ref 13, Ns r.1.disk.log, Ni r.1.disk.safe, .ref 14, Ni r.1.disk.seq], Ni 1]) [11, 12, 13, 14] rfl rfl rfl ⟨func17, rfl, rfl⟩ hN (vE r.1 1 hr dg hbnd) Ae (by simp [zQ, qI, nT, Abs.get, cF, bK, dH, stA]; exact ⟨rfl, rfl, rfl, rfl, rfl⟩) Ae rfl) (.inl rfl) ?_
 refine (Br) (k30 (sq fun k31 => (aj) ((cdA) ?_ ?_))) <;> intro hc8
 . exfalso; simp at hc8; omega
 refine wk (k31 (sq fun k33 => (aj) ((cdA) ?_ ?_))) <;> intro hc9
 . exfalso; simp at hc9
 refine wk (k33 ((aj) (wR ?_)))
 refine fO ?_ trivial; exact Aj
end Go.Proofs.S
end
section
open Go Go.Abs Go.Proofs Go.Proofs.Tryz
open Go.ChangeShapes Go.WideShapes Go.RowKit Go.Proofs.YthbibdnkiklemaaGreatDoor
namespace Go.Proofs.S
def rdI : P.readableRec 3 = true := kr
def parsC : Tryz.f6.params = #[30, 3, 3] := kr
abbrev lC : List (String × DataW Unit) := Rows.fnExactStoreCompactRow.laid
def bMl {w : World} (h : laidMetH P lC w) : laidMet P lC w := by rw [MakeChecks.laidMetH_plain _ _ _ kr] at h; exact h
def aZn (os : Os) (started : os.Started) (H : Type) (enc : TypeId × Value -> H) :
    ReturnsInHanded {} Tryz.checked os 6 .any (fun w args => (Rows.fnExactStoreCompactSpec.pre enc P Tryz.f6 [] false w args /\ laidMetH P lC w) /\
        sizedMet enc P Tryz.f6 (OpenSpec.ofChange Rows.fnExactStoreCompactSpec) false w args)
      (Rows.fnExactStoreCompactSpec.post enc P Tryz.f6 false true false false) := by
  refine returnsInHanded_of_change_and (C := Tryz.checked) (X := fun w _ => laidMetH P lC w) (fun _ _ _ hh h => h.of_heap hh) bSc started kr func6
    (ChangeSpec.witness_shaped (enc := enc) (C := Tryz.checked) (os := os) (X := fun w _ => laidMetH P lC w) false (World.laidAll P os lC) #[.agg #[.bool false, .int .i64 0, .slice none 0 0, .slice none 0 0, .slice none 0 0, .string ⟨#[]⟩, .int .i64 0, .slice none 0 0, .int .i64 0], .int .i64 0, .int .i64 0] 8 (World.laidAll_os _ _ _)
      (World.shaped_of_ZipB kr kr) kr kr kr
      (by rw [MakeChecks.laidMetH_plain _ _ _ kr]; exact laidMet_laidAll _ kr kr)) ?_
  intro W base args ds gs before hval0 hW _ _ hL _
  have hval : ∀ (j : Nat) t v, Tryz.f6.params[j]? = some t -> args[j]? = some v -> Value.okWide P W .any base t v := hval0
  have hW' := hW
  have hlt := hW.lt
  obtain ⟨p, q, hA0, hV0, rfl, _, _⟩ := hW
  have hA : DataW.TrodAll enc P W 0 (fun _ => true) true Tryz.f6.params.toList args.toList ds p := hA0
  have hV : DataW.TrodVars enc P W (fun _ => true) [] gs q := hV0
  rw [parsC] at hA hval
  obtain ⟨v0, v1, v2, d0, d1, d2, p0, p1, p2, rfl, rfl, rfl, h0, h1, h2⟩ := trodAll_three hA
  obtain ⟨rfl, rfl⟩ : gs = [] /\ q = [] := by
    cases gs with
    | nil => exact ⟨rfl, hV⟩
    | cons g r => exact absurd hV (by intro h; cases h)
  have gl := bRj (bMl hL) (by simp [lC, Rows.fnExactStoreCompactRow]) (by simp [lC, Rows.fnExactStoreCompactRow]) (by simp [lC, Rows.fnExactStoreCompactRow])
  obtain ⟨f0, g0⟩ := id h0
  have hint : ∀ (j : Nat) (v : Value), Tryz.f6.params[j]? = some 3 -> (#[v0, v1, v2] : Array Value)[j]? = some v -> ∃ n, v = .int .i64 n := fun j v h1 h2 => by
    have := hval j 3 v h1 h2
    simp only [Value.okWide, uI] at this
    cases v <;> simp_all [Cell.okWide, Cell.ok, uI, IntKind.has]
  obtain ⟨b, rfl⟩ := hint 1 v1 rfl rfl
  obtain ⟨q, rfl⟩ := hint 2 v2 rfl rfl
  obtain ⟨cs0, rfl⟩ := bQr uSt (hval 0 30 v0 rfl rfl)
  obtain ⟨s, w0, hs, _, _, _, e0, r0⟩ := bJn (ρ := C0.ρ) (av := C0.avoid []) bPr _ _ _ g0
  obtain rfl : w0 = .agg cs0 := by rw [e0 og]; rfl
  refine ((bNq s b q hs.1.1 hs.1.2.1 hs.1.2.2 hs.2.1 hs.2.2) C0 W #[.agg cs0, .int .i64 b, .int .i64 q] (bQz gl) ⟨rfl, fun j x hj => ?_⟩ ?_).mono ?_
  . match j, hj with
    | 0, hj => cases hj; exact r0
    | 1, hj => cases hj; exact .raw _
    | 2, hj => cases hj; exact .raw _
    | j + 3, hj => simp at hj
  . exact ⟨dT _ _, trivial, trivial, trivial⟩
  rintro e W' ⟨v, r, H', n', C', rfl, hn, ⟨rfl, rfl, rfl⟩, hR, hS, hv, _⟩
  cases hv
  have hbelow := bIm hS
  have hl0 : ∀ x ∈ p0, x.block < W.heap.size := fun x hx => hlt x (by simp [hx])
  have hl1 : ∀ x ∈ p1, x.block < W.heap.size := fun x hx => hlt x (by simp [hx])
  have hl2 : ∀ x ∈ p2, x.block < W.heap.size := fun x hx => hlt x (by simp [hx])
  refine ⟨_, rfl, [d0, d1, d2], [], _, [], p0 ++ p1 ++ p2, [], hW', ?_, ?_, ?_, hbelow.frame _, fun h => by cases h⟩
  . exact trodAll_mk1 (shut_bool uB true)
  . rw [F6]
    exact trodAll_mk3 (Below.trod bMc bSh (of_decide_eq_true kr) h0 hbelow hl0) (Below.trod bMc rdI (of_decide_eq_true kr) h1 hbelow hl1) (Below.trod bMc rdI (of_decide_eq_true kr) h2 hbelow hl2)
  exact rfl
def f_holdsC : Rows.FnExactStoreCompactSaid :=
  OpenClaim.holds_of_wide 6 Tryz.f6 rfl rfl rfl rfl rfl rfl rfl ⟨rfl, rfl, rfl, rfl, rfl⟩ rfl rfl rfl rfl rfl kr func6 kr
    (of_decide_eq_true kr) (by unfold Func.isWrapper; rw [if_neg (of_decide_eq_false kr)]; exact ⟨rfl, rfl⟩)
    (fun os started H enc _ => aZn os started H enc)
end Go.Proofs.S
end
section
open Go
namespace Go.Proofs.YthbibdnkiklemaaGreatDoor
theorem fnExactStoreCompact_card : Rows.FnExactStoreCompactCardSaid :=
  Claim7.holds_tied_plain_at .later [] [.data, .data, .data, .sentinel, .sentinel] true (true, "84a6217a5bfb3aca5bb11f94d1427a067a1d81862944acb0a7be4fc2b7eb6dc6") true
    S.f_holdsC (fun _ h => by cases h) (by kernel_rfl) (fun _ h => by cases h) fnExactStoreCompact_row_tie rfl ⟨rfl, rfl⟩ (by kernel_rfl) rfl
    (fun f fn hf hfn => by
      obtain rfl : f = 6 := Option.some.inj ((show Tryz.prog.funcNamed "loop.example/comptoir/laws.FnExactStoreCompact" = some 6 by kernel_rfl).symm.trans hf) |>.symm
      obtain rfl : fn = Tryz.f6 := (Option.some.inj (Tryz.func6.symm.trans hfn)).symm
      exact ⟨by kernel_rfl, fun j t ht => by
        rw [S.parsC] at ht
        have h3 : t = 30 ∨ t = 3 := by
          rcases j with _ | _ | _ | j
          . exact .inl (by simpa using ht.symm)
          . exact .inr (by simpa using ht.symm)
          . exact .inr (by simpa using ht.symm)
          simp at ht
        rcases h3 with rfl | rfl
        . exact (show Tryz.prog.wantsStandIn 30 = false by kernel_rfl)
        exact (show Tryz.prog.wantsStandIn 3 = false by kernel_rfl)⟩)
    (by kernel_rfl)
end Go.Proofs.YthbibdnkiklemaaGreatDoor
end
