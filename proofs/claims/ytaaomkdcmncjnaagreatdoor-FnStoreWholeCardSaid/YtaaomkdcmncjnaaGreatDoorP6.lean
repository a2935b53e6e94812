/-
  The law FnStoreWhole answers true for every input, and leaves its arguments as they were: the tied card. Conditions: those of the given row and card, none of its own (the listed variables as the program's text lays them).
-/
import Derived.Test.YtaaomkdcmncjnaaGreatDoorP5
import Derived.Test.YtaaomkdcmncjnaaGreatDoorTie
import Derived.Test.YtaaomkdcmncjnaaGreatDoorCards
import Derived.SevenTiedAt
set_option linter.all false
set_option maxRecDepth 100000
section
open Go Go.Abs Go.Proofs Go.Proofs.Tryz
namespace Go.Proofs.S
def aQl {t : Tree} (h : dP t = true) : ∃ a b c, t.levels = [a, b, c] /\ zS a /\ zS b /\ zS c /\ Lvl b /\ Lvl c := by
  unfold dP at h; split at h
  . cases h
  rename_i hb
  unfold qI at hb
  simp only [D4, decide_eq_true_eq, Bool.not_eq_true', decide_eq_false_iff_not, not_or] at hb
  split at h
  . cases h
  split at h
  . cases h
  rename_i hb3
  obtain ⟨a, b, c, hlv⟩ : ∃ a b c, t.levels = [a, b, c] := by
    have h3 : t.levels.length = 3 := by omega
    match hl : t.levels, h3 with
    | [a, b, c], _ => exact ⟨a, b, c, rfl⟩
  have hb3 : aBe t.levels = true := by simpa using hb3
  unfold aBe at hb3; rw [gU, hlv] at hb3
  have l0 := hb3 0 oS
  have l1 := hb3 1 oS
  have l2 := hb3 2 oS
  simp only [List.getElem?_cons_zero, List.getElem?_cons_succ, Option.getD_some] at l0 l1 l2
  obtain ⟨a0, b0, -⟩ := (lI _ _).1 l0
  obtain ⟨a1, b1, c1⟩ := (lI _ _).1 l1
  obtain ⟨a2, b2, c2⟩ := (lI _ _).1 l2
  have r0 : aAu ((0 : Nat) : Int) = 4 := rfl
  have r1 : aAu ((1 : Nat) : Int) = 8 := rfl
  have r2 : aAu ((2 : Nat) : Int) = 8 := rfl
  rw [r0] at a0; rw [r1] at a1; rw [r2] at a2
  exact ⟨a, b, c, hlv, ⟨b0, og⟩, ⟨b1, og⟩, ⟨b2, og⟩, ⟨b1, aIi (c1 dg) b1⟩, ⟨b2, aIi (c2 dg) b2⟩⟩
def aNh {p : Run -> Prop} : ∀ (b a : List Run), (∀ r ∈ a, p r) -> (∀ r ∈ b, p r) -> ∀ r ∈ sI a b, p r
  | [], a, ha, _ => ha
  | x :: b, a, ha, hb => aNh b (pE a x) (aGl ha (hb x A2)) fun r hr => hb r (A5 _ hr)
def bOw {ls : List Entry} (h : qW ls) : ∀ r ∈ wA ls, qW r.ents := fun r hr => by
  rw [aEf] at hr
  obtain ⟨p, hp, rfl⟩ := A9.1 hr
  have h1 : (aKq ls).flatten = ls := (zM ls.length ls (A0 _)).1
  have hs : p.Sublist ls := by rw [<- h1]; exact H8 hp
  exact ⟨F4 hs.length_le h.1, fun e he => h.2 e (hs.subset he)⟩
def bGm {taken b : List Run} {ts : List Int} {bot : Bool} (hto : zS taken) (hbo : zS b) (hb : aGj b) (hf : nU (lS taken b ts bot) = true) : aGj (lS taken b ts bot) := by
  have hal : (cL taken b).length <= 16 := by
    have h1 := hto.2
    have h2 := hbo.2
    have : (b.filter (iR (nQ taken).1 (nQ taken).2)).length <= b.length := List.length_filter_le _ _
    unfold cL; rw [A4]; omega
  have hao : ∀ r ∈ cL taken b, cH r = true := fun r hr => by
    rcases A6.1 hr with h | h
    . exact hto.1 r h
    exact hbo.1 r (List.mem_filter.1 h).1
  have hsq : qW (bP (tJ ((cL taken b).map Run.ents)) ts bot) := aPi (aPf hao hal).2.2.2
  refine ⟨?_, aNh _ _ (fun r hr => hb.2 r (List.mem_filter.1 hr).1) (bOw hsq)⟩
  unfold nU at hf
  simp only [B7, decide_eq_true_eq] at hf
  have := hf.2
  omega
def bBs {t : Tree} (h : dP t = true) (ht : gL t) (level pick : Int) : gL (qA t level pick).1 := by
  obtain ⟨a, b, c, hlv, ha, hb, hc, _, _⟩ := aQl h
  have hl := ht.2.1
  rw [hlv] at hl
  have sa := hl.2 a oS
  have sb := hl.2 b oS
  have sc := hl.2 c oS
  have mk : ∀ x y z : List Run, aGj x -> aGj y -> aGj z -> gL ⟨t.seq, t.mem, [x, y, z], t.snaps⟩ := fun x y z hx hy hz => ⟨ht.1, ⟨by simp, fun r hr => by
    simp only [A7, List.not_mem_nil, or_false] at hr
    rcases hr with rfl | rfl | rfl
    . exact hx
    . exact hy
    exact hz⟩, ht.2.2⟩
  have hnil : aGj [] := ⟨A3 _, fun r hr => by cases hr⟩
  unfold qA; simp only [hlv]; split
  . split
    . exact ht
    rename_i hf
    exact mk _ _ _ hnil (bGm ha hb sb (by simpa using hf)) sc
  split
  . split
    . exact ht
    rename_i hf
    refine mk _ _ _ sa ?_ (bGm (aVa hb _) hc sc (by simpa using hf))
    unfold tZ
    refine ⟨by have := sb.1; rw [A4, B3, B1]; omega, fun r hr => ?_⟩
    rcases A6.1 hr with hr | hr
    . exact sb.2 r (C9 hr)
    exact sb.2 r (D0 hr)
  exact ht
def bLq (t : Tree) (level pick : Int) (h : dP t = true) (ht : gL t) : aJ P 188 [trA t, Ni level, Ni pick] [] 0 (.tup [trA (qA t level pick).1, .raw (.bool (qA t level pick).2)]) := by
  obtain ⟨a, b, c, hlv, ha, hb, hc, _, _⟩ := aQl h
  obtain ⟨seq, mem, lv, snaps⟩ := t
  obtain rfl : lv = [a, b, c] := hlv
  exact aFj seq mem a b c snaps level pick ht ha hb hc
def dM (t : Tree) (level pick : Int) : Tree × Bool := if dE t = false then (hP, false) else qA t level pick
def bC (s : Store) (level pick : Int) : Store × Bool := if aF s = false then (zStore, false) else if s.up = false then (bH s, false) else
  if (dM s.tree level pick).2 = false then (bH s, false) else (⟨(bH s).up, (dM s.tree level pick).1, { (bH s).disk with levels := (dM s.tree level pick).1.levels }⟩, true)
def aWz {t : Tree} (ht : gL t) (level pick : Int) : gL (dM t level pick).1 := by
  unfold dM; split
  . exact ⟨⟨A3 _, by intro e he; cases he⟩, ⟨A3 _, by intro e he; cases he⟩, A3 _⟩
  rename_i h
  exact bBs (by rw [zO]; simpa using h) ht level pick
def aCg (t : Tree) (level pick : Int) (ht : gL t) : aJ P 166 [trA t, Ni level, Ni pick] [] 0 (.tup [trA (dM t level pick).1, .raw (.bool (dM t level pick).2)]) := by
 refine (pq 25 [.cell 6 27, .tmp 7] func166) ?_
 simp only [trA]
 refine (aj) ?_
 refine aA fun k2 => sr rfl fun k3 => (ja) ?_
 refine (vr rfl rfl rfl func33 (tF t ht) Ae Ae) (k3 ((cdA) ?_ ?_)) <;> intro hc1
 . have hok : dE t = false := by simpa using hc1
   have h9 : (dM t level pick) = (hP, false) := if_pos hok
   refine (aj) ?_
   refine cP 1 (ds := [Ni 0, .sl 5 [], .sl 1 [], .sl 1 []]) rfl (by repeat (first | exact LeL.nil | refine LeL.cons (by first | exact Le.refl _ | exact Le.nil _) ?_)) oG ?_
   refine (ja) (wR ?_)
   rw [h9]
   refine fO ?_ ⟨gC _ hP, trivial, trivial⟩
   simp only [go_sem, hP, trA, List.map_nil]
 have hok : dE t = true := by simpa using hc1
 have hoI : dP t = true := by rw [zO]; exact hok
 have h9 : (dM t level pick) = qA t level pick := if_neg (by rw [hok]; simp)
 refine wk (k2 (sr rfl fun k5 => (ja) ?_))
 refine vn 3 rfl rfl rfl ⟨func71, rfl, rfl⟩ (gJ t ht) Ae Ae oS dg ?_
 refine (jn) ?_
 refine bF 2 rfl ?_
 simp only [go_sem, eZ, mG, qF]
 refine bF 3 rfl ?_
 simp only [go_sem, eZ, mG, qF]
 refine bF 4 rfl ?_
 simp only [go_sem, eZ, mG, qF]
 refine vs rfl rfl rfl func188 (bLq t level pick hoI ht) Ae Ae ?_
 simp only [go_sem, trA]
 refine k5 (sr rfl fun k6 => (ja) ?_)
 refine vn 3 rfl rfl rfl ⟨func71, rfl, rfl⟩ (gJ (qA t level pick).1 (bBs hoI ht level pick)) Ae Ae oS dg ?_
 refine (jn) (k6 ?_)
 refine aFz 6 rfl ?_
 simp only [go_sem, fzL, AV.fz, eZ, mG, qF]
 refine aFz 7 rfl ?_
 simp only [go_sem, fzL, AV.fz, eZ, mG, qF]
 refine aFz 8 rfl ?_
 simp only [go_sem, fzL, AV.fz, eZ, mG, qF]; refine wR ?_; rw [h9]
 refine fO ?_ ⟨gC _ _, trivial, trivial⟩
 exact Ae
def qX (s : Store) (level pick : Int) (hs : bQ s) (hlg : s.disk.log.size <= 1048576) : aJ P 146 [stA s, Ni level, Ni pick] [] 0 (.tup [stA (bC s level pick).1, .raw (.bool (bC s level pick).2)]) := by
 refine (pq 35 [.cell 6 31, .tmp 7] func146) ?_
 simp only [stA]
 refine (aj) ?_
 refine aA fun k2 => sr rfl fun k3 => (ja) ?_
 refine (vr rfl rfl rfl func11 (nO s hs hlg) Ab Ab) (k3 ((cdA) ?_ ?_)) <;> intro hc1
 . have hok : aF s = false := by simpa using hc1
   have h9 : (bC s level pick) = (zStore, false) := by unfold bC; rw [if_pos hok]
   refine (aj) ?_
   refine cP 1 (ds := [Nb false, Ni 0, .sl 5 [], .sl 1 [], .sl 1 [], Ns ⟨#[]⟩, Ni 0, .sl 1 [], Ni 0]) rfl (by repeat (first | exact LeL.nil | refine LeL.cons (by first | exact Le.refl _ | exact Le.nil _) ?_)) oG ?_
   refine (ja) (wR ?_)
   rw [h9]
   refine fO ?_ ⟨aR _ zStore, trivial, trivial⟩
   simp only [go_sem, stA, zStore, hP, aQg, List.map_nil]
 have hok : aF s = true := by simpa using hc1
 refine wk (k2 (sr rfl fun k5 => (ja) ?_))
 refine vs rfl rfl rfl func31 (eP s hs) Ab Ab ?_
 refine (Aj) (k5 (aA fun k6 => (aj) ((cdA) ?_ ?_))) <;> intro hc2
 . have hup : s.up = false := by simpa using hc2
   have h9 : (bC s level pick) = (bH s, false) := by unfold bC; rw [if_neg (by rw [hok]; simp), if_pos hup]
   refine (aj) (wR ?_)
   rw [h9]
   refine fO ?_ ⟨aR _ _, trivial, trivial⟩
   exact Ab
 have hup : s.up = true := by simpa using hc2
 refine wk (k6 (sr rfl fun k9 => (ja) ?_))
 refine vs rfl rfl rfl func166 (aCg s.tree level pick hs.1) Ae Ae ?_
 simp only [go_sem, trA]
 refine k9 (aA fun k10 => (aj) ((cdA) ?_ ?_)) <;> intro hc3
 . have hf : (dM s.tree level pick).2 = false := by simpa using hc3
   have h9 : (bC s level pick) = (bH s, false) := by unfold bC; rw [if_neg (by rw [hok]; simp), if_neg (by rw [hup]; simp), if_pos hf]
   refine (aj) (wR ?_)
   rw [h9]
   refine fO ?_ ⟨aR _ _, trivial, trivial⟩
   exact Ab
 have hf : ¬ (dM s.tree level pick).2 = false := by simpa using hc3
 have h9 : (bC s level pick) = (⟨(bH s).up, (dM s.tree level pick).1, { (bH s).disk with levels := (dM s.tree level pick).1.levels }⟩, true) := by unfold bC; rw [if_neg (by rw [hok]; simp), if_neg (by rw [hup]; simp), if_neg hf]
 refine wk (k10 (sr rfl fun k13 => (ja) ?_))
 refine vs rfl rfl rfl func165 (wQ (bH s) (dM s.tree level pick).1 (aWz hs.1 level pick).2.1) (by simp only [go_sem, stA, trA]) (by simp only [go_sem, stA, trA]) ?_
 refine (Aj) (k13 (wR ?_))
 rw [h9]
 refine fO ?_ ⟨aR _ _, trivial, trivial⟩
 exact Ab
section
variable {rs : List Run} {e : Entry} {L m : List Entry}
def iW (X Y : List Entry) : Prop := ∀ e ∈ X, ∀ f ∈ Y, e.key = f.key -> f.seq < e.seq
def aIh (q : Int) (rs : List Run) : Prop := ∀ r ∈ rs, cH r = true /\ ∀ e ∈ r.ents, e.seq <= q
structure RT (q : Int) (m : List Entry) (a b c : List Run) (sn : List Int) : Prop where
  q0 : 0 <= q
  q1 : q <= 100000
  ml : m.length <= 60
  mo : cD m = true
  mw : ∀ e ∈ m, e.seq <= q
  hs : eO sn q = true
  la : a.length <= 4
  lb : b.length <= 8
  lc : c.length <= 8
  ra : aIh q a
  rb : aIh q b
  rc : aIh q c
  vb : Lvl b
  vc : Lvl c
  nm : iW m (aH a ++ (aH b ++ aH c))
  na : a.Pairwise fun x y => iW y.ents x.ents
  nab : iW (aH a) (aH b ++ aH c)
  nbc : iW (aH b) (aH c)
def cE {X Y Z : List Entry} : iW X (Y ++ Z) ↔ iW X Y /\ iW X Z :=
  ⟨fun h => ⟨fun e he f hf => h e he f (List.mem_append_left _ hf), fun e he f hf => h e he f (List.mem_append_right _ hf)⟩, fun h e he f hf => (A6.1 hf).elim (h.1 e he f) (h.2 e he f)⟩
def aQ : e ∈ aH rs ↔ ∃ r ∈ rs, e ∈ r.ents := by unfold aH; exact List.mem_flatMap
def lF {X Y X' Y' : List Entry} (h : iW X Y) (hx : ∀ e ∈ X', e ∈ X) (hy : ∀ e ∈ Y', e ∈ Y) : iW X' Y' := fun e he f hf => h e (hx e he) f (hy f hf)
def aIk (h : ∀ r ∈ rs, cH r = true) : Lvl rs ↔ Adj rs :=
  ⟨fun hl i hi => F9.1 hl.2 i (i + 1) og hi og, fun ha => ⟨h, aIi ha h⟩⟩
def uT (rs : List Run) (most : Int) (ap : Bool) (q : Int) : eD rs most ap q = true ↔ (rs.length : Int) <= most /\ aIh q rs /\ (ap = true -> Lvl rs) := by
  rw [gS]
  constructor
  . rintro ⟨h1, h2, h3⟩
    exact ⟨h1, fun r hr => ⟨(h2 r hr).1, (iF _ _).1 (h2 r hr).2⟩, fun h => (aIk fun r hr => (h2 r hr).1).2 (h3 h)⟩
  rintro ⟨h1, h2, h3⟩
  exact ⟨h1, fun r hr => ⟨(h2 r hr).1, (iF _ _).2 (h2 r hr).2⟩, fun h => (aIk fun r hr => (h2 r hr).1).1 (h3 h)⟩
def bNx (m : List Entry) (a b c : List Run) : ((m :: (a.reverse.map Run.ents ++ [aH b, aH c])).Pairwise fun x y => lK x y = true) ↔
    iW m (aH a ++ (aH b ++ aH c)) /\ (a.Pairwise fun x y => iW y.ents x.ents) /\ iW (aH a) (aH b ++ aH c) /\ iW (aH b) (aH c) := by
  have e0 : (fun x y : List Entry => lK x y = true) = fun x y => iW x y := by
    funext x y; exact propext (dI x y)
  rw [e0]
  have e1 : (a.reverse.map Run.ents).Pairwise (fun x y => iW x y) ↔ a.Pairwise (fun x y => iW y.ents x.ents) := by
    rw [List.pairwise_map, List.pairwise_reverse]
  rw [List.pairwise_cons, List.pairwise_append, e1, cE, cE, cE]; simp only [A6, A9, List.mem_reverse, A7, List.not_mem_nil, or_false, List.pairwise_cons, List.Pairwise.nil, and_true, forall_eq, false_implies, implies_true]
  constructor
  . rintro ⟨k1, k2, k3, k4⟩
    refine ⟨⟨fun e he f hf => ?_, k1 _ (.inr (.inl rfl)), k1 _ (.inr (.inr rfl))⟩, k2, ⟨fun e he => ?_, fun e he => ?_⟩, k3⟩
    . obtain ⟨r, hr, hf⟩ := aQ.1 hf
      exact k1 r.ents (.inl ⟨r, hr, rfl⟩) e he f hf
    . obtain ⟨r, hr, he⟩ := aQ.1 he
      exact k4 r.ents ⟨r, hr, rfl⟩ _ (.inl rfl) e he
    obtain ⟨r, hr, he⟩ := aQ.1 he
    exact k4 r.ents ⟨r, hr, rfl⟩ _ (.inr rfl) e he
  rintro ⟨⟨k1, k2, k3⟩, k4, ⟨k5, k6⟩, k7⟩
  refine ⟨fun x hx => ?_, k4, k7, fun x hx y hy => ?_⟩
  . rcases hx with ⟨r, hr, rfl⟩ | rfl | rfl
    . exact fun e he f hf => k1 e he f (aQ.2 ⟨r, hr, hf⟩)
    . exact k2
    exact k3
  obtain ⟨r, hr, rfl⟩ := hx
  rcases hy with rfl | rfl
  . exact fun e he => k5 e (aQ.2 ⟨r, hr, he⟩)
  exact fun e he => k6 e (aQ.2 ⟨r, hr, he⟩)
def sM (t : Tree) : dE t = true ↔ ∃ a b c, t.levels = [a, b, c] /\ RT t.seq t.mem a b c t.snaps := by
  constructor
  . intro h; unfold dE at h; split at h
    . cases h
    rename_i hb
    unfold qE at hb
    simp only [D4, decide_eq_true_eq, Bool.not_eq_true', decide_eq_false_iff_not, not_or, Bool.not_eq_false] at hb
    obtain ⟨⟨⟨⟨⟨⟨b1, b2⟩, b3⟩, b4⟩, b5⟩, b6⟩, b7⟩ := hb
    obtain ⟨a, b, c, hL⟩ : ∃ a b c, t.levels = [a, b, c] := by
      have h3 : t.levels.length = 3 := by omega
      match hl : t.levels, h3 with
      | [a, b, c], _ => exact ⟨a, b, c, rfl⟩
    simp only [B7] at h
    obtain ⟨⟨⟨l0, l1⟩, l2⟩, hag⟩ := h
    have hp : dF t = t.mem :: (a.reverse.map Run.ents ++ [aH b, aH c]) := by unfold dF; rw [hL]; rfl
    rw [zL, hp, bNx] at hag
    have v0 : lv t 0 = a := by unfold lv; rw [hL]; rfl
    have v1 : lv t 1 = b := by unfold lv; rw [hL]; rfl
    have v2 : lv t 2 = c := by unfold lv; rw [hL]; rfl
    rw [v0, uT] at l0; rw [v1, uT] at l1; rw [v2, uT] at l2
    exact ⟨a, b, c, hL, ⟨og, og, og, b4, (iF _ _).1 b5, b7, og, og, og, l0.2.1, l1.2.1, l2.2.1, l1.2.2 rfl, l2.2.2 rfl, hag.1, hag.2.1, hag.2.2.1, hag.2.2.2⟩⟩
  rintro ⟨a, b, c, hL, h⟩
  have hp : dF t = t.mem :: (a.reverse.map Run.ents ++ [aH b, aH c]) := by unfold dF; rw [hL]; rfl
  have v0 : lv t 0 = a := by unfold lv; rw [hL]; rfl
  have v1 : lv t 1 = b := by unfold lv; rw [hL]; rfl
  have v2 : lv t 2 = c := by unfold lv; rw [hL]; rfl
  have h1 := h.q0
  have h2 := h.q1
  have h3 := h.ml
  have h4 := h.la
  have h5 := h.lb
  have h6 := h.lc
  unfold dE; rw [if_neg, v0, v1, v2, hp]
  . simp only [B7]
    exact ⟨⟨⟨(uT _ _ _ _).2 ⟨og, h.ra, fun h => (by cases h)⟩, (uT _ _ _ _).2 ⟨og, h.rb, fun _ => h.vb⟩⟩, (uT _ _ _ _).2 ⟨og, h.rc, fun _ => h.vc⟩⟩, (zL _).2 ((bNx _ _ _ _).2 ⟨h.nm, h.na, h.nab, h.nbc⟩)⟩
  unfold qE; rw [h.mo, (iF _ _).2 h.mw, h.hs, hL]
  simp
  omega
def aWe (h1 : ∀ e ∈ L, bK e = true) (h2 : L.Pairwise fun x y => x.key = y.key -> x.seq ≠ y.seq) : cD (bU L) = true := by
  have hp := iG L
  have hs : (bU L).Pairwise (Plain.leB entLt) := by rw [zD]; exact (Plain.put_sorted qC L).1
  have hd : (bU L).Pairwise fun x y => x.key = y.key -> x.seq ≠ y.seq := hp.symm.pairwise h2 (fun {x y} h e => fun e2 => h e.symm e2.symm)
  refine aNe (fun e he => h1 e (hp.mem_iff.1 he)) ?_
  refine List.Pairwise.imp₂ (fun x y (g1 : Plain.leB entLt x y) g2 => ?_) hs hd
  cases hx : entLt x y with
  | true => rfl
  | false => exact absurd (aVi hx g1) (g2 (bJd hx g1))
def aWb (h : cD m = true) (ls : List Entry) : ls.foldl cC m = bU (m ++ ls) := by
  unfold bU; rw [List.foldl_append]
  have := aQh h
  unfold bU at this; rw [this]
def aVh (h : cD m = true) : m.Pairwise fun x y => x.key = y.key -> x.seq ≠ y.seq := by
  refine (qP h).imp fun {x y} g hk hs => ?_
  unfold entLt at g; rw [hk, hs] at g
  simp [bR] at g
def aDf : e ∈ bU L ↔ e ∈ L := (iG L).mem_iff
end
def frL (bs : List (List Entry)) : List UInt8 := bs.flatMap fun b => bL (fTx b)
def jL : List (List Entry) -> Nat -> List (List Entry)
  | [], _ => []
  | b :: r, n => if (fTx b).size <= n then b :: jL r (n - (fTx b).size) else []
def xQ (b : List Entry) (r : List (List Entry)) : frL (b :: r) = bL (fTx b) ++ frL r := rfl
def bCw (x y : List (List Entry)) : frL (x ++ y) = frL x ++ frL y := by unfold frL; rw [List.flatMap_append]
def aRn {s : ByteArray} (hs : s.size <= 1048576) {a : Nat} (ha : a <= s.size) (h : 0 <= (aV s a).2) : isB (aV s a).1 = true /\ Has s a (bL (fTx (aV s a).1)) := by
  have hg := rM s a h
  have hle := uJ s a
  exact ⟨aEt s hs a h, Has.of_toList (aBx s a h) og og⟩
def aPq : ∀ (bs : List (List Entry)) (n : Nat), (frL bs).length <= n -> jL bs n = bs
  | [], n, _ => rfl
  | b :: r, n, h => by
    rw [xQ, A4, aO] at h; rw [jL, if_pos og, aPq r _ og]
def zK : ∀ (bs : List (List Entry)) (n : Nat), ∃ r, bs = jL bs n ++ r
  | [], n => ⟨[], rfl⟩
  | b :: r, n => by
    rw [jL]; split
    . obtain ⟨x, hx⟩ := zK r (n - (fTx b).size)
      exact ⟨x, by rw [List.cons_append, <- hx]⟩
    exact ⟨b :: r, rfl⟩
def bBo {s : ByteArray} (hs : s.size <= 1048576) : ∀ (bs : List (List Entry)) (f a n : Nat) (out : List (List Entry)), (∀ b ∈ bs, isB b = true) -> a <= s.size -> s.size - a <= f -> (bL s).drop a = (frL bs).take n ->
    cV s f a out = (out ++ jL bs n, ((a + (frL (jL bs n)).length : Nat) : Int))
  | [], f, a, n, out, _, ha, hf, hd => by
    have h1 := congrArg List.length hd
    rw [show frL [] = [] from rfl, List.take_nil, B1, aO, List.length_nil] at h1
    have e : a = s.size := by omega
    subst e
    cases f with
    | zero => simp [cV, jL, frL]
    | succ f => rw [cV, if_neg og]; simp [jL, frL]
  | b :: r, f, a, n, out, hb, ha, hf, hd => by
    have hB := hb b A2
    have hpos := (yG hB).2
    have hl := congrArg List.length hd
    rw [B1, aO, B3] at hl
    rw [xQ] at hd hl
    rw [A4, aO] at hl; rw [jL]
    by_cases h1 : (fTx b).size <= n
    . rw [if_pos h1]
      have hX : (bL (fTx b) ++ frL r).take n = bL (fTx b) ++ (frL r).take (n - (fTx b).size) := by
        rw [List.take_append, List.take_of_length_le (by rw [aO]; omega), aO]
      rw [hX] at hd
      have hh : Has s a (bL (fTx b)) := by unfold Has; rw [hd, List.take_left' rfl]
      have hfr := rL hB ha hh
      have hin := hh.len ha
      rw [aO] at hin
      cases f with
      | zero => omega
      | succ f =>
        rw [cV, if_pos og, hfr]
        simp only
        rw [if_neg og, Int.toNat_natCast]
        have hd2 : (bL s).drop (a + (fTx b).size) = (frL r).take (n - (fTx b).size) := by
          rw [<- List.drop_drop, hd, List.drop_left' (aO _)]
        rw [bBo hs r f _ (n - (fTx b).size) _ (fun x hx => hb x (A5 _ hx)) hin og hd2, xQ, A4, aO]
        simp; omega
    rw [if_neg h1]
    have hX : (bL (fTx b) ++ frL r).take n = (bL (fTx b)).take n := List.take_append_of_le_length (by rw [aO]; omega)
    rw [hX] at hd
    have hno : (aV s a).2 < 0 := by
      refine Int.not_le.1 fun h0 => ?_
      obtain ⟨g1, g2⟩ := aRn hs ha h0
      have g3 := g2.len ha
      rw [aO] at g3
      have g5 : Has (fTx b) 0 (bL (fTx (aV s a).1)) := by
        unfold Has at g2 ⊢
        rw [hd, List.take_take, Nat.min_eq_left (by rw [aO]; omega)] at g2
        rw [List.drop_zero]; exact g2
      have g6 := rL g1 (A3 _) g5
      have g7 := rL hB (A3 _) (Has.self (fTx b))
      rw [g6] at g7
      have g8 := congrArg Prod.snd g7
      simp only at g8
      omega
    cases f with
    | zero => simp [cV, frL]
    | succ f =>
      rw [cV]
      simp only [hno, if_true, ite_self, List.append_nil, Nat.add_zero, show (frL []).length = 0 from rfl]
def aKr {s : ByteArray} (hs : s.size <= 1048576) {bs : List (List Entry)} {n : Nat} (hb : ∀ b ∈ bs, isB b = true) (h : bL s = (frL bs).take n) : bO s = (jL bs n, ((frL (jL bs n)).length : Int)) := by
  have := bBo hs bs s.size 0 n [] hb (A3 _) og (by rw [List.drop_zero]; exact h)
  rw [List.nil_append, C3] at this; exact this
def aNs {s : ByteArray} (hs : s.size <= 1048576) {bs : List (List Entry)} (hb : ∀ b ∈ bs, isB b = true) (h : bL s = frL bs) : bO s = (bs, (s.size : Int)) := by
  have h1 := aKr hs hb (n := (frL bs).length) (by rw [E9]; exact h)
  rw [aPq bs _ (A0 _), <- h, aO] at h1; exact h1
def aRk {s : ByteArray} (hs : s.size <= 1048576) : ∀ (f a : Nat) (out : List (List Entry)), a <= s.size -> (bL s).take a = frL out -> (bL s).take (cV s f a out).2.toNat = frL (cV s f a out).1 /\ 0 <= (cV s f a out).2 /\ (cV s f a out).2 <= s.size
  | 0, a, out, ha, h => ⟨h, Int.natCast_nonneg _, Int.ofNat_le.2 ha⟩
  | f + 1, a, out, ha, h => by
    have stay : (bL s).take ((out, (a : Int)) : List (List Entry) × Int).2.toNat = frL out /\ (0 : Int) <= (a : Int) /\ (a : Int) <= s.size := ⟨h, Int.natCast_nonneg _, Int.ofNat_le.2 ha⟩
    rw [cV]
    by_cases h1 : a < s.size
    . rw [if_pos h1]
      by_cases h2 : (aV s a).2 < 0
      . rw [if_pos h2]; exact stay
      rw [if_neg h2]
      obtain ⟨g1, g2⟩ := aRn hs ha og
      have g3 := rL g1 ha g2
      have g4 := g2.len ha
      rw [aO] at g4
      have e : (aV s a).2.toNat = a + (fTx (aV s a).1).size := by
        have := congrArg Prod.snd g3; simp only at this; omega
      refine aRk hs f _ _ og ?_
      have g6 : ((bL s).drop a).take (fTx (aV s a).1).size = bL (fTx (aV s a).1) := by
        unfold Has at g2
        rw [aO] at g2; exact g2
      rw [e, bCw, <- h, List.take_add, g6]
      generalize aV s a = r
      simp only [frL, List.flatMap_cons, List.flatMap_nil, List.append_nil]
    rw [if_neg h1]; exact stay
def bMl {s : ByteArray} (hs : s.size <= 1048576) (h : (bO s).2 = (s.size : Int)) : bL s = frL (bO s).1 := by
  have h1 := (aRk hs s.size 0 [] (A3 _) rfl).1
  have h2 : (cV s s.size 0 []).2 = (s.size : Int) := h
  rw [h2, Int.toNat_natCast, List.take_of_length_le (by rw [aO]; omega)] at h1
  exact h1
def dS (q : Int) (L : List Entry) : Int := L.foldl (fun m e => max m e.seq) q
def ovr (q : Int) (e : Entry) : Bool := decide (q < e.seq)
def gW : ∀ (L : List Entry) (q : Int), q <= dS q L /\ ∀ e ∈ L, e.seq <= dS q L
  | [], q => ⟨Int.le_refl _, fun e he => by cases he⟩
  | x :: r, q => by
    obtain ⟨h1, h2⟩ := gW r (max q x.seq)
    have e : dS q (x :: r) = dS (max q x.seq) r := rfl
    rw [e]
    refine ⟨og, fun y hy => ?_⟩
    rcases A7.1 hy with rfl | hy
    . omega
    exact h2 y hy
def tQ : ∀ (L : List Entry) (q : Int), dS q L = q ∨ ∃ e ∈ L, dS q L = e.seq
  | [], q => .inl rfl
  | x :: r, q => by
    have e : dS q (x :: r) = dS (max q x.seq) r := rfl
    rw [e]
    rcases tQ r (max q x.seq) with h | ⟨y, hy, h⟩
    . rw [h]
      by_cases h1 : q <= x.seq
      . exact .inr ⟨x, A2, og⟩
      exact .inl og
    exact .inr ⟨y, A5 _ hy, h⟩
def uI (q : Int) (L : List Entry) : dS q (L.filter (ovr q)) = dS q L := by
  have h1 := gW (L.filter (ovr q)) q
  have h2 := gW L q
  have a1 := tQ (L.filter (ovr q)) q
  have a2 := tQ L q
  have le : dS q (L.filter (ovr q)) <= dS q L := by
    rcases a1 with h | ⟨e, he, h⟩
    . omega
    rw [h]; exact h2.2 e ((List.mem_filter.1 he).1)
  have ge : dS q L <= dS q (L.filter (ovr q)) := by
    rcases a2 with h | ⟨e, he, h⟩
    . omega
    by_cases ho : q < e.seq
    . rw [h]; exact h1.2 e (List.mem_filter.2 ⟨he, by simp [ovr, ho]⟩)
    omega
  omega
def sZ (bs : List (List Entry)) (q : Int) : nT bs q = (bU (bs.flatten.filter (ovr q)), dS q bs.flatten) := by
  have row : ∀ (b : List Entry) (st : List Entry × Int), q <= st.2 -> iU q st b = (st.1 ++ b.filter (ovr q), dS st.2 b) := by
    intro b
    induction b with
    | nil => intro st h; simp [iU, dS]
    | cons x r ih =>
      intro st h
      have e : iU q st (x :: r) = iU q (jR q st x) r := rfl
      have e2 : dS st.2 (x :: r) = dS (max st.2 x.seq) r := rfl
      rw [e, e2]; unfold jR
      by_cases hx : q < x.seq
      . rw [if_pos hx, ih _ (by simp only; omega)]
        simp [ovr, hx]
      rw [if_neg hx, ih _ h, show max st.2 x.seq = st.2 by omega]
      simp [ovr, hx]
  have all : ∀ (bs : List (List Entry)) (st : List Entry × Int), q <= st.2 -> bs.foldl (iU q) st = (st.1 ++ bs.flatten.filter (ovr q), dS st.2 bs.flatten) := by
    intro bs
    induction bs with
    | nil => intro st h; simp [dS]
    | cons b r ih =>
      intro st h; rw [List.foldl_cons, row b st h, ih _ (by have := (gW b st.2).1; simp only; omega)]
      simp [dS, List.foldl_append]
  rw [bBh]; unfold gY
  rw [all bs ([], q) (Int.le_refl _)]
  simp
def aZq {b : List Entry} (h : isB b = true) : ∀ i, (hi : i + 1 < b.length) -> b[i + 1].seq = b[i].seq + 1 := by
  have hok := (bS h).1
  intro i hi; unfold isB at h
  simp only [B7] at h
  have := gU.1 h.1 (i + 1) hi
  unfold jA at this; rw [A1 hi] at this
  have hp : cB b (i + 1) = b[i] := by unfold cB; rw [show i + 1 - 1 = i by omega, A1 og]; rfl
  rw [hp] at this
  have hr := tY (hok b[i] (C8 og))
  have hw : IntKind.i64.wrap (b[i].seq + 1) = b[i].seq + 1 := by
    have := hr.1.2.1
    have := hr.1.2.2.1
    rw [w64]; omega
  rw [hw] at this
  simp only [Bool.not_eq_true', Bool.or_eq_false_iff, Bool.and_eq_false_imp, decide_eq_true_eq, Bool.not_eq_false', decide_eq_true_eq] at this
  exact this.2 og
def bFc {b : List Entry} (h : isB b = true) : ∀ i, (hi : i < b.length) -> b[i].seq = (bW b).seq - ((b.length - 1 - i : Nat) : Int) := by
  have hl := (bS h).2.1
  have aux : ∀ d i, (hi : i < b.length) -> i + d = b.length - 1 -> b[i].seq = (bW b).seq - (d : Int) := by
    intro d
    induction d with
    | zero =>
      intro i hi e
      have : bW b = b[i] := by unfold bW; rw [<- e, Nat.add_zero, A1 hi]; rfl
      rw [this]; simp
    | succ d ih =>
      intro i hi e
      have h1 := ih (i + 1) og og
      have h2 := aZq h i og
      omega
  exact fun i hi => aux _ i hi og
def aZa {b : List Entry} (h : isB b = true) : ∀ e ∈ b, e.seq <= (bW b).seq := fun e he => by
  obtain ⟨i, hi, hx⟩ := lD he
  rw [A1 hi] at hx; cases hx
  have := bFc h i hi
  omega
def aZo {b : List Entry} (h : isB b = true) : bW b ∈ b := by
  have hl := (bS h).2.1
  unfold bW; rw [A1 og]
  exact C8 _
def liv (q : Int) (b : List Entry) : Bool := decide (q < (bW b).seq)
def bCa (q : Int) : ∀ (bs : List (List Entry)) (out : ByteArray), bL (bs.foldl (cG q) out) = bL out ++ frL (bs.filter (liv q))
  | [], out => by simp [frL]
  | b :: r, out => by
    rw [List.foldl_cons, bCa q r]; unfold cG
    by_cases h : q < (bW b).seq
    . rw [if_pos h, List.filter_cons_of_pos (by simp [liv, h]), xQ, qR, F5]
    rw [if_neg h, List.filter_cons_of_neg (by simp [liv, h])]
def aXl (bs : List (List Entry)) (q : Int) : bL (mN bs q) = frL (bs.filter (liv q)) := by
  have := bCa q bs ⟨#[]⟩
  unfold mN; rw [this]; rfl
def aCs {q : Int} : ∀ {bs : List (List Entry)}, (∀ b ∈ bs, isB b = true) -> (bs.filter (liv q)).flatten.filter (ovr q) = bs.flatten.filter (ovr q)
  | [], _ => rfl
  | b :: r, h => by
    have ih := aCs (q := q) fun x hx => h x (A5 _ hx)
    by_cases hl : q < (bW b).seq
    . rw [List.filter_cons_of_pos (by simp [liv, hl]), List.flatten_cons, List.flatten_cons, List.filter_append, List.filter_append, ih]
    rw [List.filter_cons_of_neg (by simp [liv, hl]), List.flatten_cons, List.filter_append, ih]
    have : b.filter (ovr q) = [] := List.filter_eq_nil_iff.2 fun e he => by
      have := aZa (h b A2) e he
      simp [ovr]; omega
    rw [this]; rfl
def bGz {bs : List (List Entry)} (q : Int) (h : ∀ b ∈ bs, isB b = true) : nT (bs.filter (liv q)) q = nT bs q := by
  rw [sZ, sZ, aCs h, <- uI, aCs h, uI]
section
variable {s : Store} {q q' d : Int} {a b c rs : List Run}
structure UpOk (s : Store) (a b c : List Run) (bs : List (List Entry)) : Prop where
  lg : s.disk.log.size <= 12000
  f0 : 0 <= s.disk.safe
  f1 : s.disk.safe <= (s.disk.log.size : Int)
  tl : s.tree.levels = [a, b, c]
  dl : s.disk.levels = [a, b, c]
  rt : RT s.tree.seq s.tree.mem a b c s.tree.snaps
  rd : RT s.disk.seq [] a b c []
  le : s.disk.seq <= s.tree.seq
  ok : ∀ b ∈ bs, isB b = true
  tx : bL s.disk.log = frL bs
  mm : s.tree.mem = bU (bs.flatten.filter (ovr s.disk.seq))
  sq : s.tree.seq = dS s.disk.seq bs.flatten
structure DnOk (s : Store) (a b c : List Run) (bs : List (List Entry)) : Prop where
  lg : s.disk.log.size <= 12000
  f0 : 0 <= s.disk.safe
  f1 : s.disk.safe <= (s.disk.log.size : Int)
  tz : s.tree = hP
  dl : s.disk.levels = [a, b, c]
  rd : RT s.disk.seq [] a b c []
  bq : bs = (bO s.disk.log).1
  rt : RT (dS s.disk.seq bs.flatten) (bU (bs.flatten.filter (ovr s.disk.seq))) a b c []
def bBr : aF s = true ↔ (s.disk.log.size <= 12000 /\ 0 <= s.disk.safe /\ s.disk.safe <= (s.disk.log.size : Int)) /\ (∃ a b c, s.disk.levels = [a, b, c] /\ RT s.disk.seq [] a b c []) /\ (if s.up = true then upS s else eY s.tree hP && upS (dX s)) = true := by
  unfold aF nL
  constructor
  . intro h; split at h
    . cases h
    rename_i h1
    simp only [D4, decide_eq_true_eq, not_or] at h1
    split at h
    . cases h
    rename_i h2
    exact ⟨og, (sM _).1 (by simpa using h2), h⟩
  rintro ⟨h1, h2, h3⟩
  rw [if_neg (by simp only [D4, decide_eq_true_eq, not_or]; omega), if_neg (by rw [(sM _).2 h2]; decide)]
  exact h3
def bBt (s : Store) : upS s = true ↔ dE s.tree = true /\ s.disk.levels = s.tree.levels /\ 0 <= s.disk.seq /\ s.disk.seq <= s.tree.seq /\ (bO s.disk.log).2 = (s.disk.log.size : Int) /\ (nT (bO s.disk.log).1 s.disk.seq) = (s.tree.mem, s.tree.seq) := by
  unfold upS aQf
  constructor
  . intro h; split at h
    . cases h
    rename_i h1
    simp only [D4, decide_eq_true_eq, not_or, Bool.not_eq_true', decide_eq_false_iff_not, Bool.not_eq_false, Decidable.not_not] at h1
    simp only [B7, decide_eq_true_eq] at h
    exact ⟨h1.1.1.1, h1.1.1.2, og, og, h.1.1, Prod.ext h.1.2 h.2⟩
  rintro ⟨h1, h2, h3, h4, h5, h6⟩
  rw [if_neg (by rw [h1, h2]; simp; omega), h6, h5]
  simp
def mB (hu : s.up = true) : aF s = true ↔ ∃ a b c bs, UpOk s a b c bs := by
  rw [bBr, if_pos hu, bBt, sM]
  constructor
  . rintro ⟨h1, ⟨a, b, c, h2, h3⟩, ⟨a', b', c', h4, h5⟩, h6, h7, h8, h9, h10⟩
    rw [h6, h4] at h2; cases h2
    have hb := (uO (s := s.disk.log) og).1
    rw [sZ] at h10
    exact ⟨a, b, c, (bO s.disk.log).1, h1.1, h1.2.1, h1.2.2, h4, by rw [h6, h4], h5, h3, h8, hb, bMl og h9, (congrArg Prod.fst h10).symm, (congrArg Prod.snd h10).symm⟩
  rintro ⟨a, b, c, bs, h⟩
  have h1 := h.lg
  have hr := aNs (s := s.disk.log) og h.ok h.tx
  refine ⟨⟨h.lg, h.f0, h.f1⟩, ⟨a, b, c, h.dl, h.rd⟩, ⟨a, b, c, h.tl, h.rt⟩, h.dl.trans h.tl.symm, h.rd.q0, h.le, by rw [hr], ?_⟩
  rw [hr, sZ, h.mm, h.sq]
def bFv {s : ByteArray} (hs : s.size <= 12000) {bs : List (List Entry)} (q : Int) (hb : ∀ b ∈ bs, isB b = true) (hl : (mN bs q).size <= 12000) : bO (mN bs q) = (bs.filter (liv q), ((mN bs q).size : Int)) :=
  aNs og (fun b h => hb b (List.mem_filter.1 h).1) (aXl bs q)
def aKg (hu : s.up = false) : aF s = true ↔ ∃ a b c bs, DnOk s a b c bs := by
  rw [bBr, if_neg (by rw [hu]; decide), B7, bBt, sM]
  have hlv : (dX s).disk.levels = (dX s).tree.levels := rfl
  have hdq : (dX s).disk.seq = s.disk.seq := rfl
  have htl : (dX s).tree.levels = s.disk.levels := rfl
  have htq : (dX s).tree.seq = (nT (bO s.disk.log).1 s.disk.seq).2 := rfl
  have htm : (dX s).tree.mem = (nT (bO s.disk.log).1 s.disk.seq).1 := rfl
  have hts : (dX s).tree.snaps = [] := rfl
  rw [htl, htq, htm, hts, sZ]
  constructor
  . rintro ⟨h1, ⟨a, b, c, h2, h3⟩, h4, ⟨a', b', c', h5, h6⟩, -⟩
    rw [h2] at h5; cases h5
    exact ⟨a, b, c, _, h1.1, h1.2.1, h1.2.2, aVk h4, h2, h3, rfl, h6⟩
  rintro ⟨a, b, c, bs, h⟩
  have hq := h.bq
  subst hq
  have h1 := h.lg
  have hb := (uO (s := s.disk.log) og).1
  have hll : (dX s).disk.log = mN (bO s.disk.log).1 s.disk.seq := rfl
  have hlr := bFv h.lg s.disk.seq hb (aDr s h.lg)
  refine ⟨⟨h.lg, h.f0, h.f1⟩, ⟨a, b, c, h.dl, h.rd⟩, by rw [h.tz]; rfl, ⟨a, b, c, h.dl, h.rt⟩, rfl, h.rd.q0, ?_, by rw [hll, hlr], ?_⟩
  . have := (gW (bO s.disk.log).1.flatten s.disk.seq).1
    rw [hdq]; exact this
  rw [hll, hlr, hdq]
  simp only
  rw [bGz _ hb, sZ]
def aRm (q : Int) : eO [] q = true := rfl
def bIm {sn : List Int} (h : eO sn q = true) (hq : q <= q') : eO sn q' = true := by
  unfold eO at h ⊢
  simp only [B7] at h ⊢
  refine ⟨gU.2 fun i hi => ?_, h.2⟩
  have := gU.1 h.1 i hi
  unfold pJ at this ⊢
  cases hx : sn[i]? with
  | none => rfl
  | some x =>
    rw [hx] at this
    simp at this ⊢
    exact ⟨og, this.2⟩
def aSr (h : aIh q rs) (hq : q <= q') : aIh q' rs := fun r hr => ⟨(h r hr).1, fun e he => Int.le_trans ((h r hr).2 e he) hq⟩
def yU (h : aIh q rs) : ∀ e ∈ aH rs, e.seq <= q := fun e he => by
  obtain ⟨r, hr, he⟩ := aQ.1 he
  exact (h r hr).2 e he
def RT.move {m m' : List Entry} {sn sn' : List Int} (h : RT q m a b c sn) (h0 : RT d [] a b c []) (hd : d <= q') (hq : q' <= 100000) (hm : cD m' = true) (hl : m'.length <= 60) (hw : ∀ e ∈ m', e.seq <= q')
    (hn : ∀ e ∈ m', e ∈ m ∨ d < e.seq) (hs : eO sn' q' = true) : RT q' m' a b c sn' :=
  ⟨by have := h0.q0; omega, hq, hl, hm, hw, hs, h.la, h.lb, h.lc, aSr h0.ra hd, aSr h0.rb hd, aSr h0.rc hd, h.vb, h.vc, fun e he f hf hk => by
    rcases hn e he with h1 | h1
    . exact h.nm e h1 f hf hk
    have : f.seq <= d := by
      rcases A6.1 hf with hf | hf
      . exact yU h0.ra f hf
      rcases A6.1 hf with hf | hf
      . exact yU h0.rb f hf
      exact yU h0.rc f hf
    omega, h.na, h.nab, h.nbc⟩
def bFh (q : Int) (x y : List Entry) : dS q (x ++ y) = dS (dS q x) y := List.foldl_append
def RT.few {sn : List Int} {bs : List (List Entry)} {ws : List (List Entry)} (h : RT (dS d bs.flatten) (bU (bs.flatten.filter (ovr d))) a b c sn) (h0 : RT d [] a b c []) (hb : ∀ b ∈ bs, isB b = true) (hw : ws.flatten.Sublist bs.flatten) :
    RT (dS d ws.flatten) (bU (ws.flatten.filter (ovr d))) a b c [] := by
  have hs : (ws.flatten.filter (ovr d)).Sublist (bs.flatten.filter (ovr d)) := hw.filter _
  have hd : (bs.flatten.filter (ovr d)).Pairwise fun x y => x.key = y.key -> x.seq ≠ y.seq := (iG _).pairwise (aVh h.mo) (fun {x y} g e => fun e2 => g e.symm e2.symm)
  have hok : ∀ e ∈ bs.flatten, bK e = true := fun e he => by
    obtain ⟨b, hb1, he⟩ := List.mem_flatten.1 he
    exact (bS (hb b hb1)).1 e he
  have ht : dS d ws.flatten <= dS d bs.flatten := by
    rcases tQ ws.flatten d with h1 | ⟨e, he, h1⟩
    . rw [h1]; exact (gW _ _).1
    rw [h1]; exact (gW _ _).2 e (hw.subset he)
  refine h.move h0 (gW _ _).1 (by have := h.q1; omega) (aWe (fun e he => hok e ((List.mem_filter.1 (hs.subset he)).1)) (hd.sublist hs)) ?_ (fun e he => (gW _ _).2 e (List.mem_filter.1 (aDf.1 he)).1) (fun e he => .inr (by simpa [ovr] using (List.mem_filter.1 (aDf.1 he)).2)) rfl
  have h1 := h.ml
  rw [tX] at h1 ⊢
  have := hs.length_le
  omega
def bBq {bs : List (List Entry)} (h : UpOk s a b c bs) (k : Int) : aF (iJ s k) = true /\ (bO (iJ s k).disk.log).1 = jL bs (cX s k).toNat := by
  have h1 := h.lg
  have h2 := h.f0
  have h3 := h.f1
  have hn : 0 <= cX s k /\ cX s k <= (s.disk.log.size : Int) := by unfold cX; omega
  have hlog : (iJ s k).disk.log = s.disk.log.extract 0 (cX s k).toNat := rfl
  have hsz : (iJ s k).disk.log.size = (cX s k).toNat := by rw [hlog, iI _ _ _ og]; omega
  have hrd : bO (iJ s k).disk.log = (jL bs (cX s k).toNat, _) := aKr og h.ok (by rw [hlog, aBi, List.drop_zero, h.tx]; rfl)
  refine ⟨(aKg rfl).2 ⟨a, b, c, jL bs (cX s k).toNat, ?_⟩, by rw [hrd]⟩
  obtain ⟨r, hr⟩ := zK bs (cX s k).toNat
  refine ⟨og, hn.1, by rw [hsz]; show cX s k <= _; omega, rfl, h.dl, h.rd, by rw [hrd], ?_⟩
  have hrt := h.rt
  rw [h.mm, h.sq] at hrt
  refine RT.few hrt h.rd h.ok ?_
  have := congrArg List.flatten hr
  rw [List.flatten_append] at this; rw [this]
  exact List.sublist_append_left _ _
def bLd {bs : List (List Entry)} (h : DnOk s a b c bs) : UpOk (dX s) a b c (bs.filter (liv s.disk.seq)) := by
  have hq := h.bq
  have h1 := h.lg
  have hb := (uO (s := s.disk.log) og).1
  have hl := aDr s h.lg
  subst hq
  have hrt := h.rt
  have hlr := aCs (q := s.disk.seq) hb
  have h7 : (dX s).disk.safe = ((dX s).disk.log.size : Int) := rfl
  have h8 : (dX s).tree.mem = (nT (bO s.disk.log).1 s.disk.seq).1 := rfl
  have h9 : (dX s).tree.seq = (nT (bO s.disk.log).1 s.disk.seq).2 := rfl
  rw [sZ] at h8 h9
  refine ⟨hl, by rw [h7]; omega, by rw [h7]; exact Int.le_refl _, h.dl, h.dl, by rw [h8, h9]; exact hrt, h.rd, by rw [h9]; exact (gW _ _).1, fun b hb' => hb b (List.mem_filter.1 hb').1, aXl _ _, ?_, ?_⟩
  . rw [h8]; show _ = bU (List.filter (ovr s.disk.seq) _); rw [hlr]
  rw [h9]; show _ = dS s.disk.seq _; rw [<- uI, <- hlr, uI]
def bLz {bs : List (List Entry)} (h : UpOk s a b c bs) : UpOk { s with disk := { s.disk with safe := (s.disk.log.size : Int) } } a b c bs :=
  ⟨h.lg, Int.natCast_nonneg _, Int.le_refl _, h.tl, h.dl, h.rt, h.rd, h.le, h.ok, h.tx, h.mm, h.sq⟩
def aNj {b : List Entry} (h : (aM b q).2 = true) : (aM b q).1.length = b.length /\ 1 <= b.length /\ b.length <= 12 /\ (∀ e ∈ (aM b q).1, bK e = true) /\ ∀ (k : Nat) (d : Entry), (aM b q).1[k]? = some d -> d.seq = q + 1 + k := by
  have hs : (aM b q).2 = ((uG q b 0 []).2 && (decide (1 <= (b.length : Int)) && decide ((b.length : Int) <= 12))) := rfl
  rw [hs] at h
  simp only [B7, decide_eq_true_eq] at h
  have hl : ∀ (r : List Entry) (i : Nat) (out : List Entry), (uG q r i out).2 = true -> (uG q r i out).1.length = out.length + r.length := by
    intro r
    induction r with
    | nil => intro i out _; simp [uG]
    | cons e r ih =>
      intro i out hg
      unfold uG at hg ⊢
      split at hg
      . split at hg
        . rename_i h1 h2
          rw [if_pos h1, if_pos h2, ih _ _ hg]; simp; omega
        cases hg
      cases hg
  have := hl b 0 [] h.1
  rw [List.length_nil, C3] at this
  exact ⟨this, og, og, aSh q b 0 [] (fun e he => by cases he), aWh q b 0 [] rfl (fun k d hk => by cases hk)⟩
def aVg {b : List Entry} (h : (aM b q).2 = true) : isB (aM b q).1 = true := by
  obtain ⟨h1, h2, h3, h4, h5⟩ := aNj h
  unfold isB; simp only [B7, decide_eq_true_eq]
  refine ⟨gU.2 fun i hi => ?_, og, og⟩
  unfold jA; rw [A1 hi]
  have g1 := h4 _ (C8 hi)
  have g2 := h5 i _ (A1 hi)
  simp only [g1, Bool.not_true, Bool.false_or, Bool.not_eq_true', Bool.and_eq_false_imp, decide_eq_true_eq, Bool.not_eq_false']; intro h0
  have hp : cB (aM b q).1 i = (aM b q).1[i - 1] := by unfold cB; rw [A1 og]; rfl
  have g3 := h5 (i - 1) _ (A1 (show i - 1 < (aM b q).1.length by omega))
  have g4 := (tY (h4 _ (C8 (show i - 1 < (aM b q).1.length by omega)))).1
  rw [hp, g2, g3, IntKind.wrap_i64]; omega
def bEw {b : List Entry} (h : (aM b q).2 = true) : (∀ e ∈ (aM b q).1, q < e.seq /\ e.seq <= q + b.length) /\ ((aM b q).1.Pairwise fun x y => x.key = y.key -> x.seq ≠ y.seq) /\ dS q (aM b q).1 = q + b.length := by
  obtain ⟨h1, h2, h3, h4, h5⟩ := aNj h
  have g : ∀ e ∈ (aM b q).1, q < e.seq /\ e.seq <= q + b.length := fun e he => by
    obtain ⟨i, hi, hx⟩ := lD he
    have := h5 i e hx
    omega
  refine ⟨g, F9.2 fun i j hi hj hij _ e => ?_, ?_⟩
  . have a1 := h5 i _ (A1 hi)
    have a2 := h5 j _ (A1 hj)
    omega
  have hlast := h5 (b.length - 1) _ (A1 (show b.length - 1 < (aM b q).1.length by omega))
  have a1 := (gW (aM b q).1 q).2 _ (C8 (show b.length - 1 < (aM b q).1.length by omega))
  rcases tQ (aM b q).1 q with h | ⟨e, he, h⟩
  . omega
  have := g e he; omega
def bJu {bs : List (List Entry)} {x : List Entry} (h : UpOk s a b c bs) (hw : (eN s x).2 = true) : UpOk (eN s x).1 a b c (bs ++ [(aM x s.tree.seq).1]) /\ (eN s x).1.up = s.up /\ (aM x s.tree.seq).2 = true := by
  unfold eN at hw ⊢
  split at hw
  . cases hw
  rename_i hb
  rw [if_neg hb]
  simp only [uR, D4, Bool.not_eq_true', decide_eq_true_eq, not_or, Bool.not_eq_false] at hb
  obtain ⟨⟨-, h1⟩, h2⟩ := hb
  unfold hJ at h1; split at h1
  . cases h1
  rename_i hb2
  have hwr : (hJ s.tree x).1 = { s.tree with mem := (aM x s.tree.seq).1.foldl cC s.tree.mem, seq := s.tree.seq + ((aM x s.tree.seq).1.length : Int) } := by unfold hJ; rw [if_neg hb2]
  simp only [aDz, D4, Bool.not_eq_true', decide_eq_true_eq, not_or, Bool.not_eq_false] at hb2
  obtain ⟨k1, k2⟩ := hb2
  have hbt := aVg k1
  obtain ⟨e1, e2, e3, e4, e5⟩ := aNj k1
  obtain ⟨m1, m2, m3⟩ := bEw k1
  rw [e1] at k2 hwr
  have hF : ((bs ++ [(aM x s.tree.seq).1]).flatten.filter (ovr s.disk.seq)) = bs.flatten.filter (ovr s.disk.seq) ++ (aM x s.tree.seq).1 := by
    rw [List.flatten_append, List.filter_append]
    congr 1
    rw [List.flatten_cons, List.flatten_nil, List.append_nil, List.filter_eq_self]; intro e he
    have := (m1 e he).1
    have := h.le
    simp [ovr]; omega
  have hmem : (hJ s.tree x).1.mem = bU (s.tree.mem ++ (aM x s.tree.seq).1) := by rw [hwr]; exact aWb h.rt.mo _
  have hq : (hJ s.tree x).1.seq = s.tree.seq + x.length := by rw [hwr]
  have hlast : s.tree.seq + x.length <= 100000 := by
    have a1 := e5 (x.length - 1) _ (A1 (show x.length - 1 < (aM x s.tree.seq).1.length by omega))
    have a2 := (tY (e4 _ (C8 (show x.length - 1 < (aM x s.tree.seq).1.length by omega)))).1
    omega
  have hd : (s.tree.mem ++ (aM x s.tree.seq).1).Pairwise fun x y => x.key = y.key -> x.seq ≠ y.seq := by
    refine List.pairwise_append.2 ⟨aVh h.rt.mo, m2, fun y hy z hz _ e => ?_⟩
    have := h.rt.mw y hy
    have := (m1 z hz).1
    omega
  refine ⟨⟨by simp only; omega, h.f0, ?_, by rw [hwr]; exact h.tl, h.dl, ?_, h.rd, ?_, fun y hy => ?_, ?_, ?_, ?_⟩, rfl, k1⟩
  . have := h.f1
    show s.disk.safe <= ((s.disk.log ++ fTx (aM x s.tree.seq).1).size : Int)
    rw [B8]; omega
  . show RT (hJ s.tree x).1.seq (hJ s.tree x).1.mem a b c (hJ s.tree x).1.snaps
    have hsn : (hJ s.tree x).1.snaps = s.tree.snaps := by rw [hwr]
    rw [hq, hmem, hsn]
    refine h.rt.move (RT.move h.rt h.rd (d := s.disk.seq) (q' := s.tree.seq) (m' := []) h.le h.rt.q1 rfl oS oS oS (aRm _)) og hlast (aWe (fun e he => ?_) hd) ?_ (fun e he => ?_) (fun e he => ?_) (bIm h.rt.hs og)
    . rcases A6.1 he with he | he
      . exact lW h.rt.mo he
      exact e4 e he
    . rw [tX, A4, e1]; omega
    . rcases A6.1 (aDf.1 he) with he | he
      . have := h.rt.mw e he; omega
      exact (m1 e he).2
    rcases A6.1 (aDf.1 he) with he | he
    . exact .inl he
    exact .inr (m1 e he).1
  . show s.disk.seq <= (hJ s.tree x).1.seq
    have := h.le
    rw [hq]; omega
  . rcases A6.1 hy with hy | hy
    . exact h.ok y hy
    rw [B4.1 hy]; exact hbt
  . show bL (s.disk.log ++ _) = _
    rw [qR, h.tx, bCw]
    simp [frL]
  . show (hJ s.tree x).1.mem = bU (List.filter (ovr s.disk.seq) _)
    rw [hF, hmem, h.mm]
    have := aWb (show cD (bU (bs.flatten.filter (ovr s.disk.seq))) = true by rw [<- h.mm]; exact h.rt.mo) (aM x s.tree.seq).1
    rw [<- this]; unfold bU; rw [List.foldl_append]
  show (hJ s.tree x).1.seq = dS s.disk.seq _
  rw [hq, List.flatten_append, bFh, <- h.sq]
  simp [m3]
end
section
variable {s : Store} {b a c : List Run} {q level pick : Int} {m X : List Entry} {bot : Bool}
def aHi (ls : List Entry) : ∀ f e, ls.length - e <= f -> aAn ls (dZ ls f e) = false
  | 0, e, h => by
    unfold dZ aAn
    rw [decide_eq_false og]; rfl
  | f + 1, e, h => by
    unfold dZ
    cases hc : aAn ls e with
    | false => rw [if_neg dg]; exact hc
    | true => rw [if_pos rfl]; exact aHi ls f (e + 1) og
def bOx {x y : Entry} (h : entLt x y = true) (hk : x.key ≠ y.key) : Op.bytesLess x.key.toList y.key.toList = true := by
  unfold entLt at h; rw [aBp, decide_eq_false hk] at h
  simpa using h
def aXi : ∀ f (ls : List Entry), ls.length <= f -> cD ls = true -> (wG f ls).Pairwise fun p q => ∀ x ∈ p, ∀ y ∈ q, Op.bytesLess x.key.toList y.key.toList = true
  | 0, ls, h, _ => List.Pairwise.nil
  | f + 1, ls, h, ho => by
    unfold wG; split
    . exact List.Pairwise.nil
    rename_i hne
    have hb := aFx hne
    have hrest := zM f (ls.drop (eM ls)) (by rw [B1]; omega)
    refine List.pairwise_cons.2 ⟨fun p hp x hx y hy => ?_, aXi f _ (by rw [B1]; omega) (aPh ho (List.drop_sublist _ _))⟩
    have hy : y ∈ ls.drop (eM ls) := by rw [<- hrest.1]; exact List.mem_flatten.2 ⟨p, hp, hy⟩
    obtain ⟨i, hi, gi⟩ := List.mem_iff_getElem.1 hx
    obtain ⟨j, hj, gj⟩ := List.mem_iff_getElem.1 hy
    rw [B3] at hi; rw [B1] at hj; rw [List.getElem_take] at gi; rw [List.getElem_drop] at gj
    have hs := aHi ls ls.length 1 og
    have hs : aAn ls (eM ls) = false := hs
    have hlt : eM ls < ls.length := by omega
    unfold aAn at hs; rw [decide_eq_true og, Bool.true_and, Bool.or_eq_false_iff, decide_eq_false_iff_not, decide_eq_false_iff_not] at hs
    have e1 : qD ls (eM ls) = ls[eM ls] := by unfold qD; rw [A1 hlt]; rfl
    have e2 : cB ls (eM ls) = ls[eM ls - 1] := by unfold cB; rw [A1 og]; rfl
    rw [e1, e2] at hs
    have hpw := F9.1 (qP ho)
    have hm := bOx (hpw (eM ls - 1) (eM ls) og hlt og) (fun e => hs.2 e.symm)
    have hx2 : Op.bytesLess ls[eM ls - 1].key.toList x.key.toList = false := by
      rcases Nat.lt_or_ge i (eM ls - 1) with h3 | h3
      . rw [<- gi]; exact aIz (hpw i (eM ls - 1) og og h3)
      have : i = eM ls - 1 := by omega
      subst this
      rw [<- gi]; exact bR _
    have hy2 : Op.bytesLess y.key.toList ls[eM ls].key.toList = false := by
      rcases Nat.eq_zero_or_pos j with h3 | h3
      . subst h3; rw [<- gj]; exact bR _
      rw [<- gj]; exact aIz (hpw (eM ls) (eM ls + j) og og og)
    exact lP (rO hx2 hm) hy2
def sC {X X' Y Y' : List Entry} (h : iW X Y) (hx : ∀ e ∈ X', ∃ g ∈ X, kp e = kp g) (hy : ∀ e ∈ Y', ∃ g ∈ Y, kp e = kp g) : iW X' Y' := fun e he f hf hk => by
  obtain ⟨g, hg, eg⟩ := hx e he
  obtain ⟨k, hk2, ek⟩ := hy f hf
  have b1 : e.key = g.key := congrArg Prod.fst eg
  have b2 : f.key = k.key := congrArg Prod.fst ek
  have := h g hg k hk2 (by rw [<- b1, <- b2]; exact hk)
  have a1 : e.seq = g.seq := congrArg Prod.snd eg
  have a2 : f.seq = k.seq := congrArg Prod.snd ek
  omega
def aWj (x y : List Run) : aH (x ++ y) = aH x ++ aH y := by unfold aH; rw [List.flatMap_append]
def aJx {r : Run} (h : r.ents ≠ []) : ∃ e ∈ r.ents, aL r = e.key := by
  have := E8.2 h
  unfold aL; rw [A1 og]
  exact ⟨_, C8 og, rfl⟩
def aQe {taken beneath : List Run} {ts : List Int} (ht : taken ≠ []) (hr : aIh q taken) (hb : aIh q beneath) (hv : Lvl beneath) (ha : aDg ((taken ++ beneath).map Run.ents)) (hf : nU (lS taken beneath ts bot) = true) :
    (lS taken beneath ts bot).length <= 8 /\ aIh q (lS taken beneath ts bot) /\ Lvl (lS taken beneath ts bot) /\ ∀ e ∈ aH (lS taken beneath ts bot), ∃ g ∈ aH taken ++ aH beneath, kp e = kp g := by
  obtain ⟨f, t, ft, tl, -, -, hN, ho, hk, hsep⟩ := bHe (ts := ts) (bot := bot) ht (fun r h => (hr r h).1) hv ha
  generalize cK (aFi taken beneath) ts bot = L at hN ho hk hsep
  have hfit := hf
  rw [hN] at hf; unfold nU at hf
  simp only [B7, decide_eq_true_eq, C7, Bool.not_eq_true', decide_eq_false_iff_not] at hf
  obtain ⟨c1, c2⟩ := zM L.length L (A0 _)
  have hcut : ∀ r ∈ wA L, r.ents ≠ [] /\ (∀ e ∈ r.ents, e ∈ L) /\ cD r.ents = true /\ r.mask = bV r.ents := fun r h => by
    rw [aEf] at h
    obtain ⟨p, hp, rfl⟩ := A9.1 h
    have hsub : p.Sublist L := by rw [<- c1]; exact H8 hp
    exact ⟨c2 p hp, fun e he => hsub.subset he, aPh ho hsub, rfl⟩
  have hcr : ∀ r ∈ wA L, cH r = true := fun r h => by
    obtain ⟨h1, h2, h3, h4⟩ := hcut r h
    have h5 := E8.2 h1
    have h6 := hf.1 r (List.mem_append_left _ (List.mem_append_right _ h))
    unfold cH; simp only [B7, decide_eq_true_eq]
    exact ⟨⟨⟨og, og⟩, h3⟩, h4⟩
  have hkp : ∀ e ∈ aH (lS taken beneath ts bot), ∃ g ∈ aH taken ++ aH beneath, kp e = kp g := fun e he => by
    obtain ⟨r, hr2, he⟩ := aQ.1 he
    rw [hN] at hr2
    rcases A6.1 hr2 with h | h
    . rcases A6.1 h with h | h
      . exact ⟨e, List.mem_append_right _ (aQ.2 ⟨r, C9 h, he⟩), rfl⟩
      exact hk e ((hcut r h).2.1 e he)
    exact ⟨e, List.mem_append_right _ (aQ.2 ⟨r, D0 h, he⟩), rfl⟩
  have hok : ∀ r ∈ lS taken beneath ts bot, cH r = true := fun r h => by
    rw [hN] at h
    rcases A6.1 h with h | h
    . rcases A6.1 h with h | h
      . exact (hb r (C9 h)).1
      exact hcr r h
    exact (hb r (D0 h)).1
  refine ⟨by rw [hN]; omega, fun r h => ⟨hok r h, fun e he => ?_⟩, ⟨hok, ?_⟩, hkp⟩
  . obtain ⟨g, hg, eg⟩ := hkp e (aQ.2 ⟨r, h, he⟩)
    have a1 : e.seq = g.seq := congrArg Prod.snd eg
    rw [a1]
    rcases A6.1 hg with hg | hg
    . exact yU hr g hg
    exact yU hb g hg
  have hpw := F9.1 hv.2
  rw [hN]
  refine List.pairwise_append.2 ⟨List.pairwise_append.2 ⟨hv.2.sublist (List.take_sublist _ _), ?_, fun x hx y hy => ?_⟩, hv.2.sublist (List.drop_sublist _ _), fun x hx y hy => ?_⟩
  . rw [aEf, List.pairwise_map]
    refine List.Pairwise.imp_of_mem (fun {p r} hp hr g => ?_) (aXi L.length L (A0 _) ho)
    obtain ⟨e, he, ek⟩ := aJx (r := ⟨p, bV p⟩) (c2 p hp)
    obtain ⟨y, ys, rfl⟩ := H3 (c2 r hr)
    rw [ek]
    exact g e he y A2
  . obtain ⟨e, he, ek⟩ := (bCd ho).1 y hy
    rw [ek]
    exact (hsep e he).1 x hx
  rcases A6.1 hx with hx | hx
  . obtain ⟨i, hi, gi⟩ := List.mem_iff_getElem.1 hx
    obtain ⟨j, hj, gj⟩ := List.mem_iff_getElem.1 hy
    rw [B3] at hi; rw [B1] at hj; rw [List.getElem_take] at gi; rw [List.getElem_drop] at gj; rw [<- gi, <- gj]
    exact hpw i (t + j) og og og
  obtain ⟨e, he, ek⟩ := aJx (hcut x hx).1
  rw [ek]
  exact (hsep e ((hcut x hx).2.1 e he)).2 y hy
def RT.alone {sn : List Int} (h : RT q m a b c sn) : aDg (c.map Run.ents ++ (b.map Run.ents ++ a.map Run.ents)) := by
  have hb := zA ((aIk h.vb.1).1 h.vb) h.vb.1
  have hc := zA ((aIk h.vc.1).1 h.vc) h.vc.1
  have g : ∀ r : Run, cH r = true -> cD r.ents = true := fun r hr => by simp only [cH, B7] at hr; exact hr.1.2
  have nab := cE.1 h.nab
  refine bIq (fun l hl => ?_) (List.pairwise_append.2 ⟨hc, List.pairwise_append.2 ⟨hb, List.pairwise_map.2 (h.na.imp fun {x y} k => (dI _ _).2 k), fun x hx y hy => ?_⟩, fun x hx y hy => ?_⟩)
  . simp only [A6, A9] at hl
    rcases hl with ⟨r, hr, rfl⟩ | ⟨r, hr, rfl⟩ | ⟨r, hr, rfl⟩
    . exact g r (h.rc r hr).1
    . exact g r (h.rb r hr).1
    exact g r (h.ra r hr).1
  . obtain ⟨r, hr, rfl⟩ := A9.1 hx
    obtain ⟨s, hs, rfl⟩ := A9.1 hy
    exact (dI _ _).2 (lF nab.1 (fun e he => aQ.2 ⟨s, hs, he⟩) fun e he => aQ.2 ⟨r, hr, he⟩)
  obtain ⟨r, hr, rfl⟩ := A9.1 hx
  rcases A6.1 hy with hy | hy
  . obtain ⟨s, hs, rfl⟩ := A9.1 hy
    exact (dI _ _).2 (lF h.nbc (fun e he => aQ.2 ⟨s, hs, he⟩) fun e he => aQ.2 ⟨r, hr, he⟩)
  obtain ⟨s, hs, rfl⟩ := A9.1 hy
  exact (dI _ _).2 (lF nab.2 (fun e he => aQ.2 ⟨s, hs, he⟩) fun e he => aQ.2 ⟨r, hr, he⟩)
def vW : ∀ e ∈ X, ∃ g ∈ X, kp e = kp g := fun e he => ⟨e, he, rfl⟩
def RT.comp0 {sn ts : List Int} (h : RT q m a b c sn) (ha : a ≠ []) (hf : nU (lS a b ts bot) = true) : RT q m [] (lS a b ts bot) c sn := by
  have hal : aDg ((a ++ b).map Run.ents) := aGf h.alone fun l hl => by
    rw [D9, A6] at hl; simp only [A6]
    exact hl.elim (fun h => .inr (.inr h)) fun h => .inr (.inl h)
  obtain ⟨n1, n2, n3, n4⟩ := aQe ha h.ra h.rb h.vb hal hf
  have nab := cE.1 h.nab
  obtain ⟨m1, m23⟩ := cE.1 h.nm
  obtain ⟨m2, m3⟩ := cE.1 m23
  have hbc : iW (aH a ++ aH b) (aH c) := fun e he f hf => (A6.1 he).elim (fun he => nab.2 e he f hf) fun he => h.nbc e he f hf
  exact ⟨h.q0, h.q1, h.ml, h.mo, h.mw, h.hs, by simp, n1, h.lc, fun r hr => (by cases hr), n2, h.rc, n3, h.vc, cE.2 ⟨fun e _ f hf => (by cases hf), cE.2 ⟨sC (cE.2 ⟨m1, m2⟩) vW n4, m3⟩⟩, List.Pairwise.nil, fun e he => (by cases he), sC hbc n4 vW⟩
def bCr (b : List Run) (p : Nat) : (tZ b p).Sublist b := by
  unfold tZ
  have := List.take_append_drop p b
  have h2 : (b.take p ++ b.drop (p + 1)).Sublist (b.take p ++ b.drop p) := List.Sublist.append (List.Sublist.refl _) (by rw [<- List.drop_drop]; exact List.drop_sublist _ _)
  rw [this] at h2; exact h2
def bCe (b : List Run) (p : Nat) : ∀ r ∈ lT b p, r ∈ b := fun r hr => C9 (D0 hr)
def bLb (h : Lvl b) (p : Nat) : iW (aH (tZ b p)) (aH (lT b p)) := fun e he f hf hk => by
  exfalso
  obtain ⟨r, hr, he⟩ := aQ.1 he
  obtain ⟨s, hs, hf⟩ := aQ.1 hf
  have hpw := F9.1 h.2
  unfold lT at hs
  obtain ⟨j, hj, gj⟩ := List.mem_iff_getElem.1 hs
  rw [B1, B3] at hj; rw [List.getElem_drop, List.getElem_take] at gj
  have hj0 : j = 0 := by omega
  subst hj0
  have ks := uL (h.1 s (bCe b p s hs)) hf
  have kr := uL (h.1 r ((bCr b p).subset hr)) he
  unfold tZ at hr
  rcases A6.1 hr with hr | hr
  . obtain ⟨i, hi, gi⟩ := List.mem_iff_getElem.1 hr
    rw [B3] at hi; rw [List.getElem_take] at gi
    have h1 := hpw i (p + 0) og og og
    rw [gi, gj] at h1
    have := lP (rO kr.2 h1) ks.1
    rw [hk, bR] at this; cases this
  obtain ⟨i, hi, gi⟩ := List.mem_iff_getElem.1 hr
  rw [B1] at hi; rw [List.getElem_drop] at gi
  have h1 := hpw (p + 0) (p + 1 + i) og og og
  rw [gi, gj] at h1
  have := lP (rO ks.2 h1) kr.1
  rw [hk, bR] at this; cases this
def RT.comp1 {sn ts : List Int} {p : Nat} (h : RT q m a b c sn) (hp : p < b.length) (hf : nU (lS (lT b p) c ts bot) = true) : RT q m a (tZ b p) (lS (lT b p) c ts bot) sn := by
  have hsub := bCr b p
  have hone := bCe b p
  have hne : lT b p ≠ [] := by
    intro e
    have := congrArg List.length e
    unfold lT at this; rw [B1, B3, List.length_nil] at this; omega
  have hal : aDg ((lT b p ++ c).map Run.ents) := aGf h.alone fun l hl => by
    rw [D9, A6] at hl; simp only [A6]
    refine hl.elim (fun h => ?_) fun h => .inl h
    obtain ⟨r, hr, rfl⟩ := A9.1 h
    exact .inr (.inl (D2 (hone r hr)))
  obtain ⟨n1, n2, n3, n4⟩ := aQe hne (fun r hr => h.rb r (hone r hr)) h.rc h.vc hal hf
  have s1 : ∀ e ∈ aH (tZ b p), e ∈ aH b := fun e he => by
    obtain ⟨r, hr, he⟩ := aQ.1 he
    exact aQ.2 ⟨r, hsub.subset hr, he⟩
  have s2 : ∀ e ∈ aH (lT b p), e ∈ aH b := fun e he => by
    obtain ⟨r, hr, he⟩ := aQ.1 he
    exact aQ.2 ⟨r, hone r hr, he⟩
  obtain ⟨m1, m23⟩ := cE.1 h.nm
  obtain ⟨m2, m3⟩ := cE.1 m23
  obtain ⟨a1, a2⟩ := cE.1 h.nab
  have id' : ∀ {X : List Entry}, ∀ e ∈ X, e ∈ X := fun e he => he
  exact ⟨h.q0, h.q1, h.ml, h.mo, h.mw, h.hs, h.la, by have := hsub.length_le; have := h.lb; omega, n1, h.ra, fun r hr => h.rb r (hsub.subset hr), n2, ⟨fun r hr => h.vb.1 r (hsub.subset hr), h.vb.2.sublist hsub⟩, n3,
    cE.2 ⟨m1, cE.2 ⟨lF m2 id' s1, sC (cE.2 ⟨lF m2 id' s2, m3⟩) vW n4⟩⟩, h.na, cE.2 ⟨lF a1 id' s1, sC (cE.2 ⟨lF a1 id' s2, a2⟩) vW n4⟩,
    sC (cE.2 ⟨bLb h.vb p, lF h.nbc s1 id'⟩) vW n4⟩
def bLc {sn : List Int} (h1 : (qA ⟨q, m, [a, b, c], sn⟩ level pick).2 = true) : ∃ a' b' c', (qA ⟨q, m, [a, b, c], sn⟩ level pick).1 = ⟨q, m, [a', b', c'], sn⟩ /\ ∀ {q' m' sn'}, RT q' m' a b c sn' -> RT q' m' a' b' c' sn' := by
  unfold qA at h1 ⊢
  simp only at h1 ⊢
  split at h1
  . rename_i hc
    rw [if_pos hc]
    simp only [B7, decide_eq_true_eq] at hc
    have ha : a ≠ [] := fun e => by rw [e] at hc; simp at hc
    split at h1
    . cases h1
    rename_i hf
    rw [if_neg hf]
    exact ⟨_, _, _, rfl, fun h => h.comp0 ha (by simpa using hf)⟩
  rename_i hc
  rw [if_neg hc]; split at h1
  . rename_i hc2
    rw [if_pos hc2]
    simp only [B7, decide_eq_true_eq] at hc2
    split at h1
    . cases h1
    rename_i hf
    rw [if_neg hf]
    exact ⟨_, _, _, rfl, fun h => h.comp1 og (by simpa using hf)⟩
  cases h1
def bKt {sn : List Int} (h1 : (gG ⟨q, m, [a, b, c], sn⟩).2 = true) (h : RT q m a b c sn) : ∃ a', (gG ⟨q, m, [a, b, c], sn⟩).1 = ⟨q, [], [a', b, c], sn⟩ /\ ∀ {sn'}, eO sn' q = true -> RT q [] a' b c sn' := by
  unfold gG at h1 ⊢
  simp only at h1 ⊢
  split at h1
  . cases h1
  rename_i hc
  rw [if_neg hc]
  simp only [D4, decide_eq_true_eq, not_or] at hc
  refine ⟨_, rfl, fun hs => ?_⟩
  rw [aQb]
  obtain ⟨s1, s2⟩ := aRq m sn false
  have s3 := aYg m sn false
  have s4 := (aMx (ts := sn) (b := false) h.mo).2 (fun e => hc.1 (by rw [e]; rfl))
  have s5 := E8.2 s4
  have s6 := h.ml
  have hR : ∀ e ∈ aH [(⟨cK m sn false, bV (cK m sn false)⟩ : Run)], ∃ g ∈ m, kp e = kp g := fun e he => by
    obtain ⟨r, hr, he⟩ := aQ.1 he
    rw [B4.1 hr] at he
    exact s2 e he
  have hro : cH ⟨cK m sn false, bV (cK m sn false)⟩ = true := by
    unfold cH; simp only [B7, decide_eq_true_eq]
    exact ⟨⟨⟨og, og⟩, s1⟩, trivial⟩
  obtain ⟨m1, m23⟩ := cE.1 h.nm
  exact ⟨h.q0, h.q1, by simp, rfl, fun e he => (by cases he), hs, by rw [A4, List.length_singleton]; omega, h.lb, h.lc, fun r hr => by
      rcases A6.1 hr with hr | hr
      . exact h.ra r hr
      . rw [B4.1 hr]
        refine ⟨hro, fun e he => ?_⟩
        obtain ⟨g, hg, eg⟩ := s2 e he
        have : e.seq = g.seq := congrArg Prod.snd eg
        rw [this]; exact h.mw g hg, h.rb, h.rc, h.vb, h.vc, fun e he => (by cases he), List.pairwise_append.2 ⟨h.na, List.pairwise_singleton _ _, fun x hx y hy => by
      rw [B4.1 hy]
      exact sC (lF m1 (fun e he => he) fun e he => aQ.2 ⟨x, hx, he⟩) s2 vW⟩, by
      rw [aWj]; intro e he f hf hk
      rcases A6.1 he with he | he
      . exact h.nab e he f hf hk
      exact sC m23 hR vW e he f hf hk, h.nbc⟩
def bIf {bs : List (List Entry)} (h : UpOk s a b c bs) (hu : s.up = true) (h1 : (flS s).2 = true) : ∃ a', UpOk (flS s).1 a' b c [] /\ (flS s).1.up = true /\ (flS s).1.disk.seq = s.tree.seq /\ (flS s).1.tree.mem = [] /\ (flS s).1.tree.seq = s.tree.seq := by
  have ht : s.tree = ⟨s.tree.seq, s.tree.mem, [a, b, c], s.tree.snaps⟩ := by rw [<- h.tl]
  unfold flS at h1 ⊢
  rw [if_neg (by rw [hu]; decide)] at h1 ⊢
  split at h1
  . cases h1
  rename_i hf
  rw [if_neg hf]
  have hf : (gG s.tree).2 = true := by simpa using hf
  rw [ht] at hf
  obtain ⟨a', e, hr⟩ := bKt hf h.rt
  rw [<- ht] at e
  refine ⟨a', ?_⟩
  rw [e]
  exact ⟨⟨by show (0 : Nat) <= _; omega, Int.le_refl _, Int.le_refl _, rfl, rfl, hr h.rt.hs, hr (aRm _), Int.le_refl _, fun b hb => (by cases hb), rfl, rfl, rfl⟩, hu, rfl, rfl, rfl⟩
def wW (h : aF s = true) : bH s = s := by
  by_cases hu : s.up = true
  . unfold bH; rw [if_pos hu]
  obtain ⟨a, b, c, bs, g⟩ := (aKg (by simpa using hu)).1 h
  unfold bH; rw [if_neg hu, <- g.tz]
def bHa (h : aF s = true) : aF (flS s).1 = true := by
  cases hu : s.up with
  | false => unfold flS; rw [if_pos hu]; exact h
  | true =>
    obtain ⟨a, b, c, bs, g⟩ := (mB hu).1 h
    cases h1 : (flS s).2 with
    | true =>
      obtain ⟨a', k1, k2, -⟩ := bIf g hu h1
      exact (mB k2).2 ⟨a', b, c, [], k1⟩
    | false =>
      unfold flS at h1 ⊢
      rw [if_neg (by rw [hu]; decide)] at h1 ⊢
      split at h1
      . rename_i hf; rw [if_pos hf]; exact h
      cases h1
def bMp {bs : List (List Entry)} (h : UpOk s a b c bs) (hu : s.up = true) (h1 : (bC s level pick).2 = true) : ∃ a' b' c', UpOk (bC s level pick).1 a' b' c' bs /\ (bC s level pick).1.up = true := by
  have hok : aF s = true := (mB hu).2 ⟨a, b, c, bs, h⟩
  have hcp := wW hok
  have ht : s.tree = ⟨s.tree.seq, s.tree.mem, [a, b, c], s.tree.snaps⟩ := by rw [<- h.tl]
  have htr : dE s.tree = true := (sM _).2 ⟨a, b, c, h.tl, h.rt⟩
  have hc : dM s.tree level pick = qA s.tree level pick := by unfold dM; rw [if_neg (by rw [htr]; decide)]
  unfold bC at h1 ⊢
  rw [if_neg (by rw [hok]; decide), if_neg (by rw [hu]; decide), hc] at h1 ⊢
  split at h1
  . cases h1
  rename_i hf
  rw [if_neg hf, hcp]
  have hf : (qA s.tree level pick).2 = true := by simpa using hf
  rw [ht] at hf
  obtain ⟨a', b', c', e, hr⟩ := bLc hf
  rw [<- ht] at e
  refine ⟨a', b', c', ?_⟩
  rw [e]
  exact ⟨⟨h.lg, h.f0, h.f1, rfl, rfl, hr h.rt, hr h.rd, h.le, h.ok, h.tx, h.mm, h.sq⟩, hu⟩
def bCs (h : aF s = true) (level pick : Int) : aF (bC s level pick).1 = true := by
  cases hu : s.up with
  | false => unfold bC; rw [if_neg (by rw [h]; decide), if_pos hu, wW h]; exact h
  | true =>
    obtain ⟨a, b, c, bs, g⟩ := (mB hu).1 h
    cases h1 : (bC s level pick).2 with
    | true =>
      obtain ⟨a', b', c', k1, k2⟩ := bMp g hu h1
      exact (mB k2).2 ⟨a', b', c', bs, k1⟩
    | false =>
      unfold bC at h1 ⊢
      rw [if_neg (by rw [h]; decide), if_neg (by rw [hu]; decide)] at h1 ⊢
      split at h1
      . rename_i hf; rw [if_pos hf, wW h]; exact h
      cases h1
def bMs (h : aF s = true) (hu : s.up = false) : aF (dX s) = true := by
  obtain ⟨a, b, c, bs, g⟩ := (aKg hu).1 h
  exact (mB rfl).2 ⟨a, b, c, _, bLd g⟩
def bMv (h : aF s = true) (hu : s.up = true) : aF { s with disk := { s.disk with safe := (s.disk.log.size : Int) } } = true := by
  obtain ⟨a, b, c, bs, g⟩ := (mB hu).1 h
  exact (mB (s := { s with disk := { s.disk with safe := (s.disk.log.size : Int) } }) hu).2 ⟨a, b, c, bs, bLz g⟩
def bCb (h : aF s = true) (hu : s.up = true) (k : Int) : aF (iJ s k) = true := by
  obtain ⟨a, b, c, bs, g⟩ := (mB hu).1 h
  exact (bBq g k).1
def bJn (h : aF s = true) (x : List Entry) : aF (eN s x).1 = true := by
  cases h1 : (eN s x).2 with
  | false =>
    unfold eN at h1 ⊢
    split at h1
    . rename_i hb; rw [if_pos hb]; exact h
    cases h1
  | true =>
    have hu : s.up = true := by
      unfold eN at h1; split at h1
      . cases h1
      rename_i hb
      simp only [uR, D4, Bool.not_eq_true', not_or, Bool.not_eq_false] at hb
      exact hb.1.1
    obtain ⟨a, b, c, bs, g⟩ := (mB hu).1 h
    obtain ⟨k1, k2, -⟩ := bJu g h1
    exact (mB (k2.trans hu)).2 ⟨a, b, c, _, k1⟩
def bIn (h : aF s = true) (k : Int) : aF (dY s k) = true := by
  have hcp := wW h
  unfold dY
  rw [if_neg (by rw [h]; decide), hcp]
  cases hu : s.up with
  | false => rw [if_pos rfl]; exact h
  | true =>
    rw [if_neg dg]; unfold brJ; split
    . rename_i hf
      obtain ⟨a, b, c, bs, g⟩ := (mB hu).1 h
      obtain ⟨a', k1, k2, k3, k4, k5⟩ := bIf g hu hf
      have h1 := g.lg
      have h2 := g.f0
      have h3 := g.f1
      generalize hx : ({ s with disk := { s.disk with levels := (flS s).1.disk.levels, seq := (flS s).1.disk.seq } } : Store) = x
      have xl : x.disk.log = s.disk.log := by rw [<- hx]
      have xs : x.disk.safe = s.disk.safe := by rw [<- hx]
      have xv : x.disk.levels = [a', b, c] := by rw [<- hx]; exact k1.dl
      have xq : x.disk.seq = s.tree.seq := by rw [<- hx]; exact k3
      have hn : 0 <= cX x k /\ cX x k <= (s.disk.log.size : Int) := by unfold cX; rw [xl, xs]; omega
      have hlog : (iJ x k).disk.log = s.disk.log.extract 0 (cX x k).toNat := by rw [<- xl]; rfl
      have hsz : (iJ x k).disk.log.size = (cX x k).toNat := by rw [hlog, iI _ _ _ og]; omega
      have hrd : bO (iJ x k).disk.log = (jL bs (cX x k).toNat, _) := aKr og g.ok (by rw [hlog, aBi, List.drop_zero, g.tx]; rfl)
      obtain ⟨r, hr⟩ := zK bs (cX x k).toNat
      have hle : ∀ e ∈ (jL bs (cX x k).toNat).flatten, e.seq <= s.tree.seq := fun e he => by
        rw [g.sq]
        refine (gW _ _).2 e ?_
        rw [hr, List.flatten_append]
        exact List.mem_append_left _ he
      have e1 : (jL bs (cX x k).toNat).flatten.filter (ovr s.tree.seq) = [] := List.filter_eq_nil_iff.2 fun e he => by
        have := hle e he
        simp [ovr]; omega
      have e2 : dS s.tree.seq (jL bs (cX x k).toNat).flatten = s.tree.seq := by rw [<- uI, e1]; rfl
      have hrd0 : RT s.tree.seq [] a' b c [] := by have := k1.rd; rw [k3] at this; exact this
      have fq : (iJ x k).disk.seq = s.tree.seq := xq
      refine (aKg rfl).2 ⟨a', b, c, jL bs (cX x k).toNat, og, hn.1, by rw [hsz]; show cX x k <= _; omega, rfl, xv, by rw [fq]; exact hrd0, by rw [hrd], ?_⟩
      rw [fq, e1, e2]; exact hrd0
    exact bCb h hu k
end
attribute [go_sem] pC aRo
abbrev rdO (b : List UInt8) (p : Nat) : AObj := .cells 96 [.sl 1 (b.map byteAV), .raw (.int .i64 (p : Int))]
def aC (U : Nat -> Prop) (b : List UInt8) (p : Nat) : (rdO b p).bel U := ⟨pC U b, trivial, trivial⟩
def bHy (x y : Int) : Int := IntKind.i64.wrap (((BitVec.ofInt IntKind.i64.bits x ^^^ BitVec.ofInt IntKind.i64.bits y).toNat : Nat) : Int)
def byN (b : List UInt8) (i : Nat) : Int := (((b[i]?).getD 0).toNat : Int)
def aHy (b : List UInt8) (p : Nat) : Int := byN b (p % b.length) * 131 + byN b ((p * 7 + 3) % b.length) * 1117 + (p : Int) * 29 + ((p / b.length : Nat) : Int) * 53
def bNb (b : List UInt8) (p : Nat) : Int := bHy (aHy b p) ((aHy b p).tdiv 64)
def aD (b : List UInt8) (n : Int) (p : Nat) : Int := if n < 1 ∨ b.length = 0 then 0 else if p < b.length then (byN b p).tmod n else (bNb b p).tmod n
def bBb (b : List UInt8) (i : Nat) : 0 <= byN b i /\ byN b i <= 255 := by
  unfold byN
  have := ((b[i]?).getD 0).toNat_lt
  omega
def bAy {b : List UInt8} {i : Nat} (h : i < b.length) : b[i]? = some ((b[i]?).getD 0) := by rw [A1 h]; rfl
def bBx {b : List UInt8} {p : Nat} (hp : p <= 1000000000000) : 0 <= aHy b p /\ aHy b p <= 1000000000000000 := by
  unfold aHy
  have h1 := bBb b (p % b.length)
  have h2 := bBb b ((p * 7 + 3) % b.length)
  have h3 := Nat.div_le_self p b.length
  generalize p / b.length = q at h3 ⊢
  omega
def bOl {x y : Int} (hx : 0 <= x) (hx1 : x <= 1000000000000000) (hy : 0 <= y) (hy1 : y <= 1000000000000000) : 0 <= bHy x y := by
  obtain ⟨a, rfl⟩ := Int.eq_ofNat_of_zero_le hx
  obtain ⟨c, rfl⟩ := Int.eq_ofNat_of_zero_le hy
  unfold bHy
  have e : (BitVec.ofInt IntKind.i64.bits (a : Int) ^^^ BitVec.ofInt IntKind.i64.bits (c : Int)).toNat = a ^^^ c := by
    show (BitVec.ofInt 64 (a : Int) ^^^ BitVec.ofInt 64 (c : Int)).toNat = a ^^^ c
    rw [BitVec.toNat_xor, BitVec.ofInt_natCast, BitVec.ofInt_natCast, BitVec.toNat_ofNat, BitVec.toNat_ofNat, Nat.mod_eq_of_lt og, Nat.mod_eq_of_lt og]
  rw [e]
  have h : a ^^^ c < 2 ^ 50 := Nat.xor_lt_two_pow og og
  rw [w64]; omega
def iT {b : List UInt8} {n : Int} {p : Nat} (hp : p <= 1000000000000) : 0 <= aD b n p /\ (1 <= n -> aD b n p < n) /\ (n < 1 -> aD b n p = 0) := by
  unfold aD
  by_cases h : n < 1 ∨ b.length = 0
  . rw [if_pos h]; omega
  rw [if_neg h]
  have hn : 0 < n := by omega
  have key : ∀ x : Int, 0 <= x -> 0 <= x.tmod n /\ x.tmod n < n := fun x hx => by
    rw [Int.tmod_eq_emod_of_nonneg hx]
    exact ⟨Int.emod_nonneg _ og, Int.emod_lt_of_pos _ hn⟩
  have h1 := bBx (b := b) hp
  have h2 : 0 <= (aHy b p).tdiv 64 /\ (aHy b p).tdiv 64 <= 1000000000000000 := by
    rw [H6 h1.1]; omega
  have a1 := key _ (bBb b p).1
  have a2 := key _ (bOl h1.1 h1.2 h2.1 h2.2)
  split
  . exact ⟨a1.1, fun _ => a1.2, fun h => by omega⟩
  exact ⟨a2.1, fun _ => a2.2, fun h => by omega⟩
def aOd (b : List UInt8) (hb : b.length <= 9223372036854775807) : aP P 23 [.sl 1 (b.map byteAV)] [] 0 (.ptr 0 0) [(0, rdO (b.take 2000) 0)] 1 := by
 refine (gq 11 [.tmp 2] func23) ?_
 simp only [rdO]
 refine (aj) ?_
 refine aA fun k2 => (aj) ((cdA) ?_ ?_) <;> intro hc1
 . have hl : 2000 < b.length := by simp at hc1; omega
   refine wg rfl ((ja) ((jr) (k2 ((aj) (wR ?_)))))
   refine ⟨[], ?_⟩
   simp only [go_sem, AObj.bel, AObj.ren, AV.ren, aB, sg, rdO, <- E3] <;> simp
 have hl : ¬ 2000 < b.length := by simp at hc1; omega
 have h9 : b.take 2000 = b := List.take_of_length_le og
 refine wk (k2 ((aj) (wR ?_)))
 refine ⟨[], ?_⟩
 simp only [go_sem, AObj.bel, AObj.ren, AV.ren, aB, sg, rdO, h9, bNb, bHy, IntKind.bits] <;> simp
def aE (b : List UInt8) (p : Nat) (hb : b.length <= 2000) (hp : p <= 1000000000) (n : Int) : aP P 62 [.ptr 0 0, Ni n] [(0, rdO b p)] 1 (Ni (aD b n p)) [(0, rdO b (p + 1))] 1 := by
 refine (gq 99 [.tmp 4] func62) ?_
 simp only [rdO]
 refine (aj) ?_
 have hp1 := wiS p og
 refine sr rfl fun k2 => (Aa hp1) (k2 (aA fun k3 => (aj) ((cdA) ?_ ?_))) <;> intro hc1
 . have hz : n < 1 ∨ b.length = 0 := by simpa using hc1
   have h9 : aD b n p = 0 := by unfold aD; rw [if_pos hz]
   refine (aj) (wR ?_)
   refine ⟨[], ?_⟩
   simp only [go_sem, AObj.bel, AObj.ren, AV.ren, aB, sg, rdO, h9] <;> simp
 have hz : ¬ (n < 1 ∨ b.length = 0) := by simpa using hc1
 refine wk (k3 ?_)
 have hk := wr (((p + 1 : Nat) : Int) - 1) ((p : Int)) og
 refine sr rfl fun k6 => (Aa hk) (k6 (aA fun k7 => (aj) ((cdA) ?_ ?_))) <;> intro hc2
 . have hlt : p < b.length := by simpa using hc2
   obtain ⟨x, hx⟩ : ∃ x, b[p]? = some x := ⟨_, bAy hlt⟩
   have hn0 : ¬ n = 0 := by omega
   have hxl := x.toNat_lt
   have hwx := wr ((x.toNat : Nat) : Int) (((x.toNat : Nat) : Int)) og
   have h9 : aD b n p = ((x.toNat : Nat) : Int).tmod n := by unfold aD; rw [if_neg hz, if_pos hlt]; unfold byN; rw [hx]; rfl
   refine sr rfl fun k9 => ?_
   simp only [go_sem, byteAV, hx, hn0, hwx]
   refine (jr) (k9 (wR ?_))
   refine ⟨[], ?_⟩
   simp only [go_sem, AObj.bel, AObj.ren, AV.ren, aB, sg, rdO, h9, byN] <;> simp
 have hge : ¬ p < b.length := by simpa using hc2
 have hbl : b.length ≠ 0 := by omega
 have l1 : p % b.length < b.length := Nat.mod_lt _ og
 have l2 : (p * 7 + 3) % b.length < b.length := Nat.mod_lt _ og
 obtain ⟨x1, hx1⟩ : ∃ x, b[p % b.length]? = some x := ⟨_, bAy l1⟩
 obtain ⟨x2, hx2⟩ : ∃ x, b[(p * 7 + 3) % b.length]? = some x := ⟨_, bAy l2⟩
 have hn0 : ¬ n = 0 := by omega
 have hb0 : ¬ ((b.length : Nat) : Int) = 0 := by omega
 have hm1 : ((p : Nat) : Int).tmod ((b.length : Nat) : Int) = ((p % b.length : Nat) : Int) := rfl
 have hm2 : ((p * 7 + 3 : Nat) : Int).tmod ((b.length : Nat) : Int) = (((p * 7 + 3) % b.length : Nat) : Int) := rfl
 have hq : ((p : Nat) : Int).tdiv ((b.length : Nat) : Int) = ((p / b.length : Nat) : Int) := rfl
 have hql := Nat.div_le_self p b.length
 have hx1l := x1.toNat_lt
 have hx2l := x2.toNat_lt
 have hmx2 : aHy b p = ((x1.toNat : Nat) : Int) * 131 + ((x2.toNat : Nat) : Int) * 1117 + (p : Int) * 29 + ((p / b.length : Nat) : Int) * 53 := by unfold aHy byN; rw [hx1, hx2]; rfl
 have hml := bBx (b := b) (p := p) og
 have g1 := wr (((p : Nat) : Int) * 7) (((p * 7 : Nat) : Int)) og
 have g2 := wr (((p * 7 : Nat) : Int) + 3) (((p * 7 + 3 : Nat) : Int)) og
 have g3 := wr (((x1.toNat : Nat) : Int)) (((x1.toNat : Nat) : Int)) og
 have g4 := wr (((x2.toNat : Nat) : Int)) (((x2.toNat : Nat) : Int)) og
 have g5 := wr (((x1.toNat : Nat) : Int) * 131) (((x1.toNat : Nat) : Int) * 131) og
 have g6 := wr (((x2.toNat : Nat) : Int) * 1117) (((x2.toNat : Nat) : Int) * 1117) og
 have g7 := wr (((x1.toNat : Nat) : Int) * 131 + ((x2.toNat : Nat) : Int) * 1117) (((x1.toNat : Nat) : Int) * 131 + ((x2.toNat : Nat) : Int) * 1117) og
 have g8 := wr (((p : Nat) : Int) * 29) (((p : Nat) : Int) * 29) og
 have g9 := wr (((x1.toNat : Nat) : Int) * 131 + ((x2.toNat : Nat) : Int) * 1117 + ((p : Nat) : Int) * 29) (((x1.toNat : Nat) : Int) * 131 + ((x2.toNat : Nat) : Int) * 1117 + ((p : Nat) : Int) * 29) og
 have gq := wr (((p / b.length : Nat) : Int)) (((p / b.length : Nat) : Int)) og
 have ga := wr (((p / b.length : Nat) : Int) * 53) (((p / b.length : Nat) : Int) * 53) og
 have gb := wr (((x1.toNat : Nat) : Int) * 131 + ((x2.toNat : Nat) : Int) * 1117 + ((p : Nat) : Int) * 29 + ((p / b.length : Nat) : Int) * 53) (aHy b p) og
 have g64 : IntKind.i64.wrap ((aHy b p).tdiv 64) = (aHy b p).tdiv 64 := by rw [IntKind.wrap_i64, H6 hml.1]; omega
 have h9 : aD b n p = (bNb b p).tmod n := by unfold aD; rw [if_neg hz, if_neg hge]
 refine wk (k7 (sd mixed rfl fun k10 => ?_))
 simp only [go_sem, hx1, hx2, byteAV, hb0, hm1, hm2, hq, g1, g2, g3, g4, g5, g6, g7, g8, g9, gq, ga, gb]
 refine (jr) ((jy) (k10 (sr rfl fun k11 => ?_)))
 simp only [go_sem, Int.reduceEq, g64]
 refine (jr) (k11 (sr rfl fun k12 => (Aa hn0) ((jr) (k12 (wR ?_)))))
 refine ⟨[], ?_⟩
 simp only [go_sem, AObj.bel, AObj.ren, AV.ren, aB, sg, rdO, h9, bNb, bHy, IntKind.bits] <;> simp
abbrev strAV (s : ByteArray) : AV := .raw (.string s)
def aRa (U : Nat -> Prop) (ls : List ByteArray) : aK U (ls.map strAV) := pW (f := strAV) (fun _ _ => trivial) U ls
def bEc (σ : Nat -> Nat) (ls : List ByteArray) : aB σ (ls.map strAV) = ls.map strAV := dN σ (aRa _ ls)
attribute [go_sem] aRa bEc
def ofZ (ls : List ByteArray) (b : List UInt8) (p : Nat) : ByteArray := (ls[(aD b (ls.length : Int) p).toNat]?).getD ⟨#[]⟩
def eS (ls : List Int) (b : List UInt8) (p : Nat) : Int := (ls[(aD b (ls.length : Int) p).toNat]?).getD 0
def aTk {α : Type} {ls : List α} {b : List UInt8} {p : Nat} (hp : p <= 1000000000000) (h : 1 <= ls.length) : 0 <= aD b (ls.length : Int) p /\ aD b (ls.length : Int) p < (ls.length : Int) /\ ∃ x, ls[(aD b (ls.length : Int) p).toNat]? = some x := by
  have h1 := iT (b := b) (n := (ls.length : Int)) hp
  have h2 := h1.2.1 og
  have h3 : (aD b (ls.length : Int) p).toNat < ls.length := by omega
  exact ⟨h1.1, h2, _, A1 h3⟩
def bOu (ls : List ByteArray) (b : List UInt8) (p : Nat) : ofZ ls b p = ⟨#[]⟩ ∨ ofZ ls b p ∈ ls := by
  unfold ofZ
  cases h : ls[(aD b (ls.length : Int) p).toNat]? with
  | none => exact .inl rfl
  | some x => exact .inr (E4 h)
def aIs (ls : List Int) (b : List UInt8) (p : Nat) : eS ls b p = 0 ∨ eS ls b p ∈ ls := by
  unfold eS
  cases h : ls[(aD b (ls.length : Int) p).toNat]? with
  | none => exact .inl rfl
  | some x => exact .inr (E4 h)
def wV (s out : ByteArray) (n : Nat) : ByteArray := if n = 0 then out else wV (s ++ s) (if n % 2 = 1 then out ++ s else out) (n / 2)
termination_by n
decreasing_by omega
def aKh : List ByteArray := [⟨#[97]⟩, ⟨#[98]⟩, ⟨#[97, 98]⟩, ⟨#[98, 47, 97, 47, 49]⟩, ⟨#[98, 47, 97, 98, 47, 49]⟩, ⟨#[99]⟩]
def bDv : List ByteArray := [⟨#[]⟩, ⟨#[120]⟩, ⟨#[121, 121]⟩, ⟨#[122, 122, 122]⟩]
def xL : List Int := [1, 2, 3, 3, 3, 1]
def bBi : List Int := [0, 1, 5, -3, 100, -7]
def rE (b : List UInt8) (p : Nat) (seq : Int) : Entry :=
  let k := eS xL b (p + 1)
  if k = 2 then ⟨ofZ aKh b p, seq, 2, ⟨#[]⟩, 0⟩
  else if k = 1 then ⟨ofZ aKh b p, seq, 1, ofZ bDv b (p + 3), eS bBi b (p + 2)⟩
  else ⟨ofZ aKh b p, seq, k, ⟨#[]⟩, eS bBi b (p + 2)⟩
def lN (b : List UInt8) (p : Nat) : Nat := if eS xL b (p + 1) = 2 then p + 2 else if eS xL b (p + 1) = 1 then p + 4 else p + 3
def aRc : List ByteArray := [⟨#[]⟩, ⟨#[65]⟩, ⟨#[97, 32, 98]⟩, ⟨#[97, 98, 99, 100, 101, 102, 103, 104, 105]⟩, ⟨#[97, 98, 99, 100, 101, 102, 103, 104]⟩, ⟨#[48, 47, 57]⟩]
def bIb : List Int := [0, -1, 100000, 100001]
def aMq : List Int := [0, 4, -1, 1, 2, 3]
def aZc : List Int := [1000000, 1000001, -1000001, 9223372036854775807]
def aJw : List ByteArray := [⟨#[113]⟩, wV ⟨#[116]⟩ ⟨#[]⟩ 60, wV ⟨#[116]⟩ ⟨#[]⟩ 61]
def iZ (b : List UInt8) (p : Nat) (e : Entry) : Entry :=
  if aD b 48 p = 0 then { e with key := ofZ aRc b (p + 1) }
  else if aD b 48 p = 1 then { e with seq := eS bIb b (p + 1) }
  else if aD b 48 p = 2 then { e with kind := eS aMq b (p + 1) }
  else if aD b 48 p = 3 then { e with n := eS aZc b (p + 1) }
  else if aD b 48 p = 4 then { e with text := ofZ aJw b (p + 1) }
  else e
def dW (b : List UInt8) (p : Nat) : Nat := if 5 <= aD b 48 p then p + 1 else p + 2
def aEc (s out : ByteArray) (n : Nat) (h : n ≠ 0) : wV s out n = wV (s ++ s) (if n % 2 = 1 then out ++ s else out) (n / 2) := by rw [wV, if_neg h]
def bDi (s out : ByteArray) : wV s out 0 = out := by rw [wV, if_pos rfl]
def vU : ∀ (n : Nat) (s out : ByteArray), (wV s out n).size = out.size + s.size * n := by
  intro n
  induction n using Nat.strongRecOn with
  | _ n ih =>
    intro s out
    by_cases h : n = 0
    . subst h; rw [bDi]; simp
    rw [aEc s out n h, ih (n / 2) og]
    have h1 : s.size * n = s.size * (2 * (n / 2) + n % 2) := by congr 1; omega
    rw [h1, Nat.mul_add, B8]
    have h2 : (s.size + s.size) * (n / 2) = s.size * (2 * (n / 2)) := by rw [<- Nat.mul_assoc, Nat.mul_two]
    rw [h2]; split
    . rename_i h3; rw [B8, h3]; omega
    have : n % 2 = 0 := by omega
    rw [this]; omega
def xH {ls : List ByteArray} {b : List UInt8} {p : Nat} {n : Nat} (h : ∀ s ∈ ls, s.size <= n) : (ofZ ls b p).size <= n := by
  rcases bOu ls b p with h1 | h1
  . rw [h1]; exact A3 _
  exact h _ h1
def bMx : ∀ s ∈ aKh, s.size <= 64 := by decide
def bKu : ∀ s ∈ bDv, s.size <= 64 := by decide
def bHd : ∀ s ∈ aRc, s.size <= 64 := by decide
def bHs : ∀ s ∈ aJw, s.size <= 64 := by
  intro s hs
  simp only [aJw, A7, List.not_mem_nil, or_false] at hs
  rcases hs with rfl | rfl | rfl
  . decide
  . rw [vU]; decide
  rw [vU]; decide
def gA (e : Entry) : Prop := e.key.size <= 64 /\ e.text.size <= 64
def aYd {e : Entry} (h : gA e) : e.key.size <= 1048576 /\ e.text.size <= 1048576 := by unfold gA at h; omega
def zJ (b : List UInt8) (p : Nat) (seq : Int) : gA (rE b p seq) := by
  unfold rE
  dsimp only
  have h1 := xH (b := b) (p := p) bMx
  have h2 := xH (b := b) (p := p + 3) bKu
  split
  . exact ⟨h1, A3 _⟩
  split
  . exact ⟨h1, h2⟩
  exact ⟨h1, A3 _⟩
def aBs {b : List UInt8} {p : Nat} {e : Entry} (h : gA e) : gA (iZ b p e) := by
  unfold iZ
  have h1 := xH (b := b) (p := p + 1) bHd
  have h2 := xH (b := b) (p := p + 1) bHs
  repeat' split
  . exact ⟨h1, h.2⟩
  . exact h
  . exact h
  . exact h
  . exact ⟨h.1, h2⟩
  exact h
def uX (b : List UInt8) (p : Nat) : p + 2 <= lN b p /\ lN b p <= p + 4 := by
  unfold lN; split
  . omega
  split <;> omega
def sA (b : List UInt8) (p : Nat) : p + 1 <= dW b p /\ dW b p <= p + 2 := by unfold dW; split <;> omega
def jI (b : List UInt8) (p : Nat) (hb : b.length <= 2000) (hp : p <= 1000000000) (ls : List ByteArray) (h1 : 1 <= ls.length) : aP P 113 [.ptr 0 0, .sl 1 (ls.map strAV)] [(0, rdO b p)] 1 (Ns (ofZ ls b p)) [(0, rdO b (p + 1))] 1 := by
 refine (gq 12 [.tmp 4] func113) ?_
 obtain ⟨hk0, hk1, x, hx⟩ := aTk (b := b) (p := p) (ls := ls) og h1
 have h9 : ofZ ls b p = x := by unfold ofZ; rw [hx]; rfl
 refine (aj) ?_
 refine sr rfl fun k2 => (ja) ((jr) ?_)
 refine vO 0 rfl rfl rfl ⟨func62, rfl, rfl⟩ (aE b p hb hp (ls.length : Int)) oG oG (aC _ _ _) (aC _ _ _) oG oG ?_
 simp only [go_sem, Nat.add_zero, hx, strAV]
 refine (jr) (k2 (wR ?_))
 refine ⟨[], ?_⟩
 exact Au h9
def bD (b : List UInt8) (p : Nat) (hb : b.length <= 2000) (hp : p <= 1000000000) (ls : List Int) (h1 : 1 <= ls.length) : aP P 64 [.ptr 0 0, .sl 1 (ls.map inA)] [(0, rdO b p)] 1 (Ni (eS ls b p)) [(0, rdO b (p + 1))] 1 := by
 refine (gq 12 [.tmp 4] func64) ?_
 obtain ⟨hk0, hk1, x, hx⟩ := aTk (b := b) (p := p) (ls := ls) og h1
 have h9 : eS ls b p = x := by unfold eS; rw [hx]; rfl
 refine (aj) ?_
 refine sr rfl fun k2 => (ja) ((jr) ?_)
 refine vO 0 rfl rfl rfl ⟨func62, rfl, rfl⟩ (aE b p hb hp (ls.length : Int)) oG oG (aC _ _ _) (aC _ _ _) oG oG ?_
 simp only [go_sem, Nat.add_zero, hx, inA]
 refine (jr) (k2 (wR ?_))
 refine ⟨[], ?_⟩
 exact Au h9
def aAe (s : ByteArray) (n : Nat) (hs : s.size * n <= 1000) (hn : n <= 1000) : aJ P 138 [Ns s, Ni (n : Int)] [] 0 (Ns (wV s ⟨#[]⟩ n)) := by
 refine (pq 20 [.tmp 4] func138) ((aj) ((aj) ?_))
 refine aA fun k3 => wb ?_
 refine wl (α := ByteArray × ByteArray × Nat) (fun x => x.2.2 <= 1000 /\ x.2.1.size + x.1.size * x.2.2 <= 1000 /\ wV x.1 x.2.1 x.2.2 = wV s ⟨#[]⟩ n) (fun x => x.2.2) (fun x => ([(0, Ns x.1), (1, Ni (x.2.2 : Int)), (5, Ns x.2.1)], [])) 0 (s, ⟨#[]⟩, n) ⟨hn, by have h8 : (⟨#[]⟩ : ByteArray).size = 0 := rfl; simp only [h8]; omega, rfl⟩ [] ?_ ?_
 . exact jc
 rintro ⟨s1, o1, n1⟩ ⟨hn1, hz, hm⟩
 simp only at hn1 hz hm ⊢
 refine aA fun k4 => (aj) ((cdB) ?_ ?_) <;> intro hc1
 . have hz0 : n1 = 0 := by simp at hc1; omega
   subst hz0; rw [bDi] at hm
   refine we ((jt) (k3 ((aj) (wR ?_))))
   refine fO ?_ trivial; simp only [go_sem, <- hm]
 have hne : n1 ≠ 0 := by simp at hc1; omega
 have hz2 : (if n1 % 2 = 1 then o1 ++ s1 else o1).size + (s1 ++ s1).size * (n1 / 2) <= 1000 := by
   have h8 := vU n1 s1 o1
   rw [aEc s1 o1 n1 hne, vU] at h8; omega
 have hm2 : ((n1 : Nat) : Int).tmod 2 = ((n1 % 2 : Nat) : Int) := rfl
 have hq2 : ((n1 : Nat) : Int).tdiv 2 = ((n1 / 2 : Nat) : Int) := rfl
 have hq3 := wr (((n1 / 2 : Nat) : Int)) (((n1 / 2 : Nat) : Int)) og
 refine wk (k4 (wb (aA fun k6 => sr rfl fun k7 => ?_)))
 simp only [go_sem, Int.reduceEq, hm2]
 refine (jr) (k7 ((cdA) ?_ ?_)) <;> intro hc2
 . have hodd : n1 % 2 = 1 := by simp at hc2; omega
   refine wg rfl ((ja) ?_)
   refine ⟨by have h7 : s1.size <= s1.size * n1 := Nat.le_mul_of_pos_right _ og; omega, ?_⟩
   refine k6 (sr rfl fun k8 => (ja) ?_)
   refine ⟨by have h7 : s1.size <= s1.size * n1 := Nat.le_mul_of_pos_right _ og; omega, ?_⟩
   refine k8 (wg rfl ?_)
   simp only [go_sem, Int.reduceEq, hq2, hq3]
   refine (jr) ((jt) ((jt) ?_))
   refine ⟨(s1 ++ s1, if n1 % 2 = 1 then o1 ++ s1 else o1, n1 / 2), ⟨by show n1 / 2 <= 1000; omega, hz2, by rw [<- aEc s1 o1 n1 hne]; exact hm⟩, by show n1 / 2 < n1; omega, [], ?_⟩
   simp only [go_sem, hodd, if_true] <;> simp
 have hodd : ¬ n1 % 2 = 1 := by simp at hc2; omega
 refine wk (k6 (sr rfl fun k9 => (ja) ?_))
 refine ⟨by have h7 : s1.size <= s1.size * n1 := Nat.le_mul_of_pos_right _ og; omega, ?_⟩
 refine k9 (wg rfl ?_)
 simp only [go_sem, Int.reduceEq, hq2, hq3]
 refine (jr) ((jt) ((jt) ?_))
 refine ⟨(s1 ++ s1, if n1 % 2 = 1 then o1 ++ s1 else o1, n1 / 2), ⟨by show n1 / 2 <= 1000; omega, hz2, by rw [<- aEc s1 o1 n1 hne]; exact hm⟩, by show n1 / 2 < n1; omega, [], ?_⟩
 simp only [go_sem, hodd, if_false] <;> simp
def aTc (b : List UInt8) (p : Nat) (hb : b.length <= 2000) (hp : p <= 1000000000) : aP P 137 [.ptr 0 0] [(0, rdO b p)] 1 (Ns (ofZ aKh b p)) [(0, rdO b (p + 1))] 1 := by
 refine (gq 6 [.tmp 2] func137) ?_
 have hmx := mxl
 refine (aj) ?_
 refine sr rfl fun k2 => (ja) ((jr) ?_)
 refine bF 1 rfl ?_
 refine (Ad) ?_
 refine vO 0 rfl rfl rfl ⟨func113, rfl, rfl⟩ (jI b p hb hp aKh dg) (by simp only [go_sem, aKh]) (by simp only [go_sem, aKh]) (aC _ _ _) (aC _ _ _) oG oG ?_
 refine (Ai) ((jr) (k2 (wR ?_)))
 refine ⟨[], ?_⟩; exact jz
def mX (b : List UInt8) (p : Nat) (hb : b.length <= 2000) (hp : p + 10 <= 1000000000) (seq : Int) : aP P 100 [.ptr 0 0, Ni seq] [(0, rdO b p)] 1 (enA (rE b p seq)) [(0, rdO b (lN b p))] 1 := by
 refine (gq 28 [.cell 4 43] func100) ?_
 have hmx := mxl
 refine (aj) ?_
 refine sr rfl fun k2 => (ja) ((jr) ?_)
 refine vO 0 rfl rfl rfl ⟨func137, rfl, rfl⟩ (aTc b p hb og) oG oG (aC _ _ _) (aC _ _ _) oG oG ?_
 refine (Ai) ((jr) ?_)
 refine bF 2 rfl ?_
 refine (Ad) ?_
 refine vO 0 rfl rfl rfl ⟨func64, rfl, rfl⟩ (bD b (p + 1) hb og xL dg) (by simp only [go_sem, xL, List.map_cons, List.map_nil, inA]) (by simp only [go_sem, xL, List.map_cons, List.map_nil, inA]) (aC _ _ _) (aC _ _ _) oG oG ?_
 refine (Ai) ((jr) (k2 (aA fun k3 => (aj) ((cdB) ?_ ?_)))) <;> intro hc1
 . have hk1 : eS xL b (p + 1) = 2 := by simpa using hc1
   refine wk (k3 (aA fun k9 => (aj) ((cdA) ?_ ?_))) <;> intro hc3
   . exfalso
     rw [hk1] at hc3; simp at hc3
   have h9 : rE b p seq = ⟨ofZ aKh b p, seq, 2, ⟨#[]⟩, 0⟩ := by unfold rE; dsimp only; rw [if_pos hk1]
   have h8 : lN b p = p + 2 := by unfold lN; rw [if_pos hk1]
   refine wk (k9 ((aj) (wR ?_)))
   refine ⟨[], ?_⟩
   simp only [go_sem, h9, h8, hk1, enA, AObj.bel, AObj.ren, AV.ren, aB, sg] <;> simp
 have hk1 : ¬ eS xL b (p + 1) = 2 := by simpa using hc1
 refine wg rfl ((ja) ((jr) ?_))
 refine bF 4 rfl ?_
 refine (Ad) ?_
 refine vO 0 rfl rfl rfl ⟨func64, rfl, rfl⟩ (bD b (p + 2) hb og bBi dg) (by simp only [go_sem, bBi, List.map_cons, List.map_nil, inA]) (by simp only [go_sem, bBi, List.map_cons, List.map_nil, inA]) (aC _ _ _) (aC _ _ _) oG oG ?_
 refine (Ai) ((jr) (k3 (aA fun k5 => (aj) ((cdB) ?_ ?_)))) <;> intro hc2
 . have hk2 : ¬ eS xL b (p + 1) = 1 := by simpa using hc2
   have h9 : rE b p seq = ⟨ofZ aKh b p, seq, eS xL b (p + 1), ⟨#[]⟩, eS bBi b (p + 2)⟩ := by unfold rE; dsimp only; rw [if_neg hk1, if_neg hk2]
   have h8 : lN b p = p + 3 := by unfold lN; rw [if_neg hk1, if_neg hk2]
   refine wk (k5 ((aj) (wR ?_)))
   refine ⟨[], ?_⟩
   exact Bs h9 h8
 have hk2 : eS xL b (p + 1) = 1 := by simpa using hc2
 have h9 : rE b p seq = ⟨ofZ aKh b p, seq, 1, ofZ bDv b (p + 3), eS bBi b (p + 2)⟩ := by unfold rE; dsimp only; rw [if_neg hk1, if_pos hk2]
 have h8 : lN b p = p + 4 := by unfold lN; rw [if_neg hk1, if_pos hk2]
 refine wg rfl ((ja) ((jr) ?_))
 refine bF 5 rfl ?_
 refine (Ad) ?_
 refine vO 0 rfl rfl rfl ⟨func113, rfl, rfl⟩ (jI b (p + 3) hb og bDv dg) (by simp only [go_sem, bDv]) (by simp only [go_sem, bDv]) (aC _ _ _) (aC _ _ _) oG oG ?_
 refine (Ai) ((jr) (k5 ((aj) (wR ?_))))
 refine ⟨[], ?_⟩
 simp only [go_sem, h9, h8, hk2, enA, AObj.bel, AObj.ren, AV.ren, aB, sg] <;> simp
def iM (b : List UInt8) (p : Nat) (hb : b.length <= 2000) (hp : p + 10 <= 1000000000) (e : Entry) : aP P 101 [.ptr 0 0, enA e] [(0, rdO b p)] 1 (enA (iZ b p e)) [(0, rdO b (dW b p))] 1 := by
 refine (gq 40 [.cell 4 43] func101) ?_
 simp only [enA]
 have hmx := mxl
 refine (aj) ?_
 refine aA fun k2 => sr rfl fun k3 => (ja) ?_
 refine vO 0 rfl rfl rfl ⟨func62, rfl, rfl⟩ (aE b p hb og 48) oG oG (aC _ _ _) (aC _ _ _) oG oG ?_
 refine (Ai) (k3 (wb ((aj) ((cdA) ?_ ?_)))) <;> intro hc1
 . have hk1 : aD b 48 p = 0 := by simpa using hc1
   have h9 : iZ b p e = { e with key := ofZ aRc b (p + 1) } := by unfold iZ; rw [if_pos hk1]
   have h8 : dW b p = p + 2 := by unfold dW; rw [if_neg og]
   refine wg rfl ((ja) ((jr) ?_))
   refine bF 3 rfl ?_
   refine (Ad) ?_
   refine vO 0 rfl rfl rfl ⟨func113, rfl, rfl⟩ (jI b (p + 1) hb og aRc dg) (by simp only [go_sem, aRc]) (by simp only [go_sem, aRc]) (aC _ _ _) (aC _ _ _) oG oG ?_
   refine (Ai) ((jr) ((jt) (k2 ((aj) (wR ?_)))))
   refine ⟨[], ?_⟩
   exact Bs h9 h8
 have hk1 : ¬ aD b 48 p = 0 := by simpa using hc1
 refine (aj) ((cdA) ?_ ?_) <;> intro hc2
 . have hk2 : aD b 48 p = 1 := by simpa using hc2
   have h9 : iZ b p e = { e with seq := eS bIb b (p + 1) } := by unfold iZ; rw [if_neg hk1]; rw [if_pos hk2]
   have h8 : dW b p = p + 2 := by unfold dW; rw [if_neg og]
   refine wg rfl ((ja) ((jr) ?_))
   refine bF 3 rfl ?_
   refine (Ad) ?_
   refine vO 0 rfl rfl rfl ⟨func64, rfl, rfl⟩ (bD b (p + 1) hb og bIb dg) (by simp only [go_sem, bIb, List.map_cons, List.map_nil, inA]) (by simp only [go_sem, bIb, List.map_cons, List.map_nil, inA]) (aC _ _ _) (aC _ _ _) oG oG ?_
   refine (Ai) ((jr) ((jt) (k2 ((aj) (wR ?_)))))
   refine ⟨[], ?_⟩
   exact Bs h9 h8
 have hk2 : ¬ aD b 48 p = 1 := by simpa using hc2
 refine (aj) ((cdA) ?_ ?_) <;> intro hc3
 . have hk3 : aD b 48 p = 2 := by simpa using hc3
   have h9 : iZ b p e = { e with kind := eS aMq b (p + 1) } := by unfold iZ; rw [if_neg hk1]; rw [if_neg hk2]; rw [if_pos hk3]
   have h8 : dW b p = p + 2 := by unfold dW; rw [if_neg og]
   refine wg rfl ((ja) ((jr) ?_))
   refine bF 3 rfl ?_
   refine (Ad) ?_
   refine vO 0 rfl rfl rfl ⟨func64, rfl, rfl⟩ (bD b (p + 1) hb og aMq dg) (by simp only [go_sem, aMq, List.map_cons, List.map_nil, inA]) (by simp only [go_sem, aMq, List.map_cons, List.map_nil, inA]) (aC _ _ _) (aC _ _ _) oG oG ?_
   refine (Ai) ((jr) ((jt) (k2 ((aj) (wR ?_)))))
   refine ⟨[], ?_⟩
   exact Bs h9 h8
 have hk3 : ¬ aD b 48 p = 2 := by simpa using hc3
 refine (aj) ((cdA) ?_ ?_) <;> intro hc4
 . have hk4 : aD b 48 p = 3 := by simpa using hc4
   have h9 : iZ b p e = { e with n := eS aZc b (p + 1) } := by unfold iZ; rw [if_neg hk1]; rw [if_neg hk2]; rw [if_neg hk3]; rw [if_pos hk4]
   have h8 : dW b p = p + 2 := by unfold dW; rw [if_neg og]
   refine wg rfl ((ja) ((jr) ?_))
   refine bF 3 rfl ?_
   refine (Ad) ?_
   refine vO 0 rfl rfl rfl ⟨func64, rfl, rfl⟩ (bD b (p + 1) hb og aZc dg) (by simp only [go_sem, aZc, List.map_cons, List.map_nil, inA]) (by simp only [go_sem, aZc, List.map_cons, List.map_nil, inA]) (aC _ _ _) (aC _ _ _) oG oG ?_
   refine (Ai) ((jr) ((jt) (k2 ((aj) (wR ?_)))))
   refine ⟨[], ?_⟩
   exact Bs h9 h8
 have hk4 : ¬ aD b 48 p = 3 := by simpa using hc4
 refine (aj) ((cdB) ?_ ?_) <;> intro hc5
 . have hk5 : ¬ aD b 48 p = 4 := by simpa using hc5
   have h9 : iZ b p e = e := by unfold iZ; rw [if_neg hk1]; rw [if_neg hk2]; rw [if_neg hk3]; rw [if_neg hk4]; rw [if_neg hk5]
   have h8 : dW b p = p + 1 := by unfold dW; rw [if_pos (by have := (iT (b := b) (n := 48) (p := p) og).1; omega)]
   refine wk ((jt) (k2 ((aj) (wR ?_))))
   refine ⟨[], ?_⟩
   exact Bs h9 h8
 have hk5 : aD b 48 p = 4 := by simpa using hc5
 have h9 : iZ b p e = { e with text := ofZ aJw b (p + 1) } := by unfold iZ; rw [if_neg hk1]; rw [if_neg hk2]; rw [if_neg hk3]; rw [if_neg hk4]; rw [if_pos hk5]
 have h8 : dW b p = p + 2 := by unfold dW; rw [if_neg og]
 refine wg rfl ((ja) ((jr) ?_))
 refine (vr rfl rfl rfl func138 (aAe ⟨#[116]⟩ 60 dg dg) (by simp only [go_sem]; rfl) oG) ((jr) ?_)
 refine (vr rfl rfl rfl func138 (aAe ⟨#[116]⟩ 61 dg dg) (by simp only [go_sem]; rfl) oG) ((jr) ?_)
 refine bF 3 rfl ?_
 refine (Ad) ?_
 refine vO 0 rfl rfl rfl ⟨func113, rfl, rfl⟩ (jI b (p + 1) hb og aJw dg) (by simp only [go_sem, aJw]) (by simp only [go_sem, aJw]) (aC _ _ _) (aC _ _ _) oG oG ?_
 refine (Ai) ((jr) ((jt) (k2 ((aj) (wR ?_)))))
 refine ⟨[], ?_⟩
 exact Bs h9 h8
section
variable {p k : Nat} {ls : List Entry} {e : Entry}
def tM (b : List UInt8) : Nat -> Nat -> Int -> List Entry -> List Entry × Nat
  | 0, p, _, out => (out, p)
  | i + 1, p, seq, out => tM b i (lN b (p + 1) + 1) (seq + 1 + aD b 2 p) (if aD b 2 (lN b (p + 1)) = 0 then out ++ [rE b (p + 1) (seq + 1 + aD b 2 p)] else rE b (p + 1) (seq + 1 + aD b 2 p) :: out)
def aZ (b : List UInt8) (p : Nat) : List Entry × Nat := tM b (aD b 13 p).toNat (p + 1) 0 []
def aDs (ls : List Entry) : List Entry := ls.foldl cC []
def oneEnt : Entry := ⟨⟨#[97]⟩, 1, 1, ⟨#[]⟩, 2⟩
def cY (b : List UInt8) (p : Nat) : List Entry := if (aZ b p).1 = [] then [oneEnt] else aDs (aZ b p).1
def aNc (b : List UInt8) (p : Nat) (e : Entry) : Entry := iZ b (dW b (dW b p)) (iZ b (dW b p) (iZ b p e))
def vN (b : List UInt8) (p : Nat) : Nat := dW b (dW b (dW b p))
def xO : List Int := [1, -1, 65536]
def eR (b : List UInt8) (p : Nat) : Run × Nat :=
  let ls := cY b p
  let q := (aZ b p).2
  let k := (aD b (ls.length : Int) q).toNat
  let c := aD b 50 (q + 1)
  if c = 0 then (⟨ls, bV ls + eS xO b (q + 2)⟩, q + 3)
  else if c = 1 then (⟨ls.set k (aNc b (q + 2) ((ls[k]?).getD oneEnt)), bV ls⟩, vN b (q + 2))
  else if c = 2 then (⟨ls ++ [(ls[k]?).getD oneEnt], bV ls⟩, q + 2)
  else if c = 3 then (⟨[], bV ls⟩, q + 2)
  else if c = 4 then (⟨ls, 65535⟩, q + 2)
  else (⟨ls, bV ls⟩, q + 2)
def aAc (b : List UInt8) : Nat -> Nat -> List Entry -> List Entry × Nat
  | 0, p, out => (out, p)
  | i + 1, p, out => aAc b i (lN b p) (out ++ [rE b p 0])
def aCy (b : List UInt8) (p : Nat) : List Entry × Nat := aAc b (1 + aD b 5 p).toNat (p + 1) []
def pG (b : List UInt8) : Nat -> Nat -> List Entry -> List Entry × Nat
  | 0, p, out => (out, p + 1)
  | i + 1, p, out => if (out.length : Int) < 12 + aD b 2 p then pG b i (lN b (p + 1)) (out ++ [rE b (p + 1) 0]) else (out, p + 1)
def aQd : List Int := [1, -1]
def nV (b : List UInt8) (p : Nat) : List Entry × Nat :=
  let x := aCy b p
  let c := aD b 40 x.2
  if c = 0 then ([], x.2 + 1)
  else if c = 1 then (x.1.set 0 { (x.1[0]?).getD oneEnt with seq := eS aQd b (x.2 + 1) }, x.2 + 2)
  else if c = 2 then (x.1.set 0 (aNc b (x.2 + 1) ((x.1[0]?).getD oneEnt)), vN b (x.2 + 1))
  else if c = 3 then pG b (13 - x.1.length) (x.2 + 1) x.1
  else (x.1, x.2 + 1)
def aPe (b : List UInt8) : ∀ (i p : Nat) (seq : Int) (out : List Entry), (∀ e ∈ out, gA e) -> (∀ e ∈ (tM b i p seq out).1, gA e) /\ (tM b i p seq out).1.length = out.length + i /\ p <= (tM b i p seq out).2 /\ (tM b i p seq out).2 <= p + 6 * i
  | 0, p, seq, out, h => ⟨h, rfl, A0 _, A0 _⟩
  | i + 1, p, seq, out, h => by
    unfold tM
    have h1 := uX b (p + 1)
    have h3 : ∀ e ∈ (if aD b 2 (lN b (p + 1)) = 0 then out ++ [rE b (p + 1) (seq + 1 + aD b 2 p)] else rE b (p + 1) (seq + 1 + aD b 2 p) :: out), gA e := by
      have h4 := zJ b (p + 1) (seq + 1 + aD b 2 p)
      intro e he; split at he
      . rcases A6.1 he with h5 | h5
        . exact h e h5
        rw [B4.1 h5]; exact h4
      rcases A7.1 he with rfl | h5
      . exact h4
      exact h e h5
    have h4 : (if aD b 2 (lN b (p + 1)) = 0 then out ++ [rE b (p + 1) (seq + 1 + aD b 2 p)] else rE b (p + 1) (seq + 1 + aD b 2 p) :: out).length = out.length + 1 := by split <;> simp
    obtain ⟨k1, k2, k3, k4⟩ := aPe b i (lN b (p + 1) + 1) (seq + 1 + aD b 2 p) _ h3
    exact ⟨k1, by rw [k2, h4]; omega, og, og⟩
def aDn {b : List UInt8} (hp : p <= 1000000000) : (∀ e ∈ (aZ b p).1, gA e) /\ (aZ b p).1.length <= 12 /\ p <= (aZ b p).2 /\ (aZ b p).2 <= p + 73 := by
  have h1 := iT (b := b) (n := 13) (p := p) og
  have h2 := h1.2.1 og
  obtain ⟨k1, k2, k3, k4⟩ := aPe b (aD b 13 p).toNat (p + 1) 0 [] oS
  unfold aZ
  exact ⟨k1, by simp at k2; omega, og, og⟩
def aMp : ∀ (ls m : List Entry), (∀ e ∈ ls, gA e) -> (∀ e ∈ m, gA e) -> (∀ e ∈ ls.foldl cC m, gA e) /\ (ls.foldl cC m).length = m.length + ls.length
  | [], m, _, h => ⟨h, rfl⟩
  | x :: r, m, hr, h => by
    have := aMp r (cC m x) (fun e he => hr e (A5 _ he)) fun e he => by
      rcases aNr he with h1 | h1
      . rw [h1]; exact hr x A2
      exact h e h1
    rw [nZ] at this; simp only [List.foldl_cons, C5]
    exact ⟨this.1, og⟩
def aHl : gA oneEnt := by unfold gA oneEnt; decide
def aPt {b : List UInt8} (hp : p <= 1000000000) : (∀ e ∈ cY b p, gA e) /\ 1 <= (cY b p).length /\ (cY b p).length <= 12 := by
  obtain ⟨h1, h2, _⟩ := aDn (b := b) hp
  unfold cY; split
  . exact ⟨fun e he => by rw [B4.1 he]; exact aHl, by simp, by simp⟩
  rename_i h3
  obtain ⟨k1, k2⟩ := aMp (aZ b p).1 [] h1 oS
  unfold aDs
  have : 1 <= (aZ b p).1.length := by cases h4 : (aZ b p).1 with | nil => exact absurd h4 h3 | cons a l => simp
  simp at k2
  exact ⟨k1, og, og⟩
def bCc (h : ∀ e ∈ ls, gA e) (hl : ls.length <= 1000) : cZ ls := ⟨og, fun e he => by have := h e he; unfold gA at this; unfold aNq; omega⟩
def aLm {b : List UInt8} (h : gA e) : gA (aNc b p e) := aBs (aBs (aBs h))
def aQs (b : List UInt8) (p : Nat) : p + 3 <= vN b p /\ vN b p <= p + 6 := by
  unfold vN
  have h1 := sA b p
  have h2 := sA b (dW b p)
  have h3 := sA b (dW b (dW b p))
  omega
def aKl (h : ∀ e ∈ ls, gA e) (he : gA e) : ∀ x ∈ ls.set k e, gA x := fun x hx => by
  rcases List.mem_or_eq_of_mem_set hx with h1 | rfl
  . exact h x h1
  exact he
def zB (h : ∀ e ∈ ls, gA e) : gA ((ls[k]?).getD oneEnt) := by
  cases h1 : ls[k]? with
  | none => exact aHl
  | some x => exact h x (E4 h1)
def aWn {b : List UInt8} (hp : p <= 1000000000) : (∀ e ∈ (eR b p).1.ents, gA e) /\ (eR b p).1.ents.length <= 13 /\ p <= (eR b p).2 /\ (eR b p).2 <= p + 100 := by
  obtain ⟨h1, h2, h3⟩ := aPt (b := b) hp
  obtain ⟨_, _, g3, g4⟩ := aDn (b := b) hp
  have g5 := aQs b ((aZ b p).2 + 2)
  unfold eR
  dsimp only
  split
  . exact ⟨h1, by dsimp only; omega, by dsimp only; omega, by dsimp only; omega⟩
  split
  . exact ⟨aKl h1 (aLm (zB h1)), by simp only [D1]; omega, by dsimp only; omega, by dsimp only; omega⟩
  split
  . refine ⟨fun e he => ?_, by simp only [A4, C5, List.length_nil]; omega, by dsimp only; omega, by dsimp only; omega⟩
    rcases A6.1 he with h4 | h4
    . exact h1 e h4
    rw [B4.1 h4]; exact zB h1
  split
  . exact ⟨by simp, by simp, by dsimp only; omega, by dsimp only; omega⟩
  split
  . exact ⟨h1, by dsimp only; omega, by dsimp only; omega, by dsimp only; omega⟩
  exact ⟨h1, by dsimp only; omega, by dsimp only; omega, by dsimp only; omega⟩
def aWl (b : List UInt8) : ∀ (i p : Nat) (out : List Entry), (∀ e ∈ out, gA e) -> (∀ e ∈ (aAc b i p out).1, gA e) /\ (aAc b i p out).1.length = out.length + i /\ p <= (aAc b i p out).2 /\ (aAc b i p out).2 <= p + 4 * i
  | 0, p, out, h => ⟨h, rfl, A0 _, A0 _⟩
  | i + 1, p, out, h => by
    unfold aAc
    have h1 := uX b p
    obtain ⟨k1, k2, k3, k4⟩ := aWl b i (lN b p) (out ++ [rE b p 0]) fun e he => by
      rcases A6.1 he with h5 | h5
      . exact h e h5
      rw [B4.1 h5]; exact zJ b p 0
    exact ⟨k1, by rw [k2]; simp; omega, og, og⟩
def bCm {b : List UInt8} (hp : p <= 1000000000) : (∀ e ∈ (aCy b p).1, gA e) /\ 1 <= (aCy b p).1.length /\ (aCy b p).1.length <= 5 /\ p <= (aCy b p).2 /\ (aCy b p).2 <= p + 21 := by
  have h1 := iT (b := b) (n := 5) (p := p) og
  have h2 := h1.2.1 og
  obtain ⟨k1, k2, k3, k4⟩ := aWl b (1 + aD b 5 p).toNat (p + 1) [] oS
  unfold aCy; simp at k2
  exact ⟨k1, og, og, og, og⟩
def aPg (b : List UInt8) : ∀ (i p : Nat) (out : List Entry), (∀ e ∈ out, gA e) -> (∀ e ∈ (pG b i p out).1, gA e) /\ (pG b i p out).1.length <= out.length + i /\ p <= (pG b i p out).2 /\ (pG b i p out).2 <= p + 1 + 5 * i
  | 0, p, out, h => ⟨h, A0 _, Nat.le_succ _, A0 _⟩
  | i + 1, p, out, h => by
    unfold pG
    have h1 := uX b (p + 1)
    split
    . obtain ⟨k1, k2, k3, k4⟩ := aPg b i (lN b (p + 1)) (out ++ [rE b (p + 1) 0]) fun e he => by
        rcases A6.1 he with h5 | h5
        . exact h e h5
        rw [B4.1 h5]; exact zJ b (p + 1) 0
      simp at k2
      exact ⟨k1, og, og, og⟩
    . exact ⟨h, by dsimp only; omega, by dsimp only; omega, by dsimp only; omega⟩
def bCi {b : List UInt8} (hp : p <= 1000000000) : (∀ e ∈ (nV b p).1, gA e) /\ (nV b p).1.length <= 13 /\ p <= (nV b p).2 /\ (nV b p).2 <= p + 100 := by
  obtain ⟨h1, h2, h3, g3, g4⟩ := bCm (b := b) hp
  have g5 := aQs b ((aCy b p).2 + 1)
  have g6 := aPg b (13 - (aCy b p).1.length) ((aCy b p).2 + 1) (aCy b p).1 h1
  unfold nV
  dsimp only
  split
  . exact ⟨by simp, by simp, by dsimp only; omega, by dsimp only; omega⟩
  split
  . refine ⟨aKl h1 ?_, by simp only [D1]; omega, by dsimp only; omega, by dsimp only; omega⟩
    exact zB (k := 0) h1
  split
  . exact ⟨aKl h1 (aLm (zB h1)), by simp only [D1]; omega, by dsimp only; omega, by dsimp only; omega⟩
  split
  . exact ⟨g6.1, og, og, og⟩
  exact ⟨h1, by dsimp only; omega, by dsimp only; omega, by dsimp only; omega⟩
def aSo (ls : List Entry) : 0 <= bV ls /\ bV ls <= 65535 := by
  have key : ∀ (r : List Entry) (m : Int), 0 <= m /\ m <= 65535 -> 0 <= r.foldl jS m /\ r.foldl jS m <= 65535 := by
    intro r
    induction r with
    | nil => exact fun m h => h
    | cons x r ih => exact fun m _ => ih _ (by unfold jS; exact pM _ _)
  exact key ls 0 og
def bCv (ls : List Entry) (l : Entry) : fzL (ls.map enA ++ [.agg [Ns l.key, Ni l.seq, Ni l.kind, Ns l.text, Ni l.n]]) = (ls ++ [l]).map enA := by
  have h : ls.map enA ++ [.agg [.raw (.string l.key), .raw (.int .i64 l.seq), .raw (.int .i64 l.kind), .raw (.string l.text), .raw (.int .i64 l.n)]] = (ls ++ [l]).map enA := by rw [D9]; rfl
  rw [h, eZ]
def aZl (ls : List Entry) (k : Nat) (l : Entry) : fzL ((ls.map enA).set k (.agg [Ns l.key, Ni l.seq, Ni l.kind, Ns l.text, Ni l.n])) = (ls.set k l).map enA := by
  have h : (ls.map enA).set k (.agg [.raw (.string l.key), .raw (.int .i64 l.seq), .raw (.int .i64 l.kind), .raw (.string l.text), .raw (.int .i64 l.n)]) = (ls.set k l).map enA := by rw [List.map_set]; rfl
  rw [h, eZ]
def aOh (b : List UInt8) (p : Nat) (hb : b.length <= 2000) (hp : p + 100 <= 1000000000) : aP P 190 [.ptr 0 0, Ni 12] [(0, rdO b p)] 1 (.sl 5 ((aZ b p).1.map enA)) [(0, rdO b ((aZ b p).2))] 1 := by
 refine (gq 38 [.tmp 4] func190) ?_
 have hmx := mxl
 have hpk := iT (b := b) (n := 13) (p := p) og
 have hpk2 := hpk.2.1 og
 obtain ⟨m, hm⟩ := Int.eq_ofNat_of_zero_le hpk.1
 have hm2 : (aD b 13 p).toNat = m := by omega
 refine (aj) ?_
 refine sr rfl fun k2 => (ja) ((jr) (k2 ((aj) ?_)))
 refine aA fun k4 => ?_
 have hw13 := wr (13) (13) og
 refine sr rfl fun k5 => ?_
 simp only [go_sem, Int.reduceAdd, hw13]
 refine vO 0 rfl rfl rfl ⟨func62, rfl, rfl⟩ (aE b (p) hb og 13) oG oG (aC _ _ _) (aC _ _ _) oG oG ?_
 refine (Bd hm) (k5 (wb ?_))
 refine wl (α := Nat × Nat × Int × List Entry) (fun x => x.1 <= 12 /\ p + 1 <= x.2.1 /\ x.2.1 + 6 * x.1 <= p + 73 /\ 0 <= x.2.2.1 /\ x.2.2.1 + 2 * x.1 <= 24 /\ x.2.2.2.length + x.1 <= 12 /\ tM b x.1 x.2.1 x.2.2.1 x.2.2.2 = aZ b p) (fun x => x.1) (fun x => ([(0, .ptr 0 0), (5, .ref 1), (6, Ni x.2.2.1), (7, Ni (x.1 : Int))], [(0, rdO b x.2.1), (1, .row 43 5 ((x.2.2.2).map enA))])) 2 (m, p + 1, 0, []) ⟨by show m <= 12; omega, A0 _, by show p + 1 + 6 * m <= _; omega, Int.le_refl _, by show (0 : Int) + 2 * (m : Int) <= 24; omega, by show 0 + m <= 12; omega, by unfold aZ; rw [hm2]⟩ [] ?_ ?_
 . simp only [go_sem, AObj.bel, AObj.ren, AV.ren, aB, sg, hm, List.map_nil, Int.natCast_zero] <;> simp
 rintro ⟨i0, q, seq, out⟩ ⟨hi, hq0, hq1, hs0, hs1, hol, hgo⟩
 simp only at hi hq0 hq1 hs0 hs1 hol hgo ⊢
 refine aA fun k6 => (aj) ((cdB) ?_ ?_) <;> intro hc1
 . have hi0 : i0 = 0 := by simp at hc1; omega
   subst hi0; unfold tM at hgo
   have h1 : (aZ b p).1 = out := by rw [<- hgo]
   have h2 : (aZ b p).2 = q := by rw [<- hgo]
   refine we ((jt) (k4 ((aj) ?_)))
   refine aFz 1 rfl ?_
   refine (Ad) (wR ?_)
   refine ⟨[], ?_⟩
   simp only [go_sem, h1, h2, AObj.bel, AObj.ren, AV.ren, aB, sg] <;> simp
 obtain ⟨i, rfl⟩ : ∃ i, i0 = i + 1 := ⟨i0 - 1, by simp at hc1; omega⟩
 have hel := uX b (q + 1)
 unfold tM at hgo
 refine wk (k6 (aA fun k8 => wb ?_))
 have hws := wr (seq + 1) (seq + 1) og
 have hpq := iT (b := b) (n := 2) (p := q) og
 have hpq2 := hpq.2.1 og
 have hwq := wr (seq + 1 + aD b 2 q) (seq + 1 + aD b 2 q) og
 refine sr rfl fun k9 => (Aa hws) ?_
 refine vO 0 rfl rfl rfl ⟨func62, rfl, rfl⟩ (aE b (q) hb og 2) oG oG (aC _ _ _) (aC _ _ _) oG oG ?_
 refine (Bd hwq) (k9 (sr rfl fun k10 => (ja) ?_))
 refine vO 0 rfl rfl rfl ⟨func100, rfl, rfl⟩ (mX b (q + 1) hb og (seq + 1 + aD b 2 q)) oG oG (aC _ _ _) (aC _ _ _) (eL _ _) oG ?_
 simp only [go_sem, Nat.add_zero, enA]
 refine k10 (sr rfl fun k11 => (ja) ?_)
 refine vO 0 rfl rfl rfl ⟨func62, rfl, rfl⟩ (aE b (lN b (q + 1)) hb og 2) oG oG (aC _ _ _) (aC _ _ _) oG oG ?_
 refine (Ai) (k11 ((cdA) ?_ ?_)) <;> intro hc2
 . have hz : aD b 2 (lN b (q + 1)) = 0 := by simpa using hc2
   rw [if_pos hz] at hgo
   refine wg rfl ((Av) ((jr) ((jt) (k8 ?_))))
   have hwi := wr (((i + 1 : Nat) : Int) - 1) ((i : Int)) og
   refine wg rfl ((Aa hwi) ((jt) ?_))
   refine ⟨(i, lN b (q + 1) + 1, (seq + 1 + aD b 2 q), out ++ [rE b (q + 1) (seq + 1 + aD b 2 q)]), ⟨by show i <= 12; omega, by show p + 1 <= lN b (q + 1) + 1; omega, by show lN b (q + 1) + 1 + 6 * i <= _; omega, by show 0 <= (seq + 1 + aD b 2 q); omega, by show (seq + 1 + aD b 2 q) + 2 * (i : Int) <= 24; omega, by simp only [A4, List.length_singleton]; omega, hgo⟩, by show i < i + 1; omega, [(1, 4)], ?_⟩
   exact Cn
 have hz : ¬ aD b 2 (lN b (q + 1)) = 0 := by simpa using hc2
 rw [if_neg hz] at hgo
 refine wg rfl ((Av) ((jr) ((jt) (k8 ?_))))
 have hwi := wr (((i + 1 : Nat) : Int) - 1) ((i : Int)) og
 refine wg rfl ((Aa hwi) ((jt) ?_))
 refine ⟨(i, lN b (q + 1) + 1, (seq + 1 + aD b 2 q), rE b (q + 1) (seq + 1 + aD b 2 q) :: out), ⟨by show i <= 12; omega, by show p + 1 <= lN b (q + 1) + 1; omega, by show lN b (q + 1) + 1 + 6 * i <= _; omega, by show 0 <= (seq + 1 + aD b 2 q); omega, by show (seq + 1 + aD b 2 q) + 2 * (i : Int) <= 24; omega, by simp only [C5]; omega, hgo⟩, by show i < i + 1; omega, [(1, 4)], ?_⟩
 exact Cn
def aOq (ls : List Entry) (hz : ls.length <= 1000) : aP P 189 [.sl 5 (ls.map enA)] [] 0 (.ref 0) [(0, .row 43 5 ((aDs ls).map enA))] 1 := by
 refine (gq 19 [.tmp 2] func189) ?_
 have hmx := mxl
 refine (aj) ?_
 refine sr rfl fun k2 => (ja) ((jr) (k2 (aA fun k3 => (aj) (wb ?_))))
 refine wl (α := Nat × List Entry) (fun x => x.1 <= ls.length /\ x.2.length = x.1 /\ (ls.drop x.1).foldl cC x.2 = aDs ls) (fun x => ls.length - x.1) (fun x => ([(0, .sl 5 (ls.map enA)), (3, .ref 0), (4, Ni (x.1 : Int))], [(0, .row 43 5 ((x.2).map enA))])) 1 (0, []) ⟨A3 _, rfl, rfl⟩ [] ?_ ?_
 . exact Br
 rintro ⟨i, out⟩ ⟨hi, hol, hgo⟩
 simp only at hi hol hgo ⊢
 refine aA fun k5 => (aj) ((cdB) ?_ ?_) <;> intro hc1
 . have hge := gec hc1
   have hie : i = ls.length := by omega
   rw [E5 hge] at hgo
   have h9 : aDs ls = out := hgo.symm
   refine we ((jt) (k3 ((aj) (wR ?_))))
   refine ⟨[], ?_⟩
   exact Au h9
 obtain ⟨hlt, l, hl, hdrop, hml⟩ := ixc hc1
 refine wk (k5 (aA fun k7 => wb (wg rfl ((Am hl) ((jr) ?_)))))
 refine vC (fun hN => bKn [0] (xs := [.ref 0, enA l]) rfl rfl rfl ⟨func125, rfl, rfl⟩ hN (xA out l og) oS dg Af (by simp [aIg, xS, wX, Abs.get, fzL, AV.fz, eZ, enA]) Af rfl (fun p hp => by rw [B4.1 hp]; exact bFi _)) (.inr dg) ?_
 simp only [go_sem, AV.ren, AObj.ren, aB, shift, sg, id, A0, Nat.add_zero, Nat.sub_self]
 refine (jr) ((jt) (k7 ((jw (wiS i og)) ((jt) ?_))))
 refine ⟨(i + 1, cC out l), ⟨by show i + 1 <= _; omega, by simp only [nZ]; omega, by rw [hdrop] at hgo; exact hgo⟩, og, [(0, 1)], ?_⟩
 exact jz
def aOw (b : List UInt8) (p : Nat) (hb : b.length <= 2000) (hp : p + 100 <= 1000000000) : aP P 167 [.ptr 0 0, Ni 12] [(0, rdO b p)] 1 (.ref 1) [(0, rdO b (aZ b p).2), (1, .row 43 5 ((aDs (aZ b p).1).map enA))] 2 := by
 refine (gq 9 [.tmp 4] func167) ?_
 have hlz := aDn (b := b) (p := p) og
 refine (aj) ?_
 refine sr rfl fun k2 => (ja) ?_
 refine vO 0 rfl rfl rfl ⟨func190, rfl, rfl⟩ (aOh b p hb hp) oG oG (aC _ _ _) (aC _ _ _) oG oG ?_
 refine (Ai) ?_
 refine vn 1 rfl rfl rfl ⟨func189, rfl, rfl⟩ (aOq (aZ b p).1 og) oG oG oS dg ?_
 refine (jn) (k2 (wR ?_))
 refine ⟨[], ?_⟩; exact jz
def aMg (ls : List Entry) (hz : cZ ls) : aP P 168 [.ref 0] [(0, .row 43 5 ((ls).map enA))] 1 (.agg [.ref 0, Ni (bV ls)]) [(0, .row 43 5 ((ls).map enA))] 1 := by
 refine (gq 7 [.cell 2 105] func168) ((aj) ?_)
 refine sr rfl fun k2 => (ja) ?_
 refine vl [0] (xs := [.ref 0]) rfl rfl rfl ⟨func152, rfl, rfl⟩ (tN ls hz) oG (by simp [aIg, xS, wX, Abs.get, fzL, AV.fz, eZ]) oG rfl ?_
 refine (ja) (k2 (wR ?_))
 refine ⟨[], ?_⟩; exact jz
def aOy (b : List UInt8) (p : Nat) (hb : b.length <= 2000) (hp : p + 200 <= 1000000000) : aP P 148 [.ptr 0 0] [(0, rdO b p)] 1 (rA (eR b p).1) [(0, rdO b ((eR b p).2))] 1 := by
 refine (gq 67 [.cell 2 105] func148) ?_
 have hmx := mxl
 have hlz := aDn (b := b) (p := p) og
 have hdl := aPt (b := b) (p := p) og
 have hmz := bCc hdl.1 og
 have hkq := aTk (b := b) (p := (aZ b p).2) (ls := cY b p) og hdl.2.1
 obtain ⟨hk0, hk1, l, hlx⟩ := hkq
 refine (aj) ?_
 refine sr rfl fun k2 => (ja) ?_
 refine vg [(0, 0)] 1 rfl rfl rfl ⟨func167, rfl, rfl⟩ (aOw b p hb og) rfl (by simp only [go_sem, AV.ren, aB, sg]) oG (bHu (.inr ⟨0, rfl⟩) (by rw [AObj.ren_no (aC _ _ _)]; simp only [go_sem, sg]) (aC _ _ _) oS rfl dg) (.inr dg) ?_
 refine (jn) (k2 ?_)
 refine yZ (α := Unit) (fun x => True) (fun x => ([(0, .ptr 0 0), (2, .ptr 1 0), (3, .ref 2)], [(0, rdO b (aZ b p).2), (1, .cells 105 [.raw (.slice none 0 0), Ni 0]), (2, .row 43 5 (((cY b p)).map enA))])) 3 ?_ ?_
 . refine (aj) ((cdB) ?_ ?_) <;> intro hc1
   . have he : ¬ (aZ b p).1 = [] := fun h => by rw [h] at hc1; simp [aDs] at hc1
     have h8 : cY b p = aDs (aZ b p).1 := by unfold cY; rw [if_neg he]
     refine wk ?_; try simp only [aFo]
     refine ⟨(), trivial, [], ?_⟩
     exact Au h8
   have he : (aZ b p).1 = [] := by
     have h7 := aMp (aZ b p).1 [] hlz.1 oS
     unfold aDs at hc1; rw [h7.2] at hc1
     exact G6 (by simpa using hc1)
   have h8 : cY b p = [oneEnt] := by unfold cY; rw [if_pos he]
   refine wg rfl ((ja) ((jr) ?_))
   try simp only [aFo]
   refine ⟨(), trivial, [(2, 3)], ?_⟩
   simp only [go_sem, h8, AObj.bel, AObj.ren, AV.ren, aB, sg, oneEnt, enA, List.map_cons, List.map_nil] <;> simp
 rintro ⟨⟩ -
 refine sr rfl fun k5 => (ja) ?_
 refine vg [(0, 2)] 0 rfl rfl rfl ⟨func168, rfl, rfl⟩ (aMg (cY b p) hmz) rfl (by simp only [go_sem, AV.ren, aB, sg]) oG (mT (H1 := []) (.inr ⟨2, rfl⟩) (by simp only [go_sem, sg, AObj.ren]) Cc) (.inl rfl) ?_
 refine (jn) (k5 (sr rfl fun k6 => (ja) ?_))
 refine vO 0 rfl rfl rfl ⟨func62, rfl, rfl⟩ (aE b ((aZ b p).2) hb og ((cY b p).length : Int)) oG oG (aC _ _ _) (aC _ _ _) oG oG ?_
 refine (Ai) (k6 (aA fun k7 => sr rfl fun k8 => (ja) ?_))
 refine vO 0 rfl rfl rfl ⟨func62, rfl, rfl⟩ (aE b ((aZ b p).2 + 1) hb og 50) oG oG (aC _ _ _) (aC _ _ _) oG oG ?_
 refine (Ai) (k8 (wb ((aj) ((cdA) ?_ ?_)))) <;> intro hc2
 . have hk1 : aD b 50 ((aZ b p).2 + 1) = 0 := by simpa using hc2
   have h9 : eR b p = (⟨(cY b p), bV (cY b p) + eS xO b ((aZ b p).2 + 2)⟩, (aZ b p).2 + 3) := by unfold eR; dsimp only; rw [if_pos hk1]
   have hmo := aSo (cY b p)
   have hnm := aIs xO b ((aZ b p).2 + 2)
   have hnm2 : -1 <= eS xO b ((aZ b p).2 + 2) /\ eS xO b ((aZ b p).2 + 2) <= 65536 := by
     rcases hnm with h | h
     . omega
     exact (by decide : ∀ x ∈ xO, (-1 : Int) <= x /\ x <= 65536) _ h
   have hwm := wr (bV (cY b p) + eS xO b ((aZ b p).2 + 2)) (bV (cY b p) + eS xO b ((aZ b p).2 + 2)) og
   refine ddT 3 mixed rfl ?_
   refine (Aa hwm) ((jr) ?_)
   refine aN (fun hN => uF (e := 3) (sz := 1) (xs := [Ni 1, Ni (-1), Ni 65536]) rfl hN oG trivial oS) (.inr dg) ?_
   simp only [go_sem, fzL, AV.fz, hwm]
   refine (jr) ?_
   refine tO 0 rfl rfl rfl ⟨func64, rfl, rfl⟩ (bD b ((aZ b p).2 + 2) hb og xO dg) (by simp only [go_sem, xO, List.map_cons, List.map_nil, inA]) (by simp only [go_sem, xO, List.map_cons, List.map_nil, inA]) (aC _ _ _) (aC _ _ _) oG oG ?_
   refine (Bd hwm) ((jr) ((jy) ((jt) (k7 ((aj) ?_)))))
   refine aFz 2 rfl ?_
   refine (Ad) (wR ?_)
   refine ⟨[], ?_⟩
   exact Co h9
 have hk1 : ¬ aD b 50 ((aZ b p).2 + 1) = 0 := by simpa using hc2
 refine (aj) ((cdA) ?_ ?_) <;> intro hc3
 . have hk2 : aD b 50 ((aZ b p).2 + 1) = 1 := by simpa using hc3
   have h9 : eR b p = (⟨(cY b p).set (aD b ((cY b p).length : Int) (aZ b p).2).toNat (aNc b ((aZ b p).2 + 2) (((cY b p)[(aD b ((cY b p).length : Int) (aZ b p).2).toNat]?).getD oneEnt)), bV (cY b p)⟩, vN b ((aZ b p).2 + 2)) := by unfold eR; dsimp only; rw [if_neg hk1]; rw [if_pos hk2]
   rw [hlx, Option.getD_some] at h9
   have hb1 := sA b ((aZ b p).2 + 2)
   have hb2 := sA b (dW b ((aZ b p).2 + 2))
   refine dA mixed rfl ?_
   simp only [go_sem, hlx, enA, Int.toNat_natCast]
   refine (jr) ?_
   refine tO 0 rfl rfl rfl ⟨func101, rfl, rfl⟩ (iM b ((aZ b p).2 + 2) hb og (l)) Af Af (aC _ _ _) (aC _ _ _) (eL _ _) oG ?_
   simp only [go_sem, Nat.add_zero, enA, hlx]
   refine (jr) ?_
   refine tO 0 rfl rfl rfl ⟨func101, rfl, rfl⟩ (iM b (dW b ((aZ b p).2 + 2)) hb og (iZ b ((aZ b p).2 + 2) l)) Af Af (aC _ _ _) (aC _ _ _) (eL _ _) oG ?_
   simp only [go_sem, Nat.add_zero, enA, hlx]
   refine (jr) ?_
   refine tO 0 rfl rfl rfl ⟨func101, rfl, rfl⟩ (iM b (dW b (dW b ((aZ b p).2 + 2))) hb og (iZ b (dW b ((aZ b p).2 + 2)) (iZ b ((aZ b p).2 + 2) l))) Af Af (aC _ _ _) (aC _ _ _) (eL _ _) oG ?_
   simp only [go_sem, Nat.add_zero, enA, hlx]
   refine (jr) ((jy) ((jt) (k7 ((aj) ?_))))
   refine aFz 2 rfl ?_
   simp only [go_sem, fzL, AV.fz, aZl]; refine wR ?_; refine ⟨[], ?_⟩
   simp only [go_sem, h9, rA, aNc, vN, AObj.bel, AObj.ren, AV.ren, aB, sg] <;> simp
 have hk2 : ¬ aD b 50 ((aZ b p).2 + 1) = 1 := by simpa using hc3
 refine (aj) ((cdA) ?_ ?_) <;> intro hc4
 . have hk3 : aD b 50 ((aZ b p).2 + 1) = 2 := by simpa using hc4
   have h9 : eR b p = (⟨(cY b p) ++ [((cY b p)[(aD b ((cY b p).length : Int) (aZ b p).2).toNat]?).getD oneEnt], bV (cY b p)⟩, (aZ b p).2 + 2) := by unfold eR; dsimp only; rw [if_neg hk1]; rw [if_neg hk2]; rw [if_pos hk3]
   rw [hlx, Option.getD_some] at h9
   refine dA mixed rfl ?_
   simp only [go_sem, hlx, enA, B3, A4, List.nil_append, A8, B1]
   refine (jr) ((jy) ((jt) (k7 ((aj) ?_))))
   refine aFz 5 rfl ?_
   simp only [go_sem, fzL, AV.fz, bCv]; refine wR ?_; refine ⟨[], ?_⟩
   exact Co h9
 have hk3 : ¬ aD b 50 ((aZ b p).2 + 1) = 2 := by simpa using hc4
 refine (aj) ((cdA) ?_ ?_) <;> intro hc5
 . have hk4 : aD b 50 ((aZ b p).2 + 1) = 3 := by simpa using hc5
   have h9 : eR b p = (⟨[], bV (cY b p)⟩, (aZ b p).2 + 2) := by unfold eR; dsimp only; rw [if_neg hk1]; rw [if_neg hk2]; rw [if_neg hk3]; rw [if_pos hk4]
   refine wg rfl ((ja) ((jr) ((jt) (k7 ((aj) ?_)))))
   refine aFz 4 rfl ?_
   refine (Ad) (wR ?_)
   refine ⟨[], ?_⟩
   simp only [go_sem, h9, rA, List.map_nil, AObj.bel, AObj.ren, AV.ren, aB, sg] <;> simp
 have hk4 : ¬ aD b 50 ((aZ b p).2 + 1) = 3 := by simpa using hc5
 refine (aj) ((cdA) ?_ ?_) <;> intro hc6
 . have hk5 : aD b 50 ((aZ b p).2 + 1) = 4 := by simpa using hc6
   have h9 : eR b p = (⟨(cY b p), 65535⟩, (aZ b p).2 + 2) := by unfold eR; dsimp only; rw [if_neg hk1]; rw [if_neg hk2]; rw [if_neg hk3]; rw [if_neg hk4]; rw [if_pos hk5]
   refine wg rfl ((ja) ((jt) (k7 ((aj) ?_))))
   refine aFz 2 rfl ?_
   refine (Ad) (wR ?_)
   refine ⟨[], ?_⟩
   exact Co h9
 have hk5 : ¬ aD b 50 ((aZ b p).2 + 1) = 4 := by simpa using hc6
 have h9 : eR b p = (⟨(cY b p), bV (cY b p)⟩, (aZ b p).2 + 2) := by unfold eR; dsimp only; rw [if_neg hk1]; rw [if_neg hk2]; rw [if_neg hk3]; rw [if_neg hk4]; rw [if_neg hk5]
 refine wk ((jt) (k7 ((aj) ?_)))
 refine aFz 2 rfl ?_
 refine (Ad) (wR ?_)
 refine ⟨[], ?_⟩
 exact Co h9
def aKa (b : List UInt8) (p : Nat) (hb : b.length <= 2000) (hp : p + 200 <= 1000000000) : aP P 49 [.ptr 0 0] [(0, rdO b p)] 1 (.sl 5 ((nV b p).1.map enA)) [(0, rdO b ((nV b p).2))] 1 := by
 refine (gq 58 [.tmp 2] func49) ?_
 have hmx := mxl
 have hpk := iT (b := b) (n := 5) (p := p) og
 have hpk2 := hpk.2.1 og
 obtain ⟨m, hm⟩ := Int.eq_ofNat_of_zero_le (show 0 <= 1 + aD b 5 p by omega)
 have hm2 : (1 + aD b 5 p).toNat = m := by omega
 refine (aj) ?_
 refine sr rfl fun k2 => (ja) ((jr) (k2 (aA fun k3 => ?_)))
 have hwm := wr ((m : Int)) ((m : Int)) og
 refine sr rfl fun k4 => (As hwm hm) ?_
 refine vO 0 rfl rfl rfl ⟨func62, rfl, rfl⟩ (aE b (p) hb og 5) oG oG (aC _ _ _) (aC _ _ _) oG oG ?_
 simp only [go_sem, Nat.add_zero, hwm, hm]
 refine k4 (wb ?_)
 refine wl (α := Nat × Nat × List Entry) (fun x => x.1 <= 5 /\ p + 1 <= x.2.1 /\ x.2.1 + 4 * x.1 <= p + 21 /\ x.2.2.length + x.1 <= 5 /\ aAc b x.1 x.2.1 x.2.2 = aCy b p) (fun x => x.1) (fun x => ([(0, .ptr 0 0), (3, .ref 1), (4, Ni (x.1 : Int))], [(0, rdO b x.2.1), (1, .row 43 5 ((x.2.2).map enA))])) 2 (m, p + 1, []) ⟨by show m <= 5; omega, A0 _, by show p + 1 + 4 * m <= _; omega, by show 0 + m <= 5; omega, by unfold aCy; rw [hm2]⟩ [] ?_ ?_
 . simp only [go_sem, AObj.bel, AObj.ren, AV.ren, aB, sg, List.map_nil] <;> simp
 rintro ⟨i0, q, out⟩ ⟨hi, hq0, hq1, hol, hgo⟩
 simp only at hi hq0 hq1 hol hgo ⊢
 refine aA fun k5 => (aj) ((cdA) ?_ ?_) <;> intro hc1
 . obtain ⟨i, rfl⟩ : ∃ i, i0 = i + 1 := ⟨i0 - 1, by simp at hc1; omega⟩
   have hel := uX b q
   unfold aAc at hgo
   refine wk (k5 (aA fun k7 => wb (wg rfl ((Av) ((jr) ?_)))))
   refine vO 0 rfl rfl rfl ⟨func100, rfl, rfl⟩ (mX b q hb og 0) oG oG (aC _ _ _) (aC _ _ _) (eL _ _) oG ?_
   refine (Cy) ((jr) ((jt) (k7 ?_)))
   have hwi := wr (((i + 1 : Nat) : Int) - 1) ((i : Int)) og
   refine wg rfl ((Aa hwi) ((jt) ?_))
   refine ⟨(i, lN b q, out ++ [rE b q 0]), ⟨by show i <= 5; omega, by show p + 1 <= lN b q; omega, by show lN b q + 4 * i <= _; omega, by simp only [A4, List.length_singleton]; omega, hgo⟩, by show i < i + 1; omega, [(1, 3)], ?_⟩
   exact Cn
 have hi0 : i0 = 0 := by simp at hc1; omega
 subst hi0; unfold aAc at hgo
 have h0 : aCy b p = (out, q) := hgo.symm
 have hbo := bCm (b := b) (p := p) og
 rw [h0] at hbo
 simp only at hbo
 obtain ⟨l0, hl0⟩ : ∃ l, out[0]? = some l := ⟨_, A1 (show 0 < out.length by omega)⟩
 refine we ((jt) (k3 (aA fun k8 => sr rfl fun k9 => (ja) ?_)))
 refine vO 0 rfl rfl rfl ⟨func62, rfl, rfl⟩ (aE b (q) hb og 40) oG oG (aC _ _ _) (aC _ _ _) oG oG ?_
 refine (Ai) (k9 (wb ((aj) ((cdA) ?_ ?_)))) <;> intro hc2
 . have hk1 : aD b 40 q = 0 := by simpa using hc2
   have h9 : nV b p = ([], q + 1) := by unfold nV; dsimp only; rw [h0]; dsimp only; rw [if_pos hk1]
   refine sr rfl fun k11 => (ja) ((jr) (k11 ?_))
   refine aFz 2 rfl ?_
   refine (Ad) (wR ((Ah) ?_))
   refine ⟨[], ?_⟩
   simp only [go_sem, h9, List.map_nil, AObj.bel, AObj.ren, AV.ren, aB, sg] <;> simp
 have hk1 : ¬ aD b 40 q = 0 := by simpa using hc2
 refine (aj) ((cdA) ?_ ?_) <;> intro hc3
 . have hk2 : aD b 40 q = 1 := by simpa using hc3
   have h9 : nV b p = (out.set 0 { (out[0]?).getD oneEnt with seq := eS aQd b (q + 1) }, q + 2) := by unfold nV; dsimp only; rw [h0]; dsimp only; rw [if_neg hk1]; rw [if_pos hk2]
   rw [hl0, Option.getD_some] at h9
   have hfz := aZl out 0 { l0 with seq := eS aQd b (q + 1) }
   dsimp only at hfz
   refine wg rfl ((ja) ((jr) ?_))
   refine bF 2 rfl ?_
   refine (Ad) ?_
   refine vO 0 rfl rfl rfl ⟨func64, rfl, rfl⟩ (bD b (q + 1) hb og aQd dg) (by simp only [go_sem, aQd, List.map_cons, List.map_nil, inA]) (by simp only [go_sem, aQd, List.map_cons, List.map_nil, inA]) (aC _ _ _) (aC _ _ _) oG oG ?_
   refine (Cp hl0) ((jr) ((jt) (k8 ((aj) ?_))))
   refine aFz 1 rfl ?_
   simp only [go_sem, fzL, AV.fz, hfz]; refine wR ?_; refine ⟨[], ?_⟩
   exact Au h9
 have hk2 : ¬ aD b 40 q = 1 := by simpa using hc3
 refine (aj) ((cdA) ?_ ?_) <;> intro hc4
 . have hk3 : aD b 40 q = 2 := by simpa using hc4
   have h9 : nV b p = (out.set 0 (aNc b (q + 1) ((out[0]?).getD oneEnt)), vN b (q + 1)) := by unfold nV; dsimp only; rw [h0]; dsimp only; rw [if_neg hk1]; rw [if_neg hk2]; rw [if_pos hk3]
   rw [hl0, Option.getD_some] at h9
   have hb1 := sA b (q + 1)
   have hb2 := sA b (dW b (q + 1))
   refine wg rfl ((Ce hl0) ((jr) ?_))
   refine vO 0 rfl rfl rfl ⟨func101, rfl, rfl⟩ (iM b (q + 1) hb og (l0)) Af Af (aC _ _ _) (aC _ _ _) (eL _ _) oG ?_
   refine (Cp hl0) ((jr) ?_)
   refine vO 0 rfl rfl rfl ⟨func101, rfl, rfl⟩ (iM b (dW b (q + 1)) hb og (iZ b (q + 1) l0)) Af Af (aC _ _ _) (aC _ _ _) (eL _ _) oG ?_
   refine (Cp hl0) ((jr) ?_)
   refine vO 0 rfl rfl rfl ⟨func101, rfl, rfl⟩ (iM b (dW b (dW b (q + 1))) hb og (iZ b (dW b (q + 1)) (iZ b (q + 1) l0))) Af Af (aC _ _ _) (aC _ _ _) (eL _ _) oG ?_
   refine (Cp hl0) ((jr) ((jt) (k8 ((aj) ?_))))
   refine aFz 1 rfl ?_
   simp only [go_sem, fzL, AV.fz, aZl]; refine wR ?_; refine ⟨[], ?_⟩
   simp only [go_sem, h9, aNc, vN, AObj.bel, AObj.ren, AV.ren, aB, sg] <;> simp
 have hk3 : ¬ aD b 40 q = 2 := by simpa using hc4
 refine (aj) ((cdB) ?_ ?_) <;> intro hc5
 . have hk4 : ¬ aD b 40 q = 3 := by simpa using hc5
   have h9 : nV b p = (out, q + 1) := by unfold nV; dsimp only; rw [h0]; dsimp only; rw [if_neg hk1]; rw [if_neg hk2]; rw [if_neg hk3]; rw [if_neg hk4]
   refine wk ((jt) (k8 ((aj) ?_)))
   refine aFz 1 rfl ?_
   refine (Ad) (wR ?_)
   refine ⟨[], ?_⟩
   exact Au h9
 have hk4 : aD b 40 q = 3 := by simpa using hc5
 have h9 : nV b p = pG b (13 - out.length) (q + 1) out := by unfold nV; dsimp only; rw [h0]; dsimp only; rw [if_neg hk1]; rw [if_neg hk2]; rw [if_neg hk3]; rw [if_pos hk4]
 refine wb ?_
 refine wl (α := Nat × List Entry) (fun x => x.2.length <= 13 /\ x.1 + 5 * (13 - x.2.length) <= p + 90 /\ pG b (13 - x.2.length) x.1 x.2 = pG b (13 - out.length) (q + 1) out) (fun x => 13 - x.2.length) (fun x => ([(0, .ptr 0 0), (3, .ref 1)], [(0, rdO b x.1), (1, .row 43 5 ((x.2).map enA))])) 2 (q + 1, out) ⟨by show out.length <= 13; omega, by show q + 1 + 5 * (13 - out.length) <= _; omega, rfl⟩ [] ?_ ?_
 . exact jz
 rintro ⟨q1, out1⟩ ⟨hl1, hp1, hgf⟩
 simp only at hl1 hp1 hgf ⊢
 refine aA fun k17 => ?_
 have hpf := iT (b := b) (n := 2) (p := q1) og
 have hpf2 := hpf.2.1 og
 have hw12 := wr (12 + aD b 2 q1) (12 + aD b 2 q1) og
 refine sr rfl fun k18 => (ja) ?_
 refine vO 0 rfl rfl rfl ⟨func62, rfl, rfl⟩ (aE b (q1) hb og 2) oG oG (aC _ _ _) (aC _ _ _) oG oG ?_
 refine (Bd hw12) (k18 ((cdA) ?_ ?_)) <;> intro hc6
 . have hlt : (out1.length : Int) < 12 + aD b 2 q1 := by simpa using hc6
   have hel := uX b (q1 + 1)
   obtain ⟨f, hf⟩ : ∃ f, 13 - out1.length = f + 1 := ⟨12 - out1.length, og⟩
   rw [hf, pG, if_pos hlt] at hgf
   refine wk (k17 (wb (wg rfl ((Av) ((jr) ?_)))))
   refine vO 0 rfl rfl rfl ⟨func100, rfl, rfl⟩ (mX b (q1 + 1) hb og 0) oG oG (aC _ _ _) (aC _ _ _) (eL _ _) oG ?_
   refine (Cy) ((jr) ((jt) ((jt) ?_)))
   refine ⟨(lN b (q1 + 1), out1 ++ [rE b (q1 + 1) 0]), ⟨by simp only [A4, List.length_singleton]; omega, by simp only [A4, List.length_singleton]; omega, by simp only [A4, List.length_singleton]; rw [show 13 - (out1.length + 1) = f by omega]; exact hgf⟩, by simp only [A4, List.length_singleton]; omega, [(1, 3)], ?_⟩
   exact Cn
 have hge : ¬ (out1.length : Int) < 12 + aD b 2 q1 := by simpa using hc6
 have hgf2 : pG b (13 - out1.length) q1 out1 = (out1, q1 + 1) := by
   cases h7 : 13 - out1.length with
   | zero => rfl
   | succ f => rw [pG, if_neg hge]
 rw [hgf2] at hgf; rw [<- hgf] at h9
 refine we ((jt) ((jt) (k8 ((aj) ?_))))
 refine aFz 1 rfl ?_
 refine (Ad) (wR ?_)
 refine ⟨[], ?_⟩
 exact Au h9
end
section
def bAo {q : Int} {rs : List Run} (h : aIh q rs) (hl : rs.length <= 1000) : aGj rs :=
  ⟨og, fun r hr => by
    obtain ⟨h1, _⟩ := h r hr
    have h2 := gI h1
    have h3 : cD r.ents = true := by
      unfold cH at h1
      simp only [B7] at h1
      exact h1.1.2
    exact ⟨og, fun e he => cQ (lW h3 he)⟩⟩
def RT.s {q : Int} {m : List Entry} {a b c : List Run} {sn : List Int} (h : RT q m a b c sn) : qW m /\ aIc [a, b, c] /\ sn.length <= 4 := by
  refine ⟨⟨by have := h.ml; omega, fun e he => cQ (lW h.mo he)⟩, ⟨by simp, fun r hr => ?_⟩, ?_⟩
  . simp only [A7, List.not_mem_nil, or_false] at hr
    have h1 := h.la
    have h2 := h.lb
    have h3 := h.lc
    rcases hr with rfl | rfl | rfl
    . exact bAo h.ra og
    . exact bAo h.rb og
    exact bAo h.rc og
  have := h.hs
  unfold eO at this
  simp only [B7, decide_eq_true_eq] at this
  omega
def bGd {s : Store} (h : aF s = true) : bQ s /\ s.disk.log.size <= 12000 /\ 0 <= s.disk.safe /\ s.disk.safe <= (s.disk.log.size : Int) /\ (s.up = true -> s.tree.levels.length = 3) /\ 0 <= s.tree.seq /\ s.tree.seq <= 100000 /\ 0 <= s.disk.seq /\ s.disk.seq <= 100000 := by
  cases hu : s.up with
  | true =>
    obtain ⟨a, b, c, bs, g⟩ := (mB hu).1 h
    obtain ⟨h1, h2, h3⟩ := g.rt.s
    exact ⟨⟨⟨h1, by rw [g.tl]; exact h2, og⟩, by rw [g.dl]; exact h2⟩, g.lg, g.f0, g.f1, fun _ => by rw [g.tl]; rfl, g.rt.q0, g.rt.q1, g.rd.q0, g.rd.q1⟩
  | false =>
    obtain ⟨a, b, c, bs, g⟩ := (aKg hu).1 h
    obtain ⟨h1, h2, h3⟩ := g.rd.s
    refine ⟨⟨?_, by rw [g.dl]; exact h2⟩, g.lg, g.f0, g.f1, (fun h => by cases h), by rw [g.tz]; decide, by rw [g.tz]; decide, g.rd.q0, g.rd.q1⟩
    rw [g.tz]
    exact ⟨⟨by decide, fun e he => by cases he⟩, ⟨by decide, fun e he => by cases he⟩, by decide⟩
def aOr : Store := ⟨true, ⟨0, [], [[], [], []], []⟩, ⟨⟨#[]⟩, 0, [[], [], []], 0⟩⟩
def bCu : aF aOr = true := kr
def jF (b : List UInt8) (p : Nat) (s : Store) : Store × Nat :=
  if s.up = false then (dX s, p)
  else
    let c := aD b 12 p
    if c = 0 ∨ c = 1 then ((flS s).1, p + 1)
    else if c = 2 then ((bC s (aD b 2 (p + 1)) (aD b 3 (p + 2))).1, p + 3)
    else if c = 3 then ((bC s 0 0).1, p + 1)
    else if c = 4 ∨ c = 5 then ({ s with disk := { s.disk with safe := (s.disk.log.size : Int) } }, p + 1)
    else if c = 6 then (iJ s (aD b 600 (p + 1)), p + 2)
    else if c = 7 then (dY s (aD b 600 (p + 1)), p + 2)
    else if (eN s (nV b (p + 1)).1).2 = true then ((eN s (nV b (p + 1)).1).1, (nV b (p + 1)).2) else (s, (nV b (p + 1)).2)
def bCy {b : List UInt8} {p : Nat} {s : Store} (hp : p + 200 <= 1000000000) (h : aF s = true) : aF (jF b p s).1 = true /\ p <= (jF b p s).2 /\ (jF b p s).2 <= p + 101 := by
  unfold jF
  obtain ⟨_, _, k1, k2⟩ := bCi (b := b) (p := p + 1) og
  split
  . rename_i hu; exact ⟨bMs h hu, by dsimp only; omega, by dsimp only; omega⟩
  rename_i hu
  have hu : s.up = true := by simpa using hu
  dsimp only
  split
  . exact ⟨bHa h, by dsimp only; omega, by dsimp only; omega⟩
  split
  . exact ⟨bCs h _ _, by dsimp only; omega, by dsimp only; omega⟩
  split
  . exact ⟨bCs h _ _, by dsimp only; omega, by dsimp only; omega⟩
  split
  . exact ⟨bMv h hu, by dsimp only; omega, by dsimp only; omega⟩
  split
  . exact ⟨bCb h hu _, by dsimp only; omega, by dsimp only; omega⟩
  split
  . exact ⟨bIn h _, by dsimp only; omega, by dsimp only; omega⟩
  split
  . exact ⟨bJn h _, by dsimp only; omega, by dsimp only; omega⟩
  exact ⟨h, by dsimp only; omega, by dsimp only; omega⟩
def uZ (b : List UInt8) : Nat -> Nat -> Store -> Store × Nat
  | 0, p, s => (s, p)
  | i + 1, p, s => uZ b i (jF b p s).2 (jF b p s).1
def aAf : List Int := [5, 9, 14, 20, 3, 1, 26]
def aAs (b : List UInt8) (p : Nat) : Store × Nat := uZ b (eS aAf b p).toNat (p + 1) aOr
def aQo (b : List UInt8) : ∀ (i p : Nat) (s : Store), p + 200 * i + 200 <= 1000000000 -> aF s = true -> aF (uZ b i p s).1 = true /\ p <= (uZ b i p s).2 /\ (uZ b i p s).2 <= p + 101 * i
  | 0, p, s, _, h => ⟨h, A0 _, A0 _⟩
  | i + 1, p, s, hp, h => by
    obtain ⟨h1, h2, h3⟩ := bCy (b := b) (p := p) og h
    obtain ⟨k1, k2, k3⟩ := aQo b i (jF b p s).2 (jF b p s).1 og h1
    unfold uZ
    exact ⟨k1, og, og⟩
def aVv (b : List UInt8) (p : Nat) : 0 <= eS aAf b p /\ eS aAf b p <= 26 := by
  rcases aIs aAf b p with h | h
  . omega
  exact (by decide : ∀ x ∈ aAf, (0 : Int) <= x /\ x <= 26) _ h
def bKb {b : List UInt8} {p : Nat} (hp : p + 10000 <= 1000000000) : aF (aAs b p).1 = true /\ p <= (aAs b p).2 /\ (aAs b p).2 <= p + 3000 := by
  have h1 := aVv b p
  obtain ⟨k1, k2, k3⟩ := aQo b (eS aAf b p).toNat (p + 1) aOr og bCu
  unfold aAs
  exact ⟨k1, og, og⟩
def xP  : aJ P 144 [] [] 0 (trA aOr.tree) := by
 refine (pq 6 [.cell 0 27] func144) ?_
 have hmx := mxl
 refine (aj) ?_
 refine sr rfl fun k2 => ?_
 simp only [go_sem, A7, List.not_mem_nil, or_false, or_self]
 refine (jr) (k2 ?_)
 refine aFz 4 rfl ?_
 refine (Ad) ?_
 refine cP 0 (ds := [Ni 0, .sl 5 [], .sl 1 [.sl 2 [], .sl 2 [], .sl 2 []], .sl 1 []]) rfl (by repeat (first | exact LeL.nil | refine LeL.cons (by first | exact Le.refl _ | exact Le.nil _) ?_)) oG ?_
 refine (ja) (wR ?_)
 refine fO ?_ ⟨trivial, trivial, ⟨trivial, trivial, trivial, trivial⟩, trivial, trivial⟩
 simp only [go_sem, trA, aOr, rsA, List.map_cons, List.map_nil]
def aHu  : aJ P 111 [] [] 0 (stA aOr) := by
 refine (pq 6 [.cell 0 31] func111) ((aj) ?_)
 refine sr rfl fun k2 => (ja) ?_
 refine vs rfl rfl rfl func144 (xP) oG oG ?_
 simp only [go_sem, trA, aOr, rsA, List.map_cons, List.map_nil]
 refine vs rfl rfl rfl func144 (xP) oG oG ?_
 simp only [go_sem, trA, aOr, rsA, List.map_cons, List.map_nil]
 refine k2 (wR ?_)
 refine fO ?_ (aR _ _)
 simp only [go_sem, stA, aOr, rsA, List.map_cons, List.map_nil]
set_option maxHeartbeats 1000000 in
def aTh (b : List UInt8) (p : Nat) (hb : b.length <= 2000) (hp : p + 300 <= 1000000000) (s : Store) (hok : aF s = true) : aP P 112 [.ptr 0 0, stA s] [(0, rdO b p)] 1 (stA (jF b p s).1) [(0, rdO b ((jF b p s).2))] 1 := by
 refine (gq 72 [.cell 4 31] func112) ?_
 simp only [stA]
 obtain ⟨hs, hlg, hf0, hf1, hlv, hq0, hq1, -, -⟩ := bGd hok
 have hcp := wW hok
 have hlg2 : s.disk.log.size <= 1048576 := by omega
 have hbz := bCi (b := b) (p := p + 1) og
 have hbm := bCc hbz.1 og
 refine (aj) ?_
 refine aA fun k2 => (aj) ((cdA) ?_ ?_) <;> intro hc1
 . have hup : s.up = false := by simpa using hc1
   have h9 : jF b p s = (dX s, p) := by unfold jF; rw [if_pos hup]
   refine sr rfl fun k4 => (ja) ?_
   refine vs rfl rfl rfl func36 (aAp s hs hlg2) Ab Ab ?_
   refine (Aj) (k4 (wR ?_))
   refine ⟨[], ?_⟩
   exact Aq h9
 have hup : s.up = true := by simpa using hc1
 refine wk (k2 (aA fun k5 => sr rfl fun k6 => (ja) ?_))
 refine vO 0 rfl rfl rfl ⟨func62, rfl, rfl⟩ (aE b (p) hb og 12) oG oG (aC _ _ _) (aC _ _ _) oG oG ?_
 refine (Ai) (k6 (wb (aA fun k7 => (aj) ((cdA) ?_ ?_)))) <;> intro hc2
 . have he2 : aD b 12 p = 0 := by simpa using hc2
   have h9 : jF b p s = ((flS s).1, p + 1) := by unfold jF; rw [if_neg (by rw [hup]; simp)]; dsimp only; rw [if_pos (show aD b 12 p = 0 ∨ aD b 12 p = 1 by omega)]
   refine wk (k7 ((cdB) ?_ ?_)) <;> intro hc3
   . exfalso
     rw [he2] at hc3; simp at hc3
   refine wg rfl ((ja) ?_)
   refine vs rfl rfl rfl func145 (rZ s hs hlv) Ab Ab ?_
   refine (Aj) ((jt) (k5 ((aj) (wR ?_))))
   refine ⟨[], ?_⟩
   exact Aq h9
 have he2 : ¬ aD b 12 p = 0 := by simpa using hc2
 refine wg rfl ((ja) (k7 ((cdA) ?_ ?_))) <;> intro hc4
 . have he4 : aD b 12 p = 1 := by simpa using hc4
   have h9 : jF b p s = ((flS s).1, p + 1) := by unfold jF; rw [if_neg (by rw [hup]; simp)]; dsimp only; rw [if_pos (show aD b 12 p = 0 ∨ aD b 12 p = 1 by omega)]
   refine wg rfl ((ja) ?_)
   refine vs rfl rfl rfl func145 (rZ s hs hlv) Ab Ab ?_
   refine (Aj) ((jt) (k5 ((aj) (wR ?_))))
   refine ⟨[], ?_⟩
   exact Aq h9
 have he4 : ¬ aD b 12 p = 1 := by simpa using hc4
 refine (aj) ((cdA) ?_ ?_) <;> intro hc5
 . have he5 : aD b 12 p = 2 := by simpa using hc5
   have h9 : jF b p s = ((bC s (aD b 2 (p + 1)) (aD b 3 (p + 2))).1, p + 3) := by unfold jF; rw [if_neg (by rw [hup]; simp)]; dsimp only; rw [if_neg (show ¬ (aD b 12 p = 0 ∨ aD b 12 p = 1) by omega)]; rw [if_pos (show aD b 12 p = 2 by omega)]
   refine dA mixed rfl ?_
   refine (ja) ?_
   refine tO 0 rfl rfl rfl ⟨func62, rfl, rfl⟩ (aE b (p + 1) hb og 2) oG oG (aC _ _ _) (aC _ _ _) oG oG ?_
   refine (Ai) ?_
   refine tO 0 rfl rfl rfl ⟨func62, rfl, rfl⟩ (aE b (p + 2) hb og 3) oG oG (aC _ _ _) (aC _ _ _) oG oG ?_
   refine (Ai) ?_
   refine tp rfl rfl rfl ⟨func146, rfl, rfl⟩ (qX s (aD b 2 (p + 1)) (aD b 3 (p + 2)) hs hlg2) Ab Ab ?_
   refine (Aj) ((jy) ((jt) (k5 ((aj) (wR ?_)))))
   refine ⟨[], ?_⟩
   exact Aq h9
 have he5 : ¬ aD b 12 p = 2 := by simpa using hc5
 refine (aj) ((cdA) ?_ ?_) <;> intro hc6
 . have he6 : aD b 12 p = 3 := by simpa using hc6
   have h9 : jF b p s = ((bC s 0 0).1, p + 1) := by unfold jF; rw [if_neg (by rw [hup]; simp)]; dsimp only; rw [if_neg (show ¬ (aD b 12 p = 0 ∨ aD b 12 p = 1) by omega)]; rw [if_neg (show ¬ aD b 12 p = 2 by omega)]; rw [if_pos (show aD b 12 p = 3 by omega)]
   refine wg rfl ((ja) ?_)
   refine vs rfl rfl rfl func146 (qX s 0 0 hs hlg2) Ab Ab ?_
   refine (Aj) ((jt) (k5 ((aj) (wR ?_))))
   refine ⟨[], ?_⟩
   exact Aq h9
 have he6 : ¬ aD b 12 p = 3 := by simpa using hc6
 refine aA fun k15 => (aj) ((cdA) ?_ ?_) <;> intro hc7
 . have he7 : aD b 12 p = 4 := by simpa using hc7
   have h9 : jF b p s = ({ s with disk := { s.disk with safe := (s.disk.log.size : Int) } }, p + 1) := by unfold jF; rw [if_neg (by rw [hup]; simp)]; dsimp only; rw [if_neg (show ¬ (aD b 12 p = 0 ∨ aD b 12 p = 1) by omega)]; rw [if_neg (show ¬ aD b 12 p = 2 by omega)]; rw [if_neg (show ¬ aD b 12 p = 3 by omega)]; rw [if_pos (show aD b 12 p = 4 ∨ aD b 12 p = 5 by omega)]
   refine wk (k15 ((cdB) ?_ ?_)) <;> intro hc8
   . exfalso
     rw [he7] at hc8; simp at hc8
   refine wg rfl ((ja) ((jt) (k5 ((aj) (wR ?_)))))
   refine ⟨[], ?_⟩
   exact Aq h9
 have he7 : ¬ aD b 12 p = 4 := by simpa using hc7
 refine wg rfl ((ja) (k15 ((cdA) ?_ ?_))) <;> intro hc9
 . have he9 : aD b 12 p = 5 := by simpa using hc9
   have h9 : jF b p s = ({ s with disk := { s.disk with safe := (s.disk.log.size : Int) } }, p + 1) := by unfold jF; rw [if_neg (by rw [hup]; simp)]; dsimp only; rw [if_neg (show ¬ (aD b 12 p = 0 ∨ aD b 12 p = 1) by omega)]; rw [if_neg (show ¬ aD b 12 p = 2 by omega)]; rw [if_neg (show ¬ aD b 12 p = 3 by omega)]; rw [if_pos (show aD b 12 p = 4 ∨ aD b 12 p = 5 by omega)]
   refine wg rfl ((ja) ((jt) (k5 ((aj) (wR ?_)))))
   refine ⟨[], ?_⟩
   exact Aq h9
 have he9 : ¬ aD b 12 p = 5 := by simpa using hc9
 refine (aj) ((cdA) ?_ ?_) <;> intro hc10
 . have he10 : aD b 12 p = 6 := by simpa using hc10
   have h9 : jF b p s = (iJ s (aD b 600 (p + 1)), p + 2) := by unfold jF; rw [if_neg (by rw [hup]; simp)]; dsimp only; rw [if_neg (show ¬ (aD b 12 p = 0 ∨ aD b 12 p = 1) by omega)]; rw [if_neg (show ¬ aD b 12 p = 2 by omega)]; rw [if_neg (show ¬ aD b 12 p = 3 by omega)]; rw [if_neg (show ¬ (aD b 12 p = 4 ∨ aD b 12 p = 5) by omega)]; rw [if_pos (show aD b 12 p = 6 by omega)]
   refine dA mixed rfl ?_
   refine (ja) ?_
   refine tO 0 rfl rfl rfl ⟨func62, rfl, rfl⟩ (aE b (p + 1) hb og 600) oG oG (aC _ _ _) (aC _ _ _) oG oG ?_
   refine (Ai) ?_
   refine tp rfl rfl rfl ⟨func32, rfl, rfl⟩ (pS s (aD b 600 (p + 1)) hf0 hf1) Ab Ab ?_
   refine (Aj) ((jy) ((jt) (k5 ((aj) (wR ?_)))))
   refine ⟨[], ?_⟩
   exact Aq h9
 have he10 : ¬ aD b 12 p = 6 := by simpa using hc10
 refine (aj) ((cdA) ?_ ?_) <;> intro hc11
 . have he11 : aD b 12 p = 7 := by simpa using hc11
   have h9 : jF b p s = (dY s (aD b 600 (p + 1)), p + 2) := by unfold jF; rw [if_neg (by rw [hup]; simp)]; dsimp only; rw [if_neg (show ¬ (aD b 12 p = 0 ∨ aD b 12 p = 1) by omega)]; rw [if_neg (show ¬ aD b 12 p = 2 by omega)]; rw [if_neg (show ¬ aD b 12 p = 3 by omega)]; rw [if_neg (show ¬ (aD b 12 p = 4 ∨ aD b 12 p = 5) by omega)]; rw [if_neg (show ¬ aD b 12 p = 6 by omega)]; rw [if_pos (show aD b 12 p = 7 by omega)]
   refine dA mixed rfl ?_
   refine (ja) ?_
   refine tO 0 rfl rfl rfl ⟨func62, rfl, rfl⟩ (aE b (p + 1) hb og 600) oG oG (aC _ _ _) (aC _ _ _) oG oG ?_
   refine (Ai) ?_
   refine tp rfl rfl rfl ⟨func147, rfl, rfl⟩ (aEe s (aD b 600 (p + 1)) hs hlg2) Ab Ab ?_
   refine (Aj) ((jy) ((jt) (k5 ((aj) (wR ?_)))))
   refine ⟨[], ?_⟩
   exact Aq h9
 have he11 : ¬ aD b 12 p = 7 := by simpa using hc11
 refine sr rfl fun k23 => (ja) ?_
 refine vs rfl rfl rfl func31 (eP s hs) Ab Ab ?_
 simp only [go_sem, stA, hcp]
 refine vO 0 rfl rfl rfl ⟨func49, rfl, rfl⟩ (aKa b (p + 1) hb og) oG oG (aC _ _ _) (aC _ _ _) oG oG ?_
 refine (Ai) ?_
 refine vs rfl rfl rfl func52 (aNm s (nV b (p + 1)).1 hs hbm og hq0 hq1 hlg) Ab Ab ?_
 refine (Aj) (k23 ((aj) ((cdA) ?_ ?_))) <;> intro hc12
 . have hwr : (eN s (nV b (p + 1)).1).2 = true := by simpa using hc12
   have h9 : jF b p s = ((eN s (nV b (p + 1)).1).1, (nV b (p + 1)).2) := by unfold jF; rw [if_neg (by rw [hup]; simp)]; dsimp only; rw [if_neg (show ¬ (aD b 12 p = 0 ∨ aD b 12 p = 1) by omega)]; rw [if_neg (show ¬ aD b 12 p = 2 by omega)]; rw [if_neg (show ¬ aD b 12 p = 3 by omega)]; rw [if_neg (show ¬ (aD b 12 p = 4 ∨ aD b 12 p = 5) by omega)]; rw [if_neg (show ¬ aD b 12 p = 6 by omega)]; rw [if_neg (show ¬ aD b 12 p = 7 by omega)]; rw [if_pos hwr]
   refine wg rfl ((ja) ((jt) (k5 ((aj) (wR ?_)))))
   refine ⟨[], ?_⟩
   exact Aq h9
 have hwr : ¬ (eN s (nV b (p + 1)).1).2 = true := by simpa using hc12
 have h9 : jF b p s = (s, (nV b (p + 1)).2) := by unfold jF; rw [if_neg (by rw [hup]; simp)]; dsimp only; rw [if_neg (show ¬ (aD b 12 p = 0 ∨ aD b 12 p = 1) by omega)]; rw [if_neg (show ¬ aD b 12 p = 2 by omega)]; rw [if_neg (show ¬ aD b 12 p = 3 by omega)]; rw [if_neg (show ¬ (aD b 12 p = 4 ∨ aD b 12 p = 5) by omega)]; rw [if_neg (show ¬ aD b 12 p = 6 by omega)]; rw [if_neg (show ¬ aD b 12 p = 7 by omega)]; rw [if_neg hwr]
 refine wk ((jt) (k5 ((aj) (wR ?_))))
 refine ⟨[], ?_⟩
 exact Aq h9
def aOs (b : List UInt8) (p : Nat) (hb : b.length <= 2000) (hp : p + 10000 <= 1000000000) : aP P 61 [.ptr 0 0] [(0, rdO b p)] 1 (stA (aAs b p).1) [(0, rdO b ((aAs b p).2))] 1 := by
 refine (gq 18 [.cell 2 31] func61) ?_
 have hmx := mxl
 have hst := aVv b p
 obtain ⟨m, hm⟩ := Int.eq_ofNat_of_zero_le hst.1
 have hm2 : (eS aAf b p).toNat = m := by omega
 refine (aj) ?_
 refine sr rfl fun k2 => (ja) ?_
 refine vs rfl rfl rfl func111 (aHu) oG oG ?_
 refine (Aj) (k2 (aA fun k3 => sr rfl fun k4 => (ja) ((jr) ?_)))
 refine bF 3 rfl ?_
 refine (Ad) ?_
 refine vO 0 rfl rfl rfl ⟨func64, rfl, rfl⟩ (bD b (p) hb og aAf dg) (by simp only [go_sem, aAf, List.map_cons, List.map_nil, inA]) (by simp only [go_sem, aAf, List.map_cons, List.map_nil, inA]) (aC _ _ _) (aC _ _ _) oG oG ?_
 refine (Bd hm) ((jr) (k4 (wb ?_)))
 refine wl (α := Nat × Nat × Store) (fun x => x.1 <= 26 /\ p + 1 <= x.2.1 /\ x.2.1 + 101 * x.1 <= p + 2700 /\ aF x.2.2 = true /\ uZ b x.1 x.2.1 x.2.2 = aAs b p) (fun x => x.1) (fun x => ([(0, .ptr 0 0), (2, .ptr 1 0), (3, .ptr 2 0), (4, Ni (x.1 : Int))], [(0, rdO b x.2.1), (1, .cells 31 [Nb false, Ni 0, .raw (.slice none 0 0), .raw (.slice none 0 0), .raw (.slice none 0 0), Ns ⟨#[]⟩, Ni 0, .raw (.slice none 0 0), Ni 0]), (2, .cells 31 [Nb x.2.2.up, Ni x.2.2.tree.seq, .sl 5 (x.2.2.tree.mem.map enA), .sl 1 (x.2.2.tree.levels.map rsA), .sl 1 (x.2.2.tree.snaps.map inA), Ns x.2.2.disk.log, Ni x.2.2.disk.safe, .sl 1 (x.2.2.disk.levels.map rsA), Ni x.2.2.disk.seq])])) 3 (m, p + 1, aOr) ⟨by show m <= 26; omega, A0 _, by show p + 1 + 101 * m <= _; omega, bCu, by unfold aAs; rw [hm2]⟩ [] ?_ ?_
 . exact jz
 rintro ⟨i0, q, s⟩ ⟨hi, hq0, hq1, hok, hgo⟩
 simp only at hi hq0 hq1 hok hgo ⊢
 refine aA fun k5 => (aj) ((cdB) ?_ ?_) <;> intro hc1
 . have hi0 : i0 = 0 := by simp at hc1; omega
   subst hi0; unfold uZ at hgo
   have hcp := wW hok
   have h9 : aAs b p = (s, q) := hgo.symm
   refine we ((jt) (k3 (sr rfl fun k8 => (ja) ?_)))
   refine vs rfl rfl rfl func31 (eP s (bGd hok).1) Ab Ab ?_
   simp only [go_sem, stA, hcp]
   refine k8 (wR ?_)
   refine ⟨[], ?_⟩
   exact Aq h9
 obtain ⟨i, rfl⟩ : ∃ i, i0 = i + 1 := ⟨i0 - 1, by simp at hc1; omega⟩
 have hao := bCy (b := b) (p := q) og hok
 unfold uZ at hgo
 refine wk (k5 (aA fun k7 => wb (wg rfl ((ja) ?_))))
 refine vO 0 rfl rfl rfl ⟨func112, rfl, rfl⟩ (aTh b q hb og s hok) Ab Ab (aC _ _ _) (aC _ _ _) (aR _ _) oG ?_
 simp only [go_sem, Nat.add_zero, stA]
 refine (jt) (k7 ?_)
 have hwi := wr (((i + 1 : Nat) : Int) - 1) ((i : Int)) og
 refine wg rfl ((Aa hwi) ((jt) ?_))
 refine ⟨(i, (jF b q s).2, (jF b q s).1), ⟨by show i <= 26; omega, by show p + 1 <= (jF b q s).2; omega, by show (jF b q s).2 + 101 * i <= _; omega, hao.1, hgo⟩, by show i < i + 1; omega, [], ?_⟩
 exact jz
end
section
variable {n m i L j p : Nat} {lv more : List Nat} {x y : Operand} {t : Tree} {rs : List Run} {s : Store}
def smE (e : Entry) : Prop := e.key.size <= 1048576 /\ e.text.size <= 1048576
def smR (r : Run) : Prop := r.ents.length <= 200 /\ ∀ e ∈ r.ents, smE e
def smL (n : Nat) (rs : List Run) : Prop := rs.length <= n /\ ∀ r ∈ rs, smR r
def smT (n : Nat) (t : Tree) : Prop := t.mem.length <= n /\ (∀ e ∈ t.mem, smE e) /\ t.levels.length <= 3 /\ (∀ l ∈ t.levels, smL n l) /\ t.snaps.length <= n
def bNy (h : smT n t) (hn : n <= 1000) : gL t :=
  ⟨⟨by have := h.1; omega, h.2.1⟩, ⟨by have := h.2.2.1; omega, fun l hl => ⟨by have := (h.2.2.2.1 l hl).1; omega, fun r hr => ⟨by have := ((h.2.2.2.1 l hl).2 r hr).1; omega, ((h.2.2.2.1 l hl).2 r hr).2⟩⟩⟩, by have := h.2.2.2.2; omega⟩
def xC (h : smL n rs) (hn : n <= m) : smL m rs := ⟨F4 h.1 hn, h.2⟩
def aJu (h : smT n t) (hn : n <= m) : smT m t := ⟨F4 h.1 hn, h.2.1, h.2.2.1, fun l hl => xC (h.2.2.2.1 l hl) hn, F4 h.2.2.2.2 hn⟩
def smS (s : Store) : Prop := bQ s /\ s.disk.log.size <= 20000
def aUe {q : Int} (h : aIh q rs) (hl : rs.length <= 8) : smL 60 rs :=
  ⟨og, fun r hr => by
    obtain ⟨h1, _⟩ := h r hr
    have h2 := gI h1
    have h3 : cD r.ents = true := by
      unfold cH at h1
      simp only [B7] at h1
      exact h1.1.2
    exact ⟨og, fun e he => cQ (lW h3 he)⟩⟩
def bQe (h : aF s = true) (hu : s.up = true) : smT 60 s.tree := by
  obtain ⟨a, b, c, bs, g⟩ := (mB hu).1 h
  obtain ⟨h1, h2, h3⟩ := g.rt.s
  refine ⟨g.rt.ml, h1.2, by rw [g.tl]; simp, fun l hl => ?_, og⟩
  rw [g.tl] at hl
  simp only [A7, List.not_mem_nil, or_false] at hl
  have k1 := g.rt.la
  have k2 := g.rt.lb
  have k3 := g.rt.lc
  rcases hl with rfl | rfl | rfl
  . exact aUe g.rt.ra og
  . exact aUe g.rt.rb og
  exact aUe g.rt.rc og
def bHp {b : List UInt8} (hp : p <= 1000000000) : smR (eR b p).1 := by
  obtain ⟨h1, h2, _⟩ := aWn (b := b) hp
  exact ⟨og, fun e he => aYd (h1 e he)⟩
def bBj (x : AV) : Prop := ∃ r : Run, x = rA r /\ smR r
abbrev lvO (L : Nat) (lv more : List Nat) : AObj := .pool 102 105 2 bBj L lv more
section
variable {ro : Option Nat} {N : Nat} {o : Oper} {E : Env} {H : Heap} {nx b0 : Nat} {ds : List (Option Tmp)}
def yA {n : Int} (hg : o.guard = none) (hN : ∀ d, o.dst = some d -> d < N) (ho : o.op = .indexAddr 24 x y)
    (hx : opv E x = some (.ref i)) (hH : get H i = some (lvO L lv more)) (hy : opv E y = some (Ni n)) (h0 : 0 <= n /\ n < lv.length) : bE P ro N ds o b0 E H (aG [x, y]) [i] (.ep i 1 n.toNat 0) [] nx 0 :=
  aJf (by' := 24) hg ho hN oG hx hH hy h0.1 h0.2
def bNt : VarT P 102 1 false := iC oG
def aSe (hg : o.guard = none) (hN : ∀ d, o.dst = some d -> d < N) (ho : o.op = .load 102 x)
    (hx : opv E x = some (.ep i 1 j 0)) (hH : get H i = some (lvO L lv more)) (hj : lv[j]? = some m) : bE P ro N ds o b0 E H (aG [x]) [i] (.ref m) [] nx 0 :=
  aLk hg ho hN bNt hx hH hj
def aIo (hg : o.guard = none) (hN : ∀ d, o.dst = some d -> d < N) (ho : o.op = .store 102 x y)
    (hx : opv E x = some (.ep i 1 j 0)) (hH : get H i = some (lvO L lv more)) (hy : opv E y = some (.ref m)) (hj : j < lv.length) (hm : m ∈ lv ∨ m ∈ more) : bE P ro N ds o b0 E H (aG [x, y]) [i] (.raw undef) [(i, lvO L (lv.set j m) more)] nx 0 :=
  aId hg ho hN bNt hx hH hj hy hm
def bNr {c : Call} {r : Run} {el : AV} (hg : o.guard = none) (hN : ∀ d, o.dst = some d -> d < N) (ho : o.op = .call c) (hc : c.callee = .builtin .append) (hargs : c.args = #[x, y]) (hts : c.argTypes = #[102, 102])
    (hx : opv E x = some (.ref m)) (hy : opv E y = some (.ref j)) (hH : get H i = some (lvO L lv more)) (hj : get H j = some (.row 105 2 [el])) (he : Le el (rA r)) (hf : el.free = true) (hel : el.elem = true) (hij : i ≠ j) (hm : m ∈ lv ∨ m ∈ more) (hr : smR r) (hL : L <= 1000) :
    bE P ro N ds o b0 E H (aG [x, y]) [i, j] (.ref nx) [(i, lvO (L + 1) lv (nx :: more)), (j, .dead)] nx 1 :=
  aPb (by' := 32) (zs := [.slice none 0 0, .int .i64 0]) hg ho hc hargs hts hN oG oG rfl dg hx hy hij hH hm hj (fun _ _ _ _ h => he.rep h) ⟨r, rfl, hr⟩ (zQ _ r) hf hel (by have h9 : maxLen = 9223372036854775807 := rfl; omega) og
end
def aPc {L : Nat} : ∀ {yss : List (List AV)}, (∀ ys ∈ yss, ys.length <= L /\ ∀ y ∈ ys, bBj y) -> ∃ ls : List (List Run), yss = ls.map (fun l => l.map rA) /\ ∀ l ∈ ls, smL L l
  | [], _ => ⟨[], rfl, by simp⟩
  | ys :: r, h => by
    obtain ⟨ls, h1, h2⟩ := aPc (yss := r) fun y hy => h y (A5 _ hy)
    have key : ∀ ys : List AV, (∀ y ∈ ys, bBj y) -> ∃ l : List Run, ys = l.map rA /\ ∀ x ∈ l, smR x := by
      intro ys
      induction ys with
      | nil => exact fun _ => ⟨[], rfl, by simp⟩
      | cons y ys ih =>
        intro hy
        obtain ⟨l, k1, k2⟩ := ih fun y' hy' => hy y' (A5 _ hy')
        obtain ⟨x, k3, k4⟩ := hy y A2
        exact ⟨x :: l, by rw [k1, k3]; rfl, fun z hz => by rcases A7.1 hz with rfl | hz; exact k4; exact k2 z hz⟩
    obtain ⟨l, k1, k2⟩ := key ys (h ys A2).2
    have hl : l.length <= L := by have := (h ys A2).1; rw [k1, A8] at this; exact this
    exact ⟨l :: ls, by rw [h1, k1]; rfl, fun z hz => by rcases A7.1 hz with rfl | hz; exact ⟨hl, k2⟩; exact h2 z hz⟩
def bHh {ls : List (List Run)} (h : ∀ l ∈ ls, smL n l) : ∀ ys ∈ ls.map (fun l => l.map runOwn), ys.length <= n /\ ∀ y ∈ ys, bBj y.fz /\ y.fz.bel fun _ => False := by
  intro ys hys
  obtain ⟨l, hl, rfl⟩ := A9.1 hys
  obtain ⟨h1, h2⟩ := h l hl
  refine ⟨by rw [A8]; exact h1, fun y hy => ?_⟩
  obtain ⟨r, hr, rfl⟩ := A9.1 hy
  rw [aNf]
  exact ⟨⟨r, rfl, h2 r hr⟩, zQ _ r⟩
section
variable {ro : Option Nat} {N n0 : Nat} {c : Code} {Q : AQ} {E : Env} {H : Heap} {nx : Nat}
def aZt (i : Nat) (n : Nat) {a b c' : List Run} (hn : nx + 3 <= 1000) (hi : get H i = some (.row 102 1 [rsO a, rsO b, rsO c'])) (hs : ∀ l ∈ [a, b, c'], smL n l)
    (h : AWP P ro N n0 c Q E (put H i (lvO n [nx, nx + 1, nx + 2] [])) (nx + 3)) : AWP P ro N n0 c Q E H nx :=
  aXw i (yss := [a, b, c'].map fun l => l.map runOwn) hn oS hi (bHh hs) h
def bAz (i : Nat) (hn : nx <= 1000) (hi : get H i = some (lvO n lv more)) (h : ∀ ls : List (List Run), ls.length = lv.length -> (∀ l ∈ ls, smL n l) -> AWP P ro N n0 c Q E (put H i (.row 102 1 (ls.map rsA))) nx) : AWP P ro N n0 c Q E H nx :=
  aWo i hn hi fun yss h1 h2 => by
    obtain ⟨ls, rfl, h3⟩ := aPc h2
    have := h ls (by simpa using h1) h3
    rw [List.map_map]; exact this
end
def aMj (ls : List Entry) (l : Entry) : fzL (ls.map enA ++ [.agg [Ns l.key, Ni l.seq, Ni l.kind, Ns l.text, Ni l.n]]) = (ls ++ [l]).map enA := bCv ls l
def aMd (ls : List Int) (x : Int) : fzL (ls.map inA ++ [Ni x]) = (ls ++ [x]).map inA := by
  have h : ls.map inA ++ [.raw (.int .i64 x)] = (ls ++ [x]).map inA := by rw [D9]; rfl
  rw [h, qF]
def aNt : List Int := [1, -1, 50]
def aXm : List ByteArray := [⟨#[120]⟩, ⟨#[49, 50, 32]⟩, ⟨#[48, 32, 10]⟩, ⟨#[49, 48, 32, 97, 32, 57, 32, 50, 32, 48, 32, 48, 32, 10]⟩]
def bKj : ∀ s ∈ aXm, s.size <= 64 := by decide
def aHa (b : List UInt8) (p : Nat) (s : Store) : List Int := [0, (s.disk.log.size : Int), aD b ((s.disk.log.size : Int) + 1) p, aD b ((s.disk.log.size : Int) + 1) (p + 1), aD b ((s.disk.log.size : Int) + 1) (p + 2), -1, 9223372036854775807]
def aPk (b : List UInt8) (p : Nat) (s : Store) : Int := eS (aHa b p s) b (p + 3)
def bJj {b : List UInt8} (hp : p <= 1000000) (hl : s.disk.log.size <= 20000) : -1 <= aPk b p s /\ aPk b p s <= 9223372036854775807 := by
  have h0 := iT (b := b) (n := (s.disk.log.size : Int) + 1) (p := p) og
  have h1 := iT (b := b) (n := (s.disk.log.size : Int) + 1) (p := p + 1) og
  have h2 := iT (b := b) (n := (s.disk.log.size : Int) + 1) (p := p + 2) og
  have k0 := h0.2.1 og
  have k1 := h1.2.1 og
  have k2 := h2.2.1 og
  unfold aPk
  rcases aIs (aHa b p s) b (p + 3) with h | h
  . omega
  generalize eS (aHa b p s) b (p + 3) = x at h ⊢
  simp only [aHa, A7, List.not_mem_nil, or_false] at h
  omega
set_option maxHeartbeats 1000000 in
def pV (b : List UInt8) (p : Nat) (hb : b.length <= 2000) (hp : p + 1000 <= 1000000000) (t : Tree) (n : Nat) (ht : smT n t) (hn : n <= 500) : xB P 114 [.ptr 0 0, trA t] [(0, rdO b p)] 1 (fun g : Tree × Nat => smT (n + 10) g.1 /\ p <= g.2 /\ g.2 <= p + 800) (fun g => trA g.1) (fun g => [(0, rdO b g.2)]) 1 := by
 refine lV (fn := Tryz.f114) (N := 108) (vs := [.cell 4 27]) ⟨func114, rfl, rfl⟩ rfl rfl oS ?_
 simp only [eE, trA]
 have hmx := mxl
 have hs := bNy ht og
 obtain ⟨seq, mem, lv, snaps⟩ := t
 obtain ⟨h1, h2, h3, h4, h5⟩ := ht
 simp only at h1 h2 h3 h4 h5
 refine (aj) ?_
 refine sr rfl fun k2 => (ja) ?_
 refine vO 0 rfl rfl rfl ⟨func62, rfl, rfl⟩ (aE b (p) hb og 70) oG oG (aC _ _ _) (aC _ _ _) oG oG ?_
 refine (Ai) (k2 (aA fun k3 => (aj) ((cdA) ?_ ?_))) <;> intro hc1
 . refine (aj) (wR ?_)
   refine ⟨(⟨seq, mem, lv, snaps⟩, p + 1), ⟨aJu (n := n) ⟨h1, h2, h3, h4, h5⟩ og, by dsimp only; omega, by dsimp only; omega⟩, [], ?_⟩
   exact Bo
 have hc1b : ¬ (6 < aD b 70 p ∨ (lv.length : Int) < 3) := by simpa using hc1
 obtain ⟨la, lb, lc, rfl⟩ : ∃ la lb lc, lv = [la, lb, lc] := by
   have h9 : lv.length = 3 := by omega
   match lv, h9 with
   | [la, lb, lc], _ => exact ⟨la, lb, lc, rfl⟩
 have g4 : ∀ m, n <= m -> ∀ l ∈ [la, lb, lc], smL m l := fun m hm l hl => xC (h4 l hl) hm
 refine wk (k3 (sr rfl fun k6 => (ja) ?_))
 refine vn 3 rfl rfl rfl ⟨func71, rfl, rfl⟩ (gJ ⟨seq, mem, [la, lb, lc], snaps⟩ hs) Ae (by simp only [go_sem, trA, rsA]) oS dg ?_
 simp only [go_sem, AV.ren, AObj.ren, aB, shift, sg, A0, Nat.add_zero, Nat.sub_self, rsO]
 refine k6 (aA fun k7 => (aj) (wb ((aj) ((cdA) ?_ ?_)))) <;> intro hc2
 . refine wg rfl ((ja) ((jr) ?_))
   refine bF 6 rfl ?_
   refine (Ad) ?_
   refine vO 0 rfl rfl rfl ⟨func64, rfl, rfl⟩ (bD b (p + 1) hb og [0, -1, 100001, IntKind.i64.wrap (seq - 1)] oS) By By (aC _ _ _) (aC _ _ _) oG oG ?_
   refine (Ai) ((jr) ((jt) (k7 ((aj) ?_))))
   refine aFz 3 rfl ?_
   refine (Cq) ?_
   refine aFz 4 rfl ?_
   refine (Cq) ?_
   refine aFz 5 rfl ?_
   refine (Cq) (wR ?_)
   refine ⟨(⟨eS [0, -1, 100001, IntKind.i64.wrap (seq - 1)] b (p + 1), mem, [la, lb, lc], snaps⟩, p + 2), ⟨aJu (n := n) ⟨h1, h2, h3, h4, h5⟩ og, by dsimp only; omega, by dsimp only; omega⟩, [], ?_⟩
   exact Bo
 refine (aj) ((cdA) ?_ ?_) <;> intro hc3
 . refine dA mixed rfl ?_
   refine (Av) ((jr) ?_)
   refine tO 0 rfl rfl rfl ⟨func100, rfl, rfl⟩ (mX b (p + 1) hb og 1) oG oG (aC _ _ _) (aC _ _ _) (eL _ _) oG ?_
   refine (Cy) ((jr) ((jy) ((jt) (k7 ((aj) ?_)))))
   refine aFz 7 rfl ?_
   simp only [go_sem, fzL, AV.fz, rsO, dL, aMj]
   refine aFz 4 rfl ?_
   simp only [go_sem, fzL, AV.fz, rsO, dL, aMj]
   refine aFz 5 rfl ?_
   simp only [go_sem, fzL, AV.fz, rsO, dL, aMj]; refine wR ?_
   refine ⟨(⟨seq, mem ++ [rE b (p + 1) 1], [la, lb, lc], snaps⟩, lN b (p + 1)), (by have h9 := uX b (p + 1); exact ⟨⟨by simp only [A4, List.length_singleton]; omega, fun e he => by
       rcases A6.1 he with h | h
       . exact h2 e h
       rw [B4.1 h]; exact aYd (zJ _ _ _), h3, g4 _ og, by dsimp only; omega⟩, by dsimp only; omega, by dsimp only; omega⟩), [], ?_⟩
   exact Bo
 refine (aj) ((cdA) ?_ ?_) <;> intro hc4
 . refine aFz 4 rfl ?_
   refine (Cq) ?_
   refine wg rfl ((ja) ((jr) ((jt) (k7 ((aj) ?_)))))
   refine aFz 3 rfl ?_
   refine (Ad) ?_
   refine aFz 5 rfl ?_
   refine (Ad) (wR ?_)
   refine ⟨(⟨seq, mem, [la, lb], snaps⟩, p + 1), ⟨aJu (n := n) ⟨h1, h2, by simp, fun l hl => h4 l (by simp at hl ⊢; rcases hl with h | h <;> simp [h]), h5⟩ og, by dsimp only; omega, by dsimp only; omega⟩, [], ?_⟩
   exact Bo
 refine (aj) ((cdA) ?_ ?_) <;> intro hc5
 . refine ddT 8 mixed rfl ?_
   refine (Av) ((jr) ?_)
   refine aN (fun hN => uF (e := 3) (sz := 1) (xs := [Ni 0, Ni (IntKind.i64.wrap (seq + 1)), Ni (-1), Ni seq]) rfl hN oG trivial oS) (.inr dg) ?_
   simp only [go_sem, fzL, AV.fz, B3, A4, List.nil_append, A8, B1]
   refine (jr) ?_
   refine tO 0 rfl rfl rfl ⟨func64, rfl, rfl⟩ (bD b (p + 1) hb og [0, IntKind.i64.wrap (seq + 1), -1, seq] oS) By By (aC _ _ _) (aC _ _ _) oG oG ?_
   refine (Ai) ((jr) ((jy) ((jt) (k7 ((aj) ?_)))))
   refine aFz 3 rfl ?_
   simp only [go_sem, fzL, AV.fz, rsO, dL, aMd]
   refine aFz 4 rfl ?_
   simp only [go_sem, fzL, AV.fz, rsO, dL, aMd]
   refine aFz 8 rfl ?_
   simp only [go_sem, fzL, AV.fz, rsO, dL, aMd]; refine wR ?_
   refine ⟨(⟨seq, mem, [la, lb, lc], snaps ++ [eS [0, IntKind.i64.wrap (seq + 1), -1, seq] b (p + 1)]⟩, p + 2), ⟨⟨by dsimp only; omega, h2, h3, g4 _ og, by simp only [A4, List.length_singleton]; omega⟩, by dsimp only; omega, by dsimp only; omega⟩, [], ?_⟩
   exact Bo
 refine (aj) ((cdA) ?_ ?_) <;> intro hc6
 . refine aZt 4 n dg rfl (fun l hl => h4 l hl) ?_
   refine (ja) ?_
   refine sr rfl fun k18 => (ja) ((jr) ?_)
   refine vC (fun hN => yA (i := 4) (n := 0) (L := n) (lv := [6, 7, 8]) (more := []) rfl hN rfl oG oG oG dg) (.inl rfl) ?_
   refine (Bp) ((jr) ?_)
   refine vC (fun hN => aSe (i := 4) (j := 0) (m := 6) (L := n) (lv := [6, 7, 8]) (more := []) rfl hN rfl oG oG rfl) (.inl rfl) ?_
   refine (ja) ((jr) (k18 ?_))
   refine yY 4 n [6] rfl (A0 _) oS ?_
   refine (ja) ?_
   refine sd mixed rfl fun k19 => (ja) ((jr) ?_)
   refine aN (fun hN => yA (i := 4) (n := 2) (L := n) (lv := [6, 7, 8]) (more := [6]) rfl hN rfl oG oG oG dg) (.inl rfl) ?_
   refine (Bp) ((jr) ?_)
   refine aN (fun hN => aSe (i := 4) (j := 2) (m := 8) (L := n) (lv := [6, 7, 8]) (more := [6]) rfl hN rfl oG oG rfl) (.inl rfl) ?_
   refine (ja) ((jr) ?_)
   refine aN (fun hN => yA (i := 4) (n := 0) (L := n) (lv := [6, 7, 8]) (more := [6]) rfl hN rfl oG oG oG dg) (.inl rfl) ?_
   refine (Bp) ((jr) ?_)
   refine aN (fun hN => aIo (i := 4) (j := 0) (m := 8) (L := n) (lv := [6, 7, 8]) (more := [6]) rfl hN rfl oG oG oG dg oS) (.inl rfl) ?_
   simp only [go_sem, List.set_cons_zero]
   refine (jr) ((jy) (k19 (wg rfl ((ja) ((jr) ?_)))))
   refine vC (fun hN => yA (i := 4) (n := 2) (L := n) (lv := [8, 7, 8]) (more := [6]) rfl hN rfl oG oG oG dg) (.inl rfl) ?_
   refine (Bp) ((jr) ?_)
   refine vC (fun hN => aIo (i := 4) (j := 2) (m := 6) (L := n) (lv := [8, 7, 8]) (more := [6]) rfl hN rfl oG oG oG dg oS) (.inl rfl) ?_
   refine (Be) ((jr) ((jt) (k7 ((aj) ?_))))
   refine bAz 4 (n := n) dg rfl fun ls hll hls => ?_
   refine (ja) ?_
   obtain ⟨xa, xb, xc, rfl⟩ : ∃ xa xb xc, ls = [xa, xb, xc] := by
     match ls, hll with
     | [xa, xb, xc], _ => exact ⟨xa, xb, xc, rfl⟩
   refine aFz 3 rfl ?_
   refine (Ad) ?_
   refine aFz 4 rfl ?_
   refine (Cz) ?_
   refine aFz 5 rfl ?_
   refine (Ad) (wR ?_)
   refine ⟨(⟨seq, mem, [xa, xb, xc], snaps⟩, p + 1), ⟨⟨by dsimp only; omega, h2, by simp, fun l hl => xC (hls l hl) og, by dsimp only; omega⟩, by dsimp only; omega, by dsimp only; omega⟩, [], ?_⟩
   exact Bo
 refine (aj) ((cdB) ?_ ?_) <;> intro hc7
 . refine aZt 4 n dg rfl (fun l hl => h4 l hl) ?_
   refine (ja) ?_
   refine dA mixed rfl ?_
   refine (ja) ((jr) ?_)
   refine aN (fun hN => yA (i := 4) (n := 1) (L := n) (lv := [6, 7, 8]) (more := []) rfl hN rfl oG oG oG dg) (.inl rfl) ?_
   refine (Bp) ((jr) ?_)
   refine aN (fun hN => aSe (i := 4) (j := 1) (m := 7) (L := n) (lv := [6, 7, 8]) (more := []) rfl hN rfl oG oG rfl) (.inl rfl) ?_
   refine (ja) ((jr) ?_)
   refine aN (fun hN => bNr (i := 4) (j := 9) (m := 7) (L := n) (lv := [6, 7, 8]) (more := []) (r := ⟨[], 0⟩) (el := .agg [.raw (.slice none 0 0), Ni 0]) rfl hN rfl rfl rfl rfl oG oG oG oG (.aggL (.cons (.nil _) (.cons (.refl _) .nil))) rfl rfl dg oS ⟨A3 _, fun e he => by cases he⟩ og) (.inr dg) ?_
   refine (ja) ((jr) ?_)
   refine aN (fun hN => yA (i := 4) (n := 1) (L := (n + 1)) (lv := [6, 7, 8]) (more := [10]) rfl hN rfl oG oG oG dg) (.inl rfl) ?_
   refine (Bp) ((jr) ?_)
   refine aN (fun hN => aIo (i := 4) (j := 1) (m := 10) (L := (n + 1)) (lv := [6, 7, 8]) (more := [10]) rfl hN rfl oG oG oG dg oS) (.inl rfl) ?_
   refine (Be) ((jr) ((jy) ((jt) (k7 ((aj) ?_)))))
   refine bAz 4 (n := (n + 1)) dg rfl fun ls hll hls => ?_
   refine (ja) ?_
   obtain ⟨xa, xb, xc, rfl⟩ : ∃ xa xb xc, ls = [xa, xb, xc] := by
     match ls, hll with
     | [xa, xb, xc], _ => exact ⟨xa, xb, xc, rfl⟩
   refine aFz 3 rfl ?_
   refine (Ad) ?_
   refine aFz 4 rfl ?_
   refine (Cz) ?_
   refine aFz 5 rfl ?_
   refine (Ad) (wR ?_)
   refine ⟨(⟨seq, mem, [xa, xb, xc], snaps⟩, p + 1), ⟨⟨by dsimp only; omega, h2, by simp, fun l hl => xC (hls l hl) og, by dsimp only; omega⟩, by dsimp only; omega, by dsimp only; omega⟩, [], ?_⟩
   exact Bo
 refine aZt 4 n dg rfl (fun l hl => h4 l hl) ?_
 refine (ja) ((aj) (wb ?_))
 refine wl (α := Nat × Nat) (fun x => x.1 <= 5 /\ p + 1 <= x.2 /\ x.2 <= p + 1 + 101 * x.1) (fun x => 5 - x.1) (fun x => ([(0, .ptr 0 0), (3, .ptr 1 0), (4, .ptr 2 0), (7, Ni (x.1 : Int))], [(0, rdO b x.2), (1, .cells 27 [Ni seq, .ref 3, .ref 4, .ref 5]), (2, .cells 27 [Ni 0, .raw (.slice none 0 0), .raw (.slice none 0 0), .raw (.slice none 0 0)]), (3, .row 43 5 ((mem).map enA)), (4, lvO (n + x.1) [6, 7, 8] []), (5, .row 3 1 (snaps.map inA))])) 9 (0, p + 1) ⟨A3 _, A0 _, A0 _⟩ [] ?_ ?_
 . exact jp
 rintro ⟨i, q⟩ ⟨hi, hq0, hq1⟩
 simp only at hi hq0 hq1 ⊢
 refine aA fun k23 => (aj) ((cdB) ?_ ?_) <;> intro hc8
 . have hge : ¬ i < 5 := by simp at hc8; omega
   refine we ((jt) ((jt) (k7 ((aj) ?_))))
   refine bAz 4 (n := (n + i)) dg rfl fun ls hll hls => ?_
   refine (ja) ?_
   obtain ⟨xa, xb, xc, rfl⟩ : ∃ xa xb xc, ls = [xa, xb, xc] := by
     match ls, hll with
     | [xa, xb, xc], _ => exact ⟨xa, xb, xc, rfl⟩
   refine aFz 3 rfl ?_
   refine (Ad) ?_
   refine aFz 4 rfl ?_
   refine (Cz) ?_
   refine aFz 5 rfl ?_
   refine (Ad) (wR ?_)
   refine ⟨(⟨seq, mem, [xa, xb, xc], snaps⟩, q), ⟨⟨by dsimp only; omega, h2, by simp, fun l hl => xC (hls l hl) og, by dsimp only; omega⟩, by dsimp only; omega, by dsimp only; omega⟩, [], ?_⟩
   exact Bo
 have hlt : i < 5 := by simp at hc8; omega
 refine wk (k23 (aA fun k25 => wb ?_))
 have hpk := iT (b := b) (n := 3) (p := q) og
 have hpk2 := hpk.2.1 og
 obtain ⟨m, hm⟩ := Int.eq_ofNat_of_zero_le hpk.1
 have hdz := aWn (b := b) (p := q + 1) og
 have hds := bHp (b := b) (p := q + 1) og
 refine dA mixed rfl ?_
 refine (ja) ((jr) ?_)
 refine tO 0 rfl rfl rfl ⟨func62, rfl, rfl⟩ (aE b (q) hb og 3) oG oG (aC _ _ _) (aC _ _ _) oG oG ?_
 refine (Ai) ((jr) ?_)
 refine aN (fun hN => yA (i := 4) (n := 0) (L := (n + i)) (lv := [6, 7, 8]) (more := []) rfl hN rfl oG oG oG dg) (.inl rfl) ?_
 refine (Bp) ((jr) ?_)
 refine aN (fun hN => aSe (i := 4) (j := 0) (m := 6) (L := (n + i)) (lv := [6, 7, 8]) (more := []) rfl hN rfl oG oG rfl) (.inl rfl) ?_
 refine (ja) ((jr) ?_)
 refine tO 0 rfl rfl rfl ⟨func148, rfl, rfl⟩ (aOy b (q + 1) hb og) oG oG (aC _ _ _) (aC _ _ _) (zQ _ _) oG ?_
 simp only [go_sem, Nat.add_zero, rA]
 refine (jr) ?_
 refine aN (fun hN => bNr (i := 4) (j := 9) (m := 6) (L := (n + i)) (lv := [6, 7, 8]) (more := []) (r := (eR b (q + 1)).1) (el := .agg [.sl 5 ((eR b (q + 1)).1.ents.map enA), .raw (.int .i64 (eR b (q + 1)).1.mask)]) rfl hN rfl rfl rfl rfl oG oG oG oG (.refl _) rfl rfl dg oS hds og) (.inr dg) ?_
 refine (ja) ((jr) ?_)
 refine aN (fun hN => yA (i := 4) (n := (aD b 3 q)) (L := (n + i + 1)) (lv := [6, 7, 8]) (more := [10]) rfl hN rfl oG oG oG ⟨hpk.1, by simpa using hpk2⟩) (.inl rfl) ?_
 refine (Bp) ((jr) ?_)
 refine aN (fun hN => aIo (i := 4) (j := (aD b 3 q).toNat) (m := 10) (L := (n + i + 1)) (lv := [6, 7, 8]) (more := [10]) rfl hN rfl oG oG oG (by simp; omega) oS) (.inl rfl) ?_
 refine (ja) ((jr) ((jy) ((jt) (k25 ?_))))
 have hk3 : (aD b 3 q).toNat = 0 ∨ (aD b 3 q).toNat = 1 ∨ (aD b 3 q).toNat = 2 := by omega
 rcases hk3 with hk | hk | hk
 . rw [hk]; simp only [List.set_cons_zero, List.set_cons_succ]
   refine yY 4 (n + (i + 1)) [] rfl og oS ?_
   refine (ja) ?_
   have hwi := wiS i og
   refine wg rfl ((Aa hwi) ((jt) ?_))
   refine ⟨(i + 1, (eR b (q + 1)).2), ⟨by show i + 1 <= 5; omega, by show p + 1 <= (eR b (q + 1)).2; omega, by show (eR b (q + 1)).2 <= p + 1 + 101 * (i + 1); omega⟩, by show 5 - (i + 1) < 5 - i; omega, [(6, 10)], ?_⟩
   simp only [go_sem, AObj.bel, AObj.ren, AV.ren, aB, sg] <;> simp <;> omega
 . rw [hk]; simp only [List.set_cons_zero, List.set_cons_succ]
   refine yY 4 (n + (i + 1)) [] rfl og oS ?_
   refine (ja) ?_
   have hwi := wiS i og
   refine wg rfl ((Aa hwi) ((jt) ?_))
   refine ⟨(i + 1, (eR b (q + 1)).2), ⟨by show i + 1 <= 5; omega, by show p + 1 <= (eR b (q + 1)).2; omega, by show (eR b (q + 1)).2 <= p + 1 + 101 * (i + 1); omega⟩, by show 5 - (i + 1) < 5 - i; omega, [(7, 10)], ?_⟩
   simp only [go_sem, AObj.bel, AObj.ren, AV.ren, aB, sg] <;> simp <;> omega
 rw [hk]; simp only [List.set_cons_zero, List.set_cons_succ]
 refine yY 4 (n + (i + 1)) [] rfl og oS ?_
 refine (ja) ?_
 have hwi := wiS i og
 refine wg rfl ((Aa hwi) ((jt) ?_))
 refine ⟨(i + 1, (eR b (q + 1)).2), ⟨by show i + 1 <= 5; omega, by show p + 1 <= (eR b (q + 1)).2; omega, by show (eR b (q + 1)).2 <= p + 1 + 101 * (i + 1); omega⟩, by show 5 - (i + 1) < 5 - i; omega, [(8, 10)], ?_⟩
 simp only [go_sem, AObj.bel, AObj.ren, AV.ren, aB, sg] <;> simp <;> omega
set_option maxHeartbeats 1000000 in
def aOg (b : List UInt8) (p : Nat) (hb : b.length <= 2000) (hp : p + 5000 <= 1000000000) (s : Store) (hok : aF s = true) (hu : s.up = true) : xB P 63 [.ptr 0 0, stA s] [(0, rdO b p)] 1 (fun g : Store × Nat => smS g.1 /\ p <= g.2 /\ g.2 <= p + 4000) (fun g => stA g.1) (fun g => [(0, rdO b g.2)]) 1 := by
 refine lV (fn := Tryz.f63) (N := 115) (vs := [.cell 4 31]) ⟨func63, rfl, rfl⟩ rfl rfl oS ?_
 simp only [eE, stA]
 have hmx := mxl
 obtain ⟨hs, hlg, hf0, hf1, hlv, hq0, hq1, hd0, hd1⟩ := bGd hok
 have hcp := wW hok
 have ht := bQe hok hu
 refine (aj) ?_
 refine sr rfl fun k2 => (ja) ?_
 refine vO 0 rfl rfl rfl ⟨func62, rfl, rfl⟩ (aE b (p) hb og 80) oG oG (aC _ _ _) (aC _ _ _) oG oG ?_
 refine (Ai) (k2 (aA fun k3 => (aj) ((cdA) ?_ ?_))) <;> intro hc1
 . refine (aj) (wR ?_)
   refine ⟨(s, p + 1), ⟨⟨⟨hs.1, hs.2⟩, by dsimp only; omega⟩, by dsimp only; omega, by dsimp only; omega⟩, [], ?_⟩
   exact Ar
 refine wk (k3 (sr rfl fun k6 => (ja) ?_))
 refine vs rfl rfl rfl func31 (eP s hs) Ab Ab ?_
 simp only [go_sem, stA, hcp]
 refine k6 ((aj) ?_)
 refine aA fun k8 => (aj) (wb ((aj) ((cdA) ?_ ?_))) <;> intro hc2
 . refine wg rfl ((ja) ((jt) (k8 ((aj) (wR ?_)))))
   refine ⟨(⟨!s.up, s.tree, ⟨s.disk.log, s.disk.safe, s.disk.levels, s.disk.seq⟩⟩, p + 1), ⟨⟨⟨hs.1, hs.2⟩, by dsimp only; omega⟩, by dsimp only; omega, by dsimp only; omega⟩, [], ?_⟩
   exact Ar
 refine (aj) ((cdA) ?_ ?_) <;> intro hc3
 . refine wg rfl ((ja) ((jr) ?_))
   refine bF 3 rfl ?_
   refine (Ad) ?_
   refine vO 0 rfl rfl rfl ⟨func64, rfl, rfl⟩ (bD b (p + 1) hb og [-1, IntKind.i64.wrap ((s.disk.log.size : Int) + 1), 0, (s.disk.log.size : Int)] oS) By By (aC _ _ _) (aC _ _ _) oG oG ?_
   refine (Ai) ((jr) ((jt) (k8 ((aj) (wR ?_)))))
   refine ⟨(⟨s.up, s.tree, ⟨s.disk.log, eS [-1, IntKind.i64.wrap ((s.disk.log.size : Int) + 1), 0, (s.disk.log.size : Int)] b (p + 1), s.disk.levels, s.disk.seq⟩⟩, p + 2), ⟨⟨⟨hs.1, hs.2⟩, by dsimp only; omega⟩, by dsimp only; omega, by dsimp only; omega⟩, [], ?_⟩
   exact Ar
 refine (aj) ((cdA) ?_ ?_) <;> intro hc4
 . have hbd := aIs aNt b (p + 1)
   have hbd2 : -1 <= eS aNt b (p + 1) /\ eS aNt b (p + 1) <= 50 := by
     rcases hbd with h | h
     . omega
     exact (by decide : ∀ x ∈ aNt, (-1 : Int) <= x /\ x <= 50) _ h
   have hw15 := wr (s.disk.seq + eS aNt b (p + 1)) (s.disk.seq + eS aNt b (p + 1)) og
   refine ddT 4 mixed rfl ?_
   refine (ja) ((jr) ?_)
   refine aN (fun hN => uF (e := 3) (sz := 1) (xs := [Ni 1, Ni (-1), Ni 50]) rfl hN oG trivial oS) (.inr dg) ?_
   refine (Ad) ((jr) ?_)
   refine tO 0 rfl rfl rfl ⟨func64, rfl, rfl⟩ (bD b (p + 1) hb og aNt dg) (by simp only [go_sem, aNt, List.map_cons, List.map_nil, inA]) (by simp only [go_sem, aNt, List.map_cons, List.map_nil, inA]) (aC _ _ _) (aC _ _ _) oG oG ?_
   refine (Bd hw15) ((jr) ((jy) ((jt) (k8 ((aj) (wR ?_))))))
   refine ⟨(⟨s.up, s.tree, ⟨s.disk.log, s.disk.safe, s.disk.levels, s.disk.seq + eS aNt b (p + 1)⟩⟩, p + 2), ⟨⟨⟨hs.1, hs.2⟩, by dsimp only; omega⟩, by dsimp only; omega, by dsimp only; omega⟩, [], ?_⟩
   exact Ar
 refine (aj) ((cdA) ?_ ?_) <;> intro hc5
 . have hpk := iT (b := b) (n := max 1 (min (s.disk.log.size : Int) 5)) (p := p + 1) og
   have hpk2 := hpk.2.1 og
   have hw17 := wr ((s.disk.log.size : Int) - aD b (max 1 (min (s.disk.log.size : Int) 5)) (p + 1)) ((s.disk.log.size : Int) - aD b (max 1 (min (s.disk.log.size : Int) 5)) (p + 1)) og
   refine dA mixed rfl ?_
   refine (ja) ((jr) ?_)
   refine tp rfl rfl rfl ⟨func74, rfl, rfl⟩ (aCv (s.disk.log.size : Int) 5) oG oG ?_
   refine (ja) ((jr) ?_)
   refine tp rfl rfl rfl ⟨func73, rfl, rfl⟩ (vB 1 (min (s.disk.log.size : Int) 5)) oG oG ?_
   refine (ja) ((jr) ?_)
   refine tO 0 rfl rfl rfl ⟨func62, rfl, rfl⟩ (aE b (p + 1) hb og (max 1 (min (s.disk.log.size : Int) 5))) oG oG (aC _ _ _) (aC _ _ _) oG oG ?_
   refine (Bd hw17) ((jr) ((jy) ((jt) (k8 ((aj) (wR ?_))))))
   refine ⟨(⟨s.up, s.tree, ⟨s.disk.log.extract 0 ((s.disk.log.size : Int) - aD b (max 1 (min (s.disk.log.size : Int) 5)) (p + 1)).toNat, s.disk.safe, s.disk.levels, s.disk.seq⟩⟩, p + 2), ⟨⟨⟨hs.1, hs.2⟩, by dsimp only; rw [ByteArray.size_extract]; omega⟩, by dsimp only; omega, by dsimp only; omega⟩, [], ?_⟩
   exact Ar
 refine (aj) ((cdA) ?_ ?_) <;> intro hc6
 . have hof := xH (b := b) (p := p + 1) bKj
   refine ddT 4 mixed rfl ?_
   refine (ja) ((jr) ?_)
   refine aN (fun hN => uF (e := 9) (sz := 1) (xs := [Ns ⟨#[120]⟩, Ns ⟨#[49, 50, 32]⟩, Ns ⟨#[48, 32, 10]⟩, Ns ⟨#[49, 48, 32, 97, 32, 57, 32, 50, 32, 48, 32, 48, 32, 10]⟩]) rfl hN oG trivial oS) (.inr dg) ?_
   refine (Ad) ((jr) ?_)
   refine tO 0 rfl rfl rfl ⟨func113, rfl, rfl⟩ (jI b (p + 1) hb og aXm dg) (by simp only [go_sem, aXm, List.map_cons, List.map_nil]) (by simp only [go_sem, aXm, List.map_cons, List.map_nil]) (aC _ _ _) (aC _ _ _) oG oG ?_
   refine (Ai) ((jr) ((jy) ((jt) (k8 ((aj) (wR ?_))))))
   refine ⟨(⟨s.up, s.tree, ⟨s.disk.log ++ ofZ aXm b (p + 1), s.disk.safe, s.disk.levels, s.disk.seq⟩⟩, p + 2), ⟨⟨⟨hs.1, hs.2⟩, by dsimp only; rw [B8]; omega⟩, by dsimp only; omega, by dsimp only; omega⟩, [], ?_⟩
   exact Ar
 refine (aj) ((cdA) ?_ ?_) <;> intro hc7
 . refine wg rfl ((ja) ?_)
   refine vX 0 rfl rfl rfl ⟨func114, rfl, rfl⟩ (pV b (p + 1) hb og s.tree 60 ht og) Ae Ae (aC _ _ _) (fun _ => aC _ _ _) (fun _ => gC _ _) oG ?_
   rintro ⟨t1, q1⟩ ⟨ht1, hq1, hq1b⟩
   simp only at ht1 hq1 hq1b
   refine (Ai) ?_
   refine vX 0 rfl rfl rfl ⟨func114, rfl, rfl⟩ (pV b (q1) hb og t1 70 ht1 og) Ae Ae (aC _ _ _) (fun _ => aC _ _ _) (fun _ => gC _ _) oG ?_
   rintro ⟨t2, q2⟩ ⟨ht2, hq2, hq2b⟩
   simp only at ht2 hq2 hq2b
   refine (Ai) ?_
   refine vX 0 rfl rfl rfl ⟨func114, rfl, rfl⟩ (pV b (q2) hb og t2 80 ht2 og) Ae Ae (aC _ _ _) (fun _ => aC _ _ _) (fun _ => gC _ _) oG ?_
   rintro ⟨t3, q3⟩ ⟨ht3, hq3, hq3b⟩
   simp only at ht3 hq3 hq3b
   refine (Ai) ?_
   refine vX 0 rfl rfl rfl ⟨func114, rfl, rfl⟩ (pV b (q3) hb og t3 90 ht3 og) Ae Ae (aC _ _ _) (fun _ => aC _ _ _) (fun _ => gC _ _) oG ?_
   rintro ⟨t4, q4⟩ ⟨ht4, hq4, hq4b⟩
   simp only at ht4 hq4 hq4b
   simp only [go_sem, Nat.add_zero, trA]
   refine (jt) (k8 ((aj) (wR ?_)))
   refine ⟨(⟨s.up, t4, ⟨s.disk.log, s.disk.safe, s.disk.levels, s.disk.seq⟩⟩, q4), ⟨⟨⟨bNy ht4 og, hs.2⟩, by dsimp only; omega⟩, by dsimp only; omega, by dsimp only; omega⟩, [], ?_⟩
   exact Ar
 refine (aj) ((cdA) ?_ ?_) <;> intro hc8
 . refine wg rfl ?_; simp only [go_sem, A7, List.not_mem_nil, or_false, or_self]
   refine (jr) ((jt) (k8 ((aj) ?_)))
   refine aFz 6 rfl ?_
   refine (Ad) (wR ?_)
   refine ⟨(⟨s.up, s.tree, ⟨s.disk.log, s.disk.safe, [[], [], []], s.disk.seq⟩⟩, p + 1), ⟨⟨⟨hs.1, ⟨by show (3 : Nat) <= _; omega, fun r hr => by simp at hr; subst hr; exact ⟨by decide, fun x hx => by cases hx⟩⟩⟩, by dsimp only; omega⟩, by dsimp only; omega, by dsimp only; omega⟩, [], ?_⟩
   simp only [go_sem, stA, rsA, List.map_cons, List.map_nil, AObj.bel, AObj.ren, AV.ren, aB, sg] <;> simp
 refine (aj) ((cdB) ?_ ?_) <;> intro hc9
 . refine wk ((jt) (k8 ((aj) (wR ?_))))
   refine ⟨(s, p + 1), ⟨⟨⟨hs.1, hs.2⟩, by dsimp only; omega⟩, by dsimp only; omega, by dsimp only; omega⟩, [], ?_⟩
   exact Ar
 have hn0 : 0 < s.disk.log.size := by simp at hc9; omega
 have hpk := iT (b := b) (n := (s.disk.log.size : Int)) (p := p + 1) og
 have hpk2 := hpk.2.1 og
 have h51 : (#[51] : Array UInt8).size = 1 := rfl
 have hx1 : (s.disk.log.extract 0 (aD b (s.disk.log.size : Int) (p + 1)).toNat).size <= s.disk.log.size := by rw [ByteArray.size_extract]; omega
 have hx2 : (s.disk.log.extract (aD b (s.disk.log.size : Int) (p + 1) + 1).toNat s.disk.log.size).size <= s.disk.log.size := by rw [ByteArray.size_extract]; omega
 have hw9 := wr (aD b (s.disk.log.size : Int) (p + 1) + 1) (aD b (s.disk.log.size : Int) (p + 1) + 1) og
 refine sr rfl fun k25 => (ja) ?_
 refine vO 0 rfl rfl rfl ⟨func62, rfl, rfl⟩ (aE b (p + 1) hb og (s.disk.log.size : Int)) oG oG (aC _ _ _) (aC _ _ _) oG oG ?_
 refine (Ai) (k25 ?_)
 refine dA mixed rfl ?_
 simp only [go_sem, hw9, Int.toNat_zero]
 refine (jr) ((jy) ((jt) (k8 ((aj) (wR ?_)))))
 refine ⟨(⟨s.up, s.tree, ⟨s.disk.log.extract 0 (aD b (s.disk.log.size : Int) (p + 1)).toNat ++ ⟨#[51]⟩ ++ s.disk.log.extract (aD b (s.disk.log.size : Int) (p + 1) + 1).toNat s.disk.log.size, s.disk.safe, s.disk.levels, s.disk.seq⟩⟩, p + 2), ⟨⟨⟨hs.1, hs.2⟩, by dsimp only; rw [B8, B8, ByteArray.size_extract, ByteArray.size_extract]; have : (⟨#[51]⟩ : ByteArray).size = 1 := rfl; omega⟩, by dsimp only; omega, by dsimp only; omega⟩, [], ?_⟩
 exact Ar
def aOz (b : List UInt8) (p : Nat) (hb : b.length <= 2000) (hp : p + 20000 <= 1000000000) : xB P 24 [.ptr 0 0] [(0, rdO b p)] 1 (fun g : Store × Nat => smS g.1 /\ p <= g.2 /\ g.2 <= p + 9000) (fun g => stA g.1) (fun g => [(0, rdO b g.2)]) 1 := by
 refine lV (fn := Tryz.f24) (N := 32) (vs := [.cell 2 31]) ⟨func24, rfl, rfl⟩ rfl rfl oS ?_
 simp only [eE]
 obtain ⟨hok, hp1, hp2⟩ := bKb (b := b) (p := p) og
 obtain ⟨s, q, hpz⟩ : ∃ s q, aAs b p = (s, q) := ⟨_, _, rfl⟩
 rw [hpz] at hok hp1 hp2
 simp only at hok hp1 hp2
 obtain ⟨hs, hlg, hf0, hf1, hlv, hq0, hq1, hd0, hd1⟩ := bGd hok
 have hw6 := wr (s.disk.seq + 1) (s.disk.seq + 1) og
 refine (aj) ?_
 refine sr rfl fun k2 => (ja) ?_
 refine vO 0 rfl rfl rfl ⟨func61, rfl, rfl⟩ (aOs b p hb og) oG oG (aC _ _ _) (aC _ _ _) (aR _ _) oG ?_
 simp only [go_sem, Nat.add_zero, hpz, stA]
 refine k2 (aA fun k3 => (aj) ((cdA) ?_ ?_)) <;> intro hc1
 . refine (aj) (wR ?_)
   refine ⟨(s, q), ⟨⟨⟨hs.1, hs.2⟩, by dsimp only; omega⟩, by dsimp only; omega, by dsimp only; omega⟩, [], ?_⟩
   exact Ar
 refine wk (k3 (aA fun k6 => (aj) ((cdB) ?_ ?_))) <;> intro hc2
 . have hu : s.up = true := by simpa using hc2
   refine wk (k6 (sr rfl fun k12 => (ja) ?_))
   refine vX 0 rfl rfl rfl ⟨func63, rfl, rfl⟩ (aOg b q hb og s hok hu) Ab Ab (aC _ _ _) (fun _ => aC _ _ _) (fun _ => aR _ _) oG ?_
   rintro ⟨s2, q2⟩ ⟨hs2, h1, h2⟩
   simp only at hs2 h1 h2
   simp only [go_sem, Nat.add_zero, stA]
   refine k12 (wR ?_)
   refine ⟨(s2, q2), ⟨hs2, by dsimp only; omega, by dsimp only; omega⟩, [], ?_⟩
   exact Ar
 refine aA fun k8 => sr rfl fun k9 => (ja) ?_
 refine vO 0 rfl rfl rfl ⟨func62, rfl, rfl⟩ (aE b (q) hb og 10) oG oG (aC _ _ _) (aC _ _ _) oG oG ?_
 refine (Ai) (k9 ((cdA) ?_ ?_)) <;> intro hc3
 . refine wg rfl ((Aa hw6) (k8 ((aj) (wR ?_))))
   refine ⟨(⟨s.up, s.tree, ⟨s.disk.log, s.disk.safe, s.disk.levels, s.disk.seq + 1⟩⟩, q + 1), ⟨⟨⟨hs.1, hs.2⟩, by dsimp only; omega⟩, by dsimp only; omega, by dsimp only; omega⟩, [], ?_⟩
   exact Ar
 refine wk (k8 ((aj) (wR ?_)))
 refine ⟨(s, q + 1), ⟨⟨⟨hs.1, hs.2⟩, by dsimp only; omega⟩, by dsimp only; omega, by dsimp only; omega⟩, [], ?_⟩
 exact Ar
def aNw (b : List UInt8) (p : Nat) (hb : b.length <= 2000) (hp : p + 10 <= 1000000000) (s : Store) (hl : s.disk.log.size <= 20000) : aP P 25 [.ptr 0 0, stA s] [(0, rdO b p)] 1 (Ni (aPk b p s)) [(0, rdO b (p + 4))] 1 := by
 refine (gq 26 [.tmp 4] func25) ?_
 simp only [stA]
 have hmx := mxl
 refine (aj) ((aj) ?_)
 have hwn := wr ((s.disk.log.size : Int) + 1) ((s.disk.log.size : Int) + 1) og
 refine sr rfl fun k3 => (Aa hwn) ((jr) ?_)
 refine vO 0 rfl rfl rfl ⟨func62, rfl, rfl⟩ (aE b (p) hb og ((s.disk.log.size : Int) + 1)) oG oG (aC _ _ _) (aC _ _ _) oG oG ?_
 refine (Bd hwn) ((jr) ?_)
 refine vO 0 rfl rfl rfl ⟨func62, rfl, rfl⟩ (aE b (p + 1) hb og ((s.disk.log.size : Int) + 1)) oG oG (aC _ _ _) (aC _ _ _) oG oG ?_
 refine (Bd hwn) ((jr) ?_)
 refine vO 0 rfl rfl rfl ⟨func62, rfl, rfl⟩ (aE b (p + 2) hb og ((s.disk.log.size : Int) + 1)) oG oG (aC _ _ _) (aC _ _ _) oG oG ?_
 refine (Bd hwn) ((jr) ?_)
 refine bF 2 rfl ?_
 refine (Ad) ?_
 refine vO 0 rfl rfl rfl ⟨func64, rfl, rfl⟩ (bD b (p + 3) hb og (aHa b p s) (by simp [aHa])) (by simp only [go_sem, aHa, List.map_cons, List.map_nil, inA]) (by simp only [go_sem, aHa, List.map_cons, List.map_nil, inA]) (aC _ _ _) (aC _ _ _) oG oG ?_
 refine (Ai) ((jr) (k3 (wR ?_)))
 refine ⟨[], ?_⟩
 simp only [go_sem, aPk, AObj.bel, AObj.ren, AV.ren, aB, sg] <;> simp
def yL (code : List UInt8) (hc : code.length <= 9223372036854775807) : xB P 7 [.sl 1 (code.map byteAV)] [] 0 (fun g : Store × Int => smS g.1 /\ -1 <= g.2 /\ g.2 <= 9223372036854775807) (fun g => .tup [stA g.1, Ni g.2]) (fun g => []) 0 := by
 refine lV (fn := Tryz.f7) (N := 14) (vs := [.cell 2 31, .tmp 3]) ⟨func7, rfl, rfl⟩ rfl rfl oS ?_
 simp only [eE]
 have hbt : (code.take 2000).length <= 2000 := by rw [B3]; omega
 refine (aj) ?_
 refine sr rfl fun k2 => (ja) ?_
 refine vn 1 rfl rfl rfl ⟨func23, rfl, rfl⟩ (aOd code hc) oG oG oS dg ?_
 refine (jn) (k2 (sr rfl fun k3 => (ja) ?_))
 refine vX 1 rfl rfl rfl ⟨func24, rfl, rfl⟩ (aOz (code.take 2000) 0 hbt og) oG trivial (aC _ _ _) (fun _ => aC _ _ _) (fun _ => aR _ _) oG ?_
 rintro ⟨s, q⟩ ⟨hs, h1, h2⟩
 simp only at hs h1 h2
 simp only [go_sem, Nat.add_zero, stA]
 refine k3 (sd mixed rfl fun k4 => (ja) ?_)
 refine tO 1 rfl rfl rfl ⟨func25, rfl, rfl⟩ (aNw (code.take 2000) q hbt og s hs.2) Ab Ab (aC _ _ _) (aC _ _ _) oG oG ?_
 refine (Ai) ((jy) (k4 (wR ?_)))
 refine ⟨(s, aPk (code.take 2000) q s), ⟨hs, bJj og hs.2⟩, [], ?_⟩
 exact Ar
end
def frI (s : Store) (k : Int) : Store × Bool := if s.up = false then (s, false) else (aHe s k, true)
def bQd {s : Store} (h : bQ s) (k : Int) : bQ (frI s k).1 := by
  unfold frI; split
  . exact h
  exact bNl h k
def opQ (s : Store) : Store × Bool := if s.up = true then (s, false) else (tW s, true)
def bQg {s : Store} (h : bQ s) (hlog : s.disk.log.size <= 12000) : bQ (opQ s).1 := by
  unfold opQ; split
  . exact h
  exact aHo h hlog
def bA (s : Store) (k : Int) : Store := if aF s = false then zStore else if s.up = false then bH s else iJ (bH s) k
def iB (s : Store) : Store := if aF s = false then zStore else if s.up = true then bH s else dX (bH s)
def aRr (s : Store) (k : Int) : (sdI (fun s => frI s k) s).1 = bA s k := by
  unfold sdI bA
  cases ho : bM s with
  | false => rw [<- mD, ho]; rfl
  | true =>
    rw [<- mD, ho]; simp only [Bool.true_eq_false, if_false]
    have hcp : bH s = s := wW (by rw [<- mD]; exact ho)
    cases hu : s.up with
    | false =>
      have hb : frI s k = (s, false) := by unfold frI; rw [if_pos hu]
      rw [hb, if_pos rfl, if_pos rfl, hcp]
    | true =>
      have hb : frI s k = (aHe s k, true) := by unfold frI; rw [if_neg (by rw [hu]; simp)]
      obtain ⟨g0, g1⟩ := aWc ho
      rw [hb, if_neg oS, if_neg oS, hcp, <- bLw k g1]
def aRu (s : Store) : (sdI opQ s).1 = iB s := by
  unfold sdI iB
  cases ho : bM s with
  | false => rw [<- mD, ho]; rfl
  | true =>
    rw [<- mD, ho]; simp only [Bool.true_eq_false, if_false]
    have hcp : bH s = s := wW (by rw [<- mD]; exact ho)
    cases hu : s.up with
    | true =>
      have hb : opQ s = (s, false) := by unfold opQ; rw [if_pos hu]
      rw [hb, if_pos rfl, if_pos rfl, hcp]
    | false =>
      have hb : opQ s = (tW s, true) := by unfold opQ; rw [if_neg (by rw [hu]; simp)]
      have hl := bAq ho
      rw [hb, if_neg oS, if_neg oS, hcp, bDd og]
def bDg (a b : Store) : Bool := ((((a.up == b.up && eY a.tree b.tree) && a.disk.log.toList == b.disk.log.toList) && decide (a.disk.safe = b.disk.safe)) && decide (a.disk.seq = b.disk.seq)) && decide (a.disk.levels = b.disk.levels)
def aJl (a : Store) : bDg a a = true := by simp [bDg, eY]
def aBw (s : Store) (keep : Int) (h0 : 0 <= s.disk.safe) : aP P 27 [stA s, .ptr 0 0] [(0, .cells 3 [Ni keep])] 1 (.tup [stA (frI s keep).1, .raw (.bool (frI s keep).2)]) [(0, .cells 3 [Ni keep])] 1 := by
 refine (gq 12 [.cell 3 31, .tmp 4] func27) ?_
 simp only [stA]
 refine (aj) ?_
 refine aA fun k2 => (aj) ((cdA) ?_ ?_) <;> intro hc1
 . have hup : s.up = false := by simpa using hc1
   have h9 : frI s keep = (s, false) := by unfold frI; rw [if_pos hup]
   refine (aj) (wR ?_)
   refine ⟨[], ?_⟩
   exact Aq h9
 have hup : s.up = true := by simpa using hc1
 have h9 : frI s keep = (aHe s keep, true) := by unfold frI; rw [if_neg (by rw [hup]; simp)]
 refine wk (k2 (sr rfl fun k5 => (ja) ?_))
 refine vs rfl rfl rfl func28 (aNz s keep h0) Ab Ab ?_
 refine (Aj) (k5 (wR ?_))
 refine ⟨[], ?_⟩
 exact Aq h9
def aCi (s : Store) (hlog : s.disk.log.size <= 12000) : aJ P 37 [stA s] [] 0 (.tup [stA (opQ s).1, .raw (.bool (opQ s).2)]) := by
 refine (pq 9 [.cell 2 31, .tmp 3] func37) ?_
 simp only [stA]
 refine (aj) ?_
 refine aA fun k2 => (aj) ((cdA) ?_ ?_) <;> intro hc1
 . have hup : s.up = true := by simpa using hc1
   have h9 : opQ s = (s, false) := by unfold opQ; rw [if_pos hup]
   refine (aj) (wR ?_)
   refine fO ?_ ⟨aR _ _, trivial, trivial⟩
   exact Ap h9
 have hup : s.up = false := by simpa using hc1
 have h9 : opQ s = (tW s, true) := by unfold opQ; rw [if_neg (by rw [hup]; simp)]
 refine wk (k2 (sr rfl fun k5 => (ja) ?_))
 refine vs rfl rfl rfl func38 (aAt s hlog) Ab Ab ?_
 refine (Aj) (k5 (wR ?_))
 refine fO ?_ ⟨aR _ _, trivial, trivial⟩
 exact Ap h9
def aYc (s : Store) (keep : Int) (hs : bQ s) : aP P 26 [stA s, .fn (.func 27) [] [.ptr 0 0]] [(0, .cells 3 [Ni keep])] 1 (.tup [.agg [.raw (.bool (sdI (fun s => frI s keep) s).1.up), .raw (.int .i64 (sdI (fun s => frI s keep) s).1.tree.seq), .ref 1, .ref 2, .ref 3, .raw (.string (sdI (fun s => frI s keep) s).1.disk.log), .raw (.int .i64 (sdI (fun s => frI s keep) s).1.disk.safe), .ref 4, .raw (.int .i64 (sdI (fun s => frI s keep) s).1.disk.seq)], .raw (.bool (sdI (fun s => frI s keep) s).2)]) [(0, .cells 3 [Ni keep]), (1, .row 43 5 ((sdI (fun s => frI s keep) s).1.tree.mem.map enA)), (2, .row 102 1 ((sdI (fun s => frI s keep) s).1.tree.levels.map rsO)), (3, .row 3 1 ((sdI (fun s => frI s keep) s).1.tree.snaps.map inA)), (4, .row 102 1 ((sdI (fun s => frI s keep) s).1.disk.levels.map rsO))] 5 := by
 refine (gq 24 [.cell 4 31, .tmp 5] func26) ?_
 simp only [stA]
 refine (aj) ?_
 refine aA fun k2 => sr rfl fun k3 => (ja) ?_
 refine (vr rfl rfl rfl func15 (aRf s hs) Ab Ab) (k3 ((cdA) ?_ ?_)) <;> intro hc1
 . have hok : bM s = false := by simpa using hc1
   have h9 : sdI (fun s => frI s keep) s = (zStore, false) := by unfold sdI; rw [if_pos hok]
   refine (aj) ?_
   refine nA (i := 2) (j := 2) 43 5 rfl rfl dg ?_
   refine (Be) ?_
   refine nA (i := 2) (j := 3) 102 1 rfl rfl dg ?_
   refine (Be) ?_
   refine nA (i := 2) (j := 4) 3 1 rfl rfl dg ?_
   refine (Be) ?_
   refine nA (i := 2) (j := 7) 102 1 rfl rfl dg ?_
   refine (Be) (wR ?_)
   refine ⟨[(1, 3), (2, 4), (3, 5), (4, 6)], ?_⟩
   simp only [go_sem, AObj.bel, AObj.ren, AV.ren, aB, sg, h9, zStore, hP, aQg, List.map_nil] <;> simp
 have hok : bM s = true := by simpa using hc1
 have hlog := bAq hok
 have hq : s.up = true -> 0 <= s.tree.seq /\ s.tree.seq <= 100000 := fun hu => ⟨(aIp hok hu).1, (aIp hok hu).2.1⟩
 refine wk (k2 (sr rfl fun k5 => (ja) ?_))
 refine vC (fun hN => vJ [] 0 (xs := [stA s]) rfl rfl rfl rfl ⟨func27, rfl, rfl⟩ hN (aBw s keep (bNd hok)) rfl Ab (by simp only [go_sem, AV.ren, aB, aFk] <;> rfl) (by simp only [go_sem, aR]) (mT (H1 := []) (.inl rfl) oG Cc)) (.inl rfl) ?_
 simp only [go_sem, AV.ren, AObj.ren, aB, shift, sg, A0, Nat.add_zero, Nat.sub_self, stA]
 refine k5 (aA fun k6 => (aj) ((cdA) ?_ ?_)) <;> intro hc2
 . have hf : ((fun s => frI s keep) s).2 = false := by simpa using hc2
   have h9 : sdI (fun s => frI s keep) s = (s, false) := by unfold sdI; rw [if_neg (by rw [hok]; simp), if_pos hf]
   refine sr rfl fun k8 => (ja) ?_
   refine vn 4 rfl rfl rfl ⟨func65, rfl, rfl⟩ (hZ s hs) Ab Ab oS dg ?_
   refine (jn) (k8 (wR ?_))
   refine ⟨[(1, 4), (2, 5), (3, 6), (4, 7)], ?_⟩
   exact Au h9
 have hf : ((fun s => frI s keep) s).2 = true := by simpa using hc2
 have h9 : sdI (fun s => frI s keep) s = (((fun s => frI s keep) s).1, true) := by unfold sdI; rw [if_neg (by rw [hok]; simp), if_neg (by rw [hf]; simp)]
 refine wk (k6 (sr rfl fun k9 => (ja) ?_))
 refine vn 4 rfl rfl rfl ⟨func65, rfl, rfl⟩ (hZ ((fun s => frI s keep) s).1 (bQd hs keep)) Ab Ab oS dg ?_
 refine (jn) (k9 (wR ?_))
 refine ⟨[(1, 4), (2, 5), (3, 6), (4, 7)], ?_⟩
 exact Au h9
def aVn (s : Store) (hs : bQ s) : aP P 26 [stA s, .fn (.func 37) [] []] [] 0 (.tup [.agg [.raw (.bool (sdI opQ s).1.up), .raw (.int .i64 (sdI opQ s).1.tree.seq), .ref 0, .ref 1, .ref 2, .raw (.string (sdI opQ s).1.disk.log), .raw (.int .i64 (sdI opQ s).1.disk.safe), .ref 3, .raw (.int .i64 (sdI opQ s).1.disk.seq)], .raw (.bool (sdI opQ s).2)]) [(0, .row 43 5 ((sdI opQ s).1.tree.mem.map enA)), (1, .row 102 1 ((sdI opQ s).1.tree.levels.map rsO)), (2, .row 3 1 ((sdI opQ s).1.tree.snaps.map inA)), (3, .row 102 1 ((sdI opQ s).1.disk.levels.map rsO))] 4 := by
 refine (gq 24 [.cell 4 31, .tmp 5] func26) ?_
 simp only [stA]
 refine (aj) ?_
 refine aA fun k2 => sr rfl fun k3 => (ja) ?_
 refine (vr rfl rfl rfl func15 (aRf s hs) Ab Ab) (k3 ((cdA) ?_ ?_)) <;> intro hc1
 . have hok : bM s = false := by simpa using hc1
   have h9 : sdI opQ s = (zStore, false) := by unfold sdI; rw [if_pos hok]
   refine (aj) ?_
   refine nA (i := 1) (j := 2) 43 5 rfl rfl dg ?_
   refine (Be) ?_
   refine nA (i := 1) (j := 3) 102 1 rfl rfl dg ?_
   refine (Be) ?_
   refine nA (i := 1) (j := 4) 3 1 rfl rfl dg ?_
   refine (Be) ?_
   refine nA (i := 1) (j := 7) 102 1 rfl rfl dg ?_
   refine (Be) (wR ?_)
   refine ⟨[(0, 2), (1, 3), (2, 4), (3, 5)], ?_⟩
   simp only [go_sem, AObj.bel, AObj.ren, AV.ren, aB, sg, h9, zStore, hP, aQg, List.map_nil] <;> simp
 have hok : bM s = true := by simpa using hc1
 have hlog := bAq hok
 have hq : s.up = true -> 0 <= s.tree.seq /\ s.tree.seq <= 100000 := fun hu => ⟨(aIp hok hu).1, (aIp hok hu).2.1⟩
 refine wk (k2 (sr rfl fun k5 => (ja) ?_))
 refine vC (fun hN => vJ [] 0 (xs := [stA s]) rfl rfl rfl rfl ⟨func37, rfl, rfl⟩ hN (aCi s hlog) rfl Ab (by simp only [go_sem, AV.ren, aB, aFk] <;> rfl) (by simp only [go_sem, aR]) ⟨trivial, D8, (fun i hi => by omega), (fun p hp => by cases hp), (fun p hp => by cases hp), (fun p hp => by cases hp), og⟩) (.inl rfl) ?_
 simp only [go_sem, AV.ren, AObj.ren, aB, shift, sg, A0, Nat.add_zero, Nat.sub_self, stA]
 refine k5 (aA fun k6 => (aj) ((cdA) ?_ ?_)) <;> intro hc2
 . have hf : (opQ s).2 = false := by simpa using hc2
   have h9 : sdI opQ s = (s, false) := by unfold sdI; rw [if_neg (by rw [hok]; simp), if_pos hf]
   refine sr rfl fun k8 => (ja) ?_
   refine vn 4 rfl rfl rfl ⟨func65, rfl, rfl⟩ (hZ s hs) Ab Ab oS dg ?_
   refine (jn) (k8 (wR ?_))
   refine ⟨[(0, 3), (1, 4), (2, 5), (3, 6)], ?_⟩
   exact Au h9
 have hf : (opQ s).2 = true := by simpa using hc2
 have h9 : sdI opQ s = ((opQ s).1, true) := by unfold sdI; rw [if_neg (by rw [hok]; simp), if_neg (by rw [hf]; simp)]
 refine wk (k6 (sr rfl fun k9 => (ja) ?_))
 refine vn 4 rfl rfl rfl ⟨func65, rfl, rfl⟩ (hZ (opQ s).1 (bQg hs hlog)) Ab Ab oS dg ?_
 refine (jn) (k9 (wR ?_))
 refine ⟨[(0, 3), (1, 4), (2, 5), (3, 6)], ?_⟩
 exact Au h9
def aBj (s : Store) (keep : Int) (hs : bQ s) : aP P 8 [stA s, Ni keep] [] 0 (.agg [.raw (.bool (sdI (fun s => frI s keep) s).1.up), .raw (.int .i64 (sdI (fun s => frI s keep) s).1.tree.seq), .ref 0, .ref 1, .ref 2, .raw (.string (sdI (fun s => frI s keep) s).1.disk.log), .raw (.int .i64 (sdI (fun s => frI s keep) s).1.disk.safe), .ref 3, .raw (.int .i64 (sdI (fun s => frI s keep) s).1.disk.seq)]) [(0, .row 43 5 ((sdI (fun s => frI s keep) s).1.tree.mem.map enA)), (1, .row 102 1 ((sdI (fun s => frI s keep) s).1.tree.levels.map rsO)), (2, .row 3 1 ((sdI (fun s => frI s keep) s).1.tree.snaps.map inA)), (3, .row 102 1 ((sdI (fun s => frI s keep) s).1.disk.levels.map rsO))] 4 := by
 refine (gq 14 [.cell 4 31] func8) ?_
 simp only [stA]
 refine (aj) ?_
 refine sr rfl fun k2 => (ja) ?_
 refine vg [(0, 1)] 4 rfl rfl rfl ⟨func26, rfl, rfl⟩ (aYc s keep hs) rfl (by simp only [go_sem, AV.ren, aB, sg, aFk] <;> simp [stA, Abs.get]) (by simp only [go_sem, aR]) (bHu (.inr ⟨1, rfl⟩) (by simp only [go_sem, sg, AObj.ren, AV.ren, aB] <;> simp [Abs.get]) Cc oS rfl dg) (.inr dg) ?_
 refine (jn) (k2 ((aj) (wR ?_)))
 refine ⟨[(0, 3), (1, 4), (2, 5), (3, 6)], ?_⟩
 exact jz
def aBv (s : Store) (hs : bQ s) : aP P 12 [stA s] [] 0 (.agg [.raw (.bool (sdI opQ s).1.up), .raw (.int .i64 (sdI opQ s).1.tree.seq), .ref 0, .ref 1, .ref 2, .raw (.string (sdI opQ s).1.disk.log), .raw (.int .i64 (sdI opQ s).1.disk.safe), .ref 3, .raw (.int .i64 (sdI opQ s).1.disk.seq)]) [(0, .row 43 5 ((sdI opQ s).1.tree.mem.map enA)), (1, .row 102 1 ((sdI opQ s).1.tree.levels.map rsO)), (2, .row 3 1 ((sdI opQ s).1.tree.snaps.map inA)), (3, .row 102 1 ((sdI opQ s).1.disk.levels.map rsO))] 4 := by
 refine (gq 11 [.cell 2 31] func12) ?_
 simp only [stA]
 refine (aj) ?_
 refine sr rfl fun k2 => (ja) ?_
 refine vn 4 rfl rfl rfl ⟨func26, rfl, rfl⟩ (aVn s hs) Ab (by simp only [go_sem, aR]) oS dg ?_
 refine (jn) (k2 ((aj) (wR ?_)))
 refine ⟨[(0, 2), (1, 3), (2, 4), (3, 5)], ?_⟩
 exact jz
def tR (a b : Store) (ha : bQ a) : aJ P 9 [stA a, stA b] [] 0 (Nb (bDg a b)) := by
 refine (pq 53 [.tmp 4] func9) ?_
 simp only [stA]
 refine (aj) ?_
 refine sr rfl fun k2 => (ja) ?_
 refine vpg rfl rfl rfl rfl rfl rfl ⟨func29, rfl, rfl⟩ (fun hg => wT a.tree b.tree (aEp ha.1)) oG (fun hg => Ae) Ae trivial ?_
 refine (ja) ?_
 refine vpg rfl rfl rfl rfl rfl rfl ⟨func30, rfl, rfl⟩ (fun hg => nE a.disk.levels b.disk.levels (aDq ha.2)) oG (fun hg => oG) oG trivial ?_
 refine (ja) (k2 (wR (fO ?_ trivial)))
 simp only [go_sem, bDg]
def uD (s : Store) (k : Int) (hs : bQ s) (hlg : s.disk.log.size <= 1048576) : aJ P 10 [stA s, Ni k] [] 0 (stA (bA s k)) := by
 refine (pq 18 [.cell 4 31] func10) ?_
 simp only [stA]
 refine (aj) ?_
 refine aA fun k2 => sr rfl fun k3 => (ja) ?_
 refine (vr rfl rfl rfl func11 (nO s hs hlg) Ab Ab) (k3 ((cdA) ?_ ?_)) <;> intro hc1
 . have ho : aF s = false := by simpa using hc1
   have h9 : bA s k = zStore := by unfold bA; rw [if_pos ho]
   refine (aj) ?_
   refine cP 1 (ds := [Nb false, Ni 0, .sl 5 [], .sl 1 [], .sl 1 [], Ns ⟨#[]⟩, Ni 0, .sl 1 [], Ni 0]) rfl (by repeat (first | exact LeL.nil | refine LeL.cons (by first | exact Le.refl _ | exact Le.nil _) ?_)) oG ?_
   refine (ja) (wR ?_)
   refine fO ?_ (aR _ _)
   simp only [go_sem, h9, stA, zStore, hP, aQg, List.map_nil]
 have ho : aF s = true := by simpa using hc1
 refine wk (k2 (aA fun k5 => (aj) ((cdA) ?_ ?_))) <;> intro hc2
 . have hup : s.up = false := by simpa using hc2
   have h9 : bA s k = bH s := by unfold bA; rw [if_neg (by rw [ho]; simp), if_pos hup]
   refine sr rfl fun k7 => (ja) ?_
   refine vs rfl rfl rfl func31 (eP s hs) Ab Ab ?_
   refine (Aj) (k7 (wR ?_))
   refine fO ?_ (aR _ _)
   exact Ap h9
 have hup : s.up = true := by simpa using hc2
 have h9 : bA s k = iJ (bH s) k := by unfold bA; rw [if_neg (by rw [ho]; simp), if_neg (by rw [hup]; simp)]
 have hg : 0 <= (bH s).disk.safe /\ (bH s).disk.safe <= ((bH s).disk.log.size : Int) := by rw [wW ho]; have := bGd ho; exact ⟨this.2.2.1, this.2.2.2.1⟩
 refine wk (k5 (sr rfl fun k8 => (ja) ?_))
 refine vs rfl rfl rfl func31 (eP s hs) Ab Ab ?_
 refine (Aj) ?_
 refine vs rfl rfl rfl func32 (pS (bH s) k hg.1 hg.2) Ab Ab ?_
 refine (Aj) (k8 (wR ?_))
 refine fO ?_ (aR _ _)
 exact Ap h9
def aFu (s : Store) (k : Int) (hs : bQ s) : aJ P 8 [stA s, Ni k] [] 0 (stA (bA s k)) := by
  rw [<- aRr]
  exact bY (aBj s k hs) Ab Ab
def aFh (s : Store) (hs : bQ s) : aJ P 12 [stA s] [] 0 (stA (iB s)) := by
  rw [<- aRu]
  exact bY (aBv s hs) Ab Ab
def aSw {s : Store} (hs : bQ s) (k : Int) : bQ (bA s k) := by
  unfold bA; split
  . exact ⟨⟨⟨A3 _, by intro e he; cases he⟩, ⟨A3 _, by intro e he; cases he⟩, A3 _⟩, ⟨A3 _, by intro e he; cases he⟩⟩
  split
  . exact aIr hs
  exact ⟨⟨⟨A3 _, by intro e he; cases he⟩, ⟨A3 _, by intro e he; cases he⟩, A3 _⟩, (aIr hs).2⟩
def bAh {s : Store} {la lb lc : List Run} {bs : List (List Entry)} (hok : aF s = true) (hu : s.up = true) (g : UpOk s la lb lc bs) (k : Int) :
    bA s k = iJ s k /\ aF (iJ s k) = true /\ (iB (iJ s k)).tree.seq = dS s.disk.seq (jL bs (cX s k).toNat).flatten /\ 0 <= cX s k /\ cX s k <= (s.disk.log.size : Int) := by
  obtain ⟨h1, h2⟩ := bBq g k
  have g0 := g.f0
  have g1 := g.f1
  refine ⟨?_, h1, ?_, by unfold cX; omega, by unfold cX; omega⟩
  . unfold bA
    rw [if_neg (by rw [hok]; simp), if_neg (by rw [hu]; simp), wW hok]
  unfold iB
  rw [if_neg (by rw [h1]; simp), if_neg (show ¬ (iJ s k).up = true from by intro h; cases h), wW h1]
  show (nT (bO (iJ s k).disk.log).1 s.disk.seq).2 = _
  rw [h2, sZ]
section
def aSa {b : List Entry} (h : isB b = true) : 1 <= (fTx b).size := by
  unfold fTx; rw [if_pos h, B8, B8, B8]
  have : nlB.size = 1 := rfl
  omega
def bNi {bs : List (List Entry)} (h : ∀ b ∈ bs, isB b = true) {n : Nat} (hn : (frL bs).length <= n) : bs.length <= n := by
  have key : ∀ bs : List (List Entry), (∀ b ∈ bs, isB b = true) -> bs.length <= (frL bs).length := by
    intro bs
    induction bs with
    | nil => exact fun _ => A3 _
    | cons b r ih =>
      intro h
      have h1 := ih fun x hx => h x (A5 _ hx)
      have h2 := aSa (h b A2)
      rw [xQ, A4, aO, C5]; omega
  exact F4 (key bs h) hn
def bFp {s : Store} (hok : aF s = true) (hu : s.up = true) (k : Int) : s.disk.log.size <= 12000 /\ ∃ bs, (raI s.disk.log).1 = bs /\ (∀ b ∈ bs, isB b = true) /\ bs.length <= 12000 /\
    ((iB (bA s k)).tree.seq = s.disk.seq ∨ ∃ b ∈ bs, (iB (bA s k)).tree.seq = (bW b).seq) := by
  obtain ⟨la, lb, lc, bs, g⟩ := (mB hu).1 hok
  obtain ⟨e1, o1, t1, n1, m1⟩ := bAh hok hu g k
  have hlg := g.lg
  have hra := aNs (s := s.disk.log) og g.ok g.tx
  refine ⟨hlg, bs, by rw [aFt _ og, hra], g.ok, ?_, ?_⟩
  . exact bNi g.ok (by rw [<- g.tx, aO]; exact hlg)
  rw [e1, t1]
  rcases tQ (jL bs (cX s k).toNat).flatten s.disk.seq with h | ⟨e, he, h⟩
  . exact .inl h
  obtain ⟨b, hb, heb⟩ := List.mem_flatten.1 he
  obtain ⟨r, hr⟩ := zK bs (cX s k).toNat
  have hbb : b ∈ bs := by rw [hr]; exact List.mem_append_left _ hb
  have h1 := aZa (g.ok b hbb) e heb
  have h2 := (gW (jL bs (cX s k).toNat).flatten s.disk.seq).2 (bW b) (List.mem_flatten.2 ⟨b, hb, aZo (g.ok b hbb)⟩)
  exact .inr ⟨b, hbb, og⟩
def aKt (now q : Int) (bs : List (List Entry)) (i : Nat) : Bool := decide (now = q) || (bs.take i).any fun b => decide (now = (bW b).seq)
def aZn {now q : Int} {bs : List (List Entry)} {i : Nat} {l : List Entry} (h : bs[i]? = some l) : aKt now q bs (i + 1) = (aKt now q bs i || decide (now = (bW l).seq)) := by
  unfold aKt; rw [G2, h, List.any_append, <- Bool.or_assoc]
  simp
def bEv {now q : Int} {bs : List (List Entry)} (h : now = q ∨ ∃ b ∈ bs, now = (bW b).seq) : aKt now q bs bs.length = true := by
  unfold aKt; rw [E9]
  rcases h with h | ⟨b, hb, h⟩
  . rw [decide_eq_true h]; rfl
  rw [List.any_eq_true.2 ⟨b, hb, decide_eq_true h⟩]; exact Bool.or_true _
def bLn {l : List Entry} (h : isB l = true) : l[l.length - 1]? = some (bW l) /\ 1 <= l.length /\ l.length <= 12 := by
  obtain ⟨_, h1, h2⟩ := bS h
  refine ⟨?_, h1, h2⟩
  unfold bW; rw [A1 og]; rfl
set_option maxHeartbeats 1000000 in
def zV (code : List UInt8) (hc : code.length <= 9223372036854775807) : aJ P 4 [.sl 1 (code.map byteAV)] [] 0 (Nb true) := by
 refine (pq 84 [.tmp 2] func4) ((aj) ?_)
 refine aA fun k2 => (aj) ((cdA) ?_ ?_) <;> intro hc1
 . refine (aj) (wR ?_)
   refine fO ?_ trivial; exact At
 refine wk (k2 (sr rfl fun k5 => (ja) ?_))
 refine aVp rfl rfl rfl ⟨func7, rfl, rfl⟩ (yL code hc) oG oG (fun g _ => ⟨aR _ _, trivial, trivial⟩) ?_
 rintro ⟨s, keep⟩ ⟨hs, hk0, hk1⟩
 simp only at hs hk0 hk1
 have hlg2 : s.disk.log.size <= 1048576 := by have := hs.2; omega
 have hxs := aSw hs.1 keep
 refine (Aj) (k5 (sr rfl fun k6 => (ja) ?_))
 refine vs rfl rfl rfl func8 (aFu s keep hs.1) Ab Ab ?_
 refine (Aj) (k6 (aA fun k7 => sd mixed rfl fun k8 => (ja) ?_))
 refine tp rfl rfl rfl ⟨func10, rfl, rfl⟩ (uD s keep hs.1 hlg2) Ab Ab ?_
 refine (Aj) ?_
 refine tp rfl rfl rfl ⟨func9, rfl, rfl⟩ (tR (bA s keep) (bA s keep) hxs) Ab Ab ?_
 simp only [go_sem, aJl]
 refine tpg rfl rfl rfl rfl rfl rfl ⟨func11, rfl, rfl⟩ (fun hg => nO s hs.1 hlg2) oG (fun hg => Ab) Ab trivial ?_
 refine (ja) ((jy) (k8 ((cdA) ?_ ?_))) <;> intro hc2
 . refine sd mixed rfl fun k9 => (ja) ?_
   refine tp rfl rfl rfl ⟨func10, rfl, rfl⟩ (uD s keep hs.1 hlg2) Ab Ab ?_
   refine (Aj) ?_
   refine tp rfl rfl rfl ⟨func9, rfl, rfl⟩ (tR (bA s keep) (bA s keep) hxs) Ab Ab ?_
   simp only [go_sem, aJl]
   refine (jy) (k9 (wR (fO ?_ trivial)))
   exact At
 have hou : aF s = true /\ s.up = true := by simpa using hc2
 obtain ⟨hok, hup⟩ := hou
 obtain ⟨hlg, bs, hrd, hbt, hbl, hwl⟩ := bFp hok hup keep
 refine wk (k7 (sr rfl fun k10 => (ja) ?_))
 refine vs rfl rfl rfl func12 (aFh (bA s keep) hxs) Ab Ab ?_
 refine (Aj) (k10 (sr rfl fun k11 => (ja) ?_))
 refine vs rfl rfl rfl func13 (pO s.disk.log og) oG oG ?_
 refine (Aa hrd) (k11 ((aj) ?_))
 refine aA fun k13 => (aj) (wb ?_)
 refine wn bs.length (fun x => ([(6, .raw (.int .i64 (iB (bA s keep)).tree.seq)), (7, .sl 1 (bs.map esA)), (9, Nb (aKt (iB (bA s keep)).tree.seq s.disk.seq bs x)), (10, Ni (x : Int))], [])) 0 [] ?_ ?_
 . simp only [go_sem, aKt, List.take_zero, List.any_nil, Bool.or_false, Int.natCast_zero] <;> simp
 rintro i hi
 refine aA fun k15 => (aj) ((cdB) ?_ ?_) <;> intro hc3
 . have hie : i = bs.length := by have h9 : ¬ i < bs.length := (by simpa using hc3); omega
   subst hie
   have h9 := bEv hwl
   exact we ((jt) (k13 ((aj) (wR (fq h9)))))
 obtain ⟨hlt, l, hlx, hdrop, hml⟩ := ixc hc3
 obtain ⟨hla, hl1, hl2⟩ := bLn (hbt l hml)
 have hwl1 := wr ((l.length : Int) - 1) (((l.length - 1 : Nat) : Int)) og
 have hw := wiS i og
 refine wk (k15 (aA fun k17 => wb ?_))
 refine dA mixed rfl ?_
 simp only [go_sem, hlx, esA, hwl1, hla, enA, A8]
 refine (jr) ((jy) ((jt) (k17 (wg rfl ((Aa hw) ((jt) ?_))))))
 refine ⟨i + 1, og, og, [], ?_⟩
 simp only [go_sem, aZn hlx] <;> simp
end
end Go.Proofs.S
end
section
open Go Go.Abs Go.Proofs Go.Proofs.Tryz
open Go.ChangeShapes Go.WideShapes Go.RowKit Go.Proofs.YtaaomkdcmncjnaaGreatDoor
namespace Go.Proofs.S
def parsR : Tryz.f4.params = #[22] := kr
abbrev lR : List (String × DataW Unit) := Rows.fnStoreWholeRow.laid
def bJl {w : World} (h : laidMetH P lR w) : laidMet P lR w := by rw [MakeChecks.laidMetH_plain _ _ _ kr] at h; exact h
def aXx (os : Os) (started : os.Started) (H : Type) (enc : TypeId × Value -> H) :
    ReturnsInHanded {} Tryz.checked os 4 .any (fun w args => (Rows.fnStoreWholeSpec.pre enc P Tryz.f4 [] false w args /\ laidMetH P lR w) /\
        sizedMet enc P Tryz.f4 (OpenSpec.ofChange Rows.fnStoreWholeSpec) false w args)
      (Rows.fnStoreWholeSpec.post enc P Tryz.f4 false true false false) := by
  refine returnsInHanded_of_change_and (C := Tryz.checked) (X := fun w _ => laidMetH P lR w) (fun _ _ _ hh h => h.of_heap hh) bQb started kr func4
    (ChangeSpec.witness_shaped (enc := enc) (C := Tryz.checked) (os := os) (X := fun w _ => laidMetH P lR w) false (World.laidAll P os lR) #[.slice none 0 0] 8 (World.laidAll_os _ _ _)
      (World.shaped_of_ZipB kr kr) kr kr kr
      (by rw [MakeChecks.laidMetH_plain _ _ _ kr]; exact laidMet_laidAll _ kr kr)) ?_
  intro W base args ds gs before hval0 hW _ _ hL _
  have hval : ∀ (j : Nat) t v, Tryz.f4.params[j]? = some t -> args[j]? = some v -> Value.okWide P W .any base t v := hval0
  have hW' := hW
  have hlt := hW.lt
  obtain ⟨p, q, hA0, hV0, rfl, _, _⟩ := hW
  have hA : DataW.TrodAll enc P W 0 (fun _ => true) true Tryz.f4.params.toList args.toList ds p := hA0
  have hV : DataW.TrodVars enc P W (fun _ => true) [] gs q := hV0
  rw [parsR] at hA hval
  obtain ⟨v0, d0, rfl, rfl, h0⟩ := trodAll_one hA
  obtain ⟨rfl, rfl⟩ : gs = [] /\ q = [] := by
    cases gs with
    | nil => exact ⟨rfl, hV⟩
    | cons g r => exact absurd hV (by intro h; cases h)
  have gl := bPk (bJl hL) (by simp [lR, Rows.fnStoreWholeRow]) (by simp [lR, Rows.fnStoreWholeRow]) (by simp [lR, Rows.fnStoreWholeRow])
  obtain ⟨f0, g0⟩ := id h0
  rw [bJb uBS (hval 0 22 v0 rfl rfl)] at g0
  obtain ⟨b0, w0, hb0, _, _, e0, _, r0⟩ := bIx (ρ := C0.ρ) (av := C0.avoid []) bNu _ _ _ g0
  obtain rfl : w0 = v0 := by have := e0 rfl; simpa using this.symm
  refine ((zV b0 hb0.1) C0 W #[w0] (bPc gl) ⟨rfl, fun j x hj => ?_⟩ ?_).mono ?_
  . match j, hj with
    | 0, hj => cases hj; exact r0
    | j + 1, hj => simp at hj
  . exact ⟨pC _ _, trivial⟩
  rintro e W' ⟨v, r, H', n', C', rfl, hn, ⟨rfl, rfl, rfl⟩, hR, hS, hv, _⟩
  cases hv
  have hbelow := bGn hS
  have hl0 : ∀ x ∈ p, x.block < W.heap.size := fun x hx => hlt x (by simp [hx])
  refine ⟨_, rfl, [d0], [], _, [], p, [], hW', ?_, ?_, ?_, hbelow.frame _, fun h => by cases h⟩
  . exact trodAll_mk1 (shut_bool uB true)
  . exact trodAll_mk1 (Below.trod bQa bQm (of_decide_eq_true kr) h0 hbelow hl0)
  exact rfl
def f_holdsR : Rows.FnStoreWholeSaid :=
  OpenClaim.holds_of_wide 4 Tryz.f4 rfl rfl rfl rfl rfl rfl rfl ⟨rfl, rfl, rfl, rfl, rfl⟩ rfl rfl rfl rfl rfl kr func4 kr
    (of_decide_eq_true kr) (by unfold Func.isWrapper; rw [if_neg (of_decide_eq_false kr)]; exact ⟨rfl, rfl⟩)
    (fun os started H enc _ => aXx os started H enc)
end Go.Proofs.S
end
section
open Go
namespace Go.Proofs.YtaaomkdcmncjnaaGreatDoor
theorem fnStoreWhole_card : Rows.FnStoreWholeCardSaid :=
  Claim7.holds_tied_plain_at .later [] [.data, .data, .data, .sentinel, .sentinel] true (true, "08779dcdb097a1d038f9686c2b9885f03a786510b04d58ace6304427e1590a60") true
    S.f_holdsR (fun _ h => by cases h) (by kernel_rfl) (fun _ h => by cases h) fnStoreWhole_row_tie rfl ⟨rfl, rfl⟩ (by kernel_rfl) rfl
    (fun f fn hf hfn => by
      obtain rfl : f = 4 := Option.some.inj ((show Tryz.prog.funcNamed "loop.example/comptoir/laws.FnStoreWhole" = some 4 by kernel_rfl).symm.trans hf) |>.symm
      obtain rfl : fn = Tryz.f4 := (Option.some.inj (Tryz.func4.symm.trans hfn)).symm
      exact ⟨by kernel_rfl, fun j t ht => by
        rw [S.parsR] at ht
        have h3 : t = 22 := by
          rcases j with _ | j
          . simpa using ht.symm
          simp at ht
        subst h3
        exact (show Tryz.prog.wantsStandIn 22 = false by kernel_rfl)⟩)
    (by kernel_rfl)
end Go.Proofs.YtaaomkdcmncjnaaGreatDoor
end
