/-
  The abstract layer, the walks and the plain laws that the claim leans on, part 5 of 7 (working texts S20 to S52). It proves lemmas alone; no condition of its own.
-/
import Derived.Test.YthbibdnkiklemaaGreatDoorP4
import Derived.Shelf.Strconv.Itoa3
import Derived.Shelf.Strconv.AtoiAll
import Derived.Shelf.Small.Strs
import Derived.Test.YthbibdnkiklemaaGreatDoorProg
set_option linter.all false
set_option maxRecDepth 20000
section
open Go Go.Abs Go.Proofs Go.Proofs.Tryz
namespace Go.Proofs.S
def bJi {ls : List Entry} (h : cV ls = true) : ∀ i, i + 1 < ls.length -> ∀ a b, ls[i]? = some a -> ls[i + 1]? = some b -> entLt a b = true := by
  intro i hi a b ha hb
  have h1 := (C4.1 h) (i + 1) (List.mem_range.2 hi)
  unfold aAu at h1; rw [hb] at h1
  have hp : bT ls (i + 1) = a := by unfold bT; rw [Nat.add_sub_cancel, ha]; rfl
  rw [hp] at h1; simp at h1
  exact h1.2
def vR {ls : List Entry} (h : cV ls = true) : ls.Pairwise fun a b => entLt a b = true := by
  refine H7.2 fun i j hi hj hij => ?_
  obtain ⟨d, rfl⟩ : ∃ d, j = i + 1 + d := ⟨j - (i + 1), og⟩
  induction d with
  | zero => exact bJi h i hj _ _ (A1 hi) (A1 hj)
  | succ d ih =>
    have h1 := ih og og
    have h2 := bJi h (i + 1 + d) og _ _ (A1 og) (A1 og)
    exact mY.trans _ _ _ trivial trivial trivial h1 h2
def bId (ls : List Entry) : (dJ ls).Pairwise fun a b => entLt b a = false := by
  rw [zY]; exact (Plain.put_sorted mY ls).1
def aHt {a b : Entry} (h : entLt a b = true) : entLt b a = false := mY.asymm trivial trivial h
def aHe {ls : List Entry} (h : ls.Pairwise fun a b => entLt a b = true) : ∀ x ∈ ls, ∀ y ∈ ls, entLt x y = false -> entLt y x = false -> x = y := by
  intro x hx y hy h1 h2
  obtain ⟨i, hi⟩ := G5 hx
  obtain ⟨j, hj⟩ := G5 hy
  have hil := (A9.1 hi).1
  have hjl := (A9.1 hj).1
  rw [A1 hil] at hi; rw [A1 hjl] at hj
  cases hi; cases hj
  have hp := H7.1 h
  rcases Nat.lt_trichotomy i j with hij | hij | hij
  . rw [hp i j hil hjl hij] at h1; cases h1
  . subst hij; rfl
  rw [hp j i hjl hil hij] at h2; cases h2
def aRq {ls : List Entry} (h : cV ls = true) : dJ ls = ls := by
  have hp := vR h
  exact List.Perm.eq_of_pairwise (le := fun a b => entLt b a = false) (fun a b ha hb h1 h2 => aHe hp a ((lZ ls).mem_iff.1 ha) b hb h2 h1) (bId ls) (hp.imp fun h => aHt h) (lZ ls)
def bKy (r : Run) : ((dO r.ents).2 && (decide ((dO r.ents).1.mask = r.mask) && decide ((dO r.ents).1.ents = r.ents))) = cW r := by
  rw [Bool.eq_iff_iff]
  constructor
  . intro h
    simp only [C8, decide_eq_true_eq] at h
    obtain ⟨h1, h2, h3⟩ := h
    unfold dO at h1 h2 h3; split at h1
    . cases h1
    rename_i hc
    rw [if_neg hc] at h2 h3
    simp only [not_or] at hc
    simp only at h2 h3
    rw [h3] at h2 hc
    have h4 : cV r.ents = true := by simpa using hc.2
    simp [cW, h4, h2]
    omega
  intro h
  simp only [cW, C8, decide_eq_true_eq] at h
  obtain ⟨⟨h1, h2⟩, h3⟩ := h
  have he := aRq h2
  unfold dO
  rw [if_neg (by rw [he, h2]; simp only [not_or]; exact ⟨⟨og, og⟩, by simp⟩), he]
  simp [h3]
def aBo (level : Int) : Int := if level = 0 then 4 else 8
def xA (ls : List Run) (level : Int) (i : Nat) : Bool := match ls[i]? with
  | some r => cW r && !((decide (0 < level) && decide (0 < (i : Int))) && !Op.bytesLess (aG (iX ls i)).toList (aC r).toList)
  | none => true
def qR (ls : List Run) (level : Int) : Bool := if aBo level < (ls.length : Int) then false else (List.range ls.length).all (xA ls level)
def aYx {ls : List Run} {level : Int} {i : Nat} {r : Run} (h : xA ls level i = true) (hr : ls[i]? = some r) : cW r = true := by
  unfold xA at h; rw [hr] at h; simp at h
  exact h.1
def aCo (ls : List Int) (seq : Int) : Bool := if (4 : Int) < (ls.length : Int) then false else (List.range ls.length).all (qY ls seq)
def bGd (ls : List Int) (seq : Int) : aCo ls seq = nP ls seq := by
  unfold aCo nP; split
  . rename_i h
    rw [decide_eq_false og, Bool.and_false]
  rename_i h
  rw [decide_eq_true og, Bool.and_true]
def iU (ls : List (List Run)) (mem : List Entry) : List (List Entry) := (ls.reverse.flatMap fun rs => rs.map Run.ents) ++ [mem]
def tB (ls : List (List Run)) (k : Nat) : List (List Entry) := (ls.drop k).reverse.flatMap fun rs => rs.map Run.ents
def aNa {ls : List (List Run)} {k : Nat} {l : List Run} (h : ls[k]? = some l) : tB ls k = tB ls (k + 1) ++ l.map Run.ents := by
  unfold tB; rw [rV h, List.reverse_cons, List.flatMap_append]
  simp
def aKr (s : ByteArray) (hs : s.size <= 4611686018427387904) : aB P 178 [Ns s] [] 0 (Ni (wU s)) := by
 refine (pq 27 [.tmp 2] func178) ((aj) ((aj) ?_))
 refine sq fun k3 => (aj) (wb ?_)
 refine wn s.size (fun x => ([(0, Ns s), (3, Ni (dD s x)), (6, Ni (s.size : Int)), (7, Ni (x : Int))], [])) 0 [] ?_ ?_
 . simp only [go_sem, dD, Int.natCast_zero] <;> simp
 rintro i hi
 refine (aj) ?_
 refine sq fun k6 => (cdA) ?_ ?_ <;> intro hc1
 . have hlt : i < s.size := by simpa using hc1
   have hh := qB s i
   have hb := nR s i
   have hw0 := wr (aJ s i) (aJ s i) og
   have hw1 := wr (31 * dD s i) (dD s i * 31) og
   have hw2 := wr (dD s i * 31 + aJ s i) (dD s i * 31 + aJ s i) og
   refine wk (k6 (sq fun k7 => wb ((aj) ?_)))
   refine wg rfl ?_; simp only [go_sem, hw0, hw1, hw2]
   refine (jr) ((jt) (k7 ((jw (wiS i og)) ((jt) ?_))))
   refine ⟨i + 1, og, og, [], ?_⟩
   simp only [go_sem, dD] <;> simp
 have hge : i = s.size := by have h9 : ¬ i < s.size := (by simpa using hc1); omega
 subst hge
 refine we ((jt) (k3 ?_))
 have hh := qB s s.size
 have hq : IntKind.i64.wrap ((dD s s.size).tdiv 16) = (dD s s.size).tdiv 16 := by
   rw [H9 og, IntKind.wrap_i64]; omega
 have hm1 : 0 <= (dD s s.size).tmod 16 /\ (dD s s.size).tmod 16 <= 15 := by rw [Int.tmod_eq_emod_of_nonneg og]; omega
 have hd : 0 <= (dD s s.size).tdiv 16 := Int.tdiv_nonneg og og
 have hm2 : 0 <= ((dD s s.size).tdiv 16).tmod 16 /\ ((dD s s.size).tdiv 16).tmod 16 <= 15 := by rw [Int.tmod_eq_emod_of_nonneg hd]; omega
 have hr1 := rY hm1.1 hm1.2
 have hr2 := rY hm2.1 hm2.2
 have hsh : ∀ m : Int, 0 <= m -> m <= 15 -> IntKind.i64.wrap (1 * 2 ^ min m.toNat 64) = aDl m := fun m h0 h1 => by
   have := rY h0 h1
   rw [Nat.min_eq_left og, Int.one_mul, IntKind.wrap_i64]
   show ((2 : Int) ^ m.toNat + _) % _ - _ = aDl m
   unfold aDl at this ⊢
   omega
 have hs1 := hsh _ hm1.1 hm1.2
 have hs2 := hsh _ hm2.1 hm2.2
 have hor := bLw _ _ hr1.1 hr1.2 hr2.1 hr2.2
 have hbb : IntKind.bits .i64 = 64 := rfl
 refine sd mixed rfl fun k9 => (Ax hq hs1 hs2 hor) ?_
 refine ⟨hm1.1, hm2.1, ?_⟩
 refine (jy) (k9 (wR (fO ?_ trivial)))
 simp only [go_sem, wU]
 exact congrArg (fun z => some (AV.raw (.int .i64 z))) hor
def aEu (ls : List Entry) (hz : dB ls) : aB P 133 [.sl 5 (ls.map enA)] [] 0 (.tup [rA (dO ls).1, .raw (.bool (dO ls).2)]) := by
 refine (pq 40 [.cell 2 109, .tmp 3] func133) ?_
 have hmx := mxl
 have hlen := hz.1
 have hsl := rN ls
 have hzs : dB (dJ ls) := ⟨by rw [hsl]; exact hz.1, fun e he => hz.2 e ((lZ ls).mem_iff.1 he)⟩
 refine (aj) ?_
 refine sq fun k2 => (aj) ((cdA) ?_ ?_) <;> intro hc1
 . have h9 : dO ls = (xJ, false) := by unfold dO; rw [if_pos]; simp at hc1; left; omega
   refine (aj) ?_
   refine hZ 0 (ds := [.sl 5 [], Ni 0]) rfl (by repeat (first | exact LeL.nil | refine LeL.cons (by first | exact Le.refl _ | exact Le.nil _) ?_)) oG ?_
   refine (ja) (wR ?_)
   refine fO ?_ ⟨⟨enB _ _, trivial, trivial⟩, trivial, trivial⟩
   simp only [go_sem, h9, rA, xJ]
 refine wk (k2 ?_)
 have hnb : 1 <= ls.length /\ ls.length <= 150 := by simp at hc1; omega
 refine sr rfl fun k5 => (At) ((jr) (k5 (sr rfl fun k6 => (ja) ?_)))
 refine vg [(0, 1)] 0 rfl rfl rfl ⟨func140, rfl, rfl⟩ (bAv ls (by simp at hc1; omega)) rfl (by simp only [go_sem, gO, aA, AV.ren, sg]) An (nS (H1 := []) (.inr ⟨1, rfl⟩) (by simp only [go_sem, sg, AObj.ren]) Au) (.inl rfl) ?_
 refine (jn) (k6 (sq fun k7 => ?_))
 refine aFz 1 rfl ?_
 refine (Ag) ?_
 refine sr rfl fun k8 => (ja) ((vq func146 (sA (dJ ls) hzs)) (k8 ((cdA) ?_ ?_))) <;> intro hc2
 . have h9 : dO ls = (xJ, false) := by unfold dO; rw [if_pos]; right; simpa using hc2
   refine (aj) ?_
   refine hZ 0 (ds := [.sl 5 [], Ni 0]) rfl (by repeat (first | exact LeL.nil | refine LeL.cons (by first | exact Le.refl _ | exact Le.nil _) ?_)) oG ?_
   refine (ja) (wR ?_)
   refine fO ?_ ⟨⟨enB _ _, trivial, trivial⟩, trivial, trivial⟩
   simp only [go_sem, h9, rA, xJ]
 have h9 : dO ls = (⟨dJ ls, mA (dJ ls)⟩, true) := by unfold dO; rw [if_neg (by simp only [not_or]; exact ⟨⟨og, og⟩, by simpa using hc2⟩)]
 refine wk (k7 ((aj) ?_))
 refine sq fun k11 => (aj) (wb ?_)
 refine wl (α := Nat × Int) (fun x => x.1 <= (dJ ls).length /\ 0 <= x.2 /\ x.2 <= 65535 /\ ((dJ ls).drop x.1).foldl qN x.2 = mA (dJ ls)) (fun x => (dJ ls).length - x.1) (fun x => ([(2, .ptr 0 0), (4, .sl 5 ((dJ ls).map enA)), (5, Ni x.2), (25, .sl 5 ((dJ ls).map enA)), (26, Ni ((dJ ls).length : Int)), (27, Ni (x.1 : Int))], [(0, .cells 109 [.raw (.slice none 0 0), Ni 0])])) 1 (0, 0) ⟨A6 _, by simp, by simp, rfl⟩ [] ?_ ?_
 . exact jp
 rintro ⟨i, m⟩ ⟨hi, hm0, hm1, hfold⟩
 simp only at hi hm0 hm1 hfold ⊢
 refine (aj) ?_
 refine sq fun k14 => (cdB) ?_ ?_ <;> intro hc3
 . have hge : (dJ ls).length <= i := by have h9 : ¬ i < (dJ ls).length := (by simpa using hc3); omega
   rw [E9 hge] at hfold
   have h8 : mA (dJ ls) = m := hfold.symm
   refine we ((jt) (k11 ((aj) (wR ?_))))
   refine fO ?_ ⟨⟨enB _ _, trivial, trivial⟩, trivial, trivial⟩
   simp only [go_sem, h9, h8, rA]
 have hlt : i < (dJ ls).length := by simpa using hc3
 obtain ⟨l, hl, hdrop, hml⟩ := ix hlt
 refine wk (k14 (sq fun k15 => wb (sr rfl fun k16 => (Ap hl) ((jr) (k16 ?_)))))
 have hkr := rQ (aDl ((dD l.key l.key.size).tmod 16)) (aDl (((dD l.key l.key.size).tdiv 16).tmod 16))
 have hor := bLw m (wU l.key) hm0 hm1 hkr.1 hkr.2
 have hbb : IntKind.bits .i64 = 64 := rfl
 refine wg rfl ((Ar hbb hor) ?_)
 refine (vr rfl rfl rfl func178 (aKr l.key (hzs.2 l hml).1) Ah Ah) ((jt) (k15 ((jw (wiS i og)) ((jt) ?_))))
 refine ⟨(i + 1, qN m l), ⟨by simp only; omega, (rQ _ _).1, (rQ _ _).2, by rw [hdrop] at hfold; exact hfold⟩, by simp only; omega, [], ?_⟩
 simp only [go_sem, AObj.bel, AObj.ren, AV.ren, aA, sg, qN] <;> simp
 exact hor
def aUj (r : Run) (hz : dB r.ents) : aB P 200 [rA r] [] 0 (Nb (cW r)) := by
 refine (pq 17 [.tmp 2] func200) ?_
 simp only [rA]
 have hmz : (dO r.ents).1.ents.length <= 4611686018427387904 := by
   unfold dO; split
   . simp [xJ]
   simp only [rN]; exact hz.1
 refine (aj) ?_
 refine sr rfl fun k2 => (ja) ?_
 refine vs rfl rfl rfl func133 (aEu r.ents hz) Ac Ac ?_
 refine (Bw) (k2 (sr rfl fun k3 => (ja) ?_))
 refine vpg rfl rfl rfl rfl rfl rfl ⟨func168, rfl, rfl⟩ (fun hg => yE (dO r.ents).1 r hmz) oG (fun hg => Ac) Ac trivial ?_
 refine (Bw) (k3 (wR (fO ?_ trivial)))
 simp only [go_sem, bKy]
def aQe (n : Int) : aB P 199 [Ni n] [] 0 (Ni (aBo n)) := by
 refine (pq 5 [.tmp 2] func199) ((aj) ?_)
 refine sq fun k2 => (aj) ((cdA) ?_ ?_) <;> intro hc1
 . have n1 : n = 0 := by simpa using hc1
   refine (aj) (wR ?_)
   refine fO ?_ trivial; simp only [go_sem, aBo, if_pos n1]
 have n1 : ¬ (n = 0) := by simpa using hc1
 refine wk (k2 ((aj) (wR ?_)))
 refine fO ?_ trivial; simp only [go_sem, aBo, if_neg n1]
def aMa (ls : List Run) (level : Int) (hz : aOn ls) : aB P 162 [.sl 2 (ls.map rA), Ni level] [] 0 (Nb (qR ls level)) := by
 refine (pq 40 [.tmp 4] func162) ?_
 have hlen := hz.1
 refine (aj) ?_
 refine sq fun k2 => sr rfl fun k3 => (ja) ((vq func199 (aQe level)) (k3 ((cdA) ?_ ?_))) <;> intro hc1
 . have n1 : aBo level < (ls.length : Int) := by simpa using hc1
   refine (aj) (wR ?_)
   refine fO ?_ trivial; simp only [go_sem, qR, n1]
 have n1 : ¬ (aBo level < (ls.length : Int)) := by simpa using hc1
 refine wk (k2 (sq fun k5 => (aj) (wb ?_)))
 refine wa ls.length (xA ls level) (fun x => ([(0, .sl 2 (ls.map rA)), (1, Ni level), (12, .sl 2 (ls.map rA)), (13, Ni (ls.length : Int)), (14, Ni (x : Int))], [])) 0 [] ?_ ?_
 . exact jc
 rintro i ⟨hi, hall⟩
 refine (aj) ?_
 refine sq fun k8 => (cdB) ?_ ?_ <;> intro hc2
 . have hge := gec hc2
   refine we ((jt) (k5 ((aj) (wR ?_))))
   have h9 : qR ls level = true := by unfold qR; rw [if_neg n1]; exact eU hge hall
   exact fq h9
 obtain ⟨hlt, l, hl, hdrop, hml⟩ := ixc hc2
 have hw1 := wr ((i : Int) - 1) ((i : Int) - 1) og
 have hpn : ((i : Int) - 1).toNat = i - 1 := by omega
 have hpv : ls[i - 1]? = some (iX ls i) := by unfold iX; rw [A1 og]; rfl
 have hprev : 0 < i -> 1 <= (iX ls i).ents.length /\ (iX ls i).ents.length <= 150 := fun h0 => eG (aYx (hall (i - 1) og) hpv)
 refine wk (k8 (sq fun k9 => wb (sr rfl fun k10 => (Ao hl) ((jr) (k10 (sq fun k11 => sr rfl fun k12 => (ja) ?_))))))
 refine (vr rfl rfl rfl func200 (aUj l (hz.2 l hml)) Ac Ac) (k12 ((cdA) ?_ ?_)) <;> intro hc3
 . have hp : xA ls level i = false := by unfold xA; rw [hl]; have : cW l = false := (by simpa using hc3); simp [this]
   refine (aj) (wR ((Ad) ?_))
   have h9 : qR ls level = false := by unfold qR; rw [if_neg n1]; exact gR hlt hp
   exact fq h9
 have hr1 : cW l = true := by simpa using hc3
 have hl1 := eG hr1
 refine wk (k11 (sd mixed rfl fun k14 => (Bc hl hw1 hpn hpv) ((jr) ?_)))
 refine tpg rfl rfl rfl rfl rfl rfl ⟨func136, rfl, rfl⟩ (fun hg => mV (iX ls i) (hprev (by simp at hg; omega)).1 (by have := (hprev (by simp at hg; omega)).2; omega)) oG (fun hg => Ac) Ac trivial ?_
 refine (Bc hl hw1 hpn hpv) ((jr) ?_)
 refine tpg rfl rfl rfl rfl rfl rfl ⟨func135, rfl, rfl⟩ (fun hg => pV l hl1.1) oG (fun hg => Ac) Ac trivial ?_
 refine (Bc hl hw1 hpn hpv) ((jr) ((jy) (k14 ((cdA) ?_ ?_)))) <;> intro hc4
 . have hp : xA ls level i = false := by unfold xA; rw [hl]; simp only [hr1, hc4]; rfl
   refine (aj) (wR ((Ad) ?_))
   have h9 : qR ls level = false := by unfold qR; rw [if_neg n1]; exact gR hlt hp
   exact fq h9
 have hp : xA ls level i = true := by unfold xA; rw [hl]; simp only [hr1, hc4]; rfl
 refine wk ((jt) (k9 ((jw (wiS i og)) ((jt) ?_))))
 refine ⟨i + 1, ⟨og, bV hall hp⟩, og, [], ?_⟩
 exact jo
def aKy (ls : List Int) (seq : Int) (hz : ls.length <= 4611686018427387904) : aB P 161 [.sl 1 (ls.map inA), Ni seq] [] 0 (Nb (nP ls seq)) := by
 refine (pq 38 [.tmp 4] func161) ?_
 rw [<- bGd]
 refine (aj) ?_
 refine sq fun k2 => (aj) ((cdA) ?_ ?_) <;> intro hc1
 . have n1 : (4 : Int) < (ls.length : Int) := by simpa using hc1
   refine (aj) (wR ?_)
   refine fO ?_ trivial; simp only [go_sem, aCo, n1]
 have n1 : ¬ ((4 : Int) < (ls.length : Int)) := by simpa using hc1
 refine wk (k2 (sq fun k5 => (aj) (wb ?_)))
 refine wa ls.length (qY ls seq) (fun x => ([(0, .sl 1 (ls.map inA)), (1, Ni seq), (10, .sl 1 (ls.map inA)), (11, Ni (ls.length : Int)), (12, Ni (x : Int))], [])) 0 [] ?_ ?_
 . exact jc
 rintro i ⟨hi, hall⟩
 refine (aj) ?_
 refine sq fun k8 => (cdB) ?_ ?_ <;> intro hc2
 . have hge := gec hc2
   refine we ((jt) (k5 ((aj) (wR ?_))))
   have h9 : aCo ls seq = true := by unfold aCo; rw [if_neg n1]; exact eU hge hall
   exact fq h9
 obtain ⟨hlt, l, hl, hdrop, hml⟩ := ixc hc2
 have hw1 := wr ((i : Int) - 1) ((i : Int) - 1) og
 have hpn : ((i : Int) - 1).toNat = i - 1 := by omega
 have hpv : ls[i - 1]? = some (aDw ls i) := by unfold aDw; rw [A1 og]; rfl
 refine wk (k8 (sq fun k9 => wb (sr rfl fun k10 => ?_)))
 simp only [go_sem, hl, inA]
 refine (jr) (k10 (sr rfl fun k11 => ?_))
 simp only [go_sem, hl, hw1, hpn, hpv, inA]
 refine (jr) (k11 ((cdA) ?_ ?_)) <;> intro hc3
 . have hp : qY ls seq i = false := by unfold qY; rw [hl]; simp only [hc3]; rfl
   refine (aj) (wR ((Ad) ?_))
   have h9 : aCo ls seq = false := by unfold aCo; rw [if_neg n1]; exact gR hlt hp
   exact fq h9
 have hp : qY ls seq i = true := by unfold qY; rw [hl]; simp only [hc3]; rfl
 refine wk ((jt) (k9 ((jw (wiS i og)) ((jt) ?_))))
 refine ⟨i + 1, ⟨og, bV hall hp⟩, og, [], ?_⟩
 exact jo
def eF (a b : List Run) (hz : a.length <= 4611686018427387904) (hy : ∀ r ∈ a, r.ents.length <= 4611686018427387904) : aB P 167 [.sl 2 (a.map rA), .sl 2 (b.map rA), .fn (.func 168) [] []] [] 0 (Nb (decide (a = b))) := by
 refine (pq 32 [.tmp 6] func167) ((aj) ?_)
 refine sq fun k2 => (aj) ((cdA) ?_ ?_) <;> intro hc1
 . have hne : a ≠ b := fun e => by rw [e] at hc1; simp at hc1
   exact (aj) (wR (fq (decide_eq_false hne)))
 have hlen : a.length = b.length := by simp at hc1; omega
 refine wk (k2 (sq fun k5 => (aj) (wb ?_)))
 refine wa a.length (sP a b) (fun x => ([(1, .sl 2 (b.map rA)), (2, .fn (.func 168) [] []), (15, .sl 2 (a.map rA)), (16, Ni (a.length : Int)), (17, Ni (x : Int))], [])) 0 [] ?_ ?_
 . exact jc
 rintro i ⟨hi, hall⟩
 refine (aj) ?_
 refine sq fun k8 => (cdB) ?_ ?_ <;> intro hc2
 . have hge := gec hc2
   refine we ((jt) (k5 ((aj) (wR ?_))))
   have hie : i = a.length := by omega
   subst hie
   have he := pM hlen hall
   exact fq (decide_eq_true he)
 obtain ⟨hlt, l, hl, _, hml⟩ := ixc hc2
 obtain ⟨m, hm, _, _⟩ := ix (xs := b) (i := i) og
 refine wk (k8 (sq fun k9 => wb (sr rfl fun k10 => (Ao hl) ((jr) (k10 (sr rfl fun k11 => (Ao hm) ((jr) (k11 (sr rfl fun k12 => (ja) ?_)))))))))
 refine vf (xs := [rA l, rA m]) rfl rfl rfl rfl ⟨func168, rfl, rfl⟩ (yE l m (hy l hml)) rfl rfl Ac ?_
 simp only [go_sem, bIu]
 refine k12 ((cdA) ?_ ?_) <;> intro hc3
 . have hne : a ≠ b := fun e => by
     rw [e, hm] at hl; cases hl; simp at hc3
   exact (aj) (wR ((Ad) (fq (decide_eq_false hne))))
 . have hp : sP a b i = true := by unfold sP; rw [hl, hm]; simpa using hc3
   refine wk ((jt) (k9 ((jw (wiS i og)) ((jt) ?_))))
   refine ⟨i + 1, ⟨og, bV hall hp⟩, og, [], ?_⟩
   exact jo
def aAv (a b : List Run) (hz : a.length <= 4611686018427387904 /\ ∀ r ∈ a, r.ents.length <= 4611686018427387904) : aB P 166 [rsA a, rsA b] [] 0 (Nb (decide (a = b))) := by
 refine (pq 8 [.tmp 4] func166) ?_
 simp only [rsA]
 refine (aj) ?_
 refine sr rfl fun k2 => (ja) ?_
 refine (vr rfl rfl rfl func167 (eF a b hz.1 hz.2) Ai Ai) (k2 (wR (fO ?_ trivial)))
 exact Aj
def dN (a b : List (List Run)) (hz : a.length <= 4611686018427387904) (hy : ∀ l ∈ a, l.length <= 4611686018427387904 /\ ∀ r ∈ l, r.ents.length <= 4611686018427387904) : aB P 165 [.sl 1 (a.map rsA), .sl 1 (b.map rsA), .fn (.func 166) [] []] [] 0 (Nb (decide (a = b))) := by
 refine (pq 32 [.tmp 6] func165) ((aj) ?_)
 refine sq fun k2 => (aj) ((cdA) ?_ ?_) <;> intro hc1
 . have hne : a ≠ b := fun e => by rw [e] at hc1; simp at hc1
   exact (aj) (wR (fq (decide_eq_false hne)))
 have hlen : a.length = b.length := by simp at hc1; omega
 refine wk (k2 (sq fun k5 => (aj) (wb ?_)))
 refine wa a.length (sP a b) (fun x => ([(1, .sl 1 (b.map rsA)), (2, .fn (.func 166) [] []), (15, .sl 1 (a.map rsA)), (16, Ni (a.length : Int)), (17, Ni (x : Int))], [])) 0 [] ?_ ?_
 . exact jc
 rintro i ⟨hi, hall⟩
 refine (aj) ?_
 refine sq fun k8 => (cdB) ?_ ?_ <;> intro hc2
 . have hge := gec hc2
   refine we ((jt) (k5 ((aj) (wR ?_))))
   have hie : i = a.length := by omega
   subst hie
   have he := pM hlen hall
   exact fq (decide_eq_true he)
 obtain ⟨hlt, l, hl, _, hml⟩ := ixc hc2
 obtain ⟨m, hm, _, _⟩ := ix (xs := b) (i := i) og
 refine wk (k8 (sq fun k9 => wb (sr rfl fun k10 => (As hl) ((jr) (k10 (sr rfl fun k11 => (As hm) ((jr) (k11 (sr rfl fun k12 => (ja) ?_)))))))))
 refine vf (xs := [rsA l, rsA m]) rfl rfl rfl rfl ⟨func166, rfl, rfl⟩ (aAv l m (hy l hml)) rfl rfl Ai ?_
 simp only [go_sem, bIu]
 refine k12 ((cdA) ?_ ?_) <;> intro hc3
 . have hne : a ≠ b := fun e => by
     rw [e, hm] at hl; cases hl; simp at hc3
   exact (aj) (wR ((Ad) (fq (decide_eq_false hne))))
 . have hp : sP a b i = true := by unfold sP; rw [hl, hm]; simpa using hc3
   refine wk ((jt) (k9 ((jw (wiS i og)) ((jt) ?_))))
   refine ⟨i + 1, ⟨og, bV hall hp⟩, og, [], ?_⟩
   exact jo
def sZ (a b : List (List Run)) (ha : bEq a) : aB P 116 [.sl 1 (a.map rsA), .sl 1 (b.map rsA)] [] 0 (Nb (decide (a = b))) := by
 refine (pq 8 [.tmp 4] func116) ((aj) ?_)
 refine sr rfl fun k2 => (ja) ((vq func165 (dN a b ha.1 (fun l hl => ⟨(ha.2 l hl).1, fun r hr => ((ha.2 l hl).2 r hr).1⟩))) (k2 (wR (fO ?_ trivial))))
 exact Aj
def aJj (a b : Tree) (ha : bBt a) : aB P 113 [trA a, trA b] [] 0 (Nb (iM a b)) := by
 refine (pq 31 [.tmp 4] func113) ?_
 simp only [trA]
 refine (aj) ?_
 refine sr rfl fun k2 => (ja) ?_
 refine vpg rfl rfl rfl rfl rfl rfl ⟨func119, rfl, rfl⟩ (fun hg => bY a.mem b.mem ha.1.1) oG (fun hg => oG) oG trivial ?_
 refine (ja) ?_
 refine vpg rfl rfl rfl rfl rfl rfl ⟨func116, rfl, rfl⟩ (fun hg => sZ a.levels b.levels ha.2.1) oG (fun hg => oG) oG trivial ?_
 refine (ja) ?_
 refine vpg rfl rfl rfl rfl rfl rfl ⟨func160, rfl, rfl⟩ (fun hg => uX a.snaps b.snaps ha.2.2) oG (fun hg => oG) oG trivial ?_
 refine (ja) (k2 (wR (fO ?_ trivial)))
 simp only [go_sem, iM]
end Go.Proofs.S
end
section
open Go Go.Abs Go.Proofs Go.Proofs.Tryz
open Go.MapKept (IsKey)
namespace Go.Proofs.S
def bPu : KeyT P 9 (IsKey .string) := aZq kr
abbrev Tops := List (ByteArray × Int)
abbrev vT (m : Tops) : AObj := .map 9 3 (mAV Value.string inA m)
def bKf (σ : Nat -> Nat) (m : Tops) : ((mAV Value.string inA m).map fun p => (p.1, p.2.ren σ)) = mAV Value.string inA m := bPf σ (fun _ => rfl) m
def bIx (U : Nat -> Prop) (m : Tops) : aE U ((mAV Value.string inA m).map (·.2)) := bOc (eV := inA) (fun _ => trivial) m
attribute [go_sem] bKf bIx
def aYj (m : Tops) (seq : Int) (ls : List Entry) (i : Nat) : Bool := match ls[i]? with
  | some e => !(decide (seq < e.seq) || decide (e.seq <= aAy m e.key 0))
  | none => true
def bKt (m : Tops) (seq : Int) (ls : List Entry) : Bool := (List.range ls.length).all (aYj m seq ls)
def zO (m : Tops) (e : Entry) : Tops := zT m e.key (max (aAy m e.key 0) e.seq)
def xD (m : Tops) (ls : List Entry) : Tops := ls.foldl zO m
def sC (seq : Int) : Tops -> List (List Entry) -> Bool
  | _, [] => true
  | m, l :: r => if bKt m seq l = true then sC seq (xD m l) r else false
def aDi {m : Tops} (h : (m.map (·.1)).Nodup) (e : Entry) : ((zO m e).map (·.1)).Nodup := aOr _ _ _ h
def aHv : ∀ (ls : List Entry) {m : Tops}, (m.map (·.1)).Nodup -> ((xD m ls).map (·.1)).Nodup
  | [], _, h => h
  | e :: r, _, h => aHv r (aDi h e)
def aMm (m : Tops) (e : Entry) : (zO m e).length <= m.length + 1 := aIc _ _ _
def aSv : ∀ (ls : List Entry) (m : Tops), (xD m ls).length <= m.length + ls.length
  | [], m => A0 _
  | e :: r, m => by
    have h1 := aMm m e
    have h2 := aSv r (zO m e)
    simp only [xD, List.foldl_cons, B7] at h2 ⊢
    omega
def vV (ls : List (List Run)) : Bool := (List.range ls.length).all fun i => qR ((ls[i]?).getD []) i
def qP (t : Tree) : Bool := ((decide (t.seq < 0) || decide (100000 < t.seq)) || decide (60 < (t.mem.length : Int))) || !decide ((t.levels.length : Int) = 3)
def bR (t : Tree) : Bool := if qP t = true then false else if (!cV t.mem || !nP t.snaps t.seq) = true then false else if vV t.levels = false then false else sC t.seq [] (iU t.levels t.mem)
def aPv {t : Tree} (h : gS t) : ∀ p ∈ iU t.levels t.mem, p.length <= 1048576 := by
  obtain ⟨h1, h2, h3⟩ := h
  intro p hp
  rcases B4.1 hp with hp | hp
  . obtain ⟨rs, hrs, hp⟩ := List.mem_flatMap.1 hp
    obtain ⟨r, hr, rfl⟩ := B3.1 hp
    exact ((h2.2 rs (List.mem_reverse.1 hrs)).2 r hr).1
  rw [B6.1 hp]; exact h1.1
def aZd {t : Tree} (h : gS t) : (iU t.levels t.mem).length <= 1048576 * t.levels.length + 1 := by
  have aux : ∀ ls : List (List Run), (∀ rs ∈ ls, rs.length <= 1048576) -> (ls.reverse.flatMap fun rs => rs.map Run.ents).length <= 1048576 * ls.length := by
    intro ls
    induction ls with
    | nil => intro _; simp
    | cons a r ih =>
      intro hl
      have h1 := ih fun x hx => hl x (A4 _ hx)
      have h2 := hl a A5
      rw [List.reverse_cons, List.flatMap_append, A3]
      simp at h1 ⊢
      omega
  have := aux t.levels fun rs hrs => (h.2.1.2 rs hrs).1
  unfold iU; rw [A3]
  simp at this ⊢
  omega
def aFd (ls : List (List Run)) (mem : List Entry) (hs : qJ ls) : aH P 164 [.sl 1 (ls.map rsA), .sl 5 (mem.map enA)] [] 0 (.ref 0) [(0, .row 33 1 ((iU ls mem).map esA))] 1 := by
 refine (gq 35 [.tmp 4] func164) ?_
 have hmx := mxl
 have hlen := hs.1
 refine (aj) ((aj) ?_)
 refine sq fun k3 => ?_
 have hw0 := wr ((ls.length : Int) - 1) ((ls.length : Int) - 1) og
 refine sr rfl fun k4 => (Aa hw0) (k4 (wb ?_))
 refine dZ (t := 5) 33 1 rfl dg ?_
 refine (ja) ?_
 refine wl (α := Nat) (fun x => x <= ls.length /\ (tB ls x).length <= 1048576 * (ls.length - x)) (fun x => x) (fun x => ([(0, .sl 1 (ls.map rsA)), (1, .sl 5 (mem.map enA)), (5, .ref 0), (6, Ni ((x : Int) - 1))], [(0, .row 33 1 ((tB ls x).map esA))])) 1 ls.length ⟨A0 _, by simp [tB]⟩ [] ?_ ?_
 . simp only [go_sem, AObj.bel, tB, List.drop_length, List.reverse_nil, List.flatMap_nil, List.map_nil] <;> simp
 rintro j ⟨hj, hjl⟩
 refine sq fun k5 => (aj) ((cdB) ?_ ?_) <;> intro hc1
 . have hj0 : j = 0 := by have h9 : ¬ (0 : Int) <= (j : Int) - 1 := (by simpa using hc1); omega
   subst hj0
   refine we ((jt) (k3 (sr rfl fun k13 => (Dr) ((jr) (k13 (wR ?_))))))
   have hfin : (tB ls 0).map esA ++ [AV.sl 5 (mem.map enA)] = (iU ls mem).map esA := by unfold iU tB; simp [esA]
   refine ⟨[(0, 2)], ?_⟩
   simp only [go_sem, AObj.bel, AObj.ren, AV.ren, aA, sg] <;> simp
   exact hfin
 obtain ⟨i, rfl⟩ : ∃ i, j = i + 1 := ⟨j - 1, by have h9 : (0 : Int) <= (j : Int) - 1 := (by simpa using hc1); omega⟩
 have hi1 : (((i + 1 : Nat) : Int) - 1) = (i : Int) := by omega
 obtain ⟨l, hl, _, hml⟩ := ix (xs := ls) (i := i) og
 have hsl := hs.2 l hml
 have hll := hsl.1
 simp only [hi1]
 refine wk (k5 (sq fun k7 => wb (sr rfl fun k8 => (As hl) ((jr) (k8 (wb ?_))))))
 refine wn l.length (fun x => ([(0, .sl 1 (ls.map rsA)), (1, .sl 5 (mem.map enA)), (5, .ref 0), (6, Ni (i : Int)), (19, .sl 2 (l.map rA)), (20, Ni (l.length : Int)), (21, Ni (x : Int))], [(0, .row 33 1 ((tB ls (i + 1) ++ (l.take x).map Run.ents).map esA))])) 1 [] ?_ ?_
 . exact jp
 rintro k hk
 refine (aj) ?_
 refine sq fun k10 => (cdB) ?_ ?_ <;> intro hc2
 . have hgek : l.length <= k := by have h9 : ¬ k < l.length := (by simpa using hc2); omega
   refine we ((jt) ((jt) (k7 ?_)))
   have hw4 := wr ((i : Int) - 1) ((i : Int) - 1) og
   have htn : (tB ls (i + 1)).map esA ++ (l.map Run.ents).map esA = (tB ls i).map esA := by rw [aNa hl, E4]
   have hfull : l.take k = l := List.take_of_length_le og
   refine wg rfl ((Ar hw4 hfull) ((jt) ?_))
   refine ⟨i, ⟨og, by rw [aNa hl, A3, A2]; omega⟩, og, [], ?_⟩
   simp only [go_sem, AObj.bel, AObj.ren, AV.ren, aA, sg, Int.natCast_zero] <;> simp
   simpa using htn
 have hltk : k < l.length := by simpa using hc2
 obtain ⟨r, hr, _, hmr⟩ := ix hltk
 refine wk (k10 (sq fun k11 => wb (sr rfl fun k12 => (Ao hr) ((jr) (k12 (wg rfl ((Dr) ((jr) ((jt) (k11 ?_))))))))))
 have hwk := wiS k og
 have htk : (tB ls (i + 1)).map esA ++ (((l.take k).map Run.ents).map esA ++ [AV.sl 5 (r.ents.map enA)]) = (tB ls (i + 1)).map esA ++ ((l.take (k + 1)).map Run.ents).map esA := by
   rw [E7, hr]; simp [esA]
 refine wg rfl ((Aa hwk) ((jt) ?_))
 refine ⟨k + 1, og, og, [(0, 3)], ?_⟩
 simp only [go_sem, AObj.bel, AObj.ren, AV.ren, aA, sg, Int.natCast_zero] <;> simp
 first | exact htk | simpa using htk
def aEw (ls : List (List Entry)) (seq : Int) (hz : ls.length <= 4194304) (hl5 : ∀ l ∈ ls, l.length <= 1048576) : aB P 163 [.sl 1 (ls.map esA), Ni seq] [] 0 (Nb (sC seq [] ls)) := by
 refine (pq 57 [.tmp 4] func163) ((aj) ((aj) ?_))
 refine sq fun k3 => (aj) (wb ?_)
 refine wl (α := Nat × Tops) (fun x => x.1 <= ls.length /\ (x.2.map (·.1)).Nodup /\ x.2.length <= 1048576 * x.1 /\ sC seq x.2 (ls.drop x.1) = sC seq [] ls) (fun x => ls.length - x.1) (fun x => ([(1, Ni seq), (5, .ref 0), (13, .sl 1 (ls.map esA)), (14, Ni (ls.length : Int)), (15, Ni (x.1 : Int))], [(0, vT x.2)])) 1 (0, []) ⟨A6 _, D8, A0 _, rfl⟩ [] ?_ ?_
 . simp only [go_sem, AObj.bel, AObj.ren, vT, mAV, List.map_nil, Int.natCast_zero] <;> simp [aE]
 rintro ⟨i, m⟩ ⟨hi, hnd, hml, hgo⟩
 simp only at hi hnd hml hgo ⊢
 refine (aj) ?_
 refine sq fun k6 => (cdB) ?_ ?_ <;> intro hc1
 . have hge := gec hc1
   rw [E9 hge, sC] at hgo
   refine we ((jt) (k3 ((aj) (wR ?_))))
   refine fO ?_ trivial; simp only [go_sem, <- hgo]
 obtain ⟨hlt, l, hl, hdrop, hml0⟩ := ixc hc1
 have hll := hl5 l hml0
 refine wk (k6 (sq fun k7 => wb (sr rfl fun k8 => (Ay hl) ((jr) (k8 (sq fun k9 => (aj) (wb ?_)))))))
 refine wa l.length (aYj m seq l) (fun x => ([(1, Ni seq), (5, .ref 0), (7, .sl 5 (l.map enA)), (13, .sl 1 (ls.map esA)), (14, Ni (ls.length : Int)), (15, Ni (i : Int)), (19, .sl 5 (l.map enA)), (20, Ni (l.length : Int)), (21, Ni (x : Int))], [(0, vT m)])) 1 [] ?_ ?_
 . simp only [go_sem, AObj.bel, AObj.ren, vT, Int.natCast_zero] <;> simp
 rintro k ⟨hk, hall⟩
 refine (aj) ?_
 refine sq fun k12 => (cdA) ?_ ?_ <;> intro hc2
 . have hltk : k < l.length := by simpa using hc2
   obtain ⟨e, he, _, _⟩ := ix hltk
   refine wk (k12 (sq fun k13 => wb (sr rfl fun k14 => (Ap he) ((jr) (k14 (sr rfl fun k15 => (Ap he) ?_))))))
   refine vC (fun hN => bD hN rfl rfl rfl rfl oG (fun hg => aMx (eK := Value.string) (eV := inA) (k := e.key) (z := 0) (m := m) rfl rfl hN oG (by simp only [go_sem, inA]) bPu (fun a b h => Value.string.inj h) (fun a => trivial) rfl rfl hnd rfl rfl) trivial) (.inl rfl) ?_
   simp only [go_sem, inA, he, enA]
   refine k15 ((cdA) ?_ ?_) <;> intro hc3
   . have hp : aYj m seq l k = false := by unfold aYj; rw [he]; simp only [hc3]; rfl
     have hok : bKt m seq l = false := gR hltk hp
     refine (aj) (wR ((Ad) ?_))
     rw [hdrop, sC, hok] at hgo; refine fO ?_ trivial; simp only [go_sem, <- hgo, B9, if_false]
   have hp : aYj m seq l k = true := by unfold aYj; rw [he]; simp only [hc3]; rfl
   refine wk ((jt) (k13 ?_))
   have hwk := wiS k og
   refine wg rfl ((Aa hwk) ((jt) ?_))
   refine ⟨k + 1, ⟨og, bV hall hp⟩, og, [], ?_⟩
   simp only [go_sem, AObj.bel, AObj.ren, AV.ren, aA, sg, vT] <;> simp
 have hgek : l.length <= k := by have h9 : ¬ k < l.length := (by simpa using hc2); omega
 refine we ((jt) (k9 ?_))
 have hok : bKt m seq l = true := eU hgek hall
 refine (aj) (wb ?_)
 refine wl (α := Nat × Tops) (fun x => x.1 <= l.length /\ (x.2.map (·.1)).Nodup /\ x.2.length <= 1048576 * i + x.1 /\ xD x.2 (l.drop x.1) = xD m l) (fun x => l.length - x.1) (fun x => ([(1, Ni seq), (5, .ref 0), (13, .sl 1 (ls.map esA)), (14, Ni (ls.length : Int)), (15, Ni (i : Int)), (39, .sl 5 (l.map enA)), (40, Ni (l.length : Int)), (41, Ni (x.1 : Int))], [(0, vT x.2)])) 1 (0, m) ⟨A6 _, hnd, by simpa using hml, rfl⟩ [] ?_ ?_
 . simp only [go_sem, AObj.bel, AObj.ren, vT, Int.natCast_zero] <;> simp
 rintro ⟨k, m2⟩ ⟨hk2, hnd2, hml2, hput⟩
 simp only at hk2 hnd2 hml2 hput ⊢
 refine (aj) ?_
 refine sq fun k19 => (cdB) ?_ ?_ <;> intro hc4
 . have hgek2 : l.length <= k := by have h9 : ¬ k < l.length := (by simpa using hc4); omega
   rw [E9 hgek2] at hput
   have hput2 : m2 = xD m l := hput
   refine we ((jt) ((jt) (k7 ((jw (wiS i og)) ((jt) ?_)))))
   refine ⟨(i + 1, xD m l), ⟨by simp only; omega, aHv l hnd, by have := aSv l m; simp only; omega, by rw [hdrop, sC, if_pos hok] at hgo; exact hgo⟩, by simp only; omega, [], ?_⟩
   rw [hput2]
   simp only [go_sem, AObj.bel, AObj.ren, AV.ren, aA, sg, vT] <;> simp
 have hltk : k < l.length := by simpa using hc4
 obtain ⟨e, he, hdrop2, _⟩ := ix hltk
 refine wk (k19 (sq fun k20 => wb (sr rfl fun k21 => (Ap he) ((jr) (k21 ?_)))))
 have hmx2 : m2.length + 1 < maxLen := by have hmx := mxl
                                          omega
 refine wg rfl ((Ap he) ?_)
 refine vC (fun hN => aMx (eK := Value.string) (eV := inA) (k := e.key) (z := 0) (m := m2) rfl rfl hN oG (by simp only [go_sem, inA]) bPu (fun a b h => Value.string.inj h) (fun a => trivial) rfl rfl hnd2 rfl rfl) (.inl rfl) ?_
 simp only [go_sem, inA, he, enA]
 refine vC (fun hN => bGp (eK := Value.string) (eV := inA) (k := e.key) (v := max (aAy m2 e.key 0) e.seq) (m := m2) rfl rfl hN oG bPu (fun a b h => Value.string.inj h) (fun a => trivial) rfl rfl hnd2 rfl rfl rfl hmx2) (.inl rfl) ?_
 simp only [go_sem, inA, he, enA]
 refine (jt) (k20 ?_)
 have hwk := wiS k og
 refine wg rfl ((Aa hwk) ((jt) ?_))
 refine ⟨(k + 1, zO m2 e), ⟨by simp only; omega, aDi hnd2 e, by have := aMm m2 e; simp only; omega, by rw [hdrop2] at hput; exact hput⟩, by simp only; omega, [], ?_⟩
 simp only [go_sem, AObj.bel, AObj.ren, AV.ren, aA, sg, vT, zO] <;> simp
def aBa (t : Tree) (hs : gS t) : aB P 115 [trA t] [] 0 (Nb (bR t)) := by
 refine (pq 58 [.tmp 2] func115) ?_
 simp only [trA]
 have hs0 := hs
 obtain ⟨hs1, hs2, hs3⟩ := hs
 have hz1 : dB t.mem := ⟨by have := hs1.1; omega, fun e he => ⟨by have := (hs1.2 e he).1; omega, by have := (hs1.2 e he).2; omega⟩⟩
 have hzr : ∀ rs ∈ t.levels, aOn rs := fun rs hrs => by
   have h1 := hs2.2 rs hrs
   exact ⟨by have := h1.1; omega, fun r hr => ⟨by have := (h1.2 r hr).1; omega, fun e he => ⟨by have := ((h1.2 r hr).2 e he).1; omega, by have := ((h1.2 r hr).2 e he).2; omega⟩⟩⟩
 have hlz := hs2.1
 refine (aj) ?_
 refine sq fun k2 => (aj) ((cdA) ?_ ?_) <;> intro hc1
 . have hb : qP t = true := hc1
   refine (aj) (wR ?_)
   refine fO ?_ trivial; simp only [go_sem, bR, hb, if_true]
 have hb : qP t = false := hc1
 have h3 : t.levels.length = 3 := by simp at hc1; omega
 refine wk (k2 (sq fun k5 => sr rfl fun k6 => (ja) ((vq func146 (sA t.mem hz1)) ?_)))
 refine vpg rfl rfl rfl rfl rfl rfl ⟨func161, rfl, rfl⟩ (fun hg => aKy t.snaps t.seq og) oG (fun hg => oG) oG trivial ?_
 refine (ja) (k6 ((cdA) ?_ ?_)) <;> intro hc2
 . have hb2 := hc2
   refine (aj) (wR ?_)
   refine fO ?_ trivial; simp only [go_sem, bR, hb, hb2, B9, if_false, if_true]
 have hb2 := hc2
 refine wk (k5 (sq fun k8 => (aj) (wb ?_)))
 refine wa t.levels.length ((fun i : Nat => qR ((t.levels[i]?).getD []) (i : Int))) (fun x => ([(1, .ptr 0 0), (38, .sl 1 (t.levels.map rsA)), (39, Ni (t.levels.length : Int)), (40, Ni (x : Int))], [(0, .cells 36 [Ni t.seq, .sl 5 (t.mem.map enA), .sl 1 (t.levels.map rsA), .sl 1 (t.snaps.map inA)])])) 1 [] ?_ ?_
 . exact Ch
 rintro i ⟨hi, hall⟩
 refine (aj) ?_
 refine sq fun k11 => (cdB) ?_ ?_ <;> intro hc3
 . have hge := gec hc3
   have hlo : vV t.levels = true := eU hge hall
   have hlay : (iU t.levels t.mem).length <= 4194304 := by have h8 := aZd hs0; omega
   refine we ((jt) (k8 (sd mixed rfl fun k16 => (ja) ?_)))
   refine tp rfl rfl rfl ⟨func164, rfl, rfl⟩ ((cO (aFd t.levels t.mem hs2) (by simp only [go_sem, aGn]) oG : aB P 164 [.sl 1 (t.levels.map rsA), .sl 5 (t.mem.map enA)] [] 0 (.sl 1 ((iU t.levels t.mem).map esA)))) oG oG ?_
   refine (ja) ?_
   refine tp rfl rfl rfl ⟨func163, rfl, rfl⟩ (aEw (iU t.levels t.mem) t.seq hlay (aPv hs0)) oG oG ?_
   refine (ja) ((jy) (k16 (wR (fO ?_ trivial))))
   simp only [go_sem, bR, hb, hb2, hlo, B9, Bool.true_eq_false, if_false]
 have hlt : i < t.levels.length := by simpa using hc3
 obtain ⟨l, hl, hdrop, hml⟩ := ix hlt
 refine wk (k11 (sq fun k12 => wb (sr rfl fun k13 => (As hl) ((jr) (k13 (sr rfl fun k14 => (As hl) ?_))))))
 refine vs rfl rfl rfl func162 (aMa l (i : Int) (hzr l hml)) oG oG ?_
 refine (As hl) (k14 ((cdA) ?_ ?_)) <;> intro hc4
 . have hp : (fun i : Nat => qR ((t.levels[i]?).getD []) (i : Int)) i = false := by simp only [hl, Option.getD_some]; simpa using hc4
   have hlo : vV t.levels = false := gR hlt hp
   refine (aj) (wR ((Ad) ?_))
   refine fO ?_ trivial; simp only [go_sem, bR, hb, hb2, hlo, B9, if_false, if_true]
 have hp : (fun i : Nat => qR ((t.levels[i]?).getD []) (i : Int)) i = true := by simp only [hl, Option.getD_some]; simpa using hc4
 refine wk ((jt) (k12 ((jw (wiS i og)) ((jt) ?_))))
 refine ⟨i + 1, ⟨og, bV hall hp⟩, og, [], ?_⟩
 exact Bk
end Go.Proofs.S
end
section
open Go Go.Abs Go.Proofs Go.Proofs.Tryz
namespace Go.Proofs.S
section
variable {ls : List Run} {r : Run} {e : Entry}
def jZ {p : Nat -> Bool} {n : Nat} : (List.range n).all p = true ↔ ∀ i, i < n -> p i = true := by
  rw [C4]
  exact ⟨fun h i hi => h i (List.mem_range.2 hi), fun h i hi => h i (List.mem_range.1 hi)⟩
def nC {α : Type} {ls : List α} {x : α} (h : x ∈ ls) : ∃ i, i < ls.length /\ ls[i]? = some x := by
  obtain ⟨i, hi⟩ := G5 h
  exact ⟨i, (A9.1 hi).1, hi⟩
def sL (ls : List Entry) (seq : Int) : mC ls seq = true ↔ ∀ e ∈ ls, e.seq <= seq := by
  unfold mC; rw [jZ]
  constructor
  . intro h e he
    obtain ⟨i, hi, hx⟩ := nC he
    have := h i hi
    unfold qL at this; rw [hx] at this
    simpa using this
  intro h i hi; unfold qL; rw [A1 hi]
  simpa using h _ (D7 hi)
def gW (a b : List Entry) : mD a b = true ↔ ∀ e ∈ a, ∀ f ∈ b, e.key = f.key -> f.seq < e.seq := by
  unfold mD; rw [jZ]
  constructor
  . intro h e he f hf hk
    obtain ⟨i, hi, hx⟩ := nC he
    obtain ⟨j, hj, hy⟩ := nC hf
    have := jZ.1 (h i hi) j hj
    unfold aHi at this; rw [hx, hy] at this
    simp only [wF, hk, decide_true, Bool.true_and, Bool.not_eq_true', decide_eq_false_iff_not] at this
    omega
  intro h i hi
  refine jZ.2 fun j hj => ?_
  unfold aHi; rw [A1 hi, A1 hj]; simp only [wF]
  by_cases hk : a[i].key = b[j].key
  . have := h _ (D7 hi) _ (D7 hj) hk
    simp [hk]; omega
  simp [hk]
def aRy (ps : List (List Entry)) : aIn ps = true ↔ ps.Pairwise fun a b => mD a b = true := by
  unfold aIn; rw [jZ, H7]
  constructor
  . intro h i j hi hj hij
    have := jZ.1 (h i hi) (j - (i + 1)) og
    unfold zM at this; rw [show i + 1 + (j - (i + 1)) = j by omega, A1 hi, A1 hj] at this; exact this
  intro h i hi
  refine jZ.2 fun d hd => ?_
  unfold zM; rw [A1 hi, A1 (show i + 1 + d < ps.length by omega)]
  exact h i (i + 1 + d) hi og og
def Adj (ls : List Run) : Prop := ∀ i, (h : i + 1 < ls.length) -> Op.bytesLess (aG ls[i]).toList (aC ls[i + 1]).toList = true
def wX {i : Nat} (h : i + 1 < ls.length) : iX ls (i + 1) = ls[i] := by
  unfold iX; rw [Nat.add_sub_cancel, A1 og]; rfl
def gH (ls : List Run) (level : Int) : qR ls level = true ↔ (ls.length : Int) <= aBo level /\ (∀ r ∈ ls, cW r = true) /\ (0 < level -> Adj ls) := by
  unfold qR; split
  . rename_i h
    exact ⟨fun h' => (by cases h'), fun h' => by omega⟩
  rename_i h
  rw [jZ]
  constructor
  . intro h'
    refine ⟨og, fun r hr => ?_, fun hl i hi => ?_⟩
    . obtain ⟨i, hi, hx⟩ := nC hr
      exact aYx (h' i hi) hx
    have := h' (i + 1) hi
    unfold xA at this; rw [A1 hi, wX hi] at this
    simp [hl] at this
    have h1 := this.2
    exact h1
  rintro ⟨h1, h2, h3⟩ i hi
  unfold xA; rw [A1 hi]; simp only [h2 _ (D7 hi), Bool.true_and]
  by_cases hl : 0 < level
  . cases i with
    | zero => simp
    | succ i =>
      rw [wX hi, h3 hl i hi]
      simp
  simp [hl]
def iP (ls : List Run) (most : Int) (ap : Bool) (seq : Int) : eY ls most ap seq = true ↔ (ls.length : Int) <= most /\ (∀ r ∈ ls, cW r = true /\ mC r.ents seq = true) /\ (ap = true -> Adj ls) := by
  unfold eY; split
  . rename_i h
    exact ⟨fun h' => (by cases h'), fun h' => by omega⟩
  rename_i h
  rw [jZ]
  constructor
  . intro h'
    refine ⟨og, fun r hr => ?_, fun hl i hi => ?_⟩
    . obtain ⟨i, hi, hx⟩ := nC hr
      have := h' i hi
      unfold nY at this; rw [hx] at this; simp at this
      exact this.1
    have := h' (i + 1) hi
    unfold nY at this; rw [A1 hi, wX hi] at this
    simp [hl] at this
    exact this.2
  rintro ⟨h1, h2, h3⟩ i hi
  unfold nY; rw [A1 hi]
  obtain ⟨k1, k2⟩ := h2 _ (D7 hi)
  simp only [k1, k2, Bool.not_true, Bool.or_false, Bool.not_false, Bool.true_and]
  by_cases hl : ap = true
  . cases i with
    | zero => simp
    | succ i =>
      rw [wX hi, h3 hl i hi]
      simp
  simp [hl]
def aKj (s : Int) (k : ByteArray) : ∀ (l : List Entry) (m : Tops), aAy (xD m l) k 0 < s ↔ aAy m k 0 < s /\ ∀ e ∈ l, e.key = k -> e.seq < s
  | [], m => by simp [xD]
  | e :: r, m => by
    have ih := aKj s k r (zO m e)
    unfold xD at ih ⊢
    rw [List.foldl_cons, ih]; unfold zO; rw [aSk]
    by_cases hk : e.key = k
    . subst hk; rw [if_pos rfl]
      constructor
      . rintro ⟨h1, h2⟩
        refine ⟨og, fun f hf hfk => ?_⟩
        rcases B1.1 hf with rfl | hf
        . omega
        exact h2 f hf hfk
      rintro ⟨h1, h2⟩
      have h3 := h2 e A5 rfl
      exact ⟨og, fun f hf => h2 f (A4 _ hf)⟩
    rw [if_neg hk]
    constructor
    . rintro ⟨h1, h2⟩
      refine ⟨h1, fun f hf hfk => ?_⟩
      rcases B1.1 hf with rfl | hf
      . exact absurd hfk hk
      exact h2 f hf hfk
    rintro ⟨h1, h2⟩
    exact ⟨h1, fun f hf => h2 f (A4 _ hf)⟩
def aWc (m : Tops) (seq : Int) (l : List Entry) : bKt m seq l = true ↔ ∀ e ∈ l, e.seq <= seq /\ aAy m e.key 0 < e.seq := by
  unfold bKt; rw [jZ]
  constructor
  . intro h e he
    obtain ⟨i, hi, hx⟩ := nC he
    have := h i hi
    unfold aYj at this; rw [hx] at this; simp at this; omega
  intro h i hi; unfold aYj; rw [A1 hi]
  have := h _ (D7 hi)
  simp
  omega
def wA (seq : Int) : ∀ (ls : List (List Entry)) (m : Tops), sC seq m ls = true ↔ (∀ l ∈ ls, ∀ e ∈ l, e.seq <= seq /\ aAy m e.key 0 < e.seq) /\ ls.Pairwise fun a b => mD b a = true
  | [], m => by simp [sC]
  | l :: r, m => by
    unfold sC; rw [List.pairwise_cons]; split
    . rename_i h
      have h0 := (aWc m seq l).1 h
      rw [wA seq r (xD m l)]
      constructor
      . rintro ⟨h1, h2⟩
        refine ⟨fun l' hl' e he => ?_, fun b hb => (gW b l).2 fun e he f hf hk => ?_, h2⟩
        . rcases B1.1 hl' with rfl | hl'
          . exact h0 e he
          have h3 := h1 l' hl' e he
          exact ⟨h3.1, ((aKj _ _ _ _).1 h3.2).1⟩
        have h3 := (h1 b hb e he).2
        exact ((aKj _ _ _ _).1 h3).2 f hf hk.symm
      rintro ⟨h1, h2, h3⟩
      refine ⟨fun l' hl' e he => ?_, h3⟩
      have h4 := h1 l' (A4 _ hl') e he
      exact ⟨h4.1, (aKj _ _ _ _).2 ⟨h4.2, fun f hf hfk => (gW l' l).1 (h2 l' hl') e he f hf hfk.symm⟩⟩
    rename_i h
    refine ⟨fun h' => (by cases h'), fun h' => absurd ((aWc m seq l).2 fun e he => h'.1 l A5 e he) h⟩
def bAk {a b : Entry} (h : entLt a b = true) : Op.bytesLess b.key.toList a.key.toList = false := by
  have := aHt h
  simp only [entLt, Bool.or_eq_false_iff] at this
  exact this.1
def yW (h : cW r = true) (he : e ∈ r.ents) : Op.bytesLess e.key.toList (aC r).toList = false /\ Op.bytesLess (aG r).toList e.key.toList = false := by
  have hl := eG h
  simp only [cW, C8] at h
  have hp := H7.1 (vR h.1.2)
  obtain ⟨i, hi, hx⟩ := nC he
  rw [A1 hi] at hx; cases hx
  refine ⟨?_, ?_⟩
  . unfold aC; rw [A1 og]; simp only [Option.getD_some]
    by_cases h0 : i = 0
    . subst h0; exact cA _
    exact bAk (hp 0 i og hi og)
  unfold aG; rw [A1 og]; simp only [Option.getD_some]
  by_cases h0 : i = r.ents.length - 1
  . subst h0; exact cA _
  exact bAk (hp i (r.ents.length - 1) hi og og)
def rS {x y z : List UInt8} (h1 : Op.bytesLess x y = true) (h2 : Op.bytesLess z y = false) : Op.bytesLess x z = true := by
  cases h3 : Op.bytesLess x z with
  | true => rfl
  | false => have := sR x z y h3 h2; rw [h1] at this; cases this
def aDq {x y z : List UInt8} (h1 : Op.bytesLess y x = false) (h2 : Op.bytesLess y z = true) : Op.bytesLess x z = true := by
  cases h3 : Op.bytesLess x z with
  | true => rfl
  | false => have := sR y x z h1 h3; rw [h2] at this; cases this
def aEz (h : cW r = true) : Op.bytesLess (aG r).toList (aC r).toList = false := by
  have hl := eG h
  have hm : r.ents[0] ∈ r.ents := D7 og
  have h1 := yW h hm
  exact sR _ _ _ h1.2 h1.1
def aDh (h : Adj ls) (hr : ∀ r ∈ ls, cW r = true) : ls.Pairwise fun a b => Op.bytesLess (aG a).toList (aC b).toList = true := by
  refine H7.2 fun i j hi hj hij => ?_
  obtain ⟨d, rfl⟩ : ∃ d, j = i + 1 + d := ⟨j - (i + 1), og⟩
  clear hij
  induction d with
  | zero => exact h i hj
  | succ d ih =>
    have h1 := ih og
    have h2 := h (i + 1 + d) og
    have h3 := aEz (hr _ (D7 (show i + 1 + d < ls.length by omega)))
    exact sB _ _ _ (rS h1 h3) h2
def aQw (h : Adj ls) (hr : ∀ r ∈ ls, cW r = true) : (ls.map Run.ents).Pairwise fun a b => mD b a = true := by
  rw [List.pairwise_map]
  refine List.Pairwise.imp_of_mem (fun {a b} ha hb hab => ?_) (aDh h hr)
  refine (gW _ _).2 fun e he f hf hk => ?_
  have h1 := (yW (hr b hb) he).1
  have h2 := (yW (hr a ha) hf).2
  have h3 := aDq h2 (rS hab h1)
  rw [hk, cA] at h3; cases h3
def gQ (a : List Entry) (rs : List Run) : mD a (eT rs) = true ↔ ∀ r ∈ rs, mD a r.ents = true := by
  rw [gW]
  constructor
  . intro h r hr
    exact (gW _ _).2 fun e he f hf => h e he f (List.mem_flatMap.2 ⟨r, hr, hf⟩)
  intro h e he f hf
  obtain ⟨r, hr, hf⟩ := List.mem_flatMap.1 hf
  exact (gW _ _).1 (h r hr) e he f hf
def aNl (a : List Entry) (rs : List Run) : mD (eT rs) a = true ↔ ∀ r ∈ rs, mD r.ents a = true := by
  rw [gW]
  constructor
  . intro h r hr
    exact (gW _ _).2 fun e he f hf => h e (List.mem_flatMap.2 ⟨r, hr, he⟩) f hf
  intro h e he f hf
  obtain ⟨r, hr, he⟩ := List.mem_flatMap.1 he
  exact (gW _ _).1 (h r hr) e he f hf
def bCp (h : cW r = true) (he : e ∈ r.ents) : 0 < e.seq := by
  simp only [cW, C8] at h
  obtain ⟨i, hi, hx⟩ := nC he
  have := (C4.1 h.1.2) i (List.mem_range.2 hi)
  unfold aAu at this; rw [hx] at this; simp at this
  have := gM this.1
  omega
def bNk {ls : List Entry} (h : cV ls = true) (he : e ∈ ls) : 0 < e.seq := by
  obtain ⟨i, hi, hx⟩ := nC he
  have := (C4.1 h) i (List.mem_range.2 hi)
  unfold aAu at this; rw [hx] at this; simp at this
  have := gM this.1
  omega
def aZp (L0 L1 L2 : List Run) (mem : List Entry) (h1 : Adj L1) (r1 : ∀ r ∈ L1, cW r = true) (h2 : Adj L2) (r2 : ∀ r ∈ L2, cW r = true) :
    ((mem :: (L0.reverse.map Run.ents ++ [eT L1, eT L2])).Pairwise fun a b => mD a b = true) ↔ (((L2.map Run.ents ++ (L1.map Run.ents ++ L0.map Run.ents)) ++ [mem]).Pairwise fun a b => mD b a = true) := by
  have e0 : ∀ (ls : List Run) (φ : List Entry -> Prop), (∀ x ∈ ls.map Run.ents, φ x) ↔ ∀ r ∈ ls, φ r.ents := fun ls φ =>
    ⟨fun h r hr => h _ (D5 hr), fun h x hx => by obtain ⟨r, hr, rfl⟩ := B3.1 hx; exact h r hr⟩
  have e1 : (L0.reverse.map Run.ents).Pairwise (fun a b => mD a b = true) ↔ (L0.map Run.ents).Pairwise (fun a b => mD b a = true) := by
    rw [List.map_reverse, List.pairwise_reverse]
  simp only [List.pairwise_cons, List.pairwise_append, B4, B1, List.not_mem_nil, or_false, e1, List.Pairwise.nil, List.Pairwise.nil, forall_eq, forall_eq_or_imp, false_implies, implies_true, and_true, true_and]
  have a1 := aQw h1 r1
  have a2 := aQw h2 r2
  constructor
  . rintro ⟨k1, k2, k3, k4⟩
    refine ⟨⟨a2, ⟨a1, k2, fun x hx y hy => ?_⟩, fun x hx y hy => ?_⟩, fun x hx => ?_⟩
    . obtain ⟨r, hr, rfl⟩ := B3.1 hx
      obtain ⟨s, hs, rfl⟩ := B3.1 hy
      exact (gQ _ _).1 (k4 s.ents (D5 (List.mem_reverse.2 hs))).1 r hr
    . obtain ⟨r, hr, rfl⟩ := B3.1 hx
      rcases hy with hy | hy
      . obtain ⟨s, hs, rfl⟩ := B3.1 hy
        exact (gQ _ _).1 ((aNl _ _).1 k3 s hs) r hr
      obtain ⟨s, hs, rfl⟩ := B3.1 hy
      exact (gQ _ _).1 (k4 s.ents (D5 (List.mem_reverse.2 hs))).2 r hr
    rcases hx with hx | hx | hx
    . obtain ⟨r, hr, rfl⟩ := B3.1 hx
      exact (gQ _ _).1 (k1 _ (.inr (.inr rfl))) r hr
    . obtain ⟨r, hr, rfl⟩ := B3.1 hx
      exact (gQ _ _).1 (k1 _ (.inr (.inl rfl))) r hr
    obtain ⟨r, hr, rfl⟩ := B3.1 hx
    exact k1 _ (.inl (D5 (List.mem_reverse.2 hr)))
  rintro ⟨⟨k1, ⟨k2, k3, k4⟩, k5⟩, k6⟩
  refine ⟨fun x hx => ?_, k3, ?_, fun x hx => ?_⟩
  . rcases hx with hx | rfl | rfl
    . obtain ⟨r, hr, rfl⟩ := B3.1 hx
      exact k6 _ (.inr (.inr (D5 (List.mem_reverse.1 hr))))
    . exact (gQ _ _).2 fun r hr => k6 _ (.inr (.inl (D5 hr)))
    exact (gQ _ _).2 fun r hr => k6 _ (.inl (D5 hr))
  . exact (aNl _ _).2 fun s hs => (gQ _ _).2 fun r hr => k5 _ (D5 hr) _ (.inl (D5 hs))
  obtain ⟨s, hs, rfl⟩ := B3.1 hx
  have hs' := List.mem_reverse.1 hs
  exact ⟨(gQ _ _).2 fun r hr => k4 _ (D5 hr) _ (D5 hs'), (gQ _ _).2 fun r hr => k5 _ (D5 hr) _ (.inr (D5 hs'))⟩
def pQ (t : Tree) : bR t = eH t := by
  rw [Bool.eq_iff_iff]
  by_cases h3 : t.levels.length = 3
  . obtain ⟨L0, L1, L2, hL⟩ : ∃ a b c, t.levels = [a, b, c] := by
      match hl : t.levels, h3 with
      | [a, b, c], _ => exact ⟨a, b, c, rfl⟩
    have v0 : lv t 0 = L0 := by unfold lv; rw [hL]; rfl
    have v1 : lv t 1 = L1 := by unfold lv; rw [hL]; rfl
    have v2 : lv t 2 = L2 := by unfold lv; rw [hL]; rfl
    have hp : dW t = t.mem :: (L0.reverse.map Run.ents ++ [eT L1, eT L2]) := by unfold dW; rw [hL]; rfl
    have hlay : iU t.levels t.mem = (L2.map Run.ents ++ (L1.map Run.ents ++ L0.map Run.ents)) ++ [t.mem] := by unfold iU; rw [hL]; simp
    have hlv : vV t.levels = true ↔ qR L0 0 = true /\ qR L1 1 = true /\ qR L2 2 = true := by
      unfold vV; rw [jZ, hL]
      constructor
      . intro h; exact ⟨h 0 oS, h 1 oS, h 2 oS⟩
      rintro ⟨a, b, c⟩ i hi
      match i, hi with
      | 0, _ => exact a
      | 1, _ => exact b
      | 2, _ => exact c
    unfold bR eH qP vB; rw [v0, v1, v2, hp, hlay]
    constructor
    . intro h; split at h
      . cases h
      rename_i hb
      split at h
      . cases h
      rename_i hb2
      split at h
      . cases h
      rename_i hb3
      have hb3' := hlv.1 (by simpa using hb3)
      obtain ⟨l0, l1, l2⟩ := hb3'
      obtain ⟨a0, b0, -⟩ := (gH _ _).1 l0
      obtain ⟨a1, b1, c1⟩ := (gH _ _).1 l1
      obtain ⟨a2, b2, c2⟩ := (gH _ _).1 l2
      obtain ⟨n1, n2⟩ := (wA _ _ _).1 h
      have hw : ∀ x, x ∈ (L2.map Run.ents ++ (L1.map Run.ents ++ L0.map Run.ents)) ++ [t.mem] -> mC x t.seq = true := fun x hx => (sL _ _).2 fun e he => (n1 x hx e he).1
      have hwm := hw t.mem oS
      have w0 : ∀ r ∈ L0, mC r.ents t.seq = true := fun r hr => hw _ (by simp; exact .inr (.inr (.inl ⟨r, hr, rfl⟩)))
      have w1 : ∀ r ∈ L1, mC r.ents t.seq = true := fun r hr => hw _ (by simp; exact .inr (.inl ⟨r, hr, rfl⟩))
      have w2 : ∀ r ∈ L2, mC r.ents t.seq = true := fun r hr => hw _ (by simp; exact .inl ⟨r, hr, rfl⟩)
      rw [if_neg (by simp only [hwm]; simp at hb hb2 ⊢; simp [hb2, h3]; omega)]
      simp only [C8]
      exact ⟨⟨⟨(iP _ _ _ _).2 ⟨a0, fun r hr => ⟨b0 r hr, w0 r hr⟩, fun h => (by cases h)⟩, (iP _ _ _ _).2 ⟨a1, fun r hr => ⟨b1 r hr, w1 r hr⟩, fun _ => c1 og⟩⟩, (iP _ _ _ _).2 ⟨a2, fun r hr => ⟨b2 r hr, w2 r hr⟩, fun _ => c2 og⟩⟩, (aRy _).2 ((aZp L0 L1 L2 t.mem (c1 og) b1 (c2 og) b2).2 n2)⟩
    intro h; split at h
    . cases h
    rename_i hb
    simp only [C8] at h
    obtain ⟨⟨⟨l0, l1⟩, l2⟩, ha⟩ := h
    obtain ⟨a0, b0, -⟩ := (iP _ _ _ _).1 l0
    obtain ⟨a1, b1, c1⟩ := (iP _ _ _ _).1 l1
    obtain ⟨a2, b2, c2⟩ := (iP _ _ _ _).1 l2
    simp at hb
    have hm : cV t.mem = true := by simp [hb]
    have hs : nP t.snaps t.seq = true := by simp [hb]
    have hwm : mC t.mem t.seq = true := by simp [hb]
    rw [if_neg (by simp; omega), if_neg (by simp [hm, hs]), if_neg (by
      rw [Bool.not_eq_false]
      exact hlv.2 ⟨(gH _ _).2 ⟨a0, fun r hr => (b0 r hr).1, fun h => by omega⟩, (gH _ _).2 ⟨a1, fun r hr => (b1 r hr).1, fun _ => c1 rfl⟩, (gH _ _).2 ⟨a2, fun r hr => (b2 r hr).1, fun _ => c2 rfl⟩⟩)]
    refine (wA _ _ _).2 ⟨fun x hx e he => ?_, (aZp L0 L1 L2 t.mem (c1 rfl) (fun r hr => (b1 r hr).1) (c2 rfl) (fun r hr => (b2 r hr).1)).1 ((aRy _).1 ha)⟩
    rw [bJs]
    simp only [B4, B3, B6] at hx
    rcases hx with (⟨r, hr, rfl⟩ | ⟨r, hr, rfl⟩ | ⟨r, hr, rfl⟩) | rfl
    . exact ⟨(sL _ _).1 (b2 r hr).2 e he, bCp (b2 r hr).1 he⟩
    . exact ⟨(sL _ _).1 (b1 r hr).2 e he, bCp (b1 r hr).1 he⟩
    . exact ⟨(sL _ _).1 (b0 r hr).2 e he, bCp (b0 r hr).1 he⟩
    exact ⟨(sL _ _).1 hwm e he, bNk hm he⟩
  . have h1 : bR t = false := by
      unfold bR qP; rw [if_pos]; simp; omega
    have h2 : eH t = false := by
      unfold eH vB; rw [if_pos]; simp; omega
    rw [h1, h2]
end
section
variable {n i f : Nat} {x y : Entry} {r s : List Entry} {G : Prop}
def bGy (x y : ByteArray) : aBy y x = - aBy x y := by
  unfold aBy
  by_cases h : Op.bytesLess x.toList y.toList = true
  . rw [if_pos h, if_pos h, yA h]; rfl
  rw [if_neg h, if_neg h]; split <;> rfl
def bHg (x y : Int) : aJa y x = - aJa x y := by
  unfold aJa; repeat' split
  all_goals omega
def aIf (a b : Entry) : jS b a = - jS a b := by
  unfold jS; rw [bGy a.key b.key, bHg b.seq a.seq]
  repeat' split
  all_goals omega
def aWs {a b : List Entry × Nat} (ha : a.1 = x :: r) (hb : b.1 = y :: s) : Plain.hless entLt a b = (decide (jS x y < 0) || (!decide (0 < jS x y) && decide (a.2 < b.2))) := by
  unfold Plain.hless; rw [ha, hb]
  simp only
  rw [<- pP x y, <- pP y x, aIf x y]
  congr 3
  exact decide_eq_decide.2 ⟨fun h => by omega, fun h => by omega⟩
def bBn {a b : List Entry × Nat} (ha : a.1 = x :: r) (hb : b.1 = y :: s) (h : jS x y ≠ 0) : Plain.hless entLt a b = decide (jS x y < 0) := by
  rw [aWs ha hb]
  by_cases h1 : jS x y < 0
  . simp [h1]
  have : 0 < jS x y := by omega
  simp [h1, this]
def bCc {a b : List Entry × Nat} (ha : a.1 = x :: r) (hb : b.1 = y :: s) (h : jS x y = 0) : Plain.hless entLt a b = decide ((a.2 : Int) < (b.2 : Int)) := by
  rw [aWs ha hb, h]
  simp
def hdA (p : List Entry × Nat) : AV := .agg [.sl 5 (p.1.map enA), .raw (.int .i64 (p.2 : Int))]
def aDz (U : Nat -> Prop) (p : List Entry × Nat) : (hdA p).bel U := ⟨enB _ _, trivial, trivial⟩
def bNb (σ : Nat -> Nat) (p : List Entry × Nat) : (hdA p).ren σ = hdA p := AV.ren_closed σ (aDz _ p)
attribute [go_sem] aDz bNb
abbrev aI (g : Nat -> List Entry × Nat) (n : Nat) : AObj := .row 165 2 ((List.range n).map fun k => hdA (g k))
abbrev hcE : AObj := .cells 161 [.ref 1]
def Aw {R G : Prop} (h : R -> G := by intro k; simp only [go_sem, AObj.ren, AV.ren, Nat.add_zero, A0, Nat.sub_self, hcE, aA, aI, sg, shift]; exact k) : R -> G := h
def Am (h : G := by simp only [go_sem, AObj.bel, hcE, aI]) : G := h
def Al (h : G := by simp only [go_sem, hcE, aI]) : G := h
def aEx (U : Nat -> Prop) (g : Nat -> List Entry × Nat) (n : Nat) : aE U ((List.range n).map fun k => hdA (g k)) := by
  rw [bLi]; intro x hx; obtain ⟨k, _, rfl⟩ := B3.1 hx; exact aDz U _
def bAh (s : Nat -> Nat) (g : Nat -> List Entry × Nat) (n : Nat) : aA s ((List.range n).map fun k => hdA (g k)) = (List.range n).map fun k => hdA (g k) := dK s (aEx _ g n)
attribute [go_sem] aEx bAh
def bAn : gV P 167 "Len" = some (274, false) := kr
def bDd : gV P 167 "Less" = some (275, false) := kr
def bEi : gV P 167 "Swap" = some (276, false) := kr
def bQb : gV P 167 "Pop" = some (277, true) := kr
def pH : tC P 167 = some 161 := kr
def pH' : (tC P 167).isSome = true := by rw [pH]; rfl
def uH : (P.underlying 167).isSome = true := kr
def vH : vI P 161 = some (1, false) := kr
def slH : cN P 161 = some (165, some (2, 32)) := kr
def bRg : P.concrete 165 = true := kr
def bPx : P.concrete 167 = true := kr
noncomputable def bQj : Array Field := match P.underlying 165 with
  | some (.struct fs) => fs
  | _ => #[]
def bRl : P.underlying 165 = some (.struct bQj) := kr
def uPH : P.underlying 167 = some (.pointer 161) := kr
attribute [go_sem] bRg bPx uPH
def bRh {H : Heap} {nx : Nat} {t e : TypeId} {cs xs : List AV} {sz : Nat} (h0 : Abs.get H 0 = some (.cells t (aA (shift (sg []) 2 nx 0) cs))) (h1 : Abs.get H 1 = some (.row e sz xs)) (hx : aA (shift (sg []) 2 nx 0) xs = xs) :
    ∀ m ob, Abs.get ([(0, AObj.cells t cs), (1, AObj.row e sz xs)].map fun p => (shift (sg []) 2 nx 0 p.1, p.2.ren (shift (sg []) 2 nx 0))) m = some ob -> m ∈ ([(0, AObj.cells t cs), (1, AObj.row e sz xs)].map fun p => sg [] p.1) /\ Abs.get H m = some ob := by
  intro m ob h
  simp only [List.map_cons, List.map_nil, AObj.ren, hx] at h
  have e0 : shift (sg []) 2 nx 0 0 = 0 := rfl
  have e1 : shift (sg []) 2 nx 0 1 = 1 := rfl
  rw [e0, e1] at h
  simp only [Abs.get] at h
  split at h
  . rename_i h2; subst h2
    cases h
    exact ⟨by simp [sg, Abs.get], h0⟩
  split at h
  . rename_i h2; subst h2
    cases h
    exact ⟨by simp [sg, Abs.get], h1⟩
  cases h
def NE (g : Nat -> List Entry × Nat) (n : Nat) : Prop := ∀ k, k < n -> (g k).1 ≠ []
def NE.swp {g : Nat -> List Entry × Nat} {n i j : Nat} (h : NE g n) (hi : i < n) (hj : j < n) : NE (Plain.swpA g i j) n := fun k hk => by
  unfold Plain.swpA; split
  . exact h j hj
  split
  . exact h i hi
  exact h k hk
def bDn (g : Nat -> List Entry × Nat) (n : Nat) {p q : Nat} (hp : p < n) (hq : q < n) : (((List.range n).map fun k => hdA (g k)).set p (hdA (g q))).set q (hdA (g p)) = (List.range n).map fun k => hdA (Plain.swpA g p q k) := by
  refine List.ext_getElem? fun i => ?_
  rw [G3, G3, B5, B5]; simp only [D3, A2, E6]
  by_cases hi : i < n
  . rw [C9 hi]; unfold Plain.swpA; simp only [Option.map_some]
    by_cases h1 : i = q
    . subst h1; rw [if_pos rfl, if_pos hi]
      by_cases h2 : i = p
      . subst h2; simp
      rw [if_neg h2, if_pos rfl]
    rw [if_neg (fun e => h1 e.symm)]
    by_cases h2 : i = p
    . subst h2; rw [if_pos rfl, if_pos rfl, if_pos hp]
    rw [if_neg (fun e => h2 e.symm), if_neg h2, if_neg h1]
  rw [D6 (by simp; omega)]; rw [if_neg og, if_neg og]; rfl
def aSa {g : Nat -> List Entry × Nat} (h : ¬ (2 * i + 1 < n /\ Plain.hless entLt (g (Plain.kid (Plain.hless entLt) g n i)) (g i) = true)) : Plain.downGo (Plain.hless entLt) n f g i = (g, i) := by
  cases f with
  | zero => rfl
  | succ f =>
    unfold Plain.downGo; split
    . rename_i h1
      rw [if_neg fun h2 => h ⟨h1, h2⟩]
    rfl
def bGg {g : Nat -> List Entry × Nat} (h1 : 2 * i + 1 < n) (h2 : Plain.hless entLt (g (Plain.kid (Plain.hless entLt) g n i)) (g i) = true) : Plain.downGo (Plain.hless entLt) n (f + 1) g i = Plain.downGo (Plain.hless entLt) n f (Plain.swpA g i (Plain.kid (Plain.hless entLt) g n i)) (Plain.kid (Plain.hless entLt) g n i) := by
  rw [Plain.downGo, if_pos h1, if_pos h2]
def bBi (g : Nat -> List Entry × Nat) (h1 : 2 * i + 1 < n) : i < Plain.kid (Plain.hless entLt) g n i /\ Plain.kid (Plain.hless entLt) g n i < n := by
  unfold Plain.kid; split <;> omega
def aDu {n : Nat} : ∀ (f : Nat) (g : Nat -> List Entry × Nat) (i : Nat), NE g n -> NE (Plain.downGo (Plain.hless entLt) n f g i).1 n
  | 0, g, i, h => h
  | f + 1, g, i, h => by
    unfold Plain.downGo; split
    . rename_i h1
      have := bBi g h1
      split
      . exact aDu f _ _ (h.swp og og)
      exact h
    exact h
def zW {n : Nat} : ∀ (f : Nat) (g : Nat -> List Entry × Nat) (i : Nat), Plain.SameA n g (Plain.downGo (Plain.hless entLt) n f g i).1
  | 0, g, i => .refl _ _
  | f + 1, g, i => by
    unfold Plain.downGo; split
    . rename_i h1
      have := bBi g h1
      split
      . exact (Plain.SameA.swp g og og).trans (zW f _ _)
      exact .refl _ _
    exact .refl _ _
def bDg {n : Nat} : ∀ (i : Nat) (g : Nat -> List Entry × Nat), NE g n -> NE (Plain.initGo (Plain.hless entLt) n i g) n
  | 0, g, h => h
  | i + 1, g, h => bDg i _ (aDu _ _ _ h)
def aSh {n : Nat} : ∀ (i : Nat) (g : Nat -> List Entry × Nat), Plain.SameA n g (Plain.initGo (Plain.hless entLt) n i g)
  | 0, g => .refl _ _
  | i + 1, g => (zW _ _ _).trans (aSh i _)
def bDp (g : Nat -> List Entry × Nat) (i : Nat) : Plain.swpA g i i = g := by
  funext k
  unfold Plain.swpA; split
  . rename_i h; rw [h]
  rfl
def bHo {g : Nat -> List Entry × Nat} : Plain.initGo (Plain.hless entLt) n (i + 1) g = Plain.initGo (Plain.hless entLt) n i (Plain.downGo (Plain.hless entLt) n n g i).1 := rfl
def pA (g : Nat -> List Entry × Nat) (N : Nat) (hN : N <= 1048576)  : aH P 274 [.ref 1] [(0, hcE), (1, aI g N)] 2 (Ni (N : Int)) [(0, hcE), (1, aI (g) N)] 2 := by
 refine (gq 5 [.tmp 2] func274) ?_
 simp only [aI, hcE]
 refine (aj) ?_
 refine sr rfl fun k2 => ?_
 simp only [go_sem, A2, E6]
 refine k2 (wR ?_)
 refine ⟨[], ?_⟩; exact jz
def tP (g : Nat -> List Entry × Nat) (N : Nat) (hN : N <= 1048576) (i j : Nat) (hi : i < N) (hj : j < N) (xi : (g i).1 ≠ []) (xj : (g j).1 ≠ []) : aH P 275 [.ref 1, Ni (i : Int), Ni (j : Int)] [(0, hcE), (1, aI g N)] 2 (Nb (Plain.hless entLt (g i) (g j))) [(0, hcE), (1, aI (g) N)] 2 := by
 refine (gq 36 [.tmp 6] func275) ?_
 simp only [aI, hcE]
 obtain ⟨x, r, hx⟩ := G1 xi
 obtain ⟨y, s, hy⟩ := G1 xj
 have hr1 : (List.range N)[i]? = some (i) := C9 og
 have hr2 : (List.range N)[j]? = some (j) := C9 og
 refine (aj) ?_
 refine sd mixed rfl fun k2 => ?_
 simp only [go_sem, hr1, hr2, hdA, hx, hy, A2, E6]
 refine (jr) ((jy) (k2 (sq fun k3 => sd mixed rfl fun k4 => ?_)))
 simp only [go_sem, enA, Int.toNat_zero, List.getElem?_cons_zero, List.map_cons, B7]
 refine (jr) ?_
 refine tp rfl rfl rfl ⟨func141, rfl, rfl⟩ (gL x y) Ah (by exact ⟨eS _ _, eS _ _, trivial⟩) ?_
 refine (ja) ((jr) ((jy) (k4 ((aj) ((cdA) ?_ ?_))))) <;> intro hc1
 . refine (aj) (wR ?_)
   rw [bBn hx hy (by simpa using hc1)]; refine ⟨[], ?_⟩
   simp only [go_sem, AObj.bel, AObj.ren, AV.ren, aA, sg, aI, hcE] <;> first | (simp; done) | (simp [hdA]; done)
 refine wk (k3 ((aj) (wR ?_)))
 rw [bCc hx hy (by simpa using hc1)]; refine ⟨[], ?_⟩
 simp only [go_sem, AObj.bel, AObj.ren, AV.ren, aA, sg, aI, hcE] <;> first | (simp; done) | (simp [hdA]; done)
def bFp (g : Nat -> List Entry × Nat) (N : Nat) (hN : N <= 1048576) (i : Nat) (hi : i < N) : aH P 276 [.ref 1, Ni (i : Int), Ni (i : Int)] [(0, hcE), (1, aI g N)] 2 (.tup []) [(0, hcE), (1, aI (g) N)] 2 := by
 refine (gq 20 [] func276) ?_
 simp only [aI, hcE]
 have hr1 : (List.range N)[i]? = some (i) := C9 og
 have hrow : (((List.range N).map fun k => (.agg [.sl 5 ((g k).1.map enA), .raw (.int .i64 (((g k).2 : Nat) : Int))])).set i (.agg [.sl 5 ((g i).1.map enA), .raw (.int .i64 (((g i).2 : Nat) : Int))])).set i (.agg [.sl 5 ((g i).1.map enA), .raw (.int .i64 (((g i).2 : Nat) : Int))]) = (List.range N).map fun k => hdA (g k) := by
   have h9 := bDn g N hi hi
   rw [bDp] at h9; exact h9
 have hs1 : ∀ (y : AV), (((List.range N).map fun k => (.agg [.sl 5 ((g k).1.map enA), .raw (.int .i64 (((g k).2 : Nat) : Int))])).set i y)[i]? = some y := fun y => by rw [List.getElem?_set_self]; simpa using hi
 refine jF mixed rfl ?_
 simp only [go_sem, hr1, hs1, hdA, D3, A2, E6]
 refine (jr) ?_
 rw [hrow]
 refine (jy) ?_
 refine ⟨[], ?_⟩
 simp only [go_sem, AObj.bel, AObj.ren, AV.ren, aA, sg, aI, hcE] <;> simp
 exact ⟨fun _ _ => rfl, aEx _ g _⟩
def tA (g : Nat -> List Entry × Nat) (N : Nat) (hN : N <= 1048576) (i j : Nat) (hi : i < N) (hj : j < N) (hij : i ≠ j) : aH P 276 [.ref 1, Ni (i : Int), Ni (j : Int)] [(0, hcE), (1, aI g N)] 2 (.tup []) [(0, hcE), (1, aI (Plain.swpA g i j) N)] 2 := by
 refine (gq 20 [] func276) ?_
 simp only [aI, hcE]
 have hr1 : (List.range N)[i]? = some (i) := C9 og
 have hr2 : (List.range N)[j]? = some (j) := C9 og
 have hrow : (((List.range N).map fun k => (.agg [.sl 5 ((g k).1.map enA), .raw (.int .i64 (((g k).2 : Nat) : Int))])).set i (.agg [.sl 5 ((g j).1.map enA), .raw (.int .i64 (((g j).2 : Nat) : Int))])).set j (.agg [.sl 5 ((g i).1.map enA), .raw (.int .i64 (((g i).2 : Nat) : Int))]) = (List.range N).map fun k => hdA (Plain.swpA g i j k) := bDn g N hi hj
 have hs1 : ∀ (y : AV), (((List.range N).map fun k => (.agg [.sl 5 ((g k).1.map enA), .raw (.int .i64 (((g k).2 : Nat) : Int))])).set i y)[j]? = ((List.range N).map fun k => (.agg [.sl 5 ((g k).1.map enA), .raw (.int .i64 (((g k).2 : Nat) : Int))]))[j]? := fun y => aMf og y
 refine jF mixed rfl ?_
 simp only [go_sem, hr1, hr2, hs1, hdA, D3, A2, E6]
 refine (jr) ?_
 rw [hrow]
 refine (jy) ?_
 refine ⟨[], ?_⟩
 simp only [go_sem, AObj.bel, AObj.ren, AV.ren, aA, sg, aI, hcE] <;> simp
 exact ⟨fun _ _ => rfl, aEx _ (Plain.swpA g i j) _⟩
def aGj (g : Nat -> List Entry × Nat) (N : Nat) (hN : N <= 1048576) (hp : 0 < N) : aH P 277 [.ptr 0 0] [(0, hcE), (1, aI g N)] 2 (.iface 165 (hdA (g (N - 1)))) [(0, .cells 161 [.ref 2]), (1, .dead), (2, aI g (N - 1))] 3 := by
 refine (gq 23 [.tmp 2] func277) ?_
 simp only [aI, hcE]
 have hr1 : (List.range N)[N - 1]? = some (N - 1) := C9 og
 have hw := wr ((N : Int) - 1) (((N - 1 : Nat) : Int)) og
 have hrow : ((List.range N).map fun k => (.agg [.sl 5 ((g k).1.map enA), .raw (.int .i64 (((g k).2 : Nat) : Int))])).take (((N - 1 : Nat) : Int).toNat) = (List.range (N - 1)).map fun k => hdA (g k) := by rw [Int.toNat_natCast, <- D0, List.take_range, Nat.min_eq_left og]; rfl
 have hrow2 : ((List.range N).map fun k => (.agg [.sl 5 ((g k).1.map enA), .raw (.int .i64 (((g k).2 : Nat) : Int))])).take (N - 1) = (List.range (N - 1)).map fun k => hdA (g k) := hrow
 refine (aj) ((aj) ?_)
 refine sr rfl fun k3 => ?_
 simp only [go_sem, hw, hr1, hdA, A2, E6]
 refine (jr) (k3 (sr rfl fun k4 => ?_))
 simp only [go_sem, hw, hrow, hrow2, A2, E6]
 refine (jr) ?_
 refine vC (fun hN => aQm (h := ((N - 1 : Nat) : Int)) rfl rfl hN slH rfl rfl rfl og oS) (.inr dg) ?_
 simp only [go_sem, hrow, hrow2, hw, hrow, hrow2, A2, E6]
 refine (jr) (k4 (sr rfl fun k5 => ?_))
 simp only [go_sem, bRl]
 refine k5 (wR ?_)
 refine ⟨[(2, 3)], ?_⟩
 simp only [go_sem, AObj.bel, AObj.ren, AV.ren, aA, sg, aI, hcE] <;> first | (simp; done) | (simp [hdA]; done)
def iS (g : Nat -> List Entry × Nat) (N : Nat) (hN : N <= 1048576) (i n : Nat) (hne : NE g n) (hi : i <= 1048576) (hn : n <= N) : aH P 191 [.iface 167 (.ptr 0 0), Ni (i : Int), Ni (n : Int)] [(0, hcE), (1, aI g N)] 2 (Nb (decide ((i : Int) < ((Plain.downGo (Plain.hless entLt) n n g i).2 : Int)))) [(0, hcE), (1, aI ((Plain.downGo (Plain.hless entLt) n n g i).1) N)] 2 := by
 refine (gq 48 [.tmp 6] func191) ?_
 simp only [aI, hcE]
 refine (aj) ((aj) ?_)
 refine sq fun k3 => wb ?_
 refine wl (α := Nat × (Nat -> List Entry × Nat) × Nat) (fun x => NE x.2.1 n /\ x.2.2 <= 1048576 /\ n <= x.1 + x.2.2 /\ Plain.downGo (Plain.hless entLt) n x.1 x.2.1 x.2.2 = Plain.downGo (Plain.hless entLt) n n g i) (fun x => n - x.2.2) (fun x => ([(0, .iface 167 (.ptr 0 0)), (1, Ni (i : Int)), (2, Ni (n : Int)), (7, Ni (x.2.2 : Int))], [(0, hcE), (1, aI x.2.1 N)])) 2 (n, g, i) ⟨hne, hi, Nat.le_add_right _ _, rfl⟩ [] ?_ ?_
 . simp only [go_sem, AObj.bel, AObj.ren, AV.ren, aA, sg, Int.natCast_zero, aI, hcE] <;> first | (simp; done) | (simp [hdA]; done)
 rintro ⟨f, τ, j⟩ ⟨hne2, hj, hf, hgo⟩
 simp only at hne2 hj hf hgo ⊢
 have hw2 := wr (2 * (j : Int)) (((2 * j : Nat) : Int)) og
 have hw3 := wr (((2 * j : Nat) : Int) + 1) (((2 * j + 1 : Nat) : Int)) og
 have hw4 := wr (((2 * j + 1 : Nat) : Int) + 1) (((2 * j + 2 : Nat) : Int)) og
 refine wb (sr rfl fun k4 => (Ar hw2 hw3) (k4 (sq fun k5 => (aj) ((cdA) ?_ ?_)))) <;> intro hc1
 . have hge : ¬ 2 * j + 1 < n := by simp at hc1; omega
   have hfin : Plain.downGo (Plain.hless entLt) n f τ j = (τ, j) := aSa fun h => hge h.1
   refine we ((jt) (k3 ((aj) (wR ?_))))
   rw [<- hgo, hfin]; refine ⟨[], ?_⟩
   simp only [go_sem, AObj.bel, AObj.ren, AV.ren, aA, sg, aI, hcE] <;> first | (simp; done) | (simp [hdA]; done)
 have hlt : 2 * j + 1 < n := by simp at hc1; omega
 obtain ⟨hk1, hk2⟩ := bBi τ hlt
 refine wk (k5 ((aj) ?_))
 refine vW (α := Unit) (fun x => True) (fun x => ([(0, .iface 167 (.ptr 0 0)), (1, Ni (i : Int)), (2, Ni (n : Int)), (7, Ni (j : Int)), (9, Ni (Plain.kid (Plain.hless entLt) τ n j : Int))], [(0, hcE), (1, aI τ N)])) 2 ?_ ?_
 . refine sr rfl fun k10 => (Aa hw4) (k10 (sr rfl fun k11 => (ja) ?_))
   refine vig [] (xs := [Ni ((2 * j + 2 : Nat) : Int), Ni ((2 * j + 1 : Nat) : Int)]) rfl rfl rfl rfl rfl rfl (fun _ => rfl) bDd pH vH ⟨func275, rfl, rfl⟩ (fun hg => tP τ N hN (2 * j + 2) (2 * j + 1) (by simp at hg; omega) og (hne2 _ (by simp at hg; omega)) (hne2 _ og)) (by simp [sg, Abs.get]) rfl rfl oG (fun hg => rfl) rfl oG (mP (.inl rfl) Al Al Am Am oS ⟨rfl, rfl⟩ dg) (bRh rfl rfl (bAh _ _ _)) trivial ?_
   refine (Aw) (k11 ((cdA) ?_ ?_)) <;> intro hc2
   . have q1 : Plain.kid (Plain.hless entLt) τ n j = 2 * j + 2 := by unfold Plain.kid; rw [if_pos]; simp at hc2; exact ⟨og, hc2.2⟩
     refine wg rfl ((ja) ?_)
     try simp only [aCx]
     refine ⟨(), trivial, [], ?_⟩
     simp only [go_sem, AObj.bel, AObj.ren, AV.ren, aA, sg, Int.natCast_zero, aI, hcE] <;> first | (simp [q1]; done) | (simp [hdA, q1]; done)
   have q1 : Plain.kid (Plain.hless entLt) τ n j = 2 * j + 1 := by unfold Plain.kid; rw [if_neg]; intro h; simp at hc2; have := hc2 og; rw [this] at h; cases h.2
   refine wk ?_; try simp only [aCx]
   refine ⟨(), trivial, [], ?_⟩
   simp only [go_sem, AObj.bel, AObj.ren, AV.ren, aA, sg, Int.natCast_zero, aI, hcE] <;> first | (simp [q1]; done) | (simp [hdA, q1]; done)
 rintro ⟨⟩ -
 refine sq fun k12 => sr rfl fun k13 => (ja) ?_
 refine vi [] 0 (xs := [Ni (Plain.kid (Plain.hless entLt) τ n j : Int), Ni (j : Int)]) rfl rfl rfl rfl bDd pH vH ⟨func275, rfl, rfl⟩ (tP τ N hN (Plain.kid (Plain.hless entLt) τ n j) j og og (hne2 _ og) (hne2 _ og)) rfl (by simp [sg, Abs.get]) rfl rfl rfl rfl oG (mP (.inl rfl) Al Al Am Am oS ⟨rfl, rfl⟩ dg) (.inl rfl) ?_
 refine (Aw) (k13 ((cdA) ?_ ?_)) <;> intro hc3
 . have hfin : Plain.downGo (Plain.hless entLt) n f τ j = (τ, j) := aSa fun h => by rw [h.2] at hc3; simp at hc3
   refine we ((jt) (k3 ((aj) (wR ?_))))
   rw [<- hgo, hfin]; refine ⟨[], ?_⟩
   simp only [go_sem, AObj.bel, AObj.ren, AV.ren, aA, sg, aI, hcE] <;> first | (simp; done) | (simp [hdA]; done)
 have hless : Plain.hless entLt (τ (Plain.kid (Plain.hless entLt) τ n j)) (τ j) = true := by simpa using hc3
 obtain ⟨f', rfl⟩ : ∃ f', f = f' + 1 := ⟨f - 1, og⟩
 refine wk (k12 (sr rfl fun k15 => (ja) ?_))
 refine vi [] 0 (xs := [Ni (j : Int), Ni (Plain.kid (Plain.hless entLt) τ n j : Int)]) rfl rfl rfl rfl bEi pH vH ⟨func276, rfl, rfl⟩ (tA τ N hN j (Plain.kid (Plain.hless entLt) τ n j) og og og) rfl (by simp [sg, Abs.get]) rfl rfl rfl rfl oG (mP (.inl rfl) Al Al Am Am oS ⟨rfl, rfl⟩ dg) (.inl rfl) ?_
 refine (Aw) (k15 (wg rfl ((ja) ((jt) ((jt) ?_)))))
 refine ⟨(f', Plain.swpA τ j (Plain.kid (Plain.hless entLt) τ n j), Plain.kid (Plain.hless entLt) τ n j), ⟨hne2.swp og og, by simp only; omega, by simp only; omega, by simp only; rw [bGg hlt hless] at hgo; exact hgo⟩, by simp only; omega, [], ?_⟩
 simp only [go_sem, AObj.bel, AObj.ren, AV.ren, aA, sg, Int.natCast_zero, aI, hcE] <;> first | (simp; done) | (simp [hdA]; done)
def aAx (g : Nat -> List Entry × Nat) (N : Nat) (hN : N <= 1048576)  : aH P 192 [.iface 167 (.ptr 0 0), Ni (0 : Int)] [(0, hcE), (1, aI g N)] 2 (.tup []) [(0, hcE), (1, aI (g) N)] 2 := by
 refine (gq 23 [] func192) ?_
 simp only [aI, hcE]; refine wb ?_
 refine wl (α := Nat) (fun x => True) (fun x => 0) (fun x => ([(0, .iface 167 (.ptr 0 0)), (1, Ni (0 : Int))], [(0, hcE), (1, aI g N)])) 2 0 trivial [] ?_ ?_
 . simp only [go_sem, AObj.bel, AObj.ren, AV.ren, aA, sg, Int.natCast_zero, aI, hcE] <;> first | (simp; done) | (simp [hdA]; done)
 rintro u -
 refine wb ?_
 have hq : IntKind.i64.wrap ((IntKind.i64.wrap (0 - 1)).tdiv 2) = 0 := by decide
 refine sr rfl fun k1 => (Aa hq) ((jr) (k1 (sq fun k2 => sr rfl fun k3 => (ja) ?_)))
 refine vC (fun hN => bD (rt := []) (rd := []) (val := Nb false) hN rfl rfl rfl rfl trivial (fun hg => absurd hg oS) (by trivial)) (.inl rfl) ?_
 refine (ja) (k3 ?_)
 refine cd rfl (fun hc1 => ?_) (fun hc => by simp at hc)
 refine we ((jt) ?_)
 refine ⟨[], ?_⟩; exact jz
def xU (g : Nat -> List Entry × Nat) (N : Nat) (hN : N <= 1048576) (hne : NE g N) : aH P 142 [.iface 167 (.ptr 0 0)] [(0, hcE), (1, aI g N)] 2 (.tup []) [(0, hcE), (1, aI (Plain.initGo (Plain.hless entLt) N (N / 2) g) N)] 2 := by
 refine (gq 17 [] func142) ?_
 simp only [aI, hcE]
 refine sr rfl fun k1 => (ja) ?_
 refine vi [] 0 (xs := []) rfl rfl rfl rfl bAn pH vH ⟨func274, rfl, rfl⟩ (pA g N hN) rfl (by simp [sg, Abs.get]) rfl rfl rfl rfl oG (mP (.inl rfl) Al Al Am Am oS ⟨rfl, rfl⟩ dg) (.inl rfl) ?_
 refine (Aw) (k1 ?_)
 have hq : IntKind.i64.wrap (Int.tdiv (N : Int) 2) = ((N / 2 : Nat) : Int) := by rw [H9 og, IntKind.wrap_i64]; omega
 have hw1 := wr (((N / 2 : Nat) : Int) - 1) (((N / 2 : Nat) : Int) - 1) og
 refine sr rfl fun k2 => (Ar hq hw1) ((jr) (k2 (wb ?_)))
 refine wl (α := (Nat -> List Entry × Nat) × Nat) (fun x => NE x.1 N /\ x.2 <= 1048576 /\ Plain.initGo (Plain.hless entLt) N x.2 x.1 = Plain.initGo (Plain.hless entLt) N (N / 2) g) (fun x => x.2) (fun x => ([(0, .iface 167 (.ptr 0 0)), (2, Ni (N : Int)), (3, Ni ((x.2 : Int) - 1))], [(0, hcE), (1, aI x.1 N)])) 2 (g, N / 2) ⟨hne, by simp only; omega, rfl⟩ [] ?_ ?_
 . simp only [go_sem, AObj.bel, AObj.ren, AV.ren, aA, sg, Int.natCast_zero, aI, hcE] <;> first | (simp; done) | (simp [hdA]; done)
 rintro ⟨τ, j⟩ ⟨hne2, hj, hgo⟩
 simp only at hne2 hj hgo ⊢
 refine sq fun k3 => (aj) ((cdB) ?_ ?_) <;> intro hc1
 . have hj0 : j = 0 := by simp at hc1; omega
   subst hj0
   refine we ((jt) ?_)
   rw [<- hgo]; rw [Plain.initGo]; refine ⟨[], ?_⟩
   simp only [go_sem, AObj.bel, AObj.ren, AV.ren, aA, sg, aI, hcE] <;> first | (simp; done) | (simp [hdA]; done)
 obtain ⟨j', rfl⟩ : ∃ j', j = j' + 1 := ⟨j - 1, by simp at hc1; omega⟩
 have hjj : ((j' + 1 : Nat) : Int) - 1 = (j' : Int) := by omega
 rw [hjj]
 have hw3 := wr ((j' : Int) - 1) ((j' : Int) - 1) og
 refine wk (k3 (sq fun k5 => wb (wg rfl ((ja) ?_))))
 refine vg [] 0 rfl rfl rfl ⟨func191, rfl, rfl⟩ (iS τ N hN j' N hne2 og (A0 _)) rfl oG oG (mP (.inl rfl) Al Al Am Am oS ⟨rfl, rfl⟩ dg) (.inl rfl) ?_
 refine (Aw) ((jt) (k5 (wg rfl ((Aa hw3) ((jt) ?_)))))
 refine ⟨((Plain.downGo (Plain.hless entLt) N N τ j').1, j'), ⟨aDu _ _ _ hne2, by simp only; omega, by simp only; rw [bHo] at hgo; exact hgo⟩, by simp only; omega, [], ?_⟩
 simp only [go_sem, AObj.bel, AObj.ren, AV.ren, aA, sg, Int.natCast_zero, aI, hcE] <;> first | (simp; done) | (simp [hdA]; done)
end
section
variable {e : Entry} {r all l : List Entry} {n f m k : Nat}
def bPy (g : Nat -> List Entry × Nat) (N : Nat) (hN : N <= 1048576) (i j : Nat) (hi : i < N) (hj : j < N) : aH P 276 [.ref 1, Ni (i : Int), Ni (j : Int)] [(0, hcE), (1, aI g N)] 2 (.tup []) [(0, hcE), (1, aI (Plain.swpA g i j) N)] 2 := by
  by_cases h : i = j
  . subst h; rw [bDp]; exact bFp g N hN i hi
  exact tA g N hN i j hi hj h
open Go.Plain (mergeGo mergeAll pZ dI dV hless)
def iL (lists : List (List Entry)) (k : Nat) : List (List Entry × Nat) := (pZ (lists.take k)).map fun p => (dJ p.1, p.2)
def aFo {lists : List (List Entry)} (h : lists[k]? = some l) : iL lists (k + 1) = iL lists k ++ (if l = [] then [] else [(dJ l, k)]) := by
  have hk := (A9.1 h).1
  unfold iL pZ; rw [E7, h, Option.toList_some, List.zipIdx_append, List.filter_append, E4]
  congr 1
  rw [A7, Nat.min_eq_left og]
  cases l <;> simp
def aYg {lists : List (List Entry)} : ∀ k, (iL lists k).length <= k := fun k => by
  unfold iL pZ; rw [A2]
  refine G6 (List.length_filter_le _ _) ?_
  rw [List.length_zipIdx, A7]; omega
def gOf (hs : List (List Entry × Nat)) : Nat -> List Entry × Nat := fun k => hs.getD k ([], 0)
def bPk (hs : List (List Entry × Nat)) : hs.map hdA = (List.range hs.length).map fun k => hdA (gOf hs k) := by
  refine List.ext_getElem? fun i => ?_
  rw [B5, B5]
  by_cases h : i < hs.length
  . rw [C9 h, A1 h]
    simp [gOf, F7, A1 h]
  rw [D6 og, D6 (by simp; omega)]; rfl
def aSj (U : Nat -> Prop) (ls : List (List Entry × Nat)) : aE U (ls.map hdA) := pY (f := hdA) (fun _ _ => aDz _ _) U ls
def bHf (σ : Nat -> Nat) (ls : List (List Entry × Nat)) : aA σ (ls.map hdA) = ls.map hdA := dK σ (aSj _ ls)
attribute [go_sem] aSj bHf
def bHi : dJ l = [] ↔ l = [] := by
  rw [<- List.length_eq_zero_iff, rN, List.length_eq_zero_iff]
def bDr (lists : List (List Entry)) (k : Nat) : NE (gOf (iL lists k)) (iL lists k).length := fun i hi => by
  unfold gOf; rw [F7, A1 hi, Option.getD_some]
  have hm := D7 hi
  generalize (iL lists k)[i] = p at hm
  unfold iL pZ at hm
  obtain ⟨q, hq, rfl⟩ := B3.1 hm
  have := (List.mem_filter.1 hq).2
  simp only [ne_eq, bHi]
  simpa using this
def aRl (hs : List (List Entry × Nat)) : dI hs.length (gOf hs) = hs.flatMap (·.1) := by
  unfold dI
  congr 1
  refine List.ext_getElem? fun i => ?_
  rw [B5]
  by_cases h : i < hs.length
  . rw [C9 h, A1 h]
    simp [gOf, F7, A1 h]
  rw [D6 (by simp; omega), D6 og]; rfl
def aYs (lists : List (List Entry)) : mergeAll entLt lists = mergeGo entLt (dI (iL lists lists.length).length (gOf (iL lists lists.length))).length (Plain.initGo (hless entLt) (iL lists lists.length).length ((iL lists lists.length).length / 2) (gOf (iL lists lists.length))) (iL lists lists.length).length [] := by
  rw [aRl]; unfold mergeAll
  have : (pZ lists).map (fun p => (p.1.foldl (Plain.put entLt) [], p.2)) = iL lists lists.length := by
    unfold iL; rw [C6]
    congr 1
    funext p
    rw [zY]
  simp only [this]; rfl
def aHx (lists : List (List Entry)) : ∀ k, ((iL lists k).flatMap (·.1)).length <= ((lists.take k).flatMap id).length
  | 0 => by simp [iL, pZ]
  | k + 1 => by
    have ih := aHx lists k
    by_cases h : k < lists.length
    . have hl := A1 h
      rw [aFo hl, E7, hl, List.flatMap_append, List.flatMap_append]; split
      . simp at ih ⊢; omega
      simp [rN] at ih ⊢; omega
    have e1 : lists.take (k + 1) = lists.take k := by rw [List.take_of_length_le og, List.take_of_length_le og]
    have e2 : iL lists (k + 1) = iL lists k := by unfold iL; rw [e1]
    rw [e1, e2]; exact ih
def bHj {g : Nat -> List Entry × Nat} (h : (g 0).1 = [e]) : mergeGo entLt (f + 1) g (m + 1) all = mergeGo entLt f (Plain.downGo (hless entLt) m m (Plain.swpA (dV g) 0 m) 0).1 m (all ++ [e]) := by
  exact (@Go.Plain.mergeGo.eq_2 _ entLt g all f m e [] h).trans (if_pos rfl)
def bHv {g : Nat -> List Entry × Nat} (h : (g 0).1 = e :: r) (hr : r ≠ []) : mergeGo entLt (f + 1) g (m + 1) all = mergeGo entLt f (Plain.downGo (hless entLt) (m + 1) (m + 1) (dV g) 0).1 (m + 1) (all ++ [e]) := by
  exact (@Go.Plain.mergeGo.eq_2 _ entLt g all f m e r h).trans (if_neg fun h2 => hr (List.length_eq_zero_iff.1 h2))
def bGs {g : Nat -> List Entry × Nat} : mergeGo entLt f g 0 all = all := by
  cases f <;> simp [mergeGo]
def aFh {g : Nat -> List Entry × Nat} (h : (g 0).1 = e :: r) : dV g 0 = (r, (g 0).2) := by unfold dV Plain.updA; rw [if_pos rfl, h]; rfl
def aEl {g : Nat -> List Entry × Nat} (h : k ≠ 0) : dV g k = g k := by unfold dV Plain.updA; rw [if_neg h]
def bIc {g : Nat -> List Entry × Nat} (h : (g 0).1 = e :: r) : ((List.range n).map fun k => hdA (g k)).set 0 (.agg [.sl 5 (r.map enA), Ni (((g 0).2 : Nat) : Int)]) = (List.range n).map fun k => hdA (dV g k) := by
  refine List.ext_getElem? fun i => ?_
  rw [G3, B5, B5]; simp only [A2, E6]
  by_cases h0 : i = 0
  . subst h0
    by_cases hn : 0 < n
    . rw [if_pos rfl, if_pos hn, C9 hn, Option.map_some, aFh h]; rfl
    rw [if_pos rfl, if_neg hn, D6 (by simp; omega)]; rfl
  rw [if_neg (fun e => h0 e.symm)]
  by_cases hn : i < n
  . rw [C9 hn, Option.map_some, Option.map_some, aEl h0]
  rw [D6 (by simp; omega)]; rfl
def bEh {g : Nat -> List Entry × Nat} (h : (g 0).1 = e :: r) (hr : r ≠ []) (hne : NE g m) : NE (dV g) m := fun k hk => by
  by_cases h0 : k = 0
  . subst h0; rw [aFh h]; exact hr
  rw [aEl h0]; exact hne k hk
def aYu {g : Nat -> List Entry × Nat} (hne : NE g (m + 1)) : NE (Plain.swpA (dV g) 0 m) m := fun k hk => by
  unfold Plain.swpA; split
  . rw [aEl og]; exact hne m og
  rename_i h
  rw [if_neg og, aEl h]; exact hne k og
def bMu {g : Nat -> List Entry × Nat} (h : (g 0).1 = [e]) : (dI m (Plain.downGo (hless entLt) m m (Plain.swpA (dV g) 0 m) 0).1).length + 1 = (dI (m + 1) g).length := by
  have h1 := (Plain.flatH_same (zW (n := m) m (Plain.swpA (dV g) 0 m) 0)).length_eq
  have h2 := (Plain.flatH_same (Plain.SameA.swp (n := m + 1) (dV g) (i := 0) (j := m) og og)).length_eq
  rw [Plain.flatH_succ, A3] at h2
  have h3 : (Plain.swpA (dV g) 0 m m).1 = [] := by
    unfold Plain.swpA; split
    . rename_i h0; rw [h0, aFh h]
    rw [if_pos rfl, aFh h]
  rw [h3] at h2
  have h4 := congrArg List.length (Plain.flatH_top (m := m) h)
  rw [B7] at h4; simp at h2; omega
def bMa {g : Nat -> List Entry × Nat} (h : (g 0).1 = e :: r) : (dI (m + 1) (Plain.downGo (hless entLt) (m + 1) (m + 1) (dV g) 0).1).length + 1 = (dI (m + 1) g).length := by
  have h1 := (Plain.flatH_same (zW (n := m + 1) (m + 1) (dV g) 0)).length_eq
  have h4 := congrArg List.length (Plain.flatH_top (m := m) h)
  rw [B7] at h4; omega
def bMr {g : Nat -> List Entry × Nat} (hne : NE g n) (hn : 0 < n) (hf : (dI n g).length <= f) : 0 < f := by
  obtain ⟨m, rfl⟩ : ∃ m, n = m + 1 := ⟨n - 1, og⟩
  obtain ⟨e, r, h⟩ := G1 (hne 0 hn)
  have h4 := congrArg List.length (Plain.flatH_top (m := m) h)
  rw [B7] at h4; omega
def bCu {g : Nat -> List Entry × Nat} (hn : 0 < n) (h : (g 0).1 = [e]) : mergeGo entLt (f + 1) g n all = mergeGo entLt f (Plain.downGo (hless entLt) (n - 1) (n - 1) (Plain.swpA (dV g) 0 (n - 1)) 0).1 (n - 1) (all ++ [e]) := by
  obtain ⟨m, rfl⟩ : ∃ m, n = m + 1 := ⟨n - 1, og⟩
  exact bHj h
def bAu {g : Nat -> List Entry × Nat} (hn : 0 < n) (h : (g 0).1 = e :: r) (hr : r ≠ []) : mergeGo entLt (f + 1) g n all = mergeGo entLt f (Plain.downGo (hless entLt) n n (dV g) 0).1 n (all ++ [e]) := by
  obtain ⟨m, rfl⟩ : ∃ m, n = m + 1 := ⟨n - 1, og⟩
  exact bHv h hr
def aEh {g : Nat -> List Entry × Nat} (hn : 0 < n) (hne : NE g n) : NE (Plain.swpA (dV g) 0 (n - 1)) (n - 1) := by
  obtain ⟨m, rfl⟩ : ∃ m, n = m + 1 := ⟨n - 1, og⟩
  exact aYu hne
def bFw {g : Nat -> List Entry × Nat} (hn : 0 < n) (h : (g 0).1 = [e]) : (dI (n - 1) (Plain.downGo (hless entLt) (n - 1) (n - 1) (Plain.swpA (dV g) 0 (n - 1)) 0).1).length + 1 = (dI n g).length := by
  obtain ⟨m, rfl⟩ : ∃ m, n = m + 1 := ⟨n - 1, og⟩
  exact bMu h
def bGh {g : Nat -> List Entry × Nat} (hn : 0 < n) (h : (g 0).1 = e :: r) : (dI n (Plain.downGo (hless entLt) n n (dV g) 0).1).length + 1 = (dI n g).length := by
  obtain ⟨m, rfl⟩ : ∃ m, n = m + 1 := ⟨n - 1, og⟩
  exact bMa h
def bQo (lists : List (List Entry)) : Prop := lists.length <= 1048576 /\ (∀ l ∈ lists, l.length <= 1048576) /\ (lists.flatMap id).length <= 1000000000
def zJ (g : Nat -> List Entry × Nat) (N : Nat) (hN : N <= 1048576) (hne : NE g N) : aH P 144 [.iface 167 (.ptr 0 0), Ni (0 : Int)] [(0, hcE), (1, aI g N)] 2 (.tup []) [(0, hcE), (1, aI ((Plain.downGo (Plain.hless entLt) N N g 0).1) N)] 2 := by
 refine (gq 13 [] func144) ?_
 simp only [aI, hcE]
 refine sr rfl fun k1 => (ja) ?_
 refine vi [] 0 (xs := []) rfl rfl rfl rfl bAn pH vH ⟨func274, rfl, rfl⟩ (pA g N hN) rfl (by simp [sg, Abs.get]) rfl rfl rfl rfl oG (mP (.inl rfl) Al Al Am Am oS ⟨rfl, rfl⟩ dg) (.inl rfl) ?_
 refine (Aw) ?_
 refine vg [] 0 rfl rfl rfl ⟨func191, rfl, rfl⟩ (iS g N hN 0 N hne og (A0 _)) rfl Cj oG (mP (.inl rfl) Al Al Am Am oS ⟨rfl, rfl⟩ dg) (.inl rfl) ?_
 refine (Aw) (k1 ((cdB) ?_ ?_)) <;> intro hc1
 . refine wk ?_; refine ⟨[], ?_⟩
   simp only [go_sem, AObj.bel, AObj.ren, AV.ren, aA, sg, aI, hcE] <;> first | (simp; done) | (simp [hdA]; done)
 refine wg rfl ((ja) ?_)
 refine vg [] 0 rfl rfl rfl ⟨func192, rfl, rfl⟩ (aAx (Plain.downGo (Plain.hless entLt) N N g 0).1 N hN) rfl Cj oG (mP (.inl rfl) Al Al Am Am oS ⟨rfl, rfl⟩ dg) (.inl rfl) ?_
 refine (Aw) ?_
 refine ⟨[], ?_⟩
 simp only [go_sem, AObj.bel, AObj.ren, AV.ren, aA, sg, aI, hcE] <;> first | (simp; done) | (simp [hdA]; done)
def yX (g : Nat -> List Entry × Nat) (N : Nat) (hN : N <= 1048576) (hp : 0 < N) (hne : NE (Plain.swpA g 0 (N - 1)) (N - 1)) : aH P 143 [.iface 167 (.ptr 0 0)] [(0, hcE), (1, aI g N)] 2 (.iface 165 (hdA ((Plain.downGo (Plain.hless entLt) (N - 1) (N - 1) (Plain.swpA g 0 (N - 1)) 0).1 (N - 1)))) [(0, .cells 161 [.ref 2]), (1, .dead), (2, aI (Plain.downGo (Plain.hless entLt) (N - 1) (N - 1) (Plain.swpA g 0 (N - 1)) 0).1 (N - 1))] 3 := by
 refine (gq 15 [.tmp 2] func143) ?_
 simp only [aI, hcE]
 have hw := wr ((N : Int) - 1) (((N - 1 : Nat) : Int)) og
 refine (aj) ?_
 refine sr rfl fun k2 => (Aa hw) ?_
 refine vi [] 0 (xs := []) rfl rfl rfl rfl bAn pH vH ⟨func274, rfl, rfl⟩ (pA g N hN) rfl (by simp [sg, Abs.get]) rfl rfl rfl rfl oG (mP (.inl rfl) Al Al Am Am oS ⟨rfl, rfl⟩ dg) (.inl rfl) ?_
 simp only [go_sem, AV.ren, AObj.ren, aA, shift, sg, A0, Nat.add_zero, Nat.sub_self, aI, hcE, hw]
 refine k2 (sr rfl fun k3 => (ja) ?_)
 refine vi [] 0 (xs := [Ni (0 : Int), Ni ((N - 1 : Nat) : Int)]) rfl rfl rfl rfl bEi pH vH ⟨func276, rfl, rfl⟩ (bPy g N hN 0 (N - 1) hp og) rfl (by simp [sg, Abs.get]) rfl rfl rfl rfl oG (mP (.inl rfl) Al Al Am Am oS ⟨rfl, rfl⟩ dg) (.inl rfl) ?_
 refine (Aw) (k3 (sr rfl fun k4 => (ja) ?_))
 refine vg [] 0 rfl rfl rfl ⟨func191, rfl, rfl⟩ (iS (Plain.swpA g 0 (N - 1)) N hN 0 (N - 1) hne og og) rfl Cj oG (mP (.inl rfl) Al Al Am Am oS ⟨rfl, rfl⟩ dg) (.inl rfl) ?_
 refine (Aw) (k4 (sr rfl fun k5 => (ja) ?_))
 refine vj [] 1 (xs := []) rfl rfl rfl rfl bQb pH' uH ⟨func277, rfl, rfl⟩ (aGj (Plain.downGo (Plain.hless entLt) (N - 1) (N - 1) (Plain.swpA g 0 (N - 1)) 0).1 N hN hp) rfl rfl rfl oG (mP (.inl rfl) Al Al Am Am oS ⟨rfl, rfl⟩ dg) (.inr dg) ?_
 refine (Aw) (k5 (wR ?_))
 refine ⟨[], ?_⟩
 simp only [go_sem, AObj.bel, AObj.ren, AV.ren, aA, sg, aI, hcE] <;> first | (simp; done) | (simp [hdA]; done)
def aJf (lists : List (List Entry)) (hz : bQo lists) : aH P 89 [.sl 1 (lists.map esA)] [] 0 (.ref 0) [(0, .row 65 5 ((mergeAll entLt lists).map enA))] 1 := by
 refine (gq 62 [.tmp 2] func89) ?_
 have hmx := mxl
 obtain ⟨hz1, hz2, hz3⟩ := hz
 have hhl := aYg (lists := lists) lists.length
 refine (aj) ((aj) ?_)
 refine sq fun k3 => (aj) (wb ?_)
 refine uP (i := 0) (j := 0) 165 2 rfl rfl dg ?_
 refine (ja) ?_
 refine wn lists.length (fun x => ([(3, .ptr 0 0), (8, .sl 1 (lists.map esA)), (9, Ni (lists.length : Int)), (10, Ni (x : Int))], [(0, .cells 161 [.ref 1]), (1, .row 165 2 ((iL lists x).map hdA))])) 2 [] ?_ ?_
 . simp only [go_sem, AObj.bel, iL, pZ, List.take_zero, List.zipIdx_nil, List.filter_nil, List.map_nil, Int.natCast_zero] <;> simp
 rintro i hi
 refine sr rfl fun k5 => (At) (k5 (sq fun k6 => (cdA) ?_ ?_)) <;> intro hc1
 . obtain ⟨hlt, l, hl, _, hml⟩ := ixc hc1
   have hll := hz2 l hml
   have hhi := aYg (lists := lists) i
   have hsl := rN l
   refine wk (k6 (sq fun k7 => wb (sr rfl fun k8 => (Ay hl) ((jr) (k8 (sr rfl fun k9 => (Ds) (k9 ((cdB) ?_ ?_)))))))) <;> intro hc2
   . have hlz : l = [] := by cases l with
       | nil => rfl
       | cons a b => simp at hc2 <;> omega
     have hstep : (iL lists i).map hdA = (iL lists (i + 1)).map hdA := by rw [aFo hl, if_pos hlz, List.append_nil]
     refine wk ((jt) (k7 ?_))
     have hw9 := wiS i og
     refine wg rfl ((Aa hw9) ((jt) ?_))
     refine ⟨i + 1, og, og, [], ?_⟩
     simp only [go_sem, AObj.bel, AObj.ren, AV.ren, aA, sg, Int.natCast_zero, aI, hcE]
     first | exact hstep | (simp; exact hstep) | exact ⟨hstep, trivial⟩
   have hlz : l ≠ [] := by intro h; rw [h] at hc2; simp at hc2
   have hstep : (iL lists i).map hdA ++ [AV.agg [.sl 5 ((dJ l).map enA), .raw (.int .i64 (i : Int))]] = (iL lists (i + 1)).map hdA := by rw [aFo hl, if_neg hlz, E4]; rfl
   refine sr rfl fun k10 => (Ds) ((jr) (k10 (sr rfl fun k11 => (ja) ?_)))
   refine vg [(0, 2)] 0 rfl rfl rfl ⟨func140, rfl, rfl⟩ (bAv l hll) rfl (by simp only [go_sem, gO, aA, AV.ren, sg]) An (nS (H1 := []) (.inr ⟨2, rfl⟩) (by simp only [go_sem, sg, AObj.ren]) Au) (.inl rfl) ?_
   refine (jn) (k11 ?_)
   refine aFz 2 rfl ?_
   refine (Ag) ?_
   refine wg rfl ((At) ((jr) ((jt) (k7 ?_))))
   have hw9 := wiS i og
   refine wg rfl ((Aa hw9) ((jt) ?_))
   refine ⟨i + 1, og, og, [(1, 4)], ?_⟩
   simp only [go_sem, AObj.bel, AObj.ren, AV.ren, aA, sg, Int.natCast_zero, aI, hcE]
   first | exact hstep | (simp; exact hstep) | exact ⟨hstep, trivial⟩
 have hge : i = lists.length := by have h9 : ¬ i < lists.length := (by simpa using hc1); omega
 subst hge; rw [bPk]
 have hfl0 := A0 (dI (iL lists lists.length).length (gOf (iL lists lists.length))).length
 have hft := aHx lists lists.length
 rw [C6, <- aRl] at hft
 refine we ((jt) (k3 (sr rfl fun k12 => (ja) ?_)))
 refine vg [] 0 rfl rfl rfl ⟨func142, rfl, rfl⟩ (xU (gOf (iL lists lists.length)) (iL lists lists.length).length og (bDr _ _)) rfl Cj oG (mP (.inl rfl) Al Al Am Am oS ⟨rfl, rfl⟩ dg) (.inl rfl) ?_
 refine (Aw) (k12 ((aj) ?_))
 refine sq fun k14 => wb ?_
 refine dZ (t := 7) 65 5 rfl dg ?_
 refine (ja) ?_
 refine wl (α := Nat × (Nat -> List Entry × Nat) × Nat × List Entry) (fun x => (dI x.2.2.1 x.2.1).length <= x.1 /\ NE x.2.1 x.2.2.1 /\ x.2.2.1 <= 1048576 /\ x.2.2.2.length + x.1 <= 1000000000 /\ mergeGo entLt x.1 x.2.1 x.2.2.1 x.2.2.2 = mergeAll entLt lists) (fun x => x.1) (fun x => ([(3, .ptr 0 0), (7, .ref 2)], [(0, .cells 161 [.ref 1]), (1, aI x.2.1 x.2.2.1), (2, .row 65 5 (x.2.2.2.map enA))])) 3 ((dI (iL lists lists.length).length (gOf (iL lists lists.length))).length, Plain.initGo (Plain.hless entLt) (iL lists lists.length).length ((iL lists lists.length).length / 2) (gOf (iL lists lists.length)), (iL lists lists.length).length, []) ⟨by simp only; exact Nat.le_of_eq (Plain.flatH_same (aSh _ _)).length_eq, bDg _ _ (bDr _ _), by simp only; omega, by simp only [List.length_nil]; omega, (aYs lists).symm⟩ [] ?_ ?_
 . simp only [go_sem, AObj.bel, AObj.ren, AV.ren, aA, sg, Int.natCast_zero, aI, hcE] <;> first | (simp; done) | (simp [enA]; done)
 rintro ⟨f, g, n, all⟩ ⟨hfl, hne, hn, hlen, hgo⟩
 simp only at hfl hne hn hlen hgo ⊢
 refine sq fun k15 => sr rfl fun k16 => ?_
 simp only [go_sem, A2, E6]
 refine k16 ((cdB) ?_ ?_) <;> intro hc3
 . have hn0 : n = 0 := by simp at hc3; omega
   subst hn0; rw [bGs] at hgo
   refine we ((jt) (k14 ((aj) (wR ?_))))
   refine ⟨[(0, 2)], ?_⟩
   rw [hgo]; exact jz
 have hn0 : 0 < n := by simp at hc3; omega
 obtain ⟨f', rfl⟩ : ∃ f', f = f' + 1 := ⟨f - 1, by have := bMr hne hn0 hfl; omega⟩
 obtain ⟨e, r, hx⟩ := G1 (hne 0 hn0)
 have hr0 : (List.range n)[0]? = some 0 := C9 og
 have hA0 : hdA (g 0) = .agg [.sl 5 (enA e :: r.map enA), .raw (.int .i64 (((g 0).2 : Nat) : Int))] := by unfold hdA; rw [hx]; rfl
 have htk : (r.map enA).take r.length = r.map enA := List.take_of_length_le oS
 have hA1 : hdA (dV g 0) = .agg [.sl 5 (r.map enA), .raw (.int .i64 (((g 0).2 : Nat) : Int))] := by rw [aFh hx]; rfl
 refine wk (k15 (wb (sr rfl fun k17 => ?_)))
 simp only [go_sem, hr0, hA0, enA, Int.toNat_zero, List.getElem?_cons_zero, List.map_cons, B7, A7, A3, List.nil_append, A2, B0, E6]
 refine (jr) (k17 ?_)
 have hrow := bIc (n := n) hx
 refine sd mixed rfl fun k18 => ?_
 simp only [go_sem, htk, hr0, hA0, Int.toNat_zero, A2, E6, B7, List.drop_succ_cons, List.drop_zero, Int.toNat_one]
 refine (jr) ?_
 rw [hrow]
 refine (jy) (k18 (sr rfl fun k19 => ?_))
 simp only [go_sem, hr0, hA1, Int.toNat_zero, A2, E6]
 refine (jr) (k19 ((cdB) ?_ ?_)) <;> intro hc4
 . have hr : r ≠ [] := by intro h; rw [h] at hc4; simp at hc4
   refine wg rfl ((ja) ?_)
   refine vg [] 0 rfl rfl rfl ⟨func144, rfl, rfl⟩ (zJ (dV g) n og (bEh hx hr hne)) rfl Cj oG (mP (.inl rfl) Al Al Am Am oS ⟨rfl, rfl⟩ dg) (.inl rfl) ?_
   refine (Aw) ((jt) ((jt) ?_))
   refine ⟨(f', (Plain.downGo (hless entLt) n n (dV g) 0).1, n, all ++ [e]), ⟨by have := bGh hn0 hx; simp only; omega, aDu _ _ _ (bEh hx hr hne), by simp only; omega, by simp only [A3, List.length_singleton]; omega, by simp only; rw [bAu hn0 hx hr] at hgo; exact hgo⟩, by simp only; omega, [(2, 4)], ?_⟩
   simp only [go_sem, AObj.bel, AObj.ren, AV.ren, aA, sg, Int.natCast_zero, aI, hcE] <;> first | (simp; done) | (simp [enA]; done)
 have hr : r = [] := by cases r with
   | nil => rfl
   | cons a b => simp at hc4 <;> omega
 subst hr
 refine wg rfl ((ja) ?_)
 refine vg [] 1 rfl rfl rfl ⟨func143, rfl, rfl⟩ (yX (dV g) n og hn0 (aEh hn0 hne)) rfl oG oG (mP (.inl rfl) Al Al Am Am oS ⟨rfl, rfl⟩ dg) (.inr dg) ?_
 refine (Aw) ((jt) ((jt) ?_))
 refine ⟨(f', (Plain.downGo (hless entLt) (n - 1) (n - 1) (Plain.swpA (dV g) 0 (n - 1)) 0).1, n - 1, all ++ [e]), ⟨by have := bFw hn0 hx; simp only; omega, aDu _ _ _ (aEh hn0 hne), by simp only; omega, by simp only [A3, List.length_singleton]; omega, by simp only; rw [bCu hn0 hx] at hgo; exact hgo⟩, by simp only; omega, [(1, 5), (2, 4)], ?_⟩
 simp only [go_sem, AObj.bel, AObj.ren, AV.ren, aA, sg, Int.natCast_zero, aI, hcE] <;> first | (simp; done) | (simp [enA]; done)
end
def yZ (ls : List Entry) (hz : dB ls) : aB P 123 [.sl 5 (ls.map enA)] [] 0 (Nb (isB ls)) := by
 refine (pq 40 [.tmp 2] func123) ?_
 have hlen := hz.1
 refine (aj) ?_
 refine sq fun k2 => (aj) ((cdA) ?_ ?_) <;> intro hc1
 . have hlb : (decide (1 <= (ls.length : Int)) && decide ((ls.length : Int) <= 12)) = false := by simp at hc1 ⊢; omega
   have h9 : isB ls = false := by unfold isB; rw [hlb, Bool.and_false]
   exact (aj) (wR (fq h9))
 have hlb : (decide (1 <= (ls.length : Int)) && decide ((ls.length : Int) <= 12)) = true := by simp at hc1 ⊢; omega
 refine wk (k2 (sq fun k5 => (aj) (wb ?_)))
 refine wa ls.length (lU ls) (fun x => ([(0, .sl 5 (ls.map enA)), (13, .sl 5 (ls.map enA)), (14, Ni (ls.length : Int)), (15, Ni (x : Int))], [])) 0 [] ?_ ?_
 . exact jc
 rintro i ⟨hi, hall⟩
 refine (aj) ?_
 refine sq fun k8 => (cdB) ?_ ?_ <;> intro hc2
 . have hge := gec hc2
   refine we ((jt) (k5 ((aj) (wR ?_))))
   have h9 : isB ls = true := by unfold isB; rw [eU hge hall, hlb]; rfl
   exact fq h9
 obtain ⟨hlt, l, hl, hdrop, hml⟩ := ixc hc2
 have hw1 := wr ((i : Int) - 1) ((i : Int) - 1) og
 have hpn : ((i : Int) - 1).toNat = i - 1 := by omega
 have hpv : ls[i - 1]? = some (bT ls i) := by unfold bT; rw [A1 og]; rfl
 refine wk (k8 (sq fun k9 => wb (sr rfl fun k10 => (Ap hl) ((jr) (k10 (sd mixed rfl fun k11 => (Bb hl hw1 hpn hpv) ((jr) ?_)))))))
 refine tp rfl rfl rfl ⟨func122, rfl, rfl⟩ (yO l (hz.2 l hml)) Ah Ah ?_
 refine (Bb hl hw1 hpn hpv) ((jr) ((jy) (k11 ((cdA) ?_ ?_)))) <;> intro hc3
 . have hp : lU ls i = false := by unfold lU; rw [hl]; simp only [hc3]; rfl
   refine (aj) (wR ((Ad) ?_))
   have h9 : isB ls = false := by unfold isB; rw [gR hlt hp]; rfl
   exact fq h9
 have hp : lU ls i = true := by unfold lU; rw [hl]; simp only [hc3]; rfl
 refine wk ((jt) (k9 ((jw (wiS i og)) ((jt) ?_))))
 refine ⟨i + 1, ⟨og, bV hall hp⟩, og, [], ?_⟩
 exact jo
def aNt (r : Run) (hs : r.ents.length <= 1048576) : aH P 170 [rA r] [] 0 (.agg [.ref 0, Ni r.mask]) [(0, .row 65 5 (r.ents.map enA))] 1 := by
 refine (gq 9 [.cell 2 109] func170) ?_
 simp only [rA]
 have hmx := mxl
 refine (aj) ?_
 refine sd mixed rfl fun k2 => (Ci) ((jr) ((jy) (k2 (wR ?_))))
 refine ⟨[(0, 2)], ?_⟩
 exact jz
def rE (ls : List (List Run)) (hs : qJ ls) : aH P 121 [.sl 1 (ls.map rsA)] [] 0 (.ref 0) [(0, .row 107 1 (ls.map rsO))] 1 := by
 refine (gq 33 [.tmp 2] func121) ?_
 have hmx := mxl
 have hlen := hs.1
 refine (aj) ((aj) ?_)
 refine sq fun k3 => (aj) (wb ?_)
 refine dZ (t := 3) 107 1 rfl dg ?_
 refine (ja) ?_
 refine wn ls.length (fun x => ([(3, .ref 0), (9, .sl 1 (ls.map rsA)), (10, Ni (ls.length : Int)), (11, Ni (x : Int))], [(0, .row 107 1 ((ls.take x).map rsO))])) 1 [] ?_ ?_
 . exact Ca
 rintro i hi
 refine (aj) ?_
 refine sq fun k6 => (cdB) ?_ ?_ <;> intro hc1
 . have hge := gec hc1
   refine we ((jt) (k3 ((aj) (wR ?_))))
   have hie : i = ls.length := by omega
   subst hie; rw [C6]; refine ⟨[], ?_⟩; exact Bk
 obtain ⟨hlt, l, hl, hdrop, hml⟩ := ixc hc1
 have hsl := hs.2 l hml
 have hll := hsl.1
 refine wk (k6 (sq fun k7 => wb (sr rfl fun k8 => (As hl) ((jr) (k8 ((aj) ?_))))))
 refine sq fun k10 => sr rfl fun k11 => (Bt) (k11 (wb ?_))
 refine dZ (t := 6) 109 2 rfl dg ?_
 refine (ja) ?_
 refine wn l.length (fun x => ([(3, .ref 0), (6, .ref 1), (9, .sl 1 (ls.map rsA)), (10, Ni (ls.length : Int)), (11, Ni (i : Int)), (15, .sl 2 (l.map rA)), (16, Ni (l.length : Int)), (17, Ni (x : Int))], [(0, .row 107 1 ((ls.take i).map rsO)), (1, .row 109 2 ((l.take x).map runOwn))])) 2 [] ?_ ?_
 . exact Ca
 rintro k hk
 refine (aj) ?_
 refine sq fun k13 => (cdB) ?_ ?_ <;> intro hc2
 . have hgek : l.length <= k := by have h9 : ¬ k < l.length := (by simpa using hc2); omega
   refine we ((jt) (k10 ?_))
   have hfull : l.take k = l := List.take_of_length_le og
   refine wg rfl ((Do hfull) ((jr) ((jt) (k7 ?_))))
   have hw := wiS i og
   have htl : List.take i (List.map rsO ls) ++ [AV.own 109 2 (List.map runOwn l)] = List.take (i + 1) (List.map rsO ls) := by rw [<- D0, <- D0]; exact aFc hl
   refine wg rfl ((Aa hw) ((jt) ?_))
   refine ⟨i + 1, og, og, [(0, 3)], ?_⟩
   simp only [go_sem, AObj.bel, AObj.ren, AV.ren, aA, sg, Int.natCast_zero] <;> simp
   exact htl
 have hltk : k < l.length := by simpa using hc2
 obtain ⟨r, hr, _, hmr⟩ := ix hltk
 have hrl := (hsl.2 r hmr).1
 refine wk (k13 (sq fun k14 => wb (sr rfl fun k15 => (Ao hr) ((jr) (k15 (wg rfl ((Ci) ((jr) ?_))))))))
 refine vn 1 rfl rfl rfl ⟨func170, rfl, rfl⟩ (aNt r hrl) Ac Ac oS dg ?_
 simp only [go_sem, AV.ren, AObj.ren, aA, shift, sg, A0, Nat.add_zero, Nat.sub_self, A7, A3, List.nil_append, A2, H8, B0]
 refine (jr) ((jt) (k14 ?_))
 have hwk := wiS k og
 have htk : List.take k (List.map runOwn l) ++ [AV.agg [AV.own 65 5 (List.map enA r.ents), AV.raw (Value.int IntKind.i64 r.mask)]] = List.take (k + 1) (List.map runOwn l) := by rw [<- D0, <- D0]; exact aIp hr
 refine wg rfl ((Aa hwk) ((jt) ?_))
 refine ⟨k + 1, og, og, [(1, 5)], ?_⟩
 simp only [go_sem, AObj.bel, AObj.ren, AV.ren, aA, sg, Int.natCast_zero] <;> simp
 exact htk
def aEc (t : Tree) (hs : gS t) : aH P 120 [trA t] [] 0 (.agg [Ni t.seq, .ref 0, .ref 1, .ref 2]) [(0, .row 65 5 (t.mem.map enA)), (1, .row 107 1 (t.levels.map rsO)), (2, .row 3 1 (t.snaps.map inA))] 3 := by
 refine (gq 15 [.cell 2 36] func120) ?_
 simp only [trA]
 have hmx := mxl
 obtain ⟨⟨hs1, _⟩, hs2, hs3⟩ := hs
 refine (aj) ?_
 refine sd mixed rfl fun k2 => (Ci) ((jr) ?_)
 refine tn 1 rfl rfl rfl ⟨func121, rfl, rfl⟩ (rE t.levels hs2) oG oG oS dg ?_
 refine (jn) ((jr) ((jy) (k2 (wR ?_))))
 refine ⟨[(0, 2), (1, 3), (2, 4)], ?_⟩
 exact jz
def bIp {x y : Entry} (h1 : entLt x y = false) (h2 : entLt y x = false) : x.seq = y.seq := by
  rw [<- pP] at h1 h2
  rw [aIf x y] at h2
  simp at h1 h2
  have h0 : jS x y = 0 := by omega
  unfold jS at h0; split at h0
  . rename_i h; exact absurd h0 h
  unfold aJa at h0; split at h0
  . omega
  split at h0
  . omega
  omega
end Go.Proofs.S
end
section
open Go.Shelf
namespace Go.Proofs
def Tryz.lays137_ren : Go.Shelf.Ren := ⟨fun | 137 => 231 | 217 => 240 | 266 => 248 | n => n, fun | 9 => 9 | 5 => 5 | 3 => 3 | n => n, fun | n => n⟩
theorem Tryz.lays137 : Go.Proofs.Lays.n137 Tryz.prog Tryz.lays137_ren := {
  mixed := by kernel_rfl
  f137 := Tryz.func231.trans (congrArg some (by kernel_rfl))
  f217 := Tryz.func240.trans (congrArg some (by kernel_rfl))
  f266 := Tryz.func248.trans (congrArg some (by kernel_rfl))
  t3 := Tryz.underlying3
  a3 := Tryz.isAgg3
  z3 := Tryz.sizeOf3
  v3 := Tryz.zeroValue3
  t5 := Tryz.underlying5
  a5 := Tryz.isAgg5
  z5 := Tryz.sizeOf5
  v5 := Tryz.zeroValue5
  t9 := Tryz.underlying9
  a9 := Tryz.isAgg9
  z9 := Tryz.sizeOf9
  v9 := Tryz.zeroValue9 }
def Tryz.laysM171_ren : Go.Shelf.Ren := ⟨fun | 171 => 125 | 243 => 173 | 246 => 205 | 283 => 224 | 284 => 225 | 285 => 226 | 286 => 227 | 129 => 235 | 317 => 234 | 318 => 236 | 319 => 237 | 320 => 238 | 337 => 246 | 338 => 247 | n => n, fun | 3 => 3 | 9 => 9 | 2 => 2 | 4 => 4 | 171 => 244 | 0 => 0 | 53 => 245 | 37 => 100 | 5 => 5 | 173 => 248 | 212 => 254 | 51 => 255 | 20 => 20 | 213 => 256 | 46 => 201 | 232 => 271 | 233 => 272 | n => n, fun | 17 => 0 | 18 => 3 | 19 => 4 | n => n⟩
theorem Tryz.laysM171 : Go.Proofs.LaysM.n171 Tryz.prog Tryz.laysM171_ren := {
  mixed := by kernel_rfl
  f129 := Tryz.func235.trans (congrArg some (by kernel_rfl))
  f171 := Tryz.func125.trans (congrArg some (by kernel_rfl))
  f243 := Tryz.func173.trans (congrArg some (by kernel_rfl))
  f246 := Tryz.func205.trans (congrArg some (by kernel_rfl))
  f283 := Tryz.func224.trans (congrArg some (by kernel_rfl))
  f284 := Tryz.func225.trans (congrArg some (by kernel_rfl))
  f285 := Tryz.func226.trans (congrArg some (by kernel_rfl))
  f286 := Tryz.func227.trans (congrArg some (by kernel_rfl))
  f317 := Tryz.func234.trans (congrArg some (by kernel_rfl))
  f318 := Tryz.func236.trans (congrArg some (by kernel_rfl))
  f319 := Tryz.func237.trans (congrArg some (by kernel_rfl))
  f320 := Tryz.func238.trans (congrArg some (by kernel_rfl))
  f337 := Tryz.func246.trans (congrArg some (by kernel_rfl))
  f338 := Tryz.func247.trans (congrArg some (by kernel_rfl))
  t0 := Tryz.underlying0
  a0 := Tryz.isAgg0
  z0 := Tryz.sizeOf0
  v0 := Tryz.zeroValue0
  t2 := Tryz.underlying2
  a2 := Tryz.isAgg2
  z2 := Tryz.sizeOf2
  v2 := Tryz.zeroValue2
  t3 := Tryz.underlying3
  a3 := Tryz.isAgg3
  z3 := Tryz.sizeOf3
  v3 := Tryz.zeroValue3
  t4 := Tryz.underlying4
  a4 := Tryz.isAgg4
  z4 := Tryz.sizeOf4
  v4 := Tryz.zeroValue4
  t5 := Tryz.underlying5
  a5 := Tryz.isAgg5
  z5 := Tryz.sizeOf5
  v5 := Tryz.zeroValue5
  t9 := Tryz.underlying9
  a9 := Tryz.isAgg9
  z9 := Tryz.sizeOf9
  v9 := Tryz.zeroValue9
  t20 := Tryz.underlying20
  a20 := Tryz.isAgg20
  z20 := Tryz.sizeOf20
  v20 := Tryz.zeroValue20
  t37 := Tryz.underlying100
  a37 := Tryz.isAgg100
  z37 := Tryz.sizeOf100
  v37 := Tryz.zeroValue100
  t46 := Tryz.underlying201
  a46 := Tryz.isAgg201
  z46 := Tryz.sizeOf201
  v46 := Tryz.zeroValue201
  t51 := Tryz.underlying255
  a51 := Tryz.isAgg255
  z51 := Tryz.sizeOf255
  v51 := Tryz.zeroValue255
  t53 := Tryz.underlying245
  a53 := Tryz.isAgg245
  z53 := Tryz.sizeOf245
  v53 := Tryz.zeroValue245
  t171 := Tryz.underlying244
  a171 := Tryz.isAgg244
  z171 := Tryz.sizeOf244
  v171 := Tryz.zeroValue244
  t173 := Tryz.underlying248
  a173 := Tryz.isAgg248
  z173 := Tryz.sizeOf248
  v173 := Tryz.zeroValue248
  t212 := Tryz.underlying254
  a212 := Tryz.isAgg254
  z212 := Tryz.sizeOf254
  v212 := Tryz.zeroValue254
  t213 := Tryz.underlying256
  a213 := Tryz.isAgg256
  z213 := Tryz.sizeOf256
  t232 := Tryz.underlying271
  a232 := Tryz.isAgg271
  z232 := Tryz.sizeOf271
  v232 := Tryz.zeroValue271
  t233 := Tryz.underlying272
  a233 := Tryz.isAgg272
  z233 := Tryz.sizeOf272
  v233 := Tryz.zeroValue272
  g17 := by kernel_rfl
  g18 := by kernel_rfl
  g19 := by kernel_rfl
  i0 := by kernel_rfl
  i2 := by kernel_rfl
  i3 := by kernel_rfl
  i4 := by kernel_rfl
  i5 := by kernel_rfl
  i9 := by kernel_rfl
  i20 := by kernel_rfl
  i37 := by kernel_rfl
  i46 := by kernel_rfl
  i51 := by kernel_rfl
  i53 := by kernel_rfl
  i171 := by kernel_rfl
  i173 := by kernel_rfl
  i212 := by kernel_rfl
  i232 := by kernel_rfl
  i233 := by kernel_rfl
  m17 := by kernel_rfl
  m18 := by kernel_rfl
  m19 := by kernel_rfl }
def Tryz.laysC172_ren : Go.Shelf.Ren := ⟨fun | 172 => 223 | 244 => 232 | 245 => 233 | 247 => 241 | 279 => 242 | 280 => 243 | 281 => 244 | 282 => 245 | 287 => 249 | 316 => 250 | 171 => 125 | 205 => 251 | 321 => 252 | 322 => 253 | 243 => 173 | 246 => 205 | 283 => 224 | 284 => 225 | 285 => 226 | 286 => 227 | 129 => 235 | 317 => 234 | 318 => 236 | 319 => 237 | 320 => 238 | 337 => 246 | 338 => 247 | n => n, fun | 9 => 9 | 3 => 3 | 75 => 146 | 76 => 147 | 4 => 4 | 5 => 5 | 167 => 258 | 37 => 100 | 0 => 0 | 85 => 259 | 2 => 2 | 168 => 261 | 53 => 245 | 175 => 265 | 46 => 201 | 210 => 269 | 127 => 190 | 145 => 276 | 143 => 274 | 21 => 21 | 171 => 244 | 173 => 248 | 212 => 254 | 51 => 255 | 20 => 20 | 213 => 256 | 232 => 271 | 233 => 272 | 80 => 150 | n => n, fun | 15 => 1 | 16 => 2 | 17 => 0 | 18 => 3 | 19 => 4 | n => n⟩
theorem Tryz.laysC172 : Go.Proofs.LaysC.n172 Tryz.prog Tryz.laysC172_ren := {
  mixed := by kernel_rfl
  f129 := Tryz.func235.trans (congrArg some (by kernel_rfl))
  f171 := Tryz.func125.trans (congrArg some (by kernel_rfl))
  f172 := Tryz.func223.trans (congrArg some (by kernel_rfl))
  f205 := Tryz.func251.trans (congrArg some (by kernel_rfl))
  f243 := Tryz.func173.trans (congrArg some (by kernel_rfl))
  f244 := Tryz.func232.trans (congrArg some (by kernel_rfl))
  f245 := Tryz.func233.trans (congrArg some (by kernel_rfl))
  f246 := Tryz.func205.trans (congrArg some (by kernel_rfl))
  f247 := Tryz.func241.trans (congrArg some (by kernel_rfl))
  f279 := Tryz.func242.trans (congrArg some (by kernel_rfl))
  f280 := Tryz.func243.trans (congrArg some (by kernel_rfl))
  f281 := Tryz.func244.trans (congrArg some (by kernel_rfl))
  f282 := Tryz.func245.trans (congrArg some (by kernel_rfl))
  f283 := Tryz.func224.trans (congrArg some (by kernel_rfl))
  f284 := Tryz.func225.trans (congrArg some (by kernel_rfl))
  f285 := Tryz.func226.trans (congrArg some (by kernel_rfl))
  f286 := Tryz.func227.trans (congrArg some (by kernel_rfl))
  f287 := Tryz.func249.trans (congrArg some (by kernel_rfl))
  f316 := Tryz.func250.trans (congrArg some (by kernel_rfl))
  f317 := Tryz.func234.trans (congrArg some (by kernel_rfl))
  f318 := Tryz.func236.trans (congrArg some (by kernel_rfl))
  f319 := Tryz.func237.trans (congrArg some (by kernel_rfl))
  f320 := Tryz.func238.trans (congrArg some (by kernel_rfl))
  f321 := Tryz.func252.trans (congrArg some (by kernel_rfl))
  f322 := Tryz.func253.trans (congrArg some (by kernel_rfl))
  f337 := Tryz.func246.trans (congrArg some (by kernel_rfl))
  f338 := Tryz.func247.trans (congrArg some (by kernel_rfl))
  t0 := Tryz.underlying0
  a0 := Tryz.isAgg0
  z0 := Tryz.sizeOf0
  v0 := Tryz.zeroValue0
  t2 := Tryz.underlying2
  a2 := Tryz.isAgg2
  z2 := Tryz.sizeOf2
  v2 := Tryz.zeroValue2
  t3 := Tryz.underlying3
  a3 := Tryz.isAgg3
  z3 := Tryz.sizeOf3
  v3 := Tryz.zeroValue3
  t4 := Tryz.underlying4
  a4 := Tryz.isAgg4
  z4 := Tryz.sizeOf4
  v4 := Tryz.zeroValue4
  t5 := Tryz.underlying5
  a5 := Tryz.isAgg5
  z5 := Tryz.sizeOf5
  v5 := Tryz.zeroValue5
  t9 := Tryz.underlying9
  a9 := Tryz.isAgg9
  z9 := Tryz.sizeOf9
  v9 := Tryz.zeroValue9
  t20 := Tryz.underlying20
  a20 := Tryz.isAgg20
  z20 := Tryz.sizeOf20
  v20 := Tryz.zeroValue20
  t21 := Tryz.underlying21
  a21 := Tryz.isAgg21
  z21 := Tryz.sizeOf21
  v21 := Tryz.zeroValue21
  t37 := Tryz.underlying100
  a37 := Tryz.isAgg100
  z37 := Tryz.sizeOf100
  v37 := Tryz.zeroValue100
  t46 := Tryz.underlying201
  a46 := Tryz.isAgg201
  z46 := Tryz.sizeOf201
  v46 := Tryz.zeroValue201
  t51 := Tryz.underlying255
  a51 := Tryz.isAgg255
  z51 := Tryz.sizeOf255
  v51 := Tryz.zeroValue255
  t53 := Tryz.underlying245
  a53 := Tryz.isAgg245
  z53 := Tryz.sizeOf245
  v53 := Tryz.zeroValue245
  t75 := Tryz.underlying146
  a75 := Tryz.isAgg146
  z75 := Tryz.sizeOf146
  v75 := Tryz.zeroValue146
  t76 := Tryz.underlying147
  a76 := Tryz.isAgg147
  z76 := Tryz.sizeOf147
  v76 := Tryz.zeroValue147
  t85 := Tryz.underlying259
  a85 := Tryz.isAgg259
  z85 := Tryz.sizeOf259
  v85 := Tryz.zeroValue259
  t127 := Tryz.underlying190
  a127 := Tryz.isAgg190
  z127 := Tryz.sizeOf190
  v127 := Tryz.zeroValue190
  t143 := Tryz.underlying274
  a143 := Tryz.isAgg274
  z143 := Tryz.sizeOf274
  v143 := Tryz.zeroValue274
  t145 := Tryz.underlying276
  a145 := Tryz.isAgg276
  z145 := Tryz.sizeOf276
  v145 := Tryz.zeroValue276
  t167 := Tryz.underlying258
  a167 := Tryz.isAgg258
  z167 := Tryz.sizeOf258
  v167 := Tryz.zeroValue258
  t168 := Tryz.underlying261
  a168 := Tryz.isAgg261
  z168 := Tryz.sizeOf261
  v168 := Tryz.zeroValue261
  t171 := Tryz.underlying244
  a171 := Tryz.isAgg244
  z171 := Tryz.sizeOf244
  v171 := Tryz.zeroValue244
  t173 := Tryz.underlying248
  a173 := Tryz.isAgg248
  z173 := Tryz.sizeOf248
  v173 := Tryz.zeroValue248
  t175 := Tryz.underlying265
  a175 := Tryz.isAgg265
  z175 := Tryz.sizeOf265
  v175 := Tryz.zeroValue265
  t210 := Tryz.underlying269
  a210 := Tryz.isAgg269
  z210 := Tryz.sizeOf269
  v210 := Tryz.zeroValue269
  t212 := Tryz.underlying254
  a212 := Tryz.isAgg254
  z212 := Tryz.sizeOf254
  v212 := Tryz.zeroValue254
  t213 := Tryz.underlying256
  a213 := Tryz.isAgg256
  z213 := Tryz.sizeOf256
  t232 := Tryz.underlying271
  a232 := Tryz.isAgg271
  z232 := Tryz.sizeOf271
  v232 := Tryz.zeroValue271
  t233 := Tryz.underlying272
  a233 := Tryz.isAgg272
  z233 := Tryz.sizeOf272
  v233 := Tryz.zeroValue272
  g15 := by kernel_rfl
  g16 := by kernel_rfl
  g17 := by kernel_rfl
  g18 := by kernel_rfl
  g19 := by kernel_rfl
  t80 := Tryz.underlying150
  a80 := Tryz.isAgg150
  z80 := Tryz.sizeOf150
  v80 := Tryz.zeroValue150
  i0 := by kernel_rfl
  i2 := by kernel_rfl
  i3 := by kernel_rfl
  i4 := by kernel_rfl
  i5 := by kernel_rfl
  i9 := by kernel_rfl
  i20 := by kernel_rfl
  i21 := by kernel_rfl
  i37 := by kernel_rfl
  i46 := by kernel_rfl
  i51 := by kernel_rfl
  i53 := by kernel_rfl
  i75 := by kernel_rfl
  i76 := by kernel_rfl
  i80 := by kernel_rfl
  i85 := by kernel_rfl
  i127 := by kernel_rfl
  i143 := by kernel_rfl
  i145 := by kernel_rfl
  i167 := by kernel_rfl
  i168 := by kernel_rfl
  i171 := by kernel_rfl
  i173 := by kernel_rfl
  i175 := by kernel_rfl
  i210 := by kernel_rfl
  i212 := by kernel_rfl
  i232 := by kernel_rfl
  i233 := by kernel_rfl
  m15 := by kernel_rfl
  m16 := by kernel_rfl
  m17 := by kernel_rfl
  m18 := by kernel_rfl
  m19 := by kernel_rfl
  c0 := by kernel_rfl
  c2 := by kernel_rfl
  c3 := by kernel_rfl
  c4 := by kernel_rfl
  c5 := by kernel_rfl
  c9 := by kernel_rfl
  c20 := by kernel_rfl
  c21 := by kernel_rfl
  c37 := by kernel_rfl
  c46 := by kernel_rfl
  c51 := by kernel_rfl
  c53 := by kernel_rfl
  c75 := by kernel_rfl
  c76 := by kernel_rfl
  c80 := by kernel_rfl
  c85 := by kernel_rfl
  c127 := by kernel_rfl
  c143 := by kernel_rfl
  c145 := by kernel_rfl
  c167 := by kernel_rfl
  c168 := by kernel_rfl
  c171 := by kernel_rfl
  c173 := by kernel_rfl
  c175 := by kernel_rfl
  c210 := by kernel_rfl
  c212 := by kernel_rfl
  c213 := by kernel_rfl
  c232 := by kernel_rfl
  c233 := by kernel_rfl }
end Go.Proofs
end
section
open Go Go.Abs Go.Proofs Go.Proofs.Tryz
namespace Go.Proofs.S
section
variable {G R : Prop} {ρ : Nat -> Value} {av : Nat -> Prop} {hp : Array Obj} {v : Value} {vals : Array Value}
def bKj (h : cZ ρ av hp [.raw v] vals) : vals = #[v] := by
  obtain ⟨h1, h2⟩ := h
  have h3 := h2 0 _ rfl
  apply Array.ext
  . exact h1
  intro i h4 h5
  have hi : i = 0 := by simp at h5; omega
  subst hi; rw [B2, E3 h4, Option.getD_some] at h3
  generalize vals[0] = u at h3
  cases h3; rfl
def aBc {v u : Value} (h : cZ ρ av hp [.raw v, .raw u] vals) : vals = #[v, u] := by
  obtain ⟨h1, h2⟩ := h
  have h3 := h2 0 _ rfl
  have h4 := h2 1 _ rfl
  apply Array.ext
  . exact h1
  intro i h5 h6
  have hs : vals.size = 2 := h1
  have hi : i = 0 ∨ i = 1 := by simp at h6; omega
  rcases hi with rfl | rfl
  . rw [B2, E3 h5, Option.getD_some] at h3
    generalize vals[0] = z at h3
    cases h3; rfl
  rw [B2, E3 h5, Option.getD_some] at h4
  generalize vals[1] = z at h4
  cases h4; rfl
def aZb (n : Int) : ByteArray := ⟨(Lib.itoa n).toArray⟩
def gn0 : P.globalNamed "internal/strconv.uint64pow10" = some 0 := kr
def xZ (n : Int) (h0 : -9223372036854775808 <= n) (h1 : n <= 9223372036854775807) : aB P 125 [Ni n] [] 0 (Ns (aZb n)) := by
  refine iO trivial fun C w vals hR hv => ?_
  rw [bKj hv]
  obtain ⟨o, ho1, ho2, _⟩ := hR.gl 0 (.inl rfl)
  obtain ⟨t, fr, rfl⟩ := ho2.1 rfl
  have htab : Lib.TabIs P w "internal/strconv.uint64pow10" .u64 Lib.pow10Tab := by
    unfold Lib.TabIs World.var?
    rw [show P.globalNamed "internal/strconv.uint64pow10" = _ from gn0]; simp only [Option.bind_some, ho1]
  refine (Any.strconv_Itoa Tryz.laysM171 n h0 h1 w htab).mono fun e w' ⟨he, k, os, hw⟩ => ⟨_, he, .raw _, ?_⟩
  rw [hw]; exact bBl w k os
def iN (s : ByteArray) : Int × Bool := match Lib.atoiAll s.data.toList with
  | .ok v => (v, true)
  | .range => (Lib.atoiSat s.data.toList, false)
  | _ => (0, false)
def bRp {C : Conc} {w : World} (hR : RelH C [] (UU 0) w) {g : Nat} (hg : g = 1 ∨ g = 2) : ∃ te pe, w.cell? ⟨g, 0, none⟩ = some (.iface te pe) := by
  obtain ⟨o, ho1, ho2, _⟩ := hR.gl g (.inr hg)
  obtain ⟨te, pe, t, fr, rfl⟩ := ho2.2.1 hg
  exact ⟨te, pe, by rw [Lib.cell_of_heap ho1]; rfl⟩
def bGk (s : ByteArray) (hs : s.size <= 1048576) (h : (iN s).2 = true) : aB P 223 [Ns s] [] 0 (.tup [.raw (.int .i64 (iN s).1), .raw .nilIface]) := by
  refine iO ⟨trivial, trivial, trivial⟩ fun C w vals hR hv => ?_
  rw [bKj hv]
  have hat : Lib.atoiAll s.data.toList = .ok (iN s).1 := by
    unfold iN at h ⊢
    split at h
    . rename_i v hq; simp only [hq]
    . cases h
    cases h
  refine (Any.strconv_Atoi_ok Tryz.laysC172 s og _ hat w).mono fun e w' ⟨he, hw⟩ => ⟨_, he, ?_, ?_⟩
  . exact .tup _ _ rfl fun j x hj => by
      match j, hj with
      | 0, hj => cases hj; exact .raw _
      | 1, hj => cases hj; exact .raw _
  . rcases hw with rfl | ⟨t, rfl⟩
    . exact RowKit.Below.refl _ _
    exact Lib.bytesWorld_below w _ t
def bFn (s : ByteArray) (hs : s.size <= 1048576) (h : (iN s).2 = false) : aB P 223 [Ns s] [] 0 (.tup [.raw (.int .i64 (iN s).1), .iface 261 .any]) := by
  refine iO ⟨trivial, trivial, trivial⟩ fun C w vals hR hv => ?_
  rw [bKj hv]
  have hrep : ∀ (hp : Array Obj) (N : Nat) (n : Int), Rep C.ρ (C.avoid []) hp (.tup [.raw (.int .i64 n), .iface 261 .any]) (.tuple #[.int .i64 n, .iface 261 (.pointer (some ⟨N, 0, none⟩))]) := fun hp N n => .tup _ _ rfl fun j x hj => by
    match j, hj with
    | 0, hj => cases hj; exact .raw _
    | 1, hj => cases hj; exact .iface _ _ _ (.any _)
  cases hat : Lib.atoiAll s.data.toList with
  | ok v => unfold iN at h; rw [hat] at h; cases h
  | range =>
    have hv0 : (iN s).1 = Lib.atoiSat s.data.toList := by unfold iN; rw [hat]
    obtain ⟨te, pe, hc⟩ := bRp hR (.inr rfl)
    refine (Any.strconv_Atoi_range Tryz.laysC172 s og hat _ w hc (.inr ⟨te, pe, rfl⟩)).mono fun e w' ⟨N, he, _, _, hB⟩ => ⟨_, he, ?_, hB⟩
    rw [hv0]; exact hrep _ N _
  | _ =>
    have hv0 : (iN s).1 = 0 := by unfold iN; rw [hat]
    obtain ⟨te, pe, hc⟩ := bRp hR (.inl rfl)
    refine (Any.strconv_Atoi_syntax Tryz.laysC172 s og hat _ w hc (.inr ⟨te, pe, rfl⟩)).mono fun e w' ⟨N, he, _, _, hB⟩ => ⟨_, he, ?_, hB⟩
    rw [hv0]; exact hrep _ N 0
def aAp (s : ByteArray) (c : Int) : aB P 231 [Ns s, .raw (.int .u8 c)] [] 0 (Ni (Lib.indexByte s.data.toList c.toNat.toUInt8)) := by
  refine iO trivial fun C w vals hR hv => ?_
  rw [aBc hv]
  refine (Any.strings_IndexByte Tryz.lays137 s c w).mono fun e w' ⟨he, hw⟩ => ⟨_, he, .raw _, ?_⟩
  rw [hw]; exact RowKit.Below.refl _ _
abbrev tY : AObj := .cells 144 [.raw (.pointer none), .raw (.slice none 0 0)]
def Di (h : G := by simp only [go_sem, AObj.ren, AV.ren, tY, aA, sg] <;> simp [Abs.get]) : G := h
abbrev lJ (k : Nat) : AObj := .cells 144 [.ptr 0 0, .ref k]
abbrev bJ (l : List UInt8) : AObj := .row 5 1 (l.map byteAV)
attribute [go_sem] aAa bHs
def Dv (h : R -> G := by intro k; simp only [go_sem, AObj.ren, AV.ren, Nat.add_zero, A0, Nat.sub_self, lJ, aA, bJ, sg, shift]; exact k) : R -> G := h
def Dh (h : R -> G := by intro k; simp only [go_sem, AObj.ren, AV.ren, Nat.add_zero, A0, Nat.sub_self, tY, lJ, aA, bJ, sg, shift]; exact k) : R -> G := h
def Cy (h : G := by simp only [go_sem, AObj.ren, AV.ren, lJ, aA, bJ, sg] <;> simp [Abs.get]) : G := h
def uPB : P.underlying 142 = some (.pointer 144) := kr
def uUP : P.underlying 226 = some .unsafePointer := kr
def uBS : P.underlying 100 = some (.slice 5) := kr
def uST : P.underlying 9 = some .string := kr
def uPU : P.underlying 190 = some (.pointer 5) := kr
def ceU : P.cellsOf 5 = 1 := kr
def bLc : ∃ j, P.info? 144 = some j /\ j.size ≠ 0 := by
  have h : (P.info? 144).map (·.size) = some 2 := kr
  obtain ⟨j, hj, hs⟩ := A8.1 h
  exact ⟨j, hj, by rw [hs]; decide⟩
def bLp : ∃ i, P.info? 5 = some i /\ i.zero = some (.int .u8 0) /\ i.size = 1 /\ i.bytes = 1 := by
  have h : (P.info? 5).map (fun i => (i.zero, i.size, i.bytes)) = some (some (.int .u8 0), 1, 1) := kr
  obtain ⟨j, hj, hs⟩ := A8.1 h
  simp only [Prod.mk.injEq] at hs
  exact ⟨j, hj, hs.1, hs.2.1, hs.2.2⟩
def bPo : liesAt P P.depth 144 (2 / P.cellsOf 144) 0 144 1 = true := kr
def aBn : P.funcs[(204 : Nat)]? = some Tryz.f204 /\ (Tryz.f204.name == "runtime.NumGoroutine") = false /\ Tryz.f204.body.isNone = true /\ Extern.findNext Tryz.f204 = none /\ Extern.find Tryz.f204 = some Extern.AbiNoEscape.same := by
  refine ⟨?_, ?_, ?_, ?_, ?_⟩ <;> kernel_rfl
def aVl  : aH P 172 [.ptr 0 0] [(0, tY)] 1 (.tup []) [(0, .cells 144 [.ptr 0 0, .raw (.slice none 0 0)])] 1 := by
 refine (gq 20 [] func172) ?_
 simp only [tY]
 obtain ⟨j, hj, hjs⟩ := bLc
 refine sr rfl fun k1 => (ja) ?_
 refine vC (fun hN => aIe rfl rfl hN uPB rfl) (.inl rfl) ?_
 refine (ja) (k1 ?_)
 refine cd rfl (fun hc1 => ?_) (fun hc => by simp at hc)
 refine wg rfl ((ja) ?_)
 refine vC (fun hN => yF rfl rfl hN uPB uUP hj hjs rfl rfl dg) (.inl rfl) ?_
 refine (ja) ?_
 refine vC (fun hN => yI rfl rfl rfl rfl hN aBn.1 aBn.2.1 aBn.2.2.1 aBn.2.2.2.1 aBn.2.2.2.2 rfl) (.inl rfl) ?_
 refine (ja) ?_
 refine vC (fun hN => vJ rfl rfl hN uUP uPB hj rfl rfl bPo) (.inl rfl) ?_
 refine (ja) ?_
 refine ⟨[], ?_⟩; exact jz
def aUu (l : List UInt8) : aH P 172 [.ptr 0 0] [(0, lJ 1), (1, bJ l)] 2 (.tup []) [(0, lJ 1), (1, bJ l)] 2 := by
 refine (gq 20 [] func172) ?_
 simp only [lJ, bJ]
 obtain ⟨j, hj, hjs⟩ := bLc
 refine sr rfl fun k1 => (ja) ?_
 refine vC (fun hN => aUz rfl rfl hN uPB rfl) (.inl rfl) ?_
 refine (ja) (k1 ((cdA) (fun hc => by simp at hc) fun hc1 => ?_))
 refine sr rfl fun k2 => (ja) ?_
 refine vC (fun hN => aUf rfl rfl hN uPB hj rfl rfl) (.inl rfl) ?_
 refine (ja) (k2 ((cdA) (fun hc => by simp at hc) fun hc2 => ?_))
 refine wk ?_; refine ⟨[], ?_⟩; exact jz
def aNx (s : ByteArray) (hs : s.size <= 140737488355328) : aH P 124 [.ptr 0 0, Ns s] [(0, tY)] 1 (.tup [Ni (s.size : Int), .raw .nilIface]) [(0, lJ 1), (1, bJ s.data.toList)] 2 := by
 refine (gq 19 [.tmp 4, .tmp 5] func124) ?_
 simp only [tY, lJ, bJ]
 have hmx := mxl
 refine (aj) ?_
 refine sr rfl fun k2 => (ja) ?_
 refine vg [] 0 rfl rfl rfl ⟨func172, rfl, rfl⟩ aVl rfl oG oG (nS (H1 := []) (.inl rfl) (by simp only [go_sem, tY]) (by simp only [go_sem, AObj.bel, tY])) (.inl rfl) ?_
 refine (jn) (k2 (sr rfl fun k3 => (ja) ?_))
 refine vC (fun hN => aPd rfl rfl rfl rfl rfl hN uBS uST bLp rfl rfl hs) (.inr dg) ?_
 refine (ja) ((jr) (k3 ((aj) (wR ?_))))
 refine ⟨[], ?_⟩; exact jz
def zS (l : List UInt8) (s : ByteArray) (hs : l.length + s.size <= 140737488355328) : aH P 124 [.ptr 0 0, Ns s] [(0, lJ 1), (1, bJ l)] 2 (.tup [Ni (s.size : Int), .raw .nilIface]) [(0, lJ 2), (1, .dead), (2, bJ (l ++ s.data.toList))] 3 := by
 refine (gq 19 [.tmp 4, .tmp 5] func124) ?_
 simp only [lJ, bJ]
 have hmx := mxl
 refine (aj) ?_
 refine sr rfl fun k2 => (ja) ?_
 refine vg [] 0 rfl rfl rfl ⟨func172, rfl, rfl⟩ (aUu l) rfl oG oG (mP (.inl rfl) (by simp only [go_sem, lJ, bJ]) (by simp only [go_sem, lJ, bJ]) (by simp only [go_sem, AObj.bel, lJ, bJ] <;> simp) (by simp only [go_sem, AObj.bel, lJ, bJ]) oS ⟨rfl, rfl⟩ dg) (.inl rfl) ?_
 refine (jn) (k2 (sr rfl fun k3 => (ja) ?_))
 refine vC (fun hN => aEq rfl rfl rfl rfl rfl hN uBS uST bLp rfl rfl rfl hs) (.inr dg) ?_
 refine (ja) ((jr) (k3 ((aj) (wR ?_))))
 refine ⟨[], ?_⟩; exact jz
def bOx (l : List UInt8) : aH P 126 [.ptr 0 0] [(0, lJ 1), (1, bJ l)] 2 (Ni (l.length : Int)) [(0, lJ 1), (1, bJ l)] 2 := by
 refine (gq 8 [.tmp 2] func126) ?_
 simp only [lJ, bJ]
 refine (aj) ?_
 refine sr rfl fun k2 => (Bp) (k2 (wR ?_))
 refine ⟨[], ?_⟩; exact jz
def bNc  : aH P 126 [.ptr 0 0] [(0, tY)] 1 (Ni 0) [(0, tY)] 1 := by
 refine (gq 8 [.tmp 2] func126) ?_
 simp only [tY]
 refine (aj) ((aj) (wR ?_))
 refine ⟨[], ?_⟩; exact jz
def bBv (l : List UInt8) (h0 : l ≠ []) : aH P 127 [.ptr 0 0] [(0, lJ 1), (1, bJ l)] 2 (Ns ⟨l.toArray⟩) [(0, lJ 1), (1, .dead)] 2 := by
 refine (gq 14 [.tmp 2] func127) ?_
 simp only [lJ, bJ]
 refine (aj) ?_
 refine sd mixed rfl fun k2 => (Bp) ?_
 refine aM (fun hN => xF (l := l) rfl rfl rfl rfl hN rfl rfl h0 (.inl dg)) (.inl rfl) ?_
 refine (Bp) ?_
 refine aM (fun hN => aIt (l := l) rfl rfl rfl rfl rfl hN uPU ceU rfl rfl rfl h0) (.inr dg) ?_
 refine (Bp) ((jy) (k2 (wR ?_)))
 refine ⟨[], ?_⟩; exact jz
end
section
variable {G : Prop} {n : Int}
def adr (b : Bool) : AV := if b then .ptr 0 0 else .raw (.pointer none)
def aN : adr true = .ptr 0 0 := rfl
def pG : adr false = .raw (.pointer none) := rfl
def bOp (b : Bool) : (adr b).bel (UU 2) := by
  cases b
  . trivial
  exact .inl dg
def bPe (b : Bool) : (adr b).ren (sg []) = adr b := AV.ren_nil _
attribute [go_sem] bOp bPe
abbrev eX (b : Bool) (k : Nat) : AObj := .cells 144 [adr b, .ref k]
def Cv (h : G := by simp only [go_sem, AObj.bel, aN, eX, bJ]) : G := h
def Cu (h : G := by simp only [go_sem, AObj.bel, aN, eX, bJ] <;> simp) : G := h
def Ct {R G : Prop} (h : R -> G := by intro k; simp only [go_sem, AObj.ren, AV.ren, Nat.add_zero, A0, Nat.sub_self, aN, eX, aA, bJ, sg, shift]; exact k) : R -> G := h
def Bu (h : G := by simp only [go_sem, aN, eX, bJ]) : G := h
def aTc {m : Int} (h0 : 0 <= m) (h1 : m <= 9) : aFv m = ⟨#[UInt8.ofNat (48 + m.toNat)]⟩ := by
  unfold aFv
  have e1 := wr (48 + m) (48 + m) og
  have e2 : IntKind.u8.wrap (48 + m) = 48 + m := by rw [IntKind.wrap_u8]; omega
  rw [e1, e2, show (48 + m).toNat = 48 + m.toNat by omega]; rfl
def bQg (a b : List UInt8) : (⟨a.toArray⟩ : ByteArray) ++ ⟨b.toArray⟩ = ⟨(a ++ b).toArray⟩ := by
  apply ByteArray.ext
  simp
def aMg : ∀ (f : Nat) (u : Nat) (out : ByteArray), u < 10 ^ (f + 1) -> tU f (u : Int) out = ⟨(Lib.decDigits u).toArray⟩ ++ out
  | 0, u, out, h => by
    unfold tU; rw [Lib.decDigits, dif_pos (by simpa using h), aTc og (by simp at h; omega)]; rfl
  | f + 1, u, out, h => by
    unfold tU; split
    . rename_i h9
      have hu : 10 <= u := by omega
      rw [Lib.decDigits, dif_neg og, H9 og, Int.tmod_eq_emod_of_nonneg og]
      have e1 : (u : Int) / 10 = ((u / 10 : Nat) : Int) := by omega
      have e2 : (u : Int) % 10 = ((u % 10 : Nat) : Int) := by omega
      rw [e1, e2, aMg f (u / 10) _ (by rw [Nat.pow_succ] at h; omega), aTc og og, <- bQg, ByteArray.append_assoc]
      rfl
    rename_i h9
    have hu : u < 10 := by omega
    rw [Lib.decDigits, dif_pos hu, aTc og og]; rfl
def aGf (h0 : -1000000000000000000 <= n) (h1 : n <= 1000000000000000000) : aZb n = dec n := by
  unfold aZb Lib.itoa dec aVx; split
  . rename_i h
    have e : -n = ((n.natAbs : Nat) : Int) := by omega
    rw [e, aMg 19 n.natAbs _ og]; apply ByteArray.ext
    simp
  rename_i h
  obtain ⟨u, rfl⟩ := Int.eq_ofNat_of_zero_le (by omega : 0 <= n)
  rw [aMg 19 u _ og]; apply ByteArray.ext
  simp
def bL (s : ByteArray) : List UInt8 := s.data.toList
def uC (a b : ByteArray) : bL (a ++ b) = bL a ++ bL b := by unfold bL; simp [ByteArray.data_append]
def rF (s : ByteArray) : (⟨(bL s).toArray⟩ : ByteArray) = s := by apply ByteArray.ext; simp [bL]
def aT (s : ByteArray) : (bL s).length = s.size := by unfold bL; rw [Array.length_toList]; rfl
def jU (e : Entry) : List Int := [e.seq, e.kind, e.n, (e.text.size : Int)]
def qX (ns : List Int) : List UInt8 := ns.flatMap fun n => bL (dec n ++ spB)
def bHt {ns : List Int} {k : Nat} (h : ns[k]? = some n) : qX (ns.take (k + 1)) = qX (ns.take k) ++ bL (dec n ++ spB) := by
  unfold qX; rw [E7, h, List.flatMap_append]
  simp
def aLv (ns : List Int) : (qX ns).length <= 22 * ns.length := by
  induction ns with
  | nil => simp [qX]
  | cons a r ih =>
    have h1 := gJ a
    have h2 : (bL (dec a ++ spB)).length = (dec a).size + 1 := by rw [aT, C7, bP]
    simp only [qX, List.flatMap_cons, A3, B7] at ih ⊢
    omega
def mH (ls : List Entry) : List UInt8 := bL (bTx ls)
def aCt {ls : List Entry} {i : Nat} {e : Entry} (h : ls[i]? = some e) : mH (ls.take (i + 1)) = mH (ls.take i) ++ bL (e.key ++ spB) ++ qX (jU e) ++ bL e.text := by
  unfold mH bTx; rw [E7, h, List.foldl_append]; simp only [Option.toList_some, List.foldl_cons, List.foldl_nil, pS, qX, jU, List.flatMap_cons, List.flatMap_nil, uC, F6, List.append_nil]
def aVk (l : List UInt8) : aH P 172 [.ptr 0 0] [(0, eX false 1), (1, bJ l)] 2 (.tup []) [(0, eX true 1), (1, bJ l)] 2 := by
 refine (gq 20 [] func172) ?_
 simp only [eX, bJ, aN, pG]
 obtain ⟨j, hj, hjs⟩ := bLc
 refine sr rfl fun k1 => (ja) ?_
 refine vC (fun hN => aIe rfl rfl hN uPB rfl) (.inl rfl) ?_
 refine (ja) (k1 ?_)
 refine cd rfl (fun hc1 => ?_) (fun hc => by simp at hc)
 refine wg rfl ((ja) ?_)
 refine vC (fun hN => yF rfl rfl hN uPB uUP hj hjs rfl rfl dg) (.inl rfl) ?_
 refine (ja) ?_
 refine vC (fun hN => yI rfl rfl rfl rfl hN aBn.1 aBn.2.1 aBn.2.2.1 aBn.2.2.2.1 aBn.2.2.2.2 rfl) (.inl rfl) ?_
 refine (ja) ?_
 refine vC (fun hN => vJ rfl rfl hN uUP uPB hj rfl rfl bPo) (.inl rfl) ?_
 refine (ja) ?_
 refine ⟨[], ?_⟩; exact jz
def aMp (l : List UInt8) (s : ByteArray) (hs : l.length + s.size <= 140737488355328) : aH P 124 [.ptr 0 0, Ns s] [(0, eX false 1), (1, bJ l)] 2 (.tup [Ni (s.size : Int), .raw .nilIface]) [(0, eX true 2), (1, .dead), (2, bJ (l ++ s.data.toList))] 3 := by
 refine (gq 19 [.tmp 4, .tmp 5] func124) ?_
 simp only [eX, bJ, aN, pG]
 have hmx := mxl
 refine (aj) ?_
 refine sr rfl fun k2 => (ja) ?_
 refine vg [] 0 rfl rfl rfl ⟨func172, rfl, rfl⟩ (aVk l) rfl oG oG (mP (.inl rfl) (by simp only [go_sem, eX, bJ, aN, pG]) (by simp only [go_sem, eX, bJ, aN, pG]) (by simp only [go_sem, AObj.bel, eX, bJ, aN, pG] <;> simp) (by simp only [go_sem, AObj.bel, eX, bJ, aN, pG]) oS ⟨rfl, rfl⟩ dg) (.inl rfl) ?_
 simp only [go_sem, AV.ren, AObj.ren, aA, shift, sg, A0, Nat.add_zero, Nat.sub_self, eX, bJ, aN, pG]
 refine k2 (sr rfl fun k3 => (ja) ?_)
 refine vC (fun hN => aEq rfl rfl rfl rfl rfl hN uBS uST bLp rfl rfl rfl hs) (.inr dg) ?_
 refine (ja) ((jr) (k3 ((aj) (wR ?_))))
 refine ⟨[], ?_⟩; exact jz
def uE (b : Bool) (l : List UInt8) (s : ByteArray) (hs : l.length + s.size <= 140737488355328) : aH P 124 [.ptr 0 0, Ns s] [(0, eX b 1), (1, bJ l)] 2 (.tup [Ni (s.size : Int), .raw .nilIface]) [(0, eX true 2), (1, .dead), (2, bJ (l ++ bL s))] 3 := by
  cases b
  . exact aMp l s hs
  exact zS l s hs
def bPv (l : List UInt8) : aH P 126 [.ptr 0 0] [(0, eX true 1), (1, bJ l)] 2 (Ni (l.length : Int)) [(0, eX true 1), (1, bJ l)] 2 := bOx l
def bGb (l : List UInt8) (h0 : l ≠ []) : aH P 127 [.ptr 0 0] [(0, eX true 1), (1, bJ l)] 2 (Ns ⟨l.toArray⟩) [(0, eX true 1), (1, .dead)] 2 := bBv l h0
end
def aZw {ls : List Entry} (h : ∀ e ∈ ls, e.key.size <= 1048576 /\ e.text.size <= 1048576) : ∀ i, (mH (ls.take i)).length <= 3000000 * i
  | 0 => by simp [mH, bTx, bL]
  | i + 1 => by
    have ih := aZw h i
    by_cases hi : i < ls.length
    . have he := A1 hi
      obtain ⟨h1, h2⟩ := h _ (D7 hi)
      have h3 := aLv (jU ls[i])
      have h4 : (jU ls[i]).length = 4 := rfl
      rw [aCt he]; simp only [A3, aT, C7, bP]; omega
    rw [List.take_of_length_le og]; rw [List.take_of_length_le og] at ih; omega
def bNf {e : Entry} {k : Nat} (h : k < 4) : ∃ n, (jU e)[k]? = some n /\ (n = e.seq ∨ n = e.kind ∨ n = e.n ∨ n = (e.text.size : Int)) := by
  have : k = 0 ∨ k = 1 ∨ k = 2 ∨ k = 3 := by omega
  rcases this with rfl | rfl | rfl | rfl
  . exact ⟨_, rfl, .inl rfl⟩
  . exact ⟨_, rfl, .inr (.inl rfl)⟩
  . exact ⟨_, rfl, .inr (.inr (.inl rfl))⟩
  exact ⟨_, rfl, .inr (.inr (.inr rfl))⟩
def bLk {ls : List Entry} (h : 1 <= ls.length) : mH ls ≠ [] := by
  intro h0
  obtain ⟨i, hi⟩ : ∃ i, ls.length = i + 1 := ⟨ls.length - 1, og⟩
  have he := A1 (l := ls) (i := i) og
  have h1 := aCt he
  rw [<- hi, C6, h0] at h1
  have h2 := congrArg List.length h1
  simp only [List.length_nil, A3, aT, C7, bP] at h2
  omega
def nX (ls : List Entry) (hz : dB ls) : aB P 72 [.sl 5 (ls.map enA)] [] 0 (Ns (fTx ls)) := by
 refine (pq 51 [.tmp 2] func72) ?_
 have hmx := mxl
 have hsp : (#[32] : Array UInt8).size = 1 := rfl
 have hsn : (#[10] : Array UInt8).size = 1 := rfl
 refine (aj) ?_
 refine sq fun k2 => sr rfl fun k3 => (ja) ((vq func123 (yZ ls hz)) (k3 ((cdA) ?_ ?_))) <;> intro hc1
 . have hb : isB ls = false := by simpa using hc1
   refine (aj) (wR ?_)
   refine fO ?_ trivial; simp only [go_sem, fTx, hb, B9, if_false]
 have hb : isB ls = true := by simpa using hc1
 obtain ⟨hok, hb1, hb2⟩ := dF hb
 have hbl := aZw (ls := ls) fun e he => eW (hok e he)
 refine wk (k2 ((aj) ?_))
 refine sq fun k6 => (aj) (wb ?_)
 refine uP (i := 0) (j := 1) 5 1 rfl rfl dg ?_
 refine (ja) ?_
 refine wn ls.length (fun x => ([(3, .ptr 0 0), (11, .sl 5 (ls.map enA)), (12, Ni (ls.length : Int)), (13, Ni (x : Int))], [(0, eX (decide (0 < x)) 1), (1, bJ (mH (ls.take x)))])) 2 [] ?_ ?_
 . simp only [go_sem, AObj.bel, eX, bJ, List.take_zero, Int.natCast_zero] <;> simp [adr, mH, bTx, bL]
 rintro i hi
 refine (aj) ?_
 refine sq fun k9 => (cdB) ?_ ?_ <;> intro hc2
 . have hge := gec hc2
   have hie : i = ls.length := by omega
   subst hie
   have hpos : decide (0 < ls.length) = true := by simp; omega
   have hbi := hbl ls.length
   rw [C6] at hbi; rw [C6, hpos]
   have hds := gJ ((bTx ls).size : Int)
   have hit : aZb ((mH ls).length : Int) = dec ((bTx ls).size : Int) := by rw [aGf og og]; unfold mH; rw [aT]
   refine we ((jt) (k6 (sr rfl fun k19 => (ja) ?_)))
   refine vg [] 0 rfl rfl rfl ⟨func126, rfl, rfl⟩ (bPv (mH ls)) rfl oG oG (mP (.inl rfl) Bu Bu Cu Cv oS ⟨rfl, rfl⟩ dg) (.inl rfl) ?_
   refine (Ct) ?_
   refine vs rfl rfl rfl func125 (xZ ((mH ls).length : Int) og og) oG oG ?_
   refine (Aa hit) ?_
   refine ⟨og, ?_⟩
   refine vg [] 0 rfl rfl rfl ⟨func127, rfl, rfl⟩ (bGb (mH ls) (bLk hb1)) rfl oG oG (mP (.inl rfl) Bu Bu Cu Cv oS ⟨rfl, rfl⟩ dg) (.inl rfl) ?_
   simp only [go_sem, AV.ren, AObj.ren, aA, shift, sg, A0, Nat.add_zero, Nat.sub_self, eX, bJ, aN, List.size_toArray]
   refine ⟨og, og, ?_⟩
   refine k19 (wR ?_)
   have hm : (⟨(mH ls).toArray⟩ : ByteArray) = bTx ls := rF _
   refine fO ?_ trivial; simp only [go_sem, fTx, hb, if_true, hm]
 obtain ⟨hlt, l, hl, hdrop, hml⟩ := ixc hc2
 obtain ⟨r1, r2, r3, r4, r5, r6, r7, r8⟩ := gM (hok l hml)
 obtain ⟨z1, z2⟩ := eW (hok l hml)
 have hbi := hbl i
 refine wk (k9 (sq fun k10 => wb (sr rfl fun k11 => (Ap hl) ((jr) (k11 (sr rfl fun k12 => (ja) ?_))))))
 refine ⟨og, ?_⟩
 refine vg [] 1 rfl rfl rfl ⟨func124, rfl, rfl⟩ (uE (decide (0 < i)) (mH (ls.take i)) (l.key ++ spB) (by rw [C7, bP]; omega)) rfl oG oG (mP (.inl rfl) (by simp only [go_sem, eX, bJ]) (by simp only [go_sem, eX, bJ]) (by simp only [go_sem, AObj.bel, eX, bJ] <;> simp) (by simp only [go_sem, AObj.bel, eX, bJ]) oS ⟨rfl, rfl⟩ dg) (.inr dg) ?_
 refine (Ct) (k12 (sq fun k13 => sr rfl fun k14 => (ja) ((jr) (k14 (wb ?_)))))
 refine wn 4 (fun x => ([(3, .ptr 0 0), (5, .ptr 3 0), (11, .sl 5 (ls.map enA)), (12, Ni (ls.length : Int)), (13, Ni (i : Int)), (30, .ref 2), (31, Ni (4 : Int)), (32, Ni (x : Int))], [(0, eX true 1), (1, bJ ((mH (ls.take i) ++ bL (l.key ++ spB)) ++ qX ((jU l).take x))), (2, .row 3 1 ((jU l).map inA)), (3, .cells 65 [Ns l.key, Ni l.seq, Ni l.kind, Ns l.text, Ni l.n])])) 4 [(1, 3), (2, 4), (3, 2)] ?_ ?_
 . simp only [go_sem, AObj.bel, AObj.ren, AV.ren, aA, sg, eX, bJ, aN, Int.natCast_zero] <;> simp [qX, aN]
   rfl
 rintro k hk
 refine (aj) ?_
 refine sq fun k16 => (cdB) ?_ ?_ <;> intro hc3
 . have hk4 : k = 4 := by simp at hc3; omega
   subst hk4
   have hft : (jU l).take 4 = jU l := rfl
   rw [hft]
   have hnl := aLv (jU l)
   have h44 : (jU l).length = 4 := rfl
   refine we ((jt) (k13 (wg rfl ((ja) ?_))))
   refine vg [] 1 rfl rfl rfl ⟨func124, rfl, rfl⟩ (uE (true) ((mH (ls.take i) ++ bL (l.key ++ spB)) ++ qX (jU l)) (l.text) (by simp only [A3, aT, C7, bP]; omega)) rfl oG oG (mP (.inl rfl) Bu Bu Cu Cv oS ⟨rfl, rfl⟩ dg) (.inr dg) ?_
   refine (Ct) ((jt) (k10 ?_))
   have hw := wiS i og
   have hfin : (mH (ls.take i)).map byteAV ++ ((bL (l.key ++ spB)).map byteAV ++ ((qX (jU l)).map byteAV ++ (bL l.text).map byteAV)) = (mH (ls.take (i + 1))).map byteAV := by rw [aCt hl]; simp only [E4, F6]
   refine wg rfl ((Aa hw) ((jt) ?_))
   refine ⟨i + 1, og, og, [(1, 4)], ?_⟩
   simp only [go_sem, AObj.bel, AObj.ren, AV.ren, aA, sg, eX, bJ, aN, Int.natCast_zero] <;> simp [hfin, aN, AV.ren, sg, Abs.get]
 have hlt4 : k < 4 := by simp at hc3; omega
 obtain ⟨n, hn, hnc⟩ := bNf (e := l) hlt4
 have h44 : (jU l).length = 4 := rfl
 have hnum : (qX ((jU l).take (k + 1))).map byteAV = (qX ((jU l).take k)).map byteAV ++ (bL (dec n ++ spB)).map byteAV := by rw [bHt hn, E4]
 have hit := aGf (n := n) og og
 have hds := gJ n
 have hnl := aLv ((jU l).take k)
 rw [A7] at hnl
 refine wk (k16 (sq fun k17 => wb (sr rfl fun k18 => ?_)))
 simp only [go_sem, hn, inA, A2, B5]
 refine (jr) (k18 (wg rfl ((ja) ?_)))
 skip
 refine vs rfl rfl rfl func125 (xZ n og og) oG oG ?_
 refine (Aa hit) ?_
 refine ⟨og, ?_⟩
 refine vg [] 1 rfl rfl rfl ⟨func124, rfl, rfl⟩ (uE (true) ((mH (ls.take i) ++ bL (l.key ++ spB)) ++ qX ((jU l).take k)) (dec n ++ spB) (by simp only [A3, aT, C7, bP]; omega)) rfl oG oG (mP (.inl rfl) Bu Bu Cu Cv oS ⟨rfl, rfl⟩ dg) (.inr dg) ?_
 refine (Ct) ((jt) (k17 ?_))
 have hwk := wiS k og
 refine wg rfl ((Aa hwk) ((jt) ?_))
 refine ⟨k + 1, og, og, [(1, 4)], ?_⟩
 simp only [go_sem, AObj.bel, AObj.ren, AV.ren, aA, sg, eX, bJ, aN, Int.natCast_zero] <;> simp [hnum]
section
variable {G A : Prop} {s : ByteArray} {a : Nat}
abbrev rdr (s : ByteArray) (a : Nat) : AObj := .cells 187 [.raw (.string s), .raw (.int .i64 (a : Int))]
def Dt (h : G := by simp only [go_sem, AObj.bel, AObj.ren, AV.ren, Int.natCast_zero, List.map_nil, rdr, aA, sg] <;> simp) : G := h
def Cw (e : A) (h : A -> G := by intro e; simp only [go_sem, e, AObj.bel, AObj.ren, AV.ren, enA, rdr, aA, sg, iG] <;> simp) : G := h e
def Cf (e : A) (h : A -> G := by intro e; simp only [go_sem, e, AObj.bel, AObj.ren, AV.ren, List.map_nil, rdr, aA, sg] <;> simp) : G := h e
def Ce {R G : Prop} (h : R -> G := by intro k; simp only [go_sem, AObj.ren, AV.ren, Nat.add_zero, A0, Nat.sub_self, rdr, aA, sg, shift]; exact k) : R -> G := h
def Cd (e : A) (h : A -> G := by intro e; simp only [go_sem, e, AObj.bel, AObj.ren, AV.ren, rdr, aA, sg] <;> simp) : G := h e
def Bq (h : G := by simp only [go_sem, rdr]) : G := h
def Bh (h : G := by simp only [go_sem, AObj.bel, rdr] <;> simp) : G := h
def lW (s : ByteArray) (a : Nat) : ByteArray := s.extract a (min s.size (a + 9))
def aBx (s : ByteArray) (a : Nat) : Int := Lib.indexByte (lW s a).data.toList 32
def wI (s : ByteArray) (a : Nat) : ByteArray × Bool × Nat := if aBx s a < 0 then (⟨#[]⟩, false, a) else ((lW s a).extract 0 (aBx s a).toNat, true, a + ((aBx s a).toNat + 1))
def nI (s : ByteArray) (a : Nat) : Int × Bool × Nat := if (wI s a).2.1 = true then ((iN (wI s a).1).1, (iN (wI s a).1).2, (wI s a).2.2) else (0, false, (wI s a).2.2)
def tI (s : ByteArray) (a : Nat) (n : Int) : ByteArray × Bool × Nat := if n < 0 ∨ (s.size : Int) - a < n then (⟨#[]⟩, false, a) else (s.extract a (a + n.toNat), true, a + n.toNat)
def aDj : ∀ (l : List UInt8) (c : UInt8), Lib.indexByte l c < l.length /\ -1 <= Lib.indexByte l c
  | [], c => by simp [Lib.indexByte]
  | b :: l, c => by
    have ih := aDj l c
    unfold Lib.indexByte; simp only [B7]; split
    . omega
    split <;> omega
def bDe (ha : a <= s.size) : aBx s a < (min s.size (a + 9) - a : Nat) /\ -1 <= aBx s a := by
  have h := aDj (lW s a).data.toList 32
  have h2 : (lW s a).data.toList.length = min s.size (a + 9) - a := by
    rw [Array.length_toList]
    exact nQ s a _ og
  rw [h2] at h; exact h
def aQt (ha : a <= s.size) : a <= (wI s a).2.2 /\ (wI s a).2.2 <= s.size /\ (wI s a).1.size <= 8 /\ ((wI s a).2.1 = true -> a < (wI s a).2.2) := by
  have h := bDe ha
  unfold wI; split
  . exact ⟨A0 _, ha, A6 _, fun h => by cases h⟩
  simp only
  refine ⟨og, og, ?_, fun _ => by omega⟩
  rw [ByteArray.size_extract]; omega
def bDq (ha : a <= s.size) : a <= (nI s a).2.2 /\ (nI s a).2.2 <= s.size /\ ((nI s a).2.1 = true -> a < (nI s a).2.2) := by
  have h := aQt ha
  unfold nI; split
  . rename_i hw; exact ⟨h.1, h.2.1, fun _ => h.2.2.2 hw⟩
  exact ⟨h.1, h.2.1, fun h => by cases h⟩
def aXj {n : Int} (ha : a <= s.size) : a <= (tI s a n).2.2 /\ (tI s a n).2.2 <= s.size := by
  unfold tI; split
  . exact ⟨A0 _, ha⟩
  simp only; omega
def iQ (s : ByteArray) (a : Nat) (ha : a <= s.size) (hs : s.size <= 1048576) : aH P 222 [.ptr 0 0] [(0, rdr s a)] 1 (.tup [.raw (.string (wI s a).1), .raw (.bool (wI s a).2.1)]) [(0, rdr s (wI s a).2.2)] 1 := by
 refine (gq 43 [.tmp 2, .tmp 3] func222) ?_
 simp only [rdr]
 refine (aj) ?_
 have hw1 := wr ((a : Int) + 8) ((a : Int) + 8) og
 have hw2 := wr ((a : Int) + 8 + 1) ((a : Int) + 8 + 1) og
 have hmn : (min (s.size : Int) ((a : Int) + 8 + 1)).toNat = min s.size (a + 9) := by omega
 have hah : s.extract a (min s.size (a + 9)) = lW s a := rfl
 refine sd mixed rfl fun k2 => (Ax hw1 hw2 hmn hah) ((jr) ((jy) (k2 ?_)))
 have hix : Lib.indexByte (lW s a).data.toList (Int.toNat 32).toUInt8 = aBx s a := rfl
 have hsz := bDe ha
 have hes : (lW s a).size = min s.size (a + 9) - a := nQ s a _ og
 refine sr rfl fun k3 => (ja) ?_
 refine vs rfl rfl rfl func231 (aAp (lW s a) 32) oG oG ?_
 refine (Aa hix) (k3 (sq fun k4 => (aj) ((cdA) ?_ ?_))) <;> intro hc1
 . have h9 : wI s a = (⟨#[]⟩, false, a) := by unfold wI; rw [if_pos (by simpa using hc1)]
   refine (aj) (wR ?_)
   refine ⟨[], ?_⟩
   exact Cd h9
 have hc9 : ¬ aBx s a < 0 := by simpa using hc1
 have h9 : wI s a = ((lW s a).extract 0 (aBx s a).toNat, true, a + ((aBx s a).toNat + 1)) := by unfold wI; rw [if_neg hc9]
 refine wk (k4 ?_)
 have hw5 := wr (aBx s a + 1) (aBx s a + 1) og
 have hw6 := wr ((a : Int) + (aBx s a + 1)) (((a + ((aBx s a).toNat + 1) : Nat) : Int)) og
 refine sr rfl fun k7 => (Ar hw5 hw6) (k7 (sr rfl fun k8 => (ja) ((jr) (k8 (wR ?_)))))
 refine ⟨[], ?_⟩
 exact Cd h9
def aWi (s : ByteArray) (a : Nat) (ha : a <= s.size) (hs : s.size <= 1048576) (hat : (iN (wI s a).1).2 = true) : aH P 201 [.ptr 0 0] [(0, rdr s a)] 1 (.tup [.raw (.int .i64 (nI s a).1), .raw (.bool (nI s a).2.1)]) [(0, rdr s (nI s a).2.2)] 1 := by
 refine (gq 23 [.tmp 2, .tmp 3] func201) ?_
 simp only [rdr]
 have hl := aQt ha
 refine (aj) ?_
 refine sr rfl fun k2 => (ja) ?_
 refine vg [] 0 rfl rfl rfl ⟨func222, rfl, rfl⟩ (iQ s a ha hs) rfl oG oG (nS (H1 := []) (.inl rfl) Bq Bh) (.inl rfl) ?_
 refine (Ce) (k2 (sq fun k3 => (aj) ((cdA) ?_ ?_))) <;> intro hc1
 . have hw : (wI s a).2.1 = false := by simpa using hc1
   have h9 : nI s a = (0, false, (wI s a).2.2) := by unfold nI; rw [if_neg (by rw [hw]; simp)]
   refine (aj) (wR ?_)
   refine ⟨[], ?_⟩
   exact Cd h9
 have hw : (wI s a).2.1 = true := by simpa using hc1
 have h9 : nI s a = ((iN (wI s a).1).1, (iN (wI s a).1).2, (wI s a).2.2) := by unfold nI; rw [if_pos hw]
 refine wk (k3 (sr rfl fun k6 => (ja) ((vq func223 (bGk (wI s a).1 og hat)) (k6 (sd mixed rfl fun k7 => (ja) ((jy) (k7 (wR ?_))))))))
 refine ⟨[], ?_⟩
 simp only [go_sem, AObj.bel, AObj.ren, AV.ren, aA, sg, rdr, h9, hat] <;> simp
def aYq (s : ByteArray) (a : Nat) (ha : a <= s.size) (hs : s.size <= 1048576) (hat : (iN (wI s a).1).2 = false) : aH P 201 [.ptr 0 0] [(0, rdr s a)] 1 (.tup [.raw (.int .i64 (nI s a).1), .raw (.bool (nI s a).2.1)]) [(0, rdr s (nI s a).2.2)] 1 := by
 refine (gq 23 [.tmp 2, .tmp 3] func201) ?_
 simp only [rdr]
 have hl := aQt ha
 refine (aj) ?_
 refine sr rfl fun k2 => (ja) ?_
 refine vg [] 0 rfl rfl rfl ⟨func222, rfl, rfl⟩ (iQ s a ha hs) rfl oG oG (nS (H1 := []) (.inl rfl) Bq Bh) (.inl rfl) ?_
 refine (Ce) (k2 (sq fun k3 => (aj) ((cdA) ?_ ?_))) <;> intro hc1
 . have hw : (wI s a).2.1 = false := by simpa using hc1
   have h9 : nI s a = (0, false, (wI s a).2.2) := by unfold nI; rw [if_neg (by rw [hw]; simp)]
   refine (aj) (wR ?_)
   refine ⟨[], ?_⟩
   exact Cd h9
 have hw : (wI s a).2.1 = true := by simpa using hc1
 have h9 : nI s a = ((iN (wI s a).1).1, (iN (wI s a).1).2, (wI s a).2.2) := by unfold nI; rw [if_pos hw]
 refine wk (k3 (sr rfl fun k6 => (ja) ((vq func223 (bFn (wI s a).1 og hat)) (k6 (sd mixed rfl fun k7 => (ja) ((jy) (k7 (wR ?_))))))))
 refine ⟨[], ?_⟩
 simp only [go_sem, AObj.bel, AObj.ren, AV.ren, aA, sg, rdr, h9, hat] <;> simp
def iR (s : ByteArray) (a : Nat) (ha : a <= s.size) (hs : s.size <= 1048576) (n : Int) (h0 : -9223372036854775808 <= n) (h1 : n <= 9223372036854775807) : aH P 202 [.ptr 0 0, Ni n] [(0, rdr s a)] 1 (.tup [.raw (.string (tI s a n).1), .raw (.bool (tI s a n).2.1)]) [(0, rdr s (tI s a n).2.2)] 1 := by
 refine (gq 45 [.tmp 4, .tmp 5] func202) ?_
 simp only [rdr]
 refine (aj) ?_
 refine sq fun k2 => ?_
 have hw1 := wr ((s.size : Int) - (a : Int)) ((s.size : Int) - (a : Int)) og
 refine sd mixed rfl fun k3 => (Aa hw1) ((jy) (k3 ((cdA) ?_ ?_))) <;> intro hc1
 . have h9 : tI s a n = (⟨#[]⟩, false, a) := by unfold tI; rw [if_pos]; simp at hc1; omega
   refine (aj) (wR ?_)
   refine ⟨[], ?_⟩
   exact Cd h9
 have hc9 : 0 <= n /\ n <= (s.size : Int) - a := by simp at hc1; omega
 have h9 : tI s a n = (s.extract a (a + n.toNat), true, a + n.toNat) := by unfold tI; rw [if_neg og]
 have hw3 := wr ((a : Int) + n) (((a + n.toNat : Nat) : Int)) og
 have hw4 := wr (((a + n.toNat : Nat) : Int) - n) ((a : Int)) og
 have hto : ((a + n.toNat : Nat) : Int).toNat = a + n.toNat := by omega
 refine wk (k2 (sr rfl fun k5 => (Aa hw3) (k5 (sd mixed rfl fun k6 => (Ar hw4 hto) ((jr) ((jy) (k6 (wR ?_))))))))
 refine ⟨[], ?_⟩
 exact Cd h9
def aYt (s : ByteArray) (a : Nat) (ha : a <= s.size) (hs : s.size <= 1048576) : aH P 201 [.ptr 0 0] [(0, rdr s a)] 1 (.tup [.raw (.int .i64 (nI s a).1), .raw (.bool (nI s a).2.1)]) [(0, rdr s (nI s a).2.2)] 1 := by
  cases h : (iN (wI s a).1).2
  . exact aYq s a ha hs h
  exact aWi s a ha hs h
end
def aNc (L : List Int) : List Int := L ++ List.replicate (4 - L.length) 0
def bLt {L : List Int} (h : L.length <= 4) : (aNc L).length = 4 := by
  unfold aNc; rw [A3, List.length_replicate]; omega
def bBr {L : List Int} (h : L.length < 4) (v : Int) : cH ((aNc L).map inA) L.length [Ni v] = (aNc (L ++ [v])).map inA := by
  unfold cH aNc
  obtain ⟨k, hk⟩ : ∃ k, 4 - L.length = k + 1 := ⟨3 - L.length, og⟩
  rw [hk, show 4 - (L ++ [v]).length = k by rw [A3, List.length_singleton]; omega, List.replicate_succ, E4, List.map_cons]
  have e1 : (L.map inA ++ inA 0 :: (List.replicate k 0).map inA).take L.length = L.map inA := by
    rw [List.take_left' oS]
  have e2 : (L.map inA ++ inA 0 :: (List.replicate k 0).map inA).drop (L.length + [AV.raw (Value.int IntKind.i64 v)].length) = (List.replicate k 0).map inA := by
    rw [List.length_singleton, <- List.drop_drop, List.drop_left' oS]; rfl
  rw [e1, e2]
  simp [inA]
def eP (s : ByteArray) : Nat -> Nat -> List Int × Bool × Nat
  | 0, a => ([], true, a)
  | k + 1, a => if (nI s a).2.1 = true then ((nI s a).1 :: (eP s k (nI s a).2.2).1, (eP s k (nI s a).2.2).2) else ([], false, (nI s a).2.2)
def aVd (L : List Int) (r : List Int × Bool × Nat) : List Int × Bool × Nat := (L ++ r.1, r.2)
def bFq {s : ByteArray} {k a : Nat} {L : List Int} (h : (nI s a).2.1 = true) : aVd L (eP s (k + 1) a) = aVd (L ++ [(nI s a).1]) (eP s k (nI s a).2.2) := by
  unfold aVd; rw [eP, if_pos h]
  simp
def bNx {s : ByteArray} {k a : Nat} {L : List Int} (h : (nI s a).2.1 = false) : aVd L (eP s (k + 1) a) = (L, false, (nI s a).2.2) := by
  unfold aVd
  rw [eP, if_neg (by rw [h]; simp)]
  simp
def bIi {s : ByteArray} {a : Nat} {L : List Int} : aVd L (eP s 0 a) = (L, true, a) := by
  unfold aVd eP; simp
def eI (s : ByteArray) (a : Nat) : Entry × Bool × Nat :=
  if (wI s a).2.1 = true then
    (if (eP s 4 (wI s a).2.2).2.1 = true then
      (if (tI s (eP s 4 (wI s a).2.2).2.2 ((eP s 4 (wI s a).2.2).1.getD 3 0)).2.1 = true then
        (⟨(wI s a).1, (eP s 4 (wI s a).2.2).1.getD 0 0, (eP s 4 (wI s a).2.2).1.getD 1 0, (tI s (eP s 4 (wI s a).2.2).2.2 ((eP s 4 (wI s a).2.2).1.getD 3 0)).1, (eP s 4 (wI s a).2.2).1.getD 2 0⟩, true, (tI s (eP s 4 (wI s a).2.2).2.2 ((eP s 4 (wI s a).2.2).1.getD 3 0)).2.2)
      else (iG, false, (tI s (eP s 4 (wI s a).2.2).2.2 ((eP s 4 (wI s a).2.2).1.getD 3 0)).2.2))
    else (iG, false, (eP s 4 (wI s a).2.2).2.2))
  else (iG, false, (wI s a).2.2)
def bKu : P.underlying 243 = some (.array 4 3) := kr
def bJg : (P.info? 3).map (·.size) = some 1 := kr
def aXf (s : ByteArray) : -9223372036854775808 <= (iN s).1 /\ (iN s).1 <= 9223372036854775807 := by
  unfold iN; split
  . rename_i v h
    simp only
    unfold Lib.atoiAll at h; split at h
    . cases h
    simp only at h
    split at h
    . cases h
    . cases h
    rename_i u _
    split at h
    . cases h
    split at h
    . cases h
    rename_i h1 h2
    cases h; split
    . rename_i hn
      have : ¬ 9223372036854775808 < u := fun h => h2 ⟨hn, h⟩
      omega
    rename_i hn
    have : ¬ 9223372036854775808 <= u := fun h => h1 ⟨hn, h⟩
    omega
  . simp only [Lib.atoiSat]; split <;> omega
  simp only; omega
def aYa (s : ByteArray) (a : Nat) : -9223372036854775808 <= (nI s a).1 /\ (nI s a).1 <= 9223372036854775807 := by
  unfold nI; split
  . exact aXf _
  simp only; omega
def aZi {s : ByteArray} : ∀ (k a : Nat), a <= s.size -> a <= (eP s k a).2.2 /\ (eP s k a).2.2 <= s.size
  | 0, a, h => ⟨A0 _, h⟩
  | k + 1, a, h => by
    have h1 := bDq h
    unfold eP; split
    . have := aZi k _ h1.2.1
      simp only; omega
    simp only; omega
def bRy {s : ByteArray} {a : Nat} (ha : a <= s.size) : a <= (eI s a).2.2 /\ (eI s a).2.2 <= s.size /\ ((eI s a).2.1 = true -> a < (eI s a).2.2) := by
  have h1 := aQt ha
  have h2 := aZi 4 _ h1.2.1
  have h3 := aXj (n := (eP s 4 (wI s a).2.2).1.getD 3 0) h2.2
  unfold eI; split
  . rename_i hw
    have := h1.2.2.2 hw
    split
    . split
      . simp only; exact ⟨og, h3.2, fun _ => by omega⟩
      simp only; exact ⟨og, h3.2, fun h => by cases h⟩
    simp only; exact ⟨og, h2.2, fun h => by cases h⟩
  exact ⟨h1.1, h1.2.1, fun h => by cases h⟩
def wQ (s : ByteArray) (a : Nat) (ha : a <= s.size) (hs : s.size <= 1048576) : aH P 203 [.ptr 0 0] [(0, rdr s a)] 1 (.tup [enA (eI s a).1, .raw (.bool (eI s a).2.1)]) [(0, rdr s (eI s a).2.2)] 1 := by
 refine (gq 50 [.cell 2 65, .tmp 3] func203) ?_
 simp only [rdr]
 have hl := aQt ha
 have tn3 : (3 : Int).toNat = 3 := rfl
 refine (aj) ?_
 refine sr rfl fun k2 => (ja) ?_
 refine vg [] 0 rfl rfl rfl ⟨func222, rfl, rfl⟩ (iQ s a ha hs) rfl oG oG (nS (H1 := []) (.inl rfl) Bq Bh) (.inl rfl) ?_
 refine (Ce) (k2 (sq fun k3 => (aj) ((cdA) ?_ ?_))) <;> intro hc1
 . have hw0 : (wI s a).2.1 = false := by simpa using hc1
   have h9 : eI s a = (iG, false, (wI s a).2.2) := by unfold eI; rw [if_neg (by rw [hw0]; simp)]
   refine (aj) (wR ?_)
   refine ⟨[], ?_⟩
   exact Cw h9
 have hw0 : (wI s a).2.1 = true := by simpa using hc1
 refine wk (k3 ((aj) ?_))
 refine sq fun k7 => (aj) (wb ?_)
 refine wl (α := List Int × Nat) (fun x => x.1.length <= 4 /\ x.2 <= s.size /\ (∀ v ∈ x.1, -9223372036854775808 <= v /\ v <= 9223372036854775807) /\ aVd x.1 (eP s (4 - x.1.length) x.2) = eP s 4 (wI s a).2.2) (fun x => 4 - x.1.length) (fun x => ([(0, .ptr 0 0), (2, .ptr 1 0), (4, .raw (.string (wI s a).1)), (6, .ptr 2 0), (17, Ni (x.1.length : Int))], [(0, rdr s x.2), (1, .cells 65 [Ns ⟨#[]⟩, Ni 0, Ni 0, Ns ⟨#[]⟩, Ni 0]), (2, .cells 243 ((aNc x.1).map inA))])) 3 ([], (wI s a).2.2) ⟨by simp, hl.2.1, by simp, by unfold aVd; simp⟩ [] ?_ ?_
 . simp only [go_sem, AObj.bel, AObj.ren, AV.ren, aA, sg, rdr, Int.natCast_zero] <;> simp [aNc, inA]
 rintro ⟨L, b⟩ ⟨hL, hb, hr, hgo⟩
 simp only at hL hb hr hgo ⊢
 refine (aj) ?_
 refine sq fun k10 => (cdA) ?_ ?_ <;> intro hc2
 . have hlt : L.length < 4 := by simp at hc2; omega
   obtain ⟨k, hk⟩ : ∃ k, 4 - L.length = k + 1 := ⟨3 - L.length, og⟩
   have hsp := bBr hlt (nI s b).1
   have hsp2 : ((aNc L).map inA).take L.length ++ AV.raw (.int .i64 (nI s b).1) :: ((aNc L).map inA).drop (L.length + 1) = (aNc (L ++ [(nI s b).1])).map inA := by simpa [cH] using hsp
   have hpl := bLt hL
   have hle4 : (L.length + 1 <= 4) = True := by simp; omega
   have hn := bDq hb
   refine wk (k10 (sq fun k11 => wb ((aj) ?_)))
   refine sr rfl fun k13 => ?_
   simp only [go_sem, hsp, hpl, hle4]
   refine (jr) ?_
   refine vg [] 0 rfl rfl rfl ⟨func201, rfl, rfl⟩ (aYt s b hb hs) rfl oG oG (nS (H1 := []) (.inl rfl) Bq Bh) (.inl rfl) ?_
   refine (Ce) ((jr) ?_)
   refine vC (fun hN => aR (n := (L.length : Int)) rfl rfl hN bKu bJg rfl rfl og og) (.inl rfl) ?_
   simp only [go_sem, Int.toNat_natCast, Nat.mul_one, C5, hsp, hpl, hle4, A2, hsp, hpl, hle4]
   refine (jr) (k13 ((aj) ((cdA) ?_ ?_))) <;> intro hc3
   . have hok : (nI s b).2.1 = false := by simpa using hc3
     rw [hk, bNx hok] at hgo
     have h9 : eI s a = (iG, false, (nI s b).2.2) := by unfold eI; rw [if_pos hw0, <- hgo, if_neg oS]
     refine (aj) (wR ((Ad) ?_))
     refine ⟨[], ?_⟩
     exact Cw h9
   have hok : (nI s b).2.1 = true := by simpa using hc3
   refine wk ((jt) (k11 ?_))
   have hw := wr ((L.length : Int) + 1) (((L.length + 1 : Nat) : Int)) og
   refine wg rfl ((Aa hw) ((jt) ?_))
   refine ⟨(L ++ [(nI s b).1], (nI s b).2.2), ⟨by simp; omega, hn.2.1, fun v hv => (by rcases B4.1 hv with h | h; exact hr v h; rw [B6.1 h]; exact aYa s b), by rw [A3, List.length_singleton, show 4 - (L.length + 1) = k from by omega]; rw [hk, bFq hok] at hgo; exact hgo⟩, by simp only [A3, List.length_singleton]; omega, [], ?_⟩
   simp only [go_sem, AObj.bel, AObj.ren, AV.ren, aA, sg, rdr] <;> simp
   exact hsp2
 have hl4 : L.length = 4 := by simp at hc2; omega
 rw [hl4, Nat.sub_self, bIi] at hgo
 obtain ⟨p, q, r, t, rfl⟩ : ∃ p q r t, L = [p, q, r, t] := by
   match L, hl4 with
   | [p, q, r, t], _ => exact ⟨p, q, r, t, rfl⟩
 have padL : aNc [p, q, r, t] = [p, q, r, t] := rfl
 obtain ⟨hr1, hr2⟩ := hr t oS
 have hns : (eP s 4 (wI s a).2.2).2.1 = true := by rw [<- hgo]
 refine we ((jt) (k7 (sr rfl fun k16 => (ja) ((jr) ?_))))
 refine vC (fun hN => aR (n := 3) rfl rfl hN bKu bJg rfl rfl dg dg) (.inl rfl) ?_
 refine (Cx) ((jr) ?_)
 refine vg [] 0 rfl rfl rfl ⟨func202, rfl, rfl⟩ (iR s b hb hs t og og) rfl oG oG (nS (H1 := []) (.inl rfl) Bq Bh) (.inl rfl) ?_
 refine (Ce) ((jr) (k16 (sq fun k17 => (aj) ((cdA) ?_ ?_)))) <;> intro hc4
 . have ht0 : (tI s b t).2.1 = false := by simpa using hc4
   have h9 : eI s a = (iG, false, (tI s b t).2.2) := by unfold eI; rw [if_pos hw0, if_pos hns, <- hgo]; exact if_neg (by show ¬ (tI s b t).2.1 = true; rw [ht0]; simp)
   refine (aj) (wR ?_)
   refine ⟨[], ?_⟩
   exact Cw h9
 have ht0 : (tI s b t).2.1 = true := by simpa using hc4
 have h9 : eI s a = (⟨(wI s a).1, p, q, (tI s b t).1, r⟩, true, (tI s b t).2.2) := by unfold eI; rw [if_pos hw0, if_pos hns, <- hgo]; exact if_pos ht0
 refine wk (k17 (sr rfl fun k20 => (ja) ((jr) ?_)))
 refine vC (fun hN => aR (n := 0) rfl rfl hN bKu bJg rfl rfl dg dg) (.inl rfl) ?_
 refine (Cx) ((jr) ?_)
 refine vC (fun hN => aR (n := 1) rfl rfl hN bKu bJg rfl rfl dg dg) (.inl rfl) ?_
 refine (Cx) ((jr) ?_)
 refine vC (fun hN => aR (n := 2) rfl rfl hN bKu bJg rfl rfl dg dg) (.inl rfl) ?_
 refine (Cx) ((jr) (k20 (wR ?_)))
 refine ⟨[], ?_⟩
 exact Cw h9
def aZc (s : ByteArray) (a : Nat) (n : Int) : (tI s a n).1.size <= s.size := by
  unfold tI; split
  . exact A6 _
  show (s.extract a (a + n.toNat)).size <= s.size
  rw [ByteArray.size_extract]; omega
def bMf {s : ByteArray} {a : Nat} (ha : a <= s.size) : (eI s a).1.key.size <= 8 /\ (eI s a).1.text.size <= s.size := by
  have h1 := (aQt ha).2.2.1
  have hz : iG.key.size <= 8 /\ iG.text.size <= s.size := ⟨by decide, A6 _⟩
  unfold eI
  generalize wI s a = w at h1 ⊢
  generalize eP s 4 w.2.2 = r
  have h2 := aZc s r.2.2 (r.1.getD 3 0)
  generalize tI s r.2.2 (r.1.getD 3 0) = t at h2 ⊢
  split
  . split
    . split
      . exact ⟨h1, h2⟩
      exact hz
    exact hz
  exact hz
def jL (s : ByteArray) : Nat -> Nat -> List Entry -> List Entry × Bool
  | 0, _, out => (out, true)
  | f + 1, a, out => if a < s.size then (if (!(eI s a).2.1 || decide (12 <= (out.length : Int))) = true then (out, false) else jL s f (eI s a).2.2 (out ++ [(eI s a).1])) else (out, true)
def aNe {s : ByteArray} {f a : Nat} {out : List Entry} (h : ¬ a < s.size) : jL s f a out = (out, true) := by
  cases f with
  | zero => rfl
  | succ f => rw [jL, if_neg h]
def bAp (s : ByteArray) (a b : Nat) (r : List Entry) : Bool := !isB r || !((fTx r).toList == (s.extract a b).toList)
def bI (s : ByteArray) (a : Nat) : List Entry × Bool × Nat :=
  if (nI s a).2.1 = true then
    (if (tI s (nI s a).2.2 (nI s a).1).2.1 = true then
      (if (tI s (tI s (nI s a).2.2 (nI s a).1).2.2 1).2.1 = true then
        (if (jL (tI s (nI s a).2.2 (nI s a).1).1 (tI s (nI s a).2.2 (nI s a).1).1.size 0 []).2 = true then
          (if bAp s a (tI s (tI s (nI s a).2.2 (nI s a).1).2.2 1).2.2 (jL (tI s (nI s a).2.2 (nI s a).1).1 (tI s (nI s a).2.2 (nI s a).1).1.size 0 []).1 = true then ([], false, (tI s (tI s (nI s a).2.2 (nI s a).1).2.2 1).2.2)
          else ((jL (tI s (nI s a).2.2 (nI s a).1).1 (tI s (nI s a).2.2 (nI s a).1).1.size 0 []).1, true, (tI s (tI s (nI s a).2.2 (nI s a).1).2.2 1).2.2))
        else ([], false, (tI s (tI s (nI s a).2.2 (nI s a).1).2.2 1).2.2))
      else ([], false, (tI s (tI s (nI s a).2.2 (nI s a).1).2.2 1).2.2))
    else ([], false, (tI s (nI s a).2.2 (nI s a).1).2.2))
  else ([], false, (nI s a).2.2)
def bAa {s : ByteArray} {a : Nat} (ha : a <= s.size) : a <= (bI s a).2.2 /\ (bI s a).2.2 <= s.size /\ ((bI s a).2.1 = true -> a < (bI s a).2.2) := by
  have h1 := bDq ha
  have h2 := aXj (n := (nI s a).1) h1.2.1
  have h3 := aXj (n := 1) h2.2
  unfold bI; split
  . rename_i hn
    have := h1.2.2 hn
    split
    . split
      . split
        . split
          . simp only; exact ⟨og, h3.2, fun h => by cases h⟩
          simp only; exact ⟨og, h3.2, fun _ => by omega⟩
        simp only; exact ⟨og, h3.2, fun h => by cases h⟩
      simp only; exact ⟨og, h3.2, fun h => by cases h⟩
    simp only; exact ⟨og, h2.2, fun h => by cases h⟩
  exact ⟨h1.1, h1.2.1, fun h => by cases h⟩
def sU (s : ByteArray) : Nat -> Nat -> List (List Entry) -> List (List Entry) × Nat
  | 0, a, out => (out, a)
  | f + 1, a, out => if (bI s a).2.1 = true then sU s f (bI s a).2.2 (out ++ [(bI s a).1]) else (out, a)
def raI (s : ByteArray) : List (List Entry) × Nat := sU s (s.size + 1) 0 []
def wG (s : ByteArray) (a : Nat) (ha : a <= s.size) (hs : s.size <= 1048576) : aH P 169 [.ptr 0 0] [(0, rdr s a)] 1 (.tup [.sl 5 ((bI s a).1.map enA), .raw (.bool (bI s a).2.1)]) [(0, rdr s (bI s a).2.2)] 1 := by
 refine (gq 79 [.tmp 2, .tmp 3] func169) ?_
 simp only [rdr]
 have hmx := mxl
 have hn := bDq ha
 have hnr := aYa s a
 have ht := aXj (n := (nI s a).1) hn.2.1
 have hu := aXj (n := 1) ht.2
 obtain ⟨n1, hn1⟩ : ∃ z, z = (nI s a).1 := ⟨_, rfl⟩
 obtain ⟨n2, hn2⟩ : ∃ z, z = (nI s a).2.2 := ⟨_, rfl⟩
 obtain ⟨b0, hb0⟩ : ∃ z, z = (tI s n2 n1).1 := ⟨_, rfl⟩
 obtain ⟨t2, ht2⟩ : ∃ z, z = (tI s n2 n1).2.2 := ⟨_, rfl⟩
 obtain ⟨u2, hu2⟩ : ∃ z, z = (tI s t2 1).2.2 := ⟨_, rfl⟩
 rw [<- hn1, <- hn2] at ht hu
 rw [<- ht2] at ht hu
 rw [<- hu2] at hu; rw [<- hn2] at hn; rw [<- hn1] at hnr
 have hbs : b0.size <= s.size := by rw [hb0]; exact aZc _ _ _
 refine (aj) ((aj) ?_)
 refine sr rfl fun k3 => (ja) ?_
 refine vg [] 0 rfl rfl rfl ⟨func201, rfl, rfl⟩ (aYt s a ha hs) rfl oG oG (nS (H1 := []) (.inl rfl) Bq Bh) (.inl rfl) ?_
 simp only [go_sem, AV.ren, AObj.ren, aA, shift, sg, A0, Nat.add_zero, Nat.sub_self, rdr, <- hn1, <- hn2]
 refine k3 (sq fun k4 => (aj) ((cdA) ?_ ?_)) <;> intro hc1
 . have hk : (nI s a).2.1 = false := by simpa using hc1
   have h9 : bI s a = ([], false, n2) := by unfold bI; rw [if_neg (by rw [hk]; simp), hn2]
   refine (aj) ?_
   refine dZ (t := 2) 65 5 rfl dg ?_
   refine (ja) ?_
   refine aFz 1 rfl ?_
   refine (Ag) (wR ?_)
   refine ⟨[], ?_⟩
   exact Cf h9
 have hk1 : (nI s a).2.1 = true := by simpa using hc1
 refine wk (k4 (sr rfl fun k7 => (ja) ?_))
 refine vg [] 0 rfl rfl rfl ⟨func202, rfl, rfl⟩ (iR s n2 hn.2.1 hs n1 hnr.1 hnr.2) rfl oG oG (nS (H1 := []) (.inl rfl) Bq Bh) (.inl rfl) ?_
 simp only [go_sem, AV.ren, AObj.ren, aA, shift, sg, A0, Nat.add_zero, Nat.sub_self, rdr, <- hb0, <- ht2]
 refine k7 (sq fun k8 => (aj) ((cdA) ?_ ?_)) <;> intro hc2
 . have hk : (tI s n2 n1).2.1 = false := by simpa using hc2
   have h9 : bI s a = ([], false, t2) := by unfold bI; rw [if_pos hk1, <- hn1, <- hn2, if_neg (by rw [hk]; simp), ht2]
   refine (aj) ?_
   refine dZ (t := 2) 65 5 rfl dg ?_
   refine (ja) ?_
   refine aFz 1 rfl ?_
   refine (Ag) (wR ?_)
   refine ⟨[], ?_⟩
   exact Cf h9
 have hk2 : (tI s n2 n1).2.1 = true := by simpa using hc2
 refine wk (k8 (sq fun k11 => sr rfl fun k12 => (ja) ?_))
 refine vg [] 0 rfl rfl rfl ⟨func202, rfl, rfl⟩ (iR s t2 ht.2 hs 1 og og) rfl oG oG (nS (H1 := []) (.inl rfl) Bq Bh) (.inl rfl) ?_
 simp only [go_sem, AV.ren, AObj.ren, aA, shift, sg, A0, Nat.add_zero, Nat.sub_self, rdr, <- hu2]
 refine k12 ((aj) ((cdA) ?_ ?_)) <;> intro hc3
 . have hk : (tI s t2 1).2.1 = false := by simpa using hc3
   have h9 : bI s a = ([], false, u2) := by unfold bI; rw [if_pos hk1, <- hn1, <- hn2, if_pos hk2, <- ht2, if_neg (by rw [hk]; simp), hu2]
   refine (aj) ?_
   refine dZ (t := 2) 65 5 rfl dg ?_
   refine (ja) ?_
   refine aFz 1 rfl ?_
   refine (Ag) (wR ?_)
   refine ⟨[], ?_⟩
   exact Cf h9
 have hk3 : (tI s t2 1).2.1 = true := by simpa using hc3
 have hbI : bI s a = if (jL b0 b0.size 0 []).2 = true then (if bAp s a u2 (jL b0 b0.size 0 []).1 = true then ([], false, u2) else ((jL b0 b0.size 0 []).1, true, u2)) else ([], false, u2) := by
   unfold bI; rw [if_pos hk1, <- hn1, <- hn2, if_pos hk2, <- ht2, <- hb0, if_pos hk3, <- hu2]
 refine wk (k11 ((aj) ((aj) ?_)))
 refine sq fun k17 => wb ?_
 refine dZ (t := 9) 65 5 rfl dg ?_
 refine (ja) ?_
 refine wl (α := Nat × Nat × List Entry) (fun x => b0.size <= x.1 + x.2.1 /\ x.2.1 <= b0.size /\ x.2.2.length <= 12 /\ (∀ e ∈ x.2.2, e.key.size <= 1048576 /\ e.text.size <= 1048576) /\ jL b0 x.1 x.2.1 x.2.2 = jL b0 b0.size 0 []) (fun x => x.1) (fun x => ([(0, .ptr 0 0), (4, Ni (a : Int)), (7, Ns b0), (8, .ptr 1 0), (9, .ref 2)], [(0, rdr s u2), (1, rdr b0 x.2.1), (2, .row 65 5 (x.2.2.map enA))])) 3 (b0.size, 0, []) ⟨by simp, A6 _, by simp, by simp, rfl⟩ [] ?_ ?_
 . exact Dt
 rintro ⟨f, at0, out⟩ ⟨hf, hat, hol, hoz, hgo⟩
 simp only at hf hat hol hoz hgo ⊢
 refine sq fun k18 => (aj) ((cdA) ?_ ?_) <;> intro hc4
 . have hlt : at0 < b0.size := by simpa using hc4
   obtain ⟨g, rfl⟩ : ∃ g, f = g + 1 := ⟨f - 1, og⟩
   have he := bRy hat
   have hes := bMf hat
   refine wk (k18 (wb (sr rfl fun k20 => (Bm) ?_)))
   refine vg [(0, 1)] 0 rfl rfl rfl ⟨func203, rfl, rfl⟩ (wQ b0 at0 hat og) rfl Ba oG (nS (H1 := []) (.inr ⟨1, rfl⟩) (by simp only [go_sem, rdr, sg, AObj.ren] <;> simp [AV.ren, aA, sg, Abs.get]) Bh) (.inl rfl) ?_
   simp only [go_sem, AV.ren, AObj.ren, aA, shift, sg, A0, Nat.add_zero, Nat.sub_self, rdr, enA]
   refine k20 (sq fun k21 => (aj) ((cdA) ?_ ?_)) <;> intro hc5
   . rw [jL, if_pos hlt, if_pos hc5] at hgo
     have h9 : bI s a = ([], false, u2) := by rw [hbI, <- hgo]; exact if_neg oS
     refine (aj) ?_
     refine dZ (t := 2) 65 5 rfl dg ?_
     refine (ja) ?_
     refine aFz 4 rfl ?_
     refine (Ag) (wR ((Ad) ?_))
     refine ⟨[], ?_⟩
     exact Cf h9
   have hok : (eI b0 at0).2.1 = true /\ out.length < 12 := by simp at hc5; exact ⟨hc5.1, og⟩
   have hlt2 := he.2.2 hok.1
   refine wk (k21 (wg rfl ((Dq) ((jr) ((jt) ((jt) ?_))))))
   refine ⟨(g, (eI b0 at0).2.2, out ++ [(eI b0 at0).1]), ⟨by simp only; omega, he.2.1, by simp; omega, fun e h => (by rcases B4.1 h with h | h; exact hoz e h; rw [B6.1 h]; omega), by simp only; rw [jL, if_pos hlt, if_neg (by rw [hc5]; simp)] at hgo; exact hgo⟩, by simp only; omega, [(2, 5)], ?_⟩
   simp only [go_sem, AObj.bel, AObj.ren, AV.ren, aA, sg, rdr] <;> simp [enA]
 have hge : ¬ at0 < b0.size := by simpa using hc4
 rw [aNe hge] at hgo; rw [<- hgo] at hbI
 simp only [if_true] at hbI
 have hto : ((u2 : Nat) : Int).toNat = u2 := Int.toNat_natCast _
 refine we ((jt) (k17 (sq fun k24 => ?_)))
 have hmx : dB out := ⟨og, fun e he => ⟨by have := hoz e he; omega, by have := hoz e he; omega⟩⟩
 refine aFz 2 rfl ?_
 refine (Ag) ?_
 refine sd mixed rfl fun k25 => (Aa hto) ((jr) ?_)
 refine tp rfl rfl rfl ⟨func123, rfl, rfl⟩ (yZ out hmx) oG oG ?_
 refine (ja) ((jr) ?_)
 refine tpg rfl rfl rfl rfl rfl rfl ⟨func72, rfl, rfl⟩ (fun hg => nX out hmx) oG (fun hg => oG) oG trivial ?_
 refine (ja) ((jr) ((jy) (k25 ((cdA) ?_ ?_)))) <;> intro hc6
 . have h9 : bI s a = ([], false, u2) := by rw [hbI]; exact if_pos hc6
   refine (aj) ?_
   refine dZ (t := 2) 65 5 rfl dg ?_
   refine (ja) ?_
   refine aFz 3 rfl ?_
   refine (Ag) (wR ?_)
   refine ⟨[], ?_⟩
   exact Cf h9
 have h9 : bI s a = (out, true, u2) := by rw [hbI]; exact if_neg (by unfold bAp; rw [hc6]; simp)
 refine wk (k24 ((aj) (wR ?_)))
 refine ⟨[], ?_⟩
 exact Cf h9
def vP (s : ByteArray) (hs : s.size <= 1048576) : aB P 117 [Ns s] [] 0 (.tup [.sl 1 ((raI s).1.map esA), Ni ((raI s).2 : Int)]) := by
 refine (pq 25 [.tmp 2, .tmp 3] func117) ?_
 have hmx := mxl
 refine (aj) ((aj) ((aj) (wb ?_)))
 refine dZ (t := 5) 33 1 rfl dg ?_
 refine (ja) ?_
 refine wl (α := Nat × Nat × List (List Entry)) (fun x => x.2.1 <= s.size /\ s.size < x.1 + x.2.1 /\ x.2.2.length <= x.2.1 /\ sU s x.1 x.2.1 x.2.2 = raI s) (fun x => x.1) (fun x => ([(4, .ptr 0 0), (5, .ref 1)], [(0, rdr s x.2.1), (1, .row 33 1 (x.2.2.map esA))])) 2 (s.size + 1, 0, []) ⟨A6 _, by simp, by simp, rfl⟩ [] ?_ ?_
 . exact Dt
 rintro ⟨f, a, out⟩ ⟨ha, hf, hol, hgo⟩
 simp only at ha hf hol hgo ⊢
 obtain ⟨g, rfl⟩ : ∃ g, f = g + 1 := ⟨f - 1, og⟩
 have hb := bAa ha
 refine wb ((aj) ?_)
 refine sr rfl fun k5 => (ja) ?_
 refine vg [] 0 rfl rfl rfl ⟨func169, rfl, rfl⟩ (wG s a ha hs) rfl oG oG (nS (H1 := []) (.inl rfl) Bq Bh) (.inl rfl) ?_
 refine (Ce) (k5 (sq fun k6 => (aj) ((cdA) ?_ ?_))) <;> intro hc1
 . have hok : (bI s a).2.1 = false := by simpa using hc1
   rw [sU, if_neg (by rw [hok]; simp)] at hgo
   refine (aj) ?_
   refine aFz 1 rfl ?_
   refine (Ag) (wR ((Ad) ?_))
   refine fO ?_ ⟨by simp only [go_sem], trivial, trivial⟩
   simp only [go_sem, <- hgo]
 have hok : (bI s a).2.1 = true := by simpa using hc1
 have hlt := hb.2.2 hok
 refine wk (k6 (wg rfl ((At) ((jr) ((jt) ((jt) ?_))))))
 refine ⟨(g, (bI s a).2.2, out ++ [(bI s a).1]), ⟨hb.2.1, by simp only; omega, by simp; omega, by simp only; rw [sU, if_pos hok] at hgo; exact hgo⟩, by simp only; omega, [(1, 3)], ?_⟩
 simp only [go_sem, AObj.bel, AObj.ren, AV.ren, aA, sg, rdr] <;> simp [esA]
def lY (seq : Int) (st : List Entry × Int) (e : Entry) : List Entry × Int := if seq < e.seq then (st.1 ++ [e], max st.2 e.seq) else st
def mZ (seq : Int) (st : List Entry × Int) (b : List Entry) : List Entry × Int := b.foldl (lY seq) st
def iH (bs : List (List Entry)) (seq : Int) : List Entry × Int := (dJ (bs.foldl (mZ seq) ([], seq)).1, (bs.foldl (mZ seq) ([], seq)).2)
def bBc (seq : Int) (st : List Entry × Int) (e : Entry) : (lY seq st e).1.length <= st.1.length + 1 := by
  unfold lY; split
  . simp
  omega
def bRn (bs : List (List Entry)) : Prop := bs.length <= 12001 /\ ∀ b ∈ bs, b.length <= 12
def vS (d : Disk) : Bool := if 12000 < (d.log.size : Int) ∨ d.safe < 0 ∨ (d.log.size : Int) < d.safe then false else bR ⟨d.seq, [], d.levels, []⟩
def bRm {s : ByteArray} {a : Nat} (h : (bI s a).2.1 = true) : isB (bI s a).1 = true := by
  unfold bI at h ⊢
  generalize nI s a = n at h ⊢
  generalize tI s n.2.2 n.1 = t at h ⊢
  generalize tI s t.2.2 1 = u at h ⊢
  generalize jL t.1 t.1.size 0 [] = r at h ⊢
  split at h
  . rename_i h1
    split at h
    . rename_i h2
      split at h
      . rename_i h3
        split at h
        . rename_i h4
          split at h
          . cases h
          rename_i h5
          rw [if_pos h1, if_pos h2, if_pos h3, if_pos h4, if_neg h5]; unfold bAp at h5; simp at h5
          exact h5.1
        cases h
      cases h
    cases h
  cases h
def aWg {s : ByteArray} : ∀ (f a : Nat) (out : List (List Entry)), a <= s.size -> out.length <= a -> (∀ b ∈ out, isB b = true) -> (∀ b ∈ (sU s f a out).1, isB b = true) /\ (sU s f a out).1.length <= s.size
  | 0, a, out, ha, hl, h => ⟨h, by simp only [sU]; omega⟩
  | f + 1, a, out, ha, hl, h => by
    unfold sU
    have hb := bAa ha
    split
    . rename_i hk
      have := hb.2.2 hk
      refine aWg f _ _ hb.2.1 (by simp; omega) fun b hb' => ?_
      rcases B4.1 hb' with h1 | h1
      . exact h b h1
      rw [B6.1 h1]; exact bRm hk
    exact ⟨h, by simp only; omega⟩
def tN (s : ByteArray) : (∀ b ∈ (raI s).1, isB b = true) /\ (raI s).1.length <= s.size := aWg _ 0 [] (A6 _) (A0 _) oS
def wO {s : ByteArray} (hs : s.size <= 12000) : bRn (raI s).1 := by
  obtain ⟨h1, h2⟩ := tN s
  exact ⟨og, fun b hb => (dF (h1 b hb)).2.2⟩
def bBu (d : Disk) (hs : qJ d.levels) : aB P 115 [.agg [Ni d.seq, .raw (.slice none 0 0), .sl 1 (d.levels.map rsA), .raw (.slice none 0 0)]] [] 0 (Nb (bR ⟨d.seq, [], d.levels, []⟩)) :=
  (aBa ⟨d.seq, [], d.levels, []⟩ ⟨⟨by simp, by simp⟩, hs, by simp⟩).args_le (LeL.cons (Le.aggL (LeL.cons (.refl _) (LeL.cons (.nil _) (LeL.cons (.refl _) (LeL.cons (.nil _) LeL.nil))))) LeL.nil) ⟨jT _ _, trivial⟩
def sO (bs : List (List Entry)) (seq : Int) (hb : bRn bs) : aB P 118 [.sl 1 (bs.map esA), Ni seq] [] 0 (.tup [.sl 5 ((iH bs seq).1.map enA), .raw (.int .i64 (iH bs seq).2)]) := by
 refine (pq 43 [.tmp 4, .tmp 5] func118) ?_
 have hmx := mxl
 obtain ⟨hb1, hb2⟩ := hb
 refine (aj) ((aj) ((aj) ?_))
 refine sq fun k4 => (aj) (wb ?_)
 refine dZ (t := 6) 65 5 rfl dg ?_
 refine (ja) ?_
 refine wl (α := Nat × List Entry × Int) (fun x => x.1 <= bs.length /\ x.2.1.length <= 12 * x.1 /\ (bs.drop x.1).foldl (mZ seq) x.2 = bs.foldl (mZ seq) ([], seq)) (fun x => bs.length - x.1) (fun x => ([(1, Ni seq), (6, .ref 0), (7, Ni x.2.2), (13, .sl 1 (bs.map esA)), (14, Ni (bs.length : Int)), (15, Ni (x.1 : Int))], [(0, .row 65 5 (x.2.1.map enA))])) 1 (0, [], seq) ⟨A6 _, by simp, rfl⟩ [] ?_ ?_
 . exact Cc
 rintro ⟨i, st⟩ ⟨hi, hol, hfold⟩
 simp only at hi hol hfold ⊢
 refine (aj) ?_
 refine sq fun k7 => (cdB) ?_ ?_ <;> intro hc1
 . have hge := gec hc1
   rw [E9 hge, List.foldl_nil] at hfold
   have h9 : iH bs seq = (dJ st.1, st.2) := by unfold iH; rw [<- hfold]
   refine we ((jt) (k4 (sr rfl fun k17 => (ja) ?_)))
   refine vg [] 0 rfl rfl rfl ⟨func140, rfl, rfl⟩ (bAv st.1 og) rfl An An (nS (H1 := []) (.inl rfl) oG Au) (.inl rfl) ?_
   refine (jn) (k17 ((aj) ?_))
   refine aFz 0 rfl ?_
   refine (Ag) (wR ?_)
   refine fO ?_ ⟨enB _ _, trivial, trivial⟩
   exact Ab h9
 obtain ⟨hlt, l, hl, hdrop, hml⟩ := ixc hc1
 have hl12 := hb2 l hml
 refine wk (k7 (sq fun k8 => wb (sr rfl fun k9 => (Ay hl) ((jr) (k9 ((aj) (wb ?_)))))))
 refine wl (α := Nat × List Entry × Int) (fun x => x.1 <= l.length /\ x.2.1.length <= 12 * i + x.1 /\ (l.drop x.1).foldl (lY seq) x.2 = mZ seq st l) (fun x => l.length - x.1) (fun x => ([(1, Ni seq), (6, .ref 0), (7, Ni x.2.2), (13, .sl 1 (bs.map esA)), (14, Ni (bs.length : Int)), (15, Ni (i : Int)), (19, .sl 5 (l.map enA)), (20, Ni (l.length : Int)), (21, Ni (x.1 : Int))], [(0, .row 65 5 (x.2.1.map enA))])) 1 (0, st) ⟨A6 _, by simpa using hol, rfl⟩ [] ?_ ?_
 . exact jp
 rintro ⟨k, st2⟩ ⟨hk, hol2, hfold2⟩
 simp only at hk hol2 hfold2 ⊢
 refine (aj) ?_
 refine sq fun k12 => (cdB) ?_ ?_ <;> intro hc2
 . have hgek : l.length <= k := by have h9 : ¬ k < l.length := (by simpa using hc2); omega
   rw [E9 hgek, List.foldl_nil] at hfold2
   have hf2 : mZ seq st l = st2 := hfold2.symm
   refine we ((jt) ((jt) (k8 ((jw (wiS i og)) ((jt) ?_)))))
   refine ⟨(i + 1, st2), ⟨og, by simp only; omega, by rw [hdrop, List.foldl_cons] at hfold; rw [<- hfold]; exact congrArg (fun z => (bs.drop (i + 1)).foldl (mZ seq) z) hf2.symm⟩, og, [], ?_⟩
   exact jp
 have hltk : k < l.length := by simpa using hc2
 obtain ⟨e, he, hdrop2, _⟩ := ix hltk
 refine wk (k12 (sq fun k13 => wb (sr rfl fun k14 => (Ap he) ((jr) (k14 (sr rfl fun k15 => (Bm) (k15 ((cdB) ?_ ?_)))))))) <;> intro hc3
 . have hgt : ¬ seq < e.seq := by simpa using hc3
   have hst : lY seq st2 e = st2 := by unfold lY; rw [if_neg hgt]
   refine wk ((jt) (k13 ?_))
   have hwk := wiS k og
   refine wg rfl ((Aa hwk) ((jt) ?_))
   refine ⟨(k + 1, st2), ⟨og, by simp only; omega, by rw [hdrop2, List.foldl_cons] at hfold2; rw [<- hfold2, hst]⟩, og, [], ?_⟩
   exact jp
 have hgt : seq < e.seq := by simpa using hc3
 have hst : lY seq st2 e = (st2.1 ++ [e], max st2.2 e.seq) := by unfold lY; rw [if_pos hgt]
 have hmx : max st2.2 e.seq = max st2.2 e.seq := rfl
 refine sr rfl fun k16 => ?_
 simp only [go_sem, A7, A3, List.nil_append, A2, H8, B0, enA]
 refine (jr) (k16 (wg rfl ((Aa hmx) ((jt) (k13 ?_)))))
 have hwk := wiS k og
 refine wg rfl ((Aa hwk) ((jt) ?_))
 refine ⟨(k + 1, st2.1 ++ [e], max st2.2 e.seq), ⟨og, by simp; omega, by rw [hdrop2, List.foldl_cons] at hfold2; rw [<- hfold2, hst]⟩, og, [(0, 3)], ?_⟩
 simp only [go_sem, AObj.bel, AObj.ren, AV.ren, aA, sg] <;> simp [enA]
def rU (s : Store) (hs : dM s) : aH P 69 [stA s] [] 0 (.agg [Nb s.up, Ni s.tree.seq, .ref 0, .ref 1, .ref 2, Ns s.disk.log, Ni s.disk.safe, .ref 3, Ni s.disk.seq]) [(0, .row 65 5 (s.tree.mem.map enA)), (1, .row 107 1 (s.tree.levels.map rsO)), (2, .row 3 1 (s.tree.snaps.map inA)), (3, .row 107 1 (s.disk.levels.map rsO))] 4 := by
 refine (gq 16 [.cell 2 40] func69) ?_
 simp only [stA]
 refine (aj) ((aj) ?_)
 refine sr rfl fun k3 => (ja) ?_
 refine vn 3 rfl rfl rfl ⟨func120, rfl, rfl⟩ (aEc s.tree hs.1) Af Af oS dg ?_
 refine (jn) (k3 (sr rfl fun k4 => (ja) ?_))
 refine vn 1 rfl rfl rfl ⟨func121, rfl, rfl⟩ (rE s.disk.levels hs.2) oG oG oS dg ?_
 refine (jn) (k4 ((aj) (wR ?_)))
 refine ⟨[(0, 3), (1, 4), (2, 5), (3, 6)], ?_⟩
 exact jz
def aBl (d : Disk) (hs : qJ d.levels) : aB P 112 [dkA d] [] 0 (Nb (vS d)) := by
 refine (pq 28 [.tmp 2] func112) ?_
 simp only [dkA]
 refine (aj) ?_
 refine sr rfl fun k2 => (ja) ?_
 refine vpg rfl rfl rfl rfl rfl rfl ⟨func115, rfl, rfl⟩ (fun hg => bBu d hs) oG (fun hg => oG) oG trivial ?_
 refine (ja) (k2 (wR ?_))
 have h9 : vS d = (((decide ((d.log.size : Int) <= 12000) && decide (0 <= d.safe)) && decide (d.safe <= (d.log.size : Int))) && bR ⟨d.seq, [], d.levels, []⟩) := by
   unfold vS; split
   . rename_i h; have : ((decide ((d.log.size : Int) <= 12000) && decide (0 <= d.safe)) && decide (d.safe <= (d.log.size : Int))) = false := by simp; omega
     rw [this]; rfl
   rename_i h; have : ((decide ((d.log.size : Int) <= 12000) && decide (0 <= d.safe)) && decide (d.safe <= (d.log.size : Int))) = true := by simp; omega
   rw [this]; rfl
 exact fq h9
section
variable {H : Heap} {ro : Option Nat} {N nx b0 : Nat} {E : Env} {o : Oper} {c : Call} {x : Operand}
def aOp {P : Program} {ds : List (Option Tmp)} (hg : o.guard = none) (ho : o.op = .call c) (hc : c.callee = .builtin .unsafeSliceData) (hargs : c.args = #[x]) (hN : ∀ d, o.dst = some d -> d < N)
    (hx : opv E x = some (.raw (.slice none 0 0))) : aS P ro N ds o b0 E H (tO [x]) [] (.raw (.pointer none)) [] nx 0 := by
  refine lsO hg fun E' H' U hE hH' hnx => ?_
  rw [aU0]
  have hops := oCg hE
  refine aL (by simp [ho, Op.noDefer]) hN fun C a w hR => ?_
  obtain ⟨h1, h2⟩ := hR.opv (x := x) (by rw [hops x oS]; exact hx)
  have hev : a.eval x = .slice none 0 0 := by
    generalize a.eval x = v at h1
    cases h1; rfl
  have hr := Lib.run_unsafeSliceData_nil (P := P) w c.argTypes o.type 0 0
  exact ⟨trivial, .pointer none, by simp [execOp, ho, resolve, hc, hargs, invoke, builtin, hev, hr], .raw _⟩
def aIv {P : Program} {ds : List (Option Tmp)} {x y : Operand} {pt it : Nat} (hg : o.guard = none) (ho : o.op = .call c) (hc : c.callee = .builtin .unsafeString) (hargs : c.args = #[x, y]) (hts : c.argTypes = #[pt, it]) (hN : ∀ d, o.dst = some d -> d < N)
    (hx : opv E x = some (.raw (.pointer none))) (hy : opv E y = some (Ni 0)) : aS P ro N ds o b0 E H (tO [x, y]) [] (Ns ⟨#[]⟩) [] nx 0 := by
  refine lsO hg fun E' H' U hE hH' hnx => ?_
  rw [aU0]
  have hops := oCg hE
  refine aL (by simp [ho, Op.noDefer]) hN fun C a w hR => ?_
  obtain ⟨h1, h2⟩ := hR.opv (x := x) (by rw [hops x oS]; exact hx)
  obtain ⟨h3, _⟩ := hR.opv (x := y) (by rw [hops y oS]; exact hy)
  have hev : a.eval x = .pointer none := by
    generalize a.eval x = v at h1
    cases h1; rfl
  have hey : a.eval y = .int .i64 0 := by
    generalize a.eval y = v at h3
    cases h3; rfl
  have hr := Lib.run_unsafeString_none (P := P) w pt it o.type none
  exact ⟨trivial, .string .empty, by simp [execOp, ho, resolve, hc, hargs, hts, invoke, builtin, hev, hey, hr], .raw _⟩
def bFk (L : List UInt8) : Heap := if L = [] then [(2, .cells 144 [.raw (.pointer none), .raw (.slice none 0 0)])] else [(2, .cells 144 [.ptr 2 0, .ref 3]), (3, .row 5 1 (L.map byteAV))]
def aGe {s : ByteArray} : bL s = [] ↔ s.size = 0 := by rw [<- List.length_eq_zero_iff, aT]
def aIi {b : List Entry} (h : isB b = true) : (fTx b).size <= 4000 /\ 1 <= (fTx b).size := by
  obtain ⟨hok, h1, h2⟩ := dF h
  have h3 := sV b ⟨#[]⟩ fun e he => by obtain ⟨_, _, _, _, _, _, r7, r8⟩ := gM (hok e he); exact ⟨r7, r8⟩
  have h4 := gJ ((bTx b).size : Int)
  have h5 : (bTx b).size = (b.foldl pS ⟨#[]⟩).size := rfl
  have h6 : (⟨#[]⟩ : ByteArray).size = 0 := rfl
  unfold fTx; rw [if_pos h]; simp only [C7, bP, mX]; omega
def aBb (s : Store) : Store :=
  ⟨true, ⟨(iH (raI s.disk.log).1 s.disk.seq).2, (iH (raI s.disk.log).1 s.disk.seq).1, s.disk.levels, []⟩, ⟨tF (raI s.disk.log).1 s.disk.seq, ((tF (raI s.disk.log).1 s.disk.seq).size : Int), s.disk.levels, s.disk.seq⟩⟩
def bRo {H H1 : Heap} {s : List (Nat × Nat)} {g : AObj} {nw : Nat} (hs : s = [] ∨ ∃ j, s = [(0, j)]) (ho : Abs.get H (sg s 0) = some (g.ren (sg s))) (hb : g.bel (UU 1)) (hk : ∀ i ∈ H1.map (·.1), i < 1 + nw) (ha : (Abs.get H1 0).isSome = true) (hf : nw <= 900) : FitC H s [(0, g)] 1 nw H1 where
  objs := ⟨ho, .inl og, hb, trivial⟩
  inj := by simp
  cov := fun i hi => by have : i = 0 := by omega
                        subst this; rfl
  sk := fun p hp => by
    rcases hs with rfl | ⟨j, rfl⟩
    . cases hp
    rw [B6.1 hp]; rfl
  dom := fun p hp => by
    have := hk p.1 (B3.2 ⟨p, hp, rfl⟩)
    by_cases h : p.1 = 0
    . left; rw [h]; rfl
    exact .inr ⟨og, this⟩
  all := fun p hp => by rw [B6.1 hp]; exact ha
  far := by omega
def bCa  : aH P 127 [.ptr 0 0] [(0, tY)] 1 (Ns ⟨#[]⟩) [(0, tY)] 1 := by
 refine (gq 14 [.tmp 2] func127) ?_
 simp only [tY]
 refine (aj) ?_
 refine sd mixed rfl fun k2 => (ja) ?_
 refine aM (fun hN => aOp rfl rfl rfl rfl hN rfl) (.inl rfl) ?_
 refine (ja) ?_
 refine aM (fun hN => aIv rfl rfl rfl rfl rfl hN rfl rfl) (.inl rfl) ?_
 refine (ja) ((jy) (k2 (wR ?_)))
 refine ⟨[], ?_⟩; exact jz
def bCg (l : List UInt8) (h0 : l ≠ []) : aH P 127 [.ptr 0 0] [(0, lJ 1), (1, bJ l)] 2 (Ns ⟨l.toArray⟩) [(0, .cells 144 [.ptr 0 0, .sl 1 (l.map byteAV)]), (1, .dead)] 2 := by
 refine (gq 14 [.tmp 2] func127) ?_
 simp only [lJ, bJ]
 refine (aj) ?_
 refine sd mixed rfl fun k2 => (Bp) ?_
 refine aM (fun hN => xF (l := l) rfl rfl rfl rfl hN rfl rfl h0 (.inl dg)) (.inl rfl) ?_
 refine (Bp) ?_
 refine aM (fun hN => aGz (l := l) (m := 0) (jj := 1) rfl rfl rfl rfl rfl hN uPU ceU rfl rfl rfl h0 rfl rfl dg) (.inr dg) ?_
 simp only [go_sem, List.set_cons_succ, List.set_cons_zero, A2]
 refine (jy) (k2 (wR ?_))
 refine ⟨[], ?_⟩; exact jz
def bOj (l : List UInt8) : aH P 126 [.ptr 0 0] [(0, .cells 144 [.ptr 0 0, .sl 1 (l.map byteAV)])] 1 (Ni (l.length : Int)) [(0, .cells 144 [.ptr 0 0, .sl 1 (l.map byteAV)])] 1 := by
 refine (gq 8 [.tmp 2] func126) ((aj) ?_)
 refine sr rfl fun k2 => (Bp) (k2 (wR ?_))
 refine ⟨[], ?_⟩; exact jz
def aQd (s : Store) (hlog : s.disk.log.size <= 12000) : aB P 114 [stA s] [] 0 (stA (aBb s)) := by
 refine (pq 64 [.cell 2 40] func114) ?_
 simp only [stA]
 have hb0 : bFk (bL (⟨#[]⟩ : ByteArray)) = [(2, .cells 144 [.raw (.pointer none), .raw (.slice none 0 0)])] := if_pos rfl
 have hbok := (tN s.disk.log).1
 have hbl := (tN s.disk.log).2
 refine (aj) ?_
 refine sr rfl fun k2 => (ja) ((vq func117 (vP s.disk.log og)) (k2 ((aj) ?_)))
 refine sq fun k4 => (aj) (wb ?_)
 refine wl (α := Nat × ByteArray) (fun x => x.1 <= (raI s.disk.log).1.length /\ x.2.size <= 4000 * x.1 /\ ((raI s.disk.log).1.drop x.1).foldl (cL s.disk.seq) x.2 = tF (raI s.disk.log).1 s.disk.seq) (fun x => (raI s.disk.log).1.length - x.1) (fun x => ([(1, .ptr 0 0), (2, .ptr 1 0), (3, .sl 1 ((raI s.disk.log).1.map esA)), (5, .ptr 2 0), (18, .sl 1 ((raI s.disk.log).1.map esA)), (19, Ni ((raI s.disk.log).1.length : Int)), (20, Ni (x.1 : Int))], [(0, .cells 40 [Nb s.up, Ni s.tree.seq, .sl 5 (s.tree.mem.map enA), .sl 1 (s.tree.levels.map rsA), .sl 1 (s.tree.snaps.map inA), Ns s.disk.log, Ni s.disk.safe, .sl 1 (s.disk.levels.map rsA), Ni s.disk.seq]), (1, .cells 40 [Nb false, Ni 0, .raw (.slice none 0 0), .raw (.slice none 0 0), .raw (.slice none 0 0), Ns ⟨#[]⟩, Ni 0, .raw (.slice none 0 0), Ni 0])] ++ bFk (bL x.2) ++ [])) 4 (0, ⟨#[]⟩) ⟨A6 _, A6 _, rfl⟩ [] ?_ ?_
 . simp only [hb0, List.cons_append, List.nil_append, List.append_nil, go_sem, AObj.bel, Int.natCast_zero] <;> simp
 rintro ⟨i, L⟩ ⟨hi, hL, hfold⟩
 simp only at hi hL hfold ⊢
 rcases Nat.eq_zero_or_pos L.size with hLz | hLz
 . have hbh : bFk (bL L) = [(2, .cells 144 [.raw (.pointer none), .raw (.slice none 0 0)])] := if_pos (aGe.2 hLz)
   have hLe : L = ⟨#[]⟩ := by rw [<- rF L, aGe.2 hLz]
   have hLb : bL L = [] := aGe.2 hLz
   simp only [hbh, List.cons_append, List.nil_append, List.append_nil]
   refine (aj) ?_
   refine sq fun k7 => (cdB) ?_ ?_ <;> intro hc1
   . have hge : (raI s.disk.log).1.length <= i := by have h9 : ¬ i < (raI s.disk.log).1.length := (by simpa using hc1); omega
     rw [E9 hge, List.foldl_nil] at hfold; subst hLe
     refine we ((jt) (k4 (sr rfl fun k11 => (ja) ((vq func118 (sO (raI s.disk.log).1 s.disk.seq (wO hlog))) (k11 ((aj) ?_))))))
     refine sr rfl fun k13 => (ja) ?_
     refine vg [(0, 2)] 0 rfl rfl rfl ⟨func127, rfl, rfl⟩ (bCa) rfl Bx oG (nS (H1 := []) (.inr ⟨2, rfl⟩) Di (by simp only [go_sem, AObj.bel, tY])) (.inl rfl) ?_
     refine (Dh) (k13 (sr rfl fun k14 => (ja) ?_))
     refine vg [(0, 2)] 0 rfl rfl rfl ⟨func126, rfl, rfl⟩ (bNc) rfl Bx oG (nS (H1 := []) (.inr ⟨2, rfl⟩) Di (by simp only [go_sem, AObj.bel, tY])) (.inl rfl) ?_
     refine (Dh) (k14 ((aj) ((aj) ?_)))
     refine hZ 1 (ds := [Nb true, .raw (.int .i64 (iH (raI s.disk.log).1 s.disk.seq).2), .sl 5 ((iH (raI s.disk.log).1 s.disk.seq).1.map enA), .sl 1 (s.disk.levels.map rsA), .sl 1 [], Ns ⟨#[]⟩, Ni 0, .sl 1 (s.disk.levels.map rsA), Ni s.disk.seq]) rfl (by repeat (first | exact LeL.nil | refine LeL.cons (by first | exact Le.refl _ | exact Le.nil _) ?_)) oG ?_
     refine (ja) (wR ?_)
     have h9 : tF (raI s.disk.log).1 s.disk.seq = ⟨#[]⟩ := hfold.symm
     refine fO ?_ (dT _ _)
     simp only [go_sem, aBb, h9, stA, List.map_nil]; rfl
   have hlt : i < (raI s.disk.log).1.length := by simpa using hc1
   obtain ⟨l, hl, hdrop, hml⟩ := ix hlt
   have hib := hbok l hml
   obtain ⟨hok, hb1, hb2⟩ := dF hib
   obtain ⟨hf1, hf2⟩ := aIi hib
   have hpv : l[l.length - 1]? = some (jW l) := by unfold jW; rw [A1 og]; rfl
   have hw6 := wr ((l.length : Int) - 1) ((l.length : Int) - 1) og
   have hpn : ((l.length : Int) - 1).toNat = l.length - 1 := by omega
   have hbn : bFk (bL (L ++ fTx l)) = [(2, .cells 144 [.ptr 2 0, .ref 3]), (3, .row 5 1 ((bL (L ++ fTx l)).map byteAV))] := if_neg (by rw [aGe, C7]; omega)
   refine wk (k7 (sq fun k8 => wb (sr rfl fun k9 => (Ay hl) ((jr) (k9 (sd mixed rfl fun k10 => ?_))))))
   simp only [go_sem, hw6, hpn, hpv, enA, A2]
   refine (jr) ((jy) (k10 ((cdB) ?_ ?_))) <;> intro hc2
   . have hgt : ¬ s.disk.seq < (jW l).seq := by simpa using hc2
     have hst : cL s.disk.seq L l = L := by unfold cL; rw [if_neg hgt]
     refine wk ((jt) (k8 ((jw (wiS i og)) ((jt) ?_))))
     refine ⟨(i + 1, L), ⟨og, by simp only; omega, by rw [hdrop, List.foldl_cons, hst] at hfold; exact hfold⟩, og, [], ?_⟩
     exact Du hbh
   have hgt : s.disk.seq < (jW l).seq := by simpa using hc2
   have hst : cL s.disk.seq L l = L ++ fTx l := by unfold cL; rw [if_pos hgt]
   refine wg rfl ((ja) ((vq func72 (nX l (by exact ⟨og, fun e he => ⟨by have := (eW (hok e he)).1; omega, by have := (eW (hok e he)).2; omega⟩⟩))) ?_))
   refine vg [(0, 2)] 1 rfl rfl rfl ⟨func124, rfl, rfl⟩ (aNx (fTx l) og) rfl Bx oG (bRo (.inr ⟨2, rfl⟩) Di (by simp only [go_sem, AObj.bel, tY]) oS rfl dg) (.inr dg) ?_
   refine (Dh) ((jt) (k8 ((jw (wiS i og)) ((jt) ?_))))
   refine ⟨(i + 1, L ++ fTx l), ⟨og, by simp only [C7]; omega, by rw [hdrop, List.foldl_cons, hst] at hfold; exact hfold⟩, og, [(3, 4)], ?_⟩
   simp only [go_sem, AObj.bel, AObj.ren, AV.ren, aA, sg, hbn, List.cons_append, List.nil_append, List.append_nil] <;> simp [uC, hLb, Abs.get, sg]
   rfl
 have hLn : bL L ≠ [] := fun h => by rw [aGe] at h; omega
 have hbh : bFk (bL L) = [(2, .cells 144 [.ptr 2 0, .ref 3]), (3, .row 5 1 ((bL L).map byteAV))] := if_neg hLn
 simp only [hbh, List.cons_append, List.nil_append, List.append_nil]
 refine (aj) ?_
 refine sq fun k18 => (cdB) ?_ ?_ <;> intro hc3
 . have hge : (raI s.disk.log).1.length <= i := by have h9 : ¬ i < (raI s.disk.log).1.length := (by simpa using hc3); omega
   rw [E9 hge, List.foldl_nil] at hfold
   have hLm : (⟨(bL L).toArray⟩ : ByteArray) = L := rF L
   refine we ((jt) (k4 (sr rfl fun k22 => (ja) ((vq func118 (sO (raI s.disk.log).1 s.disk.seq (wO hlog))) (k22 ((aj) ?_))))))
   refine sr rfl fun k24 => (ja) ?_
   refine vg [(0, 2), (1, 3)] 0 rfl rfl rfl ⟨func127, rfl, rfl⟩ (bCg (bL L) hLn) rfl Bx oG (mP (.inr ⟨2, 3, by decide, rfl⟩) Cy Cy (by simp only [go_sem, AObj.bel, lJ, bJ] <;> simp) (by simp only [go_sem, AObj.bel, lJ, bJ]) oS ⟨rfl, rfl⟩ dg) (.inl rfl) ?_
   refine (Dv) (k24 (sr rfl fun k25 => (ja) ?_))
   refine vg [(0, 2)] 0 rfl rfl rfl ⟨func126, rfl, rfl⟩ (bOj (bL L)) rfl Bx oG (nS (H1 := []) (.inr ⟨2, rfl⟩) Cz Bk) (.inl rfl) ?_
   simp only [go_sem, AV.ren, AObj.ren, aA, shift, sg, A0, Nat.add_zero, Nat.sub_self, aT]
   refine k25 ((aj) ((aj) ?_))
   refine hZ 1 (ds := [Nb true, .raw (.int .i64 (iH (raI s.disk.log).1 s.disk.seq).2), .sl 5 ((iH (raI s.disk.log).1 s.disk.seq).1.map enA), .sl 1 (s.disk.levels.map rsA), .sl 1 [], Ns L, Ni (L.size : Int), .sl 1 (s.disk.levels.map rsA), Ni s.disk.seq]) rfl (by repeat (first | exact LeL.nil | refine LeL.cons (by first | exact Le.refl _ | exact Le.nil _) ?_)) oG ?_
   refine (ja) (wR ?_)
   have h9 : tF (raI s.disk.log).1 s.disk.seq = L := hfold.symm
   refine fO ?_ (dT _ _)
   simp only [go_sem, aBb, h9, stA, List.map_nil]
 have hlt : i < (raI s.disk.log).1.length := by simpa using hc3
 obtain ⟨l, hl, hdrop, hml⟩ := ix hlt
 have hib := hbok l hml
 obtain ⟨hok, hb1, hb2⟩ := dF hib
 obtain ⟨hf1, hf2⟩ := aIi hib
 have hpv : l[l.length - 1]? = some (jW l) := by unfold jW; rw [A1 og]; rfl
 have hw6 := wr ((l.length : Int) - 1) ((l.length : Int) - 1) og
 have hpn : ((l.length : Int) - 1).toNat = l.length - 1 := by omega
 have hbn : bFk (bL (L ++ fTx l)) = [(2, .cells 144 [.ptr 2 0, .ref 3]), (3, .row 5 1 ((bL (L ++ fTx l)).map byteAV))] := if_neg (by rw [aGe, C7]; omega)
 refine wk (k18 (sq fun k19 => wb (sr rfl fun k20 => (Ay hl) ((jr) (k20 (sd mixed rfl fun k21 => ?_))))))
 simp only [go_sem, hw6, hpn, hpv, enA, A2]
 refine (jr) ((jy) (k21 ((cdB) ?_ ?_))) <;> intro hc4
 . have hgt : ¬ s.disk.seq < (jW l).seq := by simpa using hc4
   have hst : cL s.disk.seq L l = L := by unfold cL; rw [if_neg hgt]
   refine wk ((jt) (k19 ((jw (wiS i og)) ((jt) ?_))))
   refine ⟨(i + 1, L), ⟨og, by simp only; omega, by rw [hdrop, List.foldl_cons, hst] at hfold; exact hfold⟩, og, [], ?_⟩
   exact Du hbh
 have hgt : s.disk.seq < (jW l).seq := by simpa using hc4
 have hst : cL s.disk.seq L l = L ++ fTx l := by unfold cL; rw [if_pos hgt]
 refine wg rfl ((ja) ((vq func72 (nX l (by exact ⟨og, fun e he => ⟨by have := (eW (hok e he)).1; omega, by have := (eW (hok e he)).2; omega⟩⟩))) ?_))
 refine vg [(0, 2), (1, 3)] 1 rfl rfl rfl ⟨func124, rfl, rfl⟩ (zS (bL L) (fTx l) (by rw [aT]; omega)) rfl Bx oG (mP (.inr ⟨2, 3, by decide, rfl⟩) Cy Cy (by simp only [go_sem, AObj.bel, lJ, bJ] <;> simp) (by simp only [go_sem, AObj.bel, lJ, bJ]) oS ⟨rfl, rfl⟩ dg) (.inr dg) ?_
 refine (Dv) ((jt) (k19 ((jw (wiS i og)) ((jt) ?_))))
 refine ⟨(i + 1, L ++ fTx l), ⟨og, by simp only [C7]; omega, by rw [hdrop, List.foldl_cons, hst] at hfold; exact hfold⟩, og, [(3, 4)], ?_⟩
 simp only [go_sem, AObj.bel, AObj.ren, AV.ren, aA, sg, hbn, List.cons_append, List.nil_append, List.append_nil] <;> simp [uC, Abs.get, sg]
 rfl
end
def bKv (seq : Int) : ∀ (bs : List (List Entry)) (st : List Entry × Int), (∀ b ∈ bs, b.length <= 12 /\ ∀ e ∈ b, e.key.size <= 1048576 /\ e.text.size <= 1048576) -> (∀ e ∈ st.1, e.key.size <= 1048576 /\ e.text.size <= 1048576) -> (bs.foldl (mZ seq) st).1.length <= st.1.length + 12 * bs.length /\ ∀ e ∈ (bs.foldl (mZ seq) st).1, e.key.size <= 1048576 /\ e.text.size <= 1048576 := by
  have row : ∀ (b : List Entry) (st : List Entry × Int), (∀ e ∈ b, e.key.size <= 1048576 /\ e.text.size <= 1048576) -> (∀ e ∈ st.1, e.key.size <= 1048576 /\ e.text.size <= 1048576) -> (mZ seq st b).1.length <= st.1.length + b.length /\ ∀ e ∈ (mZ seq st b).1, e.key.size <= 1048576 /\ e.text.size <= 1048576 := by
    intro b
    induction b with
    | nil => intro st _ h; exact ⟨by simp [mZ], h⟩
    | cons x r ih =>
      intro st hb h
      have h1 := bBc seq st x
      have h2 : ∀ e ∈ (lY seq st x).1, e.key.size <= 1048576 /\ e.text.size <= 1048576 := fun e he => by
        unfold lY at he; split at he
        . rcases B4.1 he with h3 | h3
          . exact h e h3
          rw [B6.1 h3]; exact hb x A5
        exact h e he
      have h3 := ih (lY seq st x) (fun e he => hb e (A4 _ he)) h2
      simp only [mZ, List.foldl_cons, B7] at h3 ⊢
      exact ⟨og, h3.2⟩
  intro bs
  induction bs with
  | nil => intro st _ h; exact ⟨by simp, h⟩
  | cons b r ih =>
    intro st hb h
    have h1 := row b st (hb b A5).2 h
    have h2 := ih (mZ seq st b) (fun x hx => hb x (A4 _ hx)) h1.2
    have h3 := (hb b A5).1
    simp only [List.foldl_cons, B7]
    exact ⟨og, h2.2⟩
def aEf {s : ByteArray} (hs : s.size <= 12000) (seq : Int) : gY (iH (raI s).1 seq).1 := by
  obtain ⟨h1, h2⟩ := tN s
  have h3 := bKv seq (raI s).1 ([], seq) (fun b hb => ⟨(dF (h1 b hb)).2.2, fun e he => eW ((dF (h1 b hb)).1 e he)⟩) oS
  simp only [List.length_nil, C5] at h3
  unfold iH
  refine ⟨?_, fun e he => h3.2 e ((lZ _).mem_iff.1 he)⟩
  rw [rN]; omega
def aCv (s : Store) : Bool := (!bR s.tree || !decide (s.tree.levels = s.disk.levels)) || decide (s.tree.seq < s.disk.seq)
def upI (s : Store) : Bool := if aCv s = true then false else if ((raI s.disk.log).2 : Int) ≠ (s.disk.log.size : Int) then false else decide ((iH (raI s.disk.log).1 s.disk.seq).2 = s.tree.seq) && decide ((iH (raI s.disk.log).1 s.disk.seq).1 = s.tree.mem)
def sX (s : Store) : Bool := if vS s.disk = false then false else upI s
def cQ (s : Store) : Bool := if vS s.disk = false then false else if s.up = true then upI s else iM s.tree mM && sX (aBb s)
def aLl {d : Disk} (h : vS d = true) : d.log.size <= 12000 := by
  unfold vS at h; split at h
  . cases h
  rename_i h1; omega
def aMs {ls : List (List Run)} (h : qJ ls) : bEq ls := by
  refine ⟨by have := h.1; omega, fun rs hrs => ?_⟩
  have h1 := h.2 rs hrs
  exact ⟨by have := h1.1; omega, fun r hr => ⟨by have := (h1.2 r hr).1; omega, fun e he => ⟨by have := ((h1.2 r hr).2 e he).1; omega, by have := ((h1.2 r hr).2 e he).2; omega⟩⟩⟩
def aQk {t : Tree} (h : gS t) : bBt t := ⟨⟨by have := h.1.1; omega, fun e he => ⟨by have := (h.1.2 e he).1; omega, by have := (h.1.2 e he).2; omega⟩⟩, aMs h.2.1, by have := h.2.2; omega⟩
def aTi (t : Tree) (hs : gS t) : aB P 113 [trA t, .agg [Ni 0, .raw (.slice none 0 0), .raw (.slice none 0 0), .raw (.slice none 0 0)]] [] 0 (Nb (iM t mM)) :=
  (aJj t mM (aQk hs)).args_le (LeL.cons (.refl _) (LeL.cons (Le.aggL (LeL.cons (.refl _) (LeL.cons (.nil _) (LeL.cons (.nil _) (LeL.cons (.nil _) LeL.nil))))) LeL.nil)) ⟨jT _ _, jT _ _, trivial⟩
def aZx {s : Store} (hs : dM s) (hlog : s.disk.log.size <= 12000) : dM (aBb s) := by
  have h1 := aEf hlog s.disk.seq
  have h2 := hs.2
  unfold dM gS aBb
  generalize iH (raI s.disk.log).1 s.disk.seq = f at h1 ⊢
  exact ⟨⟨h1, h2, A6 _⟩, h2⟩
def aDk (s : Store) (hs : dM s) (hup : s.up = true) : aB P 68 [stA s] [] 0 (Nb (sX s)) := by
 refine (pq 79 [.tmp 2] func68) ?_
 simp only [stA]
 refine (aj) ?_
 refine sq fun k2 => sr rfl fun k3 => (ja) ?_
 refine (vr rfl rfl rfl func112 (aBl s.disk hs.2) Av Av) (k3 ((cdA) ?_ ?_)) <;> intro hc1
 . have hd : vS s.disk = false := by simpa using hc1
   have h9 : sX s = false := by unfold sX; rw [if_pos hd]
   exact (aj) (wR (fq h9))
 have hd : vS s.disk = true := by simpa using hc1
 have hlog := aLl hd
 refine wk (k2 (sq fun k5 => (aj) ((cdA) ?_ ?_))) <;> intro hc2
 . exfalso
   rw [hup] at hc2; simp at hc2
 refine wk (k5 (sq fun k7 => sr rfl fun k8 => (ja) ?_))
 refine (vr rfl rfl rfl func115 (aBa s.tree hs.1) Af Af) ?_
 refine vpg rfl rfl rfl rfl rfl rfl ⟨func116, rfl, rfl⟩ (fun hg => sZ s.tree.levels s.disk.levels (aMs hs.1.2.1)) oG (fun hg => oG) oG trivial ?_
 refine (ja) (k8 ((cdA) ?_ ?_)) <;> intro hc3
 . have hb : aCv s = true := hc3
   have h9 : sX s = false := by unfold sX upI; rw [if_neg (by rw [hd]; simp), if_pos hb]
   exact (aj) (wR (fq h9))
 have hb : aCv s = false := hc3
 refine wk (k7 (sr rfl fun k10 => (ja) ((vq func117 (vP s.disk.log og)) (k10 (sq fun k11 => (aj) ((cdA) ?_ ?_)))))) <;> intro hc4
 . have hn : ((raI s.disk.log).2 : Int) ≠ (s.disk.log.size : Int) := by simpa using hc4
   have h9 : sX s = false := by unfold sX upI; rw [if_neg (by rw [hd]; simp), if_neg (by rw [hb]; simp), if_pos hn]
   exact (aj) (wR (fq h9))
 have hn : ¬ ((raI s.disk.log).2 : Int) ≠ (s.disk.log.size : Int) := by simpa using hc4
 have h9 : sX s = (decide ((iH (raI s.disk.log).1 s.disk.seq).2 = s.tree.seq) && decide ((iH (raI s.disk.log).1 s.disk.seq).1 = s.tree.mem)) := by unfold sX upI; rw [if_neg (by rw [hd]; simp), if_neg (by rw [hb]; simp), if_neg hn]
 refine wk (k11 (sr rfl fun k14 => (ja) ((vq func118 (sO (raI s.disk.log).1 s.disk.seq (wO hlog))) (k14 (sr rfl fun k15 => (ja) ?_)))))
 refine vpg rfl rfl rfl rfl rfl rfl ⟨func119, rfl, rfl⟩ (fun hg => bY (iH (raI s.disk.log).1 s.disk.seq).1 s.tree.mem (by have := (aEf hlog s.disk.seq).1; omega)) oG (fun hg => oG) oG trivial ?_
 exact (ja) (k15 (wR (fq h9)))
def aUv (s : Store) (hs : dM s) (hup : s.up = false) : aB P 68 [stA s] [] 0 (Nb (cQ s)) := by
 refine (pq 79 [.tmp 2] func68) ?_
 simp only [stA]
 refine (aj) ?_
 refine sq fun k2 => sr rfl fun k3 => (ja) ?_
 refine (vr rfl rfl rfl func112 (aBl s.disk hs.2) Av Av) (k3 ((cdA) ?_ ?_)) <;> intro hc1
 . have hd : vS s.disk = false := by simpa using hc1
   have h9 : cQ s = false := by unfold cQ; rw [if_pos hd]
   exact (aj) (wR (fq h9))
 have hd : vS s.disk = true := by simpa using hc1
 have hlog := aLl hd
 refine wk (k2 (sq fun k5 => (aj) ((cdB) ?_ ?_))) <;> intro hc2
 . exfalso
   rw [hup] at hc2; simp at hc2
 have h9 : cQ s = (iM s.tree mM && sX (aBb s)) := by unfold cQ; rw [if_neg (by rw [hd]; simp), if_neg (by rw [hup]; simp)]
 refine sr rfl fun k7 => (ja) ?_
 refine (vr rfl rfl rfl func113 (aTi s.tree hs.1) Af Af) ?_
 refine vpg rfl rfl rfl rfl rfl rfl ⟨func114, rfl, rfl⟩ (fun hg => aQd s hlog) oG (fun hg => Ae) Ae (dT _ _) ?_
 refine (ja) ?_
 refine vpg rfl rfl rfl rfl rfl rfl ⟨func68, rfl, rfl⟩ (fun hg => aDk (aBb s) (aZx hs hlog) rfl) oG (fun hg => Ae) Ae trivial ?_
 exact (ja) (k7 (wR (fq h9)))
def bHm (s : Store) (hs : dM s) : aB P 68 [stA s] [] 0 (Nb (cQ s)) := by
  cases h : s.up
  . exact aUv s hs h
  have := aDk s hs h
  rwa [show sX s = cQ s by unfold sX cQ; rw [h]; simp] at this
inductive StepI where
  | log (t : ByteArray)
  | lev (ls : List (List Run)) (seq : Int)
  | emp
def stAV : StepI -> AV
  | .log t => .iface 96 (.agg [.raw (.string t)])
  | .lev ls q => .iface 83 (.agg [.sl 1 (ls.map rsA), .raw (.int .i64 q)])
  | .emp => .iface 103 (.agg [])
def aDd (d : Disk) : StepI -> Disk
  | .log t => { d with log := d.log ++ t }
  | .lev ls q => { d with levels := ls, seq := q }
  | .emp => { d with log := ⟨#[]⟩, safe := 0 }
def bQh : StepI -> Nat
  | .log t => t.size
  | _ => 0
def bIg (U : Nat -> Prop) (p : StepI) : (stAV p).bel U := by
  cases p with
  | log t => exact ⟨trivial, trivial⟩
  | lev ls q => exact ⟨aX _ _, trivial, trivial⟩
  | emp => trivial
def bPj (U : Nat -> Prop) (ps : List StepI) : aE U (ps.map stAV) := pY (f := stAV) (fun _ _ => bIg _ _) U ps
attribute [go_sem] bIg bPj
def sM (U : Nat -> Prop) (d : Disk) : (dkA d).bel U := ⟨trivial, trivial, aX _ _, trivial, trivial⟩
def aFj (d : Disk) (t : ByteArray) (hz : d.log.size + t.size <= 4611686018427387904) : aB P 271 [.agg [Ns t], dkA d] [] 0 (dkA (aDd d (.log t))) := by
 refine (pq 12 [.cell 4 38] func271) ?_
 simp only [dkA]
 refine (aj) ?_
 refine sr rfl fun k2 => (ja) ?_
 refine ⟨og, ?_⟩
 refine k2 ((aj) (wR ?_))
 refine fO ?_ (sM _ _)
 simp only [go_sem, dkA, aDd]
def aAs (d : Disk) (ls : List (List Run)) (q : Int) : aB P 270 [.agg [.sl 1 (ls.map rsA), Ni q], dkA d] [] 0 (dkA (aDd d (.lev ls q))) := by
 refine (pq 12 [.cell 4 38] func270) ?_
 simp only [dkA]
 refine (aj) ?_
 refine sd mixed rfl fun k2 => (ja) ((jy) (k2 ((aj) (wR ?_))))
 refine fO ?_ (sM _ _)
 simp only [go_sem, dkA, aDd]
def aAr (d : Disk) : aB P 272 [.agg [], dkA d] [] 0 (dkA (aDd d .emp)) := by
 refine (pq 8 [.cell 4 38] func272) ?_
 simp only [dkA]
 refine (aj) ((aj) ((aj) (wR ?_)))
 refine fO ?_ (sM _ _)
 simp only [go_sem, dkA, aDd]
def bSm : gV P 96 "loop.example/comptoir/impl.to" = some (271, false) := kr
def bSg : gV P 83 "loop.example/comptoir/impl.to" = some (270, false) := kr
def bSn : gV P 103 "loop.example/comptoir/impl.to" = some (272, false) := kr
def pTo : tC P 96 = none /\ tC P 83 = none /\ tC P 103 = none := by refine ⟨?_, ?_, ?_⟩ <;> kernel_rfl
def uTo : (P.underlying 96).isSome = true /\ (P.underlying 83).isSome = true /\ (P.underlying 103).isSome = true := by refine ⟨?_, ?_, ?_⟩ <;> kernel_rfl
def bJr {ro : Option Nat} {N : Nat} {E : Env} {H : Heap} {nx b0 : Nat} {o : Oper} {ds : List (Option Tmp)} {c : Call} {y : Operand} (p : StepI) (d : Disk) (hz : d.log.size + bQh p <= 4611686018427387904) (hg : o.guard = none) (ho : o.op = .call c) (hc : c.callee = .invoke y "loop.example/comptoir/impl.to")
    (hN : ∀ d, o.dst = some d -> d < N) (hy : opv E y = some (stAV p)) (hxs : c.args.toList.map (opv E) = [dkA d].map some) : aS P ro N ds o b0 E H (tO (y :: c.args.toList)) [] (dkA (aDd d p)) [] nx 0 := by
  have hfit : FitC H [] [] 0 0 [] := zV oS og
  cases p with
  | log t =>
    have := rH (b0 := b0) (nx := nx) (ds := ds) (ro := ro) [] 0 hg ho hc hy bSm (.inl ⟨pTo.1, rfl⟩) ⟨func271, rfl, rfl⟩ hN (aFj d t hz) rfl hxs (jE _).symm ⟨⟨trivial, trivial⟩, sM _ _, trivial⟩ hfit uTo.1
    rw [bH, AV.ren_nil] at this; exact this
  | lev ls q =>
    have := rH (b0 := b0) (nx := nx) (ds := ds) (ro := ro) [] 0 hg ho hc hy bSg (.inl ⟨pTo.2.1, rfl⟩) ⟨func270, rfl, rfl⟩ hN (aAs d ls q) rfl hxs (jE _).symm ⟨⟨aX _ _, trivial, trivial⟩, sM _ _, trivial⟩ hfit uTo.2.1
    rw [bH, AV.ren_nil] at this; exact this
  | emp =>
    have := rH (b0 := b0) (nx := nx) (ds := ds) (ro := ro) [] 0 hg ho hc hy bSn (.inl ⟨pTo.2.2, rfl⟩) ⟨func272, rfl, rfl⟩ hN (aAr d) rfl hxs (jE _).symm ⟨trivial, sM _ _, trivial⟩ hfit uTo.2.2
    rw [bH, AV.ren_nil] at this; exact this
def tT (d : Disk) (ps : List StepI) : Disk := ps.foldl aDd d
def sdI (F : Store -> Store × Bool) (s : Store) : Store × Bool := if cQ s = false then (zStore, false) else if (F s).2 = false then (s, false) else ((F s).1, true)
def bEc {s : Store} (h : cQ s = true) (hu : s.up = true) : 0 <= s.tree.seq /\ s.tree.seq <= 100000 /\ s.tree.mem.length <= 60 := by
  unfold cQ at h; rw [if_pos hu] at h; split at h
  . cases h
  unfold upI at h; split at h
  . cases h
  rename_i hb
  unfold aCv at hb
  simp only [F8, not_or] at hb
  have h1 : bR s.tree = true := by have := hb.1.1; simpa using this
  unfold bR at h1; split at h1
  . cases h1
  rename_i h2
  unfold qP at h2; simp at h2; omega
def aLx (d : Disk) (ps : List StepI) (k : Nat) (hk : k <= ps.length) (hl : ps.length <= 1000) (hz : ∀ i p, (ps.take k)[i]? = some p -> (tT d ((ps.take k).take i)).log.size + bQh p <= 4611686018427387904) : aB P 47 [dkA d, .sl 1 (ps.map stAV), Ni (k : Int)] [] 0 (dkA (tT d (ps.take k))) := by
 refine (pq 22 [.cell 6 38] func47) ?_
 simp only [dkA]
 obtain ⟨qs, hqs⟩ : ∃ qs, qs = ps.take k := ⟨_, rfl⟩
 have hql : qs.length = k := by rw [hqs, A7]; omega
 have htk : (ps.map stAV).take k = qs.map stAV := by rw [hqs, D0]
 rw [<- hqs] at hz ⊢
 refine (aj) ?_
 refine sq fun k2 => sr rfl fun k3 => ?_
 simp only [go_sem, htk, hql, Int.toNat_natCast, A2, A7]
 refine (jr) (k3 (wb ?_))
 refine wn qs.length (fun x => ([(3, .ptr 0 0), (6, .ptr 1 0), (11, .sl 1 (qs.map stAV)), (12, Ni (k : Int)), (13, Ni (x : Int))], [(0, .cells 38 [.raw (.string (tT d (qs.take x)).log), .raw (.int .i64 (tT d (qs.take x)).safe), .sl 1 ((tT d (qs.take x)).levels.map rsA), .raw (.int .i64 (tT d (qs.take x)).seq)]), (1, .cells 38 [Ns ⟨#[]⟩, Ni 0, .raw (.slice none 0 0), Ni 0])])) 2 [] ?_ ?_
 . simp only [go_sem, AObj.bel, tT, List.take_zero, List.foldl_nil, Int.natCast_zero] <;> simp [hql]
 rintro i hi
 refine (aj) ?_
 refine sq fun k5 => (cdB) ?_ ?_ <;> intro hc1
 . have hge : qs.length <= i := by simp at hc1; omega
   have hie : i = qs.length := by omega
   subst hie; rw [C6]
   refine we ((jt) (k2 ((aj) (wR ?_))))
   refine fO ?_ (sM _ _)
   exact Av
 have hlt : i < qs.length := by simp at hc1; omega
 obtain ⟨p, hlp, _, _⟩ := ix hlt
 obtain ⟨T, x, hpx⟩ : ∃ T x, stAV p = .iface T x := by cases p <;> exact ⟨_, _, rfl⟩
 have hst : tT d (qs.take (i + 1)) = aDd (tT d (qs.take i)) p := by unfold tT; rw [E7, hlp, List.foldl_append]; rfl
 refine wk (k5 (sq fun k6 => wb (sr rfl fun k7 => (Ar hlp hpx) ((jr) (k7 (wg rfl ((Aa hlp) ?_)))))))
 refine vC (fun hN => bJr p (tT d (qs.take i)) (hz i p hlp) rfl rfl rfl hN (Ab hpx) Av) (.inl rfl) ?_
 simp only [go_sem, dkA, hlp]
 refine (jt) (k6 ((jw (wiS i og)) ((jt) ?_)))
 refine ⟨i + 1, og, og, [], ?_⟩
 simp only [go_sem, AObj.bel, AObj.ren, AV.ren, aA, sg, dkA] <;> simp [hst]
def bQu {s : Store} (h : cQ s = true) : s.disk.log.size <= 12000 := by
  unfold cQ at h; split at h
  . cases h
  rename_i h1; exact aLl (by simpa using h1)
def aRu (σ : Nat -> Nat) (s : Store) : (stA s).ren σ = stA s := AV.ren_closed σ (dT _ s)
def aBh (s : ByteArray) (hs : s.size <= 1048576) : aB P 102 [Ns s] [] 0 (.tup [.sl 1 ((dY s).1.map esA), .raw (.int .i64 (dY s).2)]) :=
  cO (aCh s hs) (by simp only [go_sem, aGn]) oG
def aLy (ls : List (List Run)) (hs : qJ ls) : aB P 48 [.sl 1 (ls.map rsA)] [] 0 (.sl 1 (ls.map rsA)) :=
  cO (dR ls hs) oG oG
def aXb (d : Disk) (hs : qJ d.levels) : aB P 58 [.agg [Ni d.seq, .raw (.slice none 0 0), .sl 1 (d.levels.map rsA), .raw (.slice none 0 0)]] [] 0 (Nb (eH ⟨d.seq, [], d.levels, []⟩)) :=
  (uD ⟨d.seq, [], d.levels, []⟩ ⟨⟨by simp, by simp⟩, hs, by simp⟩).args_le (LeL.cons (Le.aggL (LeL.cons (.refl _) (LeL.cons (.nil _) (LeL.cons (.refl _) (LeL.cons (.nil _) LeL.nil))))) LeL.nil) ⟨jT _ _, trivial⟩
def aPq (t : Tree) (hs : gS t) : aB P 60 [trA t, .agg [Ni 0, .raw (.slice none 0 0), .raw (.slice none 0 0), .raw (.slice none 0 0)]] [] 0 (Nb (iM t mM)) :=
  (aIs t mM (aQk hs)).args_le (LeL.cons (.refl _) (LeL.cons (Le.aggL (LeL.cons (.refl _) (LeL.cons (.nil _) (LeL.cons (.nil _) (LeL.cons (.nil _) LeL.nil))))) LeL.nil)) ⟨jT _ _, jT _ _, trivial⟩
def aSc {s : ByteArray} (hs : s.size <= 1048576) : (dY s).1.length <= 1048576 /\ (∀ b ∈ (dY s).1, b.length <= 1048576) /\ ∀ b ∈ (dY s).1, gY b /\ 1 <= b.length := by
  obtain ⟨h1, h2⟩ := aNs hs
  exact ⟨og, fun b hb => by have := (uM (h1 b hb)).2.2; omega, fun b hb => ⟨(uM (h1 b hb)).1, (uM (h1 b hb)).2.1⟩⟩
def aMw (s : ByteArray) (a : Nat) (h : 0 <= (bF s a).2) : (fTx (bF s a).1).toList = (s.extract a (bF s a).2.toNat).toList := by
  have hf : bF s a = if jJ s a = true then ([], -1) else if (!((fTx (pB s a)).toList == (s.extract a ((bN s (a : Int)).2 + (bN s (a : Int)).1 + 1).toNat).toList)) = true then ([], -1) else (pB s a, (bN s (a : Int)).2 + (bN s (a : Int)).1 + 1) := rfl
  rw [hf] at h ⊢
  split
  . rename_i hb; rw [if_pos hb] at h; simp at h
  rename_i hb
  rw [if_neg hb] at h; split
  . rename_i hc; rw [if_pos hc] at h; simp at h
  rename_i hc
  simpa using hc
def aHl (x : ByteArray) : x.toList.length = x.size := by rw [ByteArray.toList_eq]; rfl
def zA (bs : List (List Entry)) : Nat := (bs.map fun b => (fTx b).size).sum
def bFa (a b : List (List Entry)) : zA (a ++ b) = zA a + zA b := by simp [zA]
def aOd (s : ByteArray) : ∀ (f a : Nat) (out : List (List Entry)), zA out <= a -> a <= s.size -> zA (hP s f a out).1 <= s.size
  | 0, a, out, h, ha => by simp only [hP]; omega
  | f + 1, a, out, h, ha => by
    unfold hP; split
    . split
      . simp only; omega
      rename_i hn
      have h1 := vL s a og
      have h2 := aAf s a
      have h3 := congrArg List.length (aMw s a og)
      rw [aHl, aHl, nQ s _ _ og] at h3
      refine aOd s f _ _ ?_ og
      rw [bFa]
      simp only [zA, List.map_cons, List.map_nil, List.sum_cons, List.sum_nil] at h ⊢
      omega
    simp only; omega
def aMe : ∀ (bs : List (List Entry)) (seq : Int) (out : ByteArray), (bs.foldl (cL seq) out).size <= out.size + zA bs
  | [], seq, out => by simp [zA]
  | b :: r, seq, out => by
    have h1 := aMe r seq (cL seq out b)
    have h2 : (cL seq out b).size <= out.size + (fTx b).size := by
      unfold cL; split
      . rw [C7]; omega
      omega
    simp only [List.foldl_cons, zA, List.map_cons, List.sum_cons] at h1 ⊢
    omega
def aYi (s : Store) (h : s.disk.log.size <= 12000) : (qM s).disk.log.size <= 12000 := by
  have h1 := aMe (dY s.disk.log).1 s.disk.seq ⟨#[]⟩
  have h2 := aOd s.disk.log s.disk.log.size 0 [] (by simp [zA]) (A6 _)
  have h3 : (⟨#[]⟩ : ByteArray).size = 0 := rfl
  show (tF (dY s.disk.log).1 s.disk.seq).size <= _
  unfold tF
  unfold dY at h1 ⊢
  omega
def aTb {s : Store} (hs : dM s) (hlog : s.disk.log.size <= 12000) : dM (qM s) := by
  have h0 := aNs (s := s.disk.log) og
  have h1 := aKq (bs := (dY s.disk.log).1) s.disk.seq h0.1
  have h3 := h0.2
  have h2 := hs.2
  unfold dM gS qM
  generalize wH (dY s.disk.log).1 s.disk.seq = f at h1 ⊢
  exact ⟨⟨⟨by show f.1.length <= _; omega, h1.2⟩, h2, A6 _⟩, h2⟩
def aPo (s : Store) (hs : dM s) (hlog : s.disk.log.size <= 1048576) : aB P 61 [stA s] [] 0 (stA (qM s)) := by
 refine (pq 45 [.cell 2 40] func61) ?_
 simp only [stA]
 have hrb := aSc hlog
 obtain ⟨hrb1, hrb2, hrb3⟩ := hrb
 refine (aj) ?_
 refine sr rfl fun k2 => (ja) ((vq func102 (aBh s.disk.log hlog)) (k2 (sr rfl fun k3 => (ja) ((vq func103 (aFl (dY s.disk.log).1 s.disk.seq hrb1 hrb2)) (k3 ((aj) ?_))))))
 refine sr rfl fun k5 => (ja) ((vq func106 (aPs (dY s.disk.log).1 s.disk.seq hrb1 hrb3)) (k5 ((aj) ?_)))
 refine sr rfl fun k7 => (ja) ((vq func48 (aLy s.disk.levels hs.2)) (k7 ((aj) ?_)))
 refine hZ 1 (ds := [Nb true, .raw (.int .i64 (wH (dY s.disk.log).1 s.disk.seq).2), .sl 5 ((wH (dY s.disk.log).1 s.disk.seq).1.map enA), .sl 1 (s.disk.levels.map rsA), .sl 1 [], Ns (tF (dY s.disk.log).1 s.disk.seq), Ni ((tF (dY s.disk.log).1 s.disk.seq).size : Int), .sl 1 (s.disk.levels.map rsA), Ni s.disk.seq]) rfl (by repeat (first | exact LeL.nil | refine LeL.cons (by first | exact Le.refl _ | exact Le.nil _) ?_)) oG ?_
 refine (ja) (wR ?_)
 refine fO ?_ (dT _ _)
 simp only [go_sem, qM, stA, List.map_nil]
def aHo (s : Store) (hs : dM s) (hlog : s.disk.log.size <= 1048576) : aB P 59 [stA s] [] 0 (Nb (upS s)) := by
 refine (pq 71 [.tmp 2] func59) ?_
 simp only [stA]
 have hrb := aSc hlog
 obtain ⟨hrb1, hrb2, hrb3⟩ := hrb
 refine (aj) ?_
 refine sq fun k2 => sr rfl fun k3 => (ja) ?_
 refine (vr rfl rfl rfl func58 (uD s.tree hs.1) Af Af) ?_
 refine vpg rfl rfl rfl rfl rfl rfl ⟨func101, rfl, rfl⟩ (fun hg => xG s.disk.levels s.tree.levels (aMs hs.2)) oG (fun hg => oG) oG trivial ?_
 refine (ja) (k3 ((cdA) ?_ ?_)) <;> intro hc1
 . have h9 : upS s = false := by unfold upS; rw [if_pos (show aYe s = true from hc1)]
   exact (aj) (wR (fq h9))
 have h9 : upS s = ((decide ((dY s.disk.log).2 = (s.disk.log.size : Int)) && decide ((wH (dY s.disk.log).1 s.disk.seq).1 = s.tree.mem)) && decide ((wH (dY s.disk.log).1 s.disk.seq).2 = s.tree.seq)) := by unfold upS; rw [show aYe s = false from hc1, if_neg oS]
 refine wk (k2 (sr rfl fun k5 => (ja) ((vq func102 (aBh s.disk.log hlog)) (k5 (sr rfl fun k6 => (ja) ((vq func103 (aFl (dY s.disk.log).1 s.disk.seq hrb1 hrb2)) (k6 (sr rfl fun k7 => (ja) ?_))))))))
 refine vpg rfl rfl rfl rfl rfl rfl ⟨func104, rfl, rfl⟩ (fun hg => uA (wH (dY s.disk.log).1 s.disk.seq).1 s.tree.mem (by have := (aKq (bs := (dY s.disk.log).1) s.disk.seq (aNs hlog).1).1; omega)) oG (fun hg => oG) oG trivial ?_
 exact (ja) (k7 (wR (fq h9)))
def aNw (s : Store) (hs : dM s) (hlg : s.disk.log.size <= 1048576) : aB P 27 [stA s] [] 0 (Nb (gB s)) := by
 refine (pq 46 [.tmp 2] func27) ?_
 simp only [stA]
 refine (aj) ?_
 refine sq fun k2 => (aj) ((cdA) ?_ ?_) <;> intro hc1
 . have h9 : gB s = false := by unfold gB; rw [if_pos (show pW s = true from hc1)]
   exact (aj) (wR (fq h9))
 have hd : pW s = false := hc1
 have hlog : s.disk.log.size <= 12000 := by unfold pW at hd; simp at hd; omega
 refine wk (k2 (sq fun k5 => sr rfl fun k6 => (ja) ((vq func58 (aXb s.disk hs.2)) (k6 ((cdA) ?_ ?_))))) <;> intro hc2
 . have ht : eH ⟨s.disk.seq, [], s.disk.levels, []⟩ = false := by simpa using hc2
   have h9 : gB s = false := by unfold gB; rw [hd, if_neg oS, if_pos ht]
   exact (aj) (wR (fq h9))
 have ht : eH ⟨s.disk.seq, [], s.disk.levels, []⟩ = true := by simpa using hc2
 refine wk (k5 (sq fun k8 => (aj) ((cdA) ?_ ?_))) <;> intro hc3
 . have hup : s.up = true := hc3
   have h9 : gB s = upS s := by unfold gB; rw [hd, if_neg oS, if_neg (by rw [ht]; simp), if_pos hup]
   refine sr rfl fun k10 => (ja) ?_
   exact (vr rfl rfl rfl func59 (aHo s hs og) Ae Ae) (k10 (wR (fq h9)))
 have hup : s.up = false := hc3
 have h9 : gB s = (iM s.tree mM && upS (qM s)) := by unfold gB; rw [hd, if_neg oS, if_neg (by rw [ht]; simp), if_neg (by rw [hup]; simp)]
 have hos := aTb hs hlog
 have hol := aYi s hlog
 refine wk (k8 (sr rfl fun k11 => (ja) ?_))
 refine (vr rfl rfl rfl func60 (aPq s.tree hs.1) Af Af) ?_
 refine vpg rfl rfl rfl rfl rfl rfl ⟨func61, rfl, rfl⟩ (fun hg => aPo s hs og) oG (fun hg => Ae) Ae (dT _ _) ?_
 refine (ja) ?_
 refine vpg rfl rfl rfl rfl rfl rfl ⟨func59, rfl, rfl⟩ (fun hg => aHo (qM s) hos og) oG (fun hg => Ae) Ae trivial ?_
 exact (ja) (k11 (wR (fq h9)))
def bEf {s : Store} (h : dM s) : dM (lD s) := by
  unfold lD; split
  . exact h
  exact ⟨⟨⟨A6 _, fun e he => by cases he⟩, ⟨A6 _, fun e he => by cases he⟩, A6 _⟩, h.2⟩
section
variable {s : ByteArray} {a : Nat}
def bMs (seq : Int) (bs : List (List Entry)) : wH bs seq = iH bs seq := by
  have step : ∀ (st : List Entry × Int) (e : Entry), jB seq (dJ st.1, st.2) e = (dJ (lY seq st e).1, (lY seq st e).2) := fun st e => by
    unfold jB lY; split
    . simp [dJ, List.foldl_append]
    rfl
  have row : ∀ (b : List Entry) (st : List Entry × Int), mB seq (dJ st.1, st.2) b = (dJ (mZ seq st b).1, (mZ seq st b).2) := by
    intro b
    induction b with
    | nil => intro st; rfl
    | cons x r ih =>
      intro st
      have h1 := ih (lY seq st x)
      simp only [mB, mZ, List.foldl_cons] at h1 ⊢
      rw [step st x]; exact h1
  have all : ∀ (bs : List (List Entry)) (st : List Entry × Int), bs.foldl (mB seq) (dJ st.1, st.2) = (dJ (bs.foldl (mZ seq) st).1, (bs.foldl (mZ seq) st).2) := by
    intro bs
    induction bs with
    | nil => intro st; rfl
    | cons b r ih => intro st; rw [List.foldl_cons, List.foldl_cons, row b st]; exact ih _
  exact all bs ([], seq)
def Has (s : ByteArray) (a : Nat) (t : List UInt8) : Prop := ((bL s).drop a).take t.length = t
def Has.len {t : List UInt8} (h : Has s a t) (ha : a <= s.size) : a + t.length <= s.size := by
  have h1 := congrArg List.length h
  rw [A7, B0, aT] at h1; omega
def Has.split {t u : List UInt8} (h : Has s a (t ++ u)) : Has s a t /\ Has s (a + t.length) u := by
  unfold Has at h ⊢
  rw [A3] at h
  have h1 := congrArg (List.take t.length) h
  have h2 := congrArg (List.drop t.length) h
  rw [List.take_take, Nat.min_eq_left og, List.take_left'  rfl] at h1; rw [List.drop_take, List.drop_drop, List.drop_left' rfl] at h2
  refine ⟨h1, ?_⟩
  rw [show t.length + u.length - t.length = u.length by omega] at h2; exact h2
def aLm (s : ByteArray) (a b : Nat) : bL (s.extract a b) = ((bL s).drop a).take (b - a) := by
  unfold bL; rw [ByteArray.data_extract, Array.toList_extract]
def Has.ext {t : List UInt8} (h : Has s a t) : s.extract a (a + t.length) = ⟨t.toArray⟩ := by
  rw [<- rF (s.extract a (a + t.length)), aLm, show a + t.length - a = t.length by omega, h]
def Has.of_ext {a b : Nat} {t : List UInt8} (h : bL (s.extract a b) = t) (hb : a + t.length = b) : Has s a t := by
  rw [aLm] at h; unfold Has
  rw [show t.length = b - a by omega]; exact h
def Has.at {a i : Nat} {t : List UInt8} (h : Has s a t) (hi : i < t.length) : (bL s)[a + i]? = t[i]? := by
  have h1 := congrArg (·[i]?) h
  simp only [F9, if_pos hi, H4] at h1
  exact h1
def Has.rest {t : List UInt8} (h : Has s a t) : ∃ r, (bL s).drop a = t ++ r := ⟨((bL s).drop a).drop t.length, by
  have := List.take_append_drop t.length ((bL s).drop a)
  rw [show ((bL s).drop a).take t.length = t from h] at this
  exact this.symm⟩
def bKl : ∀ (w r : List UInt8), (∀ c ∈ w, c ≠ 32) -> Lib.indexByte (w ++ 32 :: r) 32 = (w.length : Int)
  | [], r, _ => by simp [Lib.indexByte]
  | c :: w, r, h => by
    have h1 : (c == 32) = false := by simpa using h c A5
    have ih := bKl w r fun x hx => h x (A4 _ hx)
    rw [List.cons_append, Lib.indexByte, h1, ih]; simp only [B9, if_false, B7]; split
    . rename_i h2; simp at h2
    omega
def bPs {w : List UInt8} (ha : a <= s.size) (h : Has s a (w ++ [32])) (hw : ∀ c ∈ w, c ≠ 32) (hl : w.length <= 8) : wI s a = (⟨w.toArray⟩, true, a + (w.length + 1)) := by
  obtain ⟨r, hr⟩ := h.rest
  have hln := h.len ha
  rw [A3, List.length_singleton] at hln
  have hah : bL (lW s a) = w ++ 32 :: r.take (min s.size (a + 9) - a - (w.length + 1)) := by
    unfold lW
    rw [aLm, hr, List.take_append, A3, List.length_singleton, List.take_of_length_le (by rw [A3, List.length_singleton]; omega)]
    simp
  have hsp : aBx s a = (w.length : Int) := by
    unfold aBx; rw [show (lW s a).data.toList = bL (lW s a) from rfl, hah]
    exact bKl _ _ hw
  have hx : (lW s a).extract 0 w.length = ⟨w.toArray⟩ := by
    rw [<- rF ((lW s a).extract 0 w.length), aLm, hah, List.drop_zero, Nat.sub_zero, List.take_left' rfl]
  unfold wI; rw [hsp, if_neg og, Int.toNat_natCast, hx]
end
def aNq {s : ByteArray} {a i : Nat} {t : List UInt8} {c : UInt8} (h : Has s a t) (hi : t[i]? = some c) : aJ s (a + i) = (c.toNat : Int) := by
  have hl : i < t.length := (A9.1 hi).1
  have h1 := h.at hl
  rw [hi] at h1; unfold aJ
  show ((((bL s).getD (a + i) 0).toNat : Nat) : Int) = _
  rw [F7, h1]; rfl
def bRs {c : UInt8} (h : c ≠ 32) : (c.toNat : Int) ≠ 32 := by
  intro h1; apply h; apply UInt8.toNat_inj.1
  show c.toNat = 32
  omega
def bDv {s : ByteArray} : ∀ (w : List UInt8) (a f : Nat), Has s a (w ++ [32]) -> (∀ c ∈ w, c ≠ 32) -> w.length < f -> aGv s f a = some (a + w.length)
  | [], a, 0, _, _, hf => by simp at hf
  | [], a, f + 1, h, _, _ => by
    have h1 := aNq (i := 0) (c := 32) h rfl
    rw [Nat.add_zero] at h1
    rw [aGv, if_pos (by rw [h1]; rfl)]
    rfl
  | c :: w, a, 0, _, _, hf => by simp at hf
  | c :: w, a, f + 1, h, hw, hf => by
    have h1 := aNq (i := 0) (c := c) h rfl
    rw [Nat.add_zero] at h1
    rw [aGv, if_neg (by rw [h1]; exact bRs (hw c A5))]
    have h2 : Has s (a + 1) (w ++ [32]) := (Has.split (t := [c]) (u := w ++ [32]) h).2
    rw [bDv w (a + 1) f h2 (fun x hx => hw x (A4 _ hx)) (by rw [B7] at hf; omega), B7]
    congr 1; omega
def aXc {s : ByteArray} {a : Nat} {w : List UInt8} (ha : a <= s.size) (h : Has s a (w ++ [32])) (hw : ∀ c ∈ w, c ≠ 32) : jH s a = (⟨w.toArray⟩, ((a + (w.length + 1) : Nat) : Int)) := by
  have hln := h.len ha
  rw [A3, List.length_singleton] at hln; unfold jH; rw [bDv w a _ h hw og]
  simp only
  rw [(Has.split h).1.ext]
  congr 1
def bKi {s : ByteArray} {a : Nat} {t : List UInt8} (ha : a <= s.size) (h : Has s a t) : tI s a (t.length : Int) = (⟨t.toArray⟩, true, a + t.length) := by
  have hln := h.len ha
  unfold tI; rw [if_neg og, Int.toNat_natCast, h.ext]
def aHf {u : Nat} (h : u < 10) : Lib.decDigits u = [UInt8.ofNat (48 + u)] := by rw [Lib.decDigits, dif_pos h]
def aSt {u : Nat} (h : ¬ u < 10) : Lib.decDigits u = Lib.decDigits (u / 10) ++ [UInt8.ofNat (48 + u % 10)] := by rw [Lib.decDigits, dif_neg h]
def aGo {m : Nat} (h : m < 10) : (UInt8.ofNat (48 + m)).toNat = 48 + m := by
  rw [UInt8.toNat_ofNat']; omega
def aUl (u : Nat) : ∀ c ∈ Lib.decDigits u, 48 <= c.toNat /\ c.toNat <= 57 := by
  induction u using Nat.strongRecOn with
  | ind u ih =>
    intro c hc
    by_cases h : u < 10
    . rw [aHf h] at hc
      rw [B6.1 hc, aGo h]; omega
    rw [aSt h] at hc
    rcases B4.1 hc with h1 | h1
    . exact ih (u / 10) og c h1
    rw [B6.1 h1, aGo og]; omega
def bMq (u : Nat) : ∀ r, u < 1000000000000000000 -> Lib.parseUint10 0 (Lib.decDigits u ++ r) = Lib.parseUint10 u r := by
  have one : ∀ (acc m : Nat) r, m < 10 -> acc < 1000000000000000000 -> Lib.parseUint10 acc (UInt8.ofNat (48 + m) :: r) = Lib.parseUint10 (acc * 10 + m) r := fun acc m r hm ha => by
    rw [Lib.parseUint10, aGo hm, if_pos og, if_neg og, if_neg og, show 48 + m - 48 = m by omega]
  induction u using Nat.strongRecOn with
  | ind u ih =>
    intro r hu
    by_cases h : u < 10
    . rw [aHf h, List.singleton_append, one 0 u r h og, Nat.zero_mul, C5]
    rw [aSt h, F6, ih (u / 10) og _ og, List.singleton_append, one _ _ r og og]
    congr 1; omega
def bDl (u : Nat) : Lib.decDigits u ≠ [] := by
  by_cases h : u < 10
  . rw [aHf h]; simp
  rw [aSt h]; simp
def bIe (l : List UInt8) : Int := l.foldl (fun a c => a * 10 + ((c.toNat : Int) - 48)) 0
def aZt (l : List UInt8) (c : UInt8) : bIe (l ++ [c]) = bIe l * 10 + ((c.toNat : Int) - 48) := by unfold bIe; rw [List.foldl_append]; rfl
def bQf (u : Nat) : bIe (Lib.decDigits u) = (u : Int) := by
  induction u using Nat.strongRecOn with
  | ind u ih =>
    by_cases h : u < 10
    . rw [aHf h]
      show (0 : Int) * 10 + (((UInt8.ofNat (48 + u)).toNat : Int) - 48) = _
      rw [aGo h]; omega
    rw [aSt h, aZt, ih (u / 10) og, aGo og]; omega
def aAe {l : List UInt8} {i : Nat} {c : UInt8} (h : l[i]? = some c) : aJ ⟨l.toArray⟩ i = (c.toNat : Int) := by
  unfold aJ; rw [F7]
  show (((l[i]?.getD 0).toNat : Nat) : Int) = _
  rw [h]; rfl
def aRv {l : List UInt8} (hl : ∀ c ∈ l, 48 <= c.toNat /\ c.toNat <= 57) : ∀ i, i <= l.length -> lF ⟨l.toArray⟩ i = some (bIe (l.take i))
  | 0, _ => by rw [List.take_zero]; rfl
  | i + 1, h => by
    have he := A1 (l := l) (i := i) og
    have hd := hl _ (D7 (l := l) (n := i) og)
    have hb := aAe he
    rw [lF, aRv hl i og]
    simp only
    rw [hb, if_neg (by simp; omega), E7, he]; simp only [Option.toList_some, aZt]
def bMe {u k : Nat} (h : u < 10 ^ (k + 1)) : (Lib.decDigits u).length <= k + 1 := by
  induction k generalizing u with
  | zero => rw [aHf (by simpa using h)]; simp
  | succ k ih =>
    by_cases h1 : u < 10
    . rw [aHf h1]; simp
    rw [aSt h1, A3, List.length_singleton]
    have := ih (u := u / 10) (by rw [Nat.pow_succ] at h; omega)
    omega
def bOk (u : Nat) (h : 1 <= u) : ∃ c r, Lib.decDigits u = c :: r /\ c.toNat ≠ 48 := by
  induction u using Nat.strongRecOn with
  | ind u ih =>
    by_cases h1 : u < 10
    . exact ⟨_, [], aHf h1, by rw [aGo h1]; omega⟩
    obtain ⟨c, r, h2, h3⟩ := ih (u / 10) og og
    exact ⟨c, r ++ [UInt8.ofNat (48 + u % 10)], by rw [aSt h1, h2]; rfl, h3⟩
def aUk {n : Int} (h0 : -1000000000000000000 <= n) (h1 : n <= 1000000000000000000) : bL (dec n) = if n < 0 then 45 :: Lib.decDigits n.natAbs else Lib.decDigits n.natAbs := by
  rw [<- aGf h0 h1]; unfold aZb Lib.itoa bL; split
  . simp
  rename_i h
  simp
  rw [show n.toNat = n.natAbs by omega]
abbrev inN (n : Int) : Prop := -10000000000000000 < n /\ n < 10000000000000000
def bAj {n : Int} (h : inN n) : ∀ c ∈ bL (dec n), c ≠ 32 := by
  rw [aUk og og]
  have hd : ∀ c ∈ Lib.decDigits n.natAbs, c ≠ 32 := fun c hc e => by
    have := aUl _ c hc
    rw [e] at this
    exact absurd this.1 dg
  split
  . intro c hc
    rcases B1.1 hc with rfl | h1
    . decide
    exact hd c h1
  exact hd
def bFv {n : Int} (h : inN n) : iN (dec n) = (n, true) := by
  have hp := bMq n.natAbs [] og
  rw [List.append_nil] at hp
  have hm : Lib.parseMag (Lib.decDigits n.natAbs) = .ok n.natAbs := by
    unfold Lib.parseMag
    rw [if_neg (bDl _), hp]; rfl
  have ha : Lib.atoiAll (bL (dec n)) = .ok n := by
    rw [aUk og og]; split
    . rename_i hn
      unfold Lib.atoiAll; simp only [show (45 : UInt8).toNat = 45 from rfl, or_true, if_true, hm, not_true_eq_false, false_and, if_false, true_and]; rw [if_neg og]
      congr 1; omega
    rename_i hn
    obtain ⟨c, r, hc⟩ := G1 (bDl n.natAbs)
    have hd := aUl n.natAbs c (by rw [hc]; exact A5)
    rw [hc] at hm ⊢
    unfold Lib.atoiAll
    have e1 : ¬ c.toNat = 45 := by omega
    have e2 : ¬ c.toNat = 43 := by omega
    simp only [e1, e2, or_self, if_false, hm, not_false_eq_true, true_and, false_and]; rw [if_neg og]
    congr 1; omega
  unfold iN; rw [show (dec n).data.toList = bL (dec n) from rfl, ha]
def bPt {s : ByteArray} {a : Nat} {n : Int} (h : inN n) (hl : (dec n).size <= 8) (ha : a <= s.size) (hh : Has s a (bL (dec n ++ spB))) : nI s a = (n, true, a + ((dec n).size + 1)) := by
  rw [uC] at hh
  have hw := bPs ha hh (bAj h) (by rw [aT]; exact hl)
  unfold nI; rw [hw]; simp only [if_true, rF, bFv h, aT]
def bMk {n : Int} (h : inN n) : (Lib.decDigits n.natAbs).length <= 17 := bMe (k := 16) og
def aVf (l : List UInt8) : (⟨l.toArray⟩ : ByteArray).size = l.length := by show l.toArray.size = _; simp
def bJh (u : Nat) : 1 <= (Lib.decDigits u).length := by
  have := bDl u
  cases h : Lib.decDigits u with
  | nil => exact absurd h this
  | cons c r => simp
def aRk {u : Nat} {ng : Bool} (hl : (Lib.decDigits u).length <= 17) (hn : ng = true -> 1 <= u) : tW ⟨(Lib.decDigits u).toArray⟩ ng = false := by
  have hp := bJh u
  unfold tW; rw [aVf]
  by_cases h0 : u = 0
  . subst h0
    have : ng = false := by cases ng; rfl; exact absurd (hn rfl) og
    subst this; rw [aHf og]
    decide
  obtain ⟨c, r, hc, h48⟩ := bOk u og
  have hb : aJ ⟨(Lib.decDigits u).toArray⟩ 0 = (c.toNat : Int) := aAe (by rw [hc]; rfl)
  rw [hb]
  have e1 : decide (((Lib.decDigits u).length : Int) = 0) = false := decide_eq_false og
  have e2 : decide (17 < ((Lib.decDigits u).length : Int)) = false := decide_eq_false og
  have e3 : decide ((c.toNat : Int) = 48) = false := decide_eq_false og
  rw [e1, e2, e3]; rfl
def aXv (u : Nat) : lF ⟨(Lib.decDigits u).toArray⟩ (⟨(Lib.decDigits u).toArray⟩ : ByteArray).size = some (u : Int) := by
  rw [aVf, aRv (aUl u) _ (A0 _), C6, bQf]
def bIo {n : Int} (h : inN n) : aJo (dec n) = some n := by
  have hb := aUk (n := n) og og
  have hl := bMk h
  have hp := bJh n.natAbs
  by_cases hn : n < 0
  . rw [if_pos hn] at hb
    have hd : dec n = ⟨(45 :: Lib.decDigits n.natAbs).toArray⟩ := by rw [<- hb, rF]
    have hng : tG (dec n) = true := by
      unfold tG; rw [hd, aAe (i := 0) (c := 45) rfl, aVf, B7]
      have e1 : decide (0 < (((Lib.decDigits n.natAbs).length + 1 : Nat) : Int)) = true := decide_eq_true og
      rw [e1]; rfl
    have hun : mJ (dec n) = ⟨(Lib.decDigits n.natAbs).toArray⟩ := by
      unfold mJ; rw [if_pos hng, <- rF ((dec n).extract 1 (dec n).size), aLm, hb, <- aT, hb]
      simp
    unfold aJo; rw [hun, hng, aRk hl (fun _ => by omega), aXv]; simp only [B9, if_false, Option.map_some, if_true]
    congr 1; omega
  rw [if_neg hn] at hb
  have hd : dec n = ⟨(Lib.decDigits n.natAbs).toArray⟩ := by rw [<- hb, rF]
  obtain ⟨c, r, hc⟩ := G1 (bDl n.natAbs)
  have hdg := aUl n.natAbs c (by rw [hc]; exact A5)
  have hng : tG (dec n) = false := by
    unfold tG
    rw [hd, aAe (i := 0) (c := c) (by rw [hc]; rfl)]
    have e1 : decide ((c.toNat : Int) = 45) = false := decide_eq_false og
    rw [e1, Bool.and_false]
  have hun : mJ (dec n) = ⟨(Lib.decDigits n.natAbs).toArray⟩ := by
    unfold mJ
    rw [hng]; simpa using hd
  unfold aJo; rw [hun, hng, aRk hl (fun h => by cases h), aXv]; simp only [B9, if_false, Option.map_some]
  congr 1; omega
def zN {s : ByteArray} {a : Nat} {n : Int} (h : inN n) (ha : a <= s.size) (hh : Has s a (bL (dec n ++ spB))) : bN s (a : Int) = (n, ((a + ((dec n).size + 1) : Nat) : Int)) := by
  rw [uC] at hh
  have hw := aXc ha hh (bAj h)
  unfold bN; rw [if_neg og, Int.toNat_natCast, hw, rF, bIo h, aT]
abbrev inS (n : Int) : Prop := -10000000 < n /\ n < 10000000
def aRx {n : Int} (h : inS n) : (dec n).size <= 8 := by
  have hl : (Lib.decDigits n.natAbs).length <= 7 := bMe (k := 6) og
  rw [<- aT, aUk og og]; split
  . rw [B7]; omega
  omega
def aZr {s : ByteArray} : ∀ (ns : List Int) (a : Nat), (∀ n ∈ ns, inS n) -> a <= s.size -> Has s a (qX ns) -> eP s ns.length a = (ns, true, a + (qX ns).length)
  | [], a, _, _, _ => by simp [eP, qX]
  | n :: r, a, hn, ha, hh => by
    have h0 : qX (n :: r) = bL (dec n ++ spB) ++ qX r := by simp [qX]
    rw [h0] at hh
    have hs := hn n A5
    have hlen := hh.split.1.len ha
    have hl : (bL (dec n ++ spB)).length = (dec n).size + 1 := by rw [aT, C7, bP]
    have h1 := bPt (n := n) ⟨og, og⟩ (aRx hs) ha hh.split.1
    rw [hl] at hlen
    have h2 := hh.split.2
    rw [hl] at h2
    have ih := aZr r _ (fun m hm => hn m (A4 _ hm)) og h2
    rw [B7, eP, h1]; simp only [if_true, ih]; rw [h0, A3, hl]; simp only [Prod.mk.injEq, true_and]; omega
def entL (e : Entry) : List UInt8 := bL (e.key ++ spB) ++ qX (jU e) ++ bL e.text
def aWx {k : ByteArray} (h : jG k = true) : ∀ c ∈ bL k, c ≠ 32 := by
  intro c hc e; subst e
  obtain ⟨i, hi, he⟩ := List.mem_iff_getElem.1 hc
  have hb : aJ k i = 32 := by
    unfold aJ; rw [F7]
    show ((((bL k)[i]?.getD 0).toNat : Nat) : Int) = _
    rw [A1 hi, he]; rfl
  rw [aT] at hi
  simp only [jG, C8, C4, List.mem_range] at h
  have := h.1 i hi
  simp [wZ, hb] at this
def aQp {e : Entry} (h : bQ e = true) : jG e.key = true /\ (∀ n ∈ jU e, inS n) /\ e.key.size <= 8 := by
  have hr := gM h
  refine ⟨?_, ?_, hr.2.2.2.2.2.2.2⟩
  . unfold bQ at h; split at h
    . cases h
    rename_i hb
    simp [jP] at hb
    simp [hb]
  intro n hn
  simp only [jU, B1, List.not_mem_nil, or_false] at hn
  rcases hn with rfl | rfl | rfl | rfl <;> exact ⟨og, og⟩
def bRv {s : ByteArray} {a : Nat} {e : Entry} (h : bQ e = true) (ha : a <= s.size) (hh : Has s a (entL e)) : eI s a = (e, true, a + (entL e).length) := by
  obtain ⟨hk, hn, h8⟩ := aQp h
  have hlen := hh.len ha
  unfold entL at hh hlen ⊢
  have hA := hh.split.1.split.1
  have hB := hh.split.1.split.2
  have hC := hh.split.2
  have hlk : (bL (e.key ++ spB)).length = e.key.size + 1 := by rw [aT, C7, bP]
  simp only [A3, hlk] at hlen hB hC ⊢
  rw [uC] at hA
  have h1 := bPs ha hA (aWx hk) (by rw [aT]; exact h8)
  rw [aT, rF] at h1
  have h2 := aZr (jU e) _ hn og hB
  rw [show (jU e).length = 4 from rfl] at h2
  have h3 := bKi og hC
  rw [aT, rF] at h3; unfold eI; rw [h1]; simp only [if_true]; rw [h2]; simp only [if_true]; rw [<- Nat.add_assoc a (e.key.size + 1)] at h3; rw [show (jU e).getD 3 0 = (e.text.size : Int) from rfl]; rw [h3]; simp only [if_true, aT]; rw [show (jU e).getD 0 0 = e.seq from rfl, show (jU e).getD 1 0 = e.kind from rfl, show (jU e).getD 2 0 = e.n from rfl]; simp only [Prod.mk.injEq, true_and]; omega
def bPa {s : ByteArray} {a : Nat} {e : Entry} (h : bQ e = true) (ha : a <= s.size) (hh : Has s a (entL e)) : wV s a = (e, ((a + (entL e).length : Nat) : Int)) := by
  obtain ⟨hk, hn, h8⟩ := aQp h
  have hlen := hh.len ha
  unfold entL at hh hlen ⊢
  have hA := hh.split.1.split.1
  have hB := hh.split.1.split.2
  have hC := hh.split.2
  have hlk : (bL (e.key ++ spB)).length = e.key.size + 1 := by rw [aT, C7, bP]
  have hnl : qX (jU e) = bL (dec e.seq ++ spB) ++ bL (dec e.kind ++ spB) ++ bL (dec e.n ++ spB) ++ bL (dec (e.text.size : Int) ++ spB) := by simp [qX, jU]
  have hdl : ∀ n, (bL (dec n ++ spB)).length = (dec n).size + 1 := fun n => by rw [aT, C7, bP]
  rw [uC] at hA
  have i1 := hn e.seq (by simp [jU])
  have i2 := hn e.kind (by simp [jU])
  have i3 := hn e.n (by simp [jU])
  have i4 := hn (e.text.size : Int) (by simp [jU])
  rw [hnl] at hB hC hlen ⊢
  have h1 := aXc ha hA (aWx hk)
  rw [aT, rF] at h1; rw [hlk] at hB
  have b4 := hB.split.2
  have b3 := hB.split.1.split.2
  have b2 := hB.split.1.split.1.split.2
  have b1 := hB.split.1.split.1.split.1
  simp only [A3, hlk, hdl, aT] at b1 b2 b3 b4 hC hlen ⊢
  have f1 : e1 s a = (e.key, ((a + (e.key.size + 1) : Nat) : Int)) := h1
  have f2 : e2 s a = (e.seq, ((a + (e.key.size + 1) + ((dec e.seq).size + 1) : Nat) : Int)) := by
    unfold e2; rw [f1]; exact zN ⟨og, og⟩ og b1
  have f3 : e3 s a = (e.kind, ((a + (e.key.size + 1) + ((dec e.seq).size + 1) + ((dec e.kind).size + 1) : Nat) : Int)) := by
    unfold e3; rw [f2]; exact zN ⟨og, og⟩ og b2
  have f4 : e4 s a = (e.n, ((a + (e.key.size + 1) + ((dec e.seq).size + 1 + ((dec e.kind).size + 1)) + ((dec e.n).size + 1) : Nat) : Int)) := by
    unfold e4; rw [f3, Nat.add_assoc (a + (e.key.size + 1))]; exact zN ⟨og, og⟩ og b3
  have f5 : e5 s a = ((e.text.size : Int), ((a + (e.key.size + 1) + ((dec e.seq).size + 1 + ((dec e.kind).size + 1) + ((dec e.n).size + 1)) + ((dec (e.text.size : Int)).size + 1) : Nat) : Int)) := by
    unfold e5; rw [f4, Nat.add_assoc (a + (e.key.size + 1))]; exact zN ⟨og, og⟩ og b4
  have hb : zP s a = false := by
    unfold zP; rw [f5]
    simp
    omega
  have hx := hC.ext
  rw [aT, rF] at hx; unfold wV; rw [hb, f1, f2, f3, f4, f5]; simp only [B9, if_false, Prod.mk.injEq]
  refine ⟨?_, og⟩
  rw [<- Int.natCast_add, Int.toNat_natCast, Int.toNat_natCast]
  have e0 : a + (e.key.size + 1) + ((dec e.seq).size + 1 + ((dec e.kind).size + 1) + ((dec e.n).size + 1)) + ((dec (e.text.size : Int)).size + 1) = a + (e.key.size + 1 + ((dec e.seq).size + 1 + ((dec e.kind).size + 1) + ((dec e.n).size + 1) + ((dec (e.text.size : Int)).size + 1))) := by omega
  rw [e0, hx]
def aWz (out : ByteArray) (e : Entry) : bL (pS out e) = bL out ++ entL e := by
  unfold pS entL; simp only [uC, qX, jU, List.flatMap_cons, List.flatMap_nil, F6, List.append_nil]
def aRj (ls : List Entry) : bL (bTx ls) = ls.flatMap entL := by
  have : ∀ (ls : List Entry) (out : ByteArray), bL (ls.foldl pS out) = bL out ++ ls.flatMap entL := by
    intro ls
    induction ls with
    | nil => intro out; simp
    | cons e r ih => intro out; rw [List.foldl_cons, ih, aWz, List.flatMap_cons, F6]
  unfold bTx
  rw [this]; rfl
def aMo (e : Entry) : 1 <= (entL e).length := by
  unfold entL
  rw [A3, A3, aT, C7, bP]; omega
def bIv (r : List Entry) : r.length <= (r.flatMap entL).length := by
  induction r with
  | nil => simp
  | cons e r ih =>
    have := aMo e
    rw [List.flatMap_cons, A3, B7]; omega
def aQy {s : ByteArray} : ∀ (r : List Entry) (f a : Nat) (out : List Entry), (∀ e ∈ r, bQ e = true) -> a <= s.size -> Has s a (r.flatMap entL) -> a + (r.flatMap entL).length = s.size -> out.length + r.length <= 12 -> r.length <= f -> jL s f a out = (out ++ r, true)
  | [], f, a, out, _, _, _, hl, _, _ => by
    rw [aNe (by simp at hl; omega), List.append_nil]
  | e :: r, 0, a, out, _, _, _, _, _, hf => by simp at hf
  | e :: r, f + 1, a, out, he, ha, hh, hl, h12, hf => by
    rw [List.flatMap_cons] at hh hl
    have hp := aMo e
    rw [A3] at hl
    have h1 := bRv (he e A5) ha hh.split.1
    rw [B7] at h12 hf
    rw [jL, if_pos og, h1]
    have e1 : decide (12 <= (out.length : Int)) = false := decide_eq_false og
    simp only [e1, Bool.not_true, Bool.or_self, B9, if_false]
    rw [aQy r f _ _ (fun x hx => he x (A4 _ hx)) og hh.split.2 og (by rw [A3, List.length_singleton]; omega) og]
    simp
def aRt {s : ByteArray} : ∀ (r : List Entry) (f a : Nat) (out : List Entry), (∀ e ∈ r, bQ e = true) -> a <= s.size -> Has s a (r.flatMap entL) -> a + (r.flatMap entL).length = s.size -> out.length + r.length <= 12 -> r.length < f -> lV s f (a : Int) out = out ++ r
  | [], 0, a, out, _, _, _, _, _, hf => by simp at hf
  | [], f + 1, a, out, _, _, _, hl, _, _ => by
    simp at hl
    have e1 : decide ((a : Int) < (s.size : Int)) = false := decide_eq_false og
    rw [lV, e1]; simp
  | e :: r, 0, a, out, _, _, _, _, _, hf => by simp at hf
  | e :: r, f + 1, a, out, he, ha, hh, hl, h12, hf => by
    rw [List.flatMap_cons] at hh hl
    have hp := aMo e
    rw [A3] at hl
    have h1 := bPa (he e A5) ha hh.split.1
    rw [B7] at h12 hf
    rw [lV, if_pos (by simp; omega), Int.toNat_natCast, h1]
    simp only
    rw [aRt r f _ _ (fun x hx => he x (A4 _ hx)) og hh.split.2 og (by rw [A3, List.length_singleton]; omega) og]
    simp
def Has.self (s : ByteArray) : Has s 0 (bL s) := by unfold Has; rw [List.drop_zero, C6]
def bCo {b : List Entry} (h : isB b = true) : jL (bTx b) (bTx b).size 0 [] = (b, true) := by
  obtain ⟨h1, h2, h3⟩ := dF h
  have hs := Has.self (bTx b)
  have hl := aT (bTx b)
  rw [aRj] at hs hl
  have hf := bIv b
  rw [aQy b _ 0 [] h1 (A6 _) hs og (by simpa using h3) og]; rfl
def bBh {b : List Entry} (h : isB b = true) : aIo (bTx b) = b := by
  obtain ⟨h1, h2, h3⟩ := dF h
  have hs := Has.self (bTx b)
  have hl := aT (bTx b)
  rw [aRj] at hs hl
  have := aRt b 14 0 [] h1 (A6 _) hs og (by simpa using h3) og
  unfold aIo
  rw [show (0 : Int) = ((0 : Nat) : Int) from rfl, this]; rfl
def aMt {b : List Entry} (h : isB b = true) : (bTx b).size <= 1884 := by
  obtain ⟨h1, h2, h3⟩ := dF h
  have := sV b ⟨#[]⟩ fun e he => by have := gM (h1 e he); omega
  have h0 : (⟨#[]⟩ : ByteArray).size = 0 := rfl
  unfold bTx; omega
section
variable {b : List Entry} {s t : ByteArray} {a : Nat}
def aUt (h : isB b = true) : bL (fTx b) = bL (dec ((bTx b).size : Int) ++ spB) ++ bL (bTx b) ++ [10] := by
  unfold fTx
  rw [if_pos h, uC, uC]; rfl
def aMn (h : isB b = true) : (fTx b).size = (dec ((bTx b).size : Int)).size + 1 + (bTx b).size + 1 := by
  rw [<- aT, aUt h, A3, A3, aT, aT, C7, bP]; rfl
def Has.extT (h : Has s a (bL t)) : s.extract a (a + t.size) = t := by
  have := h.ext
  rw [aT, rF] at this; exact this
def bRk (h : isB b = true) (ha : a <= s.size) (hh : Has s a (bL (fTx b))) : bI s a = (b, true, a + (fTx b).size) := by
  have hsm := aMt h
  have hx := hh.extT
  have hlen := hh.len ha
  rw [aT] at hlen
  rw [aMn h] at hx hlen ⊢
  rw [aUt h] at hh
  have hA := hh.split.1.split.1
  have hB := hh.split.1.split.2
  have hC := hh.split.2
  have hl : ∀ n, (bL (dec n ++ spB)).length = (dec n).size + 1 := fun n => by rw [aT, C7, bP]
  simp only [A3, hl, aT] at hB hC
  have h1 := bPt (n := ((bTx b).size : Int)) ⟨og, og⟩ (aRx ⟨og, og⟩) ha hA
  have h2 := bKi og hB
  rw [aT, rF] at h2
  have h3 := bKi og hC
  rw [show ((([10] : List UInt8).length : Nat) : Int) = 1 from rfl, <- Nat.add_assoc a] at h3
  have hbad : bAp s a (a + ((dec ((bTx b).size : Int)).size + 1) + (bTx b).size + ([10] : List UInt8).length) b = false := by
    unfold bAp
    rw [h, show a + ((dec ((bTx b).size : Int)).size + 1) + (bTx b).size + ([10] : List UInt8).length = a + ((dec ((bTx b).size : Int)).size + 1 + (bTx b).size + 1) by simp only [List.length_singleton]; omega, hx]
    simp
  rw [List.length_singleton] at hbad; unfold bI; rw [h1]; simp only [if_true, h2, h3, bCo h, hbad, B9, if_false, List.length_singleton]
  refine Prod.ext rfl (Prod.ext rfl ?_)
  show (_ : Nat) = _
  simp only
  omega
def aRz (h : isB b = true) (ha : a <= s.size) (hh : Has s a (bL (fTx b))) : bF s a = (b, ((a + (fTx b).size : Nat) : Int)) := by
  have hsm := aMt h
  have hx := hh.extT
  have hlen := hh.len ha
  rw [aT] at hlen
  rw [aMn h] at hx hlen ⊢
  rw [aUt h] at hh
  have hA := hh.split.1.split.1
  have hB := hh.split.1.split.2
  have hl : ∀ n, (bL (dec n ++ spB)).length = (dec n).size + 1 := fun n => by rw [aT, C7, bP]
  simp only [hl] at hB
  have h1 := zN (n := ((bTx b).size : Int)) ⟨og, og⟩ ha hA
  have hbx := hB.extT
  have hb : jJ s a = false := by
    unfold jJ; rw [h1]
    simp
    omega
  have hf : pB s a = b := by
    unfold pB; rw [h1]
    simp only
    rw [Int.toNat_natCast, <- Int.natCast_add, Int.toNat_natCast, hbx, bBh h]
  unfold bF; rw [hb, hf, h1]; simp only [B9, if_false]
  have e : (((a + ((dec ((bTx b).size : Int)).size + 1) : Nat) : Int) + ((bTx b).size : Int) + 1) = ((a + ((dec ((bTx b).size : Int)).size + 1 + (bTx b).size + 1) : Nat) : Int) := by omega
  rw [e, Int.toNat_natCast, hx]
  simp
def Has.of_toList {a b : Nat} (h : t.toList = (s.extract a b).toList) (hab : a <= b) (hb : b <= s.size) : Has s a (bL t) := by
  have e : ∀ x : ByteArray, x.toList = bL x := fun x => by rw [ByteArray.toList_eq]; rfl
  rw [e, e] at h
  have hl := congrArg List.length h
  rw [aT, aT, nQ s a b hb] at hl
  exact Has.of_ext h.symm (by rw [aT]; omega)
def bIw (s : ByteArray) (hs : s.size <= 1048576) (a : Nat) (ha : a <= s.size) : (0 <= (bF s a).2 ↔ (bI s a).2.1 = true) /\ (0 <= (bF s a).2 -> (bI s a).1 = (bF s a).1 /\ (((bI s a).2.2 : Nat) : Int) = (bF s a).2) := by
  have hto : 0 <= (bF s a).2 -> bI s a = ((bF s a).1, true, (bF s a).2.toNat) := fun h => by
    have hb := aQq s hs a h
    have hg := vL s a h
    have hle := aAf s a
    have hh := Has.of_toList (aMw s a h) og og
    have h1 := aRz hb ha hh
    rw [bRk hb ha hh]; rw [Prod.ext_iff] at h1; simp only [Prod.mk.injEq, true_and]
    have h2 := h1.2
    simp only at h2
    omega
  have hfrom : (bI s a).2.1 = true -> 0 <= (bF s a).2 := fun h => by
    have hg := bAa (s := s) ha
    generalize hr : bI s a = r at h hg
    unfold bI at hr; split at hr
    . split at hr
      . split at hr
        . split at hr
          . split at hr
            . subst hr; cases h
            rename_i hbad
            subst hr; unfold bAp at hbad
            simp only [F8, Bool.not_eq_true', not_or, Bool.not_eq_false, beq_iff_eq] at hbad
            simp only at hg
            have hh := Has.of_toList hbad.2 og og
            rw [aRz hbad.1 ha hh]
            simp only; omega
          subst hr; cases h
        subst hr; cases h
      subst hr; cases h
    subst hr; cases h
  refine ⟨⟨fun h => by rw [hto h], hfrom⟩, fun h => ?_⟩
  rw [hto h]
  exact ⟨rfl, by simp only; omega⟩
end
def aVu (s : ByteArray) (hs : s.size <= 1048576) : ∀ (f g a : Nat) (out : List (List Entry)), a <= s.size -> s.size - a < f -> s.size - a <= g -> (sU s f a out).1 = (hP s g a out).1 /\ (((sU s f a out).2 : Nat) : Int) = (hP s g a out).2
  | 0, g, a, out, _, hf, _ => by omega
  | f + 1, 0, a, out, ha, hf, hg => by
    have h1 := bAa (s := s) ha
    have hno : ¬ (bI s a).2.1 = true := fun h => by have := h1.2.2 h; omega
    rw [sU, if_neg hno, hP]
    exact ⟨rfl, rfl⟩
  | f + 1, g + 1, a, out, ha, hf, hg => by
    have h1 := bAa (s := s) ha
    obtain ⟨h2, h3⟩ := bIw s hs a ha
    by_cases h : (bI s a).2.1 = true
    . have hp := h1.2.2 h
      have h0 := h2.2 h
      obtain ⟨e1, e2⟩ := h3 h0
      rw [sU, if_pos h, hP, if_pos og, if_neg og, <- e1, <- e2, Int.toNat_natCast]
      exact aVu s hs f g _ _ og og og
    have h0 : (bF s a).2 < 0 := by
      refine Int.not_le.1 fun h0 => h (h2.1 h0)
    rw [sU, if_neg h, hP]; split
    . first | exact ⟨rfl, rfl⟩ | (rw [if_pos h0]; exact ⟨rfl, rfl⟩)
    exact ⟨rfl, rfl⟩
def aSb (s : ByteArray) (hs : s.size <= 1048576) : (raI s).1 = (dY s).1 := (aVu s hs _ _ 0 [] (A6 _) og og).1
def bHc (s : ByteArray) (hs : s.size <= 1048576) : (((raI s).2 : Nat) : Int) = (dY s).2 := (aVu s hs _ _ 0 [] (A6 _) og og).2
def bPd {s : Store} (h : s.disk.log.size <= 1048576) : aBb s = qM s := by
  unfold aBb qM; rw [aSb _ h, <- bMs]
def bPm {s : Store} (h : s.disk.log.size <= 1048576) (hq : 0 <= s.disk.seq) : upI s = upS s := by
  have h2 := bHc s.disk.log h
  have hb : aCv s = aYe s := by
    unfold aCv aYe; rw [pQ, show decide (s.disk.seq < 0) = false from decide_eq_false og, Bool.or_false, decide_eq_decide.2 (show s.tree.levels = s.disk.levels ↔ s.disk.levels = s.tree.levels from ⟨Eq.symm, Eq.symm⟩)]
  unfold upI upS; rw [hb, aSb _ h, <- bMs, h2]; split
  . rfl
  split
  . rename_i hn
    rw [decide_eq_false hn]; rfl
  rename_i hn
  rw [decide_eq_true (Classical.not_not.1 hn), Bool.true_and, Bool.and_comm]
def bDx (d : Disk) (s : Store) (hs : s.disk = d) : vS d = (!pW s && eH ⟨d.seq, [], d.levels, []⟩) := by
  subst hs; unfold vS pW; rw [pQ]; split
  . rename_i h
    have e : ((decide (12000 < (s.disk.log.size : Int)) || decide (s.disk.safe < 0)) || decide ((s.disk.log.size : Int) < s.disk.safe)) = true := by
      simp only [F8, decide_eq_true_eq]; omega
    rw [e]; rfl
  rename_i h
  have e : ((decide (12000 < (s.disk.log.size : Int)) || decide (s.disk.safe < 0)) || decide ((s.disk.log.size : Int) < s.disk.safe)) = false := by
    simp only [Bool.or_eq_false_iff, decide_eq_false_iff_not]; omega
  rw [e]; rfl
def bBd {t : Tree} (h : eH t = true) : 0 <= t.seq := by
  unfold eH at h; split at h
  . cases h
  rename_i hb
  simp [vB] at hb
  omega
def aCg (s : Store) : cQ s = gB s := by
  have hd := bDx s.disk s rfl
  unfold cQ gB; rw [hd]
  cases h1 : pW s with
  | true => rfl
  | false =>
    cases h2 : eH ⟨s.disk.seq, [], s.disk.levels, []⟩ with
    | false => rfl
    | true =>
      have hq : 0 <= s.disk.seq := bBd h2
      have hl : s.disk.log.size <= 12000 := by
        simp [pW] at h1; omega
      simp only [Bool.not_false, Bool.and_self, Bool.true_eq_false, B9, if_false]; split
      . exact bPm og hq
      have ho := bPd (s := s) og
      have hol := aYi s hl
      have hdo := bDx (qM s).disk (qM s) rfl
      have hq2 : (qM s).disk.seq = s.disk.seq := rfl
      have hlv : (qM s).disk.levels = s.disk.levels := rfl
      have hsf : (qM s).disk.safe = ((qM s).disk.log.size : Int) := rfl
      have hb : pW (qM s) = false := by
        unfold pW; rw [hsf]
        simp only [Bool.or_eq_false_iff, decide_eq_false_iff_not]; omega
      rw [hb, hq2, hlv, h2] at hdo; unfold sX
      rw [ho, hdo, if_neg dg, bPm og (by rw [hq2]; exact hq)]
def aWp {a b : Tree} (h : iM a b = true) : a = b := by
  unfold iM at h
  simp only [C8, decide_eq_true_eq] at h
  cases a; cases b
  simp only at h
  obtain ⟨⟨⟨rfl, rfl⟩, rfl⟩, rfl⟩ := h
  rfl
def bEj {α : Type} {f : α -> Int -> Int} (hf : ∀ x n, 0 <= n -> Lq (f x n) n) : ∀ (ls : List α) (n : Int), 0 <= n -> 0 <= qA f ls n -> ∀ x ∈ ls, ∃ m, 0 <= m /\ m <= n /\ 0 <= f x m
  | [], _, _, _, x, hx => by cases hx
  | y :: r, n, h0, h, x, hx => by
    unfold qA at h
    have hl := hf y n h0
    unfold Lq at hl; split at h
    . omega
    rename_i hy
    rcases B1.1 hx with rfl | h1
    . exact ⟨n, h0, Int.le_refl _, og⟩
    obtain ⟨m, a, b, c⟩ := bEj hf r (f y n) og h x h1
    exact ⟨m, a, og, c⟩
def bCj {α : Type} {f : α -> Int -> Int} (hf : ∀ x n, 0 <= n -> Lq (f x n) n) {ls : List α} {n : Int} (h : 0 <= szL f ls n) : (ls.length : Int) <= n /\ ∀ x ∈ ls, ∃ m, 0 <= m /\ m <= n /\ 0 <= f x m := by
  unfold szL at h; split at h
  . omega
  refine ⟨og, fun x hx => ?_⟩
  obtain ⟨m, a, b, c⟩ := bEj hf ls _ og h x hx
  exact ⟨m, a, og, c⟩
def bLr {α : Type} {f : α -> Int -> Int} {g : α -> Int -> Int} (hf : ∀ x n, 0 <= n -> Lq (f x n) n) (hg : ∀ x n k, 0 <= n -> 0 <= f x n -> g x k <= k + 5 + 5 * (n - f x n)) : ∀ (ls : List α) (n k : Int), 0 <= n -> 0 <= qA f ls n -> kGo g ls k <= k + 5 * (ls.length : Int) + 5 * (n - qA f ls n)
  | [], n, k, _, _ => by simp [kGo, qA]
  | x :: r, n, k, h0, h => by
    unfold qA at h ⊢
    have hl := hf x n h0
    unfold Lq at hl; split at h
    . omega
    rename_i hx
    have h1 := hg x n k h0 og
    have h2 := bLr hf hg r (f x n) (g x k) og h
    rw [if_neg hx]; simp only [kGo, B7]; omega
def bKz {α : Type} {f : α -> Int -> Int} {g : α -> Int -> Int} (hf : ∀ x n, 0 <= n -> Lq (f x n) n) (hg : ∀ x n k, 0 <= n -> 0 <= f x n -> g x k <= k + 5 + 5 * (n - f x n)) (ls : List α) (n k : Int) (h : 0 <= szL f ls n) : kGo g ls k <= k + 5 * (n - szL f ls n) := by
  unfold szL at h ⊢
  split at h
  . omega
  rename_i hx
  have := bLr hf hg ls _ k og h
  rw [if_neg hx]; omega
def bAd (ls : List Entry) (n k : Int) (h : 0 <= szEntryS ls n) : kGo stE ls k <= k + 5 * (n - szEntryS ls n) :=
  bKz sH (fun x n k h0 _ => by have := sH x n h0; unfold Lq at this; unfold stE; omega) ls n k h
def bNs (r : Run) (n k : Int) (h : 0 <= qC r n) : stR r k <= k + 5 + 5 * (n - qC r n) := by
  unfold qC at h ⊢
  split at h
  . omega
  rename_i hx
  have := bAd r.ents n k h
  rw [if_neg hx]; unfold stR; omega
def aWu {ls : List Entry} {n : Int} (hn : n <= 1048576) (h : 0 <= szEntryS ls n) : gY ls := by
  obtain ⟨h1, h2⟩ := bCj sH h
  refine ⟨og, fun e he => ?_⟩
  obtain ⟨m, a, b, c⟩ := h2 e he
  unfold iZ at c
  split at c
  . omega
  split at c
  . omega
  exact ⟨og, og⟩
def bKe (rs : List Run) (n k : Int) (h : 0 <= szRunS rs n) : kGo stR rs k <= k + 5 * (n - szRunS rs n) := bKz aFa (fun x n k _ h => bNs x n k h) rs n k h
def bNn {r : Run} {n : Int} (hn : n <= 1048576) (h : 0 <= qC r n) : gY r.ents := by
  unfold qC at h; split at h
  . omega
  exact aWu hn h
def bMg {rs : List Run} {n : Int} (hn : n <= 1048576) (h : 0 <= szRunS rs n) : xB rs := by
  obtain ⟨h1, h2⟩ := bCj aFa h
  refine ⟨og, fun r hr => ?_⟩
  obtain ⟨m, a, b, c⟩ := h2 r hr
  exact bNn og c
def bDf {ls : List (List Run)} {n : Int} (hn : n <= 1048576) (h : 0 <= szRunSS ls n) : qJ ls := by
  obtain ⟨h1, h2⟩ := bCj aAb h
  refine ⟨og, fun r hr => ?_⟩
  obtain ⟨m, a, b, c⟩ := h2 r hr
  exact bMg og c
def bEt (ls : List (List Run)) (n k : Int) (h : 0 <= szRunSS ls n) : kGo kRuns ls k <= k + 5 * (n - szRunSS ls n) :=
  bKz aAb (fun x n k _ h => by have : kRuns x k <= k + 5 * (n - szRunS x n) := bKe x n k h; omega) ls n k h
def aRh (ls : List Int) (k : Int) : kGo stI ls k = k + ls.length := by
  induction ls generalizing k with
  | nil => simp [kGo]
  | cons x r ih => rw [kGo, ih, B7]; unfold stI; omega
def bNd {t : Tree} {n : Int} (h0 : 0 <= n) (hn : n <= 1048576) (h : 0 <= gF t n) : gS t /\ ∀ k, lB t k <= k + 5 * (n - gF t n) := by
  unfold gF at h ⊢
  have l1 := sW t.mem n h0
  unfold Lq at l1; split at h
  . omega
  rename_i e1
  have l2 := sQ t.levels (szEntryS t.mem n) og
  unfold Lq at l2; split at h
  . omega
  rename_i e2
  rw [if_neg e1, if_neg e2]
  unfold vY at h ⊢
  split at h
  . omega
  rename_i e3
  rw [if_neg e3]
  refine ⟨⟨aWu hn og, bDf og (by omega : 0 <= szRunSS t.levels (szEntryS t.mem n)), og⟩, fun k => ?_⟩
  unfold lB; rw [aRh]
  have a1 := bAd t.mem n k og
  have a2 := bEt t.levels (szEntryS t.mem n) (kGo stE t.mem k) og
  omega
def bMw {s : Store} {n : Int} (h0 : 0 <= n) (hn : n <= 1048576) (h : 0 <= nE s n) : dM s /\ s.disk.log.size <= 1048576 /\ ∀ k, lI s k <= k + 5 * (n - nE s n) := by
  unfold nE at h ⊢
  have l1 := aGu s.tree n h0
  unfold Lq at l1; split at h
  . omega
  rename_i e1
  rw [if_neg e1]
  obtain ⟨a1, a2⟩ := bNd h0 hn (by omega : 0 <= gF s.tree n)
  unfold rZ at h ⊢
  split at h
  . omega
  rename_i e2
  rw [if_neg e2]
  refine ⟨⟨a1, bDf og h⟩, og, fun k => ?_⟩
  have b1 := a2 k
  have b2 := bEt s.disk.levels (gF s.tree n - (s.disk.log.size : Int)) (lB s.tree k) h
  show kGo kRuns s.disk.levels (lB s.tree k) <= _
  omega
end Go.Proofs.S
end
