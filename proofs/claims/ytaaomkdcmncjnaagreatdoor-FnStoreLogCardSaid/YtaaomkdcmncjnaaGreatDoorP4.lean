/-
  The abstract layer, the walks and the plain laws that the claim leans on, part 4 of 7 (working texts S10 to S22). It proves lemmas alone; no condition of its own.
-/
import Derived.Test.YtaaomkdcmncjnaaGreatDoorP3
set_option linter.all false
set_option maxRecDepth 20000
section
open Go Go.Abs Go.Proofs Go.Proofs.Tryz
namespace Go.Proofs.S
def z2 : ((2 : Int) = 0) = False := by simp
def z10 : ((10 : Int) = 0) = False := by simp
def z16 : ((16 : Int) = 0) = False := by simp
def bQa : ((65521 : Int) = 0) = False := by simp
def bRs : gE P 3 = some .i64 /\ gE P 5 = some .u8 := by refine ⟨?_, ?_⟩ <;> kernel_rfl
attribute [go_sem] z2 z10 z16 bQa bRs Option.isSome_some
def nS (s : ByteArray) (i : Nat) : 0 <= aS s i /\ aS s i <= 255 := by
  unfold aS
  have := (s.data.toList.getD i 0).toNat_lt
  omega
def aCs (n : Int) : Int := 2 ^ n.toNat
def aLv (i : Nat) : aCs (i : Int) = 2 ^ i := rfl
def aSc {i j : Nat} (h : i <= j) : (2 : Int) ^ i <= 2 ^ j := by
  have : (2 : Nat) ^ i <= 2 ^ j := Nat.pow_le_pow_right og h
  exact_mod_cast this
def aIt (i : Nat) : (0 : Int) < 2 ^ i := by
  have : 0 < (2 : Nat) ^ i := Nat.pow_pos og
  exact_mod_cast this
def orT (a b : Int) (i : Nat) : Bool := decide ((a.tdiv (2 ^ i)).tmod 2 = 1) || decide ((b.tdiv (2 ^ i)).tmod 2 = 1)
def aNa (a b : Int) : Nat -> Int -> Int
  | 0, out => out
  | i + 1, out => aNa a b i (if orT a b i = true then out * 2 + 1 else out * 2)
def orZ (a b : Int) : Int := aNa a b 16 0
def aBw (a b : Int) : ∀ (i : Nat) (out : Int), 0 <= out -> 0 <= aNa a b i out /\ aNa a b i out <= out * 2 ^ i + 2 ^ i - 1
  | 0, out, h => by simp only [aNa, Int.pow_zero]; omega
  | i + 1, out, h => by
    unfold aNa
    have hp := aIt i
    have h2 : (2 : Int) ^ (i + 1) = 2 * 2 ^ i := by rw [Int.pow_succ]; omega
    rw [h2]; split
    . have := aBw a b i (out * 2 + 1) og
      refine ⟨this.1, Int.le_trans this.2 ?_⟩
      have : (out * 2 + 1) * 2 ^ i = out * (2 * 2 ^ i) + 2 ^ i := by rw [Int.add_mul, Int.mul_assoc, Int.one_mul]
      omega
    have := aBw a b i (out * 2) og
    refine ⟨this.1, Int.le_trans this.2 ?_⟩
    have : out * 2 * 2 ^ i = out * (2 * 2 ^ i) := by rw [Int.mul_assoc]
    omega
def pQ (a b : Int) : 0 <= orZ a b /\ orZ a b <= 65535 := by
  have := aBw a b 16 0 og
  simpa [orZ] using this
def dB (s : ByteArray) : Nat -> Int
  | 0 => 7
  | i + 1 => (dB s i * 31 + aS s i).tmod 65521
def qB (s : ByteArray) : ∀ i, 0 <= dB s i /\ dB s i < 65521
  | 0 => by simp [dB]
  | i + 1 => by
    have h1 := qB s i
    have h2 := nS s i
    unfold dB; rw [Int.tmod_eq_emod_of_nonneg og]; omega
def wD (s : ByteArray) : Int := orZ (aCs ((dB s s.size).tmod 16)) (aCs (((dB s s.size).tdiv 16).tmod 16))
def jU (m : Int) (e : Entry) : Int := orZ m (wD e.key)
def bS (ls : List Entry) : Int := ls.foldl jU 0
def rV {n : Int} (h0 : 0 <= n) (h : n <= 15) : 0 <= aCs n /\ aCs n <= 65535 := by
  unfold aCs
  have h1 := aSc (i := n.toNat) (j := 15) og
  have h2 := aIt n.toNat
  have h3 : (2 : Int) ^ 15 = 32768 := rfl
  omega
def cE (r : Run) : Bool := ((decide (1 <= (r.ents.length : Int)) && decide ((r.ents.length : Int) <= 150)) && bU r.ents) && decide (r.mask = bS r.ents)
def wW : Run := ⟨[], 0⟩
def nM : Entry := ⟨⟨#[]⟩, 0, 0, ⟨#[]⟩, 0⟩
def aH (r : Run) : ByteArray := ((r.ents[0]?).getD nM).key
def aL (r : Run) : ByteArray := ((r.ents[r.ents.length - 1]?).getD nM).key
def jA (ls : List Run) (i : Nat) : Run := (ls[i - 1]?).getD wW
def nY (ls : List Run) (ap : Bool) (seq : Int) (i : Nat) : Bool := match ls[i]? with
  | some r => !(!cE r || !mK r.ents seq) && !((ap && decide (0 < (i : Int))) && !Op.bytesLess (aL (jA ls i)).toList (aH r).toList)
  | none => true
def eG (ls : List Run) (most : Int) (ap : Bool) (seq : Int) : Bool := if most < (ls.length : Int) then false else (List.range ls.length).all (nY ls ap seq)
def aDe (ls : List Int) (i : Nat) : Int := (ls[i - 1]?).getD 0
def pM (ls : List Int) (seq : Int) (i : Nat) : Bool := match ls[i]? with
  | some n => !((decide (n < 0) || decide (seq < n)) || (decide (0 < (i : Int)) && decide (n <= aDe ls i)))
  | none => true
def eP (ls : List Int) (seq : Int) : Bool := (List.range ls.length).all (pM ls seq) && decide ((ls.length : Int) <= 4)
def aNl (ls : List Run) : Prop := ls.length <= 4611686018427387904 /\ ∀ r ∈ ls, cW r.ents
def gI {r : Run} (h : cE r = true) : 1 <= r.ents.length /\ r.ents.length <= 150 := by
  simp [cE] at h
  omega
def bFo {ls : List Run} {ap : Bool} {seq : Int} {i : Nat} {r : Run} (h : nY ls ap seq i = true) (hr : ls[i]? = some r) : cE r = true := by
  unfold nY at h; rw [hr] at h; simp at h
  exact h.1.1
def vG (a b : Int) : aK P 73 [Ni a, Ni b] [] 0 (Ni (max a b)) := by
 refine (pq 10 [.tmp 4] func73) ((aj) ?_)
 refine aA fun k2 => (aj) ((cdA) ?_ ?_) <;> intro hc1
 . have n1 : b < a := by simpa using hc1
   refine (aj) (wR ?_)
   have h9 : max a b = a := by omega
   exact fq h9
 have n1 : ¬ (b < a) := by simpa using hc1
 refine wk (k2 ((aj) (wR ?_)))
 have h9 : max a b = b := by omega
 exact fq h9
def rG (n : Int) (h0 : 0 <= n) (hn : n <= 15) : aK P 191 [Ni n] [] 0 (Ni (aCs n)) := by
 refine (pq 13 [.tmp 2] func191) ?_
 obtain ⟨m, rfl⟩ := Int.eq_ofNat_of_zero_le h0
 refine (aj) ((aj) ?_)
 refine aA fun k3 => (aj) (wb ?_)
 refine wn m (fun x => ([(0, Ni (m : Int)), (3, Ni (2 ^ x)), (4, Ni (x : Int))], [])) 0 [] ?_ ?_
 . simp only [go_sem, Int.natCast_zero, Int.pow_zero] <;> simp
 rintro i hi
 refine aA fun k5 => (aj) ((cdB) ?_ ?_) <;> intro hc1
 . have hge : m <= i := Nat.not_lt.1 (by simpa using hc1)
   refine we ((jt) (k3 ((aj) (wR ?_))))
   have hie : i = m := by omega
   subst hie
   have h9 := aLv i
   exact fq h9
 have hlt : i < m := by simpa using hc1
 refine wk (k5 (aA fun k7 => wb ?_))
 have h15 := aSc (i := i) (j := 15) og
 have hp := aIt i
 have h3 : (2 : Int) ^ 15 = 32768 := rfl
 have hw2 := wr (2 ^ i * 2) (2 ^ i * 2) og
 refine wg rfl ((Aa hw2) ((jt) (k7 ((jw (wiS i og)) ((jt) ?_)))))
 refine ⟨i + 1, og, og, [], ?_⟩
 simp only [go_sem] <;> simp [Int.pow_succ]
def aHe (a b : Int) (ha : 0 <= a) (ha1 : a <= 65535) (hb : 0 <= b) (hb1 : b <= 65535) : aK P 169 [Ni a, Ni b] [] 0 (Ni (orZ a b)) := by
 refine (pq 30 [.tmp 4] func169) ((aj) ((aj) ?_))
 refine aA fun k3 => (aj) (wb ?_)
 refine wl (α := Nat × Int) (fun x => x.1 <= 16 /\ 0 <= x.2 /\ x.2 < 2 ^ (16 - x.1) /\ aNa a b x.1 x.2 = aNa a b 16 0) (fun x => x.1) (fun x => ([(0, Ni a), (1, Ni b), (5, Ni x.2), (6, Ni ((x.1 : Int) - 1))], [])) 0 (16, 0) ⟨by simp only; omega, by simp only; omega, by simp, rfl⟩ [] ?_ ?_
 . exact jo
 rintro ⟨j, out⟩ ⟨hj, ho, ho1, hgo⟩
 simp only at hj ho ho1 hgo ⊢
 refine aA fun k5 => (aj) ((cdB) ?_ ?_) <;> intro hc1
 . have hj0 : j = 0 := by have h9 : ¬ (0 : Int) <= (j : Int) - 1 := (by simpa using hc1); omega
   subst hj0
   refine we ((jt) (k3 ((aj) (wR ?_))))
   have h9 : orZ a b = out := by unfold orZ; rw [<- hgo]; rfl
   exact fq h9
 obtain ⟨i, rfl⟩ : ∃ i, j = i + 1 := ⟨j - 1, by have h9 : (0 : Int) <= (j : Int) - 1 := (by simpa using hc1); omega⟩
 have hi1 : (((i + 1 : Nat) : Int) - 1) = (i : Int) := by omega
 have h16 := aSc (i := 16 - (i + 1)) (j := 15) og
 have h15 := aSc (i := i) (j := 15) og
 have hp := aIt i
 have h3 : (2 : Int) ^ 15 = 32768 := rfl
 have hw1 := wr (out * 2) (out * 2) og
 have hw2 := wr (out * 2 + 1) (out * 2 + 1) og
 have hz : ((2 : Int) ^ i = 0) = False := by simp; omega
 have hq : ∀ c : Int, 0 <= c -> c <= 65535 -> IntKind.i64.wrap (c.tdiv (2 ^ i)) = c.tdiv (2 ^ i) := fun c h0 h1 => by
   have h4 : 0 <= c.tdiv (2 ^ i) := Int.tdiv_nonneg h0 og
   have h5 : c.tdiv (2 ^ i) <= c := by rw [H5 h0]; exact Int.ediv_le_self _ h0
   rw [w64]; omega
 have hqa := hq a ha ha1
 have hqb := hq b hb hb1
 simp only [hi1]
 refine wk (k5 (aA fun k7 => wb (sr rfl fun k8 => (Aa hw1) (k8 (sr rfl fun k9 => (Aq hqa hqb) ?_)))))
 refine vs rfl rfl rfl func191 (rG (i : Int) og og) oG oG ?_
 simp only [go_sem, aLv, hz, hqa, hqb]
 refine vpg rfl rfl rfl rfl rfl rfl ⟨func191, rfl, rfl⟩ (fun hg => rG (i : Int) og og) oG (fun hg => oG) oG trivial ?_
 simp only [go_sem, aLv, hz, hqa, hqb]
 refine k9 ((cdA) ?_ ?_) <;> intro hc2
 . have hx : orT a b i = true := hc2
   refine wg rfl ((Aa hw2) ((jt) (k7 ?_)))
   have hw4 := wr ((i : Int) - 1) ((i : Int) - 1) og
   refine wg rfl ((Aa hw4) ((jt) ?_))
   refine ⟨(i, if orT a b i = true then out * 2 + 1 else out * 2), ⟨by simp only; omega, by simp only; split <;> omega, by
     simp only
     have e1 : 16 - i = (16 - (i + 1)) + 1 := by omega
     rw [e1, Int.pow_succ]
     split <;> omega, by simp only; exact hgo⟩, by simp only; omega, [], ?_⟩
   exact Ce hx
 have hx : orT a b i = false := hc2
 refine wk ((jt) (k7 ?_))
 have hw4 := wr ((i : Int) - 1) ((i : Int) - 1) og
 refine wg rfl ((Aa hw4) ((jt) ?_))
 refine ⟨(i, if orT a b i = true then out * 2 + 1 else out * 2), ⟨by simp only; omega, by simp only; split <;> omega, by
   simp only
   have e1 : 16 - i = (16 - (i + 1)) + 1 := by omega
   rw [e1, Int.pow_succ]
   split <;> omega, by simp only; exact hgo⟩, by simp only; omega, [], ?_⟩
 exact Ce hx
def aLo (s : ByteArray) (hs : s.size <= 4611686018427387904) : aK P 170 [Ns s] [] 0 (Ni (wD s)) := by
 refine (pq 27 [.tmp 2] func170) ((aj) ((aj) ?_))
 refine aA fun k3 => (aj) (wb ?_)
 refine wn s.size (fun x => ([(0, Ns s), (3, Ni (dB s x)), (4, Ni (x : Int))], [])) 0 [] ?_ ?_
 . simp only [go_sem, dB, Int.natCast_zero] <;> simp
 rintro i hi
 refine aA fun k5 => (aj) ((cdA) ?_ ?_) <;> intro hc1
 . have hlt : i < s.size := by simpa using hc1
   have hh := qB s i
   have hb := nS s i
   have hw0 := wr (aS s i) (aS s i) og
   have hw1 := wr (dB s i * 31) (dB s i * 31) og
   have hw2 := wr (dB s i * 31 + aS s i) (dB s i * 31 + aS s i) og
   refine wk (k5 (aA fun k7 => wb (wg rfl ?_)))
   simp only [go_sem, hw0, hw1, hw2]
   refine (jr) ((jt) (k7 ((jw (wiS i og)) ((jt) ?_))))
   refine ⟨i + 1, og, og, [], ?_⟩
   simp only [go_sem, dB] <;> simp
 have hge : i = s.size := by have h9 : ¬ i < s.size := (by simpa using hc1); omega
 subst hge
 refine we ((jt) (k3 ?_))
 have hh := qB s s.size
 have hq : IntKind.i64.wrap ((dB s s.size).tdiv 16) = (dB s s.size).tdiv 16 := by
   rw [H5 og, IntKind.wrap_i64]; omega
 have hm1 : 0 <= (dB s s.size).tmod 16 /\ (dB s s.size).tmod 16 <= 15 := by rw [Int.tmod_eq_emod_of_nonneg og]; omega
 have hd : 0 <= (dB s s.size).tdiv 16 := Int.tdiv_nonneg og og
 have hm2 : 0 <= ((dB s s.size).tdiv 16).tmod 16 /\ ((dB s s.size).tdiv 16).tmod 16 <= 15 := by rw [Int.tmod_eq_emod_of_nonneg hd]; omega
 have hr1 := rV hm1.1 hm1.2
 have hr2 := rV hm2.1 hm2.2
 refine sr rfl fun k8 => (Aa hq) ?_
 refine vs rfl rfl rfl func191 (rG _ hm1.1 hm1.2) oG oG ?_
 refine (Aa hq) ((vq func191 (rG _ hm2.1 hm2.2)) ((vq func169 (aHe _ _ hr1.1 hr1.2 hr2.1 hr2.2)) (k8 (wR (fO ?_ trivial)))))
 simp only [go_sem, wD]
def tU (ls : List Entry) (hz : cW ls) : aK P 152 [.sl 5 (ls.map enA)] [] 0 (Ni (bS ls)) := by
 refine (pq 20 [.tmp 2] func152) ?_
 have hlen := hz.1
 refine (aj) ((aj) ?_)
 refine aA fun k3 => (aj) (wb ?_)
 refine wl (α := Nat × Int) (fun x => x.1 <= ls.length /\ 0 <= x.2 /\ x.2 <= 65535 /\ (ls.drop x.1).foldl jU x.2 = ls.foldl jU 0) (fun x => ls.length - x.1) (fun x => ([(0, .sl 5 (ls.map enA)), (3, Ni x.2), (4, Ni (x.1 : Int))], [])) 0 (0, 0) ⟨A5 _, by simp, by simp, by simp⟩ [] ?_ ?_
 . exact jc
 rintro ⟨i, m⟩ ⟨hi, hm0, hm1, hfold⟩
 simp only at hi hm0 hm1 hfold ⊢
 refine aA fun k5 => (aj) ((cdB) ?_ ?_) <;> intro hc1
 . have hge := gec hc1
   refine we ((jt) (k3 ((aj) (wR ?_))))
   rw [E6 hge] at hfold
   have h9 : bS ls = m := hfold.symm
   exact fq h9
 obtain ⟨hlt, l, hl, hdrop, hml⟩ := ixc hc1
 have hkr := pQ (aCs ((dB l.key l.key.size).tmod 16)) (aCs (((dB l.key l.key.size).tdiv 16).tmod 16))
 refine wk (k5 (aA fun k7 => wb (wg rfl ((An hl) ((jr) ((vq func170 (aLo l.key (hz.2 l hml).1)) ((vq func169 (aHe m (wD l.key) hm0 hm1 hkr.1 hkr.2)) ((jt) (k7 ((jw (wiS i og)) ((jt) ?_)))))))))))
 refine ⟨(i + 1, jU m l), ⟨og, (pQ _ _).1, (pQ _ _).2, by rw [hdrop] at hfold; exact hfold⟩, og, [], ?_⟩
 simp only [go_sem, jU] <;> simp
def aUq (r : Run) (hz : cW r.ents) : aK P 118 [rA r] [] 0 (Nb (cE r)) := by
 refine (pq 26 [.tmp 2] func118) ?_
 simp only [rA]
 refine (aj) ?_
 refine sd mixed rfl fun k2 => (ja) ?_
 refine tpg rfl rfl rfl rfl rfl rfl ⟨func75, rfl, rfl⟩ (fun hg => rZ r.ents hz) oG (fun hg => oG) oG trivial ?_
 refine (ja) ?_
 refine tpg rfl rfl rfl rfl rfl rfl ⟨func152, rfl, rfl⟩ (fun hg => tU r.ents hz) oG (fun hg => oG) oG trivial ?_
 refine (ja) ((jy) (k2 (wR (fO ?_ trivial))))
 simp only [go_sem, cE]
def aMv (a b : Run) (hz : a.ents.length <= 4611686018427387904) : aK P 123 [rA a, rA b] [] 0 (Nb (decide (a.mask = b.mask) && decide (a.ents = b.ents))) := by
 refine (pq 17 [.tmp 4] func123) ?_
 simp only [rA]
 refine (aj) ?_
 refine sr rfl fun k2 => (ja) ?_
 refine vpg rfl rfl rfl rfl rfl rfl ⟨func83, rfl, rfl⟩ (fun hg => tL a.ents b.ents hz) oG (fun hg => oG) oG trivial ?_
 refine (ja) (k2 (wR (fO ?_ trivial)))
 exact At
def eM (r : Run) (h1 : 1 <= r.ents.length) : aK P 120 [rA r] [] 0 (Ns (aH r)) := by
 refine (pq 8 [.tmp 2] func120) ?_
 simp only [rA]
 have hl : r.ents[0]? = some ((r.ents[0]?).getD nM) := by rw [A1 og]; rfl
 generalize hg : (r.ents[0]?).getD nM = l at hl
 have hk : aH r = l.key := by unfold aH; rw [hg]
 rw [hk]
 refine (aj) ?_
 refine sr rfl fun k2 => (Cf hl) ((jr) (k2 (wR (fO ?_ trivial))))
 exact At
def lT (r : Run) (h1 : 1 <= r.ents.length) (h2 : r.ents.length <= 4611686018427387904) : aK P 119 [rA r] [] 0 (Ns (aL r)) := by
 refine (pq 12 [.tmp 2] func119) ?_
 simp only [rA]
 have hl : r.ents[r.ents.length - 1]? = some ((r.ents[r.ents.length - 1]?).getD nM) := by rw [A1 og]; rfl
 generalize hg : (r.ents[r.ents.length - 1]?).getD nM = l at hl
 have hk : aL r = l.key := by unfold aL; rw [hg]
 rw [hk]
 have hw1 := wr ((r.ents.length : Int) - 1) ((r.ents.length : Int) - 1) og
 have hpn : ((r.ents.length : Int) - 1).toNat = r.ents.length - 1 := by omega
 refine (aj) ?_
 refine sr rfl fun k2 => (Bt hl hw1 hpn) ((jr) (k2 (wR (fO ?_ trivial))))
 exact At
def tH (ls : List Run) (most : Int) (ap : Bool) (seq : Int) (hz : aNl ls) : aK P 78 [.sl 2 (ls.map rA), Ni most, Nb ap, Ni seq] [] 0 (Nb (eG ls most ap seq)) := by
 refine (pq 55 [.tmp 8] func78) ?_
 have hlen := hz.1
 refine (aj) ?_
 refine aA fun k2 => (aj) ((cdA) ?_ ?_) <;> intro hc1
 . have n1 : most < (ls.length : Int) := by simpa using hc1
   refine (aj) (wR ?_)
   refine fO ?_ trivial; simp only [go_sem, eG, n1]
 have n1 : ¬ (most < (ls.length : Int)) := by simpa using hc1
 refine wk (k2 (aA fun k5 => (aj) (wb ?_)))
 refine wa ls.length (nY ls ap seq) (fun x => ([(0, .sl 2 (ls.map rA)), (2, Nb ap), (3, Ni seq), (9, Ni (x : Int))], [])) 0 [] ?_ ?_
 . exact jc
 rintro i ⟨hi, hall⟩
 refine aA fun k7 => (aj) ((cdB) ?_ ?_) <;> intro hc2
 . have hge := gec hc2
   refine we ((jt) (k5 ((aj) (wR ?_))))
   have h9 : eG ls most ap seq = true := by unfold eG; rw [if_neg n1]; exact gF hge hall
   exact fq h9
 obtain ⟨hlt, l, hl, hdrop, hml⟩ := ixc hc2
 have hw1 := wr ((i : Int) - 1) ((i : Int) - 1) og
 have hpn : ((i : Int) - 1).toNat = i - 1 := by omega
 have hpv : ls[i - 1]? = some (jA ls i) := by unfold jA; rw [A1 og]; rfl
 have hprev : 0 < i -> 1 <= (jA ls i).ents.length /\ (jA ls i).ents.length <= 150 := fun h0 => gI (bFo (hall (i - 1) og) hpv)
 refine wk (k7 (aA fun k9 => wb (aA fun k10 => sr rfl fun k11 => (Ap hl) ((jr) ?_))))
 refine vs rfl rfl rfl func118 (aUq l (hz.2 l hml)) Ag Ag ?_
 refine (Ap hl) ((jr) ?_)
 refine vpg rfl rfl rfl rfl rfl rfl ⟨func76, rfl, rfl⟩ (fun hg => wQ l.ents seq (hz.2 l hml).1) oG (fun hg => oG) oG trivial ?_
 refine (Ap hl) ((jr) (k11 ((cdA) ?_ ?_))) <;> intro hc3
 . have hp : nY ls ap seq i = false := by unfold nY; rw [hl]; simp only [hc3]; rfl
   refine (aj) (wR ((Ah) ?_))
   have h9 : eG ls most ap seq = false := by unfold eG; rw [if_neg n1]; exact hZ hlt hp
   exact fq h9
 have hr1 : cE l = true := by simp at hc3; exact hc3.1
 have hl1 := gI hr1
 refine wk (k10 (sd mixed rfl fun k13 => (Az hl hw1 hpn hpv) ((jr) ?_)))
 refine tpg rfl rfl rfl rfl rfl rfl ⟨func119, rfl, rfl⟩ (fun hg => lT (jA ls i) (hprev (by simp at hg; omega)).1 (by have := (hprev (by simp at hg; omega)).2; omega)) oG (fun hg => Ag) Ag trivial ?_
 refine (Az hl hw1 hpn hpv) ((jr) ?_)
 refine tpg rfl rfl rfl rfl rfl rfl ⟨func120, rfl, rfl⟩ (fun hg => eM l hl1.1) oG (fun hg => Ag) Ag trivial ?_
 refine (Az hl hw1 hpn hpv) ((jr) ((jy) (k13 ((cdA) ?_ ?_)))) <;> intro hc4
 . have hp : nY ls ap seq i = false := by unfold nY; rw [hl]; simp only [hc3, hc4]; rfl
   refine (aj) (wR ((Ah) ?_))
   have h9 : eG ls most ap seq = false := by unfold eG; rw [if_neg n1]; exact hZ hlt hp
   exact fq h9
 have hp : nY ls ap seq i = true := by unfold nY; rw [hl]; simp only [hc3, hc4]; rfl
 refine wk ((jt) (k9 ((jw (wiS i og)) ((jt) ?_))))
 refine ⟨i + 1, ⟨og, cG hall hp⟩, og, [], ?_⟩
 exact jo
def aLw (t : Tree) (hz : t.snaps.length <= 4611686018427387904) : aK P 77 [trA t] [] 0 (Nb (eP t.snaps t.seq)) := by
 refine (pq 49 [.tmp 2] func77) ?_
 simp only [trA]
 refine (aj) ?_
 refine aA fun k2 => (aj) (wb ?_)
 refine wa t.snaps.length (pM t.snaps t.seq) (fun x => ([(1, .ptr 0 0), (3, Ni (x : Int))], [(0, .cells 27 [Ni t.seq, .sl 5 (t.mem.map enA), .sl 1 (t.levels.map rsA), .sl 1 (t.snaps.map inA)])])) 1 [] ?_ ?_
 . exact Cc
 rintro i ⟨hi, hall⟩
 refine aA fun k4 => (aj) ((cdB) ?_ ?_) <;> intro hc1
 . have hge := gec hc1
   refine we ((jt) (k2 ((aj) (wR ?_))))
   have h9 : eP t.snaps t.seq = decide ((t.snaps.length : Int) <= 4) := by unfold eP; rw [gF hge hall]; rfl
   exact fq h9
 have hlt : i < t.snaps.length := by simpa using hc1
 obtain ⟨l, hl, hdrop, hml⟩ := ix hlt
 have hw1 := wr ((i : Int) - 1) ((i : Int) - 1) og
 have hpn : ((i : Int) - 1).toNat = i - 1 := by omega
 have hpv : t.snaps[i - 1]? = some (aDe t.snaps i) := by unfold aDe; rw [A1 og]; rfl
 refine wk (k4 (aA fun k6 => wb (sd mixed rfl fun k7 => ?_)))
 simp only [go_sem, hl, hw1, hpn, hpv, inA]
 refine (jr) ((jy) (k7 ((cdA) ?_ ?_))) <;> intro hc2
 . have hp : pM t.snaps t.seq i = false := by unfold pM; rw [hl]; simp only [hc2]; rfl
   refine (aj) (wR ((Ah) ?_))
   have h9 : eP t.snaps t.seq = false := by unfold eP; rw [hZ hlt hp]; rfl
   exact fq h9
 have hp : pM t.snaps t.seq i = true := by unfold pM; rw [hl]; simp only [hc2]; rfl
 refine wk ((jt) (k6 ((jw (wiS i og)) ((jt) ?_))))
 refine ⟨i + 1, ⟨og, cG hall hp⟩, og, [], ?_⟩
 exact Bo
def aGo (a b : List Entry) (i k : Nat) : Bool := match a[i]?, b[k]? with
  | some e, some f => !((e.key.toList == f.key.toList) && decide (e.seq <= f.seq))
  | _, _ => true
def aSs (a b : List Entry) (i : Nat) : Bool := (List.range b.length).all (aGo a b i)
def lM (a b : List Entry) : Bool := (List.range a.length).all (aSs a b)
def bNq (a b : List (List Run)) (i : Nat) : Bool := decide (a[i]? = b[i]?)
def bHq (a b : Run) : (decide (a.mask = b.mask) && decide (a.ents = b.ents)) = decide (a = b) := by
  obtain ⟨a1, a2⟩ := a
  obtain ⟨b1, b2⟩ := b
  rw [Bool.eq_iff_iff]
  simp [and_comm]
def bDu (ls : List (List Run)) : Prop := ls.length <= 4611686018427387904 /\ ∀ r ∈ ls, aNl r
def bAt (t : Tree) : Prop := cW t.mem /\ bDu t.levels /\ t.snaps.length <= 4611686018427387904
def hP (a b : Tree) : Bool := ((decide (a.seq = b.seq) && decide (a.mem = b.mem)) && decide (a.levels = b.levels)) && decide (a.snaps = b.snaps)
def aAi (ls : List Entry) (e : Entry) : Nat -> Nat
  | 0 => 0
  | k + 1 => if entLt e ((ls[k]?).getD nM) = true then aAi ls e k else k + 1
def aCg (ls : List Entry) (e : Entry) : Nat := aAi ls e ls.length
def bY (ls : List Entry) (e : Entry) : List Entry := ls.take (aCg ls e) ++ e :: ls.drop (aCg ls e)
def aUz (ls : List Entry) (e : Entry) : ∀ k, aAi ls e k <= k
  | 0 => A0 _
  | k + 1 => by
    unfold aAi; split
    . have := aUz ls e k; omega
    exact A0 _
def esA (es : List Entry) : AV := .sl 5 (es.map enA)
def Di {R G : Prop} (h : R -> G := by intro k; simp only [go_sem, A2, B1, A6, B0, List.nil_append, esA]; exact k) : R -> G := h
def Cv {G : Prop} (h : G := by simp only [go_sem, AObj.bel, AObj.ren, AV.ren, aB, sg] <;> simp [esA]) : G := h
def Cd {R G A B : Prop} (e : A) (f : B) (h : A -> B -> R -> G := by intro e f k; simp only [go_sem, e, f, enA, esA]; exact k) : R -> G := h e f
def Bh {R G A : Prop} (e : A) (h : A -> R -> G := by intro e k; simp only [go_sem, e, esA]; exact k) : R -> G := h e
def vN (U : Nat -> Prop) (ls : List (List Entry)) : aI U (ls.map esA) := pZ enB U ls
def bBd (σ : Nat -> Nat) (ls : List (List Entry)) : aB σ (ls.map esA) = ls.map esA := dJ σ (vN _ ls)
def aUx (ls : List (List Entry)) : (ls.map esA).all AV.elem = true := by
  rw [List.all_map, C8]; intro l _; rfl
def aFs (ls : List (List Entry)) : fzL (ls.map esA) = ls.map esA := by rw [tC]; exact E8 fun r _ => by simp [esA, AV.fz, eY]
def aVi (ls : List Run) : (ls.map runOwn).all AV.elem = true := by
  rw [List.all_map, C8]; intro l _; rfl
def aTn (ls : List (List Run)) : (ls.map rsO).all AV.elem = true := by
  rw [List.all_map, C8]; intro l _; rfl
attribute [go_sem] vN bBd aUx aFs aVi aTn
def aLa (a b : List Entry) (ha : a.length <= 4611686018427387904) (hb : b.length <= 4611686018427387904) : aK P 122 [.sl 5 (a.map enA), .sl 5 (b.map enA)] [] 0 (Nb (lM a b)) := by
 refine (pq 43 [.tmp 4] func122) ((aj) ?_)
 refine aA fun k2 => (aj) (wb ?_)
 refine wa a.length (aSs a b) (fun x => ([(0, .sl 5 (a.map enA)), (1, .sl 5 (b.map enA)), (5, Ni (x : Int))], [])) 0 [] ?_ ?_
 . exact jc
 rintro i ⟨hi, hall⟩
 refine aA fun k4 => (aj) ((cdB) ?_ ?_) <;> intro hc1
 . have hge := gec hc1
   refine we ((jt) (k2 ((aj) (wR ?_))))
   have h9 : lM a b = true := by unfold lM; exact gF hge hall
   exact fq h9
 obtain ⟨hlt, l, hl, _, _⟩ := ixc hc1
 refine wk (k4 (aA fun k6 => wb ((aj) (wb ?_))))
 refine wa b.length (aGo a b i) (fun x => ([(0, .sl 5 (a.map enA)), (1, .sl 5 (b.map enA)), (5, Ni (i : Int)), (6, Ni (x : Int))], [])) 0 [] ?_ ?_
 . exact jc
 rintro k ⟨hk, hallk⟩
 refine aA fun k8 => (aj) ((cdB) ?_ ?_) <;> intro hc2
 . have hgek : b.length <= k := by have h9 : ¬ k < b.length := (by simpa using hc2); omega
   refine we ((jt) ((jt) (k6 ?_)))
   have hp : aSs a b i = true := gF hgek hallk
   refine (jw (wiS i og)) ((jt) ?_)
   refine ⟨i + 1, ⟨og, cG hall hp⟩, og, [], ?_⟩
   exact jo
 have hltk : k < b.length := by simpa using hc2
 obtain ⟨m, hm, _, _⟩ := ix hltk
 refine wk (k8 (aA fun k10 => wb (sd mixed rfl fun k11 => (Bn hl hm) ((jr) ((jy) (k11 ((cdA) ?_ ?_))))))) <;> intro hc3
 . have hpk : aGo a b i k = false := by unfold aGo; rw [hl, hm]; simp only [hc3]; rfl
   have hp : aSs a b i = false := hZ hltk hpk
   refine (aj) (wR ((Ah) ?_))
   have h9 : lM a b = false := by unfold lM; exact hZ hlt hp
   exact fq h9
 have hpk : aGo a b i k = true := by unfold aGo; rw [hl, hm]; simp only [hc3]; rfl
 refine wk ((jt) (k10 ?_))
 have hwk := wiS k og
 refine wg rfl ((Aa hwk) ((jt) ?_))
 refine ⟨k + 1, ⟨og, cG hallk hpk⟩, og, [], ?_⟩
 exact jo
def wT (a b : List (List Run)) (ha : bDu a) : aK P 80 [.sl 1 (a.map rsA), .sl 1 (b.map rsA)] [] 0 (Nb (decide (a = b))) := by
 refine (pq 54 [.tmp 4] func80) ?_
 have hlena := ha.1
 refine (aj) ?_
 refine aA fun k2 => (aj) ((cdA) ?_ ?_) <;> intro hc1
 . have hne : a ≠ b := fun e => by rw [e] at hc1; simp at hc1
   exact (aj) (wR (fq (decide_eq_false hne)))
 have hlen : a.length = b.length := by simp at hc1; omega
 refine wk (k2 (aA fun k5 => (aj) (wb ?_)))
 refine wa a.length (bNq a b) (fun x => ([(0, .sl 1 (a.map rsA)), (1, .sl 1 (b.map rsA)), (5, Ni (x : Int))], [])) 0 [] ?_ ?_
 . exact jc
 rintro i ⟨hi, hall⟩
 refine aA fun k7 => (aj) ((cdB) ?_ ?_) <;> intro hc2
 . have hge := gec hc2
   refine we ((jt) (k5 ((aj) (wR ?_))))
   have hie : i = a.length := by omega
   subst hie
   have he : a = b := by
     refine List.ext_getElem? fun j => ?_
     by_cases hj : j < a.length
     . simpa [bNq] using hall j hj
     rw [E3 og, E3 og]
   exact fq (decide_eq_true he)
 obtain ⟨hlt, l, hl, _, hml⟩ := ixc hc2
 obtain ⟨m, hm, _, _⟩ := ix (xs := b) (i := i) og
 have hll := (ha.2 l hml).1
 refine wk (k7 (aA fun k9 => wb (aA fun k10 => sd mixed rfl fun k11 => ?_)))
 simp only [go_sem, hl, hm, rsA]
 refine (jr) ((jy) (k11 ((cdA) ?_ ?_))) <;> intro hc3
 . have hne : a ≠ b := fun e => by
     rw [e, hm] at hl; cases hl; simp at hc3
   exact (aj) (wR ((Ah) (fq (decide_eq_false hne))))
 . have hlm : l.length = m.length := by simp at hc3; omega
   refine wk (k10 ((aj) (wb ?_)))
   refine wa l.length (qN l m) (fun x => ([(0, .sl 1 (a.map rsA)), (1, .sl 1 (b.map rsA)), (5, Ni (i : Int)), (6, Ni (x : Int))], [])) 0 [] ?_ ?_
   . exact jc
   rintro k ⟨hk, hallk⟩
   refine aA fun k14 => sr rfl fun k15 => (Bf hl) ((jr) (k15 ((cdB) ?_ ?_))) <;> intro hc4
   . have hgek : l.length <= k := by have h9 : ¬ k < l.length := (by simpa using hc4); omega
     refine we ((jt) ((jt) (k9 ?_)))
     have hp : bNq a b i = true := by
       have hlm : l = m := mS hlm (fun j hj => hallk j og)
       unfold bNq; rw [hl, hm, hlm]; simp
     refine (jw (wiS i og)) ((jt) ?_)
     refine ⟨i + 1, ⟨og, cG hall hp⟩, og, [], ?_⟩
     exact jo
   have hltk : k < l.length := by simpa using hc4
   obtain ⟨x, hx, _, hmx⟩ := ix hltk
   obtain ⟨y, hy, _, _⟩ := ix (xs := m) (i := k) og
   refine wk (k14 (aA fun k16 => wb (sd mixed rfl fun k17 => ?_)))
   simp only [go_sem, hl, hm, hx, hy, rsA, rA]
   refine (jr) ?_
   refine tp rfl rfl rfl ⟨func123, rfl, rfl⟩ (aMv x y ((ha.2 l hml).2 x hmx).1) Ag Ag ?_
   simp only [go_sem, bHq]
   refine (jy) (k17 ((cdB) ?_ ?_)) <;> intro hc5
   . have hpk : qN l m k = true := by unfold qN; rw [hx, hy]; simpa using hc5
     refine wk ((jt) (k16 ?_))
     have hwk := wiS k og
     refine wg rfl ((Aa hwk) ((jt) ?_))
     refine ⟨k + 1, ⟨og, cG hallk hpk⟩, og, [], ?_⟩
     exact jo
   have hne : a ≠ b := fun e => by
     rw [e, hm] at hl; cases hl; rw [hx] at hy; cases hy; simp at hc5
   exact (aj) (wR ((Ah) (fq (decide_eq_false hne))))
def aHv (a b : Tree) (ha : bAt a) : aK P 35 [trA a, trA b] [] 0 (Nb (hP a b)) := by
 refine (pq 31 [.tmp 4] func35) ?_
 simp only [trA]
 refine (aj) ?_
 refine sr rfl fun k2 => (ja) ?_
 refine vpg rfl rfl rfl rfl rfl rfl ⟨func83, rfl, rfl⟩ (fun hg => tL a.mem b.mem ha.1.1) oG (fun hg => oG) oG trivial ?_
 refine (ja) ?_
 refine vpg rfl rfl rfl rfl rfl rfl ⟨func80, rfl, rfl⟩ (fun hg => wT a.levels b.levels ha.2.1) oG (fun hg => oG) oG trivial ?_
 refine (ja) ?_
 refine vpg rfl rfl rfl rfl rfl rfl ⟨func84, rfl, rfl⟩ (fun hg => aOw a.snaps b.snaps ha.2.2) oG (fun hg => oG) oG trivial ?_
 refine (ja) (k2 (wR (fO ?_ trivial)))
 simp only [go_sem, hP]
def aKf (ls : List Entry) (e : Entry) (hne : 0 < ls.length) (hz : ls.length <= 1099511627776) : aO P 125 [.sl 5 (ls.map enA), enA e] [] 0 (.ref 0) [(0, .row 43 5 ((bY ls e).map enA))] 1 := by
 refine (gq 37 [.tmp 4] func125) ?_
 simp only [enA]
 have hmx := mxl
 refine (aj) ((aj) ?_)
 refine aA fun k3 => wb ?_
 refine wl (α := Nat) (fun x => x <= ls.length /\ aAi ls e x = aCg ls e) (fun x => x) (fun x => ([(0, .sl 5 (ls.map enA)), (3, .ptr 0 0), (5, Ni (x : Int))], [(0, .cells 43 [Ns e.key, Ni e.seq, Ni e.kind, Ns e.text, Ni e.n])])) 1 ls.length ⟨A0 _, rfl⟩ [] ?_ ?_
 . exact Bo
 rintro i ⟨hi, hpos⟩
 refine aA fun k4 => ?_
 have hw1 := wr ((i : Int) - 1) ((i : Int) - 1) og
 have hpn : ((i : Int) - 1).toNat = i - 1 := by omega
 obtain ⟨p, hpv, hpd⟩ : ∃ p, ls[i - 1]? = some p /\ p = ((ls[i - 1]?).getD nM) := ⟨_, by rw [A1 og]; rfl, rfl⟩
 have hgo : aAi ls e i = if (decide (0 < (i : Int)) && entLt e p) = true then aAi ls e (i - 1) else i := by
   rcases Nat.eq_zero_or_pos i with h0 | h0
   . subst h0; rfl
   obtain ⟨m, rfl⟩ : ∃ m, i = m + 1 := ⟨i - 1, og⟩
   have h1 : decide (0 < ((m + 1 : Nat) : Int)) = true := by rw [decide_eq_true_eq]; omega
   rw [h1, hpd, Bool.true_and]; rfl
 refine sd mixed rfl fun k5 => (Bt hw1 hpn hpv) ((jr) ?_)
 refine tpg rfl rfl rfl rfl rfl rfl ⟨func117, rfl, rfl⟩ (fun hg => pN e p) oG (fun hg => Ae) Ae trivial ?_
 refine (Bt hw1 hpn hpv) ((jr) ((jy) (k5 ((cdA) ?_ ?_)))) <;> intro hc1
 . have hi0 : 0 < i := by simp at hc1; omega
   have hpos2 : aAi ls e (i - 1) = aCg ls e := by rw [hgo, if_pos hc1] at hpos; exact hpos
   have hw2 := wr ((i : Int) - 1) (((i - 1 : Nat) : Int)) og
   refine wk (k4 (wb (wg rfl ((Aa hw2) ((jt) ((jt) ?_))))))
   refine ⟨i - 1, ⟨og, hpos2⟩, og, [], ?_⟩
   exact Bo
 have hpos3 : i = aCg ls e := by rw [hgo, hc1, if_neg oS] at hpos; exact hpos
 refine we ((jt) (k3 (sr rfl fun k6 => (Dd) ((jr) (k6 (sd mixed rfl fun k7 => (Dd) ((jr) ((jy) (k7 (wR ?_))))))))))
 have h9 : List.take i (List.map enA ls) ++ .agg [.raw (.string e.key), .raw (.int .i64 e.seq), .raw (.int .i64 e.kind), .raw (.string e.text), .raw (.int .i64 e.n)] :: List.drop i (List.map enA ls) = (bY ls e).map enA := by unfold bY; rw [<- hpos3]; simp [enA]
 refine ⟨[(0, 7)], ?_⟩
 simp only [go_sem, AObj.bel, AObj.ren, AV.ren, aB, sg] <;> simp
 exact h9
def aJk (e : Entry) : aO P 125 [.sl 5 [], enA e] [] 0 (.ref 0) [(0, .row 43 5 [enA e])] 1 := by
 refine (gq 37 [.tmp 4] func125) ?_
 simp only [enA]
 have hmx := mxl
 refine (aj) ((aj) ?_)
 refine aA fun k3 => wb ?_
 refine wl (α := Nat) (fun x => x = 0) (fun x => x) (fun x => ([(0, .sl 5 []), (3, .ptr 0 0), (5, Ni 0)], [(0, .cells 43 [Ns e.key, Ni e.seq, Ni e.kind, Ns e.text, Ni e.n])])) 1 0 rfl [] ?_ ?_
 . exact Cc
 rintro i hi
 refine aA fun k4 => ?_
 have hw1 := wr ((0 : Int) - 1) (-1) og
 have hpn : (-1 : Int).toNat = 0 := rfl
 have hg0 : decide ((0 : Int) < 0) = false := rfl
 refine sd mixed rfl fun k5 => (Bt hw1 hpn hg0) ((jr) ?_)
 refine aN (fun hN => dK (rt := []) (rd := []) (val := enA nM) hN rfl rfl rfl rfl trivial (fun hg => absurd hg oS) (by exact dQ _ _)) (.inl rfl) ?_
 simp only [go_sem, enA, nM, hg0, hw1, hpn, hg0, enA]
 refine (jr) ?_
 refine tpg rfl rfl rfl rfl rfl rfl ⟨func117, rfl, rfl⟩ (fun hg => pN e nM) oG (fun hg => (by simp only [go_sem, enA, nM])) (by simp only [go_sem, enA, nM]) trivial ?_
 refine (Aa hg0) ((jy) (k5 ((cdA) (fun hc => by simp at hc) fun hc1 => ?_)))
 refine we ((jt) (k3 (sr rfl fun k6 => (De) ((jr) (k6 (sd mixed rfl fun k7 => (De) ((jr) ((jy) (k7 (wR ?_))))))))))
 refine ⟨[(0, 7)], ?_⟩
 simp only [go_sem, enA, AObj.bel, AObj.ren, AV.ren, aB, sg] <;> simp
def xC (ls : List Entry) (e : Entry) (hz : ls.length <= 1099511627776) : aO P 125 [.sl 5 (ls.map enA), enA e] [] 0 (.ref 0) [(0, .row 43 5 ((bY ls e).map enA))] 1 := by
  match ls, hz with
  | [], _ => exact aJk e
  | x :: r, hz => exact aKf (x :: r) e oS hz
def vM (ls : List Entry) (e : Entry) (hz : ls.length <= 1099511627776) : aK P 125 [.sl 5 (ls.map enA), enA e] [] 0 (.sl 5 ((bY ls e).map enA)) :=
  cC (xC ls e hz) oG oG
section
variable {rs : List Run} {k : Nat} {r : Run} {R G : Prop} {t : Tree}
def aG (rs : List Run) : List Entry := rs.flatMap Run.ents
def dA (t : Tree) : List (List Entry) := t.mem :: (((t.levels[0]?).getD []).reverse.map Run.ents ++ (t.levels.drop 1).map aG)
def yR (ps : List (List Entry)) (i k : Nat) : Bool := match ps[i]?, ps[k]? with
  | some a, some b => lM a b
  | _, _ => true
def aIp (ps : List (List Entry)) (i : Nat) : Bool := (List.range (ps.length - (i + 1))).all fun d => yR ps i (i + 1 + d)
def aHq (ps : List (List Entry)) : Bool := (List.range ps.length).all (aIp ps)
def lv (t : Tree) (i : Nat) : List Run := (t.levels[i]?).getD []
def qI (t : Tree) : Bool := ((((((decide (t.seq < 0) || decide (100000 < t.seq)) || decide (60 < (t.mem.length : Int))) || !bU t.mem) || !mK t.mem t.seq) || !decide ((t.levels.length : Int) = 3)) || !eP t.snaps t.seq)
def cZ (t : Tree) : Bool := if qI t = true then false else ((eG (lv t 0) 4 false t.seq && eG (lv t 1) 8 true t.seq) && eG (lv t 2) 8 true t.seq) && aHq (dA t)
def aZa (h : rs[k]? = some r) : (rs.take k).map runOwn ++ [runOwn r] = (rs.take (k + 1)).map runOwn := by
  rw [F5, h]; simp
def aUl {ls : List (List Run)} {i : Nat} (h : ls[i]? = some rs) : (ls.take i).map rsO ++ [rsO rs] = (ls.take (i + 1)).map rsO := by
  rw [F5, h]; simp
def tn0 : (0 : Int).toNat = 0 := rfl
def tn1 : (1 : Int).toNat = 1 := rfl
def tn2 : (2 : Int).toNat = 2 := rfl
def Da (h : R -> G := by intro k; simp only [go_sem, Int.toNat_zero, List.getElem?_cons_succ, List.getElem?_cons_zero, A6, rsA, tn1, tn2]; exact k) : R -> G := h
def Cl (h : R -> G := by intro k; simp only [go_sem, List.map_cons, List.map_nil, Nat.mul_one, C3, inA, padL, tn0, tn1, tn2, tn3]; exact k) : R -> G := h
def Cg {R G A B C : Prop} (e : A) (f : B) (g : C) (h : A -> B -> C -> R -> G := by intro e f g k; simp only [go_sem, e, f, g, rsA, tn0, tn1, tn2]; exact k) : R -> G := h e f g
def aTu (h : rs[k]? = some r) : aG (rs.take (k + 1)) = aG (rs.take k) ++ r.ents := by
  unfold aG
  rw [F5, h]; simp
def aHp (h : ∀ r ∈ rs, r.ents.length <= 1048576) : (aG rs).length <= 1048576 * rs.length := by
  induction rs with
  | nil => simp [aG]
  | cons r rs ih =>
    have h1 := ih fun x hx => h x (A4 _ hx)
    have h2 := h r A3
    simp only [aG, List.flatMap_cons, A2, C4] at h1 ⊢
    omega
def bJv (h : rs[k]? = some r) : (rs.drop k).reverse.map Run.ents = (rs.drop (k + 1)).reverse.map Run.ents ++ [r.ents] := by
  rw [aJr h, List.reverse_cons, D5]; rfl
def bOs {α β : Type} {ls : List α} {x : α} (f : α -> β) (h : ls[k]? = some x) (h1 : 1 <= k) : ((ls.take (k + 1)).drop 1).map f = ((ls.take k).drop 1).map f ++ [f x] := by
  have hlt := (B2.1 h).1
  rw [F5, h, List.drop_append_of_le_length (by rw [B0]; omega), D5]; rfl
def nJ (t : Tree) (k : Nat) : List (List Entry) := t.mem :: ((lv t 0).reverse.map Run.ents ++ ((t.levels.take k).drop 1).map aG)
def aWz (t : Tree) : nJ t t.levels.length = dA t := by unfold nJ dA lv; rw [F4]
def aWm (h : gW t) : ∀ p ∈ dA t, p.length <= 4611686018427387904 := by
  obtain ⟨h1, h2, h3⟩ := h
  intro p hp
  rcases A8.1 hp with e | hp
  . rw [e]; have := h1.1; omega
  rcases A7.1 hp with hp | hp
  . obtain ⟨r, hr, rfl⟩ := A9.1 hp
    have hr' := List.mem_reverse.1 hr
    cases hq : t.levels[0]? with
    | none => rw [hq] at hr'; cases hr'
    | some rs =>
      rw [hq] at hr'
      have := ((h2.2 rs (E4 hq)).2 r hr').1
      omega
  obtain ⟨rs, hr, rfl⟩ := A9.1 hp
  have h4 := h2.2 rs (D2 hr)
  have := aHp fun r hr => (h4.2 r hr).1
  have h5 := h4.1
  have : 1048576 * rs.length <= 1048576 * 1048576 := Nat.mul_le_mul_left _ h5
  omega
def bGf (h : gW t) : (dA t).length <= 3145728 := by
  obtain ⟨h1, h2, h3⟩ := h
  have h4 := h2.1
  have h5 : ((t.levels[0]?).getD []).length <= 1048576 := by
    cases hq : t.levels[0]? with
    | none => simp
    | some rs => exact (h2.2 rs (E4 hq)).1
  simp only [dA, C4, A2, A6, H6, B1]; omega
def aQa (U : Nat -> Prop) (p : List Entry) : (esA p).bel U := enB _ _
def bFz (σ : Nat -> Nat) (p : List Entry) : (esA p).ren σ = esA p := AV.ren_closed σ (aQa _ p)
attribute [go_sem] aQa bFz
def cP (ls : List (List Run)) (hs : aKz ls) : aO P 72 [.sl 1 (ls.map rsA)] [] 0 (.ref 0) [(0, .row 102 1 (ls.map rsO))] 1 := by
 refine (gq 51 [.tmp 2] func72) ?_
 have hmx := mxl
 have hlen := hs.1
 refine (aj) ?_
 refine sr rfl fun k2 => (ja) ((jr) (k2 (aA fun k3 => (aj) (wb ?_))))
 refine wn ls.length (fun x => ([(0, .sl 1 (ls.map rsA)), (3, .ref 0), (4, Ni (x : Int))], [(0, .row 102 1 ((ls.take x).map rsO))])) 1 [] ?_ ?_
 . exact Ct
 rintro i hi
 refine aA fun k5 => (aj) ((cdB) ?_ ?_) <;> intro hc1
 . have hge := gec hc1
   refine we ((jt) (k3 ((aj) (wR ?_))))
   have hie : i = ls.length := by omega
   subst hie; rw [F4]; refine ⟨[], ?_⟩; exact Bo
 obtain ⟨hlt, l, hl, hdrop, hml⟩ := ixc hc1
 have hsl := hs.2 l hml
 have hll := hsl.1
 refine wk (k5 (aA fun k7 => wb (sr rfl fun k8 => (ja) ((jr) (k8 (aA fun k9 => (aj) (wb ?_)))))))
 refine wn l.length (fun x => ([(0, .sl 1 (ls.map rsA)), (3, .ref 0), (4, Ni (i : Int)), (5, .ref 1), (6, Ni (x : Int))], [(0, .row 102 1 ((ls.take i).map rsO)), (1, .row 105 2 ((l.take x).map runOwn))])) 2 [] ?_ ?_
 . exact Ct
 rintro k hk
 refine aA fun k11 => sr rfl fun k12 => (Bf hl) ((jr) (k12 ((cdB) ?_ ?_))) <;> intro hc2
 . have hgek : l.length <= k := by have h9 : ¬ k < l.length := (by simpa using hc2); omega
   refine we ((jt) (k9 ?_))
   have hfull : l.take k = l := List.take_of_length_le og
   refine wg rfl ?_; simp only [go_sem, hfull, B0, A2, List.nil_append, A6, H6, B1]
   refine (jr) ((jt) (k7 ?_))
   have hw := wiS i og
   have htl : List.take i (List.map rsO ls) ++ [AV.own 105 2 (List.map runOwn l)] = List.take (i + 1) (List.map rsO ls) := by rw [<- E9, <- E9]; exact aUl hl
   refine wg rfl ((Aa hw) ((jt) ?_))
   refine ⟨i + 1, og, og, [(0, 3)], ?_⟩
   simp only [go_sem, AObj.bel, AObj.ren, AV.ren, aB, sg] <;> simp
   exact htl
 have hltk : k < l.length := by simpa using hc2
 obtain ⟨r, hr, _, hmr⟩ := ix hltk
 have hrl := (hsl.2 r hmr).1
 refine wk (k11 (aA fun k13 => wb ?_))
 refine cQ mixed rfl ?_
 refine (Df hl hr) ((jr) ((jy) ((jt) (k13 ?_))))
 have hwk := wiS k og
 have htk : List.take k (List.map runOwn l) ++ [AV.agg [AV.own 43 5 (List.map enA r.ents), AV.raw (Value.int IntKind.i64 r.mask)]] = List.take (k + 1) (List.map runOwn l) := by rw [<- E9, <- E9]; exact aZa hr
 refine wg rfl ((Aa hwk) ((jt) ?_))
 refine ⟨k + 1, og, og, [(1, 5)], ?_⟩
 simp only [go_sem, AObj.bel, AObj.ren, AV.ren, aB, sg] <;> simp
 exact htk
def gJ (t : Tree) (hs : gW t) : aO P 71 [trA t] [] 0 (.agg [Ni t.seq, .ref 0, .ref 1, .ref 2]) [(0, .row 43 5 (t.mem.map enA)), (1, .row 102 1 (t.levels.map rsO)), (2, .row 3 1 (t.snaps.map inA))] 3 := by
 refine (gq 17 [.cell 2 27] func71) ?_
 simp only [trA]
 have hmx := mxl
 obtain ⟨⟨hs1, _⟩, hs2, hs3⟩ := hs
 refine (aj) ?_
 refine sd mixed rfl fun k2 => (Dg) ((jr) ?_)
 refine tn 1 rfl rfl rfl ⟨func72, rfl, rfl⟩ (cP t.levels hs2) oG oG oS dg ?_
 refine (jn) ((jr) ((jy) (k2 (wR ?_))))
 refine ⟨[(0, 3), (1, 4), (2, 6)], ?_⟩
 exact jz
def aFd (t : Tree) (hs : gW t) (h1 : 1 <= t.levels.length) : aO P 121 [trA t] [] 0 (.ref 0) [(0, .row 23 1 ((dA t).map esA))] 1 := by
 refine (gq 66 [.tmp 2] func121) ?_
 simp only [trA]
 have hmx := mxl
 obtain ⟨⟨hs1, _⟩, hs2, hs3⟩ := hs
 have hl0 : t.levels[0]? = some (lv t 0) := by unfold lv; rw [A1 og]; rfl
 have hm0 := hs2.2 _ (E4 hl0)
 have hz0 := hm0.1
 have hlen := hs2.1
 refine (aj) ?_
 refine sr rfl fun k2 => (ja) ((jr) (k2 (aA fun k3 => ?_)))
 have hw0 := wr (((lv t 0).length : Int) - 1) (((lv t 0).length : Int) - 1) og
 refine sr rfl fun k4 => ?_
 simp only [go_sem, hl0, tn0, rsA, hw0]
 refine (jr) (k4 (wb ?_))
 refine wl (α := Nat) (fun x => x <= (lv t 0).length) (fun x => x) (fun x => ([(1, .ptr 0 0), (3, .ref 1), (4, Ni ((x : Int) - 1))], [(0, .cells 27 [Ni t.seq, .sl 5 (t.mem.map enA), .sl 1 (t.levels.map rsA), .sl 1 (t.snaps.map inA)]), (1, .row 23 1 ((t.mem :: ((lv t 0).drop x).reverse.map Run.ents).map esA))])) 2 (lv t 0).length (A0 _) [] ?_ ?_
 . simp only [go_sem, AObj.bel, List.drop_length, List.reverse_nil, List.map_cons, List.map_nil, esA] <;> simp
 rintro j hj
 refine aA fun k5 => (aj) ((cdA) ?_ ?_) <;> intro hc1
 . obtain ⟨i, rfl⟩ : ∃ i, j = i + 1 := ⟨j - 1, by have h9 : (0 : Int) <= (j : Int) - 1 := (by simpa using hc1); omega⟩
   have hi1 : (((i + 1 : Nat) : Int) - 1) = (i : Int) := by omega
   obtain ⟨r, hr, _, hmr⟩ := ix (xs := lv t 0) (i := i) og
   simp only [hi1]
   refine wk (k5 (aA fun k7 => wb (wg rfl ?_)))
   simp only [go_sem, hl0, tn0, hr, rsA, rA, B0, A2, List.nil_append, A6, H6, B1]
   refine (jr) ((jt) (k7 ?_))
   have hw4 := wr ((i : Int) - 1) ((i : Int) - 1) og
   have htn : List.map esA (List.map Run.ents (List.drop (i + 1) (lv t 0)).reverse) ++ [AV.sl 5 (List.map enA r.ents)] = List.map esA (List.map Run.ents (List.drop i (lv t 0)).reverse) := by rw [bJv hr, D5]; rfl
   refine wg rfl ((Aa hw4) ((jt) ?_))
   refine ⟨i, og, og, [(1, 3)], ?_⟩
   simp only [go_sem, AObj.bel, AObj.ren, AV.ren, aB, sg] <;> simp
   first | exact htn | simpa using htn
 have hj0 : j = 0 := by have h9 : ¬ (0 : Int) <= (j : Int) - 1 := (by simpa using hc1); omega
 subst hj0; rw [List.drop_zero]
 refine we ((jt) (k3 (aA fun k8 => ?_)))
 have hb0 : esA t.mem :: List.map esA (List.map Run.ents (lv t 0).reverse) = List.map esA (nJ t 1) := by unfold nJ; rw [E6 (by rw [B0]; omega)]; simp
 refine (aj) (wb ?_)
 refine wl (α := Nat) (fun x => 1 <= x /\ x <= t.levels.length) (fun x => t.levels.length - x) (fun x => ([(1, .ptr 0 0), (3, .ref 1), (5, Ni (x : Int))], [(0, .cells 27 [Ni t.seq, .sl 5 (t.mem.map enA), .sl 1 (t.levels.map rsA), .sl 1 (t.snaps.map inA)]), (1, .row 23 1 ((nJ t x).map esA))])) 2 1 ⟨A0 _, h1⟩ [] ?_ ?_
 . simp only [go_sem, AObj.bel, AObj.ren, AV.ren, aB, sg] <;> simp
   first | exact hb0 | simpa using hb0
 rintro k ⟨hk1, hk⟩
 refine aA fun k10 => (aj) ((cdB) ?_ ?_) <;> intro hc2
 . have hke : k = t.levels.length := by have h9 : ¬ k < t.levels.length := (by simpa using hc2); omega
   subst hke; rw [aWz]
   refine we ((jt) (k8 ((aj) (wR ?_))))
   refine ⟨[(0, 1)], ?_⟩
   exact jz
 have hltk : k < t.levels.length := by simpa using hc2
 obtain ⟨l, hl, _, hml⟩ := ix hltk
 have hsl := hs2.2 l hml
 have hll := hsl.1
 have hpl : (nJ t k).length <= 3145728 := by simp only [nJ, C4, A2, A6, H6, B1, B0]; omega
 refine wk (k10 (aA fun k12 => wb (sr rfl fun k13 => (ja) ((jr) (k13 (aA fun k14 => (aj) (wb ?_)))))))
 refine wn l.length (fun x => ([(1, .ptr 0 0), (3, .ref 1), (5, Ni (k : Int)), (6, .ref 2), (7, Ni (x : Int))], [(0, .cells 27 [Ni t.seq, .sl 5 (t.mem.map enA), .sl 1 (t.levels.map rsA), .sl 1 (t.snaps.map inA)]), (1, .row 23 1 ((nJ t k).map esA)), (2, .row 43 5 ((aG (l.take x)).map enA))])) 3 [] ?_ ?_
 . simp only [go_sem, AObj.bel, AObj.ren, AV.ren, aB, sg] <;> simp
   exact rfl
 rintro i hi
 refine aA fun k16 => sr rfl fun k17 => (Bf hl) ((jr) (k17 ((cdA) ?_ ?_))) <;> intro hc3
 . obtain ⟨hlt, x, hx, _, hmx⟩ := ixc hc3
   have hxl := (hsl.2 x hmx).1
   have hpa := aHp (rs := l.take i) fun r hr => (hsl.2 r (D1 hr)).1
   rw [B0] at hpa
   refine wk (k16 (aA fun k18 => wb (wg rfl ((Df hl hx) ((jr) ((jt) (k18 ?_)))))))
   have hw := wiS i og
   have hta : List.map enA (aG (List.take i l)) ++ List.map enA x.ents = List.map enA (aG (List.take (i + 1) l)) := by rw [aTu hx, D5]
   refine wg rfl ((Aa hw) ((jt) ?_))
   refine ⟨i + 1, og, og, [(2, 3)], ?_⟩
   simp only [go_sem, AObj.bel, AObj.ren, AV.ren, aB, sg] <;> simp
   first | exact hta | simpa using hta
 have hge := gec hc3
 refine we ((jt) (k14 ?_))
 have hfull : l.take i = l := List.take_of_length_le og
 rw [hfull]
 refine aFz 2 rfl ?_
 refine (ja) ?_
 refine wg rfl ((Dg) ((jr) ((jt) (k12 ?_))))
 have hwk := wiS k og
 have htk : List.map esA (nJ t k) ++ [AV.sl 5 (List.map enA (aG l))] = List.map esA (nJ t (k + 1)) := by
   have e1 := bOs aG hl hk1
   unfold nJ; rw [e1]
   simp [esA]
 refine wg rfl ((Aa hwk) ((jt) ?_))
 refine ⟨k + 1, og, og, [(1, 4)], ?_⟩
 simp only [go_sem, AObj.bel, AObj.ren, AV.ren, aB, sg] <;> simp
 first | exact htk | simpa using htk
def aOq (t : Tree) (hs : gW t) (h1 : 1 <= t.levels.length) : aK P 79 [trA t] [] 0 (Nb (aHq (dA t))) := by
 refine (pq 32 [.tmp 2] func79) ?_
 simp only [trA]
 have hpl := bGf hs
 have hps := aWm hs
 generalize hpp : dA t = ps at hpl hps ⊢
 refine (aj) ?_
 refine sr rfl fun k2 => (ja) ?_
 refine (vr rfl rfl rfl func121 ((hpp ▸ cC (aFd t hs h1) oG oG : aK P 121 [trA t] [] 0 (.sl 1 (ps.map esA)))) Af Af) (k2 (aA fun k3 => (aj) (wb ?_)))
 refine wa ps.length (aIp ps) (fun x => ([(3, .sl 1 (ps.map esA)), (4, Ni (x : Int))], [(0, .cells 27 [Ni t.seq, .sl 5 (t.mem.map enA), .sl 1 (t.levels.map rsA), .sl 1 (t.snaps.map inA)])])) 1 [] ?_ ?_
 . exact Cc
 rintro i ⟨hi, hall⟩
 refine aA fun k5 => (aj) ((cdB) ?_ ?_) <;> intro hc1
 . have hge := gec hc1
   refine we ((jt) (k3 ((aj) (wR ?_))))
   have h9 : aHq ps = true := by unfold aHq; exact gF hge hall
   exact fq h9
 obtain ⟨hlt, p, hp1, _, hmp⟩ := ixc hc1
 refine wk (k5 (aA fun k7 => wb ?_))
 have hw := wiS i og
 refine sr rfl fun k8 => (Aa hw) (k8 (wb ?_))
 refine wl (α := Nat) (fun x => i + 1 + x <= ps.length /\ ∀ d, d < x -> yR ps i (i + 1 + d) = true) (fun x => ps.length - (i + 1 + x)) (fun x => ([(3, .sl 1 (ps.map esA)), (4, Ni (i : Int)), (5, Ni ((i + 1 + x : Nat) : Int))], [(0, .cells 27 [Ni t.seq, .sl 5 (t.mem.map enA), .sl 1 (t.levels.map rsA), .sl 1 (t.snaps.map inA)])])) 1 0 ⟨og, fun d hd => absurd hd (H7 _)⟩ [] ?_ ?_
 . exact jz
 rintro d ⟨hd, hall2⟩
 refine aA fun k9 => (aj) ((cdB) ?_ ?_) <;> intro hc2
 . have hgek : ps.length <= i + 1 + d := by simp at hc2; omega
   refine we ((jt) ((jt) (k7 ?_)))
   have hp : aIp ps i = true := gF og hall2
   refine (jw (wiS i og)) ((jt) ?_)
   refine ⟨i + 1, ⟨og, cG hall hp⟩, og, [], ?_⟩
   exact Bo
 have hltk : i + 1 + d < ps.length := by simp at hc2; omega
 obtain ⟨q, hq1, _, hmq⟩ := ix hltk
 refine wk (k9 (aA fun k11 => wb (sd mixed rfl fun k12 => ?_)))
 simp only [go_sem, hp1, hq1, esA]
 refine (jr) ?_
 refine tp rfl rfl rfl ⟨func122, rfl, rfl⟩ (aLa p q (hps p hmp) (hps q hmq)) oG oG ?_
 simp only [go_sem, hp1, hq1, esA]
 refine (jr) ((jy) (k12 ((cdA) ?_ ?_))) <;> intro hc3
 . have hpk : yR ps i (i + 1 + d) = false := by unfold yR; rw [hp1, hq1]; simpa using hc3
   have hp : aIp ps i = false := hZ (i := d) og hpk
   refine (aj) (wR ((Ah) ?_))
   have h9 : aHq ps = false := by unfold aHq; exact hZ hlt hp
   exact fq h9
 have hpk : yR ps i (i + 1 + d) = true := by unfold yR; rw [hp1, hq1]; simpa using hc3
 refine wk ((jt) (k11 ?_))
 have hwk := wr (((i + 1 + d : Nat) : Int) + 1) (((i + 1 + (d + 1) : Nat) : Int)) og
 refine wg rfl ((Aa hwk) ((jt) ?_))
 refine ⟨d + 1, ⟨og, cG hall2 hpk⟩, og, [], ?_⟩
 exact jz
def tM (t : Tree) (hs : gW t) : aK P 33 [trA t] [] 0 (Nb (cZ t)) := by
 refine (pq 71 [.tmp 2] func33) ?_
 simp only [trA]
 have hs0 := hs
 obtain ⟨hs1, hs2, hs3⟩ := hs
 have hz1 : cW t.mem := ⟨by have := hs1.1; omega, fun e he => ⟨by have := (hs1.2 e he).1; omega, by have := (hs1.2 e he).2; omega⟩⟩
 have hzr : ∀ i, i < t.levels.length -> aNl (lv t i) := fun i hi => by
   have h1 := hs2.2 (lv t i) (by unfold lv; rw [A1 hi]; exact C9 hi)
   exact ⟨by have := h1.1; omega, fun r hr => ⟨by have := (h1.2 r hr).1; omega, fun e he => ⟨by have := ((h1.2 r hr).2 e he).1; omega, by have := ((h1.2 r hr).2 e he).2; omega⟩⟩⟩
 refine (aj) ?_
 refine aA fun k2 => sr rfl fun k3 => (ja) ?_
 refine vpg rfl rfl rfl rfl rfl rfl ⟨func75, rfl, rfl⟩ (fun hg => rZ t.mem hz1) oG (fun hg => oG) oG trivial ?_
 refine (ja) ?_
 refine vpg rfl rfl rfl rfl rfl rfl ⟨func76, rfl, rfl⟩ (fun hg => wQ t.mem t.seq hz1.1) oG (fun hg => oG) oG trivial ?_
 refine (ja) ?_
 refine vpg rfl rfl rfl rfl rfl rfl ⟨func77, rfl, rfl⟩ (fun hg => aLw t og) oG (fun hg => Af) Af trivial ?_
 refine (ja) (k3 ((cdA) ?_ ?_)) <;> intro hc1
 . have hb : qI t = true := hc1
   refine (aj) (wR ?_)
   refine fO ?_ trivial; simp only [go_sem, cZ, hb]
 have hb : qI t = false := hc1
 have h3 : t.levels.length = 3 := by simp at hc1; omega
 have hl0 : t.levels[0]? = some (lv t 0) := by unfold lv; rw [A1 og]; rfl
 have hl1 : t.levels[1]? = some (lv t 1) := by unfold lv; rw [A1 og]; rfl
 have hl2 : t.levels[2]? = some (lv t 2) := by unfold lv; rw [A1 og]; rfl
 refine wk (k2 (sd mixed rfl fun k5 => (Cg hl0 hl1 hl2) ((jr) ?_)))
 refine tp rfl rfl rfl ⟨func78, rfl, rfl⟩ (tH (lv t 0) 4 false t.seq (hzr 0 og)) oG oG ?_
 refine (Cg hl0 hl1 hl2) ((jr) ?_)
 refine tpg rfl rfl rfl rfl rfl rfl ⟨func78, rfl, rfl⟩ (fun hg => tH (lv t 1) 8 true t.seq (hzr 1 og)) oG (fun hg => oG) oG trivial ?_
 refine (Cg hl0 hl1 hl2) ((jr) ?_)
 refine tpg rfl rfl rfl rfl rfl rfl ⟨func78, rfl, rfl⟩ (fun hg => tH (lv t 2) 8 true t.seq (hzr 2 og)) oG (fun hg => oG) oG trivial ?_
 refine (Cg hl0 hl1 hl2) ((jr) ?_)
 refine tpg rfl rfl rfl rfl rfl rfl ⟨func79, rfl, rfl⟩ (fun hg => aOq t hs0 og) oG (fun hg => Af) Af trivial ?_
 refine (ja) ((jr) ((jy) (k5 (wR (fO ?_ trivial)))))
 simp only [go_sem, cZ, hb, C5, if_false]
end
def jE (ls : List Entry) (i : Nat) : Bool := match ls[i]? with
  | some e => !(!bJ e || (decide (0 < (i : Int)) && !decide (e.seq = IntKind.i64.wrap ((bX ls i).seq + 1))))
  | none => true
def isB (ls : List Entry) : Bool := (List.range ls.length).all (jE ls) && (decide (1 <= (ls.length : Int)) && decide ((ls.length : Int) <= 12))
def aEx (n : Int) : ByteArray := ByteArray.empty.push (UInt8.ofNat (IntKind.u8.wrap (IntKind.i64.wrap (48 + n))).toNat)
def tG : Nat -> Int -> ByteArray -> ByteArray
  | 0, n, out => aEx n ++ out
  | f + 1, n, out => if 9 < n then tG f (n.tdiv 10) (aEx (n.tmod 10) ++ out) else aEx n ++ out
def aUs (n : Int) : ByteArray := tG 19 n ⟨#[]⟩
def dec (n : Int) : ByteArray := if n < 0 then ⟨#[45]⟩ ++ aUs (-n) else aUs n
def aBt : ∀ (f : Nat) (n : Int) (out : ByteArray), (tG f n out).size <= out.size + f + 1
  | 0, n, out => by simp only [tG, B8]; have : (aEx n).size = 1 := rfl; omega
  | f + 1, n, out => by
    unfold tG
    have h1 : ∀ m, (aEx m).size = 1 := fun _ => rfl
    split
    . have := aBt f (n.tdiv 10) (aEx (n.tmod 10) ++ out)
      rw [B8, h1] at this; omega
    rw [B8, h1]; omega
def gK (n : Int) : (dec n).size <= 21 := by
  have h : ∀ m, (aUs m).size <= 20 := fun m => aBt 19 m ⟨#[]⟩
  unfold dec; split
  . rw [B8]; have := h (-n); have : (⟨#[45]⟩ : ByteArray).size = 1 := rfl; omega
  have := h n; omega
abbrev spB : ByteArray := ⟨#[32]⟩
abbrev nlB : ByteArray := ⟨#[10]⟩
def bW : spB.size = 1 := rfl
def nG : nlB.size = 1 := rfl
def pT (out : ByteArray) (e : Entry) : ByteArray := out ++ e.key ++ spB ++ dec e.seq ++ spB ++ dec e.kind ++ spB ++ dec e.n ++ spB ++ dec (e.text.size : Int) ++ spB ++ e.text
def bTx (ls : List Entry) : ByteArray := ls.foldl pT ⟨#[]⟩
def fTx (ls : List Entry) : ByteArray := if isB ls = true then dec ((bTx ls).size : Int) ++ spB ++ bTx ls ++ nlB else ⟨#[]⟩
def aGa (s : ByteArray) : Nat -> Nat -> Option Nat
  | 0, _ => none
  | f + 1, i => if aS s i = 32 then some i else aGa s f (i + 1)
def jL (s : ByteArray) (at' : Nat) : ByteArray × Int := match aGa s (s.size - at') at' with
  | some i => (s.extract at' i, (i : Int) + 1)
  | none => (⟨#[]⟩, -1)
def aIv (s : ByteArray) : ∀ (f i j : Nat), aGa s f i = some j -> i <= j /\ j < i + f
  | 0, i, j, h => by cases h
  | f + 1, i, j, h => by
    unfold aGa at h; split at h
    . cases h; omega
    have := aIv s f (i + 1) j h; omega
def aYi (s : ByteArray) (a : Nat) : -1 <= (jL s a).2 /\ (jL s a).2 <= s.size := by
  unfold jL; split
  . rename_i i h
    have := aIv s _ _ _ h
    simp only
    omega
  simp only; omega
def iH (s : ByteArray) (a b : Nat) (h : b <= s.size) : (s.extract a b).size = b - a := by
  rw [ByteArray.size_extract]; omega
def aKy (s : ByteArray) (a : Nat) : (jL s a).1.size <= s.size := by
  unfold jL; split
  . rename_i i h
    have := aIv s _ _ _ h
    simp only
    rw [ByteArray.size_extract]; omega
  exact A5 _
def lN (t : ByteArray) : Nat -> Option Int
  | 0 => some 0
  | i + 1 => match lN t i with
    | some n => if (decide (aS t i < 48) || decide (57 < aS t i)) = true then none else some (n * 10 + (aS t i - 48))
    | none => none
def mW (t : ByteArray) : ∀ (i : Nat) (n : Int), lN t i = some n -> 0 <= n /\ n < 10 ^ i
  | 0, n, h => by cases h; simp
  | i + 1, n, h => by
    unfold lN at h; split at h
    . rename_i m hm
      split at h
      . cases h
      rename_i hd
      cases h
      have := mW t i m hm
      simp at hd; rw [Int.pow_succ]; omega
    cases h
def aXi {t : ByteArray} {i : Nat} (h : lN t i = none) : ∀ j, i <= j -> lN t j = none := by
  intro j hj
  induction j with
  | zero => have : i = 0 := by omega
            subst this; exact h
  | succ j ih =>
    by_cases e : i = j + 1
    . subst e; exact h
    unfold lN; rw [ih og]
def tB (s : ByteArray) : Bool := decide (0 < (s.size : Int)) && decide (aS s 0 = 45)
def mU (s : ByteArray) : ByteArray := if tB s = true then s.extract 1 s.size else s
def tJ (t : ByteArray) (neg : Bool) : Bool := (decide ((t.size : Int) = 0) || decide (17 < (t.size : Int))) || (decide (aS t 0 = 48) && (decide (1 < (t.size : Int)) || neg))
def aIk (s : ByteArray) : Option Int := if tJ (mU s) (tB s) = true then none else (lN (mU s) (mU s).size).map fun n => if tB s = true then -n else n
def aIe (s : ByteArray) : Int × Bool := match aIk s with
  | some n => (n, true)
  | none => (0, false)
def bV (s : ByteArray) (a : Int) : Int × Int := if a < 0 then (0, -1) else match aIk (jL s a.toNat).1 with
  | some n => (n, (jL s a.toNat).2)
  | none => (0, -1)
def uI (s : ByteArray) (a : Int) : -1 <= (bV s a).2 /\ (bV s a).2 <= s.size := by
  unfold bV; split
  . simp only; omega
  split
  . exact aYi s a.toNat
  simp only; omega
def aZs {s : ByteArray} {n : Int} (h : aIk s = some n) : -100000000000000000 < n /\ n < 100000000000000000 := by
  unfold aIk at h; split at h
  . cases h
  rename_i hb
  obtain ⟨m, hm, rfl⟩ := B3.1 h
  have h1 := mW _ _ _ hm
  have h2 : (mU s).size <= 17 := by simp [tJ] at hb; omega
  have h3 : (10 : Int) ^ (mU s).size <= 10 ^ 17 := by
    have : (10 : Nat) ^ (mU s).size <= 10 ^ 17 := Nat.pow_le_pow_right og h2
    exact_mod_cast this
  have h4 : (10 : Int) ^ 17 = 100000000000000000 := rfl
  split <;> omega
def qM (s : ByteArray) (a : Int) : -100000000000000000 < (bV s a).1 /\ (bV s a).1 < 100000000000000000 := by
  unfold bV; split
  . simp only; omega
  split
  . rename_i n h; exact aZs h
  simp only; omega
def iQ : Entry := ⟨⟨#[]⟩, 0, 0, ⟨#[]⟩, 0⟩
def e1 (s : ByteArray) (a : Nat) := jL s a
def e2 (s : ByteArray) (a : Nat) := bV s (e1 s a).2
def e3 (s : ByteArray) (a : Nat) := bV s (e2 s a).2
def e4 (s : ByteArray) (a : Nat) := bV s (e3 s a).2
def e5 (s : ByteArray) (a : Nat) := bV s (e4 s a).2
def yU (s : ByteArray) (a : Nat) : Bool := (decide ((e5 s a).2 < 0) || decide ((e5 s a).1 < 0)) || decide ((s.size : Int) - (e5 s a).2 < (e5 s a).1)
def wF (s : ByteArray) (a : Nat) : Entry × Int := if yU s a = true then (iQ, -1) else
  (⟨(e1 s a).1, (e2 s a).1, (e3 s a).1, s.extract (e5 s a).2.toNat ((e5 s a).2 + (e5 s a).1).toNat, (e4 s a).1⟩, (e5 s a).2 + (e5 s a).1)
def aJp (ls : List Entry) (hz : cW ls) : aK P 139 [.sl 5 (ls.map enA)] [] 0 (Nb (isB ls)) := by
 refine (pq 43 [.tmp 2] func139) ?_
 have hlen := hz.1
 refine (aj) ?_
 refine aA fun k2 => (aj) (wb ?_)
 refine wa ls.length (jE ls) (fun x => ([(0, .sl 5 (ls.map enA)), (3, Ni (x : Int))], [])) 0 [] ?_ ?_
 . exact jc
 rintro i ⟨hi, hall⟩
 refine aA fun k4 => (aj) ((cdB) ?_ ?_) <;> intro hc1
 . have hge := gec hc1
   refine we ((jt) (k2 ((aj) (wR ?_))))
   have h9 : isB ls = (decide (1 <= (ls.length : Int)) && decide ((ls.length : Int) <= 12)) := by unfold isB; rw [gF hge hall]; rfl
   exact fq h9
 obtain ⟨hlt, l, hl, hdrop, hml⟩ := ixc hc1
 have hw1 := wr ((i : Int) - 1) ((i : Int) - 1) og
 have hpn : ((i : Int) - 1).toNat = i - 1 := by omega
 have hpv : ls[i - 1]? = some (bX ls i) := by unfold bX; rw [A1 og]; rfl
 refine wk (k4 (aA fun k6 => wb (sd mixed rfl fun k7 => (Ay hl hw1 hpn hpv) ((jr) ?_))))
 refine tp rfl rfl rfl ⟨func116, rfl, rfl⟩ (sA l (hz.2 l hml)) Ae Ae ?_
 refine (Ay hl hw1 hpn hpv) ((jr) ((jy) (k7 ((cdA) ?_ ?_)))) <;> intro hc2
 . have hp : jE ls i = false := by unfold jE; rw [hl]; simp only [hc2]; rfl
   refine (aj) (wR ((Ah) ?_))
   have h9 : isB ls = false := by unfold isB; rw [hZ hlt hp]; rfl
   exact fq h9
 have hp : jE ls i = true := by unfold jE; rw [hl]; simp only [hc2]; rfl
 refine wk ((jt) (k6 ((jw (wiS i og)) ((jt) ?_))))
 refine ⟨i + 1, ⟨og, cG hall hp⟩, og, [], ?_⟩
 exact jo
def yM (n : Int) (h0 : 0 <= n) (hn : n < 1000000000000000000) : aK P 140 [Ni n] [] 0 (Ns (aUs n)) := by
 refine (pq 31 [.tmp 2] func140) ?_
 have hmx := mxl
 have hd1 : ∀ m, ByteArray.empty.push (UInt8.ofNat (IntKind.u8.wrap (IntKind.i64.wrap (48 + m))).toNat) = aEx m := fun _ => rfl
 have hds : ∀ m, (aEx m).size = 1 := fun _ => rfl
 refine (aj) ?_
 refine aA fun k2 => (aj) ((cdA) ?_ ?_) <;> intro hc1
 . exfalso; simp at hc1; omega
 refine wk (k2 (aA fun k4 => (aj) ((cdA) ?_ ?_))) <;> intro hc2
 . exfalso; simp at hc2; omega
 refine wk (k4 ((aj) ?_))
 refine aA fun k7 => wb ?_
 refine wl (α := Nat × Int × ByteArray) (fun x => 0 <= x.2.1 /\ x.2.1 < 10 ^ (x.1 + 1) /\ x.2.2.size + x.1 <= 20 /\ x.2.1 < 1000000000000000000 /\ tG x.1 x.2.1 x.2.2 = aUs n) (fun x => x.2.1.toNat) (fun x => ([(0, Ni x.2.1), (3, Ns x.2.2)], [])) 0 (19, n, ⟨#[]⟩) ⟨by simp only; omega, by simp only; omega, by simp [ByteArray.size], hn, rfl⟩ [] ?_ ?_
 . exact jc
 rintro ⟨f, m, out⟩ ⟨hm0, hmf, hsz, hmk, hd⟩
 simp only at hm0 hmf hsz hmk hd ⊢
 refine aA fun k8 => (aj) ((cdB) ?_ ?_) <;> intro hc3
 . have hle : ¬ 9 < m := by simpa using hc3
   have hd0 : tG f m out = aEx m ++ out := by cases f with | zero => rfl | succ g => rw [tG, if_neg hle]
   rw [hd0] at hd
   have hds1 := hds m
   refine we ((jt) (k7 (sr rfl fun k11 => (Aa hd1) ((jr) ?_))))
   refine vC (fun hN => aAv (n := IntKind.u8.wrap (IntKind.i64.wrap (48 + m))) rfl rfl hN FB.1 FB.2.1 FB.2.2 rfl rfl) (.inl rfl) ?_
   exact (Aa hd1) ((jr) (k11 (wR (fq hd))))
 have hpos : 9 < m := by simpa using hc3
 obtain ⟨g, rfl⟩ : ∃ g, f = g + 1 := by
   cases f with
   | zero => simp at hmf; omega
   | succ g => exact ⟨g, rfl⟩
 have hq : m.tdiv 10 = m / 10 := H5 og
 have hwq : IntKind.i64.wrap (m.tdiv 10) = m.tdiv 10 := by rw [IntKind.wrap_i64, hq]; omega
 have hds1 := hds (m.tmod 10)
 have hstep : tG (g + 1) m out = tG g (m.tdiv 10) (aEx (m.tmod 10) ++ out) := by rw [tG, if_pos hpos]
 refine wk (k8 (wb (sr rfl fun k10 => (Aa hd1) ((jr) ?_))))
 refine vC (fun hN => aAv (n := IntKind.u8.wrap (IntKind.i64.wrap (48 + m.tmod 10))) rfl rfl hN FB.1 FB.2.1 FB.2.2 rfl rfl) (.inl rfl) ?_
 refine (Aa hd1) ((jr) (k10 (wg rfl ((Aa hwq) ((jt) ((jt) ?_))))))
 refine ⟨(g, m.tdiv 10, aEx (m.tmod 10) ++ out), ⟨by simp only; omega, by
   simp only
   rw [hq]
   have h9 : m < 10 ^ (g + 1) * 10 := by rw [<- Int.pow_succ]; exact hmf
   omega, by simp only [B8]; omega, by simp only; omega, by rw [<- hd, hstep]⟩, by simp only; omega, [], ?_⟩
 exact jo
def aJw (n : Int) (h0 : -1000000000000000000 < n) (hn : n < 0) : aK P 140 [Ni n] [] 0 (Ns (dec n)) := by
 refine (pq 31 [.tmp 2] func140) ?_
 have hmx := mxl
 have hw := wr (-n) (-n) og
 have hsz := aBt 19 (-n) ⟨#[]⟩
 have hsz0 : (⟨#[]⟩ : ByteArray).size = 0 := rfl
 have hsz1 : (#[(45 : UInt8)] : Array UInt8).size = 1 := rfl
 have hszp : (aUs (-n)).size <= 20 := hsz
 have h9 : dec n = ⟨#[45]⟩ ++ aUs (-n) := by unfold dec; rw [if_pos hn]
 refine (aj) ?_
 refine aA fun k2 => (aj) ((cdA) ?_ ?_) <;> intro hc1
 . exfalso; simp at hc1; omega
 refine wk (k2 (aA fun k4 => (aj) ((cdB) ?_ ?_))) <;> intro hc2
 . exfalso; simp at hc2; omega
 refine sr rfl fun k6 => (Aa hw) ((vq func140 (yM (-n) og og)) ?_)
 repeat (first | refine ⟨og, ?_⟩ | refine ⟨fun hg => by (try simp at hg); omega, ?_⟩)
 exact k6 (wR (fq h9))
def nD (n : Int) (h0 : -1000000000000000000 < n) (hn : n < 1000000000000000000) : aK P 140 [Ni n] [] 0 (Ns (dec n)) := by
  by_cases hneg : n < 0
  . exact aJw n h0 hneg
  have h9 : dec n = aUs n := by unfold dec; rw [if_neg hneg]
  rw [h9]
  exact yM n og hn
def gQ {e : Entry} (h : bJ e = true) : 1 <= e.seq /\ e.seq <= 100000 /\ 1 <= e.kind /\ e.kind <= 3 /\ -1000000 <= e.n /\ e.n <= 1000000 /\ e.text.size <= 60 /\ e.key.size <= 8 := by
  unfold bJ at h; split at h
  . cases h
  rename_i hb
  simp [jS, nP, jJ] at hb
  have hk : 1 <= e.kind /\ e.kind <= 3 := by
    split at h
    . omega
    split at h
    . omega
    split at h
    . omega
    cases h
  omega
def bQ {ls : List Entry} (h : isB ls = true) : (∀ e ∈ ls, bJ e = true) /\ 1 <= ls.length /\ ls.length <= 12 := by
  simp [isB] at h
  refine ⟨fun e he => ?_, og, og⟩
  obtain ⟨i, hi⟩ := G2 he
  have := h.1 i (B2.1 hi).1
  unfold jE at this; rw [hi] at this; simp at this
  exact this.1
def aHk (out : ByteArray) (e : Entry) : (pT out e).size <= out.size + e.key.size + e.text.size + 89 := by
  have h1 := gK e.seq
  have h2 := gK e.kind
  have h3 := gK e.n
  have h4 := gK (e.text.size : Int)
  simp only [pT, B8, bW]; omega
def sU : ∀ (ls : List Entry) (out : ByteArray), (∀ e ∈ ls, e.text.size <= 60 /\ e.key.size <= 8) -> (ls.foldl pT out).size <= out.size + 157 * ls.length
  | [], out, _ => by simp
  | e :: r, out, h => by
    have h1 := aHk out e
    have h2 := h e A3
    have h3 := sU r (pT out e) fun x hx => h x (A4 _ hx)
    simp only [List.foldl_cons, C4]; omega
def mF (s : ByteArray) : Nat -> Int -> List Entry -> List Entry
  | 0, _, out => out
  | f + 1, a, out => if ((decide (0 <= a) && decide (a < (s.size : Int))) && decide ((out.length : Int) <= 12)) = true then mF s f (wF s a.toNat).2 (out ++ [(wF s a.toNat).1]) else out
def aHs (s : ByteArray) : List Entry := mF s 14 0 []
def bNx (s : ByteArray) (a : Nat) : -1 <= (wF s a).2 /\ (wF s a).2 <= s.size := by
  unfold wF; split
  . simp only; omega
  rename_i h
  have h1 := uI s (e4 s a).2
  have h2 : e5 s a = bV s (e4 s a).2 := rfl
  simp [yU] at h
  rw [h2] at h ⊢
  simp only
  omega
def bMv (s : ByteArray) (hs : s.size <= 1048576) (a : Nat) : (wF s a).1.key.size <= 1048576 /\ (wF s a).1.text.size <= 1048576 := by
  unfold wF; split
  . exact ⟨by decide, by decide⟩
  have h1 := aKy s a
  refine ⟨?_, ?_⟩
  . show (e1 s a).1.size <= _
    unfold e1; omega
  simp only [ByteArray.size_extract]; omega
def aPs (s : ByteArray) (hs : s.size <= 1048576) : ∀ (f : Nat) (a : Int) (out : List Entry), (∀ e ∈ out, e.key.size <= 1048576 /\ e.text.size <= 1048576) -> out.length <= 13 -> (∀ e ∈ mF s f a out, e.key.size <= 1048576 /\ e.text.size <= 1048576) /\ (mF s f a out).length <= 13
  | 0, a, out, h, hl => ⟨h, hl⟩
  | f + 1, a, out, h, hl => by
    unfold mF; split
    . rename_i hc
      simp at hc
      refine aPs s hs f _ _ (fun e he => ?_) (by simp; omega)
      rcases A7.1 he with h1 | h1
      . exact h e h1
      rw [B6.1 h1]; exact bMv s hs _
    exact ⟨h, hl⟩
def bIk {s : ByteArray} (hs : s.size <= 1048576) : rB (aHs s) := by
  have := aPs s hs 14 0 [] oS oS
  exact ⟨by have := this.2; show (mF s 14 0 []).length <= _; omega, this.1⟩
def jP (s : ByteArray) (a : Nat) : Bool := (decide ((bV s (a : Int)).2 < 0) || decide ((bV s (a : Int)).1 < 0)) || decide ((s.size : Int) - (bV s (a : Int)).2 - 1 < (bV s (a : Int)).1)
def pC (s : ByteArray) (a : Nat) : List Entry := aHs (s.extract (bV s (a : Int)).2.toNat ((bV s (a : Int)).2 + (bV s (a : Int)).1).toNat)
def aW (s : ByteArray) (a : Nat) : List Entry × Int := if jP s a = true then ([], -1) else
  if (!((fTx (pC s a)).toList == (s.extract a ((bV s (a : Int)).2 + (bV s (a : Int)).1 + 1).toNat).toList)) = true then ([], -1) else (pC s a, (bV s (a : Int)).2 + (bV s (a : Int)).1 + 1)
def uK (s : ByteArray) (a : Nat) : -1 <= (aW s a).2 /\ (aW s a).2 <= s.size := by
  unfold aW; split
  . simp only; omega
  rename_i h
  simp [jP] at h
  split
  . simp only; omega
  simp only; omega
def cT (s : ByteArray) : Nat -> Nat -> List (List Entry) -> List (List Entry) × Int
  | 0, a, out => (out, a)
  | f + 1, a, out => if a < s.size then (if (aW s a).2 < 0 then (out, a) else cT s f (aW s a).2.toNat (out ++ [(aW s a).1])) else (out, a)
def bN (s : ByteArray) : List (List Entry) × Int := cT s s.size 0 []
def aNi (s : ByteArray) : (mU s).size <= s.size := by
  unfold mU; split
  . rw [ByteArray.size_extract]; omega
  exact A0 _
def aXk {s : ByteArray} (h : tJ (mU s) (tB s) = true) : aIe s = (0, false) := by
  have : aIk s = none := by unfold aIk; rw [if_pos h]
  unfold aIe; rw [this]
def bDv {s : ByteArray} (h : tJ (mU s) (tB s) = false) : aIe s = match lN (mU s) (mU s).size with
    | some n => (if tB s = true then -n else n, true)
    | none => (0, false) := by
  unfold aIe aIk; rw [h]; simp only [C5, if_false]
  cases lN (mU s) (mU s).size with
  | none => rfl
  | some n => rfl
def bNl (s : ByteArray) : (aIe s).2 = false -> aIk s = none := by
  unfold aIe; split
  . intro h; cases h
  intro _; assumption
def bFu {s : ByteArray} (h : (aIe s).2 = true) : aIk s = some (aIe s).1 := by
  unfold aIe at h ⊢
  split
  . assumption
  rename_i hn; rw [hn] at h; cases h
def pR (ls : List Entry) (hz : cW ls) : aK P 106 [.sl 5 (ls.map enA)] [] 0 (Ns (fTx ls)) := by
 refine (pq 55 [.tmp 2] func106) ?_
 have hlen := hz.1
 have hs32 : (#[(32 : UInt8)] : Array UInt8).size = 1 := rfl
 have hs10 : (#[(10 : UInt8)] : Array UInt8).size = 1 := rfl
 refine (aj) ?_
 refine aA fun k2 => sr rfl fun k3 => (ja) ((vq func139 (aJp ls hz)) (k3 ((cdA) ?_ ?_))) <;> intro hc1
 . have hb : isB ls = false := by simpa using hc1
   refine (aj) (wR ?_)
   refine fO ?_ trivial; simp only [go_sem, fTx, hb, C5, if_false]
 have hb : isB ls = true := by simpa using hc1
 obtain ⟨hok, hb1, hb2⟩ := bQ hb
 refine wk (k2 ((aj) ?_))
 refine aA fun k6 => (aj) (wb ?_)
 refine wl (α := Nat × ByteArray) (fun x => x.1 <= ls.length /\ x.2.size <= 157 * x.1 /\ (ls.drop x.1).foldl pT x.2 = bTx ls) (fun x => ls.length - x.1) (fun x => ([(0, .sl 5 (ls.map enA)), (3, Ns x.2), (4, Ni (x.1 : Int))], [])) 0 (0, ⟨#[]⟩) ⟨A5 _, A0 _, rfl⟩ [] ?_ ?_
 . exact jc
 rintro ⟨i, out⟩ ⟨hi, hsz, hfold⟩
 simp only at hi hsz hfold ⊢
 refine aA fun k8 => (aj) ((cdB) ?_ ?_) <;> intro hc2
 . have hge := gec hc2
   have hie : i = ls.length := by omega
   subst hie
   refine we ((jt) (k6 (sr rfl fun k12 => (ja) ?_)))
   repeat (first | refine ⟨og, ?_⟩ | refine ⟨by simp only [B8, bW, nG]; omega, ?_⟩)
   refine (vq func140 (nD (out.size : Int) og og)) ?_
   have hd9 := gK (out.size : Int)
   repeat (first | refine ⟨og, ?_⟩ | refine ⟨by simp only [B8, bW, nG]; omega, ?_⟩)
   refine k12 (wR ?_)
   rw [List.drop_length] at hfold
   have h9 : bTx ls = out := hfold.symm
   refine fO ?_ trivial; simp only [go_sem, fTx, hb, if_true, h9]
 obtain ⟨hlt, l, hl, hdrop, hml⟩ := ixc hc2
 obtain ⟨r1, r2, r3, r4, r5, r6, r7, r8⟩ := gQ (hok l hml)
 have hd0 := gK (l.seq)
 have hd1 := gK (l.kind)
 have hd2 := gK (l.n)
 have hd3 := gK ((l.text.size : Int))
 refine wk (k8 (aA fun k10 => wb (sr rfl fun k11 => (An hl) ?_)))
 repeat (first | refine ⟨og, ?_⟩ | refine ⟨fun hg => by (try simp at hg); omega, ?_⟩ | refine ⟨fun hg => by push_cast at hg; omega, ?_⟩)
 apply k11
 refine cQ mixed rfl ?_
 refine (An hl) ?_
 repeat (first | refine ⟨og, ?_⟩ | refine ⟨by simp only [B8, bW, nG]; omega, ?_⟩)
 refine tp rfl rfl rfl ⟨func140, rfl, rfl⟩ (nD l.seq og og) oG oG ?_
 refine (An hl) ?_
 repeat (first | refine ⟨og, ?_⟩ | refine ⟨by simp only [B8, bW, nG]; omega, ?_⟩)
 refine tp rfl rfl rfl ⟨func140, rfl, rfl⟩ (nD l.kind og og) oG oG ?_
 refine (An hl) ?_
 repeat (first | refine ⟨og, ?_⟩ | refine ⟨by simp only [B8, bW, nG]; omega, ?_⟩)
 refine tp rfl rfl rfl ⟨func140, rfl, rfl⟩ (nD l.n og og) oG oG ?_
 refine (An hl) ?_
 repeat (first | refine ⟨og, ?_⟩ | refine ⟨by simp only [B8, bW, nG]; omega, ?_⟩)
 refine tp rfl rfl rfl ⟨func140, rfl, rfl⟩ (nD (l.text.size : Int) og og) oG oG ?_
 refine (An hl) ?_
 repeat (first | refine ⟨og, ?_⟩ | refine ⟨by simp only [B8, bW, nG]; omega, ?_⟩)
 refine (jy) ((jt) (k10 ((jw (wiS i og)) ((jt) ?_))))
 refine ⟨(i + 1, pT out l), ⟨og, by have := aHk out l; simp only; omega, by rw [hdrop] at hfold; exact hfold⟩, og, [], ?_⟩
 simp only [go_sem, pT] <;> simp
def aAp (s : ByteArray) (a : Nat) (ha : a <= s.size) (hs : s.size <= 1048576) : aK P 171 [Ns s, Ni (a : Int)] [] 0 (.tup [.raw (.string (jL s a).1), .raw (.int .i64 (jL s a).2)]) := by
 refine (pq 24 [.tmp 4, .tmp 5] func171) ((aj) ?_)
 refine aA fun k2 => (aj) (wb ?_)
 refine wl (α := Nat) (fun x => a <= x /\ x <= s.size /\ aGa s (s.size - x) x = aGa s (s.size - a) a) (fun x => s.size - x) (fun x => ([(0, Ns s), (1, Ni (a : Int)), (6, Ni (x : Int))], [])) 0 a ⟨A0 _, ha, rfl⟩ [] ?_ ?_
 . exact jo
 rintro i ⟨hai, hi, hgo⟩
 refine aA fun k4 => (aj) ((cdB) ?_ ?_) <;> intro hc1
 . have hge : i = s.size := by have h9 : ¬ i < s.size := (by simpa using hc1); omega
   subst hge; rw [Nat.sub_self] at hgo
   have hno : aGa s (s.size - a) a = none := hgo.symm
   refine we ((jt) (k2 ((aj) (wR ?_))))
   have h9 : jL s a = (⟨#[]⟩, -1) := by unfold jL; rw [hno]
   refine fO ?_ ⟨trivial, trivial, trivial⟩
   exact Ab h9
 have hlt : i < s.size := by simpa using hc1
 have hst : aGa s (s.size - i) i = if aS s i = 32 then some i else aGa s (s.size - (i + 1)) (i + 1) := by
   have e9 : s.size - i = (s.size - (i + 1)) + 1 := by omega
   rw [e9]; rfl
 refine wk (k4 (aA fun k6 => wb (sr rfl fun k7 => (ja) ?_)))
 repeat (first | refine ⟨og, ?_⟩ | refine ⟨fun hg => by (try simp at hg); omega, ?_⟩ | refine ⟨fun hg => by push_cast at hg; omega, ?_⟩)
 refine k7 ((cdA) ?_ ?_) <;> intro hc2
 . have h32 : aS s i = 32 := by simpa using hc2
   have hyes : aGa s (s.size - a) a = some i := by rw [<- hgo, hst, if_pos h32]
   have hw5 := wr ((i : Int) + 1) ((i : Int) + 1) og
   refine sr rfl fun k8 => ?_
   simp only [go_sem, hw5, Int.toNat_natCast]
   repeat (first | refine ⟨og, ?_⟩ | refine ⟨fun hg => by (try simp at hg); omega, ?_⟩ | refine ⟨fun hg => by push_cast at hg; omega, ?_⟩)
   refine k8 (wR ((Ah) ?_))
   have h9 : jL s a = (s.extract a i, (i : Int) + 1) := by unfold jL; rw [hyes]
   refine fO ?_ ⟨trivial, trivial, trivial⟩
   exact Ab h9
 have h32 : ¬ aS s i = 32 := by simpa using hc2
 refine wk ((jt) (k6 ((jw (wiS i og)) ((jt) ?_))))
 refine ⟨i + 1, ⟨og, og, by rw [<- hgo, hst, if_neg h32]⟩, og, [], ?_⟩
 exact jo
def aUd (s : ByteArray) (hs : s.size <= 1048576) : aK P 172 [Ns s] [] 0 (.tup [.raw (.int .i64 (aIe s).1), .raw (.bool (aIe s).2)]) := by
 refine (pq 67 [.tmp 2, .tmp 3] func172) ((aj) ?_)
 refine sr rfl fun k2 => ?_
 simp only [go_sem, tn0]
 repeat (first | refine ⟨og, ?_⟩ | refine ⟨fun hg => by (try simp at hg); omega, ?_⟩ | refine ⟨fun hg => by push_cast at hg; omega, ?_⟩)
 refine k2 (aA fun k3 => (aj) ((cdB) ?_ ?_)) <;> intro hc1
 . have hn : tB s = false := hc1
   refine wk (k3 (aA fun k20 => ?_))
   obtain ⟨t, ht, ht2⟩ : ∃ t, t = mU s /\ (if tB s = true then s.extract 1 s.size else s) = t := ⟨_, rfl, rfl⟩
   have htz : t.size <= 1048576 := by have := aNi s; rw [<- ht] at this; omega
   rw [hn] at ht2
   simp only [if_true, C5, if_false] at ht2
   simp only [hc1]; rw [ht2]
   refine sr rfl fun k21 => ?_
   simp only [go_sem, tn0]
   repeat (first | refine ⟨og, ?_⟩ | refine ⟨fun hg => by (try simp at hg); omega, ?_⟩ | refine ⟨fun hg => by push_cast at hg; omega, ?_⟩)
   refine k21 ((cdA) ?_ ?_) <;> intro hc6
   . have hz := aXk (s := s) (by rw [<- ht, hn]; simpa [tJ] using hc6)
     refine (aj) (wR ?_)
     refine fO ?_ ⟨trivial, trivial, trivial⟩
     simp only [go_sem, <- ht2, hz]
   have hgo := bDv (s := s) (by rw [<- ht, hn]; simpa [tJ] using hc6)
   rw [<- ht] at hgo
   have h17 : t.size <= 17 := by simp at hc6; omega
   refine wk (k20 ((aj) ?_))
   refine aA fun k24 => (aj) (wb ?_)
   refine wl (α := Nat × Int) (fun x => x.1 <= t.size /\ lN t x.1 = some x.2) (fun x => t.size - x.1) (fun x => ([(0, Ns t), (4, Nb false), (5, Ni x.2), (6, Ni (x.1 : Int))], [])) 0 (0, 0) ⟨A5 _, rfl⟩ [] ?_ ?_
   . exact jc
   rintro ⟨i, n⟩ ⟨hi, hnum⟩
   simp only at hi hnum ⊢
   refine aA fun k26 => (aj) ((cdB) ?_ ?_) <;> intro hc7
   . have hie : i = t.size := by have h9 : ¬ i < t.size := (by simpa using hc7); omega
     subst hie
     obtain ⟨hr0, hr1⟩ := mW t t.size n hnum
     have hr2 : (10 : Int) ^ t.size <= 10 ^ 17 := by have : (10 : Nat) ^ t.size <= 10 ^ 17 := Nat.pow_le_pow_right og og
                                                     exact_mod_cast this
     have hr3 : (10 : Int) ^ 17 = 100000000000000000 := rfl
     rw [hnum, hn] at hgo
     refine we ((jt) (k24 (aA fun k32 => (aj) ((cdA) (fun hc => by simp at hc) fun hc9 => ?_))))
     refine wk (k32 ((aj) (wR ?_)))
     refine fO ?_ ⟨trivial, trivial, trivial⟩
     simp only [go_sem, <- ht2, hgo, if_true, C5, if_false]
   have hlt : i < t.size := by simpa using hc7
   obtain ⟨hr0, hr1⟩ := mW t i n hnum
   have hr2 : (10 : Int) ^ i <= 10 ^ 17 := by have : (10 : Nat) ^ i <= 10 ^ 17 := Nat.pow_le_pow_right og og
                                              exact_mod_cast this
   have hr3 : (10 : Int) ^ 17 = 100000000000000000 := rfl
   have hbr := nS t i
   refine wk (k26 (aA fun k28 => wb (aA fun k29 => sr rfl fun k30 => (ja) ?_)))
   repeat (first | refine ⟨og, ?_⟩ | refine ⟨fun hg => by (try simp at hg); omega, ?_⟩ | refine ⟨fun hg => by push_cast at hg; omega, ?_⟩)
   refine k30 ((cdA) ?_ ?_) <;> intro hc8
   . have hno : lN t (i + 1) = none := by rw [lN, hnum]; simp only []; rw [if_pos hc8]
     rw [aXi hno t.size og] at hgo
     refine (aj) (wR ((Ah) ?_))
     refine fO ?_ ⟨trivial, trivial, trivial⟩
     simp only [go_sem, <- ht2, hgo]
   have hst : lN t (i + 1) = some (n * 10 + (aS t i - 48)) := by rw [lN, hnum]; simp only []; rw [if_neg (by rw [hc8]; simp)]
   have hd48 : 48 <= aS t i /\ aS t i <= 57 := by simp at hc8; omega
   have hw1 := wr (n * 10) (n * 10) og
   have hw2 : IntKind.u8.wrap (aS t i - 48) = aS t i - 48 := by rw [IntKind.wrap_u8]; omega
   have hw3 := wr (aS t i - 48) (aS t i - 48) og
   have hw4 := wr (n * 10 + (aS t i - 48)) (n * 10 + (aS t i - 48)) og
   refine wk (k29 (wg rfl ((Bp hw1 hw2 hw3 hw4) ?_)))
   repeat (first | refine ⟨og, ?_⟩ | refine ⟨fun hg => by (try simp at hg); omega, ?_⟩ | refine ⟨fun hg => by push_cast at hg; omega, ?_⟩)
   refine (jt) (k28 ((jw (wiS i og)) ((jt) ?_)))
   refine ⟨(i + 1, n * 10 + (aS t i - 48)), ⟨og, hst⟩, og, [], ?_⟩
   exact jo
 have hn : tB s = true := hc1
 have hp1 : 1 <= s.size := by simp only [B7, decide_eq_true_eq] at hc1; omega
 refine wg rfl ?_; simp only [go_sem, tn1, Int.toNat_natCast]
 repeat (first | refine ⟨og, ?_⟩ | refine ⟨fun hg => by (try simp at hg); omega, ?_⟩ | refine ⟨fun hg => by push_cast at hg; omega, ?_⟩)
 refine k3 (aA fun k5 => ?_)
 obtain ⟨t, ht, ht2⟩ : ∃ t, t = mU s /\ (if tB s = true then s.extract 1 s.size else s) = t := ⟨_, rfl, rfl⟩
 have htz : t.size <= 1048576 := by have := aNi s; rw [<- ht] at this; omega
 rw [hn] at ht2
 simp only [if_true, C5, if_false] at ht2
 simp only [hc1]; rw [ht2]
 refine sr rfl fun k6 => ?_
 simp only [go_sem, tn0]
 repeat (first | refine ⟨og, ?_⟩ | refine ⟨fun hg => by (try simp at hg); omega, ?_⟩ | refine ⟨fun hg => by push_cast at hg; omega, ?_⟩)
 refine k6 ((cdA) ?_ ?_) <;> intro hc2
 . have hz := aXk (s := s) (by rw [<- ht, hn]; simpa [tJ] using hc2)
   refine (aj) (wR ?_)
   refine fO ?_ ⟨trivial, trivial, trivial⟩
   exact Ab hz
 have hgo := bDv (s := s) (by rw [<- ht, hn]; simpa [tJ] using hc2)
 rw [<- ht] at hgo
 have h17 : t.size <= 17 := by simp at hc2; omega
 refine wk (k5 ((aj) ?_))
 refine aA fun k9 => (aj) (wb ?_)
 refine wl (α := Nat × Int) (fun x => x.1 <= t.size /\ lN t x.1 = some x.2) (fun x => t.size - x.1) (fun x => ([(0, Ns t), (4, Nb true), (5, Ni x.2), (6, Ni (x.1 : Int))], [])) 0 (0, 0) ⟨A5 _, rfl⟩ [] ?_ ?_
 . exact jc
 rintro ⟨i, n⟩ ⟨hi, hnum⟩
 simp only at hi hnum ⊢
 refine aA fun k11 => (aj) ((cdB) ?_ ?_) <;> intro hc3
 . have hie : i = t.size := by have h9 : ¬ i < t.size := (by simpa using hc3); omega
   subst hie
   obtain ⟨hr0, hr1⟩ := mW t t.size n hnum
   have hr2 : (10 : Int) ^ t.size <= 10 ^ 17 := by have : (10 : Nat) ^ t.size <= 10 ^ 17 := Nat.pow_le_pow_right og og
                                                   exact_mod_cast this
   have hr3 : (10 : Int) ^ 17 = 100000000000000000 := rfl
   rw [hnum, hn] at hgo
   refine we ((jt) (k9 (aA fun k17 => (aj) ?_)))
   refine cd rfl (fun hc5 => ?_) (fun hc => by simp at hc)
   have hw5 := wr (-n) (-n) og
   refine wg rfl ((Aa hw5) (k17 ((aj) (wR ?_))))
   refine fO ?_ ⟨trivial, trivial, trivial⟩
   simp only [go_sem, hgo, if_true, C5, if_false]
 have hlt : i < t.size := by simpa using hc3
 obtain ⟨hr0, hr1⟩ := mW t i n hnum
 have hr2 : (10 : Int) ^ i <= 10 ^ 17 := by have : (10 : Nat) ^ i <= 10 ^ 17 := Nat.pow_le_pow_right og og
                                            exact_mod_cast this
 have hr3 : (10 : Int) ^ 17 = 100000000000000000 := rfl
 have hbr := nS t i
 refine wk (k11 (aA fun k13 => wb (aA fun k14 => sr rfl fun k15 => (ja) ?_)))
 repeat (first | refine ⟨og, ?_⟩ | refine ⟨fun hg => by (try simp at hg); omega, ?_⟩ | refine ⟨fun hg => by push_cast at hg; omega, ?_⟩)
 refine k15 ((cdA) ?_ ?_) <;> intro hc4
 . have hno : lN t (i + 1) = none := by rw [lN, hnum]; simp only []; rw [if_pos hc4]
   rw [aXi hno t.size og] at hgo
   refine (aj) (wR ((Ah) ?_))
   refine fO ?_ ⟨trivial, trivial, trivial⟩
   exact Ab hgo
 have hst : lN t (i + 1) = some (n * 10 + (aS t i - 48)) := by rw [lN, hnum]; simp only []; rw [if_neg (by rw [hc4]; simp)]
 have hd48 : 48 <= aS t i /\ aS t i <= 57 := by simp at hc4; omega
 have hw1 := wr (n * 10) (n * 10) og
 have hw2 : IntKind.u8.wrap (aS t i - 48) = aS t i - 48 := by rw [IntKind.wrap_u8]; omega
 have hw3 := wr (aS t i - 48) (aS t i - 48) og
 have hw4 := wr (n * 10 + (aS t i - 48)) (n * 10 + (aS t i - 48)) og
 refine wk (k14 (wg rfl ((Bp hw1 hw2 hw3 hw4) ?_)))
 repeat (first | refine ⟨og, ?_⟩ | refine ⟨fun hg => by (try simp at hg); omega, ?_⟩ | refine ⟨fun hg => by push_cast at hg; omega, ?_⟩)
 refine (jt) (k13 ((jw (wiS i og)) ((jt) ?_)))
 refine ⟨(i + 1, n * 10 + (aS t i - 48)), ⟨og, hst⟩, og, [], ?_⟩
 exact jo
def nK (s : ByteArray) (a : Int) (h0 : -1 <= a) (ha : a <= s.size) (hs : s.size <= 1048576) : aK P 153 [Ns s, Ni a] [] 0 (.tup [.raw (.int .i64 (bV s a).1), .raw (.int .i64 (bV s a).2)]) := by
 refine (pq 27 [.tmp 4, .tmp 5] func153) ((aj) ?_)
 refine aA fun k2 => (aj) ((cdA) ?_ ?_) <;> intro hc1
 . have hn : a < 0 := by simpa using hc1
   have h9 : bV s a = (0, -1) := by unfold bV; rw [if_pos hn]
   refine (aj) (wR ?_)
   refine fO ?_ ⟨trivial, trivial, trivial⟩
   exact Ab h9
 have hn : ¬ a < 0 := by simpa using hc1
 have hto : ((a.toNat : Nat) : Int) = a := by omega
 refine wk (k2 (sr rfl fun k5 => (ja) ?_))
 refine (vr rfl rfl rfl func171 (aAp s a.toNat og hs) (Ab hto) oG) (k5 (sr rfl fun k6 => (ja) ((vq func172 (aUd (jL s a.toNat).1 (by have := aKy s a.toNat; omega))) (k6 (aA fun k7 => (aj) ((cdA) ?_ ?_)))))) <;> intro hc2
 . have hv := bNl (jL s a.toNat).1 (by simpa using hc2)
   have h9 : bV s a = (0, -1) := by unfold bV; rw [if_neg hn, hv]
   refine (aj) (wR ?_)
   refine fO ?_ ⟨trivial, trivial, trivial⟩
   exact Ab h9
 have hv := bFu (s := (jL s a.toNat).1) (by simpa using hc2)
 have h9 : bV s a = ((aIe (jL s a.toNat).1).1, (jL s a.toNat).2) := by unfold bV; rw [if_neg hn, hv]
 refine wk (k7 ((aj) (wR ?_)))
 refine fO ?_ ⟨trivial, trivial, trivial⟩
 exact Ab h9
def aXc (s : ByteArray) (a : Nat) (h : 0 <= (bV s (a : Int)).2) : (a : Int) < (bV s (a : Int)).2 := by
  unfold bV at h ⊢
  have ha : ¬ (a : Int) < 0 := by omega
  rw [if_neg ha] at h ⊢
  rw [Int.toNat_natCast] at h ⊢
  split
  . rename_i n hn
    rw [hn] at h
    simp only at h ⊢
    unfold jL at h ⊢
    split
    . rename_i i hi
      have := aIv s _ _ _ hi
      simp only
      omega
    rename_i hi
    rw [hi] at h; simp at h
  rename_i hn
  rw [hn] at h; simp at h
def rR (s : ByteArray) (a : Nat) (h : 0 <= (aW s a).2) : (a : Int) < (aW s a).2 := by
  unfold aW at h ⊢
  split
  . rename_i hb; rw [if_pos hb] at h; simp at h
  rename_i hb
  rw [if_neg hb] at h; split
  . rename_i hc; rw [if_pos hc] at h; simp at h
  simp [jP] at hb
  have := aXc s a og
  simp only
  omega
def aWo {ls : List Entry} (h : rB ls) : cW ls := ⟨by have := h.1; omega, fun e he => ⟨by have := (h.2 e he).1; omega, by have := (h.2 e he).2; omega⟩⟩
def jH (seq : Int) (st : List Entry × Int) (e : Entry) : List Entry × Int := if seq < e.seq then (bY st.1 e, max st.2 e.seq) else st
def mJ (seq : Int) (st : List Entry × Int) (b : List Entry) : List Entry × Int := b.foldl (jH seq) st
def pJ (bs : List (List Entry)) (seq : Int) : List Entry × Int := bs.foldl (mJ seq) ([], seq)
def nZ (ls : List Entry) (e : Entry) : (bY ls e).length = ls.length + 1 := by
  have := aUz ls e ls.length
  unfold bY aCg; simp only [A2, B0, C4, B1]; omega
def dR (b : List Entry) : Entry := (b[b.length - 1]?).getD nM
def cB (seq : Int) (out : ByteArray) (b : List Entry) : ByteArray := if seq < (dR b).seq then out ++ fTx b else out
def mR (bs : List (List Entry)) (seq : Int) : ByteArray := bs.foldl (cB seq) ⟨#[]⟩
def tP (b : List Entry) : (fTx b).size <= 2000 := by
  unfold fTx; split
  . rename_i hb
    obtain ⟨hok, h1, h2⟩ := bQ hb
    have h3 := sU b ⟨#[]⟩ fun e he => by
      have := gQ (hok e he)
      omega
    have h4 := gK ((bTx b).size : Int)
    have h5 : (⟨#[]⟩ : ByteArray).size = 0 := rfl
    have h6 : (bTx b).size <= (⟨#[]⟩ : ByteArray).size + 157 * b.length := h3
    simp only [B8, bW, nG]; omega
  exact A5 _
def aMx (s : ByteArray) (a : Nat) (ha : a <= s.size) (hs : s.size <= 1048576) : aK P 173 [Ns s, Ni (a : Int)] [] 0 (.tup [enA (wF s a).1, .raw (.int .i64 (wF s a).2)]) := by
 refine (pq 69 [.cell 4 43, .tmp 5] func173) ((aj) ((aj) ((aj) ?_)))
 refine sr rfl fun k4 => (ja) ((vq func171 (aAp s a ha hs)) ?_)
 have b1 := aYi s a
 generalize hq1 : jL s a = q1 at b1 ⊢
 refine k4 (sr rfl fun k5 => (ja) ((vq func153 (nK s q1.2 b1.1 b1.2 hs)) ?_))
 have b2 := uI s q1.2
 have c2 := qM s q1.2
 generalize hq2 : bV s q1.2 = q2 at b2 c2 ⊢
 refine k5 (sr rfl fun k6 => (ja) ((vq func153 (nK s q2.2 b2.1 b2.2 hs)) ?_))
 have b3 := uI s q2.2
 have c3 := qM s q2.2
 generalize hq3 : bV s q2.2 = q3 at b3 c3 ⊢
 refine k6 (sr rfl fun k7 => (ja) ((vq func153 (nK s q3.2 b3.1 b3.2 hs)) ?_))
 have b4 := uI s q3.2
 have c4 := qM s q3.2
 generalize hq4 : bV s q3.2 = q4 at b4 c4 ⊢
 refine k7 (sr rfl fun k8 => (ja) ((vq func153 (nK s q4.2 b4.1 b4.2 hs)) ?_))
 have b5 := uI s q4.2
 have c5 := qM s q4.2
 generalize hq5 : bV s q4.2 = q5 at b5 c5 ⊢
 refine k8 (aA fun k9 => ?_)
 have hw1 := wr ((s.size : Int) - q5.2) ((s.size : Int) - q5.2) og
 refine sr rfl fun k10 => (Aa hw1) (k10 ((cdA) ?_ ?_)) <;> intro hc1
 . have h9 : wF s a = (iQ, -1) := by subst hq5; subst hq4; subst hq3; subst hq2; subst hq1; unfold wF; exact if_pos hc1
   refine (aj) (wR ?_)
   refine fO ?_ ⟨dQ _ _, trivial, trivial⟩
   simp only [go_sem, h9, enA, iQ]
 simp only [Bool.or_eq_false_iff, decide_eq_false_iff_not] at hc1
 have hw2 := wr (q5.2 + q5.1) (q5.2 + q5.1) og
 have h9 : wF s a = (⟨q1.1, q2.1, q3.1, s.extract q5.2.toNat (q5.2 + q5.1).toNat, q4.1⟩, q5.2 + q5.1) := by
   subst hq5; subst hq4; subst hq3; subst hq2; subst hq1; unfold wF
   exact if_neg (by unfold yU e5 e4 e3 e2 e1; simp only [D6, decide_eq_true_eq]; omega)
 refine wk (k9 (sr rfl fun k12 => (Aa hw2) ((jr) (k12 (sr rfl fun k13 => (Aa hw2) (k13 (wR ?_)))))))
 refine fO ?_ ⟨dQ _ _, trivial, trivial⟩
 simp only [go_sem, h9, enA]
def aId (s : ByteArray) (hs : s.size <= 1048576) : aO P 154 [Ns s] [] 0 (.ref 0) [(0, .row 43 5 ((aHs s).map enA))] 1 := by
 refine (gq 32 [.tmp 2] func154) ?_
 have hmx := mxl
 refine (aj) ?_
 refine sr rfl fun k2 => (ja) ((jr) (k2 ((aj) ?_)))
 refine aA fun k4 => wb ?_
 refine wl (α := Nat × Int × List Entry) (fun x => x.2.2.length + x.1 = 14 /\ -1 <= x.2.1 /\ x.2.1 <= s.size /\ mF s x.1 x.2.1 x.2.2 = aHs s) (fun x => x.1) (fun x => ([(0, Ns s), (3, .ref 0), (4, Ni x.2.1)], [(0, .row 43 5 (x.2.2.map enA))])) 1 (14, 0, []) ⟨rfl, by simp only; omega, by simp only; omega, rfl⟩ [] ?_ ?_
 . simp only [go_sem, AObj.bel, List.map_nil] <;> simp
 rintro ⟨f, a, out⟩ ⟨hlf, ha0, ha1, hgo⟩
 simp only at hlf ha0 ha1 hgo ⊢
 refine aA fun k5 => (aj) ((cdB) ?_ ?_) <;> intro hc1
 . have hend : mF s f a out = out := by cases f with | zero => rfl | succ g => rw [mF, hc1, if_neg oS]
   rw [hend] at hgo
   refine we ((jt) (k4 ((aj) (wR ?_))))
   rw [<- hgo]
   refine ⟨[(0, 0)], ?_⟩
   exact jz
 obtain ⟨g, rfl⟩ : ∃ g, f = g + 1 := ⟨f - 1, by simp only [B7, decide_eq_true_eq] at hc1; omega⟩
 have hto : ((a.toNat : Nat) : Int) = a := by simp only [B7, decide_eq_true_eq] at hc1; omega
 have hlt : a < s.size := by simp only [B7, decide_eq_true_eq] at hc1; omega
 refine wk (k5 (wb ((aj) ?_)))
 refine sr rfl fun k8 => (ja) ?_
 refine vs rfl rfl rfl func173 (aMx s a.toNat og hs) (Ab hto) Ae ?_
 refine (Bg) ?_
 have b1 := bNx s a.toNat
 have hst : mF s (g + 1) a out = mF s g (wF s a.toNat).2 (out ++ [(wF s a.toNat).1]) := by rw [mF, if_pos hc1]
 rw [hst] at hgo
 generalize hq1 : wF s a.toNat = q1 at b1 hgo ⊢
 refine k8 (wg rfl ((Cu) ((jr) ((jt) ((jt) ?_)))))
 refine ⟨(g, q1.2, out ++ [q1.1]), ⟨by simp; omega, b1.1, b1.2, hgo⟩, by simp only; omega, [(0, 3)], ?_⟩
 simp only [go_sem, AObj.bel, AObj.ren, AV.ren, aB, sg, enA] <;> simp [enA]
def aMa (s : ByteArray) (a : Nat) (ha : a <= s.size) (hs : s.size <= 1048576) : aK P 124 [Ns s, Ni (a : Int)] [] 0 (.tup [.sl 5 ((aW s a).1.map enA), .raw (.int .i64 (aW s a).2)]) := by
 refine (pq 54 [.tmp 4, .tmp 5] func124) ?_
 have hmx := mxl
 refine (aj) ?_
 refine sr rfl fun k2 => (ja) ((vq func153 (nK s (a : Int) og og hs)) ?_)
 have b1 := uI s (a : Int)
 have c1 := qM s (a : Int)
 have g1 := aXc s a
 generalize hq1 : bV s (a : Int) = q1 at b1 c1 g1 ⊢
 refine k2 (aA fun k3 => ?_)
 have hw1 := wr ((s.size : Int) - q1.2) ((s.size : Int) - q1.2) og
 have hw2 := wr ((s.size : Int) - q1.2 - 1) ((s.size : Int) - q1.2 - 1) og
 refine sr rfl fun k4 => (Aq hw1 hw2) (k4 ((cdA) ?_ ?_)) <;> intro hc1
 . have h9 : aW s a = ([], -1) := by subst hq1; unfold aW; exact if_pos hc1
   refine sr rfl fun k5 => (ja) ((jr) (k5 ?_))
   refine aFz 0 rfl ?_
   refine (Ac) (wR ?_)
   refine fO ?_ ⟨enB _ _, trivial, trivial⟩
   simp only [go_sem, h9, List.map_nil]
 have hb : jP s a = false := by subst hq1; exact hc1
 simp only [Bool.or_eq_false_iff, decide_eq_false_iff_not] at hc1
 have g2 := g1 og
 have hw3 := wr (q1.2 + q1.1) (q1.2 + q1.1) og
 have hw4 := wr (q1.2 + q1.1 + 1) (q1.2 + q1.1 + 1) og
 have hf : aW s a = if (!((fTx (pC s a)).toList == (s.extract a (q1.2 + q1.1 + 1).toNat).toList)) = true then ([], -1) else (pC s a, q1.2 + q1.1 + 1) := by
   unfold aW; rw [hb, hq1]; simp only [C5, if_false]
 refine wk (k3 (sr rfl fun k6 => (Aa hw3) ((jr) ((vq func154 ((cC (aId (s.extract q1.2.toNat (q1.2 + q1.1).toNat) (by rw [ByteArray.size_extract]; omega)) oG oG : aK P 154 [Ns (s.extract q1.2.toNat (q1.2 + q1.1).toNat)] [] 0 (.sl 5 ((aHs (s.extract q1.2.toNat (q1.2 + q1.1).toNat)).map enA))))) ?_))))
 have hsm := bIk (s := s.extract q1.2.toNat (q1.2 + q1.1).toNat) (by rw [ByteArray.size_extract]; omega)
 have hfb : pC s a = aHs (s.extract q1.2.toNat (q1.2 + q1.1).toNat) := by unfold pC; rw [hq1]
 rw [<- hfb] at hsm ⊢
 refine k6 (aA fun k7 => sd mixed rfl fun k8 => (Aq hw3 hw4) ((jr) ?_))
 refine tp rfl rfl rfl ⟨func106, rfl, rfl⟩ (pR (pC s a) (aWo hsm)) oG oG ?_
 refine (Aq hw3 hw4) ((jr) ((jy) (k8 ((cdA) ?_ ?_)))) <;> intro hc2
 . have h9 : aW s a = ([], -1) := by rw [hf, if_pos (by simpa using hc2)]
   refine sr rfl fun k9 => (ja) ((jr) (k9 ?_))
   refine aFz 0 rfl ?_
   refine (Ac) (wR ?_)
   refine fO ?_ ⟨enB _ _, trivial, trivial⟩
   simp only [go_sem, h9, List.map_nil]
 have h9 : aW s a = (pC s a, q1.2 + q1.1 + 1) := by rw [hf, hc2]; simp
 refine wk (k7 (sr rfl fun k10 => (Aq hw3 hw4) (k10 (wR ?_))))
 refine fO ?_ ⟨enB _ _, trivial, trivial⟩
 exact Ab h9
def aBq (s : ByteArray) (hs : s.size <= 1048576) : aO P 81 [Ns s] [] 0 (.tup [.ref 0, .raw (.int .i64 (bN s).2)]) [(0, .row 23 1 ((bN s).1.map esA))] 1 := by
 refine (gq 30 [.tmp 2, .tmp 3] func81) ?_
 have hmx := mxl
 refine (aj) ?_
 refine sr rfl fun k2 => (ja) ((jr) (k2 ((aj) ?_)))
 refine aA fun k4 => wb ?_
 refine wl (α := Nat × Nat × List (List Entry)) (fun x => x.2.1 <= s.size /\ s.size <= x.1 + x.2.1 /\ x.2.2.length <= x.2.1 /\ cT s x.1 x.2.1 x.2.2 = bN s) (fun x => x.1) (fun x => ([(0, Ns s), (4, .ref 0), (5, Ni (x.2.1 : Int))], [(0, .row 23 1 (x.2.2.map esA))])) 1 (s.size, 0, []) ⟨A5 _, by simp, by simp, rfl⟩ [] ?_ ?_
 . exact Bu
 rintro ⟨f, a, out⟩ ⟨ha, hf, hol, hgo⟩
 simp only at ha hf hol hgo ⊢
 refine aA fun k5 => (aj) ((cdB) ?_ ?_) <;> intro hc1
 . have hge : ¬ a < s.size := by simpa using hc1
   have hend : cT s f a out = (out, (a : Int)) := by cases f with | zero => rfl | succ g => rw [cT, if_neg hge]
   rw [hend] at hgo
   refine we ((jt) (k4 ((aj) (wR ?_))))
   rw [<- hgo]; refine ⟨[], ?_⟩; exact jz
 have hlt : a < s.size := by simpa using hc1
 obtain ⟨g, rfl⟩ : ∃ g, f = g + 1 := ⟨f - 1, og⟩
 refine wk (k5 (wb (sr rfl fun k7 => (ja) ((vq func124 (aMa s a ha hs)) ?_))))
 have b1 := uK s a
 have b2 := rR s a
 have hst : cT s (g + 1) a out = if (aW s a).2 < 0 then (out, (a : Int)) else cT s g (aW s a).2.toNat (out ++ [(aW s a).1]) := by rw [cT, if_pos hlt]
 rw [hst] at hgo
 generalize hq1 : aW s a = q1 at b1 b2 hgo ⊢
 refine k7 (aA fun k8 => (aj) ((cdA) ?_ ?_)) <;> intro hc2
 . have hn : q1.2 < 0 := by simpa using hc2
   rw [if_pos hn] at hgo
   refine (aj) (wR ((Ah) ?_))
   rw [<- hgo]; refine ⟨[], ?_⟩; exact jz
 have hn : ¬ q1.2 < 0 := by simpa using hc2
 rw [if_neg hn] at hgo
 have b3 := b2 og
 have hto : ((q1.2.toNat : Nat) : Int) = q1.2 := by omega
 rw [<- hto]
 refine wk (k8 (sr rfl fun k11 => (Au) ((jr) (k11 (wg rfl ((ja) ((jt) ((jt) ?_))))))))
 refine ⟨(g, q1.2.toNat, out ++ [q1.1]), ⟨by simp only; omega, by simp only; omega, by simp; omega, hgo⟩, by simp only; omega, [(0, 2)], ?_⟩
 exact Cv
def aEr (bs : List (List Entry)) (seq : Int) (hb : bs.length <= 1048576) (hs : ∀ b ∈ bs, b.length <= 1048576) : aK P 82 [.sl 1 (bs.map esA), Ni seq] [] 0 (.tup [.sl 5 ((pJ bs seq).1.map enA), .raw (.int .i64 (pJ bs seq).2)]) := by
 refine (pq 58 [.tmp 4, .tmp 5] func82) ?_
 have hmx := mxl
 refine (aj) ?_
 refine sr rfl fun k2 => (ja) ((jr) (k2 ?_))
 refine aFz 0 rfl ?_
 refine (Ac) ((aj) ?_)
 refine aA fun k4 => (aj) (wb ?_)
 refine wl (α := Nat × List Entry × Int) (fun x => x.1 <= bs.length /\ x.2.1.length <= 1048576 * x.1 /\ (bs.drop x.1).foldl (mJ seq) x.2 = pJ bs seq) (fun x => bs.length - x.1) (fun x => ([(0, .sl 1 (bs.map esA)), (1, Ni seq), (6, .sl 5 (x.2.1.map enA)), (7, Ni x.2.2), (8, Ni (x.1 : Int))], [])) 0 (0, [], seq) ⟨A5 _, by simp, by simp [pJ]⟩ [] ?_ ?_
 . simp only [go_sem, List.map_nil, Int.natCast_zero] <;> simp
 rintro ⟨i, st⟩ ⟨hi, hol, hfold⟩
 simp only at hi hol hfold ⊢
 refine aA fun k6 => (aj) ((cdB) ?_ ?_) <;> intro hc1
 . have hge := gec hc1
   refine we ((jt) (k4 ((aj) (wR ?_))))
   rw [E6 hge] at hfold
   have h9 : pJ bs seq = st := hfold.symm
   refine fO ?_ ⟨enB _ _, trivial, trivial⟩
   exact Ab h9
 obtain ⟨hlt, l, hl, hdrop, hml⟩ := ixc hc1
 have hll := hs l hml
 refine wk (k6 (aA fun k8 => wb ((aj) (wb ?_))))
 refine wl (α := Nat × List Entry × Int) (fun x => x.1 <= l.length /\ x.2.1.length <= 1048576 * i + x.1 /\ (l.drop x.1).foldl (jH seq) x.2 = mJ seq st l) (fun x => l.length - x.1) (fun x => ([(0, .sl 1 (bs.map esA)), (1, Ni seq), (6, .sl 5 (x.2.1.map enA)), (7, Ni x.2.2), (8, Ni (i : Int)), (9, Ni (x.1 : Int))], [])) 0 (0, st) ⟨A5 _, by simpa using hol, by simp [mJ]⟩ [] ?_ ?_
 . exact jc
 rintro ⟨k, out, last⟩ ⟨hk, hol2, hfold2⟩
 simp only at hk hol2 hfold2 ⊢
 refine aA fun k10 => sr rfl fun k11 => (Bh hl) ((jr) (k11 ((cdB) ?_ ?_))) <;> intro hc2
 . have hgek : l.length <= k := by have h9 : ¬ k < l.length := (by simpa using hc2); omega
   rw [E6 hgek] at hfold2
   obtain ⟨st2, hst⟩ : ∃ st2, st2 = (out, last) := ⟨_, rfl⟩
   have hst2 : mJ seq st l = st2 := by rw [hst]; exact hfold2.symm
   have ho2 : out = st2.1 := by rw [hst]
   have hl2 : last = st2.2 := by rw [hst]
   rw [ho2, hl2]; rw [ho2] at hol2
   refine we ((jt) ((jt) (k8 ((jw (wiS i og)) ((jt) ?_)))))
   refine ⟨(i + 1, st2), ⟨og, by simp only; omega, by rw [hdrop] at hfold; exact (by rw [List.foldl_cons, hst2] at hfold; exact hfold)⟩, og, [], ?_⟩
   exact jo
 have hltk : k < l.length := by simpa using hc2
 obtain ⟨e, he, hdrop2, hme⟩ := ix hltk
 refine wk (k10 (aA fun k12 => wb (sr rfl fun k13 => (Cd hl he) ((jr) (k13 ((cdB) ?_ ?_)))))) <;> intro hc3
 . have hgt : ¬ seq < e.seq := by simpa using hc3
   have hms : jH seq (out, last) e = (out, last) := if_neg hgt
   have hln : (jH seq (out, last) e).1.length <= 1048576 * i + (k + 1) := by rw [hms]; simp only; omega
   refine wk ((jt) (k12 ?_))
   have hwk := wiS k og
   refine wg rfl ((Aa hwk) ((jt) ?_))
   refine ⟨(k + 1, jH seq (out, last) e), ⟨og, hln, by rw [hdrop2] at hfold2; exact hfold2⟩, og, [], ?_⟩
   simp only [go_sem, hms] <;> simp
 have hgt : seq < e.seq := by simpa using hc3
 have hms : jH seq (out, last) e = (bY out e, max last e.seq) := if_pos hgt
 have hln : (jH seq (out, last) e).1.length <= 1048576 * i + (k + 1) := by rw [hms]; have := nZ out e; simp only; omega
 refine sr rfl fun k14 => (Cd hl he) ((jr) ?_)
 refine (vr rfl rfl rfl func125 (vM out e og) Ae Ae) ((jr) (k14 (wg rfl ((Cd hl he) ((jr) ((vq func73 (vG last e.seq)) ((jr) ((jt) (k12 ?_)))))))))
 have hwk := wiS k og
 refine wg rfl ((Aa hwk) ((jt) ?_))
 refine ⟨(k + 1, jH seq (out, last) e), ⟨og, hln, by rw [hdrop2] at hfold2; exact hfold2⟩, og, [], ?_⟩
 simp only [go_sem, hms] <;> simp
def aOo (bs : List (List Entry)) (seq : Int) (hb : bs.length <= 1048576) (hs : ∀ b ∈ bs, rB b /\ 1 <= b.length) : aK P 85 [.sl 1 (bs.map esA), Ni seq] [] 0 (Ns (mR bs seq)) := by
 refine (pq 36 [.tmp 4] func85) ((aj) ((aj) ?_))
 refine aA fun k3 => (aj) (wb ?_)
 refine wl (α := Nat × ByteArray) (fun x => x.1 <= bs.length /\ x.2.size <= 2000 * x.1 /\ (bs.drop x.1).foldl (cB seq) x.2 = mR bs seq) (fun x => bs.length - x.1) (fun x => ([(0, .sl 1 (bs.map esA)), (1, Ni seq), (5, Ns x.2), (6, Ni (x.1 : Int))], [])) 0 (0, ⟨#[]⟩) ⟨A5 _, A0 _, rfl⟩ [] ?_ ?_
 . exact jc
 rintro ⟨i, out⟩ ⟨hi, hsz, hfold⟩
 simp only at hi hsz hfold ⊢
 refine aA fun k5 => (aj) ((cdB) ?_ ?_) <;> intro hc1
 . have hge := gec hc1
   refine we ((jt) (k3 ((aj) (wR ?_))))
   rw [E6 hge] at hfold
   have h9 : mR bs seq = out := hfold.symm
   exact fq h9
 obtain ⟨hlt, l, hl, hdrop, hml⟩ := ixc hc1
 have hsl := hs l hml
 have hsl1 := hsl.1.1
 have hsl2 := hsl.2
 have hle : l[l.length - 1]? = some (dR l) := by unfold dR; rw [A1 og]; rfl
 have hw1 := wr ((l.length : Int) - 1) ((l.length : Int) - 1) og
 have hpn : ((l.length : Int) - 1).toNat = l.length - 1 := by omega
 refine wk (k5 (aA fun k7 => wb (sd mixed rfl fun k8 => ?_)))
 simp only [go_sem, hl, hle, hw1, hpn, esA, enA]
 refine (jr) ((jy) (k8 ((cdB) ?_ ?_))) <;> intro hc2
 . have hgt : ¬ seq < (dR l).seq := by simpa using hc2
   have hms : cB seq out l = out := if_neg hgt
   have hln : (cB seq out l).size <= 2000 * (i + 1) := by rw [hms]; omega
   refine wk ((jt) (k7 ((jw (wiS i og)) ((jt) ?_))))
   refine ⟨(i + 1, cB seq out l), ⟨og, hln, by rw [hdrop] at hfold; exact hfold⟩, og, [], ?_⟩
   simp only [go_sem, hms] <;> simp
 have hgt : seq < (dR l).seq := by simpa using hc2
 have hms : cB seq out l = out ++ fTx l := if_pos hgt
 have hln : (cB seq out l).size <= 2000 * (i + 1) := by rw [hms, B8]; have := tP l; omega
 refine wg rfl ((Bh hl) ((jr) ?_))
 refine vs rfl rfl rfl func106 (pR l (aWo hsl.1)) oG oG ?_
 refine (Bh hl) ?_
 have hfs := tP l
 repeat (refine ⟨og, ?_⟩)
 refine (jt) (k7 ((jw (wiS i og)) ((jt) ?_)))
 refine ⟨(i + 1, cB seq out l), ⟨og, hln, by rw [hdrop] at hfold; exact hfold⟩, og, [], ?_⟩
 simp only [go_sem, hms] <;> simp
def mD (seq : Int) (i : Nat) (e : Entry) : Entry := { e with seq := seq + 1 + i }
def uG (seq : Int) : List Entry -> Nat -> List Entry -> List Entry × Bool
  | [], _, out => (out, true)
  | e :: r, i, out => if e.seq = 0 then (if bJ (mD seq i e) = true then uG seq r (i + 1) (out ++ [mD seq i e]) else (out, false)) else (out, false)
def aP (b : List Entry) (seq : Int) : List Entry × Bool := ((uG seq b 0 []).1, (uG seq b 0 []).2 && (decide (1 <= (b.length : Int)) && decide ((b.length : Int) <= 12)))
def aYg (seq : Int) : ∀ (r : List Entry) (i : Nat) (out : List Entry), (uG seq r i out).1.length <= out.length + r.length
  | [], i, out => by simp [uG]
  | e :: r, i, out => by
    unfold uG; split
    . split
      . have := aYg seq r (i + 1) (out ++ [mD seq i e])
        simp at this ⊢
        omega
      simp
    simp
def aSm (seq : Int) : ∀ (r : List Entry) (i : Nat) (out : List Entry), (∀ e ∈ out, bJ e = true) -> ∀ e ∈ (uG seq r i out).1, bJ e = true
  | [], i, out, h => h
  | e :: r, i, out, h => by
    unfold uG; split
    . split
      . rename_i hok
        exact aSm seq r (i + 1) _ fun x hx => by
          rcases A7.1 hx with h1 | h1
          . exact h x h1
          rw [B6.1 h1]; exact hok
      exact h
    exact h
def cO {e : Entry} (h : bJ e = true) : e.key.size <= 1048576 /\ e.text.size <= 1048576 := by
  have := gQ h; omega
def aEp {b : List Entry} {seq : Int} (hb : b.length <= 1048576) : rB (aP b seq).1 :=
  ⟨by have := aYg seq b 0 []; simp at this; exact F6 this hb, fun e he => cO (aSm seq b 0 [] oS e he)⟩
def aEd (t : Tree) (b : List Entry) : Bool := !(aP b t.seq).2 || decide (60 < (t.mem.length : Int) + ((aP b t.seq).1.length : Int))
def iA (t : Tree) (b : List Entry) : Tree × Bool := if aEd t b = true then (t, false) else ({ t with mem := (aP b t.seq).1.foldl bY t.mem, seq := t.seq + ((aP b t.seq).1.length : Int) }, true)
def aNv {ls : List Entry} {e x : Entry} (h : x ∈ bY ls e) : x = e ∨ x ∈ ls := by
  unfold bY at h
  rcases A7.1 h with h | h
  . exact .inr (D1 h)
  rcases A8.1 h with h | h
  . exact .inl h
  exact .inr (D2 h)
def aEy (s : ByteArray) (hs : s.size <= 1048576) (a : Nat) (h : 0 <= (aW s a).2) : isB (aW s a).1 = true := by
  have hg := rR s a h
  unfold aW at h hg ⊢
  generalize hfb : pC s a = b at h hg ⊢
  split
  . rename_i hb; rw [if_pos hb] at h; simp at h
  rename_i hb
  rw [if_neg hb] at h hg
  split
  . rename_i hc; rw [if_pos hc] at h; simp at h
  rename_i hc
  rw [if_neg hc] at h hg
  simp only at h hg ⊢
  by_cases hi : isB b = true
  . exact hi
  exfalso
  have he : fTx b = ⟨#[]⟩ := by unfold fTx; rw [if_neg hi]
  rw [he] at hc
  simp [jP] at hb
  have hsz : (s.extract a ((bV s (a : Int)).2 + (bV s (a : Int)).1 + 1).toNat).size = ((bV s (a : Int)).2 + (bV s (a : Int)).1 + 1).toNat - a := iH s _ _ og
  have key : ∀ x : ByteArray, x.toList.length = x.size := fun x => by rw [ByteArray.toList_eq]; rfl
  have hl := (key _).trans hsz
  have he2 : (⟨#[]⟩ : ByteArray).toList = (s.extract a ((bV s (a : Int)).2 + (bV s (a : Int)).1 + 1).toNat).toList := by simpa using hc
  rw [<- he2, key] at hl
  have h0 : (⟨#[]⟩ : ByteArray).size = 0 := rfl
  omega
def aPy (s : ByteArray) (hs : s.size <= 1048576) : ∀ (f a : Nat) (out : List (List Entry)), (∀ b ∈ out, isB b = true) -> out.length <= a -> a <= s.size -> (∀ b ∈ (cT s f a out).1, isB b = true) /\ (cT s f a out).1.length <= s.size
  | 0, a, out, h, hl, ha => ⟨h, by simp only [cT]; omega⟩
  | f + 1, a, out, h, hl, ha => by
    unfold cT; split
    . split
      . exact ⟨h, by simp only; omega⟩
      rename_i hn
      have h1 := rR s a og
      have h2 := uK s a
      refine aPy s hs f _ _ (fun b hb => ?_) (by simp; omega) og
      rcases A7.1 hb with h3 | h3
      . exact h b h3
      rw [B6.1 h3]; exact aEy s hs a og
    exact ⟨h, by simp only; omega⟩
def uO {s : ByteArray} (hs : s.size <= 1048576) : (∀ b ∈ (bN s).1, isB b = true) /\ (bN s).1.length <= s.size := aPy s hs s.size 0 [] (fun b hb => by cases hb) (A0 0) (A5 _)
def tS {b : List Entry} (h : isB b = true) : rB b /\ 1 <= b.length /\ b.length <= 12 := by
  obtain ⟨h1, h2, h3⟩ := bQ h
  exact ⟨⟨og, fun e he => cO (h1 e he)⟩, h2, h3⟩
def aDf (seq : Int) : ∀ (b : List Entry) (st : List Entry × Int), (∀ e ∈ b, bJ e = true) -> (∀ e ∈ st.1, e.key.size <= 1048576 /\ e.text.size <= 1048576) -> (mJ seq st b).1.length <= st.1.length + b.length /\ ∀ e ∈ (mJ seq st b).1, e.key.size <= 1048576 /\ e.text.size <= 1048576
  | [], st, _, h => ⟨by simp [mJ], h⟩
  | x :: r, st, hb, h => by
    have h1 : (jH seq st x).1.length <= st.1.length + 1 /\ ∀ e ∈ (jH seq st x).1, e.key.size <= 1048576 /\ e.text.size <= 1048576 := by
      unfold jH; split
      . simp only [nZ]
        exact ⟨A0 _, fun e he => by
          rcases aNv he with h2 | h2
          . rw [h2]; exact cO (hb x A3)
          exact h e h2⟩
      exact ⟨og, h⟩
    have h2 := aDf seq r (jH seq st x) (fun e he => hb e (A4 _ he)) h1.2
    simp only [mJ, List.foldl_cons, C4] at h2 ⊢
    exact ⟨og, h2.2⟩
def aJe {bs : List (List Entry)} (seq : Int) (hb : ∀ b ∈ bs, isB b = true) : (pJ bs seq).1.length <= 12 * bs.length /\ ∀ e ∈ (pJ bs seq).1, e.key.size <= 1048576 /\ e.text.size <= 1048576 := by
  have aux : ∀ (bs : List (List Entry)) (st : List Entry × Int), (∀ b ∈ bs, isB b = true) -> (∀ e ∈ st.1, e.key.size <= 1048576 /\ e.text.size <= 1048576) -> (bs.foldl (mJ seq) st).1.length <= st.1.length + 12 * bs.length /\ ∀ e ∈ (bs.foldl (mJ seq) st).1, e.key.size <= 1048576 /\ e.text.size <= 1048576 := by
    intro bs
    induction bs with
    | nil => intro st _ h; exact ⟨by simp, h⟩
    | cons b r ih =>
      intro st hb h
      obtain ⟨k1, k2, k3⟩ := bQ (hb b A3)
      have h1 := aDf seq b st k1 h
      have h2 := ih (mJ seq st b) (fun x hx => hb x (A4 _ hx)) h1.2
      simp only [List.foldl_cons, C4]
      exact ⟨og, h2.2⟩
  have := aux bs ([], seq) hb oS
  simpa [pJ] using this
def lZ : Tree := ⟨0, [], [], []⟩
def bJw : Disk := ⟨⟨#[]⟩, 0, [], 0⟩
def zStore : Store := ⟨false, lZ, bJw⟩
def eF (s : Store) : Store :=
  ⟨true, ⟨(pJ (bN s.disk.log).1 s.disk.seq).2, (pJ (bN s.disk.log).1 s.disk.seq).1, s.disk.levels, []⟩, ⟨mR (bN s.disk.log).1 s.disk.seq, ((mR (bN s.disk.log).1 s.disk.seq).size : Int), s.disk.levels, s.disk.seq⟩⟩
def aQk (s : Store) : Bool := ((!cZ s.tree || !decide (s.disk.levels = s.tree.levels)) || decide (s.disk.seq < 0)) || decide (s.tree.seq < s.disk.seq)
def upS (s : Store) : Bool := if aQk s = true then false else
  (decide ((bN s.disk.log).2 = (s.disk.log.size : Int)) && decide ((pJ (bN s.disk.log).1 s.disk.seq).1 = s.tree.mem)) && decide ((pJ (bN s.disk.log).1 s.disk.seq).2 = s.tree.seq)
def nN (s : Store) : Bool := (decide (12000 < (s.disk.log.size : Int)) || decide (s.disk.safe < 0)) || decide ((s.disk.log.size : Int) < s.disk.safe)
def aJ (s : Store) : Bool := if nN s = true then false else if cZ ⟨s.disk.seq, [], s.disk.levels, []⟩ = false then false else
  if s.up = true then upS s else hP s.tree lZ && upS (eF s)
def cD (s : Store) : Store := if s.up = true then s else { s with tree := lZ }
def uS (s : Store) (b : List Entry) : Bool := (!s.up || !(iA s.tree b).2) || decide (12000 < ((s.disk.log ++ fTx (aP b s.tree.seq).1).size : Int))
def eO (s : Store) (b : List Entry) : Store × Bool := if uS s b = true then (s, false) else (⟨s.up, (iA s.tree b).1, { s.disk with log := s.disk.log ++ fTx (aP b s.tree.seq).1 }⟩, true)
def bK (U : Nat -> Prop) (s : Store) : (stA s).bel U := ⟨trivial, trivial, enB _ _, bC _ _, dN _ _, trivial, trivial, bC _ _, trivial, trivial⟩
def gD (U : Nat -> Prop) (t : Tree) : (trA t).bel U := ⟨trivial, enB _ _, bC _ _, dN _ _, trivial⟩
def xV (b : List Entry) (seq : Int) (hb : cW b) (hl : b.length <= 1048576) (h0 : 0 <= seq) (h1 : seq <= 100000) : aK P 104 [.sl 5 (b.map enA), Ni seq] [] 0 (.tup [.sl 5 ((aP b seq).1.map enA), .raw (.bool (aP b seq).2)]) := by
 refine (pq 46 [.tmp 4, .tmp 5] func104) ?_
 have hmx := mxl
 refine (aj) ?_
 refine sr rfl fun k2 => (ja) ((jr) (k2 (aA fun k3 => (aj) (wb ?_))))
 refine wl (α := Nat × List Entry) (fun x => x.1 <= b.length /\ x.2.length = x.1 /\ uG seq (b.drop x.1) x.1 x.2 = uG seq b 0 []) (fun x => b.length - x.1) (fun x => ([(0, .sl 5 (b.map enA)), (1, Ni seq), (6, .ref 0), (7, Ni (x.1 : Int))], [(0, .row 43 5 (x.2.map enA))])) 1 (0, []) ⟨A5 _, rfl, rfl⟩ [] ?_ ?_
 . exact Bu
 rintro ⟨i, out⟩ ⟨hi, hol, hgo⟩
 simp only at hi hol hgo ⊢
 refine aA fun k5 => (aj) ((cdB) ?_ ?_) <;> intro hc1
 . have hge := gec hc1
   have hie : i = b.length := by omega
   rw [E6 hge, uG] at hgo
   refine we ((jt) (k3 ((aj) ?_)))
   refine aFz 0 rfl ?_
   refine (Ac) (wR ?_)
   refine fO ?_ ⟨enB _ _, trivial, trivial⟩
   simp only [go_sem, aP, <- hgo, Bool.true_and]
 obtain ⟨hlt, l, hlx, hdrop, hml⟩ := ixc hc1
 have hw1 := wr (seq + 1) (seq + 1) og
 have hw2 := wr (seq + 1 + (i : Int)) (seq + 1 + i) og
 rw [hdrop, uG] at hgo
 refine wk (k5 (aA fun k7 => wb (sr rfl fun k8 => (An hlx) ((jr) (k8 (aA fun k9 => sr rfl fun k10 => (Bg) (k10 ((cdA) ?_ ?_)))))))) <;> intro hc2
 . have hne : ¬ l.seq = 0 := by simpa using hc2
   rw [if_neg hne] at hgo
   refine (aj) ?_
   refine aFz 0 rfl ?_
   refine (Ac) (wR ((Ah) ?_))
   refine fO ?_ ⟨enB _ _, trivial, trivial⟩
   simp only [go_sem, aP, <- hgo, Bool.false_and]
 have hne : l.seq = 0 := by simpa using hc2
 rw [if_pos hne] at hgo
 refine wk (k9 (sr rfl fun k12 => (Aq hw1 hw2) (k12 (aA fun k13 => sr rfl fun k14 => (ja) ?_))))
 refine (vr rfl rfl rfl func116 (sA (mD seq i l) (hb.2 l hml)) (by simp only [go_sem, enA, mD]) (by simp only [go_sem, enA, mD])) (k14 ((cdA) ?_ ?_)) <;> intro hc3
 . have hok : ¬ bJ (mD seq i l) = true := by simpa using hc3
   rw [if_neg hok] at hgo
   refine (aj) ?_
   refine aFz 0 rfl ?_
   refine (Ac) (wR ((Ah) ?_))
   refine fO ?_ ⟨enB _ _, trivial, trivial⟩
   simp only [go_sem, aP, <- hgo, Bool.false_and]
 have hok : bJ (mD seq i l) = true := by simpa using hc3
 have hst2 := (if_pos hok : (if bJ (mD seq i l) = true then uG seq (b.drop (i + 1)) (i + 1) (out ++ [mD seq i l]) else (out, false)) = _)
 refine wk (k13 (wg rfl ((Cu) ((jr) ((jt) (k7 ((jw (wiS i og)) ((jt) ?_))))))))
 refine ⟨(i + 1, out ++ [mD seq i l]), ⟨og, by simp [hol], by rw [hst2] at hgo; exact hgo⟩, og, [(0, 3)], ?_⟩
 simp only [go_sem, AObj.bel, AObj.ren, AV.ren, aB, sg] <;> simp [enA, mD]
def aKn (t : Tree) (b : List Entry) (hb : cW b) (hl : b.length <= 1048576) (hm : t.mem.length <= 1048576) (h0 : 0 <= t.seq) (h1 : t.seq <= 100000) : aK P 105 [trA t, .sl 5 (b.map enA)] [] 0 (.tup [trA (iA t b).1, .raw (.bool (iA t b).2)]) := by
 refine (pq 49 [.cell 4 27, .tmp 5] func105) ?_
 simp only [trA]
 refine (aj) ?_
 refine sr rfl fun k2 => (ja) ((vq func104 (xV b t.seq hb hl h0 h1)) ?_)
 have hsm := aEp (seq := t.seq) hl
 obtain ⟨hs1, hs2⟩ := hsm
 refine k2 (aA fun k3 => ?_)
 have hw1 := wr ((t.mem.length : Int) + ((aP b t.seq).1.length : Int)) ((t.mem.length : Int) + ((aP b t.seq).1.length : Int)) og
 refine sr rfl fun k4 => (Aa hw1) (k4 ((cdA) ?_ ?_)) <;> intro hc1
 . have hbd : aEd t b = true := hc1
   refine (aj) (wR ?_)
   refine fO ?_ ⟨⟨trivial, enB _ _, bC _ _, dN _ _, trivial⟩, trivial, trivial⟩
   simp only [go_sem, iA, hbd, if_true, trA]
 have hbd : aEd t b = false := hc1
 refine wk (k3 (aA fun k6 => (aj) (wb ?_)))
 refine wl (α := Nat × List Entry) (fun x => x.1 <= (aP b t.seq).1.length /\ x.2.length = t.mem.length + x.1 /\ ((aP b t.seq).1.drop x.1).foldl bY x.2 = (aP b t.seq).1.foldl bY t.mem) (fun x => (aP b t.seq).1.length - x.1) (fun x => ([(2, .ptr 0 0), (4, .ptr 1 0), (6, .sl 5 ((aP b t.seq).1.map enA)), (8, Ni (x.1 : Int))], [(0, .cells 27 [Ni t.seq, .sl 5 (x.2.map enA), .sl 1 (t.levels.map rsA), .sl 1 (t.snaps.map inA)]), (1, .cells 27 [Ni 0, .raw (.slice none 0 0), .raw (.slice none 0 0), .raw (.slice none 0 0)])])) 2 (0, t.mem) ⟨A5 _, rfl, rfl⟩ [] ?_ ?_
 . exact Cc
 rintro ⟨i, m⟩ ⟨hi, hml, hfold⟩
 simp only at hi hml hfold ⊢
 refine aA fun k8 => (aj) ((cdB) ?_ ?_) <;> intro hc2
 . have hge : (aP b t.seq).1.length <= i := by have h9 : ¬ i < (aP b t.seq).1.length := (by simpa using hc2); omega
   rw [E6 hge] at hfold
   refine we ((jt) (k6 ?_))
   have hw2 := wr (t.seq + ((aP b t.seq).1.length : Int)) (t.seq + ((aP b t.seq).1.length : Int)) og
   refine sr rfl fun k11 => (Aa hw2) (k11 ((aj) (wR ?_)))
   have h9 : (aP b t.seq).1.foldl bY t.mem = m := hfold.symm
   refine fO ?_ ⟨⟨trivial, enB _ _, bC _ _, dN _ _, trivial⟩, trivial, trivial⟩
   simp only [go_sem, iA, hbd, C5, if_false, trA, h9]
 have hlt : i < (aP b t.seq).1.length := by simpa using hc2
 obtain ⟨l, hlx, hdrop, hml2⟩ := ix hlt
 refine wk (k8 (aA fun k10 => wb ?_))
 refine cQ mixed rfl ?_
 refine (An hlx) ((jr) ?_)
 refine tp rfl rfl rfl ⟨func125, rfl, rfl⟩ (vM m l og) Ae Ae ?_
 refine (An hlx) ((jy) ((jt) (k10 ((jw (wiS i og)) ((jt) ?_)))))
 refine ⟨(i + 1, bY m l), ⟨og, by simp only [nZ]; omega, by rw [hdrop] at hfold; exact hfold⟩, og, [], ?_⟩
 exact Bo
def iL (s : Store) (hs : gA s) : aK P 31 [stA s] [] 0 (stA (cD s)) := by
 refine (pq 21 [.cell 2 31] func31) ?_
 simp only [stA]
 refine (aj) ((aj) ?_)
 refine sr rfl fun k3 => (ja) ?_
 refine vs rfl rfl rfl func71 ((cC (gJ s.tree hs.1) Af Af : aK P 71 [trA s.tree] [] 0 (trA s.tree))) Af Af ?_
 simp only [go_sem, trA]
 refine k3 (aA fun k4 => (aj) ((cdB) ?_ ?_)) <;> intro hc1
 . have hu : s.up = true := by simpa using hc1
   refine wk (k4 (sr rfl fun k8 => (ja) ((vq func72 ((cC (cP s.disk.levels hs.2) oG oG : aK P 72 [.sl 1 (s.disk.levels.map rsA)] [] 0 (.sl 1 (s.disk.levels.map rsA))))) (k8 ((aj) (wR ?_))))))
   refine fO ?_ (bK _ _)
   simp only [go_sem, cD, hu, if_true, stA]
 have hu : s.up = false := by simpa using hc1
 refine wg rfl ((ja) (k4 (sr rfl fun k6 => (ja) ((vq func72 ((cC (cP s.disk.levels hs.2) oG oG : aK P 72 [.sl 1 (s.disk.levels.map rsA)] [] 0 (.sl 1 (s.disk.levels.map rsA))))) (k6 ((aj) ?_))))))
 refine dI 1 (ds := [Nb s.up, Ni 0, .sl 5 [], .sl 1 [], .sl 1 [], Ns s.disk.log, Ni s.disk.safe, .sl 1 (s.disk.levels.map rsA), Ni s.disk.seq]) rfl (by repeat (first | exact LeL.nil | refine LeL.cons (by first | exact Le.refl _ | exact Le.nil _) ?_)) oG ?_
 refine (ja) (wR ?_)
 refine fO ?_ (bK _ _)
 simp only [go_sem, cD, hu, C5, if_false, stA, lZ, List.map_nil]
section
variable {i j m : Nat} {G : Prop}
def bP : ∀ x : List UInt8, Op.bytesLess x x = false
  | [] => rfl
  | a :: x => by simp [Op.bytesLess, bP x]
def rW : ∀ x y z : List UInt8, Op.bytesLess x y = true -> Op.bytesLess y z = true -> Op.bytesLess x z = true
  | [], _ :: _, _ :: _, _, _ => rfl
  | [], [], _, h, _ => by cases h
  | _ :: _, [], _, h, _ => by cases h
  | _, _ :: _, [], _, h => by cases h
  | a :: x, b :: y, c :: z, h1, h2 => by
    simp only [Op.bytesLess, D6, decide_eq_true_eq, B7, beq_iff_eq] at h1 h2 ⊢
    rcases h1 with h1 | ⟨h1, h1'⟩ <;> rcases h2 with h2 | ⟨h2, h2'⟩
    . exact .inl (UInt8.lt_trans h1 h2)
    . exact .inl (h2 ▸ h1)
    . exact .inl (h1 ▸ h2)
    exact .inr ⟨h1.trans h2, rW x y z h1' h2'⟩
def aBr : ∀ x y : List UInt8, Op.bytesLess x y = false -> Op.bytesLess y x = false -> x = y
  | [], [], _, _ => rfl
  | [], _ :: _, h, _ => by cases h
  | _ :: _, [], _, h => by cases h
  | a :: x, b :: y, h1, h2 => by
    simp only [Op.bytesLess, Bool.or_eq_false_iff, decide_eq_false_iff_not, Bool.and_eq_false_iff] at h1 h2
    have hab : a = b := UInt8.le_antisymm (UInt8.not_lt.1 h2.1) (UInt8.not_lt.1 h1.1)
    subst hab
    have e1 := h1.2.resolve_left oS
    have e2 := h2.2.resolve_left oS
    rw [aBr x y e1 e2]
def wJ (x y z : List UInt8) (h1 : Op.bytesLess x y = false) (h2 : Op.bytesLess y z = false) : Op.bytesLess x z = false := by
  cases h3 : Op.bytesLess x z with
  | false => rfl
  | true =>
    cases h4 : Op.bytesLess y x with
    | true => have := rW y x z h4 h3; rw [h2] at this; cases this
    | false => have := aBr x y h1 h4; subst this; rw [h2] at h3; cases h3
def xH {x y : List UInt8} (h : Op.bytesLess x y = true) : Op.bytesLess y x = false := by
  cases h4 : Op.bytesLess y x with
  | false => rfl
  | true => have := rW x y x h h4; rw [bP] at this; cases this
def qG : Plain.WO entLt fun _ => True where
  irrefl := fun x _ => by simp [entLt, bP]
  trans := fun x y z _ _ _ h1 h2 => by
    simp only [entLt, D6, B7, beq_iff_eq, decide_eq_true_eq] at h1 h2 ⊢
    rcases h1 with h1 | ⟨h1, h1'⟩ <;> rcases h2 with h2 | ⟨h2, h2'⟩
    . exact .inl (rW _ _ _ h1 h2)
    . exact .inl (h2 ▸ h1)
    . exact .inl (h1 ▸ h2)
    exact .inr ⟨h1.trans h2, og⟩
  neg := fun x y z _ _ _ h1 h2 => by
    simp only [entLt, Bool.or_eq_false_iff, Bool.and_eq_false_iff, beq_eq_false_iff_ne, decide_eq_false_iff_not] at h1 h2 ⊢
    refine ⟨wJ _ _ _ h1.1 h2.1, ?_⟩
    by_cases e : x.key.toList = z.key.toList
    . right
      have hzy : Op.bytesLess z.key.toList y.key.toList = false := e ▸ h1.1
      have e2 := aBr _ _ hzy h2.1
      have e1 := e.trans e2
      have k1 := h1.2.resolve_left (fun h => h e1)
      have k2 := h2.2.resolve_left (fun h => h e2.symm)
      omega
    exact .inl e
def aBh (x y : ByteArray) : Int := if Op.bytesLess x.toList y.toList = true then -1 else if Op.bytesLess y.toList x.toList = true then 1 else 0
def aIf (x y : Int) : Int := if x < y then -1 else if y < x then 1 else 0
def jZ (a b : Entry) : Int := if aBh a.key b.key ≠ 0 then aBh a.key b.key else aIf b.seq a.seq
def pO (a b : Entry) : decide (jZ a b < 0) = entLt a b := by
  unfold jZ aBh aIf entLt
  by_cases h1 : Op.bytesLess a.key.toList b.key.toList = true
  . simp [h1]
  by_cases h2 : Op.bytesLess b.key.toList a.key.toList = true
  . have : ¬ a.key.toList = b.key.toList := fun e => by rw [e, bP] at h2; cases h2
    simp [h1, h2, this]
  have e := aBr _ _ (by simpa using h1) (by simpa using h2)
  rw [e]; simp only [bP, C5, if_false, ne_eq, not_true_eq_false, beq_self_eq_true, Bool.true_and, Bool.false_or]; split
  . rename_i h; simp [h]
  rename_i h
  split <;> simp [h]
def bGr {s : ByteArray} (h : jJ s = true) : 1 <= s.size /\ s.size <= 8 := by
  simp [jJ] at h; omega
def aKq {α : Type} {l : List α} (h : i ≠ j) (y : α) : (l.set i y)[j]? = l[j]? := List.getElem?_set_ne h
abbrev cS (d : Nat -> Entry) (n : Nat) (σ : Nat -> Nat) : AObj := .row 43 5 ((List.range n).map fun k => enA (d (σ k)))
def Bi (h : G := by simp only [go_sem, AObj.bel, AObj.ren, AV.ren, aB, cS, sg] <;> simp [enA]) : G := h
def Bc (h : G := by simp only [go_sem, AObj.bel, cS]) : G := h
def Bb (h : G := by simp only [go_sem, cS]) : G := h
def Ba {R G : Prop} (h : R -> G := by intro k; simp only [go_sem, AObj.ren, AV.ren, Nat.add_zero, A0, Nat.sub_self, aB, cS, sg, shift]; exact k) : R -> G := h
abbrev gS : AV := .fn (.func 45) [] []
def Al (h : G := by simp only [go_sem, gS]) : G := h
def aVq (U : Nat -> Prop) (d : Nat -> Entry) (n : Nat) (σ : Nat -> Nat) : aI U ((List.range n).map fun k => enA (d (σ k))) := by
  rw [bLi]; intro x hx; obtain ⟨k, _, rfl⟩ := A9.1 hx; exact dQ U _
def bJq (s : Nat -> Nat) (d : Nat -> Entry) (n : Nat) (σ : Nat -> Nat) : aB s ((List.range n).map fun k => enA (d (σ k))) = (List.range n).map fun k => enA (d (σ k)) := dJ s (aVq _ d n σ)
attribute [go_sem] aVq bJq
def aUk (d : Nat -> Entry) (n : Nat) (σ : Nat -> Nat) {p q : Nat} (hp : p < n) (hq : q < n) : (((List.range n).map fun k => enA (d (σ k))).set p (enA (d (σ q)))).set q (enA (d (σ p))) = (List.range n).map fun k => enA (d (Plain.swp σ p q k)) := by
  refine List.ext_getElem? fun i => ?_
  rw [F9, F9, B4, B4]; simp only [D0, A6, D7]
  by_cases hi : i < n
  . rw [C6 hi]; unfold Plain.swp; simp only [Option.map_some]
    by_cases h1 : i = q
    . subst h1; rw [if_pos rfl, if_pos hi]
      by_cases h2 : i = p
      . subst h2; simp
      rw [if_neg h2, if_pos rfl]
    rw [if_neg (fun e => h1 e.symm)]
    by_cases h2 : i = p
    . subst h2; rw [if_pos rfl, if_pos rfl, if_pos hp]
    rw [if_neg (fun e => h2 e.symm), if_neg h2, if_neg h1]
  rw [E3 (by simp; omega)]; rw [if_neg og, if_neg og]; rfl
def swr (σ : Nat -> Nat) (a b m : Nat) : Nat -> Nat := fun k => if a <= k /\ k < a + m then σ (k - a + b) else if b <= k /\ k < b + m then σ (k - b + a) else σ k
def bHh (σ : Nat -> Nat) {a b i : Nat} (h : a + i < b) : Plain.swp (swr σ a b i) (a + i) (b + i) = swr σ a b (i + 1) := by
  funext k
  unfold Plain.swp swr
  by_cases h1 : k = a + i
  . subst h1; rw [if_pos rfl, if_neg og, if_neg og, if_pos og]
    congr 1; omega
  rw [if_neg h1]
  by_cases h2 : k = b + i
  . subst h2; rw [if_pos rfl, if_neg og, if_neg og, if_neg og, if_pos og]
    congr 1; omega
  rw [if_neg h2]
  by_cases h3 : a <= k /\ k < a + i
  . rw [if_pos h3, if_pos og]
  rw [if_neg h3]
  by_cases h4 : b <= k /\ k < b + i
  . rw [if_pos h4, if_neg og, if_pos og]
  rw [if_neg h4, if_neg og, if_neg og]
def bLd (σ : Nat -> Nat) (a b : Nat) : swr σ a b 0 = σ := by
  funext k; unfold swr; rw [if_neg og, if_neg og]
def bMx (σ : Nat -> Nat) (h1 : j < i) (h2 : i <= m) (h3 : 0 < j) : Plain.rot (swr σ (m - i) m j) (m - (i - j)) m (m + j) = Plain.rot σ (m - i) m (m + j) := by
  funext k
  unfold Plain.rot swr
  repeat' split
  all_goals first | (exfalso; omega) | (congr 1; omega) | rfl
def bFn (σ : Nat -> Nat) (h1 : i < j) (h2 : i <= m) (h3 : 0 < i) : Plain.rot (swr σ (m - i) (m + j - i) i) (m - i) m (m + (j - i)) = Plain.rot σ (m - i) m (m + j) := by
  funext k
  unfold Plain.rot swr
  repeat' split
  all_goals first | (exfalso; omega) | (congr 1; omega) | rfl
def bQh (σ : Nat -> Nat) (h2 : i <= m) : swr σ (m - i) m i = Plain.rot σ (m - i) m (m + i) := by
  funext k
  unfold Plain.rot swr; simp only [Nat.add_sub_cancel_left]
  by_cases c1 : m - i <= k /\ k < m - i + i
  . rw [if_pos c1, if_pos c1]; congr 1; omega
  rw [if_neg c1, if_neg c1]
  by_cases c2 : m <= k /\ k < m + i
  . rw [if_pos c2, if_pos og]; congr 1; omega
  rw [if_neg c2, if_neg og]
def orI : List Int -> Int
  | [] => 0
  | x :: r => if x = 0 then orI r else x
def bGe (a b : Entry) : orI [aBh a.key b.key, aIf b.seq a.seq] = jZ a b := by
  unfold jZ
  by_cases h : aBh a.key b.key = 0
  . rw [if_neg (by simp [h]), orI, if_pos h, orI, orI]
    split <;> rename_i h2
    . exact h2.symm
    rfl
  rw [if_pos h, orI, if_neg h]
def sH (s : ByteArray) : aK P 135 [Ns s] [] 0 (Nb false) := by
 refine (pq 6 [.tmp 2] func135) ((aj) ((aj) (wR ?_)))
 refine fO ?_ trivial; simp only [go_sem, beq_self_eq_true, Bool.not_true]
def wO (n : Int) : aK P 136 [Ni n] [] 0 (Nb false) := by
 refine (pq 6 [.tmp 2] func136) ((aj) ((aj) (wR ?_)))
 refine fO ?_ trivial; simp only [go_sem, decide_true, Bool.not_true]
def yO (x y : ByteArray) : aK P 96 [Ns x, Ns y] [] 0 (Ni (aBh x y)) := by
 refine (pq 20 [.tmp 4] func96) ((aj) ?_)
 refine sr rfl fun k2 => (ja) ((vq func135 (sH x)) (k2 (sr rfl fun k3 => (ja) ((vq func135 (sH y)) (k3 (aA fun k4 => (aj) ((cdA) (fun hc => by simp at hc) fun hc1 => ?_)))))))
 refine wk (k4 (aA fun k6 => (aj) ((cdA) (fun hc => by simp at hc) fun hc2 => ?_)))
 refine wk (k6 (aA fun k8 => (aj) ((cdA) ?_ ?_))) <;> intro hc3
 . refine (aj) (wR ?_)
   refine fO ?_ trivial; simp only [go_sem, aBh, if_pos hc3]
 refine wk (k8 (aA fun k11 => (aj) ((cdA) ?_ ?_))) <;> intro hc4
 . refine (aj) (wR ?_)
   have h9 : aBh x y = 1 := by
     unfold aBh; rw [hc3]; simp at hc4
     cases h8 : Op.bytesLess y.toList x.toList with
     | true => simp
     | false => exact absurd (aBr _ _ hc3 h8) hc4.2
   exact fq h9
 refine wk (k11 ((aj) (wR ?_)))
 have h9 : aBh x y = 0 := by
   unfold aBh; simp at hc4; rw [hc3, hc4 hc3, bP]
   simp
 exact fq h9
def aEb (x y : Int) : aK P 97 [Ni x, Ni y] [] 0 (Ni (aIf x y)) := by
 refine (pq 20 [.tmp 4] func97) ((aj) ?_)
 refine sr rfl fun k2 => (ja) ((vq func136 (wO x)) (k2 (sr rfl fun k3 => (ja) ((vq func136 (wO y)) (k3 (aA fun k4 => (aj) ((cdA) (fun hc => by simp at hc) fun hc1 => ?_)))))))
 refine wk (k4 (aA fun k6 => (aj) ((cdA) (fun hc => by simp at hc) fun hc2 => ?_)))
 refine wk (k6 (aA fun k8 => (aj) ((cdA) ?_ ?_))) <;> intro hc3
 . have n3 : x < y := by simpa using hc3
   refine (aj) (wR ?_)
   refine fO ?_ trivial; simp only [go_sem, aIf, if_pos n3]
 have n3 : ¬ (x < y) := by simpa using hc3
 refine wk (k8 (aA fun k11 => (aj) ((cdA) ?_ ?_))) <;> intro hc4
 . have n4 : y < x := by simpa using hc4
   refine (aj) (wR ?_)
   refine fO ?_ trivial; simp only [go_sem, aIf, if_neg n3, if_pos n4]
 have n4 : ¬ (y < x) := by simpa using hc4
 refine wk (k11 ((aj) (wR ?_)))
 refine fO ?_ trivial; simp only [go_sem, aIf, if_neg n3, if_neg n4]
def aUb (ls : List Int) (hz : ls.length <= 4611686018427387904) : aK P 95 [.sl 1 (ls.map inA)] [] 0 (Ni (orI ls)) := by
 refine (pq 18 [.tmp 2] func95) ((aj) ((aj) ?_))
 refine aA fun k3 => (aj) (wb ?_)
 refine wl (α := Nat) (fun x => x <= ls.length /\ orI (ls.drop x) = orI ls) (fun x => ls.length - x) (fun x => ([(3, Ni 0), (6, .sl 1 (ls.map inA)), (7, Ni (ls.length : Int)), (8, Ni (x : Int))], [])) 0 0 ⟨A5 _, rfl⟩ [] ?_ ?_
 . exact jc
 rintro i ⟨hi, hor⟩
 refine (aj) ?_
 refine aA fun k6 => (cdB) ?_ ?_ <;> intro hc1
 . have hge := gec hc1
   refine we ((jt) (k3 ((aj) (wR ?_))))
   rw [E6 hge, orI] at hor
   exact fq hor
 obtain ⟨hlt, l, hl, hdrop, hml⟩ := ixc hc1
 refine wk (k6 (aA fun k7 => wb (sr rfl fun k8 => ?_)))
 simp only [go_sem, hl, inA]
 refine (jr) (k8 ((aj) ((cdA) ?_ ?_))) <;> intro hc2
 . have n2 : ¬ l = 0 := by simpa using hc2
   refine (aj) (wR ((Ah) ?_))
   rw [hdrop, orI, if_neg n2] at hor
   exact fq hor
 have n2 : l = 0 := by simpa using hc2
 refine wk ((jt) (k7 ((jw (wiS i og)) ((jt) ?_))))
 refine ⟨i + 1, ⟨og, by rw [hdrop, orI, if_pos n2] at hor; exact hor⟩, og, [], ?_⟩
 exact jo
def gP (a b : Entry) : aK P 45 [enA a, enA b] [] 0 (Ni (jZ a b)) := by
 refine (pq 17 [.tmp 4] func45) ?_
 simp only [enA]
 have hmx := mxl
 refine (aj) ?_
 refine sd mixed rfl fun k2 => (ja) ((jr) ?_)
 refine tp rfl rfl rfl ⟨func96, rfl, rfl⟩ (yO a.key b.key) oG oG ?_
 refine (ja) ((jr) ?_)
 refine tp rfl rfl rfl ⟨func97, rfl, rfl⟩ (aEb b.seq a.seq) oG oG ?_
 refine (ja) ((jr) ?_)
 refine tl [2] (xs := [.ref 2]) rfl rfl rfl ⟨func95, rfl, rfl⟩ (aUb [aBh a.key b.key, aIf b.seq a.seq] oS) rfl (by simp [aIm, xU, Abs.get, fzL, AV.fz, inA]) ⟨⟨trivial, trivial, trivial⟩, trivial⟩ rfl ?_
 refine (ja) ((jr) ((jy) (k2 (wR (fO ?_ trivial)))))
 simp only [go_sem, bGe]
def aEw (a b : Entry) : aK P 128 [enA a, enA b] [] 0 (Nb (entLt a b)) := by
 refine (pq 20 [.tmp 4] func128) ?_
 simp only [enA]
 refine (aj) ?_
 refine aA fun k2 => (aj) ((cdA) ?_ ?_) <;> intro hc1
 . refine (aj) (wR ?_)
   have h9 : entLt a b = Op.bytesLess a.key.toList b.key.toList := by
     have hk : (a.key.toList == b.key.toList) = false := by simpa using hc1
     unfold entLt; rw [hk]; simp
   exact fq h9
 refine wk (k2 ((aj) (wR ?_)))
 have h9 : entLt a b = decide (b.seq < a.seq) := by
   have hk : a.key.toList = b.key.toList := by simpa using hc1
   unfold entLt; rw [hk, bP]; simp
 exact fq h9
def aSg (s : ByteArray) (hz : s.size <= 4611686018427387904) : aK P 141 [Ns s] [] 0 (Nb (jJ s)) := by
 refine (pq 41 [.tmp 2] func141) ((aj) ?_)
 refine aA fun k2 => (aj) ((cdA) ?_ ?_) <;> intro hc1
 . have h9 : jJ s = false := Bool.eq_false_iff.2 fun h => by have := bGr h; simp at hc1; omega
   exact (aj) (wR (fq h9))
 have hsz : 1 <= s.size /\ s.size <= 8 := by simp at hc1; omega
 refine wk (k2 (aA fun k5 => (aj) (wb ?_)))
 refine wa s.size (wM s) (fun x => ([(0, Ns s), (14, Ni (s.size : Int)), (15, Ni (x : Int))], [])) 0 [] ?_ ?_
 . exact jc
 rintro i ⟨hi, hall⟩
 refine (aj) ?_
 refine aA fun k8 => (cdB) ?_ ?_ <;> intro hc2
 . have hge : s.size <= i := Nat.not_lt.1 (by simpa using hc2)
   refine we ((jt) (k5 ((aj) (wR ?_))))
   have h9 : jJ s = true := by unfold jJ; rw [gF hge hall]; simp; omega
   exact fq h9
 have hlt : i < s.size := by simpa using hc2
 refine wk (k8 (aA fun k9 => wb ((aj) ?_)))
 refine sr rfl fun k11 => (ja) ((jr) (k11 ((aj) ((cdA) ?_ ?_)))) <;> intro hc3
 . have hp : wM s i = false := by unfold wM; simp at hc3 ⊢; omega
   refine (aj) (wR ((Ah) ?_))
   have h9 : jJ s = false := by unfold jJ; rw [hZ hlt hp]; rfl
   exact fq h9
 have hp : wM s i = true := by unfold wM; simp at hc3 ⊢; omega
 refine wk ((jt) (k9 ((jw (wiS i og)) ((jt) ?_))))
 refine ⟨i + 1, ⟨og, cG hall hp⟩, og, [], ?_⟩
 exact jo
def xZ (e : Entry) (hz : aNu e) : aK P 108 [enA e] [] 0 (Nb (bJ e)) := by
 refine (pq 50 [.tmp 2] func108) ?_
 simp only [enA]
 refine (aj) ?_
 refine aA fun k2 => sr rfl fun k3 => (ja) ((vq func141 (aSg e.key hz.1)) (k3 ((cdA) ?_ ?_))) <;> intro hc1
 . have hb : jS e = true := by unfold jS; revert hc1; cases jJ e.key <;> simp <;> omega
   refine (aj) (wR ?_)
   refine fO ?_ trivial; simp only [go_sem, bJ, hb]
 refine wk (k2 (aA fun k5 => (aj) ((cdA) ?_ ?_))) <;> intro hc2
 . have hb : jS e = true := by unfold jS nP; simp at hc2 ⊢; omega
   refine (aj) (wR ?_)
   refine fO ?_ trivial; simp only [go_sem, bJ, hb]
 have hb : jS e = false := by unfold jS nP; revert hc1; cases jJ e.key <;> simp at hc2 ⊢ <;> omega
 refine wk (k5 (aA fun k8 => (aj) (wb ((aj) ((cdA) ?_ ?_))))) <;> intro hc3
 . have k1 : e.kind = 1 := by simpa using hc3
   refine (aj) (wR ((Ah) ?_))
   refine fO ?_ trivial; simp only [go_sem, bJ, hb, C5, if_false, if_pos k1]
 have k1 : ¬ (e.kind = 1) := by simpa using hc3
 refine (aj) ((cdA) ?_ ?_) <;> intro hc4
 . have k2 : e.kind = 2 := by simpa using hc4
   refine (aj) (wR ((Ah) ?_))
   refine fO ?_ trivial; simp only [go_sem, bJ, hb, C5, if_false, if_neg k1, if_pos k2]
 have k2 : ¬ (e.kind = 2) := by simpa using hc4
 refine (aj) ((cdA) ?_ ?_) <;> intro hc5
 . have k3 : e.kind = 3 := by simpa using hc5
   refine (aj) (wR ((Ah) ?_))
   refine fO ?_ trivial; simp only [go_sem, bJ, hb, C5, if_false, if_neg k1, if_neg k2, if_pos k3]
 have k3 : ¬ (e.kind = 3) := by simpa using hc5
 refine wk ((jt) (k8 ((aj) (wR ?_))))
 refine fO ?_ trivial; simp only [go_sem, bJ, hb, C5, if_false, if_neg k1, if_neg k2, if_neg k3]
def xI (ls : List Entry) (hz : cW ls) : aK P 89 [.sl 5 (ls.map enA)] [] 0 (Nb (bU ls)) := by
 refine (pq 30 [.tmp 2] func89) ?_
 have hlen := hz.1
 refine (aj) ?_
 refine aA fun k2 => (aj) (wb ?_)
 refine wa ls.length (zX ls) (fun x => ([(0, .sl 5 (ls.map enA)), (5, .sl 5 (ls.map enA)), (6, Ni (ls.length : Int)), (7, Ni (x : Int))], [])) 0 [] ?_ ?_
 . exact jc
 rintro i ⟨hi, hall⟩
 refine (aj) ?_
 refine aA fun k5 => (cdB) ?_ ?_ <;> intro hc1
 . have hge := gec hc1
   refine we ((jt) (k2 ((aj) (wR ?_))))
   have h9 : bU ls = true := by unfold bU; exact gF hge hall
   exact fq h9
 obtain ⟨hlt, l, hl, hdrop, hml⟩ := ixc hc1
 have hw1 := wr ((i : Int) - 1) ((i : Int) - 1) og
 have hpn : ((i : Int) - 1).toNat = i - 1 := by omega
 have hpv : ls[i - 1]? = some (bX ls i) := by unfold bX; rw [A1 og]; rfl
 refine wk (k5 (aA fun k6 => wb (sr rfl fun k7 => (An hl) ((jr) (k7 (sd mixed rfl fun k8 => (Ay hl hw1 hpn hpv) ((jr) ?_)))))))
 refine tp rfl rfl rfl ⟨func108, rfl, rfl⟩ (xZ l (hz.2 l hml)) Ae Ae ?_
 refine (Ay hl hw1 hpn hpv) ((jr) ?_)
 refine tpg rfl rfl rfl rfl rfl rfl ⟨func128, rfl, rfl⟩ (fun hg => aEw (bX ls i) l) oG (fun hg => Ae) Ae trivial ?_
 refine (Ay hl hw1 hpn hpv) ((jr) ((jy) (k8 ((cdA) ?_ ?_)))) <;> intro hc2
 . have hp : zX ls i = false := by unfold zX; rw [hl]; simp only [hc2]; rfl
   refine (aj) (wR ((Ah) ?_))
   have h9 : bU ls = false := by unfold bU; exact hZ hlt hp
   exact fq h9
 have hp : zX ls i = true := by unfold zX; rw [hl]; simp only [hc2]; rfl
 refine wk ((jt) (k6 ((jw (wiS i og)) ((jt) ?_))))
 refine ⟨i + 1, ⟨og, cG hall hp⟩, og, [], ?_⟩
 exact jo
def cH (a b : List Entry) (hz : a.length <= 4611686018427387904) : aK P 43 [.sl 5 (a.map enA), .sl 5 (b.map enA)] [] 0 (Nb (decide (a = b))) := by
 refine (pq 26 [.tmp 4] func43) ((aj) ?_)
 refine aA fun k2 => (aj) ((cdA) ?_ ?_) <;> intro hc1
 . have hne : a ≠ b := fun e => by rw [e] at hc1; simp at hc1
   exact (aj) (wR (fq (decide_eq_false hne)))
 have hlen : a.length = b.length := by simp at hc1; omega
 refine wk (k2 (aA fun k5 => (aj) (wb ?_)))
 refine wa a.length (qN a b) (fun x => ([(0, .sl 5 (a.map enA)), (1, .sl 5 (b.map enA)), (12, Ni (a.length : Int)), (13, Ni (x : Int))], [])) 0 [] ?_ ?_
 . exact jc
 rintro i ⟨hi, hall⟩
 refine (aj) ?_
 refine aA fun k8 => (cdB) ?_ ?_ <;> intro hc2
 . have hge := gec hc2
   refine we ((jt) (k5 ((aj) (wR ?_))))
   have hie : i = a.length := by omega
   subst hie
   have he := mS hlen hall
   exact fq (decide_eq_true he)
 obtain ⟨hlt, l, hl, _, _⟩ := ixc hc2
 obtain ⟨m, hm, _, _⟩ := ix (xs := b) (i := i) og
 refine wk (k8 (aA fun k9 => wb ((aj) ?_)))
 refine sd mixed rfl fun k11 => (Bn hl hm) ((jr) ?_)
 refine aN (fun hN => vE rfl rfl hN rfl rfl) (.inl rfl) ?_
 refine (Bn hl hm) ((jr) ((jy) (k11 ((cdA) ?_ ?_)))) <;> intro hc3
 . have hne : a ≠ b := fun e => by
     rw [e, hm] at hl; cases hl; simp at hc3
   exact (aj) (wR ((Ah) (fq (decide_eq_false hne))))
 . have hp : qN a b i = true := by unfold qN; rw [hl, hm]; simpa using hc3
   refine wk ((jt) (k9 ((jw (wiS i og)) ((jt) ?_))))
   refine ⟨i + 1, ⟨og, cG hall hp⟩, og, [], ?_⟩
   exact jo
def uF (a b : List Int) (hz : a.length <= 4611686018427387904) : aK P 66 [.sl 1 (a.map inA), .sl 1 (b.map inA)] [] 0 (Nb (decide (a = b))) := by
 refine (pq 26 [.tmp 4] func66) ((aj) ?_)
 refine aA fun k2 => (aj) ((cdA) ?_ ?_) <;> intro hc1
 . have hne : a ≠ b := fun e => by rw [e] at hc1; simp at hc1
   exact (aj) (wR (fq (decide_eq_false hne)))
 have hlen : a.length = b.length := by simp at hc1; omega
 refine wk (k2 (aA fun k5 => (aj) (wb ?_)))
 refine wa a.length (qN a b) (fun x => ([(0, .sl 1 (a.map inA)), (1, .sl 1 (b.map inA)), (12, Ni (a.length : Int)), (13, Ni (x : Int))], [])) 0 [] ?_ ?_
 . exact jc
 rintro i ⟨hi, hall⟩
 refine (aj) ?_
 refine aA fun k8 => (cdB) ?_ ?_ <;> intro hc2
 . have hge := gec hc2
   refine we ((jt) (k5 ((aj) (wR ?_))))
   have hie : i = a.length := by omega
   subst hie
   have he := mS hlen hall
   exact fq (decide_eq_true he)
 obtain ⟨hlt, l, hl, _, _⟩ := ixc hc2
 obtain ⟨m, hm, _, _⟩ := ix (xs := b) (i := i) og
 refine wk (k8 (aA fun k9 => wb ((aj) ?_)))
 refine sd mixed rfl fun k11 => ?_
 simp only [go_sem, hl, hm, inA]
 refine (jr) ((jy) (k11 ((cdA) ?_ ?_))) <;> intro hc3
 . have hne : a ≠ b := fun e => by
     rw [e, hm] at hl; cases hl; simp at hc3
   exact (aj) (wR ((Ah) (fq (decide_eq_false hne))))
 . have hp : qN a b i = true := by unfold qN; rw [hl, hm]; simpa using hc3
   refine wk ((jt) (k9 ((jw (wiS i og)) ((jt) ?_))))
   refine ⟨i + 1, ⟨og, cG hall hp⟩, og, [], ?_⟩
   exact jo
def aOl (r : Run) (h1 : 1 <= r.ents.length) : aK P 132 [rA r] [] 0 (Ns (aH r)) := by
 refine (pq 8 [.tmp 2] func132) ?_
 simp only [rA]
 have hl : r.ents[0]? = some ((r.ents[0]?).getD nM) := by rw [A1 og]; rfl
 generalize hg : (r.ents[0]?).getD nM = l at hl
 have hk : aH r = l.key := by unfold aH; rw [hg]
 rw [hk]
 refine (aj) ?_
 refine sr rfl fun k2 => (Cf hl) ((jr) (k2 (wR (fO ?_ trivial))))
 exact At
def aJl (r : Run) (h1 : 1 <= r.ents.length) (h2 : r.ents.length <= 4611686018427387904) : aK P 131 [rA r] [] 0 (Ns (aL r)) := by
 refine (pq 12 [.tmp 2] func131) ?_
 simp only [rA]
 have hl : r.ents[r.ents.length - 1]? = some ((r.ents[r.ents.length - 1]?).getD nM) := by rw [A1 og]; rfl
 generalize hg : (r.ents[r.ents.length - 1]?).getD nM = l at hl
 have hk : aL r = l.key := by unfold aL; rw [hg]
 rw [hk]
 have hw1 := wr ((r.ents.length : Int) - 1) ((r.ents.length : Int) - 1) og
 have hpn : ((r.ents.length : Int) - 1).toNat = r.ents.length - 1 := by omega
 refine (aj) ?_
 refine sr rfl fun k2 => (Bt hl hw1 hpn) ((jr) (k2 (wR (fO ?_ trivial))))
 exact At
def xO (a b : Run) (hz : a.ents.length <= 4611686018427387904) : aK P 70 [rA a, rA b] [] 0 (Nb (decide (a.mask = b.mask) && decide (a.ents = b.ents))) := by
 refine (pq 17 [.tmp 4] func70) ?_
 simp only [rA]
 refine (aj) ?_
 refine sr rfl fun k2 => (ja) ?_
 refine vpg rfl rfl rfl rfl rfl rfl ⟨func43, rfl, rfl⟩ (fun hg => cH a.ents b.ents hz) oG (fun hg => oG) oG trivial ?_
 refine (ja) (k2 (wR (fO ?_ trivial)))
 exact At
end
end Go.Proofs.S
end
section
open Go Go.Abs Go.Proofs Go.Proofs.Tryz
open Go.Plain (swp rot zV yF gL gX iG lX)
namespace Go.Proofs.S
section
variable {a j f s r k : Nat} {σ : Nat -> Nat}
abbrev lE (d : Nat -> Entry) : Nat -> Nat -> Bool := fun i j => entLt (d i) (d j)
def bFl {l : Nat -> Nat -> Bool} (h : a < j) (hl : l (σ j) (σ (j - 1)) = true) : zV l a j σ = zV l a (j - 1) (swp σ j (j - 1)) := by
  obtain ⟨k, rfl⟩ : ∃ k, j = k + 1 := ⟨j - 1, og⟩
  rw [Nat.add_sub_cancel] at hl ⊢
  rw [zV, if_pos ⟨h, hl⟩]
def bEo {l : Nat -> Nat -> Bool} (h : ¬ (a < j /\ l (σ j) (σ (j - 1)) = true)) : zV l a j σ = σ := by
  cases j with
  | zero => rfl
  | succ k => rw [Nat.add_sub_cancel] at h; rw [zV, if_neg h]
def bBf {l : Nat -> Nat -> Bool} {a b i : Nat} (h : i < b) : yF l a (b - i) i σ = yF l a (b - (i + 1)) (i + 1) (zV l a i σ) := by
  rw [show b - i = (b - (i + 1)) + 1 by omega, yF]
def aJc (t : Nat -> Bool) : ∀ (f g s r : Nat), r - s <= f -> r - s <= g -> gX t f s r = gX t g s r
  | 0, 0, _, _, _, _ => rfl
  | 0, g + 1, s, r, h, _ => by rw [gX, gX, if_neg og]
  | f + 1, 0, s, r, _, h => by rw [gX, gX, if_neg og]
  | f + 1, g + 1, s, r, h1, h2 => by
    rw [gX, gX]; split
    . split
      . exact aJc t f g _ _ og og
      exact aJc t f g _ _ og og
    rfl
def zJ {t : Nat -> Bool} (h : s < r) (hf : r - s <= f) : gX t f s r = if t ((s + r) / 2) = true then gX t f s ((s + r) / 2) else gX t f ((s + r) / 2 + 1) r := by
  obtain ⟨g, rfl⟩ : ∃ g, f = g + 1 := ⟨f - 1, og⟩
  rw [gX, if_pos h]; split
  . exact aJc t g (g + 1) _ _ og og
  exact aJc t g (g + 1) _ _ og og
def aTd {t : Nat -> Bool} (h : ¬ s < r) : gX t f s r = s := by
  cases f with
  | zero => rfl
  | succ f => rw [gX, if_neg h]
def bQi (σ : Nat -> Nat) (h : a <= k) : swp (rot σ a (a + 1) (k + 1)) k (k + 1) = rot σ a (a + 1) (k + 2) := by
  funext x
  unfold swp rot
  repeat' split
  all_goals first | (exfalso; omega) | (congr 1; omega) | rfl | (subst_vars; congr 1; omega)
def bOf (σ : Nat -> Nat) (a : Nat) : rot σ a (a + 1) (a + 1) = σ := by
  funext x
  unfold rot
  repeat' split
  all_goals first | (exfalso; omega) | (congr 1; omega) | rfl | (subst_vars; congr 1; omega)
def bPp (σ : Nat -> Nat) {k m : Nat} (h : 0 < k) (hk : k <= m) : swp (rot σ k m (m + 1)) k (k - 1) = rot σ (k - 1) m (m + 1) := by
  funext x
  unfold swp rot
  repeat' split
  all_goals first | (exfalso; omega) | (congr 1; omega) | rfl | (subst_vars; congr 1; omega)
def bNj (σ : Nat -> Nat) (m : Nat) : rot σ m m (m + 1) = σ := by
  funext x
  unfold rot
  repeat' split
  all_goals first | (exfalso; omega) | (congr 1; omega) | rfl | (subst_vars; congr 1; omega)
def cM (d : Nat -> Entry) (n : Nat) (σ : Nat -> Nat) (hn : n <= 1048576) (a b m : Nat) (h1 : a + m <= b) (h2 : b + m <= n) : aO P 181 [.ref 0, Ni (a : Int), Ni (b : Int), Ni (m : Int), gS] [(0, cS d n σ)] 1 (.tup []) [(0, cS d n (swr σ a b m))] 1 := by
 refine (gq 38 [] func181) ?_
 simp only [cS, gS]
 refine (aj) (wb ?_)
 refine wn m (fun x => ([(0, .ref 0), (1, Ni (a : Int)), (2, Ni (b : Int)), (3, Ni (m : Int)), (10, Ni (x : Int))], [(0, .row 43 5 ((List.range n).map fun z => enA (d (swr σ a b x z))))])) 1 [] ?_ ?_
 . simp only [go_sem, AObj.bel, AObj.ren, AV.ren, aB, sg, Int.natCast_zero, bLd] <;> simp
 rintro i hi
 refine aA fun k2 => (aj) ((cdB) ?_ ?_) <;> intro hc1
 . have hie : i = m := by have h9 : ¬ i < m := (by simpa using hc1); omega
   subst hie
   refine we ((jt) ?_)
   refine ⟨[], ?_⟩; exact Bi
 have hlt : i < m := by simpa using hc1
 refine wk (k2 (aA fun k4 => wb ?_))
 have hrow : (((List.range n).map fun z => (.agg [.raw (.string (d (swr σ a b i z)).key), .raw (.int .i64 (d (swr σ a b i z)).seq), .raw (.int .i64 (d (swr σ a b i z)).kind), .raw (.string (d (swr σ a b i z)).text), .raw (.int .i64 (d (swr σ a b i z)).n)])).set (a + i) (.agg [.raw (.string (d (swr σ a b i (b + i))).key), .raw (.int .i64 (d (swr σ a b i (b + i))).seq), .raw (.int .i64 (d (swr σ a b i (b + i))).kind), .raw (.string (d (swr σ a b i (b + i))).text), .raw (.int .i64 (d (swr σ a b i (b + i))).n)])).set (b + i) (.agg [.raw (.string (d (swr σ a b i (a + i))).key), .raw (.int .i64 (d (swr σ a b i (a + i))).seq), .raw (.int .i64 (d (swr σ a b i (a + i))).kind), .raw (.string (d (swr σ a b i (a + i))).text), .raw (.int .i64 (d (swr σ a b i (a + i))).n)]) = (List.range n).map fun z => enA (d (swr σ a b (i + 1) z)) := by
   have h9 := aUk d n (swr σ a b i) (p := a + i) (q := b + i) og og
   rw [bHh σ og] at h9; exact h9
 have hs1 : ∀ (y : AV), (((List.range n).map fun z => (.agg [.raw (.string (d (swr σ a b i z)).key), .raw (.int .i64 (d (swr σ a b i z)).seq), .raw (.int .i64 (d (swr σ a b i z)).kind), .raw (.string (d (swr σ a b i z)).text), .raw (.int .i64 (d (swr σ a b i z)).n)])).set (a + i) y)[b + i]? = ((List.range n).map fun z => (.agg [.raw (.string (d (swr σ a b i z)).key), .raw (.int .i64 (d (swr σ a b i z)).seq), .raw (.int .i64 (d (swr σ a b i z)).kind), .raw (.string (d (swr σ a b i z)).text), .raw (.int .i64 (d (swr σ a b i z)).n)]))[b + i]? := fun y => aKq og y
 have hr1 : (List.range n)[a + i]? = some (a + i) := C6 og
 have hr2 : (List.range n)[b + i]? = some (b + i) := C6 og
 have hwa := wr ((a : Int) + (i : Int)) (((a + i : Nat) : Int)) og
 have hwb := wr ((b : Int) + (i : Int)) (((b + i : Nat) : Int)) og
 refine cQ mixed rfl ?_
 refine (Cw hwa hwb hr1 hr2 hs1) ((jr) ?_)
 rw [hrow]
 refine (jy) ((jt) (k4 ((jw (wiS i og)) ((jt) ?_))))
 refine ⟨i + 1, og, og, [], ?_⟩
 exact Am
def mY (d : Nat -> Entry) (n : Nat) (σ : Nat -> Nat) (hn : n <= 1048576) (a m b : Nat) (h1 : a < m) (h2 : m < b) (h3 : b <= n) : aO P 159 [.ref 0, Ni (a : Int), Ni (m : Int), Ni (b : Int), gS] [(0, cS d n σ)] 1 (.tup []) [(0, cS d n (rot σ a m b))] 1 := by
 refine (gq 58 [] func159) ?_
 simp only [cS, gS]
 obtain ⟨i0, hi0⟩ : ∃ i0, i0 = m - a := ⟨_, rfl⟩
 obtain ⟨j0, hj0⟩ : ∃ j0, j0 = b - m := ⟨_, rfl⟩
 have hw1 := wr ((m : Int) - (a : Int)) ((i0 : Int)) og
 have hw2 := wr ((b : Int) - (m : Int)) ((j0 : Int)) og
 have ea : a = m - i0 := by omega
 have eb : b = m + j0 := by omega
 refine sr rfl fun k1 => (Aa hw1) (k1 (sr rfl fun k2 => (Aa hw2) (k2 (aA fun k3 => wb ?_))))
 refine wl (α := Nat × Nat × (Nat -> Nat)) (fun x => 0 < x.1 /\ 0 < x.2.1 /\ x.1 <= i0 /\ x.2.1 <= j0 /\ rot x.2.2 (m - x.1) m (m + x.2.1) = rot σ a m b) (fun x => x.1 + x.2.1) (fun x => ([(0, .ref 0), (2, Ni (m : Int)), (4, .fn (.func 45) [] []), (10, Ni (x.1 : Int)), (11, Ni (x.2.1 : Int))], [(0, .row 43 5 ((List.range n).map fun z => enA (d (x.2.2 z))))])) 1 (i0, j0, σ) ⟨by simp only; omega, by simp only; omega, A0 _, A0 _, by rw [<- ea, <- eb]⟩ [] ?_ ?_
 . exact Am
 rintro ⟨i, j, τ⟩ ⟨hi, hj, hi0, hj0, hrot⟩
 simp only at hi hj hi0 hj0 hrot ⊢
 refine aA fun k4 => (aj) ((cdB) ?_ ?_) <;> intro hc1
 . have hij : i = j := by simp at hc1; omega
   subst hij
   have hfin : swr τ (m - i) m i = rot σ a m b := by rw [bQh τ og]; exact hrot
   refine we ((jt) (k3 ?_))
   have hwi := wr ((m : Int) - (i : Int)) (((m - i : Nat) : Int)) og
   refine wg rfl ((Aa hwi) ?_)
   refine vg [] 0 rfl rfl rfl ⟨func181, rfl, rfl⟩ (cM d n τ hn (m - i) m i og og) rfl Al Al (mZ (H1 := []) (.inl rfl) Bb Bc) (.inl rfl) ?_
   refine (Ba) ?_
   rw [hfin]; refine ⟨[], ?_⟩; exact Bi
 have hne : i ≠ j := by intro e; subst e; simp at hc1
 refine wk (k4 (wb ?_))
 have hwi := wr ((m : Int) - (i : Int)) (((m - i : Nat) : Int)) og
 have hwj0 := wr (((m + j : Nat) : Int) - (i : Int)) (((m + j - i : Nat) : Int)) og
 have hwm := wr ((m : Int) + (j : Int)) (((m + j : Nat) : Int)) og
 have hwj : IntKind.i64.wrap (IntKind.i64.wrap ((m : Int) + (j : Int)) - (i : Int)) = ((m + j - i : Nat) : Int) := by rw [hwm, hwj0]
 refine (aj) ((cdA) ?_ ?_) <;> intro hc2
 . have hgt : j < i := by simpa using hc2
   refine sr rfl fun k7 => (Aa hwi) ?_
   refine vg [] 0 rfl rfl rfl ⟨func181, rfl, rfl⟩ (cM d n τ hn (m - i) m j og og) rfl Al Al (mZ (H1 := []) (.inl rfl) Bb Bc) (.inl rfl) ?_
   refine (Ba) (k7 ?_)
   have hwi2 := wr ((i : Int) - (j : Int)) (((i - j : Nat) : Int)) og
   refine wg rfl ((Aa hwi2) ((jt) ((jt) ?_)))
   refine ⟨(i - j, j, swr τ (m - i) m j), ⟨by simp only; omega, hj, by simp only; omega, hj0, by simp only; rw [bMx τ hgt og hj]; exact hrot⟩, by simp only; omega, [], ?_⟩
   exact Am
 have hgt : i < j := by have h9 : ¬ j < i := (by simpa using hc2); omega
 refine sr rfl fun k8 => (Aq hwi hwj) ?_
 refine vg [] 0 rfl rfl rfl ⟨func181, rfl, rfl⟩ (cM d n τ hn (m - i) (m + j - i) i og og) rfl Al Al (mZ (H1 := []) (.inl rfl) Bb Bc) (.inl rfl) ?_
 refine (Ba) (k8 ?_)
 have hwj2 := wr ((j : Int) - (i : Int)) (((j - i : Nat) : Int)) og
 refine wg rfl ((Aa hwj2) ((jt) ((jt) ?_)))
 refine ⟨(i, j - i, swr τ (m - i) (m + j - i) i), ⟨hi, by simp only; omega, hi0, by simp only; omega, by simp only; rw [bFn τ hgt og hi]; exact hrot⟩, by simp only; omega, [], ?_⟩
 exact Am
def dM (d : Nat -> Entry) (n : Nat) (σ : Nat -> Nat) (hn : n <= 1048576) (a b : Nat) (h2 : b <= n) (ha : a <= b) : aO P 133 [.ref 0, Ni (a : Int), Ni (b : Int), gS] [(0, cS d n σ)] 1 (.tup []) [(0, cS d n (gL (lE d) σ a b))] 1 := by
 refine (gq 53 [] func133) ?_
 simp only [cS, gS]
 have hw0 := wiS a og
 refine sr rfl fun k1 => (Aa hw0) (k1 (wb ?_))
 refine wl (α := Nat × (Nat -> Nat)) (fun x => a + 1 <= x.1 /\ x.1 <= b + 1 /\ yF (lE d) a (b - x.1) x.1 x.2 = gL (lE d) σ a b) (fun x => b - x.1) (fun x => ([(0, .ref 0), (1, Ni (a : Int)), (2, Ni (b : Int)), (3, .fn (.func 45) [] []), (8, Ni (x.1 : Int))], [(0, .row 43 5 ((List.range n).map fun z => enA (d (x.2 z))))])) 1 (a + 1, σ) ⟨A0 _, by simp only; omega, rfl⟩ [] ?_ ?_
 . exact Am
 rintro ⟨i, τ⟩ ⟨hi, hib, hgo⟩
 simp only at hi hib hgo ⊢
 refine aA fun k2 => (aj) ((cdB) ?_ ?_) <;> intro hc1
 . have hge : b - i = 0 := by have h9 : ¬ i < b := (by simpa using hc1); omega
   rw [hge, yF] at hgo
   refine we ((jt) ?_)
   rw [<- hgo]; refine ⟨[], ?_⟩; exact Bi
 have hlt : i < b := by simpa using hc1
 refine wk (k2 (aA fun k4 => wb ((aj) (wb ?_))))
 refine wl (α := Nat × (Nat -> Nat)) (fun x => a <= x.1 /\ x.1 <= i /\ zV (lE d) a x.1 x.2 = zV (lE d) a i τ) (fun x => x.1) (fun x => ([(0, .ref 0), (1, Ni (a : Int)), (2, Ni (b : Int)), (3, .fn (.func 45) [] []), (8, Ni (i : Int)), (9, Ni (x.1 : Int))], [(0, .row 43 5 ((List.range n).map fun z => enA (d (x.2 z))))])) 1 (i, τ) ⟨by simp only; omega, A0 _, rfl⟩ [] ?_ ?_
 . exact Am
 rintro ⟨j, υ⟩ ⟨hj, hji, hsk⟩
 simp only at hj hji hsk ⊢
 refine aA fun k6 => ?_
 have hr1 : (List.range n)[j]? = some j := C6 og
 have hr2 : (List.range n)[j - 1]? = some (j - 1) := C6 og
 have hw1 := wr ((j : Int) - 1) ((j : Int) - 1) og
 have hpn : ((j : Int) - 1).toNat = j - 1 := by omega
 refine sd mixed rfl fun k7 => ?_
 simp only [go_sem, hr1, hr2, hw1, hpn, enA, D0, A6, D7]
 refine (jr) ?_
 refine tfg (first := []) (cap := []) (xs := [enA (d (υ j)), enA (d (υ (j - 1)))]) rfl rfl rfl rfl rfl rfl (fun _ => by rfl) ⟨func45, rfl, rfl⟩ (fun hg => gP (d (υ j)) (d (υ (j - 1)))) oG (fun hg => by rfl) (by rfl) Ae trivial ?_
 simp only [go_sem, pO]
 refine (jr) ((jy) (k7 ((cdB) ?_ ?_))) <;> intro hc2
 . have hfin : zV (lE d) a i τ = υ := by
     rw [<- hsk]
     refine bEo fun h => ?_
     have h8 : decide ((a : Int) < (j : Int)) = true := by rw [decide_eq_true_eq]; omega
     rw [h8, Bool.true_and] at hc2
     have h7 : entLt (d (υ j)) (d (υ (j - 1))) = true := h.2
     rw [h7] at hc2; cases hc2
   refine we ((jt) ((jt) (k4 ((jw (wiS i og)) ((jt) ?_)))))
   refine ⟨(i + 1, υ), ⟨by simp only; omega, by simp only; omega, by simp only; rw [bBf hlt, hfin] at hgo; exact hgo⟩, by simp only; omega, [], ?_⟩
   exact Am
 . have haj : a < j := by simp at hc2; omega
   have hlj : lE d (υ j) (υ (j - 1)) = true := by simp only [B7] at hc2; exact hc2.2
   refine wk (k6 (aA fun k8 => wb ?_))
   clear hr1 hr2
   have hrow : (((List.range n).map fun z => (.agg [.raw (.string (d (υ z)).key), .raw (.int .i64 (d (υ z)).seq), .raw (.int .i64 (d (υ z)).kind), .raw (.string (d (υ z)).text), .raw (.int .i64 (d (υ z)).n)])).set (j) (.agg [.raw (.string (d (υ (j - 1))).key), .raw (.int .i64 (d (υ (j - 1))).seq), .raw (.int .i64 (d (υ (j - 1))).kind), .raw (.string (d (υ (j - 1))).text), .raw (.int .i64 (d (υ (j - 1))).n)])).set (j - 1) (.agg [.raw (.string (d (υ (j))).key), .raw (.int .i64 (d (υ (j))).seq), .raw (.int .i64 (d (υ (j))).kind), .raw (.string (d (υ (j))).text), .raw (.int .i64 (d (υ (j))).n)]) = (List.range n).map fun z => enA (d (swp υ j (j - 1) z)) := by
     have h9 := aUk d n (υ) (p := j) (q := j - 1) og og
     skip; exact h9
   have hs1 : ∀ (y : AV), (((List.range n).map fun z => (.agg [.raw (.string (d (υ z)).key), .raw (.int .i64 (d (υ z)).seq), .raw (.int .i64 (d (υ z)).kind), .raw (.string (d (υ z)).text), .raw (.int .i64 (d (υ z)).n)])).set (j) y)[j - 1]? = ((List.range n).map fun z => (.agg [.raw (.string (d (υ z)).key), .raw (.int .i64 (d (υ z)).seq), .raw (.int .i64 (d (υ z)).kind), .raw (.string (d (υ z)).text), .raw (.int .i64 (d (υ z)).n)]))[j - 1]? := fun y => aKq og y
   have hr1 : (List.range n)[j]? = some (j) := C6 og
   have hr2 : (List.range n)[j - 1]? = some (j - 1) := C6 og
   refine cQ mixed rfl ?_
   refine (Cw hr1 hr2 hw1 hpn hs1) ((jr) ?_)
   rw [hrow]
   refine (jy) ((jt) (k8 ?_))
   have hw5 := wr ((j : Int) - 1) (((j - 1 : Nat) : Int)) og
   refine wg rfl ((Aa hw5) ((jt) ?_))
   refine ⟨(j - 1, swp υ j (j - 1)), ⟨by simp only; omega, by simp only; omega, by simp only; rw [bFl haj hlj] at hsk; exact hsk⟩, by simp only; omega, [], ?_⟩
   exact Am
set_option maxHeartbeats 2000000 in
def aSo (d : Nat -> Entry) (n : Nat) (σ : Nat -> Nat) (hn : n <= 1048576) (f : Nat) (ih : ∀ (σ : Nat -> Nat) (a m b : Nat), b - a <= f -> a < m -> m < b -> b <= n -> aO P 134 [.ref 0, Ni (a : Int), Ni (m : Int), Ni (b : Int), gS] [(0, cS d n σ)] 1 (.tup []) [(0, cS d n (lX (lE d) f σ a m b))] 1) (a m b : Nat) (hf : b - a <= f + 1) (h1 : a < m) (h2 : m < b) (h3 : b <= n) : aO P 134 [.ref 0, Ni (a : Int), Ni (m : Int), Ni (b : Int), gS] [(0, cS d n σ)] 1 (.tup []) [(0, cS d n (lX (lE d) (f + 1) σ a m b))] 1 := by
 refine (gq 220 [] func134) ?_
 simp only [cS, gS]
 have hw0 := wr ((m : Int) - (a : Int)) ((m : Int) - (a : Int)) og
 have hw12 := wr ((b : Int) - (m : Int)) ((b : Int) - (m : Int)) og
 refine aA fun k1 => sr rfl fun k2 => (Aa hw0) (k2 ((cdA) ?_ ?_)) <;> intro hc1
 . have hm : m = a + 1 := by simp at hc1; omega
   subst hm
   obtain ⟨e, he⟩ : ∃ e, e = gX (fun h => !lE d (σ h) (σ a)) b (a + 1) b := ⟨_, rfl⟩
   have hA : lX (lE d) (f + 1) σ a (a + 1) b = rot σ a (a + 1) e := by rw [lX, if_pos og, <- he]
   have hbe := Plain.bs_ok (fun h => !lE d (σ h) (σ a)) (f := b) (s := a + 1) (r := b) og og
   rw [<- he] at hbe
   refine (aj) ((aj) ?_)
   refine aA fun k5 => wb ?_
   refine wl (α := Nat × Nat) (fun x => a + 1 <= x.1 /\ x.1 <= x.2 /\ x.2 <= b /\ gX (fun h => !lE d (σ h) (σ a)) b x.1 x.2 = e) (fun x => x.2 - x.1) (fun x => ([(0, .ref 0), (1, Ni (a : Int)), (4, .fn (.func 45) [] []), (10, Ni (x.1 : Int)), (11, Ni (x.2 : Int))], [(0, .row 43 5 ((List.range n).map fun z => enA (d (σ z))))])) 1 (a + 1, b) ⟨A0 _, by simp only; omega, A0 _, he.symm⟩ [] ?_ ?_
   . exact Am
   rintro ⟨i, j⟩ ⟨hi, hij, hj, hbs⟩
   simp only at hi hij hj hbs ⊢
   refine aA fun k6 => (aj) ((cdA) ?_ ?_) <;> intro hc2
   . have hlt : i < j := by simpa using hc2
     refine wk (k6 (wb ?_))
     have hma := wr ((i : Int) + (j : Int)) (((i + j : Nat) : Int)) og
     have hmb : IntKind.u64.wrap ((i + j : Nat) : Int) = ((i + j : Nat) : Int) := by rw [IntKind.wrap_u64]; omega
     have hmc : Int.fdiv ((i + j : Nat) : Int) (2 ^ min (Int.toNat 1) 64) = (((i + j) / 2 : Nat) : Int) := by show Int.fdiv ((i + j : Nat) : Int) 2 = _; rw [Int.fdiv_eq_ediv_of_nonneg _ og]; omega
     have hmd := wr (((i + j) / 2 : Nat) : Int) ((((i + j) / 2 : Nat) : Int)) og
     refine sr rfl fun k8 => (Bp hma hmb hmc hmd) ((jr) (k8 ?_))
     have hr1 : (List.range n)[(i + j) / 2]? = some ((i + j) / 2) := C6 og
     have hr2 : (List.range n)[a]? = some (a) := C6 og
     refine sd mixed rfl fun k9 => ?_
     simp only [go_sem, hr1, hr2, enA, D0, A6, D7]
     refine (jr) ?_
     refine tf (first := []) (cap := []) (xs := [enA (d (σ ((i + j) / 2))), enA (d (σ a))]) rfl rfl rfl (by rfl) ⟨func45, rfl, rfl⟩ (gP (d (σ ((i + j) / 2))) (d (σ a))) (by rfl) (by rfl) Ae ?_
     simp only [go_sem, pO]
     refine (jr) ((jy) (k9 ((cdA) ?_ ?_))) <;> intro hc3
     . have hwh := wr ((((i + j) / 2 : Nat) : Int) + 1) ((((i + j) / 2 + 1 : Nat) : Int)) og
       refine wg rfl ((Aa hwh) ((jt) ((jt) ?_)))
       refine ⟨((i + j) / 2 + 1, j), ⟨by simp only; omega, by simp only; omega, by simp only; omega, by simp only; rw [zJ hlt og, if_neg (by simp only [lE] at *; rw [hc3]; simp)] at hbs; exact hbs⟩, by simp only; omega, [], ?_⟩
       exact Am
     refine wg rfl ((ja) ((jt) ((jt) ?_)))
     refine ⟨(i, (i + j) / 2), ⟨by simp only; omega, by simp only; omega, by simp only; omega, by simp only; rw [zJ hlt og, if_pos (by simp only [lE] at *; rw [hc3]; rfl)] at hbs; exact hbs⟩, by simp only; omega, [], ?_⟩
     exact Am
   have hlt : ¬ i < j := by simpa using hc2
   have hie : e = i := by rw [<- hbs]; exact aTd hlt
   subst hie
   refine we ((jt) (k5 (aA fun k10 => (aj) (wb ?_))))
   refine wl (α := Nat) (fun x => a <= x /\ x + 1 <= e) (fun x => e - x) (fun x => ([(0, .ref 0), (10, Ni (e : Int)), (13, Ni (x : Int))], [(0, .row 43 5 ((List.range n).map fun z => enA (d (rot σ a (a + 1) (x + 1) z))))])) 1 a ⟨A0 _, og⟩ [] ?_ ?_
   . simp only [go_sem, AObj.bel, AObj.ren, AV.ren, aB, sg, bOf] <;> simp
   rintro k ⟨hk, hke⟩
   refine aA fun k12 => ?_
   have hwe := wr ((e : Int) - 1) ((e : Int) - 1) og
   refine sr rfl fun k13 => (Aa hwe) (k13 ((cdB) ?_ ?_)) <;> intro hc4
   . have hke : k + 1 = e := by simp at hc4; omega
     refine we ((jt) (k10 (wR ?_)))
     rw [hA, <- hke]; refine ⟨[], ?_⟩; exact Bi
   have hlt : k + 1 < e := by simp at hc4; omega
   refine wk (k12 (aA fun k14 => wb ?_))
   have hrow : (((List.range n).map fun z => (.agg [.raw (.string (d (rot σ a (a + 1) (k + 1) z)).key), .raw (.int .i64 (d (rot σ a (a + 1) (k + 1) z)).seq), .raw (.int .i64 (d (rot σ a (a + 1) (k + 1) z)).kind), .raw (.string (d (rot σ a (a + 1) (k + 1) z)).text), .raw (.int .i64 (d (rot σ a (a + 1) (k + 1) z)).n)])).set (k) (.agg [.raw (.string (d (rot σ a (a + 1) (k + 1) (k + 1))).key), .raw (.int .i64 (d (rot σ a (a + 1) (k + 1) (k + 1))).seq), .raw (.int .i64 (d (rot σ a (a + 1) (k + 1) (k + 1))).kind), .raw (.string (d (rot σ a (a + 1) (k + 1) (k + 1))).text), .raw (.int .i64 (d (rot σ a (a + 1) (k + 1) (k + 1))).n)])).set (k + 1) (.agg [.raw (.string (d (rot σ a (a + 1) (k + 1) (k))).key), .raw (.int .i64 (d (rot σ a (a + 1) (k + 1) (k))).seq), .raw (.int .i64 (d (rot σ a (a + 1) (k + 1) (k))).kind), .raw (.string (d (rot σ a (a + 1) (k + 1) (k))).text), .raw (.int .i64 (d (rot σ a (a + 1) (k + 1) (k))).n)]) = (List.range n).map fun z => enA (d (rot σ a (a + 1) (k + 2) z)) := by
     have h9 := aUk d n (rot σ a (a + 1) (k + 1)) (p := k) (q := k + 1) og og
     rw [bQi σ og] at h9; exact h9
   have hs1 : ∀ (y : AV), (((List.range n).map fun z => (.agg [.raw (.string (d (rot σ a (a + 1) (k + 1) z)).key), .raw (.int .i64 (d (rot σ a (a + 1) (k + 1) z)).seq), .raw (.int .i64 (d (rot σ a (a + 1) (k + 1) z)).kind), .raw (.string (d (rot σ a (a + 1) (k + 1) z)).text), .raw (.int .i64 (d (rot σ a (a + 1) (k + 1) z)).n)])).set (k) y)[k + 1]? = ((List.range n).map fun z => (.agg [.raw (.string (d (rot σ a (a + 1) (k + 1) z)).key), .raw (.int .i64 (d (rot σ a (a + 1) (k + 1) z)).seq), .raw (.int .i64 (d (rot σ a (a + 1) (k + 1) z)).kind), .raw (.string (d (rot σ a (a + 1) (k + 1) z)).text), .raw (.int .i64 (d (rot σ a (a + 1) (k + 1) z)).n)]))[k + 1]? := fun y => aKq og y
   have hr1 : (List.range n)[k]? = some (k) := C6 og
   have hr2 : (List.range n)[k + 1]? = some (k + 1) := C6 og
   have hwk := wiS k og
   refine cQ mixed rfl ?_
   simp only [go_sem, hr1, hr2, hwk, hs1, enA, D0, A6, D7]
   refine (jr) ?_
   rw [hrow]
   refine (jy) ((jt) (k14 ?_))
   have hwk := wiS k og
   refine wg rfl ((Aa hwk) ((jt) ?_))
   refine ⟨k + 1, ⟨og, og⟩, og, [], ?_⟩
   exact Am
 have hm : ¬ m - a = 1 := by simp at hc1; omega
 refine wk (k1 (aA fun k15 => sr rfl fun k16 => (Aa hw12) (k16 ((cdA) ?_ ?_)))) <;> intro hc5
 . have hb : b = m + 1 := by simp at hc5; omega
   subst hb
   obtain ⟨e, he⟩ : ∃ e, e = gX (fun h => lE d (σ m) (σ h)) m a m := ⟨_, rfl⟩
   have hB : lX (lE d) (f + 1) σ a m (m + 1) = rot σ e m (m + 1) := by rw [lX, if_neg hm, if_pos og, <- he]
   have hbe := Plain.bs_ok (fun h => lE d (σ m) (σ h)) (f := m) (s := a) (r := m) og og
   rw [<- he] at hbe
   refine (aj) ((aj) ?_)
   refine aA fun k19 => wb ?_
   refine wl (α := Nat × Nat) (fun x => a <= x.1 /\ x.1 <= x.2 /\ x.2 <= m /\ gX (fun h => lE d (σ m) (σ h)) m x.1 x.2 = e) (fun x => x.2 - x.1) (fun x => ([(0, .ref 0), (2, Ni (m : Int)), (4, .fn (.func 45) [] []), (14, Ni (x.1 : Int)), (15, Ni (x.2 : Int))], [(0, .row 43 5 ((List.range n).map fun z => enA (d (σ z))))])) 1 (a, m) ⟨A0 _, by simp only; omega, A0 _, he.symm⟩ [] ?_ ?_
   . exact Am
   rintro ⟨i, j⟩ ⟨hi, hij, hj, hbs⟩
   simp only at hi hij hj hbs ⊢
   refine aA fun k20 => (aj) ((cdA) ?_ ?_) <;> intro hc6
   . have hlt : i < j := by simpa using hc6
     refine wk (k20 (wb ?_))
     have hma := wr ((i : Int) + (j : Int)) (((i + j : Nat) : Int)) og
     have hmb : IntKind.u64.wrap ((i + j : Nat) : Int) = ((i + j : Nat) : Int) := by rw [IntKind.wrap_u64]; omega
     have hmc : Int.fdiv ((i + j : Nat) : Int) (2 ^ min (Int.toNat 1) 64) = (((i + j) / 2 : Nat) : Int) := by show Int.fdiv ((i + j : Nat) : Int) 2 = _; rw [Int.fdiv_eq_ediv_of_nonneg _ og]; omega
     have hmd := wr (((i + j) / 2 : Nat) : Int) ((((i + j) / 2 : Nat) : Int)) og
     refine sr rfl fun k22 => (Bp hma hmb hmc hmd) ((jr) (k22 ?_))
     have hr1 : (List.range n)[(i + j) / 2]? = some ((i + j) / 2) := C6 og
     have hr2 : (List.range n)[m]? = some (m) := C6 og
     refine sd mixed rfl fun k23 => ?_
     simp only [go_sem, hr1, hr2, enA, D0, A6, D7]
     refine (jr) ?_
     refine tf (first := []) (cap := []) (xs := [enA (d (σ m)), enA (d (σ ((i + j) / 2)))]) rfl rfl rfl (by rfl) ⟨func45, rfl, rfl⟩ (gP (d (σ m)) (d (σ ((i + j) / 2)))) (by rfl) (by rfl) Ae ?_
     simp only [go_sem, pO]
     refine (jr) ((jy) (k23 ((cdA) ?_ ?_))) <;> intro hc7
     . have hwh := wr ((((i + j) / 2 : Nat) : Int) + 1) ((((i + j) / 2 + 1 : Nat) : Int)) og
       refine wg rfl ((Aa hwh) ((jt) ((jt) ?_)))
       refine ⟨((i + j) / 2 + 1, j), ⟨by simp only; omega, by simp only; omega, by simp only; omega, by simp only; rw [zJ hlt og, if_neg (by simp only [lE] at *; simpa using hc7)] at hbs; exact hbs⟩, by simp only; omega, [], ?_⟩
       exact Am
     refine wg rfl ((ja) ((jt) ((jt) ?_)))
     refine ⟨(i, (i + j) / 2), ⟨by simp only; omega, by simp only; omega, by simp only; omega, by simp only; rw [zJ hlt og, if_pos (by simp only [lE] at *; simpa using hc7)] at hbs; exact hbs⟩, by simp only; omega, [], ?_⟩
     exact Am
   have hlt : ¬ i < j := by simpa using hc6
   have hie : e = i := by rw [<- hbs]; exact aTd hlt
   subst hie
   refine we ((jt) (k19 (aA fun k24 => (aj) (wb ?_))))
   refine wl (α := Nat) (fun x => e <= x /\ x <= m) (fun x => x - e) (fun x => ([(0, .ref 0), (14, Ni (e : Int)), (17, Ni (x : Int))], [(0, .row 43 5 ((List.range n).map fun z => enA (d (rot σ x m (m + 1) z))))])) 1 m ⟨og, A0 _⟩ [] ?_ ?_
   . simp only [go_sem, AObj.bel, AObj.ren, AV.ren, aB, sg, bNj] <;> simp
   rintro k ⟨hk, hkm⟩
   refine aA fun k26 => (aj) ((cdB) ?_ ?_) <;> intro hc8
   . have hke : k = e := by have h9 : ¬ e < k := (by simpa using hc8); omega
     refine we ((jt) (k24 (wR ?_)))
     rw [hB, <- hke]; refine ⟨[], ?_⟩; exact Bi
   have hlt : e < k := by simpa using hc8
   refine wk (k26 (aA fun k28 => wb ?_))
   have hrow : (((List.range n).map fun z => (.agg [.raw (.string (d (rot σ k m (m + 1) z)).key), .raw (.int .i64 (d (rot σ k m (m + 1) z)).seq), .raw (.int .i64 (d (rot σ k m (m + 1) z)).kind), .raw (.string (d (rot σ k m (m + 1) z)).text), .raw (.int .i64 (d (rot σ k m (m + 1) z)).n)])).set (k) (.agg [.raw (.string (d (rot σ k m (m + 1) (k - 1))).key), .raw (.int .i64 (d (rot σ k m (m + 1) (k - 1))).seq), .raw (.int .i64 (d (rot σ k m (m + 1) (k - 1))).kind), .raw (.string (d (rot σ k m (m + 1) (k - 1))).text), .raw (.int .i64 (d (rot σ k m (m + 1) (k - 1))).n)])).set (k - 1) (.agg [.raw (.string (d (rot σ k m (m + 1) (k))).key), .raw (.int .i64 (d (rot σ k m (m + 1) (k))).seq), .raw (.int .i64 (d (rot σ k m (m + 1) (k))).kind), .raw (.string (d (rot σ k m (m + 1) (k))).text), .raw (.int .i64 (d (rot σ k m (m + 1) (k))).n)]) = (List.range n).map fun z => enA (d (rot σ (k - 1) m (m + 1) z)) := by
     have h9 := aUk d n (rot σ k m (m + 1)) (p := k) (q := k - 1) og og
     rw [bPp σ og og] at h9; exact h9
   have hs1 : ∀ (y : AV), (((List.range n).map fun z => (.agg [.raw (.string (d (rot σ k m (m + 1) z)).key), .raw (.int .i64 (d (rot σ k m (m + 1) z)).seq), .raw (.int .i64 (d (rot σ k m (m + 1) z)).kind), .raw (.string (d (rot σ k m (m + 1) z)).text), .raw (.int .i64 (d (rot σ k m (m + 1) z)).n)])).set (k) y)[k - 1]? = ((List.range n).map fun z => (.agg [.raw (.string (d (rot σ k m (m + 1) z)).key), .raw (.int .i64 (d (rot σ k m (m + 1) z)).seq), .raw (.int .i64 (d (rot σ k m (m + 1) z)).kind), .raw (.string (d (rot σ k m (m + 1) z)).text), .raw (.int .i64 (d (rot σ k m (m + 1) z)).n)]))[k - 1]? := fun y => aKq og y
   have hr1 : (List.range n)[k]? = some (k) := C6 og
   have hr2 : (List.range n)[k - 1]? = some (k - 1) := C6 og
   have hwk := wr ((k : Int) - 1) ((k : Int) - 1) og
   have hpn : ((k : Int) - 1).toNat = k - 1 := by omega
   refine cQ mixed rfl ?_
   refine (Cw hr1 hr2 hwk hpn hs1) ((jr) ?_)
   rw [hrow]
   refine (jy) ((jt) (k28 ?_))
   have hwk2 := wr ((k : Int) - 1) (((k - 1 : Nat) : Int)) og
   refine wg rfl ((Aa hwk2) ((jt) ?_))
   refine ⟨k - 1, ⟨og, og⟩, og, [], ?_⟩
   exact Am
 have hb : ¬ b - m = 1 := by simp at hc5; omega
 have hcut := Plain.symCut_ok (l := lE d) (σ := σ) h1 h2
 obtain ⟨mid, hmid⟩ : ∃ mid, mid = (a + b) / 2 := ⟨_, rfl⟩
 obtain ⟨st, hst⟩ : ∃ st, st = iG (lE d) σ a m b := ⟨_, rfl⟩
 obtain ⟨en, hen⟩ : ∃ en, en = mid + m - st := ⟨_, rfl⟩
 rw [<- hst, <- hmid, <- hen] at hcut
 obtain ⟨k1, k2, k3, k4, k5, -, -⟩ := hcut
 obtain ⟨s0, hs0⟩ : ∃ s0, s0 = if mid < m then mid + m - b else a := ⟨_, rfl⟩
 obtain ⟨r0, hr0⟩ : ∃ r0, r0 = if mid < m then mid else m := ⟨_, rfl⟩
 have he : st = gX (fun c => lE d (σ (mid + m - 1 - c)) (σ c)) b s0 r0 := by rw [hst, hs0, hr0, hmid]; rfl
 have hsb : s0 <= r0 /\ mid + m <= b + s0 /\ r0 <= mid /\ r0 <= m /\ a <= s0 := by rw [hs0, hr0]; split <;> omega
 obtain ⟨σ1, hσ1⟩ : ∃ σ1, σ1 = if st < m /\ m < en then rot σ st m en else σ := ⟨_, rfl⟩
 obtain ⟨σ2, hσ2⟩ : ∃ σ2, σ2 = if a < st /\ st < mid then lX (lE d) f σ1 a st mid else σ1 := ⟨_, rfl⟩
 have hC : lX (lE d) (f + 1) σ a m b = if mid < en /\ en < b then lX (lE d) f σ2 mid en b else σ2 := by
   rw [lX, if_neg hm, if_neg hb]; simp only; rw [hσ2, hσ1, hen, hst, hmid]
 have hmid2 : (a + b) / 2 = mid := hmid.symm
 refine wk (k15 ?_)
 have hma := wr ((a : Int) + (b : Int)) (((a + b : Nat) : Int)) og
 have hmb : IntKind.u64.wrap ((a + b : Nat) : Int) = ((a + b : Nat) : Int) := by rw [IntKind.wrap_u64]; omega
 have hmc : Int.fdiv ((a + b : Nat) : Int) (2 ^ min (Int.toNat 1) 64) = (((a + b) / 2 : Nat) : Int) := by show Int.fdiv ((a + b : Nat) : Int) 2 = _; rw [Int.fdiv_eq_ediv_of_nonneg _ og]; omega
 have hmd := wr (((a + b) / 2 : Nat) : Int) ((((a + b) / 2 : Nat) : Int)) og
 rw [hmid2] at hmc hmd
 refine sr rfl fun k29 => (Bp hma hmb hmc hmd) ((jr) (k29 ?_))
 have hwn := wr ((mid : Int) + (m : Int)) (((mid + m : Nat) : Int)) og
 refine sr rfl fun k30 => (Aa hwn) (k30 ((aj) ?_))
 refine uY (α := Unit) (fun x => True) (fun x => ([(0, .ref 0), (1, Ni (a : Int)), (2, Ni (m : Int)), (3, Ni (b : Int)), (4, .fn (.func 45) [] []), (18, Ni (mid : Int)), (19, Ni ((mid + m : Nat) : Int)), (20, Ni (s0 : Int)), (21, Ni (r0 : Int))], [(0, .row 43 5 ((List.range n).map fun z => enA (d (σ z))))])) 1 ?_ ?_
 . refine (aj) ((cdA) ?_ ?_) <;> intro hc9
   . have hlt : mid < m := by simpa using hc9
     have q1 : s0 = mid + m - b := by rw [hs0, if_pos hlt]
     have q2 : r0 = mid := by rw [hr0, if_pos hlt]
     have hws := wr (((mid + m : Nat) : Int) - (b : Int)) (((mid + m - b : Nat) : Int)) og
     refine sr rfl fun k34 => (Aa hws) (k34 (wg rfl ((ja) ?_)))
     try simp only [aCh]
     refine ⟨(), trivial, [], ?_⟩
     simp only [go_sem, AObj.bel, AObj.ren, AV.ren, aB, sg, Int.natCast_zero] <;> simp [enA, q1, q2]
   have hlt : ¬ mid < m := by simpa using hc9
   have q1 : s0 = a := by rw [hs0, if_neg hlt]
   have q2 : r0 = m := by rw [hr0, if_neg hlt]
   refine (aj) ?_
   refine wg rfl ((ja) ?_)
   try simp only [aCh]
   refine ⟨(), trivial, [], ?_⟩
   simp only [go_sem, AObj.bel, AObj.ren, AV.ren, aB, sg, Int.natCast_zero] <;> simp [enA, q1, q2]
 rintro ⟨⟩ -
 have hwp := wr (((mid + m : Nat) : Int) - 1) (((mid + m - 1 : Nat) : Int)) og
 refine sr rfl fun k36 => (Aa hwp) (k36 (aA fun k37 => wb ?_))
 refine wl (α := Nat × Nat) (fun x => s0 <= x.1 /\ x.1 <= x.2 /\ x.2 <= r0 /\ gX (fun c => lE d (σ (mid + m - 1 - c)) (σ c)) b x.1 x.2 = st) (fun x => x.2 - x.1) (fun x => ([(0, .ref 0), (1, Ni (a : Int)), (2, Ni (m : Int)), (3, Ni (b : Int)), (4, .fn (.func 45) [] []), (18, Ni (mid : Int)), (19, Ni ((mid + m : Nat) : Int)), (20, Ni (x.1 : Int)), (21, Ni (x.2 : Int)), (22, Ni ((mid + m - 1 : Nat) : Int))], [(0, .row 43 5 ((List.range n).map fun z => enA (d (σ z))))])) 1 (s0, r0) ⟨A0 _, by simp only; omega, A0 _, he.symm⟩ [] ?_ ?_
 . exact Am
 rintro ⟨i, j⟩ ⟨hi, hij, hj, hbs⟩
 simp only at hi hij hj hbs ⊢
 refine aA fun k38 => (aj) ((cdA) ?_ ?_) <;> intro hc10
 . have hlt : i < j := by simpa using hc10
   refine wk (k38 (wb ?_))
   have hma := wr ((i : Int) + (j : Int)) (((i + j : Nat) : Int)) og
   have hmb : IntKind.u64.wrap ((i + j : Nat) : Int) = ((i + j : Nat) : Int) := by rw [IntKind.wrap_u64]; omega
   have hmc : Int.fdiv ((i + j : Nat) : Int) (2 ^ min (Int.toNat 1) 64) = (((i + j) / 2 : Nat) : Int) := by show Int.fdiv ((i + j : Nat) : Int) 2 = _; rw [Int.fdiv_eq_ediv_of_nonneg _ og]; omega
   have hmd := wr (((i + j) / 2 : Nat) : Int) ((((i + j) / 2 : Nat) : Int)) og
   refine sr rfl fun k40 => (Bp hma hmb hmc hmd) ((jr) (k40 ?_))
   have hr1 : (List.range n)[mid + m - 1 - (i + j) / 2]? = some (mid + m - 1 - (i + j) / 2) := C6 og
   have hr2 : (List.range n)[(i + j) / 2]? = some ((i + j) / 2) := C6 og
   have hwpc := wr (((mid + m - 1 : Nat) : Int) - (((i + j) / 2 : Nat) : Int)) (((mid + m - 1 - (i + j) / 2 : Nat) : Int)) og
   refine sd mixed rfl fun k41 => ?_
   simp only [go_sem, hr1, hr2, hwpc, enA, D0, A6, D7]
   refine (jr) ?_
   refine tf (first := []) (cap := []) (xs := [enA (d (σ (mid + m - 1 - (i + j) / 2))), enA (d (σ ((i + j) / 2)))]) rfl rfl rfl (by rfl) ⟨func45, rfl, rfl⟩ (gP (d (σ (mid + m - 1 - (i + j) / 2))) (d (σ ((i + j) / 2)))) (by rfl) (by rfl) Ae ?_
   simp only [go_sem, pO]
   refine (jr) ((jy) (k41 ((cdA) ?_ ?_))) <;> intro hc11
   . have hwh := wr ((((i + j) / 2 : Nat) : Int) + 1) ((((i + j) / 2 + 1 : Nat) : Int)) og
     refine wg rfl ((Aa hwh) ((jt) ((jt) ?_)))
     refine ⟨((i + j) / 2 + 1, j), ⟨by simp only; omega, by simp only; omega, by simp only; omega, by simp only; rw [zJ hlt og, if_neg (by simp only [lE] at *; simpa using hc11)] at hbs; exact hbs⟩, by simp only; omega, [], ?_⟩
     exact Am
   refine wg rfl ((ja) ((jt) ((jt) ?_)))
   refine ⟨(i, (i + j) / 2), ⟨by simp only; omega, by simp only; omega, by simp only; omega, by simp only; rw [zJ hlt og, if_pos (by simp only [lE] at *; simpa using hc11)] at hbs; exact hbs⟩, by simp only; omega, [], ?_⟩
   exact Am
 have hlt : ¬ i < j := by simpa using hc10
 have hie : st = i := by rw [<- hbs]; exact aTd hlt
 rw [<- hie]
 refine we ((jt) (k37 ?_))
 have hwen := wr (((mid + m : Nat) : Int) - (st : Int)) ((en : Int)) og
 refine sr rfl fun k42 => (Aa hwen) (k42 ?_)
 refine uY (α := Unit) (fun x => True) (fun x => ([(0, .ref 0), (1, Ni (a : Int)), (3, Ni (b : Int)), (4, .fn (.func 45) [] []), (18, Ni (mid : Int)), (20, Ni (st : Int)), (24, Ni (en : Int))], [(0, .row 43 5 ((List.range n).map fun z => enA (d (σ1 z))))])) 1 ?_ ?_
 . refine (aj) ((cdB) ?_ ?_) <;> intro hc12
   . have hx : ¬ (st < m /\ m < en) := by intro h; simp at hc12; omega
     have q1 : σ1 = σ := by rw [hσ1, if_neg hx]
     refine wk ?_; try simp only [aCh]
     refine ⟨(), trivial, [], ?_⟩
     simp only [go_sem, AObj.bel, AObj.ren, AV.ren, aB, sg, Int.natCast_zero] <;> simp [enA, q1]
   have hx : st < m /\ m < en := by simp at hc12; omega
   have q1 : σ1 = rot σ st m en := by rw [hσ1, if_pos hx]
   refine wg rfl ((ja) ?_)
   refine vg [] 0 rfl rfl rfl ⟨func159, rfl, rfl⟩ (mY d n σ hn st m en hx.1 hx.2 og) rfl Al Al (mZ (H1 := []) (.inl rfl) Bb Bc) (.inl rfl) ?_
   refine (Ba) ?_
   try simp only [aCh]
   refine ⟨(), trivial, [], ?_⟩
   simp only [go_sem, AObj.bel, AObj.ren, AV.ren, aB, sg, Int.natCast_zero] <;> simp [enA, q1]
 rintro ⟨⟩ -
 refine uY (α := Unit) (fun x => True) (fun x => ([(0, .ref 0), (3, Ni (b : Int)), (4, .fn (.func 45) [] []), (18, Ni (mid : Int)), (24, Ni (en : Int))], [(0, .row 43 5 ((List.range n).map fun z => enA (d (σ2 z))))])) 1 ?_ ?_
 . refine (aj) ((cdB) ?_ ?_) <;> intro hc13
   . have hx : ¬ (a < st /\ st < mid) := by intro h; simp at hc13; omega
     have q1 : σ2 = σ1 := by rw [hσ2, if_neg hx]
     refine wk ?_; try simp only [aCh]
     refine ⟨(), trivial, [], ?_⟩
     simp only [go_sem, AObj.bel, AObj.ren, AV.ren, aB, sg, Int.natCast_zero] <;> simp [enA, q1]
   have hx : a < st /\ st < mid := by simp at hc13; omega
   have q1 : σ2 = lX (lE d) f σ1 a st mid := by rw [hσ2, if_pos hx]
   refine wg rfl ((ja) ?_)
   refine vg [] 0 rfl rfl rfl ⟨func134, rfl, rfl⟩ (ih σ1 a st mid og hx.1 hx.2 og) rfl Al Al (mZ (H1 := []) (.inl rfl) Bb Bc) (.inl rfl) ?_
   refine (Ba) ?_
   try simp only [aCh]
   refine ⟨(), trivial, [], ?_⟩
   simp only [go_sem, AObj.bel, AObj.ren, AV.ren, aB, sg, Int.natCast_zero] <;> simp [enA, q1]
 rintro ⟨⟩ -
 refine (aj) ((cdB) ?_ ?_) <;> intro hc14
 . have hx : ¬ (mid < en /\ en < b) := by intro h; simp at hc14; omega
   rw [hC, if_neg hx]; refine wk ?_; refine ⟨[], ?_⟩; exact Bi
 have hx : mid < en /\ en < b := by simp at hc14; omega
 rw [hC, if_pos hx]
 refine wg rfl ((ja) ?_)
 refine vg [] 0 rfl rfl rfl ⟨func134, rfl, rfl⟩ (ih σ2 mid en b og hx.1 hx.2 h3) rfl Al Al (mZ (H1 := []) (.inl rfl) Bb Bc) (.inl rfl) ?_
 refine (Ba) ?_
 refine ⟨[], ?_⟩; exact Bi
def aCl (d : Nat -> Entry) (n : Nat) (hn : n <= 1048576) : ∀ (f : Nat) (σ : Nat -> Nat) (a m b : Nat), b - a <= f -> a < m -> m < b -> b <= n ->
    aO P 134 [.ref 0, .raw (.int .i64 (a : Int)), .raw (.int .i64 (m : Int)), .raw (.int .i64 (b : Int)), gS] [(0, cS d n σ)] 1 (.tup []) [(0, cS d n (lX (lE d) f σ a m b))] 1
  | 0, _, _, _, _, h, h1, h2, _ => by omega
  | f + 1, σ, a, m, b, h, h1, h2, h3 => aSo d n σ hn f (aCl d n hn f) a m b h h1 h2 h3
end
end Go.Proofs.S
end
section
open Go Go.Abs Go.Proofs Go.Proofs.Tryz
open Go.Plain (mV nF pE nQ aIl gL lX swp rot)
namespace Go.Proofs.S
section
variable {σ : Nat -> Nat} {n bs f a : Nat}
def bKw {l : Nat -> Nat -> Bool} (h : a + bs <= n) : mV l n bs (f + 1) σ a = mV l n bs f (gL l σ a (a + bs)) (a + bs) := by rw [mV, if_pos h]
def bKd {l : Nat -> Nat -> Bool} (h : ¬ a + bs <= n) : mV l n bs f σ a = (σ, a) := by
  cases f with
  | zero => rfl
  | succ f => rw [mV, if_neg h]
def bJo {l : Nat -> Nat -> Bool} (h : a + 2 * bs <= n) : nF l n bs (f + 1) σ a = nF l n bs f (lX l n σ a (a + bs) (a + 2 * bs)) (a + 2 * bs) := by rw [nF, if_pos h]
def bIs {l : Nat -> Nat -> Bool} (h : ¬ a + 2 * bs <= n) : nF l n bs f σ a = (σ, a) := by
  cases f with
  | zero => rfl
  | succ f => rw [nF, if_neg h]
def aQb {l : Nat -> Nat -> Bool} (h : bs < n) : nQ l n (f + 1) bs σ = nQ l n f (2 * bs) (pE l n bs (nF l n bs n σ 0)) := by rw [nQ, if_pos h]
def bGj {l : Nat -> Nat -> Bool} (h : ¬ bs < n) : nQ l n f bs σ = σ := by
  cases f with
  | zero => rfl
  | succ f => rw [nQ, if_neg h]
def bIz (l : Nat -> Nat -> Bool) (n : Nat) (h : mV l n 20 n id 0 = (σ, a)) : aIl l n = nQ l n n 20 (gL l σ a n) := by unfold aIl; rw [h]
def bF (ls : List Entry) : List Entry := ls.foldl bY []
def bJn (ls : List Entry) (e : Entry) : ∀ k, k <= ls.length -> Plain.pos entLt ls e k = aAi ls e k
  | 0, _ => rfl
  | k + 1, h => by
    unfold Plain.pos aAi; rw [A1 og]; simp only [Option.getD_some]; rw [bJn ls e k og]
def bKu (ls : List Entry) (e : Entry) : Plain.put entLt ls e = bY ls e := by
  unfold Plain.put bY aCg; rw [bJn ls e ls.length (A0 _)]
def tY (ls : List Entry) : bF ls = ls.foldl (Plain.put entLt) [] := by
  unfold bF
  have : bY = Plain.put entLt := by funext a b; exact (bKu a b).symm
  rw [this]
def dOf (ls : List Entry) : Nat -> Entry := fun k => ls.getD k nM
def bDh {ls : List Entry} {k : Nat} (h : k < ls.length) : ls[k]? = some (dOf ls k) := by simp [dOf, E7, A1 h]
def bNe (ls : List Entry) : ls.map enA = (List.range ls.length).map fun k => enA (dOf ls (id k)) := by
  refine List.ext_getElem? fun i => ?_
  rw [B4, B4]
  by_cases h : i < ls.length
  . rw [bDh h, C6 h]; rfl
  rw [E3 og, E3 (by simp; omega)]; rfl
def bIl (ls : List Entry) : ((List.range ls.length).map fun k => enA (dOf ls (aIl (lE (dOf ls)) ls.length k))) = (bF ls).map enA := by
  rw [tY, <- Plain.stab_list (lt := entLt) (dOf ls) ls (fun i hi => bDh hi) (qG.orders _), List.map_map]; rfl
def gU (ls : List Entry) : (bF ls).Perm ls := by rw [tY]; exact (Plain.put_sorted qG ls).2
def mL (ls : List Entry) : (bF ls).length = ls.length := (gU ls).length_eq
def bKo (a b : Nat) : ∀ (i : Nat) (out : Int), aNa (a : Int) (b : Int) i out = out * 2 ^ i + (((a ||| b) % 2 ^ i : Nat) : Int)
  | 0, out => by simp [aNa, Nat.mod_one]
  | i + 1, out => by
    unfold aNa
    have hT : orT (a : Int) (b : Int) i = (a ||| b).testBit i := by
      unfold orT; rw [Nat.testBit_or, Nat.testBit_eq_decide_div_mod_eq, Nat.testBit_eq_decide_div_mod_eq]
      have h2 : (2 : Int) ^ i = ((2 ^ i : Nat) : Int) := by norm_cast
      rw [h2, <- Int.ofNat_tdiv, <- Int.ofNat_tdiv]
      have e2 : (2 : Int) = ((2 : Nat) : Int) := rfl
      rw [e2, <- Int.ofNat_tmod, <- Int.ofNat_tmod]
      congr 1 <;> exact decide_eq_decide.2 og
    have hm : (a ||| b) % 2 ^ (i + 1) = (a ||| b) % 2 ^ i + (if (a ||| b).testBit i = true then 2 ^ i else 0) := by
      rw [Nat.pow_succ, Nat.mod_mul, Nat.testBit_eq_decide_div_mod_eq]
      rcases Nat.mod_two_eq_zero_or_one ((a ||| b) / 2 ^ i) with h | h
      . rw [h]; simp
      rw [h]; simp
    rw [hT, bKo a b i, hm]
    have h2 : (2 : Int) ^ (i + 1) = 2 * 2 ^ i := by rw [Int.pow_succ]; omega
    have h3 : (((2 ^ i : Nat)) : Int) = (2 : Int) ^ i := by norm_cast
    rw [h2]; split
    . rename_i h
      simp only [if_pos h, Int.natCast_add, h3]; rw [Int.add_mul, Int.mul_assoc]; omega
    rename_i h
    simp only [if_neg h, Nat.add_zero]; rw [Int.mul_assoc]
def bKq (a b : Int) (ha : 0 <= a) (ha1 : a <= 65535) (hb : 0 <= b) (hb1 : b <= 65535) : IntKind.i64.wrap (((BitVec.ofInt 64 a ||| BitVec.ofInt 64 b).toNat : Nat) : Int) = orZ a b := by
  obtain ⟨m, rfl⟩ := Int.eq_ofNat_of_zero_le ha
  obtain ⟨n, rfl⟩ := Int.eq_ofNat_of_zero_le hb
  have hm : m < 2 ^ 16 := by omega
  have hn : n < 2 ^ 16 := by omega
  have h16 := Nat.or_lt_two_pow hm hn
  have e1 : (BitVec.ofInt 64 (m : Int) ||| BitVec.ofInt 64 (n : Int)).toNat = m ||| n := by
    rw [BitVec.toNat_or, BitVec.ofInt_natCast, BitVec.ofInt_natCast, BitVec.toNat_ofNat, BitVec.toNat_ofNat, Nat.mod_eq_of_lt og, Nat.mod_eq_of_lt og]
  rw [e1]; unfold orZ; rw [bKo, Nat.mod_eq_of_lt h16, IntKind.wrap_i64]; omega
def iT (ls : List Entry) : Run × Bool := if (ls.length < 1 ∨ 150 < ls.length) ∨ bU (bF ls) = false then (wW, false) else (⟨bF ls, bS (bF ls)⟩, true)
def nA (d : Nat -> Entry) (n : Nat) (hn : n <= 1048576) : aO P 94 [.ref 0, Ni (n : Int), gS] [(0, cS d n id)] 1 (.tup []) [(0, cS d n (aIl (lE d) n))] 1 := by
 refine (gq 63 [] func94) ?_
 simp only [cS, gS]
 refine (aj) ((aj) ?_)
 refine aA fun k3 => wb ?_
 refine wl (α := Nat × Nat × (Nat -> Nat)) (fun x => x.2.1 <= n /\ n <= x.1 + x.2.1 /\ mV (lE d) n 20 x.1 x.2.2 x.2.1 = mV (lE d) n 20 n id 0) (fun x => n - x.2.1) (fun x => ([(0, .ref 0), (1, Ni (n : Int)), (2, .fn (.func 45) [] []), (6, Ni 20), (7, Ni (x.2.1 : Int)), (8, Ni ((x.2.1 + 20 : Nat) : Int))], [(0, .row 43 5 ((List.range n).map fun z => enA (d (x.2.2 z))))])) 1 (n, 0, id) ⟨A5 _, A0 _, rfl⟩ [] ?_ ?_
 . exact Am
 rintro ⟨f, a, τ⟩ ⟨ha, hf, hgo⟩
 simp only at ha hf hgo ⊢
 refine aA fun k4 => (aj) ((cdA) ?_ ?_) <;> intro hc1
 . have hlt : a + 20 <= n := by simp at hc1; omega
   obtain ⟨g, rfl⟩ : ∃ g, f = g + 1 := ⟨f - 1, og⟩
   refine wk (k4 (wb (sr rfl fun k6 => (ja) ?_)))
   refine vg [] 0 rfl rfl rfl ⟨func133, rfl, rfl⟩ (dM d n τ hn a (a + 20) hlt og) rfl Al Al (mZ (H1 := []) (.inl rfl) Bb Bc) (.inl rfl) ?_
   refine (Ba) (k6 ((aj) ?_))
   have hw5 := wr (((a + 20 : Nat) : Int) + 20) (((a + 20 + 20 : Nat) : Int)) og
   refine wg rfl ((Aa hw5) ((jt) ((jt) ?_)))
   refine ⟨(g, a + 20, gL (lE d) τ a (a + 20)), ⟨by simp only; omega, by simp only; omega, by simp only; rw [bKw hlt] at hgo; exact hgo⟩, by simp only; omega, [], ?_⟩
   exact Am
 have hlt : ¬ a + 20 <= n := by simp at hc1; omega
 rw [bKd hlt] at hgo
 replace hgo := hgo.symm
 refine we ((jt) (k3 (sr rfl fun k8 => (ja) ?_)))
 refine vg [] 0 rfl rfl rfl ⟨func133, rfl, rfl⟩ (dM d n τ hn a n (A0 _) ha) rfl Al Al (mZ (H1 := []) (.inl rfl) Bb Bc) (.inl rfl) ?_
 refine (Ba) (k8 (wb ?_))
 refine wl (α := Nat × Nat × (Nat -> Nat)) (fun x => 20 <= x.2.1 /\ n <= x.1 + x.2.1 /\ x.2.1 <= 2097172 /\ nQ (lE d) n x.1 x.2.1 x.2.2 = aIl (lE d) n) (fun x => n - x.2.1) (fun x => ([(0, .ref 0), (1, Ni (n : Int)), (2, .fn (.func 45) [] []), (6, Ni (x.2.1 : Int))], [(0, .row 43 5 ((List.range n).map fun z => enA (d (x.2.2 z))))])) 1 (n, 20, gL (lE d) τ a n) ⟨A0 _, by simp only; omega, by simp only; omega, (bIz (lE d) n hgo).symm⟩ [] ?_ ?_
 . exact Am
 rintro ⟨f, bs, υ⟩ ⟨hb, hf2, hbm, hst⟩
 simp only at hb hf2 hbm hst ⊢
 refine aA fun k9 => (aj) ((cdB) ?_ ?_) <;> intro hc2
 . have hlt2 : ¬ bs < n := by simp at hc2; omega
   rw [bGj hlt2] at hst
   refine we ((jt) ?_)
   rw [<- hst]; refine ⟨[], ?_⟩; exact Bi
 have hlt2 : bs < n := by simp at hc2; omega
 obtain ⟨g, rfl⟩ : ∃ g, f = g + 1 := ⟨f - 1, og⟩
 refine wk (k9 (wb ?_))
 have hw8 := wr (2 * (bs : Int)) (((2 * bs : Nat) : Int)) og
 refine sr rfl fun k11 => (Aa hw8) (k11 (aA fun k12 => wb ?_))
 refine wl (α := Nat × Nat × (Nat -> Nat)) (fun x => x.2.1 <= n /\ n <= x.1 + x.2.1 /\ nF (lE d) n bs x.1 x.2.2 x.2.1 = nF (lE d) n bs n υ 0) (fun x => n - x.2.1) (fun x => ([(0, .ref 0), (1, Ni (n : Int)), (2, .fn (.func 45) [] []), (6, Ni (bs : Int)), (7, Ni (x.2.1 : Int)), (8, Ni ((x.2.1 + 2 * bs : Nat) : Int))], [(0, .row 43 5 ((List.range n).map fun z => enA (d (x.2.2 z))))])) 1 (n, 0, υ) ⟨A5 _, A0 _, rfl⟩ [] ?_ ?_
 . simp only [go_sem, AObj.bel, AObj.ren, AV.ren, aB, sg, Int.natCast_zero, C3] <;> simp
 rintro ⟨f3, a3, ω⟩ ⟨ha3, hf3, hgo3⟩
 simp only at ha3 hf3 hgo3 ⊢
 refine aA fun k13 => (aj) ((cdA) ?_ ?_) <;> intro hc3
 . have hlt3 : a3 + 2 * bs <= n := by simp at hc3; omega
   obtain ⟨g3, rfl⟩ : ∃ g, f3 = g + 1 := ⟨f3 - 1, og⟩
   refine wk (k13 (wb ?_))
   have hw10 := wr ((a3 : Int) + (bs : Int)) (((a3 + bs : Nat) : Int)) og
   refine sr rfl fun k15 => (Aa hw10) ?_
   refine vg [] 0 rfl rfl rfl ⟨func134, rfl, rfl⟩ (aCl d n hn n ω a3 (a3 + bs) (a3 + 2 * bs) og og og hlt3) rfl Al Al (mZ (H1 := []) (.inl rfl) Bb Bc) (.inl rfl) ?_
   refine (Ba) (k15 ((aj) ?_))
   have hw8 := wr (2 * (bs : Int)) (((2 * bs : Nat) : Int)) og
   have hw12 := wr (((a3 + 2 * bs : Nat) : Int) + ((2 * bs : Nat) : Int)) (((a3 + 2 * bs + 2 * bs : Nat) : Int)) og
   refine wg rfl ((Aq hw8 hw12) ((jt) ((jt) ?_)))
   refine ⟨(g3, a3 + 2 * bs, lX (lE d) n ω a3 (a3 + bs) (a3 + 2 * bs)), ⟨by simp only; omega, by simp only; omega, by simp only; rw [bJo hlt3] at hgo3; exact hgo3⟩, by simp only; omega, [], ?_⟩
   exact Am
 have hlt3 : ¬ a3 + 2 * bs <= n := by simp at hc3; omega
 rw [bIs hlt3] at hgo3
 refine we ((jt) (k12 (aA fun k17 => ?_)))
 have hw13 := wr ((a3 : Int) + (bs : Int)) (((a3 + bs : Nat) : Int)) og
 refine sr rfl fun k18 => (Aa hw13) (k18 ((aj) ((cdB) ?_ ?_))) <;> intro hc4
 . have hx : ¬ a3 + bs < n := by simp at hc4; omega
   have hend : pE (lE d) n bs (nF (lE d) n bs n υ 0) = ω := by rw [<- hgo3]; unfold pE; exact if_neg hx
   refine wk (k17 ?_)
   have hw16 := wr ((bs : Int) * 2) (((2 * bs : Nat) : Int)) og
   refine wg rfl ((Aa hw16) ((jt) ((jt) ?_)))
   refine ⟨(g, 2 * bs, pE (lE d) n bs (nF (lE d) n bs n υ 0)), ⟨by simp only; omega, by simp only; omega, by simp only; omega, by simp only; rw [aQb hlt2] at hst; exact hst⟩, by simp only; omega, [], ?_⟩
   exact Bj hend
 have hx : a3 + bs < n := by simp at hc4; omega
 have hend : pE (lE d) n bs (nF (lE d) n bs n υ 0) = lX (lE d) n ω a3 (a3 + bs) n := by rw [<- hgo3]; unfold pE; exact if_pos hx
 refine wg rfl ((ja) ?_)
 refine vg [] 0 rfl rfl rfl ⟨func134, rfl, rfl⟩ (aCl d n hn n ω a3 (a3 + bs) n og og og (A0 _)) rfl Al Al (mZ (H1 := []) (.inl rfl) Bb Bc) (.inl rfl) ?_
 refine (Ba) (k17 ?_)
 have hw16 := wr ((bs : Int) * 2) (((2 * bs : Nat) : Int)) og
 refine wg rfl ((Aa hw16) ((jt) ((jt) ?_)))
 refine ⟨(g, 2 * bs, pE (lE d) n bs (nF (lE d) n bs n υ 0)), ⟨by simp only; omega, by simp only; omega, by simp only; omega, by simp only; rw [aQb hlt2] at hst; exact hst⟩, by simp only; omega, [], ?_⟩
 exact Bj hend
def bHv (d : Nat -> Entry) (n : Nat) (hn : n <= 1048576) : aO P 44 [.ref 0, gS] [(0, cS d n id)] 1 (.tup []) [(0, cS d n (aIl (lE d) n))] 1 := by
 refine (gq 9 [] func44) ?_
 simp only [cS, gS]; refine wg rfl ?_; simp only [go_sem, D0, A6, D7]
 refine vg [] 0 rfl rfl rfl ⟨func94, rfl, rfl⟩ (nA d n hn) rfl Al Al (mZ (H1 := []) (.inl rfl) Bb Bc) (.inl rfl) ?_
 refine (Ba) ?_
 refine ⟨[], ?_⟩; exact Bi
def aZz (ls : List Entry) (h : ls.length <= 1048576) : aO P 44 [.ref 0, gS] [(0, .row 43 5 (ls.map enA))] 1 (.tup []) [(0, .row 43 5 ((bF ls).map enA))] 1 := by
  have := bHv (dOf ls) ls.length h
  unfold cS at this; rw [bIl, <- bNe] at this; exact this
end
end Go.Proofs.S
end
section
open Go Go.Abs Go.Proofs Go.Proofs.Tryz
namespace Go.Proofs.S
def bIi {ls : List Entry} (h : bU ls = true) : ∀ i, i + 1 < ls.length -> ∀ a b, ls[i]? = some a -> ls[i + 1]? = some b -> entLt a b = true := by
  intro i hi a b ha hb
  have h1 := (C8.1 h) (i + 1) (List.mem_range.2 hi)
  unfold zX at h1; rw [hb] at h1
  have hp : bX ls (i + 1) = a := by unfold bX; rw [Nat.add_sub_cancel, ha]; rfl
  rw [hp] at h1; simp at h1
  exact h1.2
def qT {ls : List Entry} (h : bU ls = true) : ls.Pairwise fun a b => entLt a b = true := by
  refine G3.2 fun i j hi hj hij => ?_
  obtain ⟨d, rfl⟩ : ∃ d, j = i + 1 + d := ⟨j - (i + 1), og⟩
  induction d with
  | zero => exact bIi h i hj _ _ (A1 hi) (A1 hj)
  | succ d ih =>
    have h1 := ih og og
    have h2 := bIi h (i + 1 + d) og _ _ (A1 og) (A1 og)
    exact qG.trans _ _ _ trivial trivial trivial h1 h2
def bHd (ls : List Entry) : (bF ls).Pairwise fun a b => entLt b a = false := by
  rw [tY]; exact (Plain.put_sorted qG ls).1
def aGz {a b : Entry} (h : entLt a b = true) : entLt b a = false := qG.asymm trivial trivial h
def aGl {ls : List Entry} (h : ls.Pairwise fun a b => entLt a b = true) : ∀ x ∈ ls, ∀ y ∈ ls, entLt x y = false -> entLt y x = false -> x = y := by
  intro x hx y hy h1 h2
  obtain ⟨i, hi⟩ := G2 hx
  obtain ⟨j, hj⟩ := G2 hy
  have hil := (B2.1 hi).1
  have hjl := (B2.1 hj).1
  rw [A1 hil] at hi; rw [A1 hjl] at hj
  cases hi; cases hj
  have hp := G3.1 h
  rcases Nat.lt_trichotomy i j with hij | hij | hij
  . rw [hp i j hil hjl hij] at h1; cases h1
  . subst hij; rfl
  rw [hp j i hjl hil hij] at h2; cases h2
def aQl {ls : List Entry} (h : bU ls = true) : bF ls = ls := by
  have hp := qT h
  exact List.Perm.eq_of_pairwise (le := fun a b => entLt b a = false) (fun a b ha hb h1 h2 => aGl hp a ((gU ls).mem_iff.1 ha) b hb h2 h1) (bHd ls) (hp.imp fun h => aGz h) (gU ls)
def bJx (r : Run) : ((iT r.ents).2 && (decide ((iT r.ents).1.mask = r.mask) && decide ((iT r.ents).1.ents = r.ents))) = cE r := by
  rw [Bool.eq_iff_iff]
  constructor
  . intro h
    simp only [B7, decide_eq_true_eq] at h
    obtain ⟨h1, h2, h3⟩ := h
    unfold iT at h1 h2 h3; split at h1
    . cases h1
    rename_i hc
    rw [if_neg hc] at h2 h3
    simp only [not_or] at hc
    simp only at h2 h3
    rw [h3] at h2 hc
    have h4 : bU r.ents = true := by simpa using hc.2
    simp [cE, h4, h2]
    omega
  intro h
  simp only [cE, B7, decide_eq_true_eq] at h
  obtain ⟨⟨h1, h2⟩, h3⟩ := h
  have he := aQl h2
  unfold iT
  rw [if_neg (by rw [he, h2]; simp only [not_or]; exact ⟨⟨og, og⟩, by simp⟩), he]
  simp [h3]
def aAx (level : Int) : Int := if level = 0 then 4 else 8
def wN (ls : List Run) (level : Int) (i : Nat) : Bool := match ls[i]? with
  | some r => cE r && !((decide (0 < level) && decide (0 < (i : Int))) && !Op.bytesLess (aL (jA ls i)).toList (aH r).toList)
  | none => true
def qO (ls : List Run) (level : Int) : Bool := if aAx level < (ls.length : Int) then false else (List.range ls.length).all (wN ls level)
def aXw {ls : List Run} {level : Int} {i : Nat} {r : Run} (h : wN ls level i = true) (hr : ls[i]? = some r) : cE r = true := by
  unfold wN at h; rw [hr] at h; simp at h
  exact h.1
def aBz (ls : List Int) (seq : Int) : Bool := if (4 : Int) < (ls.length : Int) then false else (List.range ls.length).all (pM ls seq)
def bFf (ls : List Int) (seq : Int) : aBz ls seq = eP ls seq := by
  unfold aBz eP; split
  . rename_i h
    rw [decide_eq_false og, Bool.and_false]
  rename_i h
  rw [decide_eq_true og, Bool.and_true]
def mA (ls : List (List Run)) (mem : List Entry) : List (List Entry) := (ls.reverse.flatMap fun rs => rs.map Run.ents) ++ [mem]
def sY (ls : List (List Run)) (k : Nat) : List (List Entry) := (ls.drop k).reverse.flatMap fun rs => rs.map Run.ents
def aLn {ls : List (List Run)} {k : Nat} {l : List Run} (h : ls[k]? = some l) : sY ls k = sY ls (k + 1) ++ l.map Run.ents := by
  unfold sY; rw [aJr h, List.reverse_cons, List.flatMap_append]
  simp
def aJf (s : ByteArray) (hs : s.size <= 4611686018427387904) : aK P 180 [Ns s] [] 0 (Ni (wD s)) := by
 refine (pq 27 [.tmp 2] func180) ((aj) ((aj) ?_))
 refine aA fun k3 => (aj) (wb ?_)
 refine wn s.size (fun x => ([(0, Ns s), (3, Ni (dB s x)), (6, Ni (s.size : Int)), (7, Ni (x : Int))], [])) 0 [] ?_ ?_
 . simp only [go_sem, dB, Int.natCast_zero] <;> simp
 rintro i hi
 refine (aj) ?_
 refine aA fun k6 => (cdA) ?_ ?_ <;> intro hc1
 . have hlt : i < s.size := by simpa using hc1
   have hh := qB s i
   have hb := nS s i
   have hw0 := wr (aS s i) (aS s i) og
   have hw1 := wr (31 * dB s i) (dB s i * 31) og
   have hw2 := wr (dB s i * 31 + aS s i) (dB s i * 31 + aS s i) og
   refine wk (k6 (aA fun k7 => wb ((aj) ?_)))
   refine wg rfl ?_; simp only [go_sem, hw0, hw1, hw2]
   refine (jr) ((jt) (k7 ((jw (wiS i og)) ((jt) ?_))))
   refine ⟨i + 1, og, og, [], ?_⟩
   simp only [go_sem, dB] <;> simp
 have hge : i = s.size := by have h9 : ¬ i < s.size := (by simpa using hc1); omega
 subst hge
 refine we ((jt) (k3 ?_))
 have hh := qB s s.size
 have hq : IntKind.i64.wrap ((dB s s.size).tdiv 16) = (dB s s.size).tdiv 16 := by
   rw [H5 og, IntKind.wrap_i64]; omega
 have hm1 : 0 <= (dB s s.size).tmod 16 /\ (dB s s.size).tmod 16 <= 15 := by rw [Int.tmod_eq_emod_of_nonneg og]; omega
 have hd : 0 <= (dB s s.size).tdiv 16 := Int.tdiv_nonneg og og
 have hm2 : 0 <= ((dB s s.size).tdiv 16).tmod 16 /\ ((dB s s.size).tdiv 16).tmod 16 <= 15 := by rw [Int.tmod_eq_emod_of_nonneg hd]; omega
 have hr1 := rV hm1.1 hm1.2
 have hr2 := rV hm2.1 hm2.2
 have hsh : ∀ m : Int, 0 <= m -> m <= 15 -> IntKind.i64.wrap (1 * 2 ^ min m.toNat 64) = aCs m := fun m h0 h1 => by
   have := rV h0 h1
   rw [Nat.min_eq_left og, Int.one_mul, IntKind.wrap_i64]
   show ((2 : Int) ^ m.toNat + _) % _ - _ = aCs m
   unfold aCs at this ⊢
   omega
 have hs1 := hsh _ hm1.1 hm1.2
 have hs2 := hsh _ hm2.1 hm2.2
 have hor := bKq _ _ hr1.1 hr1.2 hr2.1 hr2.2
 have hbb : IntKind.bits .i64 = 64 := rfl
 refine sd mixed rfl fun k9 => (Bp hq hs1 hs2 hor) ?_
 refine ⟨hm1.1, hm2.1, ?_⟩
 refine (jy) (k9 (wR (fO ?_ trivial)))
 simp only [go_sem, wD]
 exact congrArg (fun z => some (AV.raw (.int .i64 z))) hor
def aUc (ls : List Entry) (hz : cW ls) : aK P 158 [.sl 5 (ls.map enA)] [] 0 (.tup [rA (iT ls).1, .raw (.bool (iT ls).2)]) := by
 refine (pq 40 [.cell 2 105, .tmp 3] func158) ?_
 have hmx := mxl
 have hlen := hz.1
 have hsl := mL ls
 have hzs : cW (bF ls) := ⟨by rw [hsl]; exact hz.1, fun e he => hz.2 e ((gU ls).mem_iff.1 he)⟩
 refine (aj) ?_
 refine aA fun k2 => (aj) ((cdA) ?_ ?_) <;> intro hc1
 . have h9 : iT ls = (wW, false) := by unfold iT; rw [if_pos]; simp at hc1; left; omega
   refine (aj) ?_
   refine dI 0 (ds := [.sl 5 [], Ni 0]) rfl (by repeat (first | exact LeL.nil | refine LeL.cons (by first | exact Le.refl _ | exact Le.nil _) ?_)) oG ?_
   refine (ja) (wR ?_)
   refine fO ?_ ⟨⟨enB _ _, trivial, trivial⟩, trivial, trivial⟩
   simp only [go_sem, h9, rA, wW]
 refine wk (k2 ?_)
 have hnb : 1 <= ls.length /\ ls.length <= 150 := by simp at hc1; omega
 refine sr rfl fun k5 => (Au) ((jr) (k5 (sr rfl fun k6 => (ja) ?_)))
 refine vg [(0, 1)] 0 rfl rfl rfl ⟨func44, rfl, rfl⟩ (aZz ls (by simp at hc1; omega)) rfl (by simp only [go_sem, gS, aB, AV.ren, sg]) Al (mZ (H1 := []) (.inr ⟨1, rfl⟩) (by simp only [go_sem, sg, AObj.ren]) (by simp only [go_sem, AObj.bel])) (.inl rfl) ?_
 refine (jn) (k6 (aA fun k7 => ?_))
 refine aFz 1 rfl ?_
 refine (Ac) ?_
 refine sr rfl fun k8 => (ja) ((vq func89 (xI (bF ls) hzs)) (k8 ((cdA) ?_ ?_))) <;> intro hc2
 . have h9 : iT ls = (wW, false) := by unfold iT; rw [if_pos]; right; simpa using hc2
   refine (aj) ?_
   refine dI 0 (ds := [.sl 5 [], Ni 0]) rfl (by repeat (first | exact LeL.nil | refine LeL.cons (by first | exact Le.refl _ | exact Le.nil _) ?_)) oG ?_
   refine (ja) (wR ?_)
   refine fO ?_ ⟨⟨enB _ _, trivial, trivial⟩, trivial, trivial⟩
   simp only [go_sem, h9, rA, wW]
 have h9 : iT ls = (⟨bF ls, bS (bF ls)⟩, true) := by unfold iT; rw [if_neg (by simp only [not_or]; exact ⟨⟨og, og⟩, by simpa using hc2⟩)]
 refine wk (k7 ((aj) ?_))
 refine aA fun k11 => (aj) (wb ?_)
 refine wl (α := Nat × Int) (fun x => x.1 <= (bF ls).length /\ 0 <= x.2 /\ x.2 <= 65535 /\ ((bF ls).drop x.1).foldl jU x.2 = bS (bF ls)) (fun x => (bF ls).length - x.1) (fun x => ([(2, .ptr 0 0), (4, .sl 5 ((bF ls).map enA)), (5, Ni x.2), (25, .sl 5 ((bF ls).map enA)), (26, Ni ((bF ls).length : Int)), (27, Ni (x.1 : Int))], [(0, .cells 105 [.raw (.slice none 0 0), Ni 0])])) 1 (0, 0) ⟨A5 _, by simp, by simp, rfl⟩ [] ?_ ?_
 . exact jp
 rintro ⟨i, m⟩ ⟨hi, hm0, hm1, hfold⟩
 simp only at hi hm0 hm1 hfold ⊢
 refine (aj) ?_
 refine aA fun k14 => (cdB) ?_ ?_ <;> intro hc3
 . have hge : (bF ls).length <= i := by have h9 : ¬ i < (bF ls).length := (by simpa using hc3); omega
   rw [E6 hge] at hfold
   have h8 : bS (bF ls) = m := hfold.symm
   refine we ((jt) (k11 ((aj) (wR ?_))))
   refine fO ?_ ⟨⟨enB _ _, trivial, trivial⟩, trivial, trivial⟩
   simp only [go_sem, h9, h8, rA]
 have hlt : i < (bF ls).length := by simpa using hc3
 obtain ⟨l, hl, hdrop, hml⟩ := ix hlt
 refine wk (k14 (aA fun k15 => wb (sr rfl fun k16 => (An hl) ((jr) (k16 ?_)))))
 have hkr := pQ (aCs ((dB l.key l.key.size).tmod 16)) (aCs (((dB l.key l.key.size).tdiv 16).tmod 16))
 have hor := bKq m (wD l.key) hm0 hm1 hkr.1 hkr.2
 have hbb : IntKind.bits .i64 = 64 := rfl
 refine wg rfl ((Aq hbb hor) ?_)
 refine (vr rfl rfl rfl func180 (aJf l.key (hzs.2 l hml).1) Ae Ae) ((jt) (k15 ((jw (wiS i og)) ((jt) ?_))))
 refine ⟨(i + 1, jU m l), ⟨by simp only; omega, (pQ _ _).1, (pQ _ _).2, by rw [hdrop] at hfold; exact hfold⟩, by simp only; omega, [], ?_⟩
 simp only [go_sem, AObj.bel, AObj.ren, AV.ren, aB, sg, jU] <;> simp
 exact hor
def aTe (r : Run) (hz : cW r.ents) : aK P 130 [rA r] [] 0 (Nb (cE r)) := by
 refine (pq 17 [.tmp 2] func130) ?_
 simp only [rA]
 have hmz : (iT r.ents).1.ents.length <= 4611686018427387904 := by
   unfold iT; split
   . simp [wW]
   simp only [mL]; exact hz.1
 refine (aj) ?_
 refine sr rfl fun k2 => (ja) ?_
 refine vs rfl rfl rfl func158 (aUc r.ents hz) Ag Ag ?_
 simp only [go_sem, rA]
 refine k2 (sr rfl fun k3 => (ja) ?_)
 refine vpg rfl rfl rfl rfl rfl rfl ⟨func70, rfl, rfl⟩ (fun hg => xO (iT r.ents).1 r hmz) oG (fun hg => Ag) Ag trivial ?_
 simp only [go_sem, rA]
 refine k3 (wR (fO ?_ trivial))
 simp only [go_sem, bJx]
def aPa (n : Int) : aK P 129 [Ni n] [] 0 (Ni (aAx n)) := by
 refine (pq 5 [.tmp 2] func129) ((aj) ?_)
 refine aA fun k2 => (aj) ((cdA) ?_ ?_) <;> intro hc1
 . have n1 : n = 0 := by simpa using hc1
   refine (aj) (wR ?_)
   refine fO ?_ trivial; simp only [go_sem, aAx, if_pos n1]
 have n1 : ¬ (n = 0) := by simpa using hc1
 refine wk (k2 ((aj) (wR ?_)))
 refine fO ?_ trivial; simp only [go_sem, aAx, if_neg n1]
def aKl (ls : List Run) (level : Int) (hz : aNl ls) : aK P 91 [.sl 2 (ls.map rA), Ni level] [] 0 (Nb (qO ls level)) := by
 refine (pq 40 [.tmp 4] func91) ?_
 have hlen := hz.1
 refine (aj) ?_
 refine aA fun k2 => sr rfl fun k3 => (ja) ((vq func129 (aPa level)) (k3 ((cdA) ?_ ?_))) <;> intro hc1
 . have n1 : aAx level < (ls.length : Int) := by simpa using hc1
   refine (aj) (wR ?_)
   refine fO ?_ trivial; simp only [go_sem, qO, n1]
 have n1 : ¬ (aAx level < (ls.length : Int)) := by simpa using hc1
 refine wk (k2 (aA fun k5 => (aj) (wb ?_)))
 refine wa ls.length (wN ls level) (fun x => ([(0, .sl 2 (ls.map rA)), (1, Ni level), (12, .sl 2 (ls.map rA)), (13, Ni (ls.length : Int)), (14, Ni (x : Int))], [])) 0 [] ?_ ?_
 . exact jc
 rintro i ⟨hi, hall⟩
 refine (aj) ?_
 refine aA fun k8 => (cdB) ?_ ?_ <;> intro hc2
 . have hge := gec hc2
   refine we ((jt) (k5 ((aj) (wR ?_))))
   have h9 : qO ls level = true := by unfold qO; rw [if_neg n1]; exact gF hge hall
   exact fq h9
 obtain ⟨hlt, l, hl, hdrop, hml⟩ := ixc hc2
 have hw1 := wr ((i : Int) - 1) ((i : Int) - 1) og
 have hpn : ((i : Int) - 1).toNat = i - 1 := by omega
 have hpv : ls[i - 1]? = some (jA ls i) := by unfold jA; rw [A1 og]; rfl
 have hprev : 0 < i -> 1 <= (jA ls i).ents.length /\ (jA ls i).ents.length <= 150 := fun h0 => gI (aXw (hall (i - 1) og) hpv)
 refine wk (k8 (aA fun k9 => wb (sr rfl fun k10 => (Ap hl) ((jr) (k10 (aA fun k11 => sr rfl fun k12 => (ja) ?_))))))
 refine (vr rfl rfl rfl func130 (aTe l (hz.2 l hml)) Ag Ag) (k12 ((cdA) ?_ ?_)) <;> intro hc3
 . have hp : wN ls level i = false := by unfold wN; rw [hl]; have : cE l = false := (by simpa using hc3); simp [this]
   refine (aj) (wR ((Ah) ?_))
   have h9 : qO ls level = false := by unfold qO; rw [if_neg n1]; exact hZ hlt hp
   exact fq h9
 have hr1 : cE l = true := by simpa using hc3
 have hl1 := gI hr1
 refine wk (k11 (sd mixed rfl fun k14 => (Az hl hw1 hpn hpv) ((jr) ?_)))
 refine tpg rfl rfl rfl rfl rfl rfl ⟨func131, rfl, rfl⟩ (fun hg => aJl (jA ls i) (hprev (by simp at hg; omega)).1 (by have := (hprev (by simp at hg; omega)).2; omega)) oG (fun hg => Ag) Ag trivial ?_
 refine (Az hl hw1 hpn hpv) ((jr) ?_)
 refine tpg rfl rfl rfl rfl rfl rfl ⟨func132, rfl, rfl⟩ (fun hg => aOl l hl1.1) oG (fun hg => Ag) Ag trivial ?_
 refine (Az hl hw1 hpn hpv) ((jr) ((jy) (k14 ((cdA) ?_ ?_)))) <;> intro hc4
 . have hp : wN ls level i = false := by unfold wN; rw [hl]; simp only [hr1, hc4]; rfl
   refine (aj) (wR ((Ah) ?_))
   have h9 : qO ls level = false := by unfold qO; rw [if_neg n1]; exact hZ hlt hp
   exact fq h9
 have hp : wN ls level i = true := by unfold wN; rw [hl]; simp only [hr1, hc4]; rfl
 refine wk ((jt) (k9 ((jw (wiS i og)) ((jt) ?_))))
 refine ⟨i + 1, ⟨og, cG hall hp⟩, og, [], ?_⟩
 exact jo
def aJm (ls : List Int) (seq : Int) (hz : ls.length <= 4611686018427387904) : aK P 90 [.sl 1 (ls.map inA), Ni seq] [] 0 (Nb (eP ls seq)) := by
 refine (pq 38 [.tmp 4] func90) ?_
 rw [<- bFf]
 refine (aj) ?_
 refine aA fun k2 => (aj) ((cdA) ?_ ?_) <;> intro hc1
 . have n1 : (4 : Int) < (ls.length : Int) := by simpa using hc1
   refine (aj) (wR ?_)
   refine fO ?_ trivial; simp only [go_sem, aBz, n1]
 have n1 : ¬ ((4 : Int) < (ls.length : Int)) := by simpa using hc1
 refine wk (k2 (aA fun k5 => (aj) (wb ?_)))
 refine wa ls.length (pM ls seq) (fun x => ([(0, .sl 1 (ls.map inA)), (1, Ni seq), (10, .sl 1 (ls.map inA)), (11, Ni (ls.length : Int)), (12, Ni (x : Int))], [])) 0 [] ?_ ?_
 . exact jc
 rintro i ⟨hi, hall⟩
 refine (aj) ?_
 refine aA fun k8 => (cdB) ?_ ?_ <;> intro hc2
 . have hge := gec hc2
   refine we ((jt) (k5 ((aj) (wR ?_))))
   have h9 : aBz ls seq = true := by unfold aBz; rw [if_neg n1]; exact gF hge hall
   exact fq h9
 obtain ⟨hlt, l, hl, hdrop, hml⟩ := ixc hc2
 have hw1 := wr ((i : Int) - 1) ((i : Int) - 1) og
 have hpn : ((i : Int) - 1).toNat = i - 1 := by omega
 have hpv : ls[i - 1]? = some (aDe ls i) := by unfold aDe; rw [A1 og]; rfl
 refine wk (k8 (aA fun k9 => wb (sr rfl fun k10 => ?_)))
 simp only [go_sem, hl, inA]
 refine (jr) (k10 (sr rfl fun k11 => ?_))
 simp only [go_sem, hl, hw1, hpn, hpv, inA]
 refine (jr) (k11 ((cdA) ?_ ?_)) <;> intro hc3
 . have hp : pM ls seq i = false := by unfold pM; rw [hl]; simp only [hc3]; rfl
   refine (aj) (wR ((Ah) ?_))
   have h9 : aBz ls seq = false := by unfold aBz; rw [if_neg n1]; exact hZ hlt hp
   exact fq h9
 have hp : pM ls seq i = true := by unfold pM; rw [hl]; simp only [hc3]; rfl
 refine wk ((jt) (k9 ((jw (wiS i og)) ((jt) ?_))))
 refine ⟨i + 1, ⟨og, cG hall hp⟩, og, [], ?_⟩
 exact jo
def eA (a b : List Run) (hz : a.length <= 4611686018427387904) (hy : ∀ r ∈ a, r.ents.length <= 4611686018427387904) : aK P 69 [.sl 2 (a.map rA), .sl 2 (b.map rA), .fn (.func 70) [] []] [] 0 (Nb (decide (a = b))) := by
 refine (pq 32 [.tmp 6] func69) ((aj) ?_)
 refine aA fun k2 => (aj) ((cdA) ?_ ?_) <;> intro hc1
 . have hne : a ≠ b := fun e => by rw [e] at hc1; simp at hc1
   exact (aj) (wR (fq (decide_eq_false hne)))
 have hlen : a.length = b.length := by simp at hc1; omega
 refine wk (k2 (aA fun k5 => (aj) (wb ?_)))
 refine wa a.length (qN a b) (fun x => ([(1, .sl 2 (b.map rA)), (2, .fn (.func 70) [] []), (15, .sl 2 (a.map rA)), (16, Ni (a.length : Int)), (17, Ni (x : Int))], [])) 0 [] ?_ ?_
 . exact jc
 rintro i ⟨hi, hall⟩
 refine (aj) ?_
 refine aA fun k8 => (cdB) ?_ ?_ <;> intro hc2
 . have hge := gec hc2
   refine we ((jt) (k5 ((aj) (wR ?_))))
   have hie : i = a.length := by omega
   subst hie
   have he := mS hlen hall
   exact fq (decide_eq_true he)
 obtain ⟨hlt, l, hl, _, hml⟩ := ixc hc2
 obtain ⟨m, hm, _, _⟩ := ix (xs := b) (i := i) og
 refine wk (k8 (aA fun k9 => wb (sr rfl fun k10 => (Ap hl) ((jr) (k10 (sr rfl fun k11 => (Ap hm) ((jr) (k11 (sr rfl fun k12 => (ja) ?_)))))))))
 refine vf (xs := [rA l, rA m]) rfl rfl rfl rfl ⟨func70, rfl, rfl⟩ (xO l m (hy l hml)) rfl rfl Ag ?_
 simp only [go_sem, bHq]
 refine k12 ((cdA) ?_ ?_) <;> intro hc3
 . have hne : a ≠ b := fun e => by
     rw [e, hm] at hl; cases hl; simp at hc3
   exact (aj) (wR ((Ah) (fq (decide_eq_false hne))))
 . have hp : qN a b i = true := by unfold qN; rw [hl, hm]; simpa using hc3
   refine wk ((jt) (k9 ((jw (wiS i og)) ((jt) ?_))))
   refine ⟨i + 1, ⟨og, cG hall hp⟩, og, [], ?_⟩
   exact jo
def zY (a b : List Run) (hz : a.length <= 4611686018427387904 /\ ∀ r ∈ a, r.ents.length <= 4611686018427387904) : aK P 68 [rsA a, rsA b] [] 0 (Nb (decide (a = b))) := by
 refine (pq 8 [.tmp 4] func68) ?_
 simp only [rsA]
 refine (aj) ?_
 refine sr rfl fun k2 => (ja) ?_
 refine (vr rfl rfl rfl func69 (eA a b hz.1 hz.2) (by simp only [go_sem, rsA]) (by simp only [go_sem, rsA])) (k2 (wR (fO ?_ trivial)))
 exact At
def dL (a b : List (List Run)) (hz : a.length <= 4611686018427387904) (hy : ∀ l ∈ a, l.length <= 4611686018427387904 /\ ∀ r ∈ l, r.ents.length <= 4611686018427387904) : aK P 67 [.sl 1 (a.map rsA), .sl 1 (b.map rsA), .fn (.func 68) [] []] [] 0 (Nb (decide (a = b))) := by
 refine (pq 32 [.tmp 6] func67) ((aj) ?_)
 refine aA fun k2 => (aj) ((cdA) ?_ ?_) <;> intro hc1
 . have hne : a ≠ b := fun e => by rw [e] at hc1; simp at hc1
   exact (aj) (wR (fq (decide_eq_false hne)))
 have hlen : a.length = b.length := by simp at hc1; omega
 refine wk (k2 (aA fun k5 => (aj) (wb ?_)))
 refine wa a.length (qN a b) (fun x => ([(1, .sl 1 (b.map rsA)), (2, .fn (.func 68) [] []), (15, .sl 1 (a.map rsA)), (16, Ni (a.length : Int)), (17, Ni (x : Int))], [])) 0 [] ?_ ?_
 . exact jc
 rintro i ⟨hi, hall⟩
 refine (aj) ?_
 refine aA fun k8 => (cdB) ?_ ?_ <;> intro hc2
 . have hge := gec hc2
   refine we ((jt) (k5 ((aj) (wR ?_))))
   have hie : i = a.length := by omega
   subst hie
   have he := mS hlen hall
   exact fq (decide_eq_true he)
 obtain ⟨hlt, l, hl, _, hml⟩ := ixc hc2
 obtain ⟨m, hm, _, _⟩ := ix (xs := b) (i := i) og
 refine wk (k8 (aA fun k9 => wb (sr rfl fun k10 => (Bf hl) ((jr) (k10 (sr rfl fun k11 => (Bf hm) ((jr) (k11 (sr rfl fun k12 => (ja) ?_)))))))))
 refine vf (xs := [rsA l, rsA m]) rfl rfl rfl rfl ⟨func68, rfl, rfl⟩ (zY l m (hy l hml)) rfl rfl (by simp only [go_sem, rsA]) ?_
 simp only [go_sem, bHq]
 refine k12 ((cdA) ?_ ?_) <;> intro hc3
 . have hne : a ≠ b := fun e => by
     rw [e, hm] at hl; cases hl; simp at hc3
   exact (aj) (wR ((Ah) (fq (decide_eq_false hne))))
 . have hp : qN a b i = true := by unfold qN; rw [hl, hm]; simpa using hc3
   refine wk ((jt) (k9 ((jw (wiS i og)) ((jt) ?_))))
   refine ⟨i + 1, ⟨og, cG hall hp⟩, og, [], ?_⟩
   exact jo
def sW (a b : List (List Run)) (ha : bDu a) : aK P 30 [.sl 1 (a.map rsA), .sl 1 (b.map rsA)] [] 0 (Nb (decide (a = b))) := by
 refine (pq 8 [.tmp 4] func30) ((aj) ?_)
 refine sr rfl fun k2 => (ja) ((vq func67 (dL a b ha.1 (fun l hl => ⟨(ha.2 l hl).1, fun r hr => ((ha.2 l hl).2 r hr).1⟩))) (k2 (wR (fO ?_ trivial))))
 exact At
def aIh (a b : Tree) (ha : bAt a) : aK P 29 [trA a, trA b] [] 0 (Nb (hP a b)) := by
 refine (pq 31 [.tmp 4] func29) ?_
 simp only [trA]
 refine (aj) ?_
 refine sr rfl fun k2 => (ja) ?_
 refine vpg rfl rfl rfl rfl rfl rfl ⟨func43, rfl, rfl⟩ (fun hg => cH a.mem b.mem ha.1.1) oG (fun hg => oG) oG trivial ?_
 refine (ja) ?_
 refine vpg rfl rfl rfl rfl rfl rfl ⟨func30, rfl, rfl⟩ (fun hg => sW a.levels b.levels ha.2.1) oG (fun hg => oG) oG trivial ?_
 refine (ja) ?_
 refine vpg rfl rfl rfl rfl rfl rfl ⟨func66, rfl, rfl⟩ (fun hg => uF a.snaps b.snaps ha.2.2) oG (fun hg => oG) oG trivial ?_
 refine (ja) (k2 (wR (fO ?_ trivial)))
 simp only [go_sem, hP]
end Go.Proofs.S
end
section
open Go Go.Abs Go.Proofs Go.Proofs.Tryz
open Go.MapKept (IsKey)
namespace Go.Proofs.S
def bPd : KeyT P 9 (IsKey .string) := aYw kr
abbrev Tops := List (ByteArray × Int)
abbrev uV (m : Tops) : AObj := .map 9 3 (mAV Value.string inA m)
def bJd (σ : Nat -> Nat) (m : Tops) : ((mAV Value.string inA m).map fun p => (p.1, p.2.ren σ)) = mAV Value.string inA m := bOm σ (fun _ => rfl) m
def bHt (U : Nat -> Prop) (m : Tops) : aI U ((mAV Value.string inA m).map (·.2)) := bNg (eV := inA) (fun _ => trivial) m
attribute [go_sem] bJd bHt
def aXh (m : Tops) (seq : Int) (ls : List Entry) (i : Nat) : Bool := match ls[i]? with
  | some e => !(decide (seq < e.seq) || decide (e.seq <= aAa m e.key 0))
  | none => true
def bJr (m : Tops) (seq : Int) (ls : List Entry) : Bool := (List.range ls.length).all (aXh m seq ls)
def yT (m : Tops) (e : Entry) : Tops := yY m e.key (max (aAa m e.key 0) e.seq)
def wP (m : Tops) (ls : List Entry) : Tops := ls.foldl yT m
def rY (seq : Int) : Tops -> List (List Entry) -> Bool
  | _, [] => true
  | m, l :: r => if bJr m seq l = true then rY seq (wP m l) r else false
def aCp {m : Tops} (h : (m.map (·.1)).Nodup) (e : Entry) : ((yT m e).map (·.1)).Nodup := aNs _ _ _ h
def aHa : ∀ (ls : List Entry) {m : Tops}, (m.map (·.1)).Nodup -> ((wP m ls).map (·.1)).Nodup
  | [], _, h => h
  | e :: r, _, h => aHa r (aCp h e)
def aLb (m : Tops) (e : Entry) : (yT m e).length <= m.length + 1 := aHg _ _ _
def aRn : ∀ (ls : List Entry) (m : Tops), (wP m ls).length <= m.length + ls.length
  | [], m => A0 _
  | e :: r, m => by
    have h1 := aLb m e
    have h2 := aRn r (yT m e)
    simp only [wP, List.foldl_cons, C4] at h2 ⊢
    omega
def aBj (ls : List (List Run)) : Bool := (List.range ls.length).all fun i => qO ((ls[i]?).getD []) i
def sM (t : Tree) : Bool := ((decide (t.seq < 0) || decide (100000 < t.seq)) || decide (60 < (t.mem.length : Int))) || !decide ((t.levels.length : Int) = 3)
def eC (t : Tree) : Bool := if sM t = true then false else if (!bU t.mem || !eP t.snaps t.seq) = true then false else if aBj t.levels = false then false else rY t.seq [] (mA t.levels t.mem)
def aOr {t : Tree} (h : gW t) : ∀ p ∈ mA t.levels t.mem, p.length <= 1048576 := by
  obtain ⟨h1, h2, h3⟩ := h
  intro p hp
  rcases A7.1 hp with hp | hp
  . obtain ⟨rs, hrs, hp⟩ := List.mem_flatMap.1 hp
    obtain ⟨r, hr, rfl⟩ := A9.1 hp
    exact ((h2.2 rs (List.mem_reverse.1 hrs)).2 r hr).1
  rw [B6.1 hp]; exact h1.1
def aYf {t : Tree} (h : gW t) : (mA t.levels t.mem).length <= 1048576 * t.levels.length + 1 := by
  have aux : ∀ ls : List (List Run), (∀ rs ∈ ls, rs.length <= 1048576) -> (ls.reverse.flatMap fun rs => rs.map Run.ents).length <= 1048576 * ls.length := by
    intro ls
    induction ls with
    | nil => intro _; simp
    | cons a r ih =>
      intro hl
      have h1 := ih fun x hx => hl x (A4 _ hx)
      have h2 := hl a A3
      rw [List.reverse_cons, List.flatMap_append, A2]
      simp at h1 ⊢
      omega
  have := aux t.levels fun rs hrs => (h.2.1.2 rs hrs).1
  unfold mA; rw [A2]
  simp at this ⊢
  omega
def aEl (ls : List (List Run)) (mem : List Entry) (hs : aKz ls) : aO P 93 [.sl 1 (ls.map rsA), .sl 5 (mem.map enA)] [] 0 (.ref 0) [(0, .row 23 1 ((mA ls mem).map esA))] 1 := by
 refine (gq 35 [.tmp 4] func93) ?_
 have hmx := mxl
 have hlen := hs.1
 refine (aj) ((aj) ?_)
 refine aA fun k3 => ?_
 have hw0 := wr ((ls.length : Int) - 1) ((ls.length : Int) - 1) og
 refine sr rfl fun k4 => (Aa hw0) (k4 (wb ?_))
 refine pV (t := 5) 23 1 rfl dg ?_
 refine (ja) ?_
 refine wl (α := Nat) (fun x => x <= ls.length /\ (sY ls x).length <= 1048576 * (ls.length - x)) (fun x => x) (fun x => ([(0, .sl 1 (ls.map rsA)), (1, .sl 5 (mem.map enA)), (5, .ref 0), (6, Ni ((x : Int) - 1))], [(0, .row 23 1 ((sY ls x).map esA))])) 1 ls.length ⟨A0 _, by simp [sY]⟩ [] ?_ ?_
 . simp only [go_sem, AObj.bel, sY, List.drop_length, List.reverse_nil, List.flatMap_nil, List.map_nil] <;> simp
 rintro j ⟨hj, hjl⟩
 refine aA fun k5 => (aj) ((cdB) ?_ ?_) <;> intro hc1
 . have hj0 : j = 0 := by have h9 : ¬ (0 : Int) <= (j : Int) - 1 := (by simpa using hc1); omega
   subst hj0
   refine we ((jt) (k3 (sr rfl fun k13 => (Dh) ((jr) (k13 (wR ?_))))))
   have hfin : (sY ls 0).map esA ++ [AV.sl 5 (mem.map enA)] = (mA ls mem).map esA := by unfold mA sY; simp [esA]
   refine ⟨[(0, 2)], ?_⟩
   simp only [go_sem, AObj.bel, AObj.ren, AV.ren, aB, sg] <;> simp
   exact hfin
 obtain ⟨i, rfl⟩ : ∃ i, j = i + 1 := ⟨j - 1, by have h9 : (0 : Int) <= (j : Int) - 1 := (by simpa using hc1); omega⟩
 have hi1 : (((i + 1 : Nat) : Int) - 1) = (i : Int) := by omega
 obtain ⟨l, hl, _, hml⟩ := ix (xs := ls) (i := i) og
 have hsl := hs.2 l hml
 have hll := hsl.1
 simp only [hi1]
 refine wk (k5 (aA fun k7 => wb (sr rfl fun k8 => (Bf hl) ((jr) (k8 (wb ?_))))))
 refine wn l.length (fun x => ([(0, .sl 1 (ls.map rsA)), (1, .sl 5 (mem.map enA)), (5, .ref 0), (6, Ni (i : Int)), (19, .sl 2 (l.map rA)), (20, Ni (l.length : Int)), (21, Ni (x : Int))], [(0, .row 23 1 ((sY ls (i + 1) ++ (l.take x).map Run.ents).map esA))])) 1 [] ?_ ?_
 . exact jp
 rintro k hk
 refine (aj) ?_
 refine aA fun k10 => (cdB) ?_ ?_ <;> intro hc2
 . have hgek : l.length <= k := by have h9 : ¬ k < l.length := (by simpa using hc2); omega
   refine we ((jt) ((jt) (k7 ?_)))
   have hw4 := wr ((i : Int) - 1) ((i : Int) - 1) og
   have htn : (sY ls (i + 1)).map esA ++ (l.map Run.ents).map esA = (sY ls i).map esA := by rw [aLn hl, D5]
   have hfull : l.take k = l := List.take_of_length_le og
   refine wg rfl ((Aq hw4 hfull) ((jt) ?_))
   refine ⟨i, ⟨og, by rw [aLn hl, A2, A6]; omega⟩, og, [], ?_⟩
   simp only [go_sem, AObj.bel, AObj.ren, AV.ren, aB, sg, Int.natCast_zero] <;> simp
   simpa using htn
 have hltk : k < l.length := by simpa using hc2
 obtain ⟨r, hr, _, hmr⟩ := ix hltk
 refine wk (k10 (aA fun k11 => wb (sr rfl fun k12 => (Ap hr) ((jr) (k12 (wg rfl ((Dh) ((jr) ((jt) (k11 ?_))))))))))
 have hwk := wiS k og
 have htk : (sY ls (i + 1)).map esA ++ (((l.take k).map Run.ents).map esA ++ [AV.sl 5 (r.ents.map enA)]) = (sY ls (i + 1)).map esA ++ ((l.take (k + 1)).map Run.ents).map esA := by
   rw [F5, hr]; simp [esA]
 refine wg rfl ((Aa hwk) ((jt) ?_))
 refine ⟨k + 1, og, og, [(0, 3)], ?_⟩
 simp only [go_sem, AObj.bel, AObj.ren, AV.ren, aB, sg, Int.natCast_zero] <;> simp
 first | exact htk | simpa using htk
def aEf (ls : List (List Entry)) (seq : Int) (hz : ls.length <= 4194304) (hl5 : ∀ l ∈ ls, l.length <= 1048576) : aK P 92 [.sl 1 (ls.map esA), Ni seq] [] 0 (Nb (rY seq [] ls)) := by
 refine (pq 57 [.tmp 4] func92) ((aj) ((aj) ?_))
 refine aA fun k3 => (aj) (wb ?_)
 refine wl (α := Nat × Tops) (fun x => x.1 <= ls.length /\ (x.2.map (·.1)).Nodup /\ x.2.length <= 1048576 * x.1 /\ rY seq x.2 (ls.drop x.1) = rY seq [] ls) (fun x => ls.length - x.1) (fun x => ([(1, Ni seq), (5, .ref 0), (13, .sl 1 (ls.map esA)), (14, Ni (ls.length : Int)), (15, Ni (x.1 : Int))], [(0, uV x.2)])) 1 (0, []) ⟨A5 _, E5, A0 _, rfl⟩ [] ?_ ?_
 . simp only [go_sem, AObj.bel, AObj.ren, uV, mAV, List.map_nil, Int.natCast_zero] <;> simp [aI]
 rintro ⟨i, m⟩ ⟨hi, hnd, hml, hgo⟩
 simp only at hi hnd hml hgo ⊢
 refine (aj) ?_
 refine aA fun k6 => (cdB) ?_ ?_ <;> intro hc1
 . have hge := gec hc1
   rw [E6 hge, rY] at hgo
   refine we ((jt) (k3 ((aj) (wR ?_))))
   refine fO ?_ trivial; simp only [go_sem, <- hgo]
 obtain ⟨hlt, l, hl, hdrop, hml0⟩ := ixc hc1
 have hll := hl5 l hml0
 refine wk (k6 (aA fun k7 => wb (sr rfl fun k8 => (Bh hl) ((jr) (k8 (aA fun k9 => (aj) (wb ?_)))))))
 refine wa l.length (aXh m seq l) (fun x => ([(1, Ni seq), (5, .ref 0), (7, .sl 5 (l.map enA)), (13, .sl 1 (ls.map esA)), (14, Ni (ls.length : Int)), (15, Ni (i : Int)), (19, .sl 5 (l.map enA)), (20, Ni (l.length : Int)), (21, Ni (x : Int))], [(0, uV m)])) 1 [] ?_ ?_
 . simp only [go_sem, AObj.bel, AObj.ren, uV, Int.natCast_zero] <;> simp
 rintro k ⟨hk, hall⟩
 refine (aj) ?_
 refine aA fun k12 => (cdA) ?_ ?_ <;> intro hc2
 . have hltk : k < l.length := by simpa using hc2
   obtain ⟨e, he, _, _⟩ := ix hltk
   refine wk (k12 (aA fun k13 => wb (sr rfl fun k14 => (An he) ((jr) (k14 (sr rfl fun k15 => (An he) ?_))))))
   refine vC (fun hN => dK hN rfl rfl rfl rfl oG (fun hg => aLl (eK := Value.string) (eV := inA) (k := e.key) (z := 0) (m := m) rfl rfl hN oG (by simp only [go_sem, inA]) bPd (fun a b h => Value.string.inj h) (fun a => trivial) rfl rfl hnd rfl rfl) trivial) (.inl rfl) ?_
   simp only [go_sem, inA, he, enA]
   refine k15 ((cdA) ?_ ?_) <;> intro hc3
   . have hp : aXh m seq l k = false := by unfold aXh; rw [he]; simp only [hc3]; rfl
     have hok : bJr m seq l = false := hZ hltk hp
     refine (aj) (wR ((Ah) ?_))
     rw [hdrop, rY, hok] at hgo; refine fO ?_ trivial; simp only [go_sem, <- hgo, C5, if_false]
   have hp : aXh m seq l k = true := by unfold aXh; rw [he]; simp only [hc3]; rfl
   refine wk ((jt) (k13 ?_))
   have hwk := wiS k og
   refine wg rfl ((Aa hwk) ((jt) ?_))
   refine ⟨k + 1, ⟨og, cG hall hp⟩, og, [], ?_⟩
   simp only [go_sem, AObj.bel, AObj.ren, AV.ren, aB, sg, uV] <;> simp
 have hgek : l.length <= k := by have h9 : ¬ k < l.length := (by simpa using hc2); omega
 refine we ((jt) (k9 ?_))
 have hok : bJr m seq l = true := gF hgek hall
 refine (aj) (wb ?_)
 refine wl (α := Nat × Tops) (fun x => x.1 <= l.length /\ (x.2.map (·.1)).Nodup /\ x.2.length <= 1048576 * i + x.1 /\ wP x.2 (l.drop x.1) = wP m l) (fun x => l.length - x.1) (fun x => ([(1, Ni seq), (5, .ref 0), (13, .sl 1 (ls.map esA)), (14, Ni (ls.length : Int)), (15, Ni (i : Int)), (39, .sl 5 (l.map enA)), (40, Ni (l.length : Int)), (41, Ni (x.1 : Int))], [(0, uV x.2)])) 1 (0, m) ⟨A5 _, hnd, by simpa using hml, rfl⟩ [] ?_ ?_
 . simp only [go_sem, AObj.bel, AObj.ren, uV, Int.natCast_zero] <;> simp
 rintro ⟨k, m2⟩ ⟨hk2, hnd2, hml2, hput⟩
 simp only at hk2 hnd2 hml2 hput ⊢
 refine (aj) ?_
 refine aA fun k19 => (cdB) ?_ ?_ <;> intro hc4
 . have hgek2 : l.length <= k := by have h9 : ¬ k < l.length := (by simpa using hc4); omega
   rw [E6 hgek2] at hput
   have hput2 : m2 = wP m l := hput
   refine we ((jt) ((jt) (k7 ((jw (wiS i og)) ((jt) ?_)))))
   refine ⟨(i + 1, wP m l), ⟨by simp only; omega, aHa l hnd, by have := aRn l m; simp only; omega, by rw [hdrop, rY, if_pos hok] at hgo; exact hgo⟩, by simp only; omega, [], ?_⟩
   rw [hput2]
   simp only [go_sem, AObj.bel, AObj.ren, AV.ren, aB, sg, uV] <;> simp
 have hltk : k < l.length := by simpa using hc4
 obtain ⟨e, he, hdrop2, _⟩ := ix hltk
 refine wk (k19 (aA fun k20 => wb (sr rfl fun k21 => (An he) ((jr) (k21 ?_)))))
 have hmx2 : m2.length + 1 < maxLen := by have hmx := mxl
                                          omega
 refine wg rfl ((An he) ?_)
 refine vC (fun hN => aLl (eK := Value.string) (eV := inA) (k := e.key) (z := 0) (m := m2) rfl rfl hN oG (by simp only [go_sem, inA]) bPd (fun a b h => Value.string.inj h) (fun a => trivial) rfl rfl hnd2 rfl rfl) (.inl rfl) ?_
 simp only [go_sem, inA, he, enA]
 refine vC (fun hN => bFr (eK := Value.string) (eV := inA) (k := e.key) (v := max (aAa m2 e.key 0) e.seq) (m := m2) rfl rfl hN oG bPd (fun a b h => Value.string.inj h) (fun a => trivial) rfl rfl hnd2 rfl rfl rfl hmx2) (.inl rfl) ?_
 simp only [go_sem, inA, he, enA]
 refine (jt) (k20 ?_)
 have hwk := wiS k og
 refine wg rfl ((Aa hwk) ((jt) ?_))
 refine ⟨(k + 1, yT m2 e), ⟨by simp only; omega, aCp hnd2 e, by have := aLb m2 e; simp only; omega, by rw [hdrop2] at hput; exact hput⟩, by simp only; omega, [], ?_⟩
 simp only [go_sem, AObj.bel, AObj.ren, AV.ren, aB, sg, uV, yT] <;> simp
def aAc (t : Tree) (hs : gW t) : aK P 41 [trA t] [] 0 (Nb (eC t)) := by
 refine (pq 58 [.tmp 2] func41) ?_
 simp only [trA]
 have hs0 := hs
 obtain ⟨hs1, hs2, hs3⟩ := hs
 have hz1 : cW t.mem := ⟨by have := hs1.1; omega, fun e he => ⟨by have := (hs1.2 e he).1; omega, by have := (hs1.2 e he).2; omega⟩⟩
 have hzr : ∀ rs ∈ t.levels, aNl rs := fun rs hrs => by
   have h1 := hs2.2 rs hrs
   exact ⟨by have := h1.1; omega, fun r hr => ⟨by have := (h1.2 r hr).1; omega, fun e he => ⟨by have := ((h1.2 r hr).2 e he).1; omega, by have := ((h1.2 r hr).2 e he).2; omega⟩⟩⟩
 have hlz := hs2.1
 refine (aj) ?_
 refine aA fun k2 => (aj) ((cdA) ?_ ?_) <;> intro hc1
 . have hb : sM t = true := hc1
   refine (aj) (wR ?_)
   refine fO ?_ trivial; simp only [go_sem, eC, hb, if_true]
 have hb : sM t = false := hc1
 have h3 : t.levels.length = 3 := by simp at hc1; omega
 refine wk (k2 (aA fun k5 => sr rfl fun k6 => (ja) ((vq func89 (xI t.mem hz1)) ?_)))
 refine vpg rfl rfl rfl rfl rfl rfl ⟨func90, rfl, rfl⟩ (fun hg => aJm t.snaps t.seq og) oG (fun hg => oG) oG trivial ?_
 refine (ja) (k6 ((cdA) ?_ ?_)) <;> intro hc2
 . have hb2 := hc2
   refine (aj) (wR ?_)
   refine fO ?_ trivial; simp only [go_sem, eC, hb, hb2, C5, if_false, if_true]
 have hb2 := hc2
 refine wk (k5 (aA fun k8 => (aj) (wb ?_)))
 refine wa t.levels.length ((fun i : Nat => qO ((t.levels[i]?).getD []) (i : Int))) (fun x => ([(1, .ptr 0 0), (38, .sl 1 (t.levels.map rsA)), (39, Ni (t.levels.length : Int)), (40, Ni (x : Int))], [(0, .cells 27 [Ni t.seq, .sl 5 (t.mem.map enA), .sl 1 (t.levels.map rsA), .sl 1 (t.snaps.map inA)])])) 1 [] ?_ ?_
 . exact Cc
 rintro i ⟨hi, hall⟩
 refine (aj) ?_
 refine aA fun k11 => (cdB) ?_ ?_ <;> intro hc3
 . have hge := gec hc3
   have hlo : aBj t.levels = true := gF hge hall
   have hlay : (mA t.levels t.mem).length <= 4194304 := by have h8 := aYf hs0; omega
   refine we ((jt) (k8 (sd mixed rfl fun k16 => (ja) ?_)))
   refine tp rfl rfl rfl ⟨func93, rfl, rfl⟩ ((cC (aEl t.levels t.mem hs2) (by simp only [go_sem, aFs]) oG : aK P 93 [.sl 1 (t.levels.map rsA), .sl 5 (t.mem.map enA)] [] 0 (.sl 1 ((mA t.levels t.mem).map esA)))) oG oG ?_
   refine (ja) ?_
   refine tp rfl rfl rfl ⟨func92, rfl, rfl⟩ (aEf (mA t.levels t.mem) t.seq hlay (aOr hs0)) oG oG ?_
   refine (ja) ((jy) (k16 (wR (fO ?_ trivial))))
   simp only [go_sem, eC, hb, hb2, hlo, C5, Bool.true_eq_false, if_false]
 have hlt : i < t.levels.length := by simpa using hc3
 obtain ⟨l, hl, hdrop, hml⟩ := ix hlt
 refine wk (k11 (aA fun k12 => wb (sr rfl fun k13 => (Bf hl) ((jr) (k13 (sr rfl fun k14 => (Bf hl) ?_))))))
 refine vs rfl rfl rfl func91 (aKl l (i : Int) (hzr l hml)) oG oG ?_
 refine (Bf hl) (k14 ((cdA) ?_ ?_)) <;> intro hc4
 . have hp : (fun i : Nat => qO ((t.levels[i]?).getD []) (i : Int)) i = false := by simp only [hl, Option.getD_some]; simpa using hc4
   have hlo : aBj t.levels = false := hZ hlt hp
   refine (aj) (wR ((Ah) ?_))
   refine fO ?_ trivial; simp only [go_sem, eC, hb, hb2, hlo, C5, if_false, if_true]
 have hp : (fun i : Nat => qO ((t.levels[i]?).getD []) (i : Int)) i = true := by simp only [hl, Option.getD_some]; simpa using hc4
 refine wk ((jt) (k12 ((jw (wiS i og)) ((jt) ?_))))
 refine ⟨i + 1, ⟨og, cG hall hp⟩, og, [], ?_⟩
 exact Bo
end Go.Proofs.S
end
section
open Go Go.Abs Go.Proofs Go.Proofs.Tryz
namespace Go.Proofs.S
section
variable {ls : List Run} {r : Run} {e : Entry}
def gY {p : Nat -> Bool} {n : Nat} : (List.range n).all p = true ↔ ∀ i, i < n -> p i = true := by
  rw [C8]
  exact ⟨fun h i hi => h i (List.mem_range.2 hi), fun h i hi => h i (List.mem_range.1 hi)⟩
def lF {α : Type} {ls : List α} {x : α} (h : x ∈ ls) : ∃ i, i < ls.length /\ ls[i]? = some x := by
  obtain ⟨i, hi⟩ := G2 h
  exact ⟨i, (B2.1 hi).1, hi⟩
def iF (ls : List Entry) (seq : Int) : mK ls seq = true ↔ ∀ e ∈ ls, e.seq <= seq := by
  unfold mK; rw [gY]
  constructor
  . intro h e he
    obtain ⟨i, hi, hx⟩ := lF he
    have := h i hi
    unfold qK at this; rw [hx] at this
    simpa using this
  intro h i hi; unfold qK; rw [A1 hi]
  simpa using h _ (C9 hi)
def dE (a b : List Entry) : lM a b = true ↔ ∀ e ∈ a, ∀ f ∈ b, e.key = f.key -> f.seq < e.seq := by
  unfold lM; rw [gY]
  constructor
  . intro h e he f hf hk
    obtain ⟨i, hi, hx⟩ := lF he
    obtain ⟨j, hj, hy⟩ := lF hf
    have := gY.1 (h i hi) j hj
    unfold aGo at this; rw [hx, hy] at this
    simp only [aBv, hk, decide_true, Bool.true_and, Bool.not_eq_true', decide_eq_false_iff_not] at this
    omega
  intro h i hi
  refine gY.2 fun j hj => ?_
  unfold aGo; rw [A1 hi, A1 hj]; simp only [aBv]
  by_cases hk : a[i].key = b[j].key
  . have := h _ (C9 hi) _ (C9 hj) hk
    simp [hk]; omega
  simp [hk]
def zM (ps : List (List Entry)) : aHq ps = true ↔ ps.Pairwise fun a b => lM a b = true := by
  unfold aHq; rw [gY, G3]
  constructor
  . intro h i j hi hj hij
    have := gY.1 (h i hi) (j - (i + 1)) og
    unfold yR at this; rw [show i + 1 + (j - (i + 1)) = j by omega, A1 hi, A1 hj] at this; exact this
  intro h i hi
  refine gY.2 fun d hd => ?_
  unfold yR; rw [A1 hi, A1 (show i + 1 + d < ps.length by omega)]
  exact h i (i + 1 + d) hi og og
def Adj (ls : List Run) : Prop := ∀ i, (h : i + 1 < ls.length) -> Op.bytesLess (aL ls[i]).toList (aH ls[i + 1]).toList = true
def wH {i : Nat} (h : i + 1 < ls.length) : jA ls (i + 1) = ls[i] := by
  unfold jA; rw [Nat.add_sub_cancel, A1 og]; rfl
def lJ (ls : List Run) (level : Int) : qO ls level = true ↔ (ls.length : Int) <= aAx level /\ (∀ r ∈ ls, cE r = true) /\ (0 < level -> Adj ls) := by
  unfold qO; split
  . rename_i h
    exact ⟨fun h' => (by cases h'), fun h' => by omega⟩
  rename_i h
  rw [gY]
  constructor
  . intro h'
    refine ⟨og, fun r hr => ?_, fun hl i hi => ?_⟩
    . obtain ⟨i, hi, hx⟩ := lF hr
      exact aXw (h' i hi) hx
    have := h' (i + 1) hi
    unfold wN at this; rw [A1 hi, wH hi] at this
    simp [hl] at this
    have h1 := this.2
    exact h1
  rintro ⟨h1, h2, h3⟩ i hi
  unfold wN; rw [A1 hi]; simp only [h2 _ (C9 hi), Bool.true_and]
  by_cases hl : 0 < level
  . cases i with
    | zero => simp
    | succ i =>
      rw [wH hi, h3 hl i hi]
      simp
  simp [hl]
def gV (ls : List Run) (most : Int) (ap : Bool) (seq : Int) : eG ls most ap seq = true ↔ (ls.length : Int) <= most /\ (∀ r ∈ ls, cE r = true /\ mK r.ents seq = true) /\ (ap = true -> Adj ls) := by
  unfold eG; split
  . rename_i h
    exact ⟨fun h' => (by cases h'), fun h' => by omega⟩
  rename_i h
  rw [gY]
  constructor
  . intro h'
    refine ⟨og, fun r hr => ?_, fun hl i hi => ?_⟩
    . obtain ⟨i, hi, hx⟩ := lF hr
      have := h' i hi
      unfold nY at this; rw [hx] at this; simp at this
      exact this.1
    have := h' (i + 1) hi
    unfold nY at this; rw [A1 hi, wH hi] at this
    simp [hl] at this
    exact this.2
  rintro ⟨h1, h2, h3⟩ i hi
  unfold nY; rw [A1 hi]
  obtain ⟨k1, k2⟩ := h2 _ (C9 hi)
  simp only [k1, k2, Bool.not_true, Bool.or_false, Bool.not_false, Bool.true_and]
  by_cases hl : ap = true
  . cases i with
    | zero => simp
    | succ i =>
      rw [wH hi, h3 hl i hi]
      simp
  simp [hl]
def aIz (s : Int) (k : ByteArray) : ∀ (l : List Entry) (m : Tops), aAa (wP m l) k 0 < s ↔ aAa m k 0 < s /\ ∀ e ∈ l, e.key = k -> e.seq < s
  | [], m => by simp [wP]
  | e :: r, m => by
    have ih := aIz s k r (yT m e)
    unfold wP at ih ⊢
    rw [List.foldl_cons, ih]; unfold yT; rw [aRd]
    by_cases hk : e.key = k
    . subst hk; rw [if_pos rfl]
      constructor
      . rintro ⟨h1, h2⟩
        refine ⟨og, fun f hf hfk => ?_⟩
        rcases A8.1 hf with rfl | hf
        . omega
        exact h2 f hf hfk
      rintro ⟨h1, h2⟩
      have h3 := h2 e A3 rfl
      exact ⟨og, fun f hf => h2 f (A4 _ hf)⟩
    rw [if_neg hk]
    constructor
    . rintro ⟨h1, h2⟩
      refine ⟨h1, fun f hf hfk => ?_⟩
      rcases A8.1 hf with rfl | hf
      . exact absurd hfk hk
      exact h2 f hf hfk
    rintro ⟨h1, h2⟩
    exact ⟨h1, fun f hf => h2 f (A4 _ hf)⟩
def aUw (m : Tops) (seq : Int) (l : List Entry) : bJr m seq l = true ↔ ∀ e ∈ l, e.seq <= seq /\ aAa m e.key 0 < e.seq := by
  unfold bJr; rw [gY]
  constructor
  . intro h e he
    obtain ⟨i, hi, hx⟩ := lF he
    have := h i hi
    unfold aXh at this; rw [hx] at this; simp at this; omega
  intro h i hi; unfold aXh; rw [A1 hi]
  have := h _ (C9 hi)
  simp
  omega
def aBm (seq : Int) : ∀ (ls : List (List Entry)) (m : Tops), rY seq m ls = true ↔ (∀ l ∈ ls, ∀ e ∈ l, e.seq <= seq /\ aAa m e.key 0 < e.seq) /\ ls.Pairwise fun a b => lM b a = true
  | [], m => by simp [rY]
  | l :: r, m => by
    unfold rY; rw [List.pairwise_cons]; split
    . rename_i h
      have h0 := (aUw m seq l).1 h
      rw [aBm seq r (wP m l)]
      constructor
      . rintro ⟨h1, h2⟩
        refine ⟨fun l' hl' e he => ?_, fun b hb => (dE b l).2 fun e he f hf hk => ?_, h2⟩
        . rcases A8.1 hl' with rfl | hl'
          . exact h0 e he
          have h3 := h1 l' hl' e he
          exact ⟨h3.1, ((aIz _ _ _ _).1 h3.2).1⟩
        have h3 := (h1 b hb e he).2
        exact ((aIz _ _ _ _).1 h3).2 f hf hk.symm
      rintro ⟨h1, h2, h3⟩
      refine ⟨fun l' hl' e he => ?_, h3⟩
      have h4 := h1 l' (A4 _ hl') e he
      exact ⟨h4.1, (aIz _ _ _ _).2 ⟨h4.2, fun f hf hfk => (dE l' l).1 (h2 l' hl') e he f hf hfk.symm⟩⟩
    rename_i h
    refine ⟨fun h' => (by cases h'), fun h' => absurd ((aUw m seq l).2 fun e he => h'.1 l A3 e he) h⟩
def aJd {a b : Entry} (h : entLt a b = true) : Op.bytesLess b.key.toList a.key.toList = false := by
  have := aGz h
  simp only [entLt, Bool.or_eq_false_iff] at this
  exact this.1
def uM (h : cE r = true) (he : e ∈ r.ents) : Op.bytesLess e.key.toList (aH r).toList = false /\ Op.bytesLess (aL r).toList e.key.toList = false := by
  have hl := gI h
  simp only [cE, B7] at h
  have hp := G3.1 (qT h.1.2)
  obtain ⟨i, hi, hx⟩ := lF he
  rw [A1 hi] at hx; cases hx
  refine ⟨?_, ?_⟩
  . unfold aH; rw [A1 og]; simp only [Option.getD_some]
    by_cases h0 : i = 0
    . subst h0; exact bP _
    exact aJd (hp 0 i og hi og)
  unfold aL; rw [A1 og]; simp only [Option.getD_some]
  by_cases h0 : i = r.ents.length - 1
  . subst h0; exact bP _
  exact aJd (hp i (r.ents.length - 1) hi og og)
def lU {x y z : List UInt8} (h1 : Op.bytesLess x y = true) (h2 : Op.bytesLess z y = false) : Op.bytesLess x z = true := by
  cases h3 : Op.bytesLess x z with
  | true => rfl
  | false => have := wJ x z y h3 h2; rw [h1] at this; cases this
def rT {x y z : List UInt8} (h1 : Op.bytesLess y x = false) (h2 : Op.bytesLess y z = true) : Op.bytesLess x z = true := by
  cases h3 : Op.bytesLess x z with
  | true => rfl
  | false => have := wJ y x z h1 h3; rw [h2] at this; cases this
def aEi (h : cE r = true) : Op.bytesLess (aL r).toList (aH r).toList = false := by
  have hl := gI h
  have hm : r.ents[0] ∈ r.ents := C9 og
  have h1 := uM h hm
  exact wJ _ _ _ h1.2 h1.1
def aIo (h : Adj ls) (hr : ∀ r ∈ ls, cE r = true) : ls.Pairwise fun a b => Op.bytesLess (aL a).toList (aH b).toList = true := by
  refine G3.2 fun i j hi hj hij => ?_
  obtain ⟨d, rfl⟩ : ∃ d, j = i + 1 + d := ⟨j - (i + 1), og⟩
  clear hij
  induction d with
  | zero => exact h i hj
  | succ d ih =>
    have h1 := ih og
    have h2 := h (i + 1 + d) og
    have h3 := aEi (hr _ (C9 (show i + 1 + d < ls.length by omega)))
    exact rW _ _ _ (lU h1 h3) h2
def zF (h : Adj ls) (hr : ∀ r ∈ ls, cE r = true) : (ls.map Run.ents).Pairwise fun a b => lM b a = true := by
  rw [List.pairwise_map]
  refine List.Pairwise.imp_of_mem (fun {a b} ha hb hab => ?_) (aIo h hr)
  refine (dE _ _).2 fun e he f hf hk => ?_
  have h1 := (uM (hr b hb) he).1
  have h2 := (uM (hr a ha) hf).2
  have h3 := rT h2 (lU hab h1)
  rw [hk, bP] at h3; cases h3
def gT (a : List Entry) (rs : List Run) : lM a (aG rs) = true ↔ ∀ r ∈ rs, lM a r.ents = true := by
  rw [dE]
  constructor
  . intro h r hr
    exact (dE _ _).2 fun e he f hf => h e he f (List.mem_flatMap.2 ⟨r, hr, hf⟩)
  intro h e he f hf
  obtain ⟨r, hr, hf⟩ := List.mem_flatMap.1 hf
  exact (dE _ _).1 (h r hr) e he f hf
def aMc (a : List Entry) (rs : List Run) : lM (aG rs) a = true ↔ ∀ r ∈ rs, lM r.ents a = true := by
  rw [dE]
  constructor
  . intro h r hr
    exact (dE _ _).2 fun e he f hf => h e (List.mem_flatMap.2 ⟨r, hr, he⟩) f hf
  intro h e he f hf
  obtain ⟨r, hr, he⟩ := List.mem_flatMap.1 he
  exact (dE _ _).1 (h r hr) e he f hf
def bBn (h : cE r = true) (he : e ∈ r.ents) : 0 < e.seq := by
  simp only [cE, B7] at h
  obtain ⟨i, hi, hx⟩ := lF he
  have := (C8.1 h.1.2) i (List.mem_range.2 hi)
  unfold zX at this; rw [hx] at this; simp at this
  have := gQ this.1
  omega
def bMi {ls : List Entry} (h : bU ls = true) (he : e ∈ ls) : 0 < e.seq := by
  obtain ⟨i, hi, hx⟩ := lF he
  have := (C8.1 h) i (List.mem_range.2 hi)
  unfold zX at this; rw [hx] at this; simp at this
  have := gQ this.1
  omega
def aYu (L0 L1 L2 : List Run) (mem : List Entry) (h1 : Adj L1) (r1 : ∀ r ∈ L1, cE r = true) (h2 : Adj L2) (r2 : ∀ r ∈ L2, cE r = true) :
    ((mem :: (L0.reverse.map Run.ents ++ [aG L1, aG L2])).Pairwise fun a b => lM a b = true) ↔ (((L2.map Run.ents ++ (L1.map Run.ents ++ L0.map Run.ents)) ++ [mem]).Pairwise fun a b => lM b a = true) := by
  have e0 : ∀ (ls : List Run) (φ : List Entry -> Prop), (∀ x ∈ ls.map Run.ents, φ x) ↔ ∀ r ∈ ls, φ r.ents := fun ls φ =>
    ⟨fun h r hr => h _ (D3 hr), fun h x hx => by obtain ⟨r, hr, rfl⟩ := A9.1 hx; exact h r hr⟩
  have e1 : (L0.reverse.map Run.ents).Pairwise (fun a b => lM a b = true) ↔ (L0.map Run.ents).Pairwise (fun a b => lM b a = true) := by
    rw [List.map_reverse, List.pairwise_reverse]
  simp only [List.pairwise_cons, List.pairwise_append, A7, A8, List.not_mem_nil, or_false, e1, List.Pairwise.nil, List.Pairwise.nil, forall_eq, forall_eq_or_imp, false_implies, implies_true, and_true, true_and]
  have a1 := zF h1 r1
  have a2 := zF h2 r2
  constructor
  . rintro ⟨k1, k2, k3, k4⟩
    refine ⟨⟨a2, ⟨a1, k2, fun x hx y hy => ?_⟩, fun x hx y hy => ?_⟩, fun x hx => ?_⟩
    . obtain ⟨r, hr, rfl⟩ := A9.1 hx
      obtain ⟨s, hs, rfl⟩ := A9.1 hy
      exact (gT _ _).1 (k4 s.ents (D3 (List.mem_reverse.2 hs))).1 r hr
    . obtain ⟨r, hr, rfl⟩ := A9.1 hx
      rcases hy with hy | hy
      . obtain ⟨s, hs, rfl⟩ := A9.1 hy
        exact (gT _ _).1 ((aMc _ _).1 k3 s hs) r hr
      obtain ⟨s, hs, rfl⟩ := A9.1 hy
      exact (gT _ _).1 (k4 s.ents (D3 (List.mem_reverse.2 hs))).2 r hr
    rcases hx with hx | hx | hx
    . obtain ⟨r, hr, rfl⟩ := A9.1 hx
      exact (gT _ _).1 (k1 _ (.inr (.inr rfl))) r hr
    . obtain ⟨r, hr, rfl⟩ := A9.1 hx
      exact (gT _ _).1 (k1 _ (.inr (.inl rfl))) r hr
    obtain ⟨r, hr, rfl⟩ := A9.1 hx
    exact k1 _ (.inl (D3 (List.mem_reverse.2 hr)))
  rintro ⟨⟨k1, ⟨k2, k3, k4⟩, k5⟩, k6⟩
  refine ⟨fun x hx => ?_, k3, ?_, fun x hx => ?_⟩
  . rcases hx with hx | rfl | rfl
    . obtain ⟨r, hr, rfl⟩ := A9.1 hx
      exact k6 _ (.inr (.inr (D3 (List.mem_reverse.1 hr))))
    . exact (gT _ _).2 fun r hr => k6 _ (.inr (.inl (D3 hr)))
    exact (gT _ _).2 fun r hr => k6 _ (.inl (D3 hr))
  . exact (aMc _ _).2 fun s hs => (gT _ _).2 fun r hr => k5 _ (D3 hr) _ (.inl (D3 hs))
  obtain ⟨s, hs, rfl⟩ := A9.1 hx
  have hs' := List.mem_reverse.1 hs
  exact ⟨(gT _ _).2 fun r hr => k4 _ (D3 hr) _ (D3 hs'), (gT _ _).2 fun r hr => k5 _ (D3 hr) _ (.inr (D3 hs'))⟩
def zP (t : Tree) : eC t = cZ t := by
  rw [Bool.eq_iff_iff]
  by_cases h3 : t.levels.length = 3
  . obtain ⟨L0, L1, L2, hL⟩ : ∃ a b c, t.levels = [a, b, c] := by
      match hl : t.levels, h3 with
      | [a, b, c], _ => exact ⟨a, b, c, rfl⟩
    have v0 : lv t 0 = L0 := by unfold lv; rw [hL]; rfl
    have v1 : lv t 1 = L1 := by unfold lv; rw [hL]; rfl
    have v2 : lv t 2 = L2 := by unfold lv; rw [hL]; rfl
    have hp : dA t = t.mem :: (L0.reverse.map Run.ents ++ [aG L1, aG L2]) := by unfold dA; rw [hL]; rfl
    have hlay : mA t.levels t.mem = (L2.map Run.ents ++ (L1.map Run.ents ++ L0.map Run.ents)) ++ [t.mem] := by unfold mA; rw [hL]; simp
    have hlv : aBj t.levels = true ↔ qO L0 0 = true /\ qO L1 1 = true /\ qO L2 2 = true := by
      unfold aBj; rw [gY, hL]
      constructor
      . intro h; exact ⟨h 0 oS, h 1 oS, h 2 oS⟩
      rintro ⟨a, b, c⟩ i hi
      match i, hi with
      | 0, _ => exact a
      | 1, _ => exact b
      | 2, _ => exact c
    unfold eC cZ sM qI; rw [v0, v1, v2, hp, hlay]
    constructor
    . intro h; split at h
      . cases h
      rename_i hb
      split at h
      . cases h
      rename_i hb2
      split at h
      . cases h
      rename_i hb3
      have hb3' := hlv.1 (by simpa using hb3)
      obtain ⟨l0, l1, l2⟩ := hb3'
      obtain ⟨a0, b0, -⟩ := (lJ _ _).1 l0
      obtain ⟨a1, b1, c1⟩ := (lJ _ _).1 l1
      obtain ⟨a2, b2, c2⟩ := (lJ _ _).1 l2
      obtain ⟨n1, n2⟩ := (aBm _ _ _).1 h
      have hw : ∀ x, x ∈ (L2.map Run.ents ++ (L1.map Run.ents ++ L0.map Run.ents)) ++ [t.mem] -> mK x t.seq = true := fun x hx => (iF _ _).2 fun e he => (n1 x hx e he).1
      have hwm := hw t.mem oS
      have w0 : ∀ r ∈ L0, mK r.ents t.seq = true := fun r hr => hw _ (by simp; exact .inr (.inr (.inl ⟨r, hr, rfl⟩)))
      have w1 : ∀ r ∈ L1, mK r.ents t.seq = true := fun r hr => hw _ (by simp; exact .inr (.inl ⟨r, hr, rfl⟩))
      have w2 : ∀ r ∈ L2, mK r.ents t.seq = true := fun r hr => hw _ (by simp; exact .inl ⟨r, hr, rfl⟩)
      rw [if_neg (by simp only [hwm]; simp at hb hb2 ⊢; simp [hb2, h3]; omega)]
      simp only [B7]
      exact ⟨⟨⟨(gV _ _ _ _).2 ⟨a0, fun r hr => ⟨b0 r hr, w0 r hr⟩, fun h => (by cases h)⟩, (gV _ _ _ _).2 ⟨a1, fun r hr => ⟨b1 r hr, w1 r hr⟩, fun _ => c1 og⟩⟩, (gV _ _ _ _).2 ⟨a2, fun r hr => ⟨b2 r hr, w2 r hr⟩, fun _ => c2 og⟩⟩, (zM _).2 ((aYu L0 L1 L2 t.mem (c1 og) b1 (c2 og) b2).2 n2)⟩
    intro h; split at h
    . cases h
    rename_i hb
    simp only [B7] at h
    obtain ⟨⟨⟨l0, l1⟩, l2⟩, ha⟩ := h
    obtain ⟨a0, b0, -⟩ := (gV _ _ _ _).1 l0
    obtain ⟨a1, b1, c1⟩ := (gV _ _ _ _).1 l1
    obtain ⟨a2, b2, c2⟩ := (gV _ _ _ _).1 l2
    simp at hb
    have hm : bU t.mem = true := by simp [hb]
    have hs : eP t.snaps t.seq = true := by simp [hb]
    have hwm : mK t.mem t.seq = true := by simp [hb]
    rw [if_neg (by simp; omega), if_neg (by simp [hm, hs]), if_neg (by
      rw [Bool.not_eq_false]
      exact hlv.2 ⟨(lJ _ _).2 ⟨a0, fun r hr => (b0 r hr).1, fun h => by omega⟩, (lJ _ _).2 ⟨a1, fun r hr => (b1 r hr).1, fun _ => c1 rfl⟩, (lJ _ _).2 ⟨a2, fun r hr => (b2 r hr).1, fun _ => c2 rfl⟩⟩)]
    refine (aBm _ _ _).2 ⟨fun x hx e he => ?_, (aYu L0 L1 L2 t.mem (c1 rfl) (fun r hr => (b1 r hr).1) (c2 rfl) (fun r hr => (b2 r hr).1)).1 ((zM _).1 ha)⟩
    rw [bIr]
    simp only [A7, A9, B6] at hx
    rcases hx with (⟨r, hr, rfl⟩ | ⟨r, hr, rfl⟩ | ⟨r, hr, rfl⟩) | rfl
    . exact ⟨(iF _ _).1 (b2 r hr).2 e he, bBn (b2 r hr).1 he⟩
    . exact ⟨(iF _ _).1 (b1 r hr).2 e he, bBn (b1 r hr).1 he⟩
    . exact ⟨(iF _ _).1 (b0 r hr).2 e he, bBn (b0 r hr).1 he⟩
    exact ⟨(iF _ _).1 hwm e he, bMi hm he⟩
  . have h1 : eC t = false := by
      unfold eC sM; rw [if_pos]; simp; omega
    have h2 : cZ t = false := by
      unfold cZ qI; rw [if_pos]; simp; omega
    rw [h1, h2]
end
end Go.Proofs.S
end
