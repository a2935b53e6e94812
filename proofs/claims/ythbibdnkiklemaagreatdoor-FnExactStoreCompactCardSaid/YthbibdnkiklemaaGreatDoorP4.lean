/-
  The abstract layer, the walks and the plain laws that the claim leans on, part 4 of 7 (working texts S5 to S19). It proves lemmas alone; no condition of its own.
-/
import Derived.Test.YthbibdnkiklemaaGreatDoorP3
import Derived.Laws.StructEq
import Derived.ChangeKeysEq
set_option linter.all false
set_option maxRecDepth 20000
section
open Go Go.Abs Go.Proofs Go.Proofs.Tryz
namespace Go.Proofs.S
def aLk (e : Entry) : aB P 38 [enA e, enA e] [] 0 (Nb true) := by
 refine (pq 30 [.tmp 4] func38) ?_
 simp only [enA]
 refine (aj) ?_
 refine sq fun k2 => sr rfl fun k3 => (Cg) (k3 ((cdA) (fun hc => by simp at hc) fun hc1 => ?_))
 refine wk (k2 (sq fun k4 => sr rfl fun k5 => (Az) (k5 ((cdA) (fun hc => by simp at hc) fun hc2 => ?_))))
 refine wk (k4 (sq fun k6 => sr rfl fun k7 => (Az) (k7 ((cdA) (fun hc => by simp at hc) fun hc3 => ?_))))
 refine wk (k6 (sq fun k8 => sr rfl fun k9 => (Cg) (k9 ((cdA) (fun hc => by simp at hc) fun hc4 => ?_))))
 refine wk (k8 (sq fun k10 => sr rfl fun k11 => (Az) (k11 ((cdA) (fun hc => by simp at hc) fun hc5 => ?_))))
 refine wk (k10 ((aj) (wR ?_)))
 refine fO ?_ trivial; exact Aj
def xN (ls : List Entry) (hs : gY ls) : aB P 14 [.sl 5 (ls.map enA), .sl 5 (ls.map enA)] [] 0 (Nb true) := by
 refine (pq 27 [.tmp 4] func14) ?_
 have hlen := hs.1
 refine (aj) ?_
 refine sq fun k2 => sr rfl fun k3 => (Az) (k3 ((cdA) (fun hc => by simp at hc) fun hc1 => ?_))
 refine wk (k2 (sq fun k4 => (aj) (wb ?_)))
 refine wn ls.length (fun x => ([(0, .sl 5 (ls.map enA)), (1, .sl 5 (ls.map enA)), (5, Ni (x : Int))], [])) 0 [] ?_ ?_
 . exact jc
 rintro i hi
 refine sq fun k6 => (aj) ((cdB) ?_ ?_) <;> intro hc2
 . have hge := gec hc2
   refine we ((jt) (k4 ((aj) (wR ?_))))
   refine fO ?_ trivial; exact Aj
 obtain ⟨hlt, l, hl, hdrop, hml⟩ := ixc hc2
 refine wk (k6 (sq fun k8 => wb (sd mixed rfl fun k9 => (Ap hl) ?_)))
 refine ⟨⟨og, og⟩, ⟨og, og⟩, ?_⟩
 refine tp rfl rfl rfl ⟨func38, rfl, rfl⟩ (aLk l) Ah Ah ?_
 refine (Bg) ((jr) ((jy) (k9 ((cdA) (fun hc => by simp at hc) fun hc3 => ?_))))
 refine wk ((jt) (k8 ((jw (wiS i og)) ((jt) ?_))))
 refine ⟨i + 1, og, og, [], ?_⟩
 exact jo
def aPk (ls : List Int) (hs : ls.length <= 1048576) : aB P 74 [.sl 1 (ls.map inA), .sl 1 (ls.map inA)] [] 0 (Nb true) := by
 refine (pq 26 [.tmp 4] func74) ?_
 have hlen := hs
 refine (aj) ?_
 refine sq fun k2 => sr rfl fun k3 => (Az) (k3 ((cdA) (fun hc => by simp at hc) fun hc1 => ?_))
 refine wk (k2 (sq fun k4 => (aj) (wb ?_)))
 refine wn ls.length (fun x => ([(0, .sl 1 (ls.map inA)), (1, .sl 1 (ls.map inA)), (5, Ni (x : Int))], [])) 0 [] ?_ ?_
 . exact jc
 rintro i hi
 refine sq fun k6 => (aj) ((cdB) ?_ ?_) <;> intro hc2
 . have hge := gec hc2
   refine we ((jt) (k4 ((aj) (wR ?_))))
   refine fO ?_ trivial; exact Aj
 obtain ⟨hlt, l, hl, hdrop, hml⟩ := ixc hc2
 refine wk (k6 (sq fun k8 => wb (sd mixed rfl fun k9 => ?_)))
 simp only [go_sem, hl, inA, decide_true, Bool.not_true]
 refine ⟨⟨og, og⟩, ⟨og, og⟩, ?_⟩
 refine (jy) (k9 ((cdA) (fun hc => by simp at hc) fun hc3 => ?_))
 refine wk ((jt) (k8 ((jw (wiS i og)) ((jt) ?_))))
 refine ⟨i + 1, og, og, [], ?_⟩
 exact jo
def aTj (r : Run) (hs : gY r.ents) : aB P 174 [rA r, rA r] [] 0 (Nb true) := by
 refine (pq 16 [.tmp 4] func174) ?_
 simp only [rA]
 refine (aj) ?_
 refine sq fun k2 => sr rfl fun k3 => (ja) ?_
 refine vs rfl rfl rfl func14 (xN r.ents hs) oG oG ?_
 refine (Bg) (k3 ((cdA) (fun hc => by simp at hc) fun hc1 => ?_))
 refine wk (k2 (sq fun k4 => sr rfl fun k5 => (Az) (k5 ((cdA) (fun hc => by simp at hc) fun hc2 => ?_))))
 refine wk (k4 ((aj) (wR ?_)))
 refine fO ?_ trivial; exact Aj
def aPg (ls : List Run) (hs : xB ls) : aB P 128 [.sl 2 (ls.map rA), .sl 2 (ls.map rA)] [] 0 (Nb true) := by
 refine (pq 27 [.tmp 4] func128) ?_
 have hlen := hs.1
 refine (aj) ?_
 refine sq fun k2 => sr rfl fun k3 => (Az) (k3 ((cdA) (fun hc => by simp at hc) fun hc1 => ?_))
 refine wk (k2 (sq fun k4 => (aj) (wb ?_)))
 refine wn ls.length (fun x => ([(0, .sl 2 (ls.map rA)), (1, .sl 2 (ls.map rA)), (5, Ni (x : Int))], [])) 0 [] ?_ ?_
 . exact jc
 rintro i hi
 refine sq fun k6 => (aj) ((cdB) ?_ ?_) <;> intro hc2
 . have hge := gec hc2
   refine we ((jt) (k4 ((aj) (wR ?_))))
   refine fO ?_ trivial; exact Aj
 obtain ⟨hlt, l, hl, hdrop, hml⟩ := ixc hc2
 refine wk (k6 (sq fun k8 => wb (sd mixed rfl fun k9 => (Ao hl) ?_)))
 refine ⟨⟨og, og⟩, ⟨og, og⟩, ?_⟩
 refine tp rfl rfl rfl ⟨func174, rfl, rfl⟩ (aTj l (hs.2 l hml)) Ac Ac ?_
 refine (Bg) ((jr) ((jy) (k9 ((cdA) (fun hc => by simp at hc) fun hc3 => ?_))))
 refine wk ((jt) (k8 ((jw (wiS i og)) ((jt) ?_))))
 refine ⟨i + 1, og, og, [], ?_⟩
 exact jo
def xX (ls : List (List Run)) (hs : qJ ls) : aB P 73 [.sl 1 (ls.map rsA), .sl 1 (ls.map rsA)] [] 0 (Nb true) := by
 refine (pq 27 [.tmp 4] func73) ?_
 have hlen := hs.1
 refine (aj) ?_
 refine sq fun k2 => sr rfl fun k3 => (Az) (k3 ((cdA) (fun hc => by simp at hc) fun hc1 => ?_))
 refine wk (k2 (sq fun k4 => (aj) (wb ?_)))
 refine wn ls.length (fun x => ([(0, .sl 1 (ls.map rsA)), (1, .sl 1 (ls.map rsA)), (5, Ni (x : Int))], [])) 0 [] ?_ ?_
 . exact jc
 rintro i hi
 refine sq fun k6 => (aj) ((cdB) ?_ ?_) <;> intro hc2
 . have hge := gec hc2
   refine we ((jt) (k4 ((aj) (wR ?_))))
   refine fO ?_ trivial; exact Aj
 obtain ⟨hlt, l, hl, hdrop, hml⟩ := ixc hc2
 refine wk (k6 (sq fun k8 => wb (sd mixed rfl fun k9 => (As hl) ?_)))
 refine ⟨⟨og, og⟩, ⟨og, og⟩, ?_⟩
 refine tp rfl rfl rfl ⟨func128, rfl, rfl⟩ (aPg l (hs.2 l hml)) Ai Ai ?_
 refine (Bg) ((jr) ((jy) (k9 ((cdA) (fun hc => by simp at hc) fun hc3 => ?_))))
 refine wk ((jt) (k8 ((jw (wiS i og)) ((jt) ?_))))
 refine ⟨i + 1, og, og, [], ?_⟩
 exact jo
def aPl (t : Tree) (h1 : gY t.mem) (h2 : qJ t.levels) (h3 : t.snaps.length <= 1048576) : aB P 36 [trA t, trA t] [] 0 (Nb true) := by
 refine (pq 28 [.tmp 4] func36) ?_
 simp only [trA]
 refine (aj) ?_
 refine sq fun k2 => sr rfl fun k3 => (Az) (k3 ((cdA) (fun hc => by simp at hc) fun hc1 => ?_))
 refine wk (k2 (sq fun k4 => sr rfl fun k5 => (ja) ?_))
 refine vs rfl rfl rfl func14 (xN t.mem h1) oG oG ?_
 refine (Bg) (k5 ((cdA) (fun hc => by simp at hc) fun hc2 => ?_))
 refine wk (k4 (sq fun k6 => sr rfl fun k7 => (ja) ?_))
 refine vs rfl rfl rfl func73 (xX t.levels h2) oG oG ?_
 refine (Bg) (k7 ((cdA) (fun hc => by simp at hc) fun hc3 => ?_))
 refine wk (k6 (sq fun k8 => sr rfl fun k9 => (ja) ?_))
 refine vs rfl rfl rfl func74 (aPk t.snaps h3) oG oG ?_
 refine (Bg) (k9 ((cdA) (fun hc => by simp at hc) fun hc4 => ?_))
 refine wk (k8 ((aj) (wR ?_)))
 refine fO ?_ trivial; exact Aj
def aOw (d : Disk) (h2 : qJ d.levels) : aB P 37 [dkA d, dkA d] [] 0 (Nb true) := by
 refine (pq 26 [.tmp 4] func37) ?_
 simp only [dkA]
 refine (aj) ?_
 refine sq fun k2 => sr rfl fun k3 => (Cg) (k3 ((cdA) (fun hc => by simp at hc) fun hc1 => ?_))
 refine wk (k2 (sq fun k4 => sr rfl fun k5 => (Az) (k5 ((cdA) (fun hc => by simp at hc) fun hc2 => ?_))))
 refine wk (k4 (sq fun k6 => sr rfl fun k7 => (ja) ?_))
 refine vs rfl rfl rfl func73 (xX d.levels h2) oG oG ?_
 refine (Bg) (k7 ((cdA) (fun hc => by simp at hc) fun hc3 => ?_))
 refine wk (k6 (sq fun k8 => sr rfl fun k9 => (Az) (k9 ((cdA) (fun hc => by simp at hc) fun hc4 => ?_))))
 refine wk (k8 ((aj) (wR ?_)))
 refine fO ?_ trivial; exact Aj
def nM (s : Store) (h1 : gY s.tree.mem) (h2 : qJ s.tree.levels) (h3 : s.tree.snaps.length <= 1048576) (h4 : qJ s.disk.levels) : aB P 13 [stA s, stA s] [] 0 (Nb true) := by
 refine (pq 22 [.tmp 4] func13) ?_
 simp only [stA]
 refine (aj) ?_
 refine sq fun k2 => sr rfl fun k3 => ?_
 simp only [go_sem, bne_self_eq_false, decide_true, Bool.not_true, beq_self_eq_true]
 refine k3 ((cdA) (fun hc => by simp at hc) fun hc1 => ?_)
 refine wk (k2 (sq fun k4 => sr rfl fun k5 => (ja) ?_))
 refine vs rfl rfl rfl func36 (aPl s.tree h1 h2 h3) Af Af ?_
 refine (Bg) (k5 ((cdA) (fun hc => by simp at hc) fun hc2 => ?_))
 refine wk (k4 (sq fun k6 => sr rfl fun k7 => (ja) ?_))
 refine vs rfl rfl rfl func37 (aOw s.disk h4) Av Av ?_
 refine (Bg) (k7 ((cdA) (fun hc => by simp at hc) fun hc3 => ?_))
 refine wk (k6 ((aj) (wR ?_)))
 refine fO ?_ trivial; exact Aj
section
def dig (k : Int) : ByteArray := ByteArray.empty.push (UInt8.ofNat (IntKind.u8.wrap (IntKind.i64.wrap (48 + k.tmod 10))).toNat)
def aTy : Nat -> Int -> ByteArray -> ByteArray
  | 0, _, out => out
  | f + 1, k, out => if k <= 0 then out else aTy f (k.tdiv 10) (dig k ++ out)
def vU (k : Int) : ByteArray := if k <= 0 then ⟨#[109, 48]⟩ else ⟨#[109]⟩ ++ aTy 20 k ⟨#[]⟩
def FB : P.underlying 100 = some (.slice 5) /\ P.underlying 5 = some (.int .u8) /\ P.underlying 9 = some .string := by refine ⟨?_, ?_, ?_⟩ <;> kernel_rfl
def FI : gE P 3 = some .i64 /\ gE P 5 = some .u8 := by refine ⟨?_, ?_⟩ <;> kernel_rfl
def h10 : ((10 : Int) = 0) = False := by simp
def lP (k : Int) (hk : k < 1000000000000000000) : aB P 41 [Ni k] [] 0 (Ns (vU k)) := by
  refine (pq 20 [.tmp 2] func41) ?_
  refine sq fun hK1 => ?_
  refine wg rfl ((ja) ?_)
  apply hK1
  refine sq fun hK2 => ?_
  refine sq fun hK3 => ?_
  refine wg rfl ((ja) ?_)
  apply hK3
  refine cd rfl ?_ ?_
  . intro hc1
    have h0 : k <= 0 := by simpa using hc1
    refine sq fun hK4 => ?_
    refine wg rfl ((ja) ?_)
    apply hK4
    refine wR (fO ?_ trivial)
    simp only [go_sem, vU, h0]
  intro hc1
  have h0 : ¬ k <= 0 := by simpa using hc1
  refine wk ?_; try simp only [aLj]
  apply hK2
  refine sq fun hK6 => ?_
  refine wg rfl ((ja) ?_)
  apply hK6
  refine sq fun hK5 => ?_
  refine wb ?_
  refine wl (α := Nat × Int × ByteArray) (fun x => 0 <= x.2.1 /\ x.2.1 < 10 ^ x.1 /\ x.2.2.size + x.1 <= 20 /\ x.2.1 < 1000000000000000000 /\ aTy x.1 x.2.1 x.2.2 = aTy 20 k ⟨#[]⟩) (fun x => x.2.1.toNat) (fun x => ([(0, Ni x.2.1), (3, Ns x.2.2)], [])) 0 (20, k, ⟨#[]⟩) ⟨by simp only; omega, by simp only; omega, by simp [ByteArray.size], hk, rfl⟩ [] ?_ ?_
  . exact jo
  rintro ⟨f, m, out⟩ ⟨hm0, hmf, hsz, hmk, hd⟩
  simp only at hm0 hmf hsz hmk hd ⊢
  refine sq fun hK7 => ?_
  refine sq fun hK8 => ?_
  refine wg rfl ((ja) ?_)
  apply hK8
  refine cd rfl ?_ ?_
  . intro hc2
    have hpos : 0 < m := by simpa using hc2
    obtain ⟨g, rfl⟩ : ∃ g, f = g + 1 := by
      cases f with
      | zero => simp at hmf; omega
      | succ g => exact ⟨g, rfl⟩
    refine wk ?_; try simp only [aLj]
    apply hK7; refine wb ?_
    refine sq fun hK9 => ?_
    refine wg rfl ?_; simp only [go_sem, FI, h10, Option.isSome_some]
    refine vC (fun hN => uF (n := IntKind.u8.wrap (IntKind.i64.wrap (48 + m.tmod 10))) rfl rfl hN FB.1 FB.2.1 FB.2.2 rfl rfl) (.inl rfl) ?_
    have hd1 : ByteArray.empty.push (UInt8.ofNat (IntKind.u8.wrap (IntKind.i64.wrap (48 + m.tmod 10))).toNat) = dig m := rfl
    have hds : (dig m).size = 1 := rfl
    have hsz' : (dig m).size + out.size <= 9223372036854775807 := by rw [hds]; omega
    refine (Aa hd1) ?_
    refine ⟨hsz', ?_⟩
    apply hK9; refine wg rfl ?_
    have hq : m.tdiv 10 = m / 10 := H9 og
    have hwq : IntKind.i64.wrap (m.tdiv 10) = m.tdiv 10 := by
      rw [IntKind.wrap_i64, hq]; omega
    simp only [go_sem, FI, h10, hwq, Option.isSome_some]; simp only [lQ]
    have hstep : aTy (g + 1) m out = aTy g (m.tdiv 10) (dig m ++ out) := by simp [aTy]; omega
    refine ⟨(g, m.tdiv 10, dig m ++ out), ⟨by simp only; omega, ?_, ?_, by simp only; omega, by rw [<- hd, hstep]⟩, ?_, [], ?_⟩
    . simp only
      rw [hq]
      have h9 : m < 10 ^ g * 10 := by rw [<- Int.pow_succ]; exact hmf
      omega
    . simp only [C7]
      rw [hds]; omega
    . simp only; omega
    exact jo
  intro hc2
  have hm : m <= 0 := by have h9 : ¬ 0 < m := (by simpa using hc2); omega
  refine we ((jt) ?_)
  apply hK5
  have hm' : m = 0 := by omega
  subst hm'
  have hd0 : aTy f 0 out = out := by cases f <;> simp [aTy]
  rw [hd0] at hd
  refine sq fun hK10 => ?_
  refine wg rfl ?_
  have hsz' : (#[(109 : UInt8)] : Array UInt8).size + out.size <= 9223372036854775807 := by
    have : (#[(109 : UInt8)] : Array UInt8).size = 1 := rfl
    omega
  refine (ja) ?_
  refine ⟨hsz', ?_⟩
  apply hK10
  refine wR (fO ?_ trivial)
  simp only [go_sem, vU, h0, <- hd]
section
variable {α : Type} (mk : α -> Int -> α) (st : α -> Int -> Int)
def mGo : List α -> Int -> List α
  | [], _ => []
  | x :: r, k => mk x k :: mGo r (st x k)
def kGo : List α -> Int -> Int
  | [], k => k
  | x :: r, k => kGo r (st x k)
def Cn {G : Prop} (h : G := by simp only [go_sem, Int.natCast_zero, List.take_zero, kGo] <;> simp) : G := h
def Cl {G : Prop} (h : G := by simp only [go_sem, AObj.bel, Int.natCast_zero, List.take_zero, Nat.reduceAdd, Nat.reduceLT, Nat.reduceLeDiff, kGo] <;> simp) : G := h
def aTs : ∀ (xs ys : List α) (k : Int), kGo st (xs ++ ys) k = kGo st ys (kGo st xs k)
  | [], ys, k => rfl
  | x :: r, ys, k => by simp only [List.cons_append, kGo, aTs r ys]
def pK (h : ∀ x k, k <= st x k) : ∀ (xs : List α) (k : Int), k <= kGo st xs k
  | [], k => Int.le_refl _
  | x :: r, k => by
    have h1 := h x k
    have h2 := pK h r (st x k)
    simp only [kGo]; omega
def qH {ls : List α} {k : Int} {i : Nat} {x : α} (h : ls[i]? = some x) : kGo st (ls.take (i + 1)) k = st x (kGo st (ls.take i) k) := by
  rw [E7, h, aTs]; rfl
def eO (h : ∀ x k, k <= st x k) (ls : List α) (k : Int) (i : Nat) : k <= kGo st (ls.take i) k /\ kGo st (ls.take i) k <= kGo st ls k := by
  refine ⟨pK st h _ _, ?_⟩
  have h1 := aTs st (ls.take i) (ls.drop i) k
  rw [List.take_append_drop] at h1; rw [h1]
  exact pK st h _ _
def tS : ∀ (ls : List α) (k : Int), (mGo mk st ls k).length = ls.length
  | [], _ => rfl
  | _ :: r, k => by simp [mGo, tS r]
def bEn : ∀ (xs ys : List α) (k : Int), mGo mk st (xs ++ ys) k = mGo mk st xs k ++ mGo mk st ys (kGo st xs k)
  | [], ys, k => rfl
  | x :: r, ys, k => by simp only [List.cons_append, mGo, kGo, bEn r ys]
def aFb : ∀ {ls : List α} (k : Int) {i : Nat} {x : α}, ls[i]? = some x -> (mGo mk st ls k)[i]? = some (mk x (kGo st (ls.take i) k))
  | [], _, _, _, h => by simp at h
  | y :: r, k, 0, x, h => by simp at h; subst h; simp [mGo, kGo]
  | y :: r, k, i + 1, x, h => by
    simp only [mGo, List.getElem?_cons_succ, List.take_succ_cons, kGo]
    exact aFb _ (by simpa using h)
def mAt (ls : List α) (k : Int) (i : Nat) : List α := mGo mk st (ls.take i) k ++ ls.drop i
def aDs (ls : List α) (k : Int) : mAt mk st ls k 0 = ls := by simp [mAt, mGo]
def aKc (ls : List α) (k : Int) : mAt mk st ls k ls.length = mGo mk st ls k := by simp [mAt]
def tM (ls : List α) (k : Int) (i : Nat) : (mAt mk st ls k i).length = ls.length := by simp [mAt, tS]; omega
def aKi {ls : List α} (k : Int) {i : Nat} {l : α} (h : ls[i]? = some l) : (mAt mk st ls k i)[i]? = some l := by
  have hlt := (A9.1 h).1
  have hl : (mGo mk st (ls.take i) k).length = i := by rw [tS, A7]; omega
  unfold mAt; rw [G7 og, hl, Nat.sub_self, rV h]; rfl
def aKm {ls : List α} (k : Int) {i : Nat} {l : α} (h : ls[i]? = some l) : (mAt mk st ls k i).set i (mk l (kGo st (ls.take i) k)) = mAt mk st ls k (i + 1) := by
  have hlt := (A9.1 h).1
  have hl : (mGo mk st (ls.take i) k).length = i := by rw [tS, A7]; omega
  unfold mAt; rw [List.set_append_right _ _ og, hl, Nat.sub_self, rV h, List.set_cons_zero, E7, h, Option.toList_some, bEn]
  simp [mGo]
end
def stE (_ : Entry) (k : Int) : Int := k + 5
def dP (_ : Entry) (k : Int) : Entry := ⟨vU k, k + 1, k + 2, vU (k + 3), k + 4⟩
def stI (_ : Int) (k : Int) : Int := k + 1
def iC (_ : Int) (k : Int) : Int := k
def stR (r : Run) (k : Int) : Int := kGo stE r.ents k + 1
def bA (r : Run) (k : Int) : Run := ⟨mGo dP stE r.ents k, kGo stE r.ents k⟩
abbrev kRuns := kGo stR
def zF (x : Entry) (k : Int) : k <= stE x k := by unfold stE; omega
def aLa (x : Int) (k : Int) : k <= stI x k := by unfold stI; omega
def aGp (x : Run) (k : Int) : k <= stR x k := by have := pK stE zF x.ents k; unfold stR; omega
def aGw (x : List Run) (k : Int) : k <= kRuns x k := pK stR aGp x k
def bDy {H : Heap} {k : Nat} {o o' : AObj} (h : get H k = some (o.ren (sg [(0, k)]))) (hb : o.bel (UU 1)) : FitC H [(0, k)] [(0, o)] 1 0 [(0, o')] where
  objs := ⟨h, .inl og, hb, trivial⟩
  inj := by simp
  cov := fun i hi => by have : i = 0 := by omega
                        subst this; rfl
  sk := fun p hp => by rw [B6.1 hp]; rfl
  dom := fun p hp => by rw [B6.1 hp]; exact .inl rfl
  all := fun p hp => by rw [B6.1 hp]; rfl
  far := by omega
def tK (ls : List Entry) (k : Int) (hs : gY ls) (h0 : 0 <= k) (hk : kGo stE ls k <= 1000000000000000000) : aH P 16 [.ref 0, Ni k] [(0, .row 65 5 (ls.map enA))] 1 (Ni (kGo stE ls k)) [(0, .row 65 5 ((mGo dP stE ls k).map enA))] 1 := by
 refine (gq 50 [.tmp 4] func16) ?_
 have hlen := hs.1
 refine (aj) ?_
 refine sq fun k2 => (aj) (wb ?_)
 refine wn ls.length (fun x => ([(0, .ref 0), (1, Ni (kGo stE (ls.take x) k)), (5, Ni (x : Int))], [(0, .row 65 5 ((mAt dP stE ls k x).map enA))])) 1 [] ?_ ?_
 . rw [aDs]; exact Cl
 rintro i hi
 refine sq fun k4 => ?_
 have hmal := tM dP stE ls k i
 refine sr rfl fun k5 => (Aa hmal) (k5 ((cdB) ?_ ?_)) <;> intro hc1
 . have hge := gec hc1
   refine we ((jt) (k2 ((aj) (wR ?_))))
   have hie : i = ls.length := by omega
   subst hie; rw [aKc, C6]; refine ⟨[], ?_⟩; exact Bs
 obtain ⟨hlt, l, hl, hdrop, hml⟩ := ixc hc1
 have hgL := aKi dP stE k hl
 have hset := aKm dP stE k hl
 have hks := qH stE (k := k) hl
 have hkb := eO stE zF ls k i
 have hkb2 := eO stE zF ls k (i + 1)
 rw [hks] at hkb2
 have hmal := tM dP stE ls k i
 generalize hkk : kGo stE (ls.take i) k = kk at hks hkb hkb2 hset ⊢
 have hse : stE l kk = kk + 5 := rfl
 rw [hse] at hkb2
 have hg0 : ((mAt dP stE ls k i).map enA)[i]? = some (.agg [.raw (.string l.key), .raw (.int .i64 l.seq), .raw (.int .i64 l.kind), .raw (.string l.text), .raw (.int .i64 l.n)]) := by rw [B5, hgL]; rfl
 have hgs : ∀ a, (((mAt dP stE ls k i).map enA).set i a)[i]? = some a := fun a => iJ hg0
 have hw1 := wr (kk + 1) (kk + 1) og
 have hw2 := wr (kk + 1 + 1) (kk + 2) og
 have hw3 := wr (kk + 2 + 1) (kk + 3) og
 have hw4 := wr (kk + 3 + 1) (kk + 4) og
 have hw5 := wr (kk + 4 + 1) (kk + 5) og
 refine wk (k4 (sq fun k6 => wb (sr rfl fun k7 => (ja) ((jr) ?_))))
 refine vs rfl rfl rfl func41 (lP kk og) rfl oG ?_
 refine (Bi hg0 hmal) ?_
 refine ⟨⟨og, og⟩, ?_⟩
 refine k7 (sr rfl fun k8 => (Aa hw1) (k8 (sr rfl fun k9 => ?_)))
 simp only [go_sem, hgs, hmal, D3]
 refine ⟨⟨og, og⟩, ?_⟩
 refine k9 (sr rfl fun k10 => (Aa hw2) (k10 (sr rfl fun k11 => (Cm hgs hmal) ?_)))
 refine ⟨⟨og, og⟩, ?_⟩
 refine k11 (sr rfl fun k12 => (Aa hw3) (k12 (sr rfl fun k13 => (ja) ((jr) ?_))))
 refine vs rfl rfl rfl func41 (lP (kk + 3) og) rfl oG ?_
 refine (Cm hgs hmal) ?_
 refine ⟨⟨og, og⟩, ?_⟩
 refine k13 (sr rfl fun k14 => (Aa hw4) (k14 (sr rfl fun k15 => (Cm hgs hmal) ?_)))
 refine ⟨⟨og, og⟩, ?_⟩
 refine k15 (wg rfl ((Aa hw5) ((jt) (k6 ?_))))
 have hw := wiS i og
 have hset : ((mAt dP stE ls k i).map enA).set i (.agg [.raw (.string (vU kk)), .raw (.int .i64 (kk + 1)), .raw (.int .i64 (kk + 2)), .raw (.string (vU (kk + 3))), .raw (.int .i64 (kk + 4))]) = (mAt dP stE ls k (i + 1)).map enA := by
   rw [<- hset, List.map_set]; rfl
 rw [hset]
 refine wg rfl ((Aa hw) ((jt) ?_))
 refine ⟨i + 1, og, og, [], ?_⟩
 rw [hks]
 simp only [go_sem, AObj.bel, Nat.reduceLeDiff, Nat.reduceLT, Nat.reduceAdd, stE] <;> simp
def aJc (ls : List Int) (k : Int) (hs : ls.length <= 1048576) (h0 : 0 <= k) (hk : kGo stI ls k <= 1000000000000000000) : aH P 76 [.ref 0, Ni k] [(0, .row 3 1 (ls.map inA))] 1 (Ni (kGo stI ls k)) [(0, .row 3 1 ((mGo iC stI ls k).map inA))] 1 := by
 refine (gq 19 [.tmp 4] func76) ?_
 have hlen := hs
 refine (aj) ?_
 refine sq fun k2 => (aj) (wb ?_)
 refine wn ls.length (fun x => ([(0, .ref 0), (1, Ni (kGo stI (ls.take x) k)), (5, Ni (x : Int))], [(0, .row 3 1 ((mAt iC stI ls k x).map inA))])) 1 [] ?_ ?_
 . rw [aDs]; exact Cl
 rintro i hi
 refine sq fun k4 => ?_
 have hmal := tM iC stI ls k i
 refine sr rfl fun k5 => (Aa hmal) (k5 ((cdB) ?_ ?_)) <;> intro hc1
 . have hge := gec hc1
   refine we ((jt) (k2 ((aj) (wR ?_))))
   have hie : i = ls.length := by omega
   subst hie; rw [aKc, C6]; refine ⟨[], ?_⟩; exact Bs
 obtain ⟨hlt, l, hl, hdrop, hml⟩ := ixc hc1
 have hgL := aKi iC stI k hl
 have hset := aKm iC stI k hl
 have hks := qH stI (k := k) hl
 have hkb := eO stI aLa ls k i
 have hkb2 := eO stI aLa ls k (i + 1)
 rw [hks] at hkb2
 have hmal := tM iC stI ls k i
 generalize hkk : kGo stI (ls.take i) k = kk at hks hkb hkb2 hset ⊢
 have hse : stI l kk = kk + 1 := rfl
 rw [hse] at hkb2
 have hg0 : ((mAt iC stI ls k i).map inA)[i]? = some (.raw (.int .i64 l)) := by rw [B5, hgL]; rfl
 have hw1 := wr (kk + 1) (kk + 1) og
 refine wk (k4 (sq fun k6 => wb (sr rfl fun k7 => (Ar hg0 hmal) ?_)))
 refine ⟨⟨og, og⟩, ?_⟩
 refine k7 (wg rfl ((Aa hw1) ((jt) (k6 ?_))))
 have hw := wiS i og
 have hset : ((mAt iC stI ls k i).map inA).set i (.raw (.int .i64 kk)) = (mAt iC stI ls k (i + 1)).map inA := by
   rw [<- hset, List.map_set]; rfl
 rw [hset]
 refine wg rfl ((Aa hw) ((jt) ?_))
 refine ⟨i + 1, og, og, [], ?_⟩
 rw [hks]
 simp only [go_sem, AObj.bel, Nat.reduceLeDiff, Nat.reduceLT, Nat.reduceAdd, stI] <;> simp
def aJn (ls : List Run) (k : Int) (hs : xB ls) (h0 : 0 <= k) (hk : kGo stR ls k <= 1000000000000000000) : aH P 129 [.ref 0, Ni k] [(0, .row 109 2 (ls.map runOwn))] 1 (Ni (kGo stR ls k)) [(0, .row 109 2 ((mGo bA stR ls k).map runOwn))] 1 := by
 refine (gq 27 [.tmp 4] func129) ?_
 have hlen := hs.1
 refine (aj) ?_
 refine sq fun k2 => (aj) (wb ?_)
 refine wn ls.length (fun x => ([(0, .ref 0), (1, Ni (kGo stR (ls.take x) k)), (5, Ni (x : Int))], [(0, .row 109 2 ((mAt bA stR ls k x).map runOwn))])) 1 [] ?_ ?_
 . rw [aDs]; exact Cl
 rintro i hi
 refine sq fun k4 => ?_
 have hmal := tM bA stR ls k i
 refine sr rfl fun k5 => (Aa hmal) (k5 ((cdB) ?_ ?_)) <;> intro hc1
 . have hge := gec hc1
   refine we ((jt) (k2 ((aj) (wR ?_))))
   have hie : i = ls.length := by omega
   subst hie; rw [aKc, C6]; refine ⟨[], ?_⟩; exact Bs
 obtain ⟨hlt, l, hl, hdrop, hml⟩ := ixc hc1
 have hgL := aKi bA stR k hl
 have hset := aKm bA stR k hl
 have hks := qH stR (k := k) hl
 have hkb := eO stR aGp ls k i
 have hkb2 := eO stR aGp ls k (i + 1)
 rw [hks] at hkb2
 have hmal := tM bA stR ls k i
 generalize hkk : kGo stR (ls.take i) k = kk at hks hkb hkb2 hset ⊢
 have hkl := pK stE zF l.ents kk
 have hse : stR l kk = kGo stE l.ents kk + 1 := rfl
 rw [hse] at hkb2
 have hg0 : ((mAt bA stR ls k i).map runOwn)[i]? = some (.agg [.own 65 5 (l.ents.map enA), .raw (.int .i64 l.mask)]) := by rw [B5, hgL]; rfl
 have hgs : ∀ a, (((mAt bA stR ls k i).map runOwn).set i a)[i]? = some a := fun a => iJ hg0
 have hw1 := wr (kGo stE l.ents kk + 1) (kGo stE l.ents kk + 1) og
 refine wk (k4 (sq fun k6 => wb ?_))
 refine bHa (i := 0) (j := i) (q := 0) og rfl hg0 rfl ?_
 refine sr rfl fun k7 => ?_
 simp only [go_sem, hgs, hmal, D3]
 refine ⟨⟨og, og⟩, ?_⟩
 refine vC (fun hN => dA (s := [(0, 1)]) 0 rfl rfl rfl ⟨func16, rfl, rfl⟩ hN (tK l.ents kk (hs.2 l hml) og og) rfl Ba ?_ (bDy (by simp only [AObj.ren, gZ]; rfl) (enB _ _))) (.inl rfl) ?_
 . simp only [go_sem, Nat.reduceLT]
 simp only [bH, AObj.ren, AV.ren, gZ, sg]
 refine (ja) ((jr) (k7 (sr rfl fun k8 => (Cm hgs hmal) ?_)))
 refine ⟨⟨og, og⟩, ?_⟩
 refine k8 (wg rfl ((Aa hw1) ((jt) (k6 ?_))))
 have hw := wiS i og
 refine bIq (i := 0) (n := 1) (j := i) (q := 0) og rfl rfl (hgs _) rfl ?_
 have hset' : ((mAt bA stR ls k i).map runOwn).set i (.agg [.own 65 5 ((mGo dP stE l.ents kk).map enA), .raw (.int .i64 (kGo stE l.ents kk))]) = (mAt bA stR ls k (i + 1)).map runOwn := by
   rw [<- hset, List.map_set]; rfl
 simp only [go_sem, List.set_set, hset']
 refine wg rfl ((Aa hw) ((jt) ?_))
 refine ⟨i + 1, og, og, [], ?_⟩
 rw [hks]
 simp only [go_sem, AObj.bel, Nat.reduceLeDiff, Nat.reduceLT, Nat.reduceAdd, stR] <;> simp
def vM (ls : List (List Run)) (k : Int) (hs : qJ ls) (h0 : 0 <= k) (hk : kGo kRuns ls k <= 1000000000000000000) : aH P 75 [.ref 0, Ni k] [(0, .row 107 1 (ls.map rsO))] 1 (Ni (kGo kRuns ls k)) [(0, .row 107 1 ((mGo (mGo bA stR) kRuns ls k).map rsO))] 1 := by
 refine (gq 19 [.tmp 4] func75) ?_
 have hlen := hs.1
 refine (aj) ?_
 refine sq fun k2 => (aj) (wb ?_)
 refine wn ls.length (fun x => ([(0, .ref 0), (1, Ni (kGo kRuns (ls.take x) k)), (5, Ni (x : Int))], [(0, .row 107 1 ((mAt (mGo bA stR) kRuns ls k x).map rsO))])) 1 [] ?_ ?_
 . rw [aDs]; exact Cl
 rintro i hi
 refine sq fun k4 => ?_
 have hmal := tM (mGo bA stR) kRuns ls k i
 refine sr rfl fun k5 => (Aa hmal) (k5 ((cdB) ?_ ?_)) <;> intro hc1
 . have hge := gec hc1
   refine we ((jt) (k2 ((aj) (wR ?_))))
   have hie : i = ls.length := by omega
   subst hie; rw [aKc, C6]; refine ⟨[], ?_⟩; exact Bs
 obtain ⟨hlt, l, hl, hdrop, hml⟩ := ixc hc1
 have hgL := aKi (mGo bA stR) kRuns k hl
 have hset := aKm (mGo bA stR) kRuns k hl
 have hks := qH kRuns (k := k) hl
 have hkb := eO kRuns aGw ls k i
 have hkb2 := eO kRuns aGw ls k (i + 1)
 rw [hks] at hkb2
 have hmal := tM (mGo bA stR) kRuns ls k i
 generalize hkk : kGo kRuns (ls.take i) k = kk at hks hkb hkb2 hset ⊢
 have hg0 : ((mAt (mGo bA stR) kRuns ls k i).map rsO)[i]? = some (.own 109 2 (l.map runOwn)) := by rw [B5, hgL]; rfl
 have hgs : ∀ a, (((mAt (mGo bA stR) kRuns ls k i).map rsO).set i a)[i]? = some a := fun a => iJ hg0
 refine wk (k4 (sq fun k6 => wb ?_))
 refine aCw (i := 0) (j := i) og rfl hg0 ?_
 refine wg rfl ?_; simp only [go_sem, hgs, hmal, D3]
 refine ⟨⟨og, og⟩, ?_⟩
 refine vC (fun hN => dA (s := [(0, 1)]) 0 rfl rfl rfl ⟨func129, rfl, rfl⟩ hN (aJn l kk (hs.2 l hml) og (show kRuns l kk <= _ by omega)) rfl Ba ?_ (bDy (by simp only [AObj.ren, aCb]; rfl) (sS _ _))) (.inl rfl) ?_
 . simp only [go_sem, Nat.reduceLT]
 simp only [bH, AObj.ren, AV.ren, aCb, sg]
 refine (ja) ((jr) ((jt) (k6 ?_)))
 have hw := wiS i og
 refine bFl (i := 0) (n := 1) (j := i) og rfl rfl (hgs _) ?_
 have hset' : ((mAt (mGo bA stR) kRuns ls k i).map rsO).set i (.own 109 2 ((mGo bA stR l kk).map runOwn)) = (mAt (mGo bA stR) kRuns ls k (i + 1)).map rsO := by
   rw [<- hset, List.map_set]; rfl
 simp only [go_sem, List.set_set, hset']
 refine wg rfl ((Aa hw) ((jt) ?_))
 refine ⟨i + 1, og, og, [], ?_⟩
 rw [hks]
 simp only [go_sem, AObj.bel, Nat.reduceLeDiff, Nat.reduceLT, Nat.reduceAdd, kRuns] <;> simp
end
def sY {H H1 nd : Heap} {s : List (Nat × Nat)} {m0 : Nat} (ho : iD (sg s) m0 H nd) (hn : (nd.map fun p => sg s p.1).Nodup) (hc : ∀ i, i < m0 -> i ∈ nd.map (·.1)) (hs : ∀ p ∈ s, p.1 ∈ nd.map (·.1)) (hk : nd.map (·.1) = H1.map (·.1)) (hm : m0 <= 1000) : FitC H s nd m0 0 H1 where
  objs := ho
  inj := hn
  cov := fun i hi => by obtain ⟨o, ho⟩ := lO (hc i hi); rw [ho]; rfl
  sk := fun p hp => by obtain ⟨o, ho⟩ := lO (hs p hp); rw [ho]; rfl
  dom := fun p hp => .inl (by obtain ⟨o, ho⟩ := lO (l := nd) (i := p.1) (by rw [hk]; exact D5 hp); rw [ho]; rfl)
  all := fun p hp => by obtain ⟨o, ho⟩ := lO (l := H1) (i := p.1) (by rw [<- hk]; exact D5 hp); rw [ho]; rfl
  far := by omega
abbrev markLvs := mGo (mGo bA stR) kRuns
def lB (t : Tree) (k : Int) : Int := kGo stI t.snaps (kGo kRuns t.levels (kGo stE t.mem k))
def rW (t : Tree) (k : Int) : Tree := ⟨t.seq, mGo dP stE t.mem k, markLvs t.levels (kGo stE t.mem k), mGo iC stI t.snaps (kGo kRuns t.levels (kGo stE t.mem k))⟩
def xP (d : Disk) (k : Int) : Int := kGo kRuns d.levels k
def yB (d : Disk) (k : Int) : Disk := { d with levels := markLvs d.levels k }
def lI (s : Store) (k : Int) : Int := xP s.disk (lB s.tree k)
def nU (s : Store) (k : Int) : Store := ⟨s.up, rW s.tree k, yB s.disk (lB s.tree k)⟩
def gS (t : Tree) : Prop := gY t.mem /\ qJ t.levels /\ t.snaps.length <= 1048576
def dM (s : Store) : Prop := gS s.tree /\ qJ s.disk.levels
def aEv (t : Tree) (k : Int) : k <= kGo stE t.mem k /\ kGo stE t.mem k <= kGo kRuns t.levels (kGo stE t.mem k) /\ kGo kRuns t.levels (kGo stE t.mem k) <= lB t k :=
  ⟨pK stE zF _ _, pK kRuns aGw _ _, pK stI aLa _ _⟩
def aMy (d : Disk) (k : Int) : k <= xP d k := pK kRuns aGw _ _
def aJp (t : Tree) (k : Int) (hs : gS t) (h0 : 0 <= k) (hk : lB t k <= 1000000000000000000) : aH P 39 [.agg [Ni t.seq, .ref 0, .ref 1, .ref 2], Ni k] [(0, .row 65 5 (t.mem.map enA)), (1, .row 107 1 (t.levels.map rsO)), (2, .row 3 1 (t.snaps.map inA))] 3 (Ni (lB t k)) [(0, .row 65 5 ((rW t k).mem.map enA)), (1, .row 107 1 ((rW t k).levels.map rsO)), (2, .row 3 1 ((rW t k).snaps.map inA))] 3 := by
 refine (gq 18 [.tmp 4] func39) ?_
 obtain ⟨hs1, hs2, hs3⟩ := hs
 obtain ⟨hk1, hk2, hk3⟩ := aEv t k
 refine (aj) ?_
 refine sr rfl fun k2 => (ja) ?_
 refine vC (fun hN => dA (s := [(0, 0)]) 0 rfl rfl rfl ⟨func16, rfl, rfl⟩ hN (tK t.mem k hs1 h0 og) rfl Ba ?_ (sY (by simp [iD, sg, Abs.get, AObj.ren, AObj.bel, UU, gZ, enB]) (by simp [sg, Abs.get]) (by intro i hi; simp; omega) oS rfl og)) (.inl rfl) ?_
 . exact Aj
 simp only [go_sem, bH, AObj.ren, AV.ren, gZ, sg]
 refine k2 (sr rfl fun k3 => (ja) ?_)
 refine vC (fun hN => dA (s := [(0, 1)]) 0 rfl rfl rfl ⟨func75, rfl, rfl⟩ hN (vM t.levels (kGo stE t.mem k) hs2 og og) rfl Ba ?_ (sY (by simp [iD, sg, Abs.get, AObj.ren, AObj.bel, UU, cY, iA]) (by simp [sg, Abs.get]) (by intro i hi; simp; omega) oS rfl og)) (.inl rfl) ?_
 . exact Aj
 simp only [go_sem, bH, AObj.ren, AV.ren, cY, sg]
 refine k3 (sr rfl fun k4 => (ja) ?_)
 refine vC (fun hN => dA (s := [(0, 2)]) 0 rfl rfl rfl ⟨func76, rfl, rfl⟩ hN (aJc t.snaps (kGo kRuns t.levels (kGo stE t.mem k)) hs3 og hk) rfl Ba ?_ (sY (by simp [iD, sg, Abs.get, AObj.ren, AObj.bel, UU, jX, bZ]) (by simp [sg, Abs.get]) (by intro i hi; simp; omega) oS rfl og)) (.inl rfl) ?_
 . exact Aj
 simp only [go_sem, bH, AObj.ren, AV.ren, jX, sg]
 refine k4 ((aj) (wR ?_))
 refine ⟨[], ?_⟩
 simp only [go_sem, lB, rW, AObj.bel, AObj.ren, AV.ren, aA, sg] <;> simp
def aJs (d : Disk) (k : Int) (hs : qJ d.levels) (h0 : 0 <= k) (hk : xP d k <= 1000000000000000000) : aH P 40 [.agg [Ns d.log, Ni d.safe, .ref 0, Ni d.seq], Ni k] [(0, .row 107 1 (d.levels.map rsO))] 1 (Ni (xP d k)) [(0, .row 107 1 ((yB d k).levels.map rsO))] 1 := by
 refine (gq 10 [.tmp 4] func40) ((aj) ?_)
 refine sr rfl fun k2 => (ja) ?_
 refine vC (fun hN => dA (s := [(0, 0)]) 0 rfl rfl rfl ⟨func75, rfl, rfl⟩ hN (vM d.levels k hs h0 hk) rfl Ba ?_ (sY (by simp [iD, sg, Abs.get, AObj.ren, AObj.bel, UU, cY, iA]) (by simp [sg, Abs.get]) (by intro i hi; simp; omega) oS rfl og)) (.inl rfl) ?_
 . exact Aj
 simp only [go_sem, bH, AObj.ren, AV.ren, cY, sg]
 refine k2 ((aj) (wR ?_))
 refine ⟨[], ?_⟩
 simp only [go_sem, xP, yB, AObj.bel, AObj.ren, AV.ren, aA, sg] <;> simp
def uW (s : Store) (k : Int) (hs : dM s) (h0 : 0 <= k) (hk : lI s k <= 1000000000000000000) : aH P 15 [.agg [Nb s.up, Ni s.tree.seq, .ref 0, .ref 1, .ref 2, Ns s.disk.log, Ni s.disk.safe, .ref 3, Ni s.disk.seq], Ni k] [(0, .row 65 5 (s.tree.mem.map enA)), (1, .row 107 1 (s.tree.levels.map rsO)), (2, .row 3 1 (s.tree.snaps.map inA)), (3, .row 107 1 (s.disk.levels.map rsO))] 4 (Ni (lI s k)) [(0, .row 65 5 ((nU s k).tree.mem.map enA)), (1, .row 107 1 ((nU s k).tree.levels.map rsO)), (2, .row 3 1 ((nU s k).tree.snaps.map inA)), (3, .row 107 1 ((nU s k).disk.levels.map rsO))] 4 := by
 refine (gq 14 [.tmp 4] func15) ?_
 obtain ⟨hs1, hs2⟩ := hs
 have hk1 := aMy s.disk (lB s.tree k)
 have hk2 : xP s.disk (lB s.tree k) <= 1000000000000000000 := hk
 obtain ⟨hk3, hk4, hk5⟩ := aEv s.tree k
 refine (aj) ?_
 refine sr rfl fun k2 => (ja) ?_
 refine vC (fun hN => dA (s := [(0, 0), (1, 1), (2, 2)]) 0 rfl rfl rfl ⟨func39, rfl, rfl⟩ hN (aJp s.tree k hs1 h0 og) rfl Ba ?_ (sY (by simp [iD, sg, Abs.get, AObj.ren, AObj.bel, UU, gZ, cY, jX, enB, iA, bZ]) (by simp [sg, Abs.get]) (by intro i hi; simp; omega) oS rfl og)) (.inl rfl) ?_
 . exact Aj
 refine (De) (k2 (sr rfl fun k3 => (ja) ?_))
 refine vC (fun hN => dA (s := [(0, 3)]) 0 rfl rfl rfl ⟨func40, rfl, rfl⟩ hN (aJs s.disk (lB s.tree k) hs2 og hk2) rfl Ba ?_ (sY (by simp [iD, sg, Abs.get, AObj.ren, AObj.bel, UU, cY, iA]) (by simp [sg, Abs.get]) (by intro i hi; simp; omega) oS rfl og)) (.inl rfl) ?_
 . exact Aj
 simp only [go_sem, bH, AObj.ren, AV.ren, cY, sg]
 refine k3 ((aj) (wR ?_))
 refine ⟨[], ?_⟩
 simp only [go_sem, lI, nU, AObj.bel, AObj.ren, AV.ren, aA, sg] <;> simp
def tQ (ls : List Entry) (k : Int) (hs : gY ls) (h0 : 0 <= k) (hk : kGo stE ls k <= 1000000000000000000) : aB P 77 [.sl 5 ((mGo dP stE ls k).map enA), Ni k] [] 0 (Ni (kGo stE ls k)) := by
 refine (pq 60 [.tmp 4] func77) ?_
 have hlen := hs.1
 have hmal := tS dP stE ls k
 refine (aj) ?_
 refine sq fun k2 => (aj) (wb ?_)
 refine wn ls.length (fun x => ([(0, .sl 5 ((mGo dP stE ls k).map enA)), (1, Ni (kGo stE (ls.take x) k)), (5, Ni (x : Int))], [])) 0 [] ?_ ?_
 . exact Cn
 rintro i hi
 refine sq fun k4 => sr rfl fun k5 => (Aa hmal) (k5 ((cdB) ?_ ?_)) <;> intro hc1
 . have hge := gec hc1
   refine we ((jt) (k2 ((aj) (wR ?_))))
   have hie : i = ls.length := by omega
   subst hie; rw [C6]; refine fO ?_ trivial; exact Aj
 obtain ⟨hlt, l, hl, hdrop, hml⟩ := ixc hc1
 have hgL := aFb dP stE k hl
 have hks := qH stE (k := k) hl
 have hkb := eO stE zF ls k i
 have hkb2 := eO stE zF ls k (i + 1)
 rw [hks] at hkb2
 generalize hkk : kGo stE (ls.take i) k = kk at hks hkb hkb2 hgL ⊢
 have hse : stE l kk = kk + 5 := rfl
 rw [hse] at hkb2
 have hw1 := wr (kk + 1) (kk + 1) og
 have hw2 := wr (kk + 1 + 1) (kk + 2) og
 have hw3 := wr (kk + 2 + 1) (kk + 3) og
 have hw4 := wr (kk + 3 + 1) (kk + 4) og
 have hw5 := wr (kk + 4 + 1) (kk + 5) og
 refine wk (k4 (sq fun k6 => wb (sq fun k7 => sd mixed rfl fun k8 => ?_)))
 simp only [go_sem, hgL, dP, enA, hmal]
 refine ⟨⟨og, og⟩, ?_⟩
 refine tp rfl rfl rfl ⟨func41, rfl, rfl⟩ (lP kk og) rfl oG ?_
 refine (Cg) ((jr) ((jy) (k8 ((cdA) (fun hc => by simp at hc) fun hc2 => ?_))))
 refine wk (k7 (sr rfl fun k9 => (Aa hw1) (k9 (sq fun k10 => sr rfl fun k11 => ?_))))
 simp only [go_sem, hgL, dP, enA, hmal, decide_true, Bool.not_true]
 refine ⟨⟨og, og⟩, ?_⟩
 refine k11 ((cdA) (fun hc => by simp at hc) fun hc3 => ?_)
 refine wk (k10 (sr rfl fun k12 => (Aa hw2) (k12 (sq fun k13 => sr rfl fun k14 => ?_))))
 simp only [go_sem, hgL, dP, enA, hmal, decide_true, Bool.not_true]
 refine ⟨⟨og, og⟩, ?_⟩
 refine k14 ((cdA) (fun hc => by simp at hc) fun hc4 => ?_)
 refine wk (k13 (sr rfl fun k15 => (Aa hw3) (k15 (sq fun k16 => sd mixed rfl fun k17 => ?_))))
 simp only [go_sem, hgL, dP, enA, hmal]
 refine ⟨⟨og, og⟩, ?_⟩
 refine tp rfl rfl rfl ⟨func41, rfl, rfl⟩ (lP (kk + 3) og) rfl oG ?_
 refine (Cg) ((jr) ((jy) (k17 ((cdA) (fun hc => by simp at hc) fun hc5 => ?_))))
 refine wk (k16 (sr rfl fun k18 => (Aa hw4) (k18 (sq fun k19 => sr rfl fun k20 => ?_))))
 simp only [go_sem, hgL, dP, enA, hmal, decide_true, Bool.not_true]
 refine ⟨⟨og, og⟩, ?_⟩
 refine k20 ((cdA) (fun hc => by simp at hc) fun hc6 => ?_)
 refine wk (k19 (wg rfl ((Aa hw5) ((jt) (k6 ((jw (wiS i og)) ((jt) ?_)))))))
 refine ⟨i + 1, og, og, [], ?_⟩
 rw [hks]
 simp only [go_sem, stE] <;> simp
def aJq (ls : List Int) (k : Int) (hs : ls.length <= 1048576) (h0 : 0 <= k) (hk : kGo stI ls k <= 1000000000000000000) : aB P 79 [.sl 1 ((mGo iC stI ls k).map inA), Ni k] [] 0 (Ni (kGo stI ls k)) := by
 refine (pq 21 [.tmp 4] func79) ?_
 have hlen := hs
 have hmal := tS iC stI ls k
 refine (aj) ?_
 refine sq fun k2 => (aj) (wb ?_)
 refine wn ls.length (fun x => ([(0, .sl 1 ((mGo iC stI ls k).map inA)), (1, Ni (kGo stI (ls.take x) k)), (5, Ni (x : Int))], [])) 0 [] ?_ ?_
 . exact Cn
 rintro i hi
 refine sq fun k4 => sr rfl fun k5 => (Aa hmal) (k5 ((cdB) ?_ ?_)) <;> intro hc1
 . have hge := gec hc1
   refine we ((jt) (k2 ((aj) (wR ?_))))
   have hie : i = ls.length := by omega
   subst hie; rw [C6]; refine fO ?_ trivial; exact Aj
 obtain ⟨hlt, l, hl, hdrop, hml⟩ := ixc hc1
 have hgL := aFb iC stI k hl
 have hks := qH stI (k := k) hl
 have hkb := eO stI aLa ls k i
 have hkb2 := eO stI aLa ls k (i + 1)
 rw [hks] at hkb2
 generalize hkk : kGo stI (ls.take i) k = kk at hks hkb hkb2 hgL ⊢
 have hse : stI l kk = kk + 1 := rfl
 rw [hse] at hkb2
 have hw1 := wr (kk + 1) (kk + 1) og
 refine wk (k4 (sq fun k6 => wb (sq fun k7 => sr rfl fun k8 => ?_)))
 simp only [go_sem, hgL, iC, inA, hmal, decide_true, Bool.not_true]
 refine ⟨⟨og, og⟩, ?_⟩
 refine k8 ((cdA) (fun hc => by simp at hc) fun hc2 => ?_)
 refine wk (k7 (wg rfl ((Aa hw1) ((jt) (k6 ((jw (wiS i og)) ((jt) ?_)))))))
 refine ⟨i + 1, og, og, [], ?_⟩
 rw [hks]
 simp only [go_sem, stI] <;> simp
def aJh (ls : List Run) (k : Int) (hs : xB ls) (h0 : 0 <= k) (hk : kGo stR ls k <= 1000000000000000000) : aB P 130 [.sl 2 ((mGo bA stR ls k).map rA), Ni k] [] 0 (Ni (kGo stR ls k)) := by
 refine (pq 31 [.tmp 4] func130) ?_
 have hlen := hs.1
 have hmal := tS bA stR ls k
 refine (aj) ?_
 refine sq fun k2 => (aj) (wb ?_)
 refine wn ls.length (fun x => ([(0, .sl 2 ((mGo bA stR ls k).map rA)), (1, Ni (kGo stR (ls.take x) k)), (5, Ni (x : Int))], [])) 0 [] ?_ ?_
 . exact Cn
 rintro i hi
 refine sq fun k4 => sr rfl fun k5 => (Aa hmal) (k5 ((cdB) ?_ ?_)) <;> intro hc1
 . have hge := gec hc1
   refine we ((jt) (k2 ((aj) (wR ?_))))
   have hie : i = ls.length := by omega
   subst hie; rw [C6]; refine fO ?_ trivial; exact Aj
 obtain ⟨hlt, l, hl, hdrop, hml⟩ := ixc hc1
 have hgL := aFb bA stR k hl
 have hks := qH stR (k := k) hl
 have hkb := eO stR aGp ls k i
 have hkb2 := eO stR aGp ls k (i + 1)
 rw [hks] at hkb2
 generalize hkk : kGo stR (ls.take i) k = kk at hks hkb hkb2 hgL ⊢
 have hkl := pK stE zF l.ents kk
 have hse : stR l kk = kGo stE l.ents kk + 1 := rfl
 rw [hse] at hkb2
 have hw1 := wr (kGo stE l.ents kk + 1) (kGo stE l.ents kk + 1) og
 have hn : decide (kGo stE l.ents kk < 0) = false := by simp; omega
 refine wk (k4 (sq fun k6 => wb (sr rfl fun k7 => ?_)))
 simp only [go_sem, hgL, bA, rA, hmal]
 refine ⟨⟨og, og⟩, ?_⟩
 refine (vr rfl rfl rfl func77 (tQ l.ents kk (hs.2 l hml) og og) rfl oG) ((jr) (k7 (sq fun k8 => sr rfl fun k9 => (Aa hn) (k9 ((cdA) (fun hc => by simp at hc) fun hc2 => ?_)))))
 refine wk (k8 (sq fun k10 => sr rfl fun k11 => ?_))
 simp only [go_sem, hgL, bA, rA, hmal, decide_true, Bool.not_true]
 refine ⟨⟨og, og⟩, ?_⟩
 refine k11 ((cdA) (fun hc => by simp at hc) fun hc3 => ?_)
 refine wk (k10 (wg rfl ((Aa hw1) ((jt) (k6 ((jw (wiS i og)) ((jt) ?_)))))))
 refine ⟨i + 1, og, og, [], ?_⟩
 rw [hks]
 simp only [go_sem, stR] <;> simp
def vG (ls : List (List Run)) (k : Int) (hs : qJ ls) (h0 : 0 <= k) (hk : kGo kRuns ls k <= 1000000000000000000) : aB P 78 [.sl 1 ((mGo (mGo bA stR) kRuns ls k).map rsA), Ni k] [] 0 (Ni (kGo kRuns ls k)) := by
 refine (pq 21 [.tmp 4] func78) ?_
 have hlen := hs.1
 have hmal := tS (mGo bA stR) kRuns ls k
 refine (aj) ?_
 refine sq fun k2 => (aj) (wb ?_)
 refine wn ls.length (fun x => ([(0, .sl 1 ((mGo (mGo bA stR) kRuns ls k).map rsA)), (1, Ni (kGo kRuns (ls.take x) k)), (5, Ni (x : Int))], [])) 0 [] ?_ ?_
 . exact Cn
 rintro i hi
 refine sq fun k4 => sr rfl fun k5 => (Aa hmal) (k5 ((cdB) ?_ ?_)) <;> intro hc1
 . have hge := gec hc1
   refine we ((jt) (k2 ((aj) (wR ?_))))
   have hie : i = ls.length := by omega
   subst hie; rw [C6]; refine fO ?_ trivial; exact Aj
 obtain ⟨hlt, l, hl, hdrop, hml⟩ := ixc hc1
 have hgL := aFb (mGo bA stR) kRuns k hl
 have hks := qH kRuns (k := k) hl
 have hkb := eO kRuns aGw ls k i
 have hkb2 := eO kRuns aGw ls k (i + 1)
 rw [hks] at hkb2
 generalize hkk : kGo kRuns (ls.take i) k = kk at hks hkb hkb2 hgL ⊢
 have hn : decide (kGo stR l kk < 0) = false := by have h9 : kGo stR l kk = kRuns l kk := rfl; simp; omega
 refine wk (k4 (sq fun k6 => wb (sr rfl fun k7 => ?_)))
 simp only [go_sem, hgL, rsA, hmal]
 refine ⟨⟨og, og⟩, ?_⟩
 refine (vr rfl rfl rfl func130 (aJh l kk (hs.2 l hml) og (show kRuns l kk <= _ by omega)) rfl oG) ((jr) (k7 (sr rfl fun k8 => (Aa hn) (k8 ((cdA) (fun hc => by simp at hc) fun hc2 => ?_)))))
 refine wk ((jt) (k6 ((jw (wiS i og)) ((jt) ?_))))
 refine ⟨i + 1, og, og, [], ?_⟩
 rw [hks]
 simp only [go_sem, kRuns] <;> simp
def aJd (t : Tree) (k : Int) (hs : gS t) (h0 : 0 <= k) (hk : lB t k <= 1000000000000000000) : aB P 42 [trA (rW t k), Ni k] [] 0 (Ni (lB t k)) := by
 refine (pq 24 [.tmp 4] func42) ?_
 simp only [trA, rW]
 obtain ⟨hs1, hs2, hs3⟩ := hs
 obtain ⟨hk1, hk2, hk3⟩ := aEv t k
 have n1 : decide (kGo stE t.mem k < 0) = false := by simp; omega
 have n2 : decide (kGo kRuns t.levels (kGo stE t.mem k) < 0) = false := by simp; omega
 have n3 : decide (kGo stI t.snaps (kGo kRuns t.levels (kGo stE t.mem k)) < 0) = false := by have h9 : lB t k = kGo stI t.snaps (kGo kRuns t.levels (kGo stE t.mem k)) := rfl; simp; omega
 refine (aj) ?_
 refine sr rfl fun k2 => (ja) ?_
 refine (vr rfl rfl rfl func77 (tQ t.mem k hs1 h0 og) rfl oG) (k2 (sq fun k3 => sr rfl fun k4 => (Aa n1) (k4 ((cdA) (fun hc => by simp at hc) fun hc1 => ?_))))
 refine wk (k3 (sr rfl fun k5 => (ja) ?_))
 refine (vr rfl rfl rfl func78 (vG t.levels (kGo stE t.mem k) hs2 og og) rfl oG) (k5 (sq fun k6 => sr rfl fun k7 => (Aa n2) (k7 ((cdA) (fun hc => by simp at hc) fun hc2 => ?_))))
 refine wk (k6 (sr rfl fun k8 => (ja) ?_))
 refine (vr rfl rfl rfl func79 (aJq t.snaps (kGo kRuns t.levels (kGo stE t.mem k)) hs3 og hk) rfl oG) (k8 (sq fun k9 => sr rfl fun k10 => (Aa n3) (k10 ((cdA) (fun hc => by simp at hc) fun hc3 => ?_))))
 refine wk (k9 ((aj) (wR ?_)))
 refine fO ?_ trivial; simp only [go_sem, lB]
def aJe (d : Disk) (k : Int) (hs : qJ d.levels) (h0 : 0 <= k) (hk : xP d k <= 1000000000000000000) : aB P 43 [dkA (yB d k), Ni k] [] 0 (Ni (xP d k)) := by
 refine (pq 12 [.tmp 4] func43) ?_
 simp only [dkA, yB]
 have hk1 := aMy d k
 have n1 : decide (kGo kRuns d.levels k < 0) = false := by have h9 : xP d k = kGo kRuns d.levels k := rfl; simp; omega
 refine (aj) ?_
 refine sr rfl fun k2 => (ja) ?_
 refine (vr rfl rfl rfl func78 (vG d.levels k hs h0 hk) rfl oG) (k2 (sq fun k3 => sr rfl fun k4 => (Aa n1) (k4 ((cdA) (fun hc => by simp at hc) fun hc1 => ?_))))
 refine wk (k3 ((aj) (wR ?_)))
 refine fO ?_ trivial; simp only [go_sem, xP]
def vE (s : Store) (k : Int) (hs : dM s) (h0 : 0 <= k) (hk : lI s k <= 1000000000000000000) : aB P 17 [stA (nU s k), Ni k] [] 0 (Ni (lI s k)) := by
 refine (pq 18 [.tmp 4] func17) ?_
 simp only [stA, nU]
 obtain ⟨hs1, hs2⟩ := hs
 have hk1 := aMy s.disk (lB s.tree k)
 have hk2 : xP s.disk (lB s.tree k) <= 1000000000000000000 := hk
 obtain ⟨hk3, hk4, hk5⟩ := aEv s.tree k
 have n1 : decide (lB s.tree k < 0) = false := by simp; omega
 have n2 : decide (xP s.disk (lB s.tree k) < 0) = false := by simp; omega
 refine (aj) ?_
 refine sr rfl fun k2 => (ja) ?_
 refine (vr rfl rfl rfl func42 (aJd s.tree k hs1 h0 og) Af Af) (k2 (sq fun k3 => sr rfl fun k4 => (Aa n1) (k4 ((cdA) (fun hc => by simp at hc) fun hc1 => ?_))))
 refine wk (k3 (sr rfl fun k5 => (ja) ?_))
 refine (vr rfl rfl rfl func43 (aJe s.disk (lB s.tree k) hs2 og hk2) Av Av) (k5 (sq fun k6 => sr rfl fun k7 => (Aa n2) (k7 ((cdA) (fun hc => by simp at hc) fun hc2 => ?_))))
 refine wk (k6 ((aj) (wR ?_)))
 refine fO ?_ trivial; simp only [go_sem, lI]
def e65 : P.underlying 65 = some (.struct (P.fieldsOf 65)) /\ P.stoodInHeld 65 = false /\ P.eqGuardType P.depth 65 = false /\ P.underlying 9 = some .string /\ P.underlying 3 = some (.int .i64) := by refine ⟨?_, ?_, ?_, ?_, ?_⟩ <;> kernel_rfl
def f65 : (P.fieldsOf 65).toList = [{ name := "Key", type := 9, offset := 0, embedded := false, tag := "", pkgPath := "", byteOffset := 0 }, { name := "Seq", type := 3, offset := 1, embedded := false, tag := "", pkgPath := "", byteOffset := 16 },
  { name := "Kind", type := 3, offset := 2, embedded := false, tag := "", pkgPath := "", byteOffset := 24 }, { name := "Text", type := 9, offset := 3, embedded := false, tag := "", pkgPath := "", byteOffset := 32 }, { name := "N", type := 3, offset := 4, embedded := false, tag := "", pkgPath := "", byteOffset := 48 }] := kr
def p65 : P.plainKey 9 = true /\ P.plainKey 3 = true := by refine ⟨?_, ?_⟩ <;> kernel_rfl
def aBj (e : Entry) : Array Value := #[.string e.key, .int .i64 e.seq, .int .i64 e.kind, .string e.text, .int .i64 e.n]
def wF (a b : ByteArray) : (a.toList == b.toList) = decide (a = b) := by
  rw [<- beq_toListBytes]
  obtain ⟨⟨x⟩⟩ := a
  obtain ⟨⟨y⟩⟩ := b
  by_cases h : x = y
  . subst h; rw [decide_eq_true rfl]; show (({ toList := x } : Array UInt8) == { toList := x }) = true; simp
  have h1 : (({ data := { toList := x } } : ByteArray) = { data := { toList := y } }) ↔ x = y := by simp
  simp [h]
  show (({ toList := x } : Array UInt8) == { toList := y }) = false
  simpa using h
def bHu (e f : Entry) (w : World) : (Op.equalIn 10000 65 (.agg (aBj e)) (.agg (aBj f))).run P w = .ok (decide (e = f)) w := by
  rw [run_equalIn_agg w 9999 65 _ _ e65.1 e65.2.1, f65]
  have h0 : ∀ e : Entry, (part 9 (aBj e) 0).run P w = .ok (.string e.key) w := fun e => run_part_plain w p65.1 rfl
  have h1 : ∀ e : Entry, (part 3 (aBj e) 1).run P w = .ok (.int .i64 e.seq) w := fun e => run_part_plain w p65.2 rfl
  have h2 : ∀ e : Entry, (part 3 (aBj e) 2).run P w = .ok (.int .i64 e.kind) w := fun e => run_part_plain w p65.2 rfl
  have h3 : ∀ e : Entry, (part 9 (aBj e) 3).run P w = .ok (.string e.text) w := fun e => run_part_plain w p65.1 rfl
  have h4 : ∀ e : Entry, (part 3 (aBj e) 4).run P w = .ok (.int .i64 e.n) w := fun e => run_part_plain w p65.2 rfl
  have hs : ∀ a b : ByteArray, (Op.equalIn 9999 9 (.string a) (.string b)).run P w = .ok (decide (a = b)) w := fun a b => by rw [run_equalIn_string w 9998 9 a b e65.2.2.2.1, wF]
  have hi : ∀ a b : Int, (Op.equalIn 9999 3 (.int .i64 a) (.int .i64 b)).run P w = .ok (a == b) w := fun a b => run_equalIn_int w 9998 3 .i64 .i64 a b e65.2.2.2.2
  have hd : decide (e = f) = (decide (e.key = f.key) && ((e.seq == f.seq) && ((e.kind == f.kind) && (decide (e.text = f.text) && (e.n == f.n))))) := by
    obtain ⟨a1, a2, a3, a4, a5⟩ := e
    obtain ⟨b1, b2, b3, b4, b5⟩ := f
    rw [Bool.eq_iff_iff]
    simp [and_assoc]
  rw [hd]; simp only [Op.eqFields, Sem.run_bind, Sem.run_ite, Sem.run_pure, h0, h1, h2, h3, h4, hs, hi, Result.andThen_ok, ne_eq, String.reduceEq, not_false_eq_true, if_true]
  generalize decide (e.key = f.key) = c1
  generalize (e.seq == f.seq) = c2
  generalize (e.kind == f.kind) = c3
  generalize decide (e.text = f.text) = c4
  generalize (e.n == f.n) = c5
  cases c1 <;> cases c2 <;> cases c3 <;> cases c4 <;> cases c5 <;> rfl
def aDv {ro : Option Nat} {N : Nat} {E : Env} {H : Heap} {nx : Nat} {o : Oper} {b0 : Nat} {ds : List (Option Tmp)} {x y : Operand} {t' : TypeId} {e f : Entry} (hg : o.guard = none) (ho : o.op = .binOp .neq 65 x y t') (hN : ∀ d, o.dst = some d -> d < N)
    (hx : opv E x = some (enA e)) (hy : opv E y = some (enA f)) : aS P ro N ds o b0 E H (tO [x, y]) [] (Nb (!decide (e = f))) [] nx 0 := by
  refine lsO hg fun E' H' U hE hH' _ => ?_
  rw [aU0]
  have hops := oCg hE
  refine aL (by simp [ho, Op.noDefer]) hN fun C a w hR => ?_
  obtain ⟨h1, _⟩ := hR.opv (x := x) (r := enA e) (by rw [hops x oS]; exact hx)
  obtain ⟨h2, _⟩ := hR.opv (x := y) (r := enA f) (by rw [hops y oS]; exact hy)
  have hv : ∀ (e : Entry) (v : Value), Rep C.ρ (C.avoid H') w.heap (enA e) v -> v = .agg (aBj e) := fun e v h => by
    cases h with
    | agg _ vs hn hr =>
      have k0 := hr 0 _ rfl
      have k1 := hr 1 _ rfl
      have k2 := hr 2 _ rfl
      have k3 := hr 3 _ rfl
      have k4 := hr 4 _ rfl
      have hsz : vs.size = 5 := hn
      have g : ∀ j u, vs.getD j undef = u -> j < 5 -> vs[j]? = some u := fun j u h hj => by
        rw [B2, E3 og] at h; rw [E3 og]
        exact congrArg some h
      have i0 : vs.getD 0 undef = .string e.key := by generalize vs.getD 0 undef = u at k0; cases k0; rfl
      have i1 : vs.getD 1 undef = .int .i64 e.seq := by generalize vs.getD 1 undef = u at k1; cases k1; rfl
      have i2 : vs.getD 2 undef = .int .i64 e.kind := by generalize vs.getD 2 undef = u at k2; cases k2; rfl
      have i3 : vs.getD 3 undef = .string e.text := by generalize vs.getD 3 undef = u at k3; cases k3; rfl
      have i4 : vs.getD 4 undef = .int .i64 e.n := by generalize vs.getD 4 undef = u at k4; cases k4; rfl
      congr 1
      refine Array.ext_getElem? fun j => ?_
      match j with
      | 0 => exact g 0 _ i0 og
      | 1 => exact g 1 _ i1 og
      | 2 => exact g 2 _ i2 og
      | 3 => exact g 3 _ i3 og
      | 4 => exact g 4 _ i4 og
      | j + 5 => rw [Array.getElem?_eq_none og]; rfl
  have hev := hv e _ h1
  have hfv := hv f _ h2
  refine ⟨trivial, _, ?_, .raw _⟩
  have hgd := run_eqGuard_agg (P := P) w .neq 65 x y (aBj e) (aBj f) e65.2.2.1
  simp only [execOp, ho, hev, hfv, Sem.run_bind, hgd, Result.andThen_ok, run_neq_struct, bHu, Sem.run_pure]
def bV {p : Nat -> Bool} {i : Nat} (h : ∀ j, j < i -> p j = true) (hp : p i = true) : ∀ j, j < i + 1 -> p j = true := fun j hj => by
  by_cases e : j = i
  . rw [e]; exact hp
  exact h j og
def gR {p : Nat -> Bool} {i n : Nat} (hi : i < n) (hp : p i = false) : (List.range n).all p = false := by
  rw [List.all_eq_false]
  exact ⟨i, List.mem_range.2 hi, by simp [hp]⟩
def eU {p : Nat -> Bool} {i n : Nat} (hi : n <= i) (h : ∀ j, j < i -> p j = true) : (List.range n).all p = true := by
  rw [C4]; intro j hj
  exact h j (by have := List.mem_range.1 hj; omega)
abbrev bRt (s : ByteArray) : Bool := s.toList == (⟨#[]⟩ : ByteArray).toList
def wZ (s : ByteArray) (i : Nat) : Bool := !((decide (aJ s i < 97) || decide (122 < aJ s i)) && (decide (aJ s i < 47) || decide (57 < aJ s i)))
def jG (s : ByteArray) : Bool := (List.range s.size).all (wZ s) && (decide (1 <= (s.size : Int)) && decide ((s.size : Int) <= 8))
def nK (n : Int) : Bool := decide (-1000000 <= n) && decide (n <= 1000000)
def jP (e : Entry) : Bool := !jG e.key || decide (e.seq < 1) || decide (100000 < e.seq) || !nK e.n || decide (60 < (e.text.size : Int))
def bQ (e : Entry) : Bool := if jP e = true then false else if e.kind = 1 then true else if e.kind = 2 then bRt e.text && decide (e.n = 0) else if e.kind = 3 then bRt e.text else false
def entLt (a b : Entry) : Bool := Op.bytesLess a.key.toList b.key.toList || (a.key.toList == b.key.toList && decide (b.seq < a.seq))
def bT (ls : List Entry) (i : Nat) : Entry := (ls[i - 1]?).getD ⟨⟨#[]⟩, 0, 0, ⟨#[]⟩, 0⟩
def aAu (ls : List Entry) (i : Nat) : Bool := match ls[i]? with
  | some e => !(!bQ e || (decide (0 < (i : Int)) && !entLt (bT ls i) e))
  | none => true
def cV (ls : List Entry) : Bool := (List.range ls.length).all (aAu ls)
def aFn (e : Entry) : Prop := e.key.size <= 4611686018427387904 /\ e.text.size <= 4611686018427387904
def dB (ls : List Entry) : Prop := ls.length <= 4611686018427387904 /\ ∀ e ∈ ls, aFn e
def sP {α : Type} [DecidableEq α] (a b : List α) (i : Nat) : Bool := decide (a[i]? = b[i]?)
def pM {α : Type} [DecidableEq α] {a b : List α} (hl : a.length = b.length) (h : ∀ j, j < a.length -> sP a b j = true) : a = b := by
  refine List.ext_getElem? fun j => ?_
  by_cases hj : j < a.length
  . simpa [sP] using h j hj
  rw [D6 og, D6 og]
def qL (ls : List Entry) (seq : Int) (i : Nat) : Bool := match ls[i]? with | some e => !decide (seq < e.seq) | none => true
def mC (ls : List Entry) (seq : Int) : Bool := (List.range ls.length).all (qL ls seq)
def aUs (s : ByteArray) (hz : s.size <= 4611686018427387904) : aB P 157 [Ns s] [] 0 (Nb (jG s)) := by
 refine (pq 40 [.tmp 2] func157) ((aj) ?_)
 refine sq fun k2 => (aj) (wb ?_)
 refine wa s.size (wZ s) (fun x => ([(0, Ns s), (3, Ni (x : Int))], [])) 0 [] ?_ ?_
 . exact jc
 rintro i ⟨hi, hall⟩
 refine sq fun k4 => (aj) ((cdB) ?_ ?_) <;> intro hc1
 . have hge : s.size <= i := Nat.not_lt.1 (by simpa using hc1)
   refine we ((jt) (k2 ((aj) (wR ?_))))
   have h9 : jG s = (decide (1 <= (s.size : Int)) && decide ((s.size : Int) <= 8)) := by unfold jG; rw [eU hge hall]; rfl
   exact fq h9
 have hlt : i < s.size := by simpa using hc1
 refine wk (k4 (sq fun k6 => wb (sr rfl fun k7 => (ja) ((jr) (k7 ((cdA) ?_ ?_)))))) <;> intro hc2
 . have hp : wZ s i = false := by unfold wZ; rw [hc2]; rfl
   refine (aj) (wR ((Ad) ?_))
   have h9 : jG s = false := by unfold jG; rw [gR hlt hp]; rfl
   exact fq h9
 have hp : wZ s i = true := by unfold wZ; rw [hc2]; rfl
 refine wk ((jt) (k6 ((jw (wiS i og)) ((jt) ?_))))
 refine ⟨i + 1, ⟨og, bV hall hp⟩, og, [], ?_⟩
 exact jo
def mR (n : Int) : aB P 158 [Ni n] [] 0 (Nb (nK n)) := by
 refine (pq 9 [.tmp 2] func158) ((aj) ((aj) (wR ?_)))
 refine fO ?_ trivial; simp only [go_sem, nK]
def yH (e : Entry) (hz : aFn e) : aB P 107 [enA e] [] 0 (Nb (bQ e)) := by
 refine (pq 48 [.tmp 2] func107) ?_
 simp only [enA]
 refine (aj) ?_
 refine sq fun k2 => sr rfl fun k3 => (ja) ((vq func157 (aUs e.key hz.1)) ?_)
 refine vpg rfl rfl rfl rfl rfl rfl ⟨func158, rfl, rfl⟩ (fun hg => mR e.n) oG (fun hg => oG) oG trivial ?_
 refine (ja) (k3 ((cdA) ?_ ?_)) <;> intro hc1
 . have hb : jP e = true := hc1
   refine (aj) (wR ?_)
   refine fO ?_ trivial; simp only [go_sem, bQ, hb]
 have hb : jP e = false := hc1
 refine wk (k2 (sq fun k5 => (aj) (wb ((aj) ((cdA) ?_ ?_))))) <;> intro hc2
 . have k1 : e.kind = 1 := by simpa using hc2
   refine (aj) (wR ((Ad) ?_))
   refine fO ?_ trivial; simp only [go_sem, bQ, hb, B9, if_false, if_pos k1]
 have k1 : ¬ (e.kind = 1) := by simpa using hc2
 refine (aj) ((cdA) ?_ ?_) <;> intro hc3
 . have k2 : e.kind = 2 := by simpa using hc3
   refine (aj) (wR ((Ad) ?_))
   refine fO ?_ trivial; simp only [go_sem, bQ, hb, B9, if_false, if_neg k1, if_pos k2]
 have k2 : ¬ (e.kind = 2) := by simpa using hc3
 refine (aj) ((cdA) ?_ ?_) <;> intro hc4
 . have k3 : e.kind = 3 := by simpa using hc4
   refine (aj) (wR ((Ad) ?_))
   refine fO ?_ trivial; simp only [go_sem, bQ, hb, B9, if_false, if_neg k1, if_neg k2, if_pos k3]
 have k3 : ¬ (e.kind = 3) := by simpa using hc4
 refine wk ((jt) (k5 ((aj) (wR ?_))))
 refine fO ?_ trivial; simp only [go_sem, bQ, hb, B9, if_false, if_neg k1, if_neg k2, if_neg k3]
def pO (a b : Entry) : aB P 149 [enA a, enA b] [] 0 (Nb (entLt a b)) := by
 refine (pq 24 [.tmp 4] func149) ?_
 simp only [enA]
 refine (aj) ((aj) (wR ?_))
 refine fO ?_ trivial; simp only [go_sem, entLt]
def sE (ls : List Entry) (hz : dB ls) : aB P 96 [.sl 5 (ls.map enA)] [] 0 (Nb (cV ls)) := by
 refine (pq 33 [.tmp 2] func96) ?_
 have hlen := hz.1
 refine (aj) ?_
 refine sq fun k2 => (aj) (wb ?_)
 refine wa ls.length (aAu ls) (fun x => ([(0, .sl 5 (ls.map enA)), (3, Ni (x : Int))], [])) 0 [] ?_ ?_
 . exact jc
 rintro i ⟨hi, hall⟩
 refine sq fun k4 => (aj) ((cdB) ?_ ?_) <;> intro hc1
 . have hge := gec hc1
   refine we ((jt) (k2 ((aj) (wR ?_))))
   have h9 : cV ls = true := by unfold cV; exact eU hge hall
   exact fq h9
 obtain ⟨hlt, l, hl, hdrop, hml⟩ := ixc hc1
 have hw1 := wr ((i : Int) - 1) ((i : Int) - 1) og
 have hpn : ((i : Int) - 1).toNat = i - 1 := by omega
 have hpv : ls[i - 1]? = some (bT ls i) := by unfold bT; rw [A1 og]; rfl
 refine wk (k4 (sq fun k6 => wb (sd mixed rfl fun k7 => (Bb hl hw1 hpn hpv) ((jr) ?_))))
 refine tp rfl rfl rfl ⟨func107, rfl, rfl⟩ (yH l (hz.2 l hml)) Ah Ah ?_
 refine (Bb hl hw1 hpn hpv) ((jr) ?_)
 refine tpg rfl rfl rfl rfl rfl rfl ⟨func149, rfl, rfl⟩ (fun hg => pO (bT ls i) l) oG (fun hg => Ah) Ah trivial ?_
 refine (Bb hl hw1 hpn hpv) ((jr) ((jy) (k7 ((cdA) ?_ ?_)))) <;> intro hc2
 . have hp : aAu ls i = false := by unfold aAu; rw [hl]; simp only [hc2]; rfl
   refine (aj) (wR ((Ad) ?_))
   have h9 : cV ls = false := by unfold cV; exact gR hlt hp
   exact fq h9
 have hp : aAu ls i = true := by unfold aAu; rw [hl]; simp only [hc2]; rfl
 refine wk ((jt) (k6 ((jw (wiS i og)) ((jt) ?_))))
 refine ⟨i + 1, ⟨og, bV hall hp⟩, og, [], ?_⟩
 exact jo
def uA (a b : List Entry) (hz : a.length <= 4611686018427387904) : aB P 104 [.sl 5 (a.map enA), .sl 5 (b.map enA)] [] 0 (Nb (decide (a = b))) := by
 refine (pq 26 [.tmp 4] func104) ((aj) ?_)
 refine sq fun k2 => (aj) ((cdA) ?_ ?_) <;> intro hc1
 . have hne : a ≠ b := fun e => by rw [e] at hc1; simp at hc1
   exact (aj) (wR (fq (decide_eq_false hne)))
 have hlen : a.length = b.length := by simp at hc1; omega
 refine wk (k2 (sq fun k5 => (aj) (wb ?_)))
 refine wa a.length (sP a b) (fun x => ([(0, .sl 5 (a.map enA)), (1, .sl 5 (b.map enA)), (5, Ni (x : Int))], [])) 0 [] ?_ ?_
 . exact jc
 rintro i ⟨hi, hall⟩
 refine sq fun k7 => (aj) ((cdB) ?_ ?_) <;> intro hc2
 . have hge := gec hc2
   refine we ((jt) (k5 ((aj) (wR ?_))))
   have hie : i = a.length := by omega
   subst hie
   have he := pM hlen hall
   exact fq (decide_eq_true he)
 obtain ⟨hlt, l, hl, _, _⟩ := ixc hc2
 obtain ⟨m, hm, _, _⟩ := ix (xs := b) (i := i) og
 refine wk (k7 (sq fun k9 => wb (sd mixed rfl fun k10 => (Bi hl hm) ((jr) ?_))))
 refine aM (fun hN => aDv rfl rfl hN rfl rfl) (.inl rfl) ?_
 refine (Bi hl hm) ((jr) ((jy) (k10 ((cdA) ?_ ?_)))) <;> intro hc3
 . have hne : a ≠ b := fun e => by
     rw [e, hm] at hl; cases hl; simp at hc3
   exact (aj) (wR ((Ad) (fq (decide_eq_false hne))))
 . have hp : sP a b i = true := by unfold sP; rw [hl, hm]; simpa using hc3
   refine wk ((jt) (k9 ((jw (wiS i og)) ((jt) ?_))))
   refine ⟨i + 1, ⟨og, bV hall hp⟩, og, [], ?_⟩
   exact jo
def aPz (a b : List Int) (hz : a.length <= 4611686018427387904) : aB P 105 [.sl 1 (a.map inA), .sl 1 (b.map inA)] [] 0 (Nb (decide (a = b))) := by
 refine (pq 26 [.tmp 4] func105) ((aj) ?_)
 refine sq fun k2 => (aj) ((cdA) ?_ ?_) <;> intro hc1
 . have hne : a ≠ b := fun e => by rw [e] at hc1; simp at hc1
   exact (aj) (wR (fq (decide_eq_false hne)))
 have hlen : a.length = b.length := by simp at hc1; omega
 refine wk (k2 (sq fun k5 => (aj) (wb ?_)))
 refine wa a.length (sP a b) (fun x => ([(0, .sl 1 (a.map inA)), (1, .sl 1 (b.map inA)), (5, Ni (x : Int))], [])) 0 [] ?_ ?_
 . exact jc
 rintro i ⟨hi, hall⟩
 refine sq fun k7 => (aj) ((cdB) ?_ ?_) <;> intro hc2
 . have hge := gec hc2
   refine we ((jt) (k5 ((aj) (wR ?_))))
   have hie : i = a.length := by omega
   subst hie
   have he := pM hlen hall
   exact fq (decide_eq_true he)
 obtain ⟨hlt, l, hl, _, _⟩ := ixc hc2
 obtain ⟨m, hm, _, _⟩ := ix (xs := b) (i := i) og
 refine wk (k7 (sq fun k9 => wb (sd mixed rfl fun k10 => ?_)))
 simp only [go_sem, hl, hm, inA]
 refine (jr) ((jy) (k10 ((cdA) ?_ ?_))) <;> intro hc3
 . have hne : a ≠ b := fun e => by
     rw [e, hm] at hl; cases hl; simp at hc3
   exact (aj) (wR ((Ad) (fq (decide_eq_false hne))))
 . have hp : sP a b i = true := by unfold sP; rw [hl, hm]; simpa using hc3
   refine wk ((jt) (k9 ((jw (wiS i og)) ((jt) ?_))))
   refine ⟨i + 1, ⟨og, bV hall hp⟩, og, [], ?_⟩
   exact jo
def xE (ls : List Entry) (seq : Int) (hz : ls.length <= 4611686018427387904) : aB P 97 [.sl 5 (ls.map enA), Ni seq] [] 0 (Nb (mC ls seq)) := by
 refine (pq 19 [.tmp 4] func97) ((aj) ?_)
 refine sq fun k2 => (aj) (wb ?_)
 refine wa ls.length (qL ls seq) (fun x => ([(0, .sl 5 (ls.map enA)), (1, Ni seq), (5, Ni (x : Int))], [])) 0 [] ?_ ?_
 . exact jc
 rintro i ⟨hi, hall⟩
 refine sq fun k4 => (aj) ((cdB) ?_ ?_) <;> intro hc1
 . have hge := gec hc1
   refine we ((jt) (k2 ((aj) (wR ?_))))
   have h9 : mC ls seq = true := by unfold mC; exact eU hge hall
   exact fq h9
 obtain ⟨hlt, l, hl, hdrop, hml⟩ := ixc hc1
 refine wk (k4 (sq fun k6 => wb (sr rfl fun k7 => (Ap hl) ((jr) (k7 ((cdA) ?_ ?_)))))) <;> intro hc2
 . have hp : qL ls seq i = false := by unfold qL; rw [hl]; simp only [hc2]; rfl
   refine (aj) (wR ((Ad) ?_))
   have h9 : mC ls seq = false := by unfold mC; exact gR hlt hp
   exact fq h9
 have hp : qL ls seq i = true := by unfold qL; rw [hl]; simp only [hc2]; rfl
 refine wk ((jt) (k6 ((jw (wiS i og)) ((jt) ?_))))
 refine ⟨i + 1, ⟨og, bV hall hp⟩, og, [], ?_⟩
 exact jo
def z2 : ((2 : Int) = 0) = False := by simp
def z10 : ((10 : Int) = 0) = False := by simp
def z16 : ((16 : Int) = 0) = False := by simp
def bQp : ((65521 : Int) = 0) = False := by simp
def bSl : gE P 3 = some .i64 /\ gE P 5 = some .u8 := by refine ⟨?_, ?_⟩ <;> kernel_rfl
attribute [go_sem] z2 z10 z16 bQp bSl Option.isSome_some
def nR (s : ByteArray) (i : Nat) : 0 <= aJ s i /\ aJ s i <= 255 := by
  unfold aJ
  have := (s.data.toList.getD i 0).toNat_lt
  omega
def aDl (n : Int) : Int := 2 ^ n.toNat
def aNf (i : Nat) : aDl (i : Int) = 2 ^ i := rfl
def aTe {i j : Nat} (h : i <= j) : (2 : Int) ^ i <= 2 ^ j := by
  have : (2 : Nat) ^ i <= 2 ^ j := Nat.pow_le_pow_right og h
  exact_mod_cast this
def aJz (i : Nat) : (0 : Int) < 2 ^ i := by
  have : 0 < (2 : Nat) ^ i := Nat.pow_pos og
  exact_mod_cast this
def orT (a b : Int) (i : Nat) : Bool := decide ((a.tdiv (2 ^ i)).tmod 2 = 1) || decide ((b.tdiv (2 ^ i)).tmod 2 = 1)
def aOf (a b : Int) : Nat -> Int -> Int
  | 0, out => out
  | i + 1, out => aOf a b i (if orT a b i = true then out * 2 + 1 else out * 2)
def orZ (a b : Int) : Int := aOf a b 16 0
def aCl (a b : Int) : ∀ (i : Nat) (out : Int), 0 <= out -> 0 <= aOf a b i out /\ aOf a b i out <= out * 2 ^ i + 2 ^ i - 1
  | 0, out, h => by simp only [aOf, Int.pow_zero]; omega
  | i + 1, out, h => by
    unfold aOf
    have hp := aJz i
    have h2 : (2 : Int) ^ (i + 1) = 2 * 2 ^ i := by rw [Int.pow_succ]; omega
    rw [h2]; split
    . have := aCl a b i (out * 2 + 1) og
      refine ⟨this.1, Int.le_trans this.2 ?_⟩
      have : (out * 2 + 1) * 2 ^ i = out * (2 * 2 ^ i) + 2 ^ i := by rw [Int.add_mul, Int.mul_assoc, Int.one_mul]
      omega
    have := aCl a b i (out * 2) og
    refine ⟨this.1, Int.le_trans this.2 ?_⟩
    have : out * 2 * 2 ^ i = out * (2 * 2 ^ i) := by rw [Int.mul_assoc]
    omega
def rQ (a b : Int) : 0 <= orZ a b /\ orZ a b <= 65535 := by
  have := aCl a b 16 0 og
  simpa [orZ] using this
def dD (s : ByteArray) : Nat -> Int
  | 0 => 7
  | i + 1 => (dD s i * 31 + aJ s i).tmod 65521
def qB (s : ByteArray) : ∀ i, 0 <= dD s i /\ dD s i < 65521
  | 0 => by simp [dD]
  | i + 1 => by
    have h1 := qB s i
    have h2 := nR s i
    unfold dD; rw [Int.tmod_eq_emod_of_nonneg og]; omega
def wU (s : ByteArray) : Int := orZ (aDl ((dD s s.size).tmod 16)) (aDl (((dD s s.size).tdiv 16).tmod 16))
def qN (m : Int) (e : Entry) : Int := orZ m (wU e.key)
def mA (ls : List Entry) : Int := ls.foldl qN 0
def rY {n : Int} (h0 : 0 <= n) (h : n <= 15) : 0 <= aDl n /\ aDl n <= 65535 := by
  unfold aDl
  have h1 := aTe (i := n.toNat) (j := 15) og
  have h2 := aJz n.toNat
  have h3 : (2 : Int) ^ 15 = 32768 := rfl
  omega
def cW (r : Run) : Bool := ((decide (1 <= (r.ents.length : Int)) && decide ((r.ents.length : Int) <= 150)) && cV r.ents) && decide (r.mask = mA r.ents)
def xJ : Run := ⟨[], 0⟩
def nH : Entry := ⟨⟨#[]⟩, 0, 0, ⟨#[]⟩, 0⟩
def aC (r : Run) : ByteArray := ((r.ents[0]?).getD nH).key
def aG (r : Run) : ByteArray := ((r.ents[r.ents.length - 1]?).getD nH).key
def iX (ls : List Run) (i : Nat) : Run := (ls[i - 1]?).getD xJ
def nY (ls : List Run) (ap : Bool) (seq : Int) (i : Nat) : Bool := match ls[i]? with
  | some r => !(!cW r || !mC r.ents seq) && !((ap && decide (0 < (i : Int))) && !Op.bytesLess (aG (iX ls i)).toList (aC r).toList)
  | none => true
def eY (ls : List Run) (most : Int) (ap : Bool) (seq : Int) : Bool := if most < (ls.length : Int) then false else (List.range ls.length).all (nY ls ap seq)
def aDw (ls : List Int) (i : Nat) : Int := (ls[i - 1]?).getD 0
def qY (ls : List Int) (seq : Int) (i : Nat) : Bool := match ls[i]? with
  | some n => !((decide (n < 0) || decide (seq < n)) || (decide (0 < (i : Int)) && decide (n <= aDw ls i)))
  | none => true
def nP (ls : List Int) (seq : Int) : Bool := (List.range ls.length).all (qY ls seq) && decide ((ls.length : Int) <= 4)
def aOn (ls : List Run) : Prop := ls.length <= 4611686018427387904 /\ ∀ r ∈ ls, dB r.ents
def eG {r : Run} (h : cW r = true) : 1 <= r.ents.length /\ r.ents.length <= 150 := by
  simp [cW] at h
  omega
def bGm {ls : List Run} {ap : Bool} {seq : Int} {i : Nat} {r : Run} (h : nY ls ap seq i = true) (hr : ls[i]? = some r) : cW r = true := by
  unfold nY at h; rw [hr] at h; simp at h
  exact h.1.1
def aTv (a b : Int) : aB P 82 [Ni a, Ni b] [] 0 (Ni (max a b)) := by
 refine (pq 10 [.tmp 4] func82) ((aj) ?_)
 refine sq fun k2 => (aj) ((cdA) ?_ ?_) <;> intro hc1
 . have n1 : b < a := by simpa using hc1
   refine (aj) (wR ?_)
   have h9 : max a b = a := by omega
   exact fq h9
 have n1 : ¬ (b < a) := by simpa using hc1
 refine wk (k2 ((aj) (wR ?_)))
 have h9 : max a b = b := by omega
 exact fq h9
def rI (n : Int) (h0 : 0 <= n) (hn : n <= 15) : aB P 228 [Ni n] [] 0 (Ni (aDl n)) := by
 refine (pq 13 [.tmp 2] func228) ?_
 obtain ⟨m, rfl⟩ := Int.eq_ofNat_of_zero_le h0
 refine (aj) ((aj) ?_)
 refine sq fun k3 => (aj) (wb ?_)
 refine wn m (fun x => ([(0, Ni (m : Int)), (3, Ni (2 ^ x)), (4, Ni (x : Int))], [])) 0 [] ?_ ?_
 . simp only [go_sem, Int.natCast_zero, Int.pow_zero] <;> simp
 rintro i hi
 refine sq fun k5 => (aj) ((cdB) ?_ ?_) <;> intro hc1
 . have hge : m <= i := Nat.not_lt.1 (by simpa using hc1)
   refine we ((jt) (k3 ((aj) (wR ?_))))
   have hie : i = m := by omega
   subst hie
   have h9 := aNf i
   exact fq h9
 have hlt : i < m := by simpa using hc1
 refine wk (k5 (sq fun k7 => wb ?_))
 have h15 := aTe (i := i) (j := 15) og
 have hp := aJz i
 have h3 : (2 : Int) ^ 15 = 32768 := rfl
 have hw2 := wr (2 ^ i * 2) (2 ^ i * 2) og
 refine wg rfl ((Aa hw2) ((jt) (k7 ((jw (wiS i og)) ((jt) ?_)))))
 refine ⟨i + 1, og, og, [], ?_⟩
 simp only [go_sem] <;> simp [Int.pow_succ]
def aIa (a b : Int) (ha : 0 <= a) (ha1 : a <= 65535) (hb : 0 <= b) (hb1 : b <= 65535) : aB P 206 [Ni a, Ni b] [] 0 (Ni (orZ a b)) := by
 refine (pq 30 [.tmp 4] func206) ((aj) ((aj) ?_))
 refine sq fun k3 => (aj) (wb ?_)
 refine wl (α := Nat × Int) (fun x => x.1 <= 16 /\ 0 <= x.2 /\ x.2 < 2 ^ (16 - x.1) /\ aOf a b x.1 x.2 = aOf a b 16 0) (fun x => x.1) (fun x => ([(0, Ni a), (1, Ni b), (5, Ni x.2), (6, Ni ((x.1 : Int) - 1))], [])) 0 (16, 0) ⟨by simp only; omega, by simp only; omega, by simp, rfl⟩ [] ?_ ?_
 . exact jo
 rintro ⟨j, out⟩ ⟨hj, ho, ho1, hgo⟩
 simp only at hj ho ho1 hgo ⊢
 refine sq fun k5 => (aj) ((cdB) ?_ ?_) <;> intro hc1
 . have hj0 : j = 0 := by have h9 : ¬ (0 : Int) <= (j : Int) - 1 := (by simpa using hc1); omega
   subst hj0
   refine we ((jt) (k3 ((aj) (wR ?_))))
   have h9 : orZ a b = out := by unfold orZ; rw [<- hgo]; rfl
   exact fq h9
 obtain ⟨i, rfl⟩ : ∃ i, j = i + 1 := ⟨j - 1, by have h9 : (0 : Int) <= (j : Int) - 1 := (by simpa using hc1); omega⟩
 have hi1 : (((i + 1 : Nat) : Int) - 1) = (i : Int) := by omega
 have h16 := aTe (i := 16 - (i + 1)) (j := 15) og
 have h15 := aTe (i := i) (j := 15) og
 have hp := aJz i
 have h3 : (2 : Int) ^ 15 = 32768 := rfl
 have hw1 := wr (out * 2) (out * 2) og
 have hw2 := wr (out * 2 + 1) (out * 2 + 1) og
 have hz : ((2 : Int) ^ i = 0) = False := by simp; omega
 have hq : ∀ c : Int, 0 <= c -> c <= 65535 -> IntKind.i64.wrap (c.tdiv (2 ^ i)) = c.tdiv (2 ^ i) := fun c h0 h1 => by
   have h4 : 0 <= c.tdiv (2 ^ i) := Int.tdiv_nonneg h0 og
   have h5 : c.tdiv (2 ^ i) <= c := by rw [H9 h0]; exact Int.ediv_le_self _ h0
   rw [w64]; omega
 have hqa := hq a ha ha1
 have hqb := hq b hb hb1
 simp only [hi1]
 refine wk (k5 (sq fun k7 => wb (sr rfl fun k8 => (Aa hw1) (k8 (sr rfl fun k9 => (Ar hqa hqb) ?_)))))
 refine vs rfl rfl rfl func228 (rI (i : Int) og og) oG oG ?_
 simp only [go_sem, aNf, hz, hqa, hqb]
 refine vpg rfl rfl rfl rfl rfl rfl ⟨func228, rfl, rfl⟩ (fun hg => rI (i : Int) og og) oG (fun hg => oG) oG trivial ?_
 simp only [go_sem, aNf, hz, hqa, hqb]
 refine k9 ((cdA) ?_ ?_) <;> intro hc2
 . have hx : orT a b i = true := hc2
   refine wg rfl ((Aa hw2) ((jt) (k7 ?_)))
   have hw4 := wr ((i : Int) - 1) ((i : Int) - 1) og
   refine wg rfl ((Aa hw4) ((jt) ?_))
   refine ⟨(i, if orT a b i = true then out * 2 + 1 else out * 2), ⟨by simp only; omega, by simp only; split <;> omega, by
     simp only
     have e1 : 16 - i = (16 - (i + 1)) + 1 := by omega
     rw [e1, Int.pow_succ]
     split <;> omega, by simp only; exact hgo⟩, by simp only; omega, [], ?_⟩
   exact Co hx
 have hx : orT a b i = false := hc2
 refine wk ((jt) (k7 ?_))
 have hw4 := wr ((i : Int) - 1) ((i : Int) - 1) og
 refine wg rfl ((Aa hw4) ((jt) ?_))
 refine ⟨(i, if orT a b i = true then out * 2 + 1 else out * 2), ⟨by simp only; omega, by simp only; split <;> omega, by
   simp only
   have e1 : 16 - i = (16 - (i + 1)) + 1 := by omega
   rw [e1, Int.pow_succ]
   split <;> omega, by simp only; exact hgo⟩, by simp only; omega, [], ?_⟩
 exact Co hx
def aNb (s : ByteArray) (hs : s.size <= 4611686018427387904) : aB P 207 [Ns s] [] 0 (Ni (wU s)) := by
 refine (pq 27 [.tmp 2] func207) ((aj) ((aj) ?_))
 refine sq fun k3 => (aj) (wb ?_)
 refine wn s.size (fun x => ([(0, Ns s), (3, Ni (dD s x)), (4, Ni (x : Int))], [])) 0 [] ?_ ?_
 . simp only [go_sem, dD, Int.natCast_zero] <;> simp
 rintro i hi
 refine sq fun k5 => (aj) ((cdA) ?_ ?_) <;> intro hc1
 . have hlt : i < s.size := by simpa using hc1
   have hh := qB s i
   have hb := nR s i
   have hw0 := wr (aJ s i) (aJ s i) og
   have hw1 := wr (dD s i * 31) (dD s i * 31) og
   have hw2 := wr (dD s i * 31 + aJ s i) (dD s i * 31 + aJ s i) og
   refine wk (k5 (sq fun k7 => wb (wg rfl ?_)))
   simp only [go_sem, hw0, hw1, hw2]
   refine (jr) ((jt) (k7 ((jw (wiS i og)) ((jt) ?_))))
   refine ⟨i + 1, og, og, [], ?_⟩
   simp only [go_sem, dD] <;> simp
 have hge : i = s.size := by have h9 : ¬ i < s.size := (by simpa using hc1); omega
 subst hge
 refine we ((jt) (k3 ?_))
 have hh := qB s s.size
 have hq : IntKind.i64.wrap ((dD s s.size).tdiv 16) = (dD s s.size).tdiv 16 := by
   rw [H9 og, IntKind.wrap_i64]; omega
 have hm1 : 0 <= (dD s s.size).tmod 16 /\ (dD s s.size).tmod 16 <= 15 := by rw [Int.tmod_eq_emod_of_nonneg og]; omega
 have hd : 0 <= (dD s s.size).tdiv 16 := Int.tdiv_nonneg og og
 have hm2 : 0 <= ((dD s s.size).tdiv 16).tmod 16 /\ ((dD s s.size).tdiv 16).tmod 16 <= 15 := by rw [Int.tmod_eq_emod_of_nonneg hd]; omega
 have hr1 := rY hm1.1 hm1.2
 have hr2 := rY hm2.1 hm2.2
 refine sr rfl fun k8 => (Aa hq) ?_
 refine vs rfl rfl rfl func228 (rI _ hm1.1 hm1.2) oG oG ?_
 refine (Aa hq) ((vq func228 (rI _ hm2.1 hm2.2)) ((vq func206 (aIa _ _ hr1.1 hr1.2 hr2.1 hr2.2)) (k8 (wR (fO ?_ trivial)))))
 simp only [go_sem, wU]
def aBq (ls : List Entry) (hz : dB ls) : aB P 175 [.sl 5 (ls.map enA)] [] 0 (Ni (mA ls)) := by
 refine (pq 20 [.tmp 2] func175) ?_
 have hlen := hz.1
 refine (aj) ((aj) ?_)
 refine sq fun k3 => (aj) (wb ?_)
 refine wl (α := Nat × Int) (fun x => x.1 <= ls.length /\ 0 <= x.2 /\ x.2 <= 65535 /\ (ls.drop x.1).foldl qN x.2 = ls.foldl qN 0) (fun x => ls.length - x.1) (fun x => ([(0, .sl 5 (ls.map enA)), (3, Ni x.2), (4, Ni (x.1 : Int))], [])) 0 (0, 0) ⟨A6 _, by simp, by simp, by simp⟩ [] ?_ ?_
 . exact jc
 rintro ⟨i, m⟩ ⟨hi, hm0, hm1, hfold⟩
 simp only at hi hm0 hm1 hfold ⊢
 refine sq fun k5 => (aj) ((cdB) ?_ ?_) <;> intro hc1
 . have hge := gec hc1
   refine we ((jt) (k3 ((aj) (wR ?_))))
   rw [E9 hge] at hfold
   have h9 : mA ls = m := hfold.symm
   exact fq h9
 obtain ⟨hlt, l, hl, hdrop, hml⟩ := ixc hc1
 have hkr := rQ (aDl ((dD l.key l.key.size).tmod 16)) (aDl (((dD l.key l.key.size).tdiv 16).tmod 16))
 refine wk (k5 (sq fun k7 => wb (wg rfl ((Ap hl) ((jr) ((vq func207 (aNb l.key (hz.2 l hml).1)) ((vq func206 (aIa m (wU l.key) hm0 hm1 hkr.1 hkr.2)) ((jt) (k7 ((jw (wiS i og)) ((jt) ?_)))))))))))
 refine ⟨(i + 1, qN m l), ⟨og, (rQ _ _).1, (rQ _ _).2, by rw [hdrop] at hfold; exact hfold⟩, og, [], ?_⟩
 simp only [go_sem, qN] <;> simp
def aVv (r : Run) (hz : dB r.ents) : aB P 150 [rA r] [] 0 (Nb (cW r)) := by
 refine (pq 26 [.tmp 2] func150) ?_
 simp only [rA]
 refine (aj) ?_
 refine sd mixed rfl fun k2 => (ja) ?_
 refine tpg rfl rfl rfl rfl rfl rfl ⟨func96, rfl, rfl⟩ (fun hg => sE r.ents hz) oG (fun hg => oG) oG trivial ?_
 refine (ja) ?_
 refine tpg rfl rfl rfl rfl rfl rfl ⟨func175, rfl, rfl⟩ (fun hg => aBq r.ents hz) oG (fun hg => oG) oG trivial ?_
 refine (ja) ((jy) (k2 (wR (fO ?_ trivial))))
 simp only [go_sem, cW]
def aOa (a b : Run) (hz : a.ents.length <= 4611686018427387904) : aB P 155 [rA a, rA b] [] 0 (Nb (decide (a.mask = b.mask) && decide (a.ents = b.ents))) := by
 refine (pq 17 [.tmp 4] func155) ?_
 simp only [rA]
 refine (aj) ?_
 refine sr rfl fun k2 => (ja) ?_
 refine vpg rfl rfl rfl rfl rfl rfl ⟨func104, rfl, rfl⟩ (fun hg => uA a.ents b.ents hz) oG (fun hg => oG) oG trivial ?_
 refine (ja) (k2 (wR (fO ?_ trivial)))
 exact Aj
def eR (r : Run) (h1 : 1 <= r.ents.length) : aB P 152 [rA r] [] 0 (Ns (aC r)) := by
 refine (pq 8 [.tmp 2] func152) ?_
 simp only [rA]
 have hl : r.ents[0]? = some ((r.ents[0]?).getD nH) := by rw [A1 og]; rfl
 generalize hg : (r.ents[0]?).getD nH = l at hl
 have hk : aC r = l.key := by unfold aC; rw [hg]
 rw [hk]
 refine (aj) ?_
 refine sr rfl fun k2 => (Cp hl) ((jr) (k2 (wR (fO ?_ trivial))))
 exact Aj
def lK (r : Run) (h1 : 1 <= r.ents.length) (h2 : r.ents.length <= 4611686018427387904) : aB P 151 [rA r] [] 0 (Ns (aG r)) := by
 refine (pq 12 [.tmp 2] func151) ?_
 simp only [rA]
 have hl : r.ents[r.ents.length - 1]? = some ((r.ents[r.ents.length - 1]?).getD nH) := by rw [A1 og]; rfl
 generalize hg : (r.ents[r.ents.length - 1]?).getD nH = l at hl
 have hk : aG r = l.key := by unfold aG; rw [hg]
 rw [hk]
 have hw1 := wr ((r.ents.length : Int) - 1) ((r.ents.length : Int) - 1) og
 have hpn : ((r.ents.length : Int) - 1).toNat = r.ents.length - 1 := by omega
 refine (aj) ?_
 refine sr rfl fun k2 => (Bj hl hw1 hpn) ((jr) (k2 (wR (fO ?_ trivial))))
 exact Aj
def tV (ls : List Run) (most : Int) (ap : Bool) (seq : Int) (hz : aOn ls) : aB P 99 [.sl 2 (ls.map rA), Ni most, Nb ap, Ni seq] [] 0 (Nb (eY ls most ap seq)) := by
 refine (pq 55 [.tmp 8] func99) ?_
 have hlen := hz.1
 refine (aj) ?_
 refine sq fun k2 => (aj) ((cdA) ?_ ?_) <;> intro hc1
 . have n1 : most < (ls.length : Int) := by simpa using hc1
   refine (aj) (wR ?_)
   refine fO ?_ trivial; simp only [go_sem, eY, n1]
 have n1 : ¬ (most < (ls.length : Int)) := by simpa using hc1
 refine wk (k2 (sq fun k5 => (aj) (wb ?_)))
 refine wa ls.length (nY ls ap seq) (fun x => ([(0, .sl 2 (ls.map rA)), (2, Nb ap), (3, Ni seq), (9, Ni (x : Int))], [])) 0 [] ?_ ?_
 . exact jc
 rintro i ⟨hi, hall⟩
 refine sq fun k7 => (aj) ((cdB) ?_ ?_) <;> intro hc2
 . have hge := gec hc2
   refine we ((jt) (k5 ((aj) (wR ?_))))
   have h9 : eY ls most ap seq = true := by unfold eY; rw [if_neg n1]; exact eU hge hall
   exact fq h9
 obtain ⟨hlt, l, hl, hdrop, hml⟩ := ixc hc2
 have hw1 := wr ((i : Int) - 1) ((i : Int) - 1) og
 have hpn : ((i : Int) - 1).toNat = i - 1 := by omega
 have hpv : ls[i - 1]? = some (iX ls i) := by unfold iX; rw [A1 og]; rfl
 have hprev : 0 < i -> 1 <= (iX ls i).ents.length /\ (iX ls i).ents.length <= 150 := fun h0 => eG (bGm (hall (i - 1) og) hpv)
 refine wk (k7 (sq fun k9 => wb (sq fun k10 => sr rfl fun k11 => (Ao hl) ((jr) ?_))))
 refine vs rfl rfl rfl func150 (aVv l (hz.2 l hml)) Ac Ac ?_
 refine (Ao hl) ((jr) ?_)
 refine vpg rfl rfl rfl rfl rfl rfl ⟨func97, rfl, rfl⟩ (fun hg => xE l.ents seq (hz.2 l hml).1) oG (fun hg => oG) oG trivial ?_
 refine (Ao hl) ((jr) (k11 ((cdA) ?_ ?_))) <;> intro hc3
 . have hp : nY ls ap seq i = false := by unfold nY; rw [hl]; simp only [hc3]; rfl
   refine (aj) (wR ((Ad) ?_))
   have h9 : eY ls most ap seq = false := by unfold eY; rw [if_neg n1]; exact gR hlt hp
   exact fq h9
 have hr1 : cW l = true := by simp at hc3; exact hc3.1
 have hl1 := eG hr1
 refine wk (k10 (sd mixed rfl fun k13 => (Bc hl hw1 hpn hpv) ((jr) ?_)))
 refine tpg rfl rfl rfl rfl rfl rfl ⟨func151, rfl, rfl⟩ (fun hg => lK (iX ls i) (hprev (by simp at hg; omega)).1 (by have := (hprev (by simp at hg; omega)).2; omega)) oG (fun hg => Ac) Ac trivial ?_
 refine (Bc hl hw1 hpn hpv) ((jr) ?_)
 refine tpg rfl rfl rfl rfl rfl rfl ⟨func152, rfl, rfl⟩ (fun hg => eR l hl1.1) oG (fun hg => Ac) Ac trivial ?_
 refine (Bc hl hw1 hpn hpv) ((jr) ((jy) (k13 ((cdA) ?_ ?_)))) <;> intro hc4
 . have hp : nY ls ap seq i = false := by unfold nY; rw [hl]; simp only [hc3, hc4]; rfl
   refine (aj) (wR ((Ad) ?_))
   have h9 : eY ls most ap seq = false := by unfold eY; rw [if_neg n1]; exact gR hlt hp
   exact fq h9
 have hp : nY ls ap seq i = true := by unfold nY; rw [hl]; simp only [hc3, hc4]; rfl
 refine wk ((jt) (k9 ((jw (wiS i og)) ((jt) ?_))))
 refine ⟨i + 1, ⟨og, bV hall hp⟩, og, [], ?_⟩
 exact jo
def aNg (t : Tree) (hz : t.snaps.length <= 4611686018427387904) : aB P 98 [trA t] [] 0 (Nb (nP t.snaps t.seq)) := by
 refine (pq 49 [.tmp 2] func98) ?_
 simp only [trA]
 refine (aj) ?_
 refine sq fun k2 => (aj) (wb ?_)
 refine wa t.snaps.length (qY t.snaps t.seq) (fun x => ([(1, .ptr 0 0), (3, Ni (x : Int))], [(0, .cells 36 [Ni t.seq, .sl 5 (t.mem.map enA), .sl 1 (t.levels.map rsA), .sl 1 (t.snaps.map inA)])])) 1 [] ?_ ?_
 . exact Ch
 rintro i ⟨hi, hall⟩
 refine sq fun k4 => (aj) ((cdB) ?_ ?_) <;> intro hc1
 . have hge := gec hc1
   refine we ((jt) (k2 ((aj) (wR ?_))))
   have h9 : nP t.snaps t.seq = decide ((t.snaps.length : Int) <= 4) := by unfold nP; rw [eU hge hall]; rfl
   exact fq h9
 have hlt : i < t.snaps.length := by simpa using hc1
 obtain ⟨l, hl, hdrop, hml⟩ := ix hlt
 have hw1 := wr ((i : Int) - 1) ((i : Int) - 1) og
 have hpn : ((i : Int) - 1).toNat = i - 1 := by omega
 have hpv : t.snaps[i - 1]? = some (aDw t.snaps i) := by unfold aDw; rw [A1 og]; rfl
 refine wk (k4 (sq fun k6 => wb (sd mixed rfl fun k7 => ?_)))
 simp only [go_sem, hl, hw1, hpn, hpv, inA]
 refine (jr) ((jy) (k7 ((cdA) ?_ ?_))) <;> intro hc2
 . have hp : qY t.snaps t.seq i = false := by unfold qY; rw [hl]; simp only [hc2]; rfl
   refine (aj) (wR ((Ad) ?_))
   have h9 : nP t.snaps t.seq = false := by unfold nP; rw [gR hlt hp]; rfl
   exact fq h9
 have hp : qY t.snaps t.seq i = true := by unfold qY; rw [hl]; simp only [hc2]; rfl
 refine wk ((jt) (k6 ((jw (wiS i og)) ((jt) ?_))))
 refine ⟨i + 1, ⟨og, bV hall hp⟩, og, [], ?_⟩
 exact Bk
def aHi (a b : List Entry) (i k : Nat) : Bool := match a[i]?, b[k]? with
  | some e, some f => !((e.key.toList == f.key.toList) && decide (e.seq <= f.seq))
  | _, _ => true
def aUb (a b : List Entry) (i : Nat) : Bool := (List.range b.length).all (aHi a b i)
def mD (a b : List Entry) : Bool := (List.range a.length).all (aUb a b)
def bOl (a b : List (List Run)) (i : Nat) : Bool := decide (a[i]? = b[i]?)
def bIu (a b : Run) : (decide (a.mask = b.mask) && decide (a.ents = b.ents)) = decide (a = b) := by
  obtain ⟨a1, a2⟩ := a
  obtain ⟨b1, b2⟩ := b
  rw [Bool.eq_iff_iff]
  simp [and_comm]
def bEq (ls : List (List Run)) : Prop := ls.length <= 4611686018427387904 /\ ∀ r ∈ ls, aOn r
def bBt (t : Tree) : Prop := dB t.mem /\ bEq t.levels /\ t.snaps.length <= 4611686018427387904
def iM (a b : Tree) : Bool := ((decide (a.seq = b.seq) && decide (a.mem = b.mem)) && decide (a.levels = b.levels)) && decide (a.snaps = b.snaps)
def aBe (ls : List Entry) (e : Entry) : Nat -> Nat
  | 0 => 0
  | k + 1 => if entLt e ((ls[k]?).getD nH) = true then aBe ls e k else k + 1
def aCu (ls : List Entry) (e : Entry) : Nat := aBe ls e ls.length
def gD (ls : List Entry) (e : Entry) : List Entry := ls.take (aCu ls e) ++ e :: ls.drop (aCu ls e)
def aWe (ls : List Entry) (e : Entry) : ∀ k, aBe ls e k <= k
  | 0 => A0 _
  | k + 1 => by
    unfold aBe; split
    . have := aWe ls e k; omega
    exact A0 _
def esA (es : List Entry) : AV := .sl 5 (es.map enA)
def Ds {R G : Prop} (h : R -> G := by intro k; simp only [go_sem, A3, B0, A2, A7, List.nil_append, esA]; exact k) : R -> G := h
def Df {G : Prop} (h : G := by simp only [go_sem, AObj.bel, AObj.ren, AV.ren, aA, sg] <;> simp [esA]) : G := h
def Ay {R G A : Prop} (e : A) (h : A -> R -> G := by intro e k; simp only [go_sem, e, esA]; exact k) : R -> G := h e
def pJ (U : Nat -> Prop) (ls : List (List Entry)) : aE U (ls.map esA) := pY enB U ls
def bCe (σ : Nat -> Nat) (ls : List (List Entry)) : aA σ (ls.map esA) = ls.map esA := dK σ (pJ _ ls)
def aWd (ls : List (List Entry)) : (ls.map esA).all AV.elem = true := by
  rw [List.all_map, C4]; intro l _; rfl
def aGn (ls : List (List Entry)) : fzL (ls.map esA) = ls.map esA := by rw [tH]; exact D9 fun r _ => by simp [esA, AV.fz, cF]
def aWk (ls : List Run) : (ls.map runOwn).all AV.elem = true := by
  rw [List.all_map, C4]; intro l _; rfl
def aUr (ls : List (List Run)) : (ls.map rsO).all AV.elem = true := by
  rw [List.all_map, C4]; intro l _; rfl
attribute [go_sem] pJ bCe aWd aGn aWk aUr
def aMl (a b : List Entry) (ha : a.length <= 4611686018427387904) (hb : b.length <= 4611686018427387904) : aB P 154 [.sl 5 (a.map enA), .sl 5 (b.map enA)] [] 0 (Nb (mD a b)) := by
 refine (pq 43 [.tmp 4] func154) ((aj) ?_)
 refine sq fun k2 => (aj) (wb ?_)
 refine wa a.length (aUb a b) (fun x => ([(0, .sl 5 (a.map enA)), (1, .sl 5 (b.map enA)), (5, Ni (x : Int))], [])) 0 [] ?_ ?_
 . exact jc
 rintro i ⟨hi, hall⟩
 refine sq fun k4 => (aj) ((cdB) ?_ ?_) <;> intro hc1
 . have hge := gec hc1
   refine we ((jt) (k2 ((aj) (wR ?_))))
   have h9 : mD a b = true := by unfold mD; exact eU hge hall
   exact fq h9
 obtain ⟨hlt, l, hl, _, _⟩ := ixc hc1
 refine wk (k4 (sq fun k6 => wb ((aj) (wb ?_))))
 refine wa b.length (aHi a b i) (fun x => ([(0, .sl 5 (a.map enA)), (1, .sl 5 (b.map enA)), (5, Ni (i : Int)), (6, Ni (x : Int))], [])) 0 [] ?_ ?_
 . exact jc
 rintro k ⟨hk, hallk⟩
 refine sq fun k8 => (aj) ((cdB) ?_ ?_) <;> intro hc2
 . have hgek : b.length <= k := by have h9 : ¬ k < b.length := (by simpa using hc2); omega
   refine we ((jt) ((jt) (k6 ?_)))
   have hp : aUb a b i = true := eU hgek hallk
   refine (jw (wiS i og)) ((jt) ?_)
   refine ⟨i + 1, ⟨og, bV hall hp⟩, og, [], ?_⟩
   exact jo
 have hltk : k < b.length := by simpa using hc2
 obtain ⟨m, hm, _, _⟩ := ix hltk
 refine wk (k8 (sq fun k10 => wb (sd mixed rfl fun k11 => (Bi hl hm) ((jr) ((jy) (k11 ((cdA) ?_ ?_))))))) <;> intro hc3
 . have hpk : aHi a b i k = false := by unfold aHi; rw [hl, hm]; simp only [hc3]; rfl
   have hp : aUb a b i = false := gR hltk hpk
   refine (aj) (wR ((Ad) ?_))
   have h9 : mD a b = false := by unfold mD; exact gR hlt hp
   exact fq h9
 have hpk : aHi a b i k = true := by unfold aHi; rw [hl, hm]; simp only [hc3]; rfl
 refine wk ((jt) (k10 ?_))
 have hwk := wiS k og
 refine wg rfl ((Aa hwk) ((jt) ?_))
 refine ⟨k + 1, ⟨og, bV hallk hpk⟩, og, [], ?_⟩
 exact jo
def xG (a b : List (List Run)) (ha : bEq a) : aB P 101 [.sl 1 (a.map rsA), .sl 1 (b.map rsA)] [] 0 (Nb (decide (a = b))) := by
 refine (pq 54 [.tmp 4] func101) ?_
 have hlena := ha.1
 refine (aj) ?_
 refine sq fun k2 => (aj) ((cdA) ?_ ?_) <;> intro hc1
 . have hne : a ≠ b := fun e => by rw [e] at hc1; simp at hc1
   exact (aj) (wR (fq (decide_eq_false hne)))
 have hlen : a.length = b.length := by simp at hc1; omega
 refine wk (k2 (sq fun k5 => (aj) (wb ?_)))
 refine wa a.length (bOl a b) (fun x => ([(0, .sl 1 (a.map rsA)), (1, .sl 1 (b.map rsA)), (5, Ni (x : Int))], [])) 0 [] ?_ ?_
 . exact jc
 rintro i ⟨hi, hall⟩
 refine sq fun k7 => (aj) ((cdB) ?_ ?_) <;> intro hc2
 . have hge := gec hc2
   refine we ((jt) (k5 ((aj) (wR ?_))))
   have hie : i = a.length := by omega
   subst hie
   have he : a = b := by
     refine List.ext_getElem? fun j => ?_
     by_cases hj : j < a.length
     . simpa [bOl] using hall j hj
     rw [D6 og, D6 og]
   exact fq (decide_eq_true he)
 obtain ⟨hlt, l, hl, _, hml⟩ := ixc hc2
 obtain ⟨m, hm, _, _⟩ := ix (xs := b) (i := i) og
 have hll := (ha.2 l hml).1
 refine wk (k7 (sq fun k9 => wb (sq fun k10 => sd mixed rfl fun k11 => ?_)))
 simp only [go_sem, hl, hm, rsA]
 refine (jr) ((jy) (k11 ((cdA) ?_ ?_))) <;> intro hc3
 . have hne : a ≠ b := fun e => by
     rw [e, hm] at hl; cases hl; simp at hc3
   exact (aj) (wR ((Ad) (fq (decide_eq_false hne))))
 . have hlm : l.length = m.length := by simp at hc3; omega
   refine wk (k10 ((aj) (wb ?_)))
   refine wa l.length (sP l m) (fun x => ([(0, .sl 1 (a.map rsA)), (1, .sl 1 (b.map rsA)), (5, Ni (i : Int)), (6, Ni (x : Int))], [])) 0 [] ?_ ?_
   . exact jc
   rintro k ⟨hk, hallk⟩
   refine sq fun k14 => sr rfl fun k15 => (As hl) ((jr) (k15 ((cdB) ?_ ?_))) <;> intro hc4
   . have hgek : l.length <= k := by have h9 : ¬ k < l.length := (by simpa using hc4); omega
     refine we ((jt) ((jt) (k9 ?_)))
     have hp : bOl a b i = true := by
       have hlm : l = m := pM hlm (fun j hj => hallk j og)
       unfold bOl; rw [hl, hm, hlm]; simp
     refine (jw (wiS i og)) ((jt) ?_)
     refine ⟨i + 1, ⟨og, bV hall hp⟩, og, [], ?_⟩
     exact jo
   have hltk : k < l.length := by simpa using hc4
   obtain ⟨x, hx, _, hmx⟩ := ix hltk
   obtain ⟨y, hy, _, _⟩ := ix (xs := m) (i := k) og
   refine wk (k14 (sq fun k16 => wb (sd mixed rfl fun k17 => ?_)))
   simp only [go_sem, hl, hm, hx, hy, rsA, rA]
   refine (jr) ?_
   refine tp rfl rfl rfl ⟨func155, rfl, rfl⟩ (aOa x y ((ha.2 l hml).2 x hmx).1) Ac Ac ?_
   simp only [go_sem, bIu]
   refine (jy) (k17 ((cdB) ?_ ?_)) <;> intro hc5
   . have hpk : sP l m k = true := by unfold sP; rw [hx, hy]; simpa using hc5
     refine wk ((jt) (k16 ?_))
     have hwk := wiS k og
     refine wg rfl ((Aa hwk) ((jt) ?_))
     refine ⟨k + 1, ⟨og, bV hallk hpk⟩, og, [], ?_⟩
     exact jo
   have hne : a ≠ b := fun e => by
     rw [e, hm] at hl; cases hl; rw [hx] at hy; cases hy; simp at hc5
   exact (aj) (wR ((Ad) (fq (decide_eq_false hne))))
def aIs (a b : Tree) (ha : bBt a) : aB P 60 [trA a, trA b] [] 0 (Nb (iM a b)) := by
 refine (pq 31 [.tmp 4] func60) ?_
 simp only [trA]
 refine (aj) ?_
 refine sr rfl fun k2 => (ja) ?_
 refine vpg rfl rfl rfl rfl rfl rfl ⟨func104, rfl, rfl⟩ (fun hg => uA a.mem b.mem ha.1.1) oG (fun hg => oG) oG trivial ?_
 refine (ja) ?_
 refine vpg rfl rfl rfl rfl rfl rfl ⟨func101, rfl, rfl⟩ (fun hg => xG a.levels b.levels ha.2.1) oG (fun hg => oG) oG trivial ?_
 refine (ja) ?_
 refine vpg rfl rfl rfl rfl rfl rfl ⟨func105, rfl, rfl⟩ (fun hg => aPz a.snaps b.snaps ha.2.2) oG (fun hg => oG) oG trivial ?_
 refine (ja) (k2 (wR (fO ?_ trivial)))
 simp only [go_sem, iM]
def aLu (ls : List Entry) (e : Entry) (hne : 0 < ls.length) (hz : ls.length <= 1099511627776) : aH P 108 [.sl 5 (ls.map enA), enA e] [] 0 (.ref 0) [(0, .row 65 5 ((gD ls e).map enA))] 1 := by
 refine (gq 37 [.tmp 4] func108) ?_
 simp only [enA]
 have hmx := mxl
 refine (aj) ((aj) ?_)
 refine sq fun k3 => wb ?_
 refine wl (α := Nat) (fun x => x <= ls.length /\ aBe ls e x = aCu ls e) (fun x => x) (fun x => ([(0, .sl 5 (ls.map enA)), (3, .ptr 0 0), (5, Ni (x : Int))], [(0, .cells 65 [Ns e.key, Ni e.seq, Ni e.kind, Ns e.text, Ni e.n])])) 1 ls.length ⟨A0 _, rfl⟩ [] ?_ ?_
 . exact Bk
 rintro i ⟨hi, hpos⟩
 refine sq fun k4 => ?_
 have hw1 := wr ((i : Int) - 1) ((i : Int) - 1) og
 have hpn : ((i : Int) - 1).toNat = i - 1 := by omega
 obtain ⟨p, hpv, hpd⟩ : ∃ p, ls[i - 1]? = some p /\ p = ((ls[i - 1]?).getD nH) := ⟨_, by rw [A1 og]; rfl, rfl⟩
 have hgo : aBe ls e i = if (decide (0 < (i : Int)) && entLt e p) = true then aBe ls e (i - 1) else i := by
   rcases Nat.eq_zero_or_pos i with h0 | h0
   . subst h0; rfl
   obtain ⟨m, rfl⟩ : ∃ m, i = m + 1 := ⟨i - 1, og⟩
   have h1 : decide (0 < ((m + 1 : Nat) : Int)) = true := by rw [decide_eq_true_eq]; omega
   rw [h1, hpd, Bool.true_and]; rfl
 refine sd mixed rfl fun k5 => (Bj hw1 hpn hpv) ((jr) ?_)
 refine tpg rfl rfl rfl rfl rfl rfl ⟨func149, rfl, rfl⟩ (fun hg => pO e p) oG (fun hg => Ah) Ah trivial ?_
 refine (Bj hw1 hpn hpv) ((jr) ((jy) (k5 ((cdA) ?_ ?_)))) <;> intro hc1
 . have hi0 : 0 < i := by simp at hc1; omega
   have hpos2 : aBe ls e (i - 1) = aCu ls e := by rw [hgo, if_pos hc1] at hpos; exact hpos
   have hw2 := wr ((i : Int) - 1) (((i - 1 : Nat) : Int)) og
   refine wk (k4 (wb (wg rfl ((Aa hw2) ((jt) ((jt) ?_))))))
   refine ⟨i - 1, ⟨og, hpos2⟩, og, [], ?_⟩
   exact Bk
 have hpos3 : i = aCu ls e := by rw [hgo, hc1, if_neg oS] at hpos; exact hpos
 refine we ((jt) (k3 (sr rfl fun k6 => (Dm) ((jr) (k6 (sd mixed rfl fun k7 => (Dm) ((jr) ((jy) (k7 (wR ?_))))))))))
 have h9 : List.take i (List.map enA ls) ++ .agg [.raw (.string e.key), .raw (.int .i64 e.seq), .raw (.int .i64 e.kind), .raw (.string e.text), .raw (.int .i64 e.n)] :: List.drop i (List.map enA ls) = (gD ls e).map enA := by unfold gD; rw [<- hpos3]; simp [enA]
 refine ⟨[(0, 7)], ?_⟩
 simp only [go_sem, AObj.bel, AObj.ren, AV.ren, aA, sg] <;> simp
 exact h9
def aKw (e : Entry) : aH P 108 [.sl 5 [], enA e] [] 0 (.ref 0) [(0, .row 65 5 [enA e])] 1 := by
 refine (gq 37 [.tmp 4] func108) ?_
 simp only [enA]
 have hmx := mxl
 refine (aj) ((aj) ?_)
 refine sq fun k3 => wb ?_
 refine wl (α := Nat) (fun x => x = 0) (fun x => x) (fun x => ([(0, .sl 5 []), (3, .ptr 0 0), (5, Ni 0)], [(0, .cells 65 [Ns e.key, Ni e.seq, Ni e.kind, Ns e.text, Ni e.n])])) 1 0 rfl [] ?_ ?_
 . exact Ch
 rintro i hi
 refine sq fun k4 => ?_
 have hw1 := wr ((0 : Int) - 1) (-1) og
 have hpn : (-1 : Int).toNat = 0 := rfl
 have hg0 : decide ((0 : Int) < 0) = false := rfl
 refine sd mixed rfl fun k5 => (Bj hw1 hpn hg0) ((jr) ?_)
 refine aM (fun hN => bD (rt := []) (rd := []) (val := enA nH) hN rfl rfl rfl rfl trivial (fun hg => absurd hg oS) (by exact eS _ _)) (.inl rfl) ?_
 simp only [go_sem, enA, nH, hg0, hw1, hpn, hg0, enA]
 refine (jr) ?_
 refine tpg rfl rfl rfl rfl rfl rfl ⟨func149, rfl, rfl⟩ (fun hg => pO e nH) oG (fun hg => (by simp only [go_sem, enA, nH])) (by simp only [go_sem, enA, nH]) trivial ?_
 refine (Aa hg0) ((jy) (k5 ((cdA) (fun hc => by simp at hc) fun hc1 => ?_)))
 refine we ((jt) (k3 (sr rfl fun k6 => (Dn) ((jr) (k6 (sd mixed rfl fun k7 => (Dn) ((jr) ((jy) (k7 (wR ?_))))))))))
 refine ⟨[(0, 7)], ?_⟩
 simp only [go_sem, enA, AObj.bel, AObj.ren, AV.ren, aA, sg] <;> simp
def aKo (ls : List Entry) (e : Entry) (hz : ls.length <= 1099511627776) : aH P 108 [.sl 5 (ls.map enA), enA e] [] 0 (.ref 0) [(0, .row 65 5 ((gD ls e).map enA))] 1 := by
  match ls, hz with
  | [], _ => exact aKw e
  | x :: r, hz => exact aLu (x :: r) e oS hz
def aEg (ls : List Entry) (e : Entry) (hz : ls.length <= 1099511627776) : aB P 108 [.sl 5 (ls.map enA), enA e] [] 0 (.sl 5 ((gD ls e).map enA)) :=
  cO (aKo ls e hz) oG oG
section
variable {R G A B : Prop} {rs : List Run} {k : Nat} {r : Run} {t : Tree}
def eT (rs : List Run) : List Entry := rs.flatMap Run.ents
def dW (t : Tree) : List (List Entry) := t.mem :: (((t.levels[0]?).getD []).reverse.map Run.ents ++ (t.levels.drop 1).map eT)
def zM (ps : List (List Entry)) (i k : Nat) : Bool := match ps[i]?, ps[k]? with
  | some a, some b => mD a b
  | _, _ => true
def aJu (ps : List (List Entry)) (i : Nat) : Bool := (List.range (ps.length - (i + 1))).all fun d => zM ps i (i + 1 + d)
def aIn (ps : List (List Entry)) : Bool := (List.range ps.length).all (aJu ps)
def lv (t : Tree) (i : Nat) : List Run := (t.levels[i]?).getD []
def vB (t : Tree) : Bool := ((((((decide (t.seq < 0) || decide (100000 < t.seq)) || decide (60 < (t.mem.length : Int))) || !cV t.mem) || !mC t.mem t.seq) || !decide ((t.levels.length : Int) = 3)) || !nP t.snaps t.seq)
def eH (t : Tree) : Bool := if vB t = true then false else ((eY (lv t 0) 4 false t.seq && eY (lv t 1) 8 true t.seq) && eY (lv t 2) 8 true t.seq) && aIn (dW t)
def aIp (h : rs[k]? = some r) : (rs.take k).map runOwn ++ [runOwn r] = (rs.take (k + 1)).map runOwn := by
  rw [E7, h]; simp
def aFc {ls : List (List Run)} {i : Nat} (h : ls[i]? = some rs) : (ls.take i).map rsO ++ [rsO rs] = (ls.take (i + 1)).map rsO := by
  rw [E7, h]; simp
def tn0 : (0 : Int).toNat = 0 := rfl
def tn1 : (1 : Int).toNat = 1 := rfl
def tn2 : (2 : Int).toNat = 2 := rfl
def Ee (e : A) (f : B) (h : A -> B -> R -> G := by intro e f k; simp only [go_sem, e, f, Int.toNat_natCast, Int.toNat_zero, Int.toNat_zero, List.drop_zero, A2, A2, C6, Nat.add_zero, Nat.mul_one, Nat.one_mul, C5, Nat.zero_mul, rsA, tn1, tn2, <- E5, <- D0]; exact k) : R -> G := h e f
def Ea (e : A) (f : B) (h : A -> B -> R -> G := by intro e f k; simp only [go_sem, e, f, Int.toNat_zero, A2, Nat.add_zero, Nat.mul_one, Nat.one_mul, C5, Nat.zero_mul, rsA, tn1, tn2]; exact k) : R -> G := h e f
def Dk (h : R -> G := by intro k; simp only [go_sem, Int.toNat_zero, List.getElem?_cons_succ, List.getElem?_cons_zero, A2, rsA, tn1, tn2]; exact k) : R -> G := h
def Dc (h : R -> G := by intro k; simp only [go_sem, Int.toNat_zero, A2, Nat.add_zero, Nat.mul_one, Nat.one_mul, C5, Nat.zero_mul, rsA, tn1, tn2]; exact k) : R -> G := h
def Cx (h : R -> G := by intro k; simp only [go_sem, List.map_cons, List.map_nil, Nat.mul_one, C5, inA, padL, tn0, tn1, tn2, tn3]; exact k) : R -> G := h
def Cq {R G A B C : Prop} (e : A) (f : B) (g : C) (h : A -> B -> C -> R -> G := by intro e f g k; simp only [go_sem, e, f, g, rsA, tn0, tn1, tn2]; exact k) : R -> G := h e f g
def aUy (h : rs[k]? = some r) : eT (rs.take (k + 1)) = eT (rs.take k) ++ r.ents := by
  unfold eT
  rw [E7, h]; simp
def aIm (h : ∀ r ∈ rs, r.ents.length <= 1048576) : (eT rs).length <= 1048576 * rs.length := by
  induction rs with
  | nil => simp [eT]
  | cons r rs ih =>
    have h1 := ih fun x hx => h x (A4 _ hx)
    have h2 := h r A5
    simp only [eT, List.flatMap_cons, A3, B7] at h1 ⊢
    omega
def bKw (h : rs[k]? = some r) : (rs.drop k).reverse.map Run.ents = (rs.drop (k + 1)).reverse.map Run.ents ++ [r.ents] := by
  rw [rV h, List.reverse_cons, E4]; rfl
def bPn {α β : Type} {ls : List α} {x : α} (f : α -> β) (h : ls[k]? = some x) (h1 : 1 <= k) : ((ls.take (k + 1)).drop 1).map f = ((ls.take k).drop 1).map f ++ [f x] := by
  have hlt := (A9.1 h).1
  rw [E7, h, List.drop_append_of_le_length (by rw [A7]; omega), E4]; rfl
def nD (t : Tree) (k : Nat) : List (List Entry) := t.mem :: ((lv t 0).reverse.map Run.ents ++ ((t.levels.take k).drop 1).map eT)
def aXz (t : Tree) : nD t t.levels.length = dW t := by unfold nD dW lv; rw [C6]
def aXk (h : gS t) : ∀ p ∈ dW t, p.length <= 4611686018427387904 := by
  obtain ⟨h1, h2, h3⟩ := h
  intro p hp
  rcases B1.1 hp with e | hp
  . rw [e]; have := h1.1; omega
  rcases B4.1 hp with hp | hp
  . obtain ⟨r, hr, rfl⟩ := B3.1 hp
    have hr' := List.mem_reverse.1 hr
    cases hq : t.levels[0]? with
    | none => rw [hq] at hr'; cases hr'
    | some rs =>
      rw [hq] at hr'
      have := ((h2.2 rs (G2 hq)).2 r hr').1
      omega
  obtain ⟨rs, hr, rfl⟩ := B3.1 hp
  have h4 := h2.2 rs (D1 hr)
  have := aIm fun r hr => (h4.2 r hr).1
  have h5 := h4.1
  have : 1048576 * rs.length <= 1048576 * 1048576 := Nat.mul_le_mul_left _ h5
  omega
def bHe (h : gS t) : (dW t).length <= 3145728 := by
  obtain ⟨h1, h2, h3⟩ := h
  have h4 := h2.1
  have h5 : ((t.levels[0]?).getD []).length <= 1048576 := by
    cases hq : t.levels[0]? with
    | none => simp
    | some rs => exact (h2.2 rs (G2 hq)).1
  simp only [dW, B7, A3, A2, H8, B0]; omega
def aRe (U : Nat -> Prop) (p : List Entry) : (esA p).bel U := enB _ _
def bGw (σ : Nat -> Nat) (p : List Entry) : (esA p).ren σ = esA p := AV.ren_closed σ (aRe _ p)
attribute [go_sem] aRe bGw
def dR (ls : List (List Run)) (hs : qJ ls) : aH P 48 [.sl 1 (ls.map rsA)] [] 0 (.ref 0) [(0, .row 107 1 (ls.map rsO))] 1 := by
 refine (gq 51 [.tmp 2] func48) ?_
 have hmx := mxl
 have hlen := hs.1
 refine (aj) ?_
 refine sr rfl fun k2 => (ja) ((jr) (k2 (sq fun k3 => (aj) (wb ?_))))
 refine wn ls.length (fun x => ([(0, .sl 1 (ls.map rsA)), (3, .ref 0), (4, Ni (x : Int))], [(0, .row 107 1 ((ls.take x).map rsO))])) 1 [] ?_ ?_
 . exact Ca
 rintro i hi
 refine sq fun k5 => (aj) ((cdB) ?_ ?_) <;> intro hc1
 . have hge := gec hc1
   refine we ((jt) (k3 ((aj) (wR ?_))))
   have hie : i = ls.length := by omega
   subst hie; rw [C6]; refine ⟨[], ?_⟩; exact Bk
 obtain ⟨hlt, l, hl, hdrop, hml⟩ := ixc hc1
 have hsl := hs.2 l hml
 have hll := hsl.1
 refine wk (k5 (sq fun k7 => wb (sr rfl fun k8 => (ja) ((jr) (k8 (sq fun k9 => (aj) (wb ?_)))))))
 refine wn l.length (fun x => ([(0, .sl 1 (ls.map rsA)), (3, .ref 0), (4, Ni (i : Int)), (5, .ref 1), (6, Ni (x : Int))], [(0, .row 107 1 ((ls.take i).map rsO)), (1, .row 109 2 ((l.take x).map runOwn))])) 2 [] ?_ ?_
 . exact Ca
 rintro k hk
 refine sq fun k11 => sr rfl fun k12 => (As hl) ((jr) (k12 ((cdB) ?_ ?_))) <;> intro hc2
 . have hgek : l.length <= k := by have h9 : ¬ k < l.length := (by simpa using hc2); omega
   refine we ((jt) (k9 ?_))
   have hfull : l.take k = l := List.take_of_length_le og
   refine wg rfl ((Do hfull) ((jr) ((jt) (k7 ?_))))
   have hw := wiS i og
   have htl : List.take i (List.map rsO ls) ++ [AV.own 109 2 (List.map runOwn l)] = List.take (i + 1) (List.map rsO ls) := by rw [<- D0, <- D0]; exact aFc hl
   refine wg rfl ((Aa hw) ((jt) ?_))
   refine ⟨i + 1, og, og, [(0, 3)], ?_⟩
   simp only [go_sem, AObj.bel, AObj.ren, AV.ren, aA, sg] <;> simp
   exact htl
 have hltk : k < l.length := by simpa using hc2
 obtain ⟨r, hr, _, hmr⟩ := ix hltk
 have hrl := (hsl.2 r hmr).1
 refine wk (k11 (sq fun k13 => wb ?_))
 refine jF mixed rfl ?_
 refine (Dp hl hr) ((jr) ((jy) ((jt) (k13 ?_))))
 have hwk := wiS k og
 have htk : List.take k (List.map runOwn l) ++ [AV.agg [AV.own 65 5 (List.map enA r.ents), AV.raw (Value.int IntKind.i64 r.mask)]] = List.take (k + 1) (List.map runOwn l) := by rw [<- D0, <- D0]; exact aIp hr
 refine wg rfl ((Aa hwk) ((jt) ?_))
 refine ⟨k + 1, og, og, [(1, 5)], ?_⟩
 simp only [go_sem, AObj.bel, AObj.ren, AV.ren, aA, sg] <;> simp
 exact htk
def lR (t : Tree) (hs : gS t) : aH P 65 [trA t] [] 0 (.agg [Ni t.seq, .ref 0, .ref 1, .ref 2]) [(0, .row 65 5 (t.mem.map enA)), (1, .row 107 1 (t.levels.map rsO)), (2, .row 3 1 (t.snaps.map inA))] 3 := by
 refine (gq 17 [.cell 2 36] func65) ?_
 simp only [trA]
 have hmx := mxl
 obtain ⟨⟨hs1, _⟩, hs2, hs3⟩ := hs
 refine (aj) ?_
 refine sd mixed rfl fun k2 => (Ci) ((jr) ?_)
 refine tn 1 rfl rfl rfl ⟨func48, rfl, rfl⟩ (dR t.levels hs2) oG oG oS dg ?_
 refine (jn) ((jr) ((jy) (k2 (wR ?_))))
 refine ⟨[(0, 3), (1, 4), (2, 6)], ?_⟩
 exact jz
def aGc (t : Tree) (hs : gS t) (h1 : 1 <= t.levels.length) : aH P 153 [trA t] [] 0 (.ref 0) [(0, .row 33 1 ((dW t).map esA))] 1 := by
 refine (gq 66 [.tmp 2] func153) ?_
 simp only [trA]
 have hmx := mxl
 obtain ⟨⟨hs1, _⟩, hs2, hs3⟩ := hs
 have hl0 : t.levels[0]? = some (lv t 0) := by unfold lv; rw [A1 og]; rfl
 have hm0 := hs2.2 _ (G2 hl0)
 have hz0 := hm0.1
 have hlen := hs2.1
 refine (aj) ?_
 refine sr rfl fun k2 => (ja) ((jr) (k2 (sq fun k3 => ?_)))
 have hw0 := wr (((lv t 0).length : Int) - 1) (((lv t 0).length : Int) - 1) og
 refine sr rfl fun k4 => ?_
 simp only [go_sem, hl0, tn0, rsA, hw0]
 refine (jr) (k4 (wb ?_))
 refine wl (α := Nat) (fun x => x <= (lv t 0).length) (fun x => x) (fun x => ([(1, .ptr 0 0), (3, .ref 1), (4, Ni ((x : Int) - 1))], [(0, .cells 36 [Ni t.seq, .sl 5 (t.mem.map enA), .sl 1 (t.levels.map rsA), .sl 1 (t.snaps.map inA)]), (1, .row 33 1 ((t.mem :: ((lv t 0).drop x).reverse.map Run.ents).map esA))])) 2 (lv t 0).length (A0 _) [] ?_ ?_
 . simp only [go_sem, AObj.bel, List.drop_length, List.reverse_nil, List.map_cons, List.map_nil, esA] <;> simp
 rintro j hj
 refine sq fun k5 => (aj) ((cdA) ?_ ?_) <;> intro hc1
 . obtain ⟨i, rfl⟩ : ∃ i, j = i + 1 := ⟨j - 1, by have h9 : (0 : Int) <= (j : Int) - 1 := (by simpa using hc1); omega⟩
   have hi1 : (((i + 1 : Nat) : Int) - 1) = (i : Int) := by omega
   obtain ⟨r, hr, _, hmr⟩ := ix (xs := lv t 0) (i := i) og
   simp only [hi1]
   refine wk (k5 (sq fun k7 => wb (wg rfl ?_)))
   simp only [go_sem, hl0, tn0, hr, rsA, rA, A7, A3, List.nil_append, A2, H8, B0]
   refine (jr) ((jt) (k7 ?_))
   have hw4 := wr ((i : Int) - 1) ((i : Int) - 1) og
   have htn : List.map esA (List.map Run.ents (List.drop (i + 1) (lv t 0)).reverse) ++ [AV.sl 5 (List.map enA r.ents)] = List.map esA (List.map Run.ents (List.drop i (lv t 0)).reverse) := by rw [bKw hr, E4]; rfl
   refine wg rfl ((Aa hw4) ((jt) ?_))
   refine ⟨i, og, og, [(1, 3)], ?_⟩
   simp only [go_sem, AObj.bel, AObj.ren, AV.ren, aA, sg] <;> simp
   first | exact htn | simpa using htn
 have hj0 : j = 0 := by have h9 : ¬ (0 : Int) <= (j : Int) - 1 := (by simpa using hc1); omega
 subst hj0; rw [List.drop_zero]
 refine we ((jt) (k3 (sq fun k8 => ?_)))
 have hb0 : esA t.mem :: List.map esA (List.map Run.ents (lv t 0).reverse) = List.map esA (nD t 1) := by unfold nD; rw [E9 (by rw [A7]; omega)]; simp
 refine (aj) (wb ?_)
 refine wl (α := Nat) (fun x => 1 <= x /\ x <= t.levels.length) (fun x => t.levels.length - x) (fun x => ([(1, .ptr 0 0), (3, .ref 1), (5, Ni (x : Int))], [(0, .cells 36 [Ni t.seq, .sl 5 (t.mem.map enA), .sl 1 (t.levels.map rsA), .sl 1 (t.snaps.map inA)]), (1, .row 33 1 ((nD t x).map esA))])) 2 1 ⟨A0 _, h1⟩ [] ?_ ?_
 . simp only [go_sem, AObj.bel, AObj.ren, AV.ren, aA, sg] <;> simp
   first | exact hb0 | simpa using hb0
 rintro k ⟨hk1, hk⟩
 refine sq fun k10 => (aj) ((cdB) ?_ ?_) <;> intro hc2
 . have hke : k = t.levels.length := by have h9 : ¬ k < t.levels.length := (by simpa using hc2); omega
   subst hke; rw [aXz]
   refine we ((jt) (k8 ((aj) (wR ?_))))
   refine ⟨[(0, 1)], ?_⟩
   exact jz
 have hltk : k < t.levels.length := by simpa using hc2
 obtain ⟨l, hl, _, hml⟩ := ix hltk
 have hsl := hs2.2 l hml
 have hll := hsl.1
 have hpl : (nD t k).length <= 3145728 := by simp only [nD, B7, A3, A2, H8, B0, A7]; omega
 refine wk (k10 (sq fun k12 => wb (sr rfl fun k13 => (ja) ((jr) (k13 (sq fun k14 => (aj) (wb ?_)))))))
 refine wn l.length (fun x => ([(1, .ptr 0 0), (3, .ref 1), (5, Ni (k : Int)), (6, .ref 2), (7, Ni (x : Int))], [(0, .cells 36 [Ni t.seq, .sl 5 (t.mem.map enA), .sl 1 (t.levels.map rsA), .sl 1 (t.snaps.map inA)]), (1, .row 33 1 ((nD t k).map esA)), (2, .row 65 5 ((eT (l.take x)).map enA))])) 3 [] ?_ ?_
 . simp only [go_sem, AObj.bel, AObj.ren, AV.ren, aA, sg] <;> simp
   exact rfl
 rintro i hi
 refine sq fun k16 => sr rfl fun k17 => (As hl) ((jr) (k17 ((cdA) ?_ ?_))) <;> intro hc3
 . obtain ⟨hlt, x, hx, _, hmx⟩ := ixc hc3
   have hxl := (hsl.2 x hmx).1
   have hpa := aIm (rs := l.take i) fun r hr => (hsl.2 r (D2 hr)).1
   rw [A7] at hpa
   refine wk (k16 (sq fun k18 => wb (wg rfl ((Dp hl hx) ((jr) ((jt) (k18 ?_)))))))
   have hw := wiS i og
   have hta : List.map enA (eT (List.take i l)) ++ List.map enA x.ents = List.map enA (eT (List.take (i + 1) l)) := by rw [aUy hx, E4]
   refine wg rfl ((Aa hw) ((jt) ?_))
   refine ⟨i + 1, og, og, [(2, 3)], ?_⟩
   simp only [go_sem, AObj.bel, AObj.ren, AV.ren, aA, sg] <;> simp
   first | exact hta | simpa using hta
 have hge := gec hc3
 refine we ((jt) (k14 ?_))
 have hfull : l.take i = l := List.take_of_length_le og
 rw [hfull]
 refine aFz 2 rfl ?_
 refine (ja) ?_
 refine wg rfl ((Ci) ((jr) ((jt) (k12 ?_))))
 have hwk := wiS k og
 have htk : List.map esA (nD t k) ++ [AV.sl 5 (List.map enA (eT l))] = List.map esA (nD t (k + 1)) := by
   have e1 := bPn eT hl hk1
   unfold nD; rw [e1]
   simp [esA]
 refine wg rfl ((Aa hwk) ((jt) ?_))
 refine ⟨k + 1, og, og, [(1, 4)], ?_⟩
 simp only [go_sem, AObj.bel, AObj.ren, AV.ren, aA, sg] <;> simp
 first | exact htk | simpa using htk
def aPu (t : Tree) (hs : gS t) (h1 : 1 <= t.levels.length) : aB P 100 [trA t] [] 0 (Nb (aIn (dW t))) := by
 refine (pq 32 [.tmp 2] func100) ?_
 simp only [trA]
 have hpl := bHe hs
 have hps := aXk hs
 generalize hpp : dW t = ps at hpl hps ⊢
 refine (aj) ?_
 refine sr rfl fun k2 => (ja) ?_
 refine (vr rfl rfl rfl func153 ((hpp ▸ cO (aGc t hs h1) oG oG : aB P 153 [trA t] [] 0 (.sl 1 (ps.map esA)))) Af Af) (k2 (sq fun k3 => (aj) (wb ?_)))
 refine wa ps.length (aJu ps) (fun x => ([(3, .sl 1 (ps.map esA)), (4, Ni (x : Int))], [(0, .cells 36 [Ni t.seq, .sl 5 (t.mem.map enA), .sl 1 (t.levels.map rsA), .sl 1 (t.snaps.map inA)])])) 1 [] ?_ ?_
 . exact Ch
 rintro i ⟨hi, hall⟩
 refine sq fun k5 => (aj) ((cdB) ?_ ?_) <;> intro hc1
 . have hge := gec hc1
   refine we ((jt) (k3 ((aj) (wR ?_))))
   have h9 : aIn ps = true := by unfold aIn; exact eU hge hall
   exact fq h9
 obtain ⟨hlt, p, hp1, _, hmp⟩ := ixc hc1
 refine wk (k5 (sq fun k7 => wb ?_))
 have hw := wiS i og
 refine sr rfl fun k8 => (Aa hw) (k8 (wb ?_))
 refine wl (α := Nat) (fun x => i + 1 + x <= ps.length /\ ∀ d, d < x -> zM ps i (i + 1 + d) = true) (fun x => ps.length - (i + 1 + x)) (fun x => ([(3, .sl 1 (ps.map esA)), (4, Ni (i : Int)), (5, Ni ((i + 1 + x : Nat) : Int))], [(0, .cells 36 [Ni t.seq, .sl 5 (t.mem.map enA), .sl 1 (t.levels.map rsA), .sl 1 (t.snaps.map inA)])])) 1 0 ⟨og, fun d hd => absurd hd (I0 _)⟩ [] ?_ ?_
 . exact jz
 rintro d ⟨hd, hall2⟩
 refine sq fun k9 => (aj) ((cdB) ?_ ?_) <;> intro hc2
 . have hgek : ps.length <= i + 1 + d := by simp at hc2; omega
   refine we ((jt) ((jt) (k7 ?_)))
   have hp : aJu ps i = true := eU og hall2
   refine (jw (wiS i og)) ((jt) ?_)
   refine ⟨i + 1, ⟨og, bV hall hp⟩, og, [], ?_⟩
   exact Bk
 have hltk : i + 1 + d < ps.length := by simp at hc2; omega
 obtain ⟨q, hq1, _, hmq⟩ := ix hltk
 refine wk (k9 (sq fun k11 => wb (sd mixed rfl fun k12 => ?_)))
 simp only [go_sem, hp1, hq1, esA]
 refine (jr) ?_
 refine tp rfl rfl rfl ⟨func154, rfl, rfl⟩ (aMl p q (hps p hmp) (hps q hmq)) oG oG ?_
 simp only [go_sem, hp1, hq1, esA]
 refine (jr) ((jy) (k12 ((cdA) ?_ ?_))) <;> intro hc3
 . have hpk : zM ps i (i + 1 + d) = false := by unfold zM; rw [hp1, hq1]; simpa using hc3
   have hp : aJu ps i = false := gR (i := d) og hpk
   refine (aj) (wR ((Ad) ?_))
   have h9 : aIn ps = false := by unfold aIn; exact gR hlt hp
   exact fq h9
 have hpk : zM ps i (i + 1 + d) = true := by unfold zM; rw [hp1, hq1]; simpa using hc3
 refine wk ((jt) (k11 ?_))
 have hwk := wr (((i + 1 + d : Nat) : Int) + 1) (((i + 1 + (d + 1) : Nat) : Int)) og
 refine wg rfl ((Aa hwk) ((jt) ?_))
 refine ⟨d + 1, ⟨og, bV hall2 hpk⟩, og, [], ?_⟩
 exact jz
def uD (t : Tree) (hs : gS t) : aB P 58 [trA t] [] 0 (Nb (eH t)) := by
 refine (pq 71 [.tmp 2] func58) ?_
 simp only [trA]
 have hs0 := hs
 obtain ⟨hs1, hs2, hs3⟩ := hs
 have hz1 : dB t.mem := ⟨by have := hs1.1; omega, fun e he => ⟨by have := (hs1.2 e he).1; omega, by have := (hs1.2 e he).2; omega⟩⟩
 have hzr : ∀ i, i < t.levels.length -> aOn (lv t i) := fun i hi => by
   have h1 := hs2.2 (lv t i) (by unfold lv; rw [A1 hi]; exact D7 hi)
   exact ⟨by have := h1.1; omega, fun r hr => ⟨by have := (h1.2 r hr).1; omega, fun e he => ⟨by have := ((h1.2 r hr).2 e he).1; omega, by have := ((h1.2 r hr).2 e he).2; omega⟩⟩⟩
 refine (aj) ?_
 refine sq fun k2 => sr rfl fun k3 => (ja) ?_
 refine vpg rfl rfl rfl rfl rfl rfl ⟨func96, rfl, rfl⟩ (fun hg => sE t.mem hz1) oG (fun hg => oG) oG trivial ?_
 refine (ja) ?_
 refine vpg rfl rfl rfl rfl rfl rfl ⟨func97, rfl, rfl⟩ (fun hg => xE t.mem t.seq hz1.1) oG (fun hg => oG) oG trivial ?_
 refine (ja) ?_
 refine vpg rfl rfl rfl rfl rfl rfl ⟨func98, rfl, rfl⟩ (fun hg => aNg t og) oG (fun hg => Af) Af trivial ?_
 refine (ja) (k3 ((cdA) ?_ ?_)) <;> intro hc1
 . have hb : vB t = true := hc1
   refine (aj) (wR ?_)
   refine fO ?_ trivial; simp only [go_sem, eH, hb]
 have hb : vB t = false := hc1
 have h3 : t.levels.length = 3 := by simp at hc1; omega
 have hl0 : t.levels[0]? = some (lv t 0) := by unfold lv; rw [A1 og]; rfl
 have hl1 : t.levels[1]? = some (lv t 1) := by unfold lv; rw [A1 og]; rfl
 have hl2 : t.levels[2]? = some (lv t 2) := by unfold lv; rw [A1 og]; rfl
 refine wk (k2 (sd mixed rfl fun k5 => (Cq hl0 hl1 hl2) ((jr) ?_)))
 refine tp rfl rfl rfl ⟨func99, rfl, rfl⟩ (tV (lv t 0) 4 false t.seq (hzr 0 og)) oG oG ?_
 refine (Cq hl0 hl1 hl2) ((jr) ?_)
 refine tpg rfl rfl rfl rfl rfl rfl ⟨func99, rfl, rfl⟩ (fun hg => tV (lv t 1) 8 true t.seq (hzr 1 og)) oG (fun hg => oG) oG trivial ?_
 refine (Cq hl0 hl1 hl2) ((jr) ?_)
 refine tpg rfl rfl rfl rfl rfl rfl ⟨func99, rfl, rfl⟩ (fun hg => tV (lv t 2) 8 true t.seq (hzr 2 og)) oG (fun hg => oG) oG trivial ?_
 refine (Cq hl0 hl1 hl2) ((jr) ?_)
 refine tpg rfl rfl rfl rfl rfl rfl ⟨func100, rfl, rfl⟩ (fun hg => aPu t hs0 og) oG (fun hg => Af) Af trivial ?_
 refine (ja) ((jr) ((jy) (k5 (wR (fO ?_ trivial)))))
 simp only [go_sem, eH, hb, B9, if_false]
end
def lU (ls : List Entry) (i : Nat) : Bool := match ls[i]? with
  | some e => !(!bQ e || (decide (0 < (i : Int)) && !decide (e.seq = IntKind.i64.wrap ((bT ls i).seq + 1))))
  | none => true
def isB (ls : List Entry) : Bool := (List.range ls.length).all (lU ls) && (decide (1 <= (ls.length : Int)) && decide ((ls.length : Int) <= 12))
def aFv (n : Int) : ByteArray := ByteArray.empty.push (UInt8.ofNat (IntKind.u8.wrap (IntKind.i64.wrap (48 + n))).toNat)
def tU : Nat -> Int -> ByteArray -> ByteArray
  | 0, n, out => aFv n ++ out
  | f + 1, n, out => if 9 < n then tU f (n.tdiv 10) (aFv (n.tmod 10) ++ out) else aFv n ++ out
def aVx (n : Int) : ByteArray := tU 19 n ⟨#[]⟩
def dec (n : Int) : ByteArray := if n < 0 then ⟨#[45]⟩ ++ aVx (-n) else aVx n
def aCk : ∀ (f : Nat) (n : Int) (out : ByteArray), (tU f n out).size <= out.size + f + 1
  | 0, n, out => by simp only [tU, C7]; have : (aFv n).size = 1 := rfl; omega
  | f + 1, n, out => by
    unfold tU
    have h1 : ∀ m, (aFv m).size = 1 := fun _ => rfl
    split
    . have := aCk f (n.tdiv 10) (aFv (n.tmod 10) ++ out)
      rw [C7, h1] at this; omega
    rw [C7, h1]; omega
def gJ (n : Int) : (dec n).size <= 21 := by
  have h : ∀ m, (aVx m).size <= 20 := fun m => aCk 19 m ⟨#[]⟩
  unfold dec; split
  . rw [C7]; have := h (-n); have : (⟨#[45]⟩ : ByteArray).size = 1 := rfl; omega
  have := h n; omega
abbrev spB : ByteArray := ⟨#[32]⟩
abbrev nlB : ByteArray := ⟨#[10]⟩
def bP : spB.size = 1 := rfl
def mX : nlB.size = 1 := rfl
def pS (out : ByteArray) (e : Entry) : ByteArray := out ++ e.key ++ spB ++ dec e.seq ++ spB ++ dec e.kind ++ spB ++ dec e.n ++ spB ++ dec (e.text.size : Int) ++ spB ++ e.text
def bTx (ls : List Entry) : ByteArray := ls.foldl pS ⟨#[]⟩
def fTx (ls : List Entry) : ByteArray := if isB ls = true then dec ((bTx ls).size : Int) ++ spB ++ bTx ls ++ nlB else ⟨#[]⟩
def aGv (s : ByteArray) : Nat -> Nat -> Option Nat
  | 0, _ => none
  | f + 1, i => if aJ s i = 32 then some i else aGv s f (i + 1)
def jH (s : ByteArray) (at' : Nat) : ByteArray × Int := match aGv s (s.size - at') at' with
  | some i => (s.extract at' i, (i : Int) + 1)
  | none => (⟨#[]⟩, -1)
def aKd (s : ByteArray) : ∀ (f i j : Nat), aGv s f i = some j -> i <= j /\ j < i + f
  | 0, i, j, h => by cases h
  | f + 1, i, j, h => by
    unfold aGv at h; split at h
    . cases h; omega
    have := aKd s f (i + 1) j h; omega
def aZf (s : ByteArray) (a : Nat) : -1 <= (jH s a).2 /\ (jH s a).2 <= s.size := by
  unfold jH; split
  . rename_i i h
    have := aKd s _ _ _ h
    simp only
    omega
  simp only; omega
def nQ (s : ByteArray) (a b : Nat) (h : b <= s.size) : (s.extract a b).size = b - a := by
  rw [ByteArray.size_extract]; omega
def aMk (s : ByteArray) (a : Nat) : (jH s a).1.size <= s.size := by
  unfold jH; split
  . rename_i i h
    have := aKd s _ _ _ h
    simp only
    rw [ByteArray.size_extract]; omega
  exact A6 _
def lF (t : ByteArray) : Nat -> Option Int
  | 0 => some 0
  | i + 1 => match lF t i with
    | some n => if (decide (aJ t i < 48) || decide (57 < aJ t i)) = true then none else some (n * 10 + (aJ t i - 48))
    | none => none
def mL (t : ByteArray) : ∀ (i : Nat) (n : Int), lF t i = some n -> 0 <= n /\ n < 10 ^ i
  | 0, n, h => by cases h; simp
  | i + 1, n, h => by
    unfold lF at h; split at h
    . rename_i m hm
      split at h
      . cases h
      rename_i hd
      cases h
      have := mL t i m hm
      simp at hd; rw [Int.pow_succ]; omega
    cases h
def aYk {t : ByteArray} {i : Nat} (h : lF t i = none) : ∀ j, i <= j -> lF t j = none := by
  intro j hj
  induction j with
  | zero => have : i = 0 := by omega
            subst this; exact h
  | succ j ih =>
    by_cases e : i = j + 1
    . subst e; exact h
    unfold lF; rw [ih og]
def tG (s : ByteArray) : Bool := decide (0 < (s.size : Int)) && decide (aJ s 0 = 45)
def mJ (s : ByteArray) : ByteArray := if tG s = true then s.extract 1 s.size else s
def tW (t : ByteArray) (neg : Bool) : Bool := (decide ((t.size : Int) = 0) || decide (17 < (t.size : Int))) || (decide (aJ t 0 = 48) && (decide (1 < (t.size : Int)) || neg))
def aJo (s : ByteArray) : Option Int := if tW (mJ s) (tG s) = true then none else (lF (mJ s) (mJ s).size).map fun n => if tG s = true then -n else n
def aIz (s : ByteArray) : Int × Bool := match aJo s with
  | some n => (n, true)
  | none => (0, false)
def bN (s : ByteArray) (a : Int) : Int × Int := if a < 0 then (0, -1) else match aJo (jH s a.toNat).1 with
  | some n => (n, (jH s a.toNat).2)
  | none => (0, -1)
def vD (s : ByteArray) (a : Int) : -1 <= (bN s a).2 /\ (bN s a).2 <= s.size := by
  unfold bN; split
  . simp only; omega
  split
  . exact aZf s a.toNat
  simp only; omega
def bAo {s : ByteArray} {n : Int} (h : aJo s = some n) : -100000000000000000 < n /\ n < 100000000000000000 := by
  unfold aJo at h; split at h
  . cases h
  rename_i hb
  obtain ⟨m, hm, rfl⟩ := A8.1 h
  have h1 := mL _ _ _ hm
  have h2 : (mJ s).size <= 17 := by simp [tW] at hb; omega
  have h3 : (10 : Int) ^ (mJ s).size <= 10 ^ 17 := by
    have : (10 : Nat) ^ (mJ s).size <= 10 ^ 17 := Nat.pow_le_pow_right og h2
    exact_mod_cast this
  have h4 : (10 : Int) ^ 17 = 100000000000000000 := rfl
  split <;> omega
def qO (s : ByteArray) (a : Int) : -100000000000000000 < (bN s a).1 /\ (bN s a).1 < 100000000000000000 := by
  unfold bN; split
  . simp only; omega
  split
  . rename_i n h; exact bAo h
  simp only; omega
def iG : Entry := ⟨⟨#[]⟩, 0, 0, ⟨#[]⟩, 0⟩
def e1 (s : ByteArray) (a : Nat) := jH s a
def e2 (s : ByteArray) (a : Nat) := bN s (e1 s a).2
def e3 (s : ByteArray) (a : Nat) := bN s (e2 s a).2
def e4 (s : ByteArray) (a : Nat) := bN s (e3 s a).2
def e5 (s : ByteArray) (a : Nat) := bN s (e4 s a).2
def zP (s : ByteArray) (a : Nat) : Bool := (decide ((e5 s a).2 < 0) || decide ((e5 s a).1 < 0)) || decide ((s.size : Int) - (e5 s a).2 < (e5 s a).1)
def wV (s : ByteArray) (a : Nat) : Entry × Int := if zP s a = true then (iG, -1) else
  (⟨(e1 s a).1, (e2 s a).1, (e3 s a).1, s.extract (e5 s a).2.toNat ((e5 s a).2 + (e5 s a).1).toNat, (e4 s a).1⟩, (e5 s a).2 + (e5 s a).1)
def aLc (ls : List Entry) (hz : dB ls) : aB P 109 [.sl 5 (ls.map enA)] [] 0 (Nb (isB ls)) := by
 refine (pq 43 [.tmp 2] func109) ?_
 have hlen := hz.1
 refine (aj) ?_
 refine sq fun k2 => (aj) (wb ?_)
 refine wa ls.length (lU ls) (fun x => ([(0, .sl 5 (ls.map enA)), (3, Ni (x : Int))], [])) 0 [] ?_ ?_
 . exact jc
 rintro i ⟨hi, hall⟩
 refine sq fun k4 => (aj) ((cdB) ?_ ?_) <;> intro hc1
 . have hge := gec hc1
   refine we ((jt) (k2 ((aj) (wR ?_))))
   have h9 : isB ls = (decide (1 <= (ls.length : Int)) && decide ((ls.length : Int) <= 12)) := by unfold isB; rw [eU hge hall]; rfl
   exact fq h9
 obtain ⟨hlt, l, hl, hdrop, hml⟩ := ixc hc1
 have hw1 := wr ((i : Int) - 1) ((i : Int) - 1) og
 have hpn : ((i : Int) - 1).toNat = i - 1 := by omega
 have hpv : ls[i - 1]? = some (bT ls i) := by unfold bT; rw [A1 og]; rfl
 refine wk (k4 (sq fun k6 => wb (sd mixed rfl fun k7 => (Bb hl hw1 hpn hpv) ((jr) ?_))))
 refine tp rfl rfl rfl ⟨func107, rfl, rfl⟩ (yH l (hz.2 l hml)) Ah Ah ?_
 refine (Bb hl hw1 hpn hpv) ((jr) ((jy) (k7 ((cdA) ?_ ?_)))) <;> intro hc2
 . have hp : lU ls i = false := by unfold lU; rw [hl]; simp only [hc2]; rfl
   refine (aj) (wR ((Ad) ?_))
   have h9 : isB ls = false := by unfold isB; rw [gR hlt hp]; rfl
   exact fq h9
 have hp : lU ls i = true := by unfold lU; rw [hl]; simp only [hc2]; rfl
 refine wk ((jt) (k6 ((jw (wiS i og)) ((jt) ?_))))
 refine ⟨i + 1, ⟨og, bV hall hp⟩, og, [], ?_⟩
 exact jo
def zB (n : Int) (h0 : 0 <= n) (hn : n < 1000000000000000000) : aB P 110 [Ni n] [] 0 (Ns (aVx n)) := by
 refine (pq 31 [.tmp 2] func110) ?_
 have hmx := mxl
 have hd1 : ∀ m, ByteArray.empty.push (UInt8.ofNat (IntKind.u8.wrap (IntKind.i64.wrap (48 + m))).toNat) = aFv m := fun _ => rfl
 have hds : ∀ m, (aFv m).size = 1 := fun _ => rfl
 refine (aj) ?_
 refine sq fun k2 => (aj) ((cdA) ?_ ?_) <;> intro hc1
 . exfalso; simp at hc1; omega
 refine wk (k2 (sq fun k4 => (aj) ((cdA) ?_ ?_))) <;> intro hc2
 . exfalso; simp at hc2; omega
 refine wk (k4 ((aj) ?_))
 refine sq fun k7 => wb ?_
 refine wl (α := Nat × Int × ByteArray) (fun x => 0 <= x.2.1 /\ x.2.1 < 10 ^ (x.1 + 1) /\ x.2.2.size + x.1 <= 20 /\ x.2.1 < 1000000000000000000 /\ tU x.1 x.2.1 x.2.2 = aVx n) (fun x => x.2.1.toNat) (fun x => ([(0, Ni x.2.1), (3, Ns x.2.2)], [])) 0 (19, n, ⟨#[]⟩) ⟨by simp only; omega, by simp only; omega, by simp [ByteArray.size], hn, rfl⟩ [] ?_ ?_
 . exact jc
 rintro ⟨f, m, out⟩ ⟨hm0, hmf, hsz, hmk, hd⟩
 simp only at hm0 hmf hsz hmk hd ⊢
 refine sq fun k8 => (aj) ((cdB) ?_ ?_) <;> intro hc3
 . have hle : ¬ 9 < m := by simpa using hc3
   have hd0 : tU f m out = aFv m ++ out := by cases f with | zero => rfl | succ g => rw [tU, if_neg hle]
   rw [hd0] at hd
   have hds1 := hds m
   refine we ((jt) (k7 (sr rfl fun k11 => (Aa hd1) ((jr) ?_))))
   refine vC (fun hN => uF (n := IntKind.u8.wrap (IntKind.i64.wrap (48 + m))) rfl rfl hN FB.1 FB.2.1 FB.2.2 rfl rfl) (.inl rfl) ?_
   exact (Aa hd1) ((jr) (k11 (wR (fq hd))))
 have hpos : 9 < m := by simpa using hc3
 obtain ⟨g, rfl⟩ : ∃ g, f = g + 1 := by
   cases f with
   | zero => simp at hmf; omega
   | succ g => exact ⟨g, rfl⟩
 have hq : m.tdiv 10 = m / 10 := H9 og
 have hwq : IntKind.i64.wrap (m.tdiv 10) = m.tdiv 10 := by rw [IntKind.wrap_i64, hq]; omega
 have hds1 := hds (m.tmod 10)
 have hstep : tU (g + 1) m out = tU g (m.tdiv 10) (aFv (m.tmod 10) ++ out) := by rw [tU, if_pos hpos]
 refine wk (k8 (wb (sr rfl fun k10 => (Aa hd1) ((jr) ?_))))
 refine vC (fun hN => uF (n := IntKind.u8.wrap (IntKind.i64.wrap (48 + m.tmod 10))) rfl rfl hN FB.1 FB.2.1 FB.2.2 rfl rfl) (.inl rfl) ?_
 refine (Aa hd1) ((jr) (k10 (wg rfl ((Aa hwq) ((jt) ((jt) ?_))))))
 refine ⟨(g, m.tdiv 10, aFv (m.tmod 10) ++ out), ⟨by simp only; omega, by
   simp only
   rw [hq]
   have h9 : m < 10 ^ (g + 1) * 10 := by rw [<- Int.pow_succ]; exact hmf
   omega, by simp only [C7]; omega, by simp only; omega, by rw [<- hd, hstep]⟩, by simp only; omega, [], ?_⟩
 exact jo
def aLo (n : Int) (h0 : -1000000000000000000 < n) (hn : n < 0) : aB P 110 [Ni n] [] 0 (Ns (dec n)) := by
 refine (pq 31 [.tmp 2] func110) ?_
 have hmx := mxl
 have hw := wr (-n) (-n) og
 have hsz := aCk 19 (-n) ⟨#[]⟩
 have hsz0 : (⟨#[]⟩ : ByteArray).size = 0 := rfl
 have hsz1 : (#[(45 : UInt8)] : Array UInt8).size = 1 := rfl
 have hszp : (aVx (-n)).size <= 20 := hsz
 have h9 : dec n = ⟨#[45]⟩ ++ aVx (-n) := by unfold dec; rw [if_pos hn]
 refine (aj) ?_
 refine sq fun k2 => (aj) ((cdA) ?_ ?_) <;> intro hc1
 . exfalso; simp at hc1; omega
 refine wk (k2 (sq fun k4 => (aj) ((cdB) ?_ ?_))) <;> intro hc2
 . exfalso; simp at hc2; omega
 refine sr rfl fun k6 => (Aa hw) ((vq func110 (zB (-n) og og)) ?_)
 repeat (first | refine ⟨og, ?_⟩ | refine ⟨fun hg => by (try simp at hg); omega, ?_⟩)
 exact k6 (wR (fq h9))
def mS (n : Int) (h0 : -1000000000000000000 < n) (hn : n < 1000000000000000000) : aB P 110 [Ni n] [] 0 (Ns (dec n)) := by
  by_cases hneg : n < 0
  . exact aLo n h0 hneg
  have h9 : dec n = aVx n := by unfold dec; rw [if_neg hneg]
  rw [h9]
  exact zB n og hn
def gM {e : Entry} (h : bQ e = true) : 1 <= e.seq /\ e.seq <= 100000 /\ 1 <= e.kind /\ e.kind <= 3 /\ -1000000 <= e.n /\ e.n <= 1000000 /\ e.text.size <= 60 /\ e.key.size <= 8 := by
  unfold bQ at h; split at h
  . cases h
  rename_i hb
  simp [jP, nK, jG] at hb
  have hk : 1 <= e.kind /\ e.kind <= 3 := by
    split at h
    . omega
    split at h
    . omega
    split at h
    . omega
    cases h
  omega
def dF {ls : List Entry} (h : isB ls = true) : (∀ e ∈ ls, bQ e = true) /\ 1 <= ls.length /\ ls.length <= 12 := by
  simp [isB] at h
  refine ⟨fun e he => ?_, og, og⟩
  obtain ⟨i, hi⟩ := G5 he
  have := h.1 i (A9.1 hi).1
  unfold lU at this; rw [hi] at this; simp at this
  exact this.1
def aIg (out : ByteArray) (e : Entry) : (pS out e).size <= out.size + e.key.size + e.text.size + 89 := by
  have h1 := gJ e.seq
  have h2 := gJ e.kind
  have h3 := gJ e.n
  have h4 := gJ (e.text.size : Int)
  simp only [pS, C7, bP]; omega
def sV : ∀ (ls : List Entry) (out : ByteArray), (∀ e ∈ ls, e.text.size <= 60 /\ e.key.size <= 8) -> (ls.foldl pS out).size <= out.size + 157 * ls.length
  | [], out, _ => by simp
  | e :: r, out, h => by
    have h1 := aIg out e
    have h2 := h e A5
    have h3 := sV r (pS out e) fun x hx => h x (A4 _ hx)
    simp only [List.foldl_cons, B7]; omega
def lV (s : ByteArray) : Nat -> Int -> List Entry -> List Entry
  | 0, _, out => out
  | f + 1, a, out => if ((decide (0 <= a) && decide (a < (s.size : Int))) && decide ((out.length : Int) <= 12)) = true then lV s f (wV s a.toNat).2 (out ++ [(wV s a.toNat).1]) else out
def aIo (s : ByteArray) : List Entry := lV s 14 0 []
def bOr (s : ByteArray) (a : Nat) : -1 <= (wV s a).2 /\ (wV s a).2 <= s.size := by
  unfold wV; split
  . simp only; omega
  rename_i h
  have h1 := vD s (e4 s a).2
  have h2 : e5 s a = bN s (e4 s a).2 := rfl
  simp [zP] at h
  rw [h2] at h ⊢
  simp only
  omega
def bNu (s : ByteArray) (hs : s.size <= 1048576) (a : Nat) : (wV s a).1.key.size <= 1048576 /\ (wV s a).1.text.size <= 1048576 := by
  unfold wV; split
  . exact ⟨by decide, by decide⟩
  have h1 := aMk s a
  refine ⟨?_, ?_⟩
  . show (e1 s a).1.size <= _
    unfold e1; omega
  simp only [ByteArray.size_extract]; omega
def aQv (s : ByteArray) (hs : s.size <= 1048576) : ∀ (f : Nat) (a : Int) (out : List Entry), (∀ e ∈ out, e.key.size <= 1048576 /\ e.text.size <= 1048576) -> out.length <= 13 -> (∀ e ∈ lV s f a out, e.key.size <= 1048576 /\ e.text.size <= 1048576) /\ (lV s f a out).length <= 13
  | 0, a, out, h, hl => ⟨h, hl⟩
  | f + 1, a, out, h, hl => by
    unfold lV; split
    . rename_i hc
      simp at hc
      refine aQv s hs f _ _ (fun e he => ?_) (by simp; omega)
      rcases B4.1 he with h1 | h1
      . exact h e h1
      rw [B6.1 h1]; exact bNu s hs _
    exact ⟨h, hl⟩
def bJj {s : ByteArray} (hs : s.size <= 1048576) : gY (aIo s) := by
  have := aQv s hs 14 0 [] oS oS
  exact ⟨by have := this.2; show (lV s 14 0 []).length <= _; omega, this.1⟩
def jJ (s : ByteArray) (a : Nat) : Bool := (decide ((bN s (a : Int)).2 < 0) || decide ((bN s (a : Int)).1 < 0)) || decide ((s.size : Int) - (bN s (a : Int)).2 - 1 < (bN s (a : Int)).1)
def pB (s : ByteArray) (a : Nat) : List Entry := aIo (s.extract (bN s (a : Int)).2.toNat ((bN s (a : Int)).2 + (bN s (a : Int)).1).toNat)
def bF (s : ByteArray) (a : Nat) : List Entry × Int := if jJ s a = true then ([], -1) else
  if (!((fTx (pB s a)).toList == (s.extract a ((bN s (a : Int)).2 + (bN s (a : Int)).1 + 1).toNat).toList)) = true then ([], -1) else (pB s a, (bN s (a : Int)).2 + (bN s (a : Int)).1 + 1)
def aAf (s : ByteArray) (a : Nat) : -1 <= (bF s a).2 /\ (bF s a).2 <= s.size := by
  unfold bF; split
  . simp only; omega
  rename_i h
  simp [jJ] at h
  split
  . simp only; omega
  simp only; omega
def hP (s : ByteArray) : Nat -> Nat -> List (List Entry) -> List (List Entry) × Int
  | 0, a, out => (out, a)
  | f + 1, a, out => if a < s.size then (if (bF s a).2 < 0 then (out, a) else hP s f (bF s a).2.toNat (out ++ [(bF s a).1])) else (out, a)
def dY (s : ByteArray) : List (List Entry) × Int := hP s s.size 0 []
def aOl (s : ByteArray) : (mJ s).size <= s.size := by
  unfold mJ; split
  . rw [ByteArray.size_extract]; omega
  exact A0 _
def aYo {s : ByteArray} (h : tW (mJ s) (tG s) = true) : aIz s = (0, false) := by
  have : aJo s = none := by unfold aJo; rw [if_pos h]
  unfold aIz; rw [this]
def bEr {s : ByteArray} (h : tW (mJ s) (tG s) = false) : aIz s = match lF (mJ s) (mJ s).size with
    | some n => (if tG s = true then -n else n, true)
    | none => (0, false) := by
  unfold aIz aJo; rw [h]; simp only [B9, if_false]
  cases lF (mJ s) (mJ s).size with
  | none => rfl
  | some n => rfl
def bOh (s : ByteArray) : (aIz s).2 = false -> aJo s = none := by
  unfold aIz; split
  . intro h; cases h
  intro _; assumption
def bGt {s : ByteArray} (h : (aIz s).2 = true) : aJo s = some (aIz s).1 := by
  unfold aIz at h ⊢
  split
  . assumption
  rename_i hn; rw [hn] at h; cases h
def vO (ls : List Entry) (hz : dB ls) : aB P 64 [.sl 5 (ls.map enA)] [] 0 (Ns (fTx ls)) := by
 refine (pq 55 [.tmp 2] func64) ?_
 have hlen := hz.1
 have hs32 : (#[(32 : UInt8)] : Array UInt8).size = 1 := rfl
 have hs10 : (#[(10 : UInt8)] : Array UInt8).size = 1 := rfl
 refine (aj) ?_
 refine sq fun k2 => sr rfl fun k3 => (ja) ((vq func109 (aLc ls hz)) (k3 ((cdA) ?_ ?_))) <;> intro hc1
 . have hb : isB ls = false := by simpa using hc1
   refine (aj) (wR ?_)
   refine fO ?_ trivial; simp only [go_sem, fTx, hb, B9, if_false]
 have hb : isB ls = true := by simpa using hc1
 obtain ⟨hok, hb1, hb2⟩ := dF hb
 refine wk (k2 ((aj) ?_))
 refine sq fun k6 => (aj) (wb ?_)
 refine wl (α := Nat × ByteArray) (fun x => x.1 <= ls.length /\ x.2.size <= 157 * x.1 /\ (ls.drop x.1).foldl pS x.2 = bTx ls) (fun x => ls.length - x.1) (fun x => ([(0, .sl 5 (ls.map enA)), (3, Ns x.2), (4, Ni (x.1 : Int))], [])) 0 (0, ⟨#[]⟩) ⟨A6 _, A0 _, rfl⟩ [] ?_ ?_
 . exact jc
 rintro ⟨i, out⟩ ⟨hi, hsz, hfold⟩
 simp only at hi hsz hfold ⊢
 refine sq fun k8 => (aj) ((cdB) ?_ ?_) <;> intro hc2
 . have hge := gec hc2
   have hie : i = ls.length := by omega
   subst hie
   refine we ((jt) (k6 (sr rfl fun k12 => (ja) ?_)))
   repeat (first | refine ⟨og, ?_⟩ | refine ⟨by simp only [C7, bP, mX]; omega, ?_⟩)
   refine (vq func110 (mS (out.size : Int) og og)) ?_
   have hd9 := gJ (out.size : Int)
   repeat (first | refine ⟨og, ?_⟩ | refine ⟨by simp only [C7, bP, mX]; omega, ?_⟩)
   refine k12 (wR ?_)
   rw [List.drop_length] at hfold
   have h9 : bTx ls = out := hfold.symm
   refine fO ?_ trivial; simp only [go_sem, fTx, hb, if_true, h9]
 obtain ⟨hlt, l, hl, hdrop, hml⟩ := ixc hc2
 obtain ⟨r1, r2, r3, r4, r5, r6, r7, r8⟩ := gM (hok l hml)
 have hd0 := gJ (l.seq)
 have hd1 := gJ (l.kind)
 have hd2 := gJ (l.n)
 have hd3 := gJ ((l.text.size : Int))
 refine wk (k8 (sq fun k10 => wb (sr rfl fun k11 => (Ap hl) ?_)))
 repeat (first | refine ⟨og, ?_⟩ | refine ⟨fun hg => by (try simp at hg); omega, ?_⟩ | refine ⟨fun hg => by push_cast at hg; omega, ?_⟩)
 apply k11
 refine jF mixed rfl ?_
 refine (Ap hl) ?_
 repeat (first | refine ⟨og, ?_⟩ | refine ⟨by simp only [C7, bP, mX]; omega, ?_⟩)
 refine tp rfl rfl rfl ⟨func110, rfl, rfl⟩ (mS l.seq og og) oG oG ?_
 refine (Ap hl) ?_
 repeat (first | refine ⟨og, ?_⟩ | refine ⟨by simp only [C7, bP, mX]; omega, ?_⟩)
 refine tp rfl rfl rfl ⟨func110, rfl, rfl⟩ (mS l.kind og og) oG oG ?_
 refine (Ap hl) ?_
 repeat (first | refine ⟨og, ?_⟩ | refine ⟨by simp only [C7, bP, mX]; omega, ?_⟩)
 refine tp rfl rfl rfl ⟨func110, rfl, rfl⟩ (mS l.n og og) oG oG ?_
 refine (Ap hl) ?_
 repeat (first | refine ⟨og, ?_⟩ | refine ⟨by simp only [C7, bP, mX]; omega, ?_⟩)
 refine tp rfl rfl rfl ⟨func110, rfl, rfl⟩ (mS (l.text.size : Int) og og) oG oG ?_
 refine (Ap hl) ?_
 repeat (first | refine ⟨og, ?_⟩ | refine ⟨by simp only [C7, bP, mX]; omega, ?_⟩)
 refine (jy) ((jt) (k10 ((jw (wiS i og)) ((jt) ?_))))
 refine ⟨(i + 1, pS out l), ⟨og, by have := aIg out l; simp only; omega, by rw [hdrop] at hfold; exact hfold⟩, og, [], ?_⟩
 simp only [go_sem, pS] <;> simp
def aBm (s : ByteArray) (a : Nat) (ha : a <= s.size) (hs : s.size <= 1048576) : aB P 219 [Ns s, Ni (a : Int)] [] 0 (.tup [.raw (.string (jH s a).1), .raw (.int .i64 (jH s a).2)]) := by
 refine (pq 24 [.tmp 4, .tmp 5] func219) ((aj) ?_)
 refine sq fun k2 => (aj) (wb ?_)
 refine wl (α := Nat) (fun x => a <= x /\ x <= s.size /\ aGv s (s.size - x) x = aGv s (s.size - a) a) (fun x => s.size - x) (fun x => ([(0, Ns s), (1, Ni (a : Int)), (6, Ni (x : Int))], [])) 0 a ⟨A0 _, ha, rfl⟩ [] ?_ ?_
 . exact jo
 rintro i ⟨hai, hi, hgo⟩
 refine sq fun k4 => (aj) ((cdB) ?_ ?_) <;> intro hc1
 . have hge : i = s.size := by have h9 : ¬ i < s.size := (by simpa using hc1); omega
   subst hge; rw [Nat.sub_self] at hgo
   have hno : aGv s (s.size - a) a = none := hgo.symm
   refine we ((jt) (k2 ((aj) (wR ?_))))
   have h9 : jH s a = (⟨#[]⟩, -1) := by unfold jH; rw [hno]
   refine fO ?_ ⟨trivial, trivial, trivial⟩
   exact Ab h9
 have hlt : i < s.size := by simpa using hc1
 have hst : aGv s (s.size - i) i = if aJ s i = 32 then some i else aGv s (s.size - (i + 1)) (i + 1) := by
   have e9 : s.size - i = (s.size - (i + 1)) + 1 := by omega
   rw [e9]; rfl
 refine wk (k4 (sq fun k6 => wb (sr rfl fun k7 => (ja) ?_)))
 repeat (first | refine ⟨og, ?_⟩ | refine ⟨fun hg => by (try simp at hg); omega, ?_⟩ | refine ⟨fun hg => by push_cast at hg; omega, ?_⟩)
 refine k7 ((cdA) ?_ ?_) <;> intro hc2
 . have h32 : aJ s i = 32 := by simpa using hc2
   have hyes : aGv s (s.size - a) a = some i := by rw [<- hgo, hst, if_pos h32]
   have hw5 := wr ((i : Int) + 1) ((i : Int) + 1) og
   refine sr rfl fun k8 => ?_
   simp only [go_sem, hw5, Int.toNat_natCast]
   repeat (first | refine ⟨og, ?_⟩ | refine ⟨fun hg => by (try simp at hg); omega, ?_⟩ | refine ⟨fun hg => by push_cast at hg; omega, ?_⟩)
   refine k8 (wR ((Ad) ?_))
   have h9 : jH s a = (s.extract a i, (i : Int) + 1) := by unfold jH; rw [hyes]
   refine fO ?_ ⟨trivial, trivial, trivial⟩
   exact Ab h9
 have h32 : ¬ aJ s i = 32 := by simpa using hc2
 refine wk ((jt) (k6 ((jw (wiS i og)) ((jt) ?_))))
 refine ⟨i + 1, ⟨og, og, by rw [<- hgo, hst, if_neg h32]⟩, og, [], ?_⟩
 exact jo
def aVi (s : ByteArray) (hs : s.size <= 1048576) : aB P 220 [Ns s] [] 0 (.tup [.raw (.int .i64 (aIz s).1), .raw (.bool (aIz s).2)]) := by
 refine (pq 67 [.tmp 2, .tmp 3] func220) ((aj) ?_)
 refine sr rfl fun k2 => ?_
 simp only [go_sem, tn0]
 repeat (first | refine ⟨og, ?_⟩ | refine ⟨fun hg => by (try simp at hg); omega, ?_⟩ | refine ⟨fun hg => by push_cast at hg; omega, ?_⟩)
 refine k2 (sq fun k3 => (aj) ((cdB) ?_ ?_)) <;> intro hc1
 . have hn : tG s = false := hc1
   refine wk (k3 (sq fun k20 => ?_))
   obtain ⟨t, ht, ht2⟩ : ∃ t, t = mJ s /\ (if tG s = true then s.extract 1 s.size else s) = t := ⟨_, rfl, rfl⟩
   have htz : t.size <= 1048576 := by have := aOl s; rw [<- ht] at this; omega
   rw [hn] at ht2
   simp only [if_true, B9, if_false] at ht2
   simp only [hc1]; rw [ht2]
   refine sr rfl fun k21 => ?_
   simp only [go_sem, tn0]
   repeat (first | refine ⟨og, ?_⟩ | refine ⟨fun hg => by (try simp at hg); omega, ?_⟩ | refine ⟨fun hg => by push_cast at hg; omega, ?_⟩)
   refine k21 ((cdA) ?_ ?_) <;> intro hc6
   . have hz := aYo (s := s) (by rw [<- ht, hn]; simpa [tW] using hc6)
     refine (aj) (wR ?_)
     refine fO ?_ ⟨trivial, trivial, trivial⟩
     simp only [go_sem, <- ht2, hz]
   have hgo := bEr (s := s) (by rw [<- ht, hn]; simpa [tW] using hc6)
   rw [<- ht] at hgo
   have h17 : t.size <= 17 := by simp at hc6; omega
   refine wk (k20 ((aj) ?_))
   refine sq fun k24 => (aj) (wb ?_)
   refine wl (α := Nat × Int) (fun x => x.1 <= t.size /\ lF t x.1 = some x.2) (fun x => t.size - x.1) (fun x => ([(0, Ns t), (4, Nb false), (5, Ni x.2), (6, Ni (x.1 : Int))], [])) 0 (0, 0) ⟨A6 _, rfl⟩ [] ?_ ?_
   . exact jc
   rintro ⟨i, n⟩ ⟨hi, hnum⟩
   simp only at hi hnum ⊢
   refine sq fun k26 => (aj) ((cdB) ?_ ?_) <;> intro hc7
   . have hie : i = t.size := by have h9 : ¬ i < t.size := (by simpa using hc7); omega
     subst hie
     obtain ⟨hr0, hr1⟩ := mL t t.size n hnum
     have hr2 : (10 : Int) ^ t.size <= 10 ^ 17 := by have : (10 : Nat) ^ t.size <= 10 ^ 17 := Nat.pow_le_pow_right og og
                                                     exact_mod_cast this
     have hr3 : (10 : Int) ^ 17 = 100000000000000000 := rfl
     rw [hnum, hn] at hgo
     refine we ((jt) (k24 (sq fun k32 => (aj) ((cdA) (fun hc => by simp at hc) fun hc9 => ?_))))
     refine wk (k32 ((aj) (wR ?_)))
     refine fO ?_ ⟨trivial, trivial, trivial⟩
     simp only [go_sem, <- ht2, hgo, if_true, B9, if_false]
   have hlt : i < t.size := by simpa using hc7
   obtain ⟨hr0, hr1⟩ := mL t i n hnum
   have hr2 : (10 : Int) ^ i <= 10 ^ 17 := by have : (10 : Nat) ^ i <= 10 ^ 17 := Nat.pow_le_pow_right og og
                                              exact_mod_cast this
   have hr3 : (10 : Int) ^ 17 = 100000000000000000 := rfl
   have hbr := nR t i
   refine wk (k26 (sq fun k28 => wb (sq fun k29 => sr rfl fun k30 => (ja) ?_)))
   repeat (first | refine ⟨og, ?_⟩ | refine ⟨fun hg => by (try simp at hg); omega, ?_⟩ | refine ⟨fun hg => by push_cast at hg; omega, ?_⟩)
   refine k30 ((cdA) ?_ ?_) <;> intro hc8
   . have hno : lF t (i + 1) = none := by rw [lF, hnum]; simp only []; rw [if_pos hc8]
     rw [aYk hno t.size og] at hgo
     refine (aj) (wR ((Ad) ?_))
     refine fO ?_ ⟨trivial, trivial, trivial⟩
     simp only [go_sem, <- ht2, hgo]
   have hst : lF t (i + 1) = some (n * 10 + (aJ t i - 48)) := by rw [lF, hnum]; simp only []; rw [if_neg (by rw [hc8]; simp)]
   have hd48 : 48 <= aJ t i /\ aJ t i <= 57 := by simp at hc8; omega
   have hw1 := wr (n * 10) (n * 10) og
   have hw2 : IntKind.u8.wrap (aJ t i - 48) = aJ t i - 48 := by rw [IntKind.wrap_u8]; omega
   have hw3 := wr (aJ t i - 48) (aJ t i - 48) og
   have hw4 := wr (n * 10 + (aJ t i - 48)) (n * 10 + (aJ t i - 48)) og
   refine wk (k29 (wg rfl ((Ax hw1 hw2 hw3 hw4) ?_)))
   repeat (first | refine ⟨og, ?_⟩ | refine ⟨fun hg => by (try simp at hg); omega, ?_⟩ | refine ⟨fun hg => by push_cast at hg; omega, ?_⟩)
   refine (jt) (k28 ((jw (wiS i og)) ((jt) ?_)))
   refine ⟨(i + 1, n * 10 + (aJ t i - 48)), ⟨og, hst⟩, og, [], ?_⟩
   exact jo
 have hn : tG s = true := hc1
 have hp1 : 1 <= s.size := by simp only [C8, decide_eq_true_eq] at hc1; omega
 refine wg rfl ?_; simp only [go_sem, tn1, Int.toNat_natCast]
 repeat (first | refine ⟨og, ?_⟩ | refine ⟨fun hg => by (try simp at hg); omega, ?_⟩ | refine ⟨fun hg => by push_cast at hg; omega, ?_⟩)
 refine k3 (sq fun k5 => ?_)
 obtain ⟨t, ht, ht2⟩ : ∃ t, t = mJ s /\ (if tG s = true then s.extract 1 s.size else s) = t := ⟨_, rfl, rfl⟩
 have htz : t.size <= 1048576 := by have := aOl s; rw [<- ht] at this; omega
 rw [hn] at ht2
 simp only [if_true, B9, if_false] at ht2
 simp only [hc1]; rw [ht2]
 refine sr rfl fun k6 => ?_
 simp only [go_sem, tn0]
 repeat (first | refine ⟨og, ?_⟩ | refine ⟨fun hg => by (try simp at hg); omega, ?_⟩ | refine ⟨fun hg => by push_cast at hg; omega, ?_⟩)
 refine k6 ((cdA) ?_ ?_) <;> intro hc2
 . have hz := aYo (s := s) (by rw [<- ht, hn]; simpa [tW] using hc2)
   refine (aj) (wR ?_)
   refine fO ?_ ⟨trivial, trivial, trivial⟩
   exact Ab hz
 have hgo := bEr (s := s) (by rw [<- ht, hn]; simpa [tW] using hc2)
 rw [<- ht] at hgo
 have h17 : t.size <= 17 := by simp at hc2; omega
 refine wk (k5 ((aj) ?_))
 refine sq fun k9 => (aj) (wb ?_)
 refine wl (α := Nat × Int) (fun x => x.1 <= t.size /\ lF t x.1 = some x.2) (fun x => t.size - x.1) (fun x => ([(0, Ns t), (4, Nb true), (5, Ni x.2), (6, Ni (x.1 : Int))], [])) 0 (0, 0) ⟨A6 _, rfl⟩ [] ?_ ?_
 . exact jc
 rintro ⟨i, n⟩ ⟨hi, hnum⟩
 simp only at hi hnum ⊢
 refine sq fun k11 => (aj) ((cdB) ?_ ?_) <;> intro hc3
 . have hie : i = t.size := by have h9 : ¬ i < t.size := (by simpa using hc3); omega
   subst hie
   obtain ⟨hr0, hr1⟩ := mL t t.size n hnum
   have hr2 : (10 : Int) ^ t.size <= 10 ^ 17 := by have : (10 : Nat) ^ t.size <= 10 ^ 17 := Nat.pow_le_pow_right og og
                                                   exact_mod_cast this
   have hr3 : (10 : Int) ^ 17 = 100000000000000000 := rfl
   rw [hnum, hn] at hgo
   refine we ((jt) (k9 (sq fun k17 => (aj) ?_)))
   refine cd rfl (fun hc5 => ?_) (fun hc => by simp at hc)
   have hw5 := wr (-n) (-n) og
   refine wg rfl ((Aa hw5) (k17 ((aj) (wR ?_))))
   refine fO ?_ ⟨trivial, trivial, trivial⟩
   simp only [go_sem, hgo, if_true, B9, if_false]
 have hlt : i < t.size := by simpa using hc3
 obtain ⟨hr0, hr1⟩ := mL t i n hnum
 have hr2 : (10 : Int) ^ i <= 10 ^ 17 := by have : (10 : Nat) ^ i <= 10 ^ 17 := Nat.pow_le_pow_right og og
                                            exact_mod_cast this
 have hr3 : (10 : Int) ^ 17 = 100000000000000000 := rfl
 have hbr := nR t i
 refine wk (k11 (sq fun k13 => wb (sq fun k14 => sr rfl fun k15 => (ja) ?_)))
 repeat (first | refine ⟨og, ?_⟩ | refine ⟨fun hg => by (try simp at hg); omega, ?_⟩ | refine ⟨fun hg => by push_cast at hg; omega, ?_⟩)
 refine k15 ((cdA) ?_ ?_) <;> intro hc4
 . have hno : lF t (i + 1) = none := by rw [lF, hnum]; simp only []; rw [if_pos hc4]
   rw [aYk hno t.size og] at hgo
   refine (aj) (wR ((Ad) ?_))
   refine fO ?_ ⟨trivial, trivial, trivial⟩
   exact Ab hgo
 have hst : lF t (i + 1) = some (n * 10 + (aJ t i - 48)) := by rw [lF, hnum]; simp only []; rw [if_neg (by rw [hc4]; simp)]
 have hd48 : 48 <= aJ t i /\ aJ t i <= 57 := by simp at hc4; omega
 have hw1 := wr (n * 10) (n * 10) og
 have hw2 : IntKind.u8.wrap (aJ t i - 48) = aJ t i - 48 := by rw [IntKind.wrap_u8]; omega
 have hw3 := wr (aJ t i - 48) (aJ t i - 48) og
 have hw4 := wr (n * 10 + (aJ t i - 48)) (n * 10 + (aJ t i - 48)) og
 refine wk (k14 (wg rfl ((Ax hw1 hw2 hw3 hw4) ?_)))
 repeat (first | refine ⟨og, ?_⟩ | refine ⟨fun hg => by (try simp at hg); omega, ?_⟩ | refine ⟨fun hg => by push_cast at hg; omega, ?_⟩)
 refine (jt) (k13 ((jw (wiS i og)) ((jt) ?_)))
 refine ⟨(i + 1, n * 10 + (aJ t i - 48)), ⟨og, hst⟩, og, [], ?_⟩
 exact jo
def nF (s : ByteArray) (a : Int) (h0 : -1 <= a) (ha : a <= s.size) (hs : s.size <= 1048576) : aB P 197 [Ns s, Ni a] [] 0 (.tup [.raw (.int .i64 (bN s a).1), .raw (.int .i64 (bN s a).2)]) := by
 refine (pq 27 [.tmp 4, .tmp 5] func197) ((aj) ?_)
 refine sq fun k2 => (aj) ((cdA) ?_ ?_) <;> intro hc1
 . have hn : a < 0 := by simpa using hc1
   have h9 : bN s a = (0, -1) := by unfold bN; rw [if_pos hn]
   refine (aj) (wR ?_)
   refine fO ?_ ⟨trivial, trivial, trivial⟩
   exact Ab h9
 have hn : ¬ a < 0 := by simpa using hc1
 have hto : ((a.toNat : Nat) : Int) = a := by omega
 refine wk (k2 (sr rfl fun k5 => (ja) ?_))
 refine (vr rfl rfl rfl func219 (aBm s a.toNat og hs) (Ab hto) oG) (k5 (sr rfl fun k6 => (ja) ((vq func220 (aVi (jH s a.toNat).1 (by have := aMk s a.toNat; omega))) (k6 (sq fun k7 => (aj) ((cdA) ?_ ?_)))))) <;> intro hc2
 . have hv := bOh (jH s a.toNat).1 (by simpa using hc2)
   have h9 : bN s a = (0, -1) := by unfold bN; rw [if_neg hn, hv]
   refine (aj) (wR ?_)
   refine fO ?_ ⟨trivial, trivial, trivial⟩
   exact Ab h9
 have hv := bGt (s := (jH s a.toNat).1) (by simpa using hc2)
 have h9 : bN s a = ((aIz (jH s a.toNat).1).1, (jH s a.toNat).2) := by unfold bN; rw [if_neg hn, hv]
 refine wk (k7 ((aj) (wR ?_)))
 refine fO ?_ ⟨trivial, trivial, trivial⟩
 exact Ab h9
def aYd (s : ByteArray) (a : Nat) (h : 0 <= (bN s (a : Int)).2) : (a : Int) < (bN s (a : Int)).2 := by
  unfold bN at h ⊢
  have ha : ¬ (a : Int) < 0 := by omega
  rw [if_neg ha] at h ⊢
  rw [Int.toNat_natCast] at h ⊢
  split
  . rename_i n hn
    rw [hn] at h
    simp only at h ⊢
    unfold jH at h ⊢
    split
    . rename_i i hi
      have := aKd s _ _ _ hi
      simp only
      omega
    rename_i hi
    rw [hi] at h; simp at h
  rename_i hn
  rw [hn] at h; simp at h
def vL (s : ByteArray) (a : Nat) (h : 0 <= (bF s a).2) : (a : Int) < (bF s a).2 := by
  unfold bF at h ⊢
  split
  . rename_i hb; rw [if_pos hb] at h; simp at h
  rename_i hb
  rw [if_neg hb] at h; split
  . rename_i hc; rw [if_pos hc] at h; simp at h
  simp [jJ] at hb
  have := aYd s a og
  simp only
  omega
def aXl {ls : List Entry} (h : gY ls) : dB ls := ⟨by have := h.1; omega, fun e he => ⟨by have := (h.2 e he).1; omega, by have := (h.2 e he).2; omega⟩⟩
def jB (seq : Int) (st : List Entry × Int) (e : Entry) : List Entry × Int := if seq < e.seq then (gD st.1 e, max st.2 e.seq) else st
def mB (seq : Int) (st : List Entry × Int) (b : List Entry) : List Entry × Int := b.foldl (jB seq) st
def wH (bs : List (List Entry)) (seq : Int) : List Entry × Int := bs.foldl (mB seq) ([], seq)
def aCe (ls : List Entry) (e : Entry) : (gD ls e).length = ls.length + 1 := by
  have := aWe ls e ls.length
  unfold gD aCu; simp only [A3, A7, B7, B0]; omega
def jW (b : List Entry) : Entry := (b[b.length - 1]?).getD nH
def cL (seq : Int) (out : ByteArray) (b : List Entry) : ByteArray := if seq < (jW b).seq then out ++ fTx b else out
def tF (bs : List (List Entry)) (seq : Int) : ByteArray := bs.foldl (cL seq) ⟨#[]⟩
def aBi (b : List Entry) : (fTx b).size <= 2000 := by
  unfold fTx; split
  . rename_i hb
    obtain ⟨hok, h1, h2⟩ := dF hb
    have h3 := sV b ⟨#[]⟩ fun e he => by
      have := gM (hok e he)
      omega
    have h4 := gJ ((bTx b).size : Int)
    have h5 : (⟨#[]⟩ : ByteArray).size = 0 := rfl
    have h6 : (bTx b).size <= (⟨#[]⟩ : ByteArray).size + 157 * b.length := h3
    simp only [C7, bP, mX]; omega
  exact A6 _
def aOc (s : ByteArray) (a : Nat) (ha : a <= s.size) (hs : s.size <= 1048576) : aB P 221 [Ns s, Ni (a : Int)] [] 0 (.tup [enA (wV s a).1, .raw (.int .i64 (wV s a).2)]) := by
 refine (pq 69 [.cell 4 65, .tmp 5] func221) ((aj) ((aj) ((aj) ?_)))
 refine sr rfl fun k4 => (ja) ((vq func219 (aBm s a ha hs)) ?_)
 have b1 := aZf s a
 generalize hq1 : jH s a = q1 at b1 ⊢
 refine k4 (sr rfl fun k5 => (ja) ((vq func197 (nF s q1.2 b1.1 b1.2 hs)) ?_))
 have b2 := vD s q1.2
 have c2 := qO s q1.2
 generalize hq2 : bN s q1.2 = q2 at b2 c2 ⊢
 refine k5 (sr rfl fun k6 => (ja) ((vq func197 (nF s q2.2 b2.1 b2.2 hs)) ?_))
 have b3 := vD s q2.2
 have c3 := qO s q2.2
 generalize hq3 : bN s q2.2 = q3 at b3 c3 ⊢
 refine k6 (sr rfl fun k7 => (ja) ((vq func197 (nF s q3.2 b3.1 b3.2 hs)) ?_))
 have b4 := vD s q3.2
 have c4 := qO s q3.2
 generalize hq4 : bN s q3.2 = q4 at b4 c4 ⊢
 refine k7 (sr rfl fun k8 => (ja) ((vq func197 (nF s q4.2 b4.1 b4.2 hs)) ?_))
 have b5 := vD s q4.2
 have c5 := qO s q4.2
 generalize hq5 : bN s q4.2 = q5 at b5 c5 ⊢
 refine k8 (sq fun k9 => ?_)
 have hw1 := wr ((s.size : Int) - q5.2) ((s.size : Int) - q5.2) og
 refine sr rfl fun k10 => (Aa hw1) (k10 ((cdA) ?_ ?_)) <;> intro hc1
 . have h9 : wV s a = (iG, -1) := by subst hq5; subst hq4; subst hq3; subst hq2; subst hq1; unfold wV; exact if_pos hc1
   refine (aj) (wR ?_)
   refine fO ?_ ⟨eS _ _, trivial, trivial⟩
   simp only [go_sem, h9, enA, iG]
 simp only [Bool.or_eq_false_iff, decide_eq_false_iff_not] at hc1
 have hw2 := wr (q5.2 + q5.1) (q5.2 + q5.1) og
 have h9 : wV s a = (⟨q1.1, q2.1, q3.1, s.extract q5.2.toNat (q5.2 + q5.1).toNat, q4.1⟩, q5.2 + q5.1) := by
   subst hq5; subst hq4; subst hq3; subst hq2; subst hq1; unfold wV
   exact if_neg (by unfold zP e5 e4 e3 e2 e1; simp only [F8, decide_eq_true_eq]; omega)
 refine wk (k9 (sr rfl fun k12 => (Aa hw2) ((jr) (k12 (sr rfl fun k13 => (Aa hw2) (k13 (wR ?_)))))))
 refine fO ?_ ⟨eS _ _, trivial, trivial⟩
 simp only [go_sem, h9, enA]
def aIy (s : ByteArray) (hs : s.size <= 1048576) : aH P 198 [Ns s] [] 0 (.ref 0) [(0, .row 65 5 ((aIo s).map enA))] 1 := by
 refine (gq 32 [.tmp 2] func198) ?_
 have hmx := mxl
 refine (aj) ?_
 refine sr rfl fun k2 => (ja) ((jr) (k2 ((aj) ?_)))
 refine sq fun k4 => wb ?_
 refine wl (α := Nat × Int × List Entry) (fun x => x.2.2.length + x.1 = 14 /\ -1 <= x.2.1 /\ x.2.1 <= s.size /\ lV s x.1 x.2.1 x.2.2 = aIo s) (fun x => x.1) (fun x => ([(0, Ns s), (3, .ref 0), (4, Ni x.2.1)], [(0, .row 65 5 (x.2.2.map enA))])) 1 (14, 0, []) ⟨rfl, by simp only; omega, by simp only; omega, rfl⟩ [] ?_ ?_
 . simp only [go_sem, AObj.bel, List.map_nil] <;> simp
 rintro ⟨f, a, out⟩ ⟨hlf, ha0, ha1, hgo⟩
 simp only at hlf ha0 ha1 hgo ⊢
 refine sq fun k5 => (aj) ((cdB) ?_ ?_) <;> intro hc1
 . have hend : lV s f a out = out := by cases f with | zero => rfl | succ g => rw [lV, hc1, if_neg oS]
   rw [hend] at hgo
   refine we ((jt) (k4 ((aj) (wR ?_))))
   rw [<- hgo]
   refine ⟨[(0, 0)], ?_⟩
   exact jz
 obtain ⟨g, rfl⟩ : ∃ g, f = g + 1 := ⟨f - 1, by simp only [C8, decide_eq_true_eq] at hc1; omega⟩
 have hto : ((a.toNat : Nat) : Int) = a := by simp only [C8, decide_eq_true_eq] at hc1; omega
 have hlt : a < s.size := by simp only [C8, decide_eq_true_eq] at hc1; omega
 refine wk (k5 (wb ((aj) ?_)))
 refine sr rfl fun k8 => (ja) ?_
 refine vs rfl rfl rfl func221 (aOc s a.toNat og hs) (Ab hto) Ah ?_
 refine (Bm) ?_
 have b1 := bOr s a.toNat
 have hst : lV s (g + 1) a out = lV s g (wV s a.toNat).2 (out ++ [(wV s a.toNat).1]) := by rw [lV, if_pos hc1]
 rw [hst] at hgo
 generalize hq1 : wV s a.toNat = q1 at b1 hgo ⊢
 refine k8 (wg rfl ((Dq) ((jr) ((jt) ((jt) ?_)))))
 refine ⟨(g, q1.2, out ++ [q1.1]), ⟨by simp; omega, b1.1, b1.2, hgo⟩, by simp only; omega, [(0, 3)], ?_⟩
 simp only [go_sem, AObj.bel, AObj.ren, AV.ren, aA, sg, enA] <;> simp [enA]
def aNj (s : ByteArray) (a : Nat) (ha : a <= s.size) (hs : s.size <= 1048576) : aB P 156 [Ns s, Ni (a : Int)] [] 0 (.tup [.sl 5 ((bF s a).1.map enA), .raw (.int .i64 (bF s a).2)]) := by
 refine (pq 54 [.tmp 4, .tmp 5] func156) ?_
 have hmx := mxl
 refine (aj) ?_
 refine sr rfl fun k2 => (ja) ((vq func197 (nF s (a : Int) og og hs)) ?_)
 have b1 := vD s (a : Int)
 have c1 := qO s (a : Int)
 have g1 := aYd s a
 generalize hq1 : bN s (a : Int) = q1 at b1 c1 g1 ⊢
 refine k2 (sq fun k3 => ?_)
 have hw1 := wr ((s.size : Int) - q1.2) ((s.size : Int) - q1.2) og
 have hw2 := wr ((s.size : Int) - q1.2 - 1) ((s.size : Int) - q1.2 - 1) og
 refine sr rfl fun k4 => (Ar hw1 hw2) (k4 ((cdA) ?_ ?_)) <;> intro hc1
 . have h9 : bF s a = ([], -1) := by subst hq1; unfold bF; exact if_pos hc1
   refine sr rfl fun k5 => (ja) ((jr) (k5 ?_))
   refine aFz 0 rfl ?_
   refine (Ag) (wR ?_)
   refine fO ?_ ⟨enB _ _, trivial, trivial⟩
   exact Bn h9
 have hb : jJ s a = false := by subst hq1; exact hc1
 simp only [Bool.or_eq_false_iff, decide_eq_false_iff_not] at hc1
 have g2 := g1 og
 have hw3 := wr (q1.2 + q1.1) (q1.2 + q1.1) og
 have hw4 := wr (q1.2 + q1.1 + 1) (q1.2 + q1.1 + 1) og
 have hf : bF s a = if (!((fTx (pB s a)).toList == (s.extract a (q1.2 + q1.1 + 1).toNat).toList)) = true then ([], -1) else (pB s a, q1.2 + q1.1 + 1) := by
   unfold bF; rw [hb, hq1]; simp only [B9, if_false]
 refine wk (k3 (sr rfl fun k6 => (Aa hw3) ((jr) ((vq func198 ((cO (aIy (s.extract q1.2.toNat (q1.2 + q1.1).toNat) (by rw [ByteArray.size_extract]; omega)) oG oG : aB P 198 [Ns (s.extract q1.2.toNat (q1.2 + q1.1).toNat)] [] 0 (.sl 5 ((aIo (s.extract q1.2.toNat (q1.2 + q1.1).toNat)).map enA))))) ?_))))
 have hsm := bJj (s := s.extract q1.2.toNat (q1.2 + q1.1).toNat) (by rw [ByteArray.size_extract]; omega)
 have hfb : pB s a = aIo (s.extract q1.2.toNat (q1.2 + q1.1).toNat) := by unfold pB; rw [hq1]
 rw [<- hfb] at hsm ⊢
 refine k6 (sq fun k7 => sd mixed rfl fun k8 => (Ar hw3 hw4) ((jr) ?_))
 refine tp rfl rfl rfl ⟨func64, rfl, rfl⟩ (vO (pB s a) (aXl hsm)) oG oG ?_
 refine (Ar hw3 hw4) ((jr) ((jy) (k8 ((cdA) ?_ ?_)))) <;> intro hc2
 . have h9 : bF s a = ([], -1) := by rw [hf, if_pos (by simpa using hc2)]
   refine sr rfl fun k9 => (ja) ((jr) (k9 ?_))
   refine aFz 0 rfl ?_
   refine (Ag) (wR ?_)
   refine fO ?_ ⟨enB _ _, trivial, trivial⟩
   exact Bn h9
 have h9 : bF s a = (pB s a, q1.2 + q1.1 + 1) := by rw [hf, hc2]; simp
 refine wk (k7 (sr rfl fun k10 => (Ar hw3 hw4) (k10 (wR ?_))))
 refine fO ?_ ⟨enB _ _, trivial, trivial⟩
 exact Ab h9
def aCh (s : ByteArray) (hs : s.size <= 1048576) : aH P 102 [Ns s] [] 0 (.tup [.ref 0, .raw (.int .i64 (dY s).2)]) [(0, .row 33 1 ((dY s).1.map esA))] 1 := by
 refine (gq 30 [.tmp 2, .tmp 3] func102) ?_
 have hmx := mxl
 refine (aj) ?_
 refine sr rfl fun k2 => (ja) ((jr) (k2 ((aj) ?_)))
 refine sq fun k4 => wb ?_
 refine wl (α := Nat × Nat × List (List Entry)) (fun x => x.2.1 <= s.size /\ s.size <= x.1 + x.2.1 /\ x.2.2.length <= x.2.1 /\ hP s x.1 x.2.1 x.2.2 = dY s) (fun x => x.1) (fun x => ([(0, Ns s), (4, .ref 0), (5, Ni (x.2.1 : Int))], [(0, .row 33 1 (x.2.2.map esA))])) 1 (s.size, 0, []) ⟨A6 _, by simp, by simp, rfl⟩ [] ?_ ?_
 . exact Cc
 rintro ⟨f, a, out⟩ ⟨ha, hf, hol, hgo⟩
 simp only at ha hf hol hgo ⊢
 refine sq fun k5 => (aj) ((cdB) ?_ ?_) <;> intro hc1
 . have hge : ¬ a < s.size := by simpa using hc1
   have hend : hP s f a out = (out, (a : Int)) := by cases f with | zero => rfl | succ g => rw [hP, if_neg hge]
   rw [hend] at hgo
   refine we ((jt) (k4 ((aj) (wR ?_))))
   rw [<- hgo]; refine ⟨[], ?_⟩; exact jz
 have hlt : a < s.size := by simpa using hc1
 obtain ⟨g, rfl⟩ : ∃ g, f = g + 1 := ⟨f - 1, og⟩
 refine wk (k5 (wb (sr rfl fun k7 => (ja) ((vq func156 (aNj s a ha hs)) ?_))))
 have b1 := aAf s a
 have b2 := vL s a
 have hst : hP s (g + 1) a out = if (bF s a).2 < 0 then (out, (a : Int)) else hP s g (bF s a).2.toNat (out ++ [(bF s a).1]) := by rw [hP, if_pos hlt]
 rw [hst] at hgo
 generalize hq1 : bF s a = q1 at b1 b2 hgo ⊢
 refine k7 (sq fun k8 => (aj) ((cdA) ?_ ?_)) <;> intro hc2
 . have hn : q1.2 < 0 := by simpa using hc2
   rw [if_pos hn] at hgo
   refine (aj) (wR ((Ad) ?_))
   rw [<- hgo]; refine ⟨[], ?_⟩; exact jz
 have hn : ¬ q1.2 < 0 := by simpa using hc2
 rw [if_neg hn] at hgo
 have b3 := b2 og
 have hto : ((q1.2.toNat : Nat) : Int) = q1.2 := by omega
 rw [<- hto]
 refine wk (k8 (sr rfl fun k11 => (At) ((jr) (k11 (wg rfl ((ja) ((jt) ((jt) ?_))))))))
 refine ⟨(g, q1.2.toNat, out ++ [q1.1]), ⟨by simp only; omega, by simp only; omega, by simp; omega, hgo⟩, by simp only; omega, [(0, 2)], ?_⟩
 exact Df
def aFl (bs : List (List Entry)) (seq : Int) (hb : bs.length <= 1048576) (hs : ∀ b ∈ bs, b.length <= 1048576) : aB P 103 [.sl 1 (bs.map esA), Ni seq] [] 0 (.tup [.sl 5 ((wH bs seq).1.map enA), .raw (.int .i64 (wH bs seq).2)]) := by
 refine (pq 58 [.tmp 4, .tmp 5] func103) ?_
 have hmx := mxl
 refine (aj) ?_
 refine sr rfl fun k2 => (ja) ((jr) (k2 ?_))
 refine aFz 0 rfl ?_
 refine (Ag) ((aj) ?_)
 refine sq fun k4 => (aj) (wb ?_)
 refine wl (α := Nat × List Entry × Int) (fun x => x.1 <= bs.length /\ x.2.1.length <= 1048576 * x.1 /\ (bs.drop x.1).foldl (mB seq) x.2 = wH bs seq) (fun x => bs.length - x.1) (fun x => ([(0, .sl 1 (bs.map esA)), (1, Ni seq), (6, .sl 5 (x.2.1.map enA)), (7, Ni x.2.2), (8, Ni (x.1 : Int))], [])) 0 (0, [], seq) ⟨A6 _, by simp, by simp [wH]⟩ [] ?_ ?_
 . simp only [go_sem, List.map_nil, Int.natCast_zero] <;> simp
 rintro ⟨i, st⟩ ⟨hi, hol, hfold⟩
 simp only at hi hol hfold ⊢
 refine sq fun k6 => (aj) ((cdB) ?_ ?_) <;> intro hc1
 . have hge := gec hc1
   refine we ((jt) (k4 ((aj) (wR ?_))))
   rw [E9 hge] at hfold
   have h9 : wH bs seq = st := hfold.symm
   refine fO ?_ ⟨enB _ _, trivial, trivial⟩
   exact Ab h9
 obtain ⟨hlt, l, hl, hdrop, hml⟩ := ixc hc1
 have hll := hs l hml
 refine wk (k6 (sq fun k8 => wb ((aj) (wb ?_))))
 refine wl (α := Nat × List Entry × Int) (fun x => x.1 <= l.length /\ x.2.1.length <= 1048576 * i + x.1 /\ (l.drop x.1).foldl (jB seq) x.2 = mB seq st l) (fun x => l.length - x.1) (fun x => ([(0, .sl 1 (bs.map esA)), (1, Ni seq), (6, .sl 5 (x.2.1.map enA)), (7, Ni x.2.2), (8, Ni (i : Int)), (9, Ni (x.1 : Int))], [])) 0 (0, st) ⟨A6 _, by simpa using hol, by simp [mB]⟩ [] ?_ ?_
 . exact jc
 rintro ⟨k, out, last⟩ ⟨hk, hol2, hfold2⟩
 simp only at hk hol2 hfold2 ⊢
 refine sq fun k10 => sr rfl fun k11 => (Ay hl) ((jr) (k11 ((cdB) ?_ ?_))) <;> intro hc2
 . have hgek : l.length <= k := by have h9 : ¬ k < l.length := (by simpa using hc2); omega
   rw [E9 hgek] at hfold2
   obtain ⟨st2, hst⟩ : ∃ st2, st2 = (out, last) := ⟨_, rfl⟩
   have hst2 : mB seq st l = st2 := by rw [hst]; exact hfold2.symm
   have ho2 : out = st2.1 := by rw [hst]
   have hl2 : last = st2.2 := by rw [hst]
   rw [ho2, hl2]; rw [ho2] at hol2
   refine we ((jt) ((jt) (k8 ((jw (wiS i og)) ((jt) ?_)))))
   refine ⟨(i + 1, st2), ⟨og, by simp only; omega, by rw [hdrop] at hfold; exact (by rw [List.foldl_cons, hst2] at hfold; exact hfold)⟩, og, [], ?_⟩
   exact jo
 have hltk : k < l.length := by simpa using hc2
 obtain ⟨e, he, hdrop2, hme⟩ := ix hltk
 refine wk (k10 (sq fun k12 => wb (sr rfl fun k13 => ?_)))
 simp only [go_sem, hl, he, esA, enA]
 refine (jr) (k13 ((cdB) ?_ ?_)) <;> intro hc3
 . have hgt : ¬ seq < e.seq := by simpa using hc3
   have hms : jB seq (out, last) e = (out, last) := if_neg hgt
   have hln : (jB seq (out, last) e).1.length <= 1048576 * i + (k + 1) := by rw [hms]; simp only; omega
   refine wk ((jt) (k12 ?_))
   have hwk := wiS k og
   refine wg rfl ((Aa hwk) ((jt) ?_))
   refine ⟨(k + 1, jB seq (out, last) e), ⟨og, hln, by rw [hdrop2] at hfold2; exact hfold2⟩, og, [], ?_⟩
   simp only [go_sem, hms] <;> simp
 have hgt : seq < e.seq := by simpa using hc3
 have hms : jB seq (out, last) e = (gD out e, max last e.seq) := if_pos hgt
 have hln : (jB seq (out, last) e).1.length <= 1048576 * i + (k + 1) := by rw [hms]; have := aCe out e; simp only; omega
 refine sr rfl fun k14 => ?_
 simp only [go_sem, hl, he, esA, enA]
 refine (jr) ?_
 refine (vr rfl rfl rfl func108 (aEg out e og) Ah Ah) ((jr) (k14 (wg rfl ?_)))
 simp only [go_sem, hl, he, esA, enA]
 refine (jr) ((vq func82 (aTv last e.seq)) ((jr) ((jt) (k12 ?_))))
 have hwk := wiS k og
 refine wg rfl ((Aa hwk) ((jt) ?_))
 refine ⟨(k + 1, jB seq (out, last) e), ⟨og, hln, by rw [hdrop2] at hfold2; exact hfold2⟩, og, [], ?_⟩
 simp only [go_sem, hms] <;> simp
def aPs (bs : List (List Entry)) (seq : Int) (hb : bs.length <= 1048576) (hs : ∀ b ∈ bs, gY b /\ 1 <= b.length) : aB P 106 [.sl 1 (bs.map esA), Ni seq] [] 0 (Ns (tF bs seq)) := by
 refine (pq 36 [.tmp 4] func106) ((aj) ((aj) ?_))
 refine sq fun k3 => (aj) (wb ?_)
 refine wl (α := Nat × ByteArray) (fun x => x.1 <= bs.length /\ x.2.size <= 2000 * x.1 /\ (bs.drop x.1).foldl (cL seq) x.2 = tF bs seq) (fun x => bs.length - x.1) (fun x => ([(0, .sl 1 (bs.map esA)), (1, Ni seq), (5, Ns x.2), (6, Ni (x.1 : Int))], [])) 0 (0, ⟨#[]⟩) ⟨A6 _, A0 _, rfl⟩ [] ?_ ?_
 . exact jc
 rintro ⟨i, out⟩ ⟨hi, hsz, hfold⟩
 simp only at hi hsz hfold ⊢
 refine sq fun k5 => (aj) ((cdB) ?_ ?_) <;> intro hc1
 . have hge := gec hc1
   refine we ((jt) (k3 ((aj) (wR ?_))))
   rw [E9 hge] at hfold
   have h9 : tF bs seq = out := hfold.symm
   exact fq h9
 obtain ⟨hlt, l, hl, hdrop, hml⟩ := ixc hc1
 have hsl := hs l hml
 have hsl1 := hsl.1.1
 have hsl2 := hsl.2
 have hle : l[l.length - 1]? = some (jW l) := by unfold jW; rw [A1 og]; rfl
 have hw1 := wr ((l.length : Int) - 1) ((l.length : Int) - 1) og
 have hpn : ((l.length : Int) - 1).toNat = l.length - 1 := by omega
 refine wk (k5 (sq fun k7 => wb (sd mixed rfl fun k8 => ?_)))
 simp only [go_sem, hl, hle, hw1, hpn, esA, enA]
 refine (jr) ((jy) (k8 ((cdB) ?_ ?_))) <;> intro hc2
 . have hgt : ¬ seq < (jW l).seq := by simpa using hc2
   have hms : cL seq out l = out := if_neg hgt
   have hln : (cL seq out l).size <= 2000 * (i + 1) := by rw [hms]; omega
   refine wk ((jt) (k7 ((jw (wiS i og)) ((jt) ?_))))
   refine ⟨(i + 1, cL seq out l), ⟨og, hln, by rw [hdrop] at hfold; exact hfold⟩, og, [], ?_⟩
   simp only [go_sem, hms] <;> simp
 have hgt : seq < (jW l).seq := by simpa using hc2
 have hms : cL seq out l = out ++ fTx l := if_pos hgt
 have hln : (cL seq out l).size <= 2000 * (i + 1) := by rw [hms, C7]; have := aBi l; omega
 refine wg rfl ((Ay hl) ((jr) ?_))
 refine vs rfl rfl rfl func64 (vO l (aXl hsl.1)) oG oG ?_
 refine (Ay hl) ?_
 have hfs := aBi l
 repeat (refine ⟨og, ?_⟩)
 refine (jt) (k7 ((jw (wiS i og)) ((jt) ?_)))
 refine ⟨(i + 1, cL seq out l), ⟨og, hln, by rw [hdrop] at hfold; exact hfold⟩, og, [], ?_⟩
 simp only [go_sem, hms] <;> simp
def eW {e : Entry} (h : bQ e = true) : e.key.size <= 1048576 /\ e.text.size <= 1048576 := by
  have := gM h; omega
def bCv {ls : List Entry} {e x : Entry} (h : x ∈ gD ls e) : x = e ∨ x ∈ ls := by
  unfold gD at h
  rcases B4.1 h with h | h
  . exact .inr (D2 h)
  rcases B1.1 h with h | h
  . exact .inl h
  exact .inr (D1 h)
def aQq (s : ByteArray) (hs : s.size <= 1048576) (a : Nat) (h : 0 <= (bF s a).2) : isB (bF s a).1 = true := by
  have hg := vL s a h
  unfold bF at h hg ⊢
  generalize hfb : pB s a = b at h hg ⊢
  split
  . rename_i hb; rw [if_pos hb] at h; simp at h
  rename_i hb
  rw [if_neg hb] at h hg
  split
  . rename_i hc; rw [if_pos hc] at h; simp at h
  rename_i hc
  rw [if_neg hc] at h hg
  simp only at h hg ⊢
  by_cases hi : isB b = true
  . exact hi
  exfalso
  have he : fTx b = ⟨#[]⟩ := by unfold fTx; rw [if_neg hi]
  rw [he] at hc
  simp [jJ] at hb
  have hsz : (s.extract a ((bN s (a : Int)).2 + (bN s (a : Int)).1 + 1).toNat).size = ((bN s (a : Int)).2 + (bN s (a : Int)).1 + 1).toNat - a := nQ s _ _ og
  have key : ∀ x : ByteArray, x.toList.length = x.size := fun x => by rw [ByteArray.toList_eq]; rfl
  have hl := (key _).trans hsz
  have he2 : (⟨#[]⟩ : ByteArray).toList = (s.extract a ((bN s (a : Int)).2 + (bN s (a : Int)).1 + 1).toNat).toList := by simpa using hc
  rw [<- he2, key] at hl
  have h0 : (⟨#[]⟩ : ByteArray).size = 0 := rfl
  omega
def aRc (s : ByteArray) (hs : s.size <= 1048576) : ∀ (f a : Nat) (out : List (List Entry)), (∀ b ∈ out, isB b = true) -> out.length <= a -> a <= s.size -> (∀ b ∈ (hP s f a out).1, isB b = true) /\ (hP s f a out).1.length <= s.size
  | 0, a, out, h, hl, ha => ⟨h, by simp only [hP]; omega⟩
  | f + 1, a, out, h, hl, ha => by
    unfold hP; split
    . split
      . exact ⟨h, by simp only; omega⟩
      rename_i hn
      have h1 := vL s a og
      have h2 := aAf s a
      refine aRc s hs f _ _ (fun b hb => ?_) (by simp; omega) og
      rcases B4.1 hb with h3 | h3
      . exact h b h3
      rw [B6.1 h3]; exact aQq s hs a og
    exact ⟨h, by simp only; omega⟩
def aNs {s : ByteArray} (hs : s.size <= 1048576) : (∀ b ∈ (dY s).1, isB b = true) /\ (dY s).1.length <= s.size := aRc s hs s.size 0 [] (fun b hb => by cases hb) (A0 0) (A6 _)
def uM {b : List Entry} (h : isB b = true) : gY b /\ 1 <= b.length /\ b.length <= 12 := by
  obtain ⟨h1, h2, h3⟩ := dF h
  exact ⟨⟨og, fun e he => eW (h1 e he)⟩, h2, h3⟩
def aDy (seq : Int) : ∀ (b : List Entry) (st : List Entry × Int), (∀ e ∈ b, bQ e = true) -> (∀ e ∈ st.1, e.key.size <= 1048576 /\ e.text.size <= 1048576) -> (mB seq st b).1.length <= st.1.length + b.length /\ ∀ e ∈ (mB seq st b).1, e.key.size <= 1048576 /\ e.text.size <= 1048576
  | [], st, _, h => ⟨by simp [mB], h⟩
  | x :: r, st, hb, h => by
    have h1 : (jB seq st x).1.length <= st.1.length + 1 /\ ∀ e ∈ (jB seq st x).1, e.key.size <= 1048576 /\ e.text.size <= 1048576 := by
      unfold jB; split
      . simp only [aCe]
        exact ⟨A0 _, fun e he => by
          rcases bCv he with h2 | h2
          . rw [h2]; exact eW (hb x A5)
          exact h e h2⟩
      exact ⟨og, h⟩
    have h2 := aDy seq r (jB seq st x) (fun e he => hb e (A4 _ he)) h1.2
    simp only [mB, List.foldl_cons, B7] at h2 ⊢
    exact ⟨og, h2.2⟩
def aKq {bs : List (List Entry)} (seq : Int) (hb : ∀ b ∈ bs, isB b = true) : (wH bs seq).1.length <= 12 * bs.length /\ ∀ e ∈ (wH bs seq).1, e.key.size <= 1048576 /\ e.text.size <= 1048576 := by
  have aux : ∀ (bs : List (List Entry)) (st : List Entry × Int), (∀ b ∈ bs, isB b = true) -> (∀ e ∈ st.1, e.key.size <= 1048576 /\ e.text.size <= 1048576) -> (bs.foldl (mB seq) st).1.length <= st.1.length + 12 * bs.length /\ ∀ e ∈ (bs.foldl (mB seq) st).1, e.key.size <= 1048576 /\ e.text.size <= 1048576 := by
    intro bs
    induction bs with
    | nil => intro st _ h; exact ⟨by simp, h⟩
    | cons b r ih =>
      intro st hb h
      obtain ⟨k1, k2, k3⟩ := dF (hb b A5)
      have h1 := aDy seq b st k1 h
      have h2 := ih (mB seq st b) (fun x hx => hb x (A4 _ hx)) h1.2
      simp only [List.foldl_cons, B7]
      exact ⟨og, h2.2⟩
  have := aux bs ([], seq) hb oS
  simpa [wH] using this
def mM : Tree := ⟨0, [], [], []⟩
def bKx : Disk := ⟨⟨#[]⟩, 0, [], 0⟩
def zStore : Store := ⟨false, mM, bKx⟩
def qM (s : Store) : Store :=
  ⟨true, ⟨(wH (dY s.disk.log).1 s.disk.seq).2, (wH (dY s.disk.log).1 s.disk.seq).1, s.disk.levels, []⟩, ⟨tF (dY s.disk.log).1 s.disk.seq, ((tF (dY s.disk.log).1 s.disk.seq).size : Int), s.disk.levels, s.disk.seq⟩⟩
def aYe (s : Store) : Bool := ((!eH s.tree || !decide (s.disk.levels = s.tree.levels)) || decide (s.disk.seq < 0)) || decide (s.tree.seq < s.disk.seq)
def upS (s : Store) : Bool := if aYe s = true then false else
  (decide ((dY s.disk.log).2 = (s.disk.log.size : Int)) && decide ((wH (dY s.disk.log).1 s.disk.seq).1 = s.tree.mem)) && decide ((wH (dY s.disk.log).1 s.disk.seq).2 = s.tree.seq)
def pW (s : Store) : Bool := (decide (12000 < (s.disk.log.size : Int)) || decide (s.disk.safe < 0)) || decide ((s.disk.log.size : Int) < s.disk.safe)
def gB (s : Store) : Bool := if pW s = true then false else if eH ⟨s.disk.seq, [], s.disk.levels, []⟩ = false then false else
  if s.up = true then upS s else iM s.tree mM && upS (qM s)
def lD (s : Store) : Store := if s.up = true then s else { s with tree := mM }
def dT (U : Nat -> Prop) (s : Store) : (stA s).bel U := ⟨trivial, trivial, enB _ _, aX _ _, bZ _ _, trivial, trivial, aX _ _, trivial, trivial⟩
def jT (U : Nat -> Prop) (t : Tree) : (trA t).bel U := ⟨trivial, enB _ _, aX _ _, bZ _ _, trivial⟩
def aPb (s : Store) (hs : dM s) : aB P 29 [stA s] [] 0 (stA (lD s)) := by
 refine (pq 21 [.cell 2 40] func29) ?_
 simp only [stA]
 refine (aj) ((aj) ?_)
 refine sr rfl fun k3 => (ja) ?_
 refine vs rfl rfl rfl func65 ((cO (lR s.tree hs.1) Af Af : aB P 65 [trA s.tree] [] 0 (trA s.tree))) Af Af ?_
 simp only [go_sem, trA]
 refine k3 (sq fun k4 => (aj) ((cdB) ?_ ?_)) <;> intro hc1
 . have hu : s.up = true := by simpa using hc1
   refine wk (k4 (sr rfl fun k8 => (ja) ((vq func48 ((cO (dR s.disk.levels hs.2) oG oG : aB P 48 [.sl 1 (s.disk.levels.map rsA)] [] 0 (.sl 1 (s.disk.levels.map rsA))))) (k8 ((aj) (wR ?_))))))
   refine fO ?_ (dT _ _)
   simp only [go_sem, lD, hu, if_true, stA]
 have hu : s.up = false := by simpa using hc1
 refine wg rfl ((ja) (k4 (sr rfl fun k6 => (ja) ((vq func48 ((cO (dR s.disk.levels hs.2) oG oG : aB P 48 [.sl 1 (s.disk.levels.map rsA)] [] 0 (.sl 1 (s.disk.levels.map rsA))))) (k6 ((aj) ?_))))))
 refine hZ 1 (ds := [Nb s.up, Ni 0, .sl 5 [], .sl 1 [], .sl 1 [], Ns s.disk.log, Ni s.disk.safe, .sl 1 (s.disk.levels.map rsA), Ni s.disk.seq]) rfl (by repeat (first | exact LeL.nil | refine LeL.cons (by first | exact Le.refl _ | exact Le.nil _) ?_)) oG ?_
 refine (ja) (wR ?_)
 refine fO ?_ (dT _ _)
 simp only [go_sem, lD, hu, B9, if_false, stA, mM, List.map_nil]
section
variable {i j m : Nat} {G : Prop}
def cA : ∀ x : List UInt8, Op.bytesLess x x = false
  | [] => rfl
  | a :: x => by simp [Op.bytesLess, cA x]
def sB : ∀ x y z : List UInt8, Op.bytesLess x y = true -> Op.bytesLess y z = true -> Op.bytesLess x z = true
  | [], _ :: _, _ :: _, _, _ => rfl
  | [], [], _, h, _ => by cases h
  | _ :: _, [], _, h, _ => by cases h
  | _, _ :: _, [], _, h => by cases h
  | a :: x, b :: y, c :: z, h1, h2 => by
    simp only [Op.bytesLess, F8, decide_eq_true_eq, C8, beq_iff_eq] at h1 h2 ⊢
    rcases h1 with h1 | ⟨h1, h1'⟩ <;> rcases h2 with h2 | ⟨h2, h2'⟩
    . exact .inl (UInt8.lt_trans h1 h2)
    . exact .inl (h2 ▸ h1)
    . exact .inl (h1 ▸ h2)
    exact .inr ⟨h1.trans h2, sB x y z h1' h2'⟩
def wC : ∀ x y : List UInt8, Op.bytesLess x y = false -> Op.bytesLess y x = false -> x = y
  | [], [], _, _ => rfl
  | [], _ :: _, h, _ => by cases h
  | _ :: _, [], _, h => by cases h
  | a :: x, b :: y, h1, h2 => by
    simp only [Op.bytesLess, Bool.or_eq_false_iff, decide_eq_false_iff_not, Bool.and_eq_false_iff] at h1 h2
    have hab : a = b := UInt8.le_antisymm (UInt8.not_lt.1 h2.1) (UInt8.not_lt.1 h1.1)
    subst hab
    have e1 := h1.2.resolve_left oS
    have e2 := h2.2.resolve_left oS
    rw [wC x y e1 e2]
def sR (x y z : List UInt8) (h1 : Op.bytesLess x y = false) (h2 : Op.bytesLess y z = false) : Op.bytesLess x z = false := by
  cases h3 : Op.bytesLess x z with
  | false => rfl
  | true =>
    cases h4 : Op.bytesLess y x with
    | true => have := sB y x z h4 h3; rw [h2] at this; cases this
    | false => have := wC x y h1 h4; subst this; rw [h2] at h3; cases h3
def yA {x y : List UInt8} (h : Op.bytesLess x y = true) : Op.bytesLess y x = false := by
  cases h4 : Op.bytesLess y x with
  | false => rfl
  | true => have := sB x y x h h4; rw [cA] at this; cases this
def mY : Plain.WO entLt fun _ => True where
  irrefl := fun x _ => by simp [entLt, cA]
  trans := fun x y z _ _ _ h1 h2 => by
    simp only [entLt, F8, C8, beq_iff_eq, decide_eq_true_eq] at h1 h2 ⊢
    rcases h1 with h1 | ⟨h1, h1'⟩ <;> rcases h2 with h2 | ⟨h2, h2'⟩
    . exact .inl (sB _ _ _ h1 h2)
    . exact .inl (h2 ▸ h1)
    . exact .inl (h1 ▸ h2)
    exact .inr ⟨h1.trans h2, og⟩
  neg := fun x y z _ _ _ h1 h2 => by
    simp only [entLt, Bool.or_eq_false_iff, Bool.and_eq_false_iff, beq_eq_false_iff_ne, decide_eq_false_iff_not] at h1 h2 ⊢
    refine ⟨sR _ _ _ h1.1 h2.1, ?_⟩
    by_cases e : x.key.toList = z.key.toList
    . right
      have hzy : Op.bytesLess z.key.toList y.key.toList = false := e ▸ h1.1
      have e2 := wC _ _ hzy h2.1
      have e1 := e.trans e2
      have k1 := h1.2.resolve_left (fun h => h e1)
      have k2 := h2.2.resolve_left (fun h => h e2.symm)
      omega
    exact .inl e
def aBy (x y : ByteArray) : Int := if Op.bytesLess x.toList y.toList = true then -1 else if Op.bytesLess y.toList x.toList = true then 1 else 0
def aJa (x y : Int) : Int := if x < y then -1 else if y < x then 1 else 0
def jS (a b : Entry) : Int := if aBy a.key b.key ≠ 0 then aBy a.key b.key else aJa b.seq a.seq
def pP (a b : Entry) : decide (jS a b < 0) = entLt a b := by
  unfold jS aBy aJa entLt
  by_cases h1 : Op.bytesLess a.key.toList b.key.toList = true
  . simp [h1]
  by_cases h2 : Op.bytesLess b.key.toList a.key.toList = true
  . have : ¬ a.key.toList = b.key.toList := fun e => by rw [e, cA] at h2; cases h2
    simp [h1, h2, this]
  have e := wC _ _ (by simpa using h1) (by simpa using h2)
  rw [e]; simp only [cA, B9, if_false, ne_eq, not_true_eq_false, beq_self_eq_true, Bool.true_and, Bool.false_or]; split
  . rename_i h; simp [h]
  rename_i h
  split <;> simp [h]
def bHp {s : ByteArray} (h : jG s = true) : 1 <= s.size /\ s.size <= 8 := by
  simp [jG] at h; omega
def aMf {α : Type} {l : List α} (h : i ≠ j) (y : α) : (l.set i y)[j]? = l[j]? := List.getElem?_set_ne h
abbrev cM (d : Nat -> Entry) (n : Nat) (σ : Nat -> Nat) : AObj := .row 65 5 ((List.range n).map fun k => enA (d (σ k)))
def Bo (h : G := by simp only [go_sem, AObj.bel, AObj.ren, AV.ren, aA, cM, sg] <;> simp [enA]) : G := h
def Bf (h : G := by simp only [go_sem, AObj.bel, cM]) : G := h
def Be (h : G := by simp only [go_sem, cM]) : G := h
def Bd {R G : Prop} (h : R -> G := by intro k; simp only [go_sem, AObj.ren, AV.ren, Nat.add_zero, A0, Nat.sub_self, aA, cM, sg, shift]; exact k) : R -> G := h
abbrev gO : AV := .fn (.func 141) [] []
def An (h : G := by simp only [go_sem, gO]) : G := h
def aWr (U : Nat -> Prop) (d : Nat -> Entry) (n : Nat) (σ : Nat -> Nat) : aE U ((List.range n).map fun k => enA (d (σ k))) := by
  rw [bLi]; intro x hx; obtain ⟨k, _, rfl⟩ := B3.1 hx; exact eS U _
def bKs (s : Nat -> Nat) (d : Nat -> Entry) (n : Nat) (σ : Nat -> Nat) : aA s ((List.range n).map fun k => enA (d (σ k))) = (List.range n).map fun k => enA (d (σ k)) := dK s (aWr _ d n σ)
attribute [go_sem] aWr bKs
def aVp (d : Nat -> Entry) (n : Nat) (σ : Nat -> Nat) {p q : Nat} (hp : p < n) (hq : q < n) : (((List.range n).map fun k => enA (d (σ k))).set p (enA (d (σ q)))).set q (enA (d (σ p))) = (List.range n).map fun k => enA (d (Plain.swp σ p q k)) := by
  refine List.ext_getElem? fun i => ?_
  rw [G3, G3, B5, B5]; simp only [D3, A2, E6]
  by_cases hi : i < n
  . rw [C9 hi]; unfold Plain.swp; simp only [Option.map_some]
    by_cases h1 : i = q
    . subst h1; rw [if_pos rfl, if_pos hi]
      by_cases h2 : i = p
      . subst h2; simp
      rw [if_neg h2, if_pos rfl]
    rw [if_neg (fun e => h1 e.symm)]
    by_cases h2 : i = p
    . subst h2; rw [if_pos rfl, if_pos rfl, if_pos hp]
    rw [if_neg (fun e => h2 e.symm), if_neg h2, if_neg h1]
  rw [D6 (by simp; omega)]; rw [if_neg og, if_neg og]; rfl
def swr (σ : Nat -> Nat) (a b m : Nat) : Nat -> Nat := fun k => if a <= k /\ k < a + m then σ (k - a + b) else if b <= k /\ k < b + m then σ (k - b + a) else σ k
def bIh (σ : Nat -> Nat) {a b i : Nat} (h : a + i < b) : Plain.swp (swr σ a b i) (a + i) (b + i) = swr σ a b (i + 1) := by
  funext k
  unfold Plain.swp swr
  by_cases h1 : k = a + i
  . subst h1; rw [if_pos rfl, if_neg og, if_neg og, if_pos og]
    congr 1; omega
  rw [if_neg h1]
  by_cases h2 : k = b + i
  . subst h2; rw [if_pos rfl, if_neg og, if_neg og, if_neg og, if_pos og]
    congr 1; omega
  rw [if_neg h2]
  by_cases h3 : a <= k /\ k < a + i
  . rw [if_pos h3, if_pos og]
  rw [if_neg h3]
  by_cases h4 : b <= k /\ k < b + i
  . rw [if_pos h4, if_neg og, if_pos og]
  rw [if_neg h4, if_neg og, if_neg og]
def bMh (σ : Nat -> Nat) (a b : Nat) : swr σ a b 0 = σ := by
  funext k; unfold swr; rw [if_neg og, if_neg og]
def bNv (σ : Nat -> Nat) (h1 : j < i) (h2 : i <= m) (h3 : 0 < j) : Plain.rot (swr σ (m - i) m j) (m - (i - j)) m (m + j) = Plain.rot σ (m - i) m (m + j) := by
  funext k
  unfold Plain.rot swr
  repeat' split
  all_goals first | (exfalso; omega) | (congr 1; omega) | rfl
def bGl (σ : Nat -> Nat) (h1 : i < j) (h2 : i <= m) (h3 : 0 < i) : Plain.rot (swr σ (m - i) (m + j - i) i) (m - i) m (m + (j - i)) = Plain.rot σ (m - i) m (m + j) := by
  funext k
  unfold Plain.rot swr
  repeat' split
  all_goals first | (exfalso; omega) | (congr 1; omega) | rfl
def bQx (σ : Nat -> Nat) (h2 : i <= m) : swr σ (m - i) m i = Plain.rot σ (m - i) m (m + i) := by
  funext k
  unfold Plain.rot swr; simp only [Nat.add_sub_cancel_left]
  by_cases c1 : m - i <= k /\ k < m - i + i
  . rw [if_pos c1, if_pos c1]; congr 1; omega
  rw [if_neg c1, if_neg c1]
  by_cases c2 : m <= k /\ k < m + i
  . rw [if_pos c2, if_pos og]; congr 1; omega
  rw [if_neg c2, if_neg og]
def orI : List Int -> Int
  | [] => 0
  | x :: r => if x = 0 then orI r else x
def bHd (a b : Entry) : orI [aBy a.key b.key, aJa b.seq a.seq] = jS a b := by
  unfold jS
  by_cases h : aBy a.key b.key = 0
  . rw [if_neg (by simp [h]), orI, if_pos h, orI, orI]
    split <;> rename_i h2
    . exact h2.symm
    rfl
  rw [if_pos h, orI, if_neg h]
def sI (s : ByteArray) : aB P 213 [Ns s] [] 0 (Nb false) := by
 refine (pq 6 [.tmp 2] func213) ((aj) ((aj) (wR ?_)))
 refine fO ?_ trivial; simp only [go_sem, beq_self_eq_true, Bool.not_true]
def xC (n : Int) : aB P 214 [Ni n] [] 0 (Nb false) := by
 refine (pq 6 [.tmp 2] func214) ((aj) ((aj) (wR ?_)))
 refine fO ?_ trivial; simp only [go_sem, decide_true, Bool.not_true]
def zG (x y : ByteArray) : aB P 189 [Ns x, Ns y] [] 0 (Ni (aBy x y)) := by
 refine (pq 20 [.tmp 4] func189) ((aj) ?_)
 refine sr rfl fun k2 => (ja) ((vq func213 (sI x)) (k2 (sr rfl fun k3 => (ja) ((vq func213 (sI y)) (k3 (sq fun k4 => (aj) ((cdA) (fun hc => by simp at hc) fun hc1 => ?_)))))))
 refine wk (k4 (sq fun k6 => (aj) ((cdA) (fun hc => by simp at hc) fun hc2 => ?_)))
 refine wk (k6 (sq fun k8 => (aj) ((cdA) ?_ ?_))) <;> intro hc3
 . refine (aj) (wR ?_)
   refine fO ?_ trivial; simp only [go_sem, aBy, if_pos hc3]
 refine wk (k8 (sq fun k11 => (aj) ((cdA) ?_ ?_))) <;> intro hc4
 . refine (aj) (wR ?_)
   have h9 : aBy x y = 1 := by
     unfold aBy; rw [hc3]; simp at hc4
     cases h8 : Op.bytesLess y.toList x.toList with
     | true => simp
     | false => exact absurd (wC _ _ hc3 h8) hc4.2
   exact fq h9
 refine wk (k11 ((aj) (wR ?_)))
 have h9 : aBy x y = 0 := by
   unfold aBy; simp at hc4; rw [hc3, hc4 hc3, cA]
   simp
 exact fq h9
def aEt (x y : Int) : aB P 190 [Ni x, Ni y] [] 0 (Ni (aJa x y)) := by
 refine (pq 20 [.tmp 4] func190) ((aj) ?_)
 refine sr rfl fun k2 => (ja) ((vq func214 (xC x)) (k2 (sr rfl fun k3 => (ja) ((vq func214 (xC y)) (k3 (sq fun k4 => (aj) ((cdA) (fun hc => by simp at hc) fun hc1 => ?_)))))))
 refine wk (k4 (sq fun k6 => (aj) ((cdA) (fun hc => by simp at hc) fun hc2 => ?_)))
 refine wk (k6 (sq fun k8 => (aj) ((cdA) ?_ ?_))) <;> intro hc3
 . have n3 : x < y := by simpa using hc3
   refine (aj) (wR ?_)
   refine fO ?_ trivial; simp only [go_sem, aJa, if_pos n3]
 have n3 : ¬ (x < y) := by simpa using hc3
 refine wk (k8 (sq fun k11 => (aj) ((cdA) ?_ ?_))) <;> intro hc4
 . have n4 : y < x := by simpa using hc4
   refine (aj) (wR ?_)
   refine fO ?_ trivial; simp only [go_sem, aJa, if_neg n3, if_pos n4]
 have n4 : ¬ (y < x) := by simpa using hc4
 refine wk (k11 ((aj) (wR ?_)))
 refine fO ?_ trivial; simp only [go_sem, aJa, if_neg n3, if_neg n4]
def aVg (ls : List Int) (hz : ls.length <= 4611686018427387904) : aB P 188 [.sl 1 (ls.map inA)] [] 0 (Ni (orI ls)) := by
 refine (pq 18 [.tmp 2] func188) ((aj) ((aj) ?_))
 refine sq fun k3 => (aj) (wb ?_)
 refine wl (α := Nat) (fun x => x <= ls.length /\ orI (ls.drop x) = orI ls) (fun x => ls.length - x) (fun x => ([(3, Ni 0), (6, .sl 1 (ls.map inA)), (7, Ni (ls.length : Int)), (8, Ni (x : Int))], [])) 0 0 ⟨A6 _, rfl⟩ [] ?_ ?_
 . exact jc
 rintro i ⟨hi, hor⟩
 refine (aj) ?_
 refine sq fun k6 => (cdB) ?_ ?_ <;> intro hc1
 . have hge := gec hc1
   refine we ((jt) (k3 ((aj) (wR ?_))))
   rw [E9 hge, orI] at hor
   exact fq hor
 obtain ⟨hlt, l, hl, hdrop, hml⟩ := ixc hc1
 refine wk (k6 (sq fun k7 => wb (sr rfl fun k8 => ?_)))
 simp only [go_sem, hl, inA]
 refine (jr) (k8 ((aj) ((cdA) ?_ ?_))) <;> intro hc2
 . have n2 : ¬ l = 0 := by simpa using hc2
   refine (aj) (wR ((Ad) ?_))
   rw [hdrop, orI, if_neg n2] at hor
   exact fq hor
 have n2 : l = 0 := by simpa using hc2
 refine wk ((jt) (k7 ((jw (wiS i og)) ((jt) ?_))))
 refine ⟨i + 1, ⟨og, by rw [hdrop, orI, if_pos n2] at hor; exact hor⟩, og, [], ?_⟩
 exact jo
def gL (a b : Entry) : aB P 141 [enA a, enA b] [] 0 (Ni (jS a b)) := by
 refine (pq 17 [.tmp 4] func141) ?_
 simp only [enA]
 have hmx := mxl
 refine (aj) ?_
 refine sd mixed rfl fun k2 => (ja) ((jr) ?_)
 refine tp rfl rfl rfl ⟨func189, rfl, rfl⟩ (zG a.key b.key) oG oG ?_
 refine (ja) ((jr) ?_)
 refine tp rfl rfl rfl ⟨func190, rfl, rfl⟩ (aEt b.seq a.seq) oG oG ?_
 refine (ja) ((jr) ?_)
 refine tl [2] (xs := [.ref 2]) rfl rfl rfl ⟨func188, rfl, rfl⟩ (aVg [aBy a.key b.key, aJa b.seq a.seq] oS) rfl (by simp [zQ, qI, Abs.get, fzL, AV.fz, inA]) ⟨⟨trivial, trivial, trivial⟩, trivial⟩ rfl ?_
 refine (ja) ((jr) ((jy) (k2 (wR (fO ?_ trivial)))))
 simp only [go_sem, bHd]
def aFu (a b : Entry) : aB P 193 [enA a, enA b] [] 0 (Nb (entLt a b)) := by
 refine (pq 20 [.tmp 4] func193) ?_
 simp only [enA]
 refine (aj) ?_
 refine sq fun k2 => (aj) ((cdA) ?_ ?_) <;> intro hc1
 . refine (aj) (wR ?_)
   have h9 : entLt a b = Op.bytesLess a.key.toList b.key.toList := by
     have hk : (a.key.toList == b.key.toList) = false := by simpa using hc1
     unfold entLt; rw [hk]; simp
   exact fq h9
 refine wk (k2 ((aj) (wR ?_)))
 have h9 : entLt a b = decide (b.seq < a.seq) := by
   have hk : a.key.toList = b.key.toList := by simpa using hc1
   unfold entLt; rw [hk, cA]; simp
 exact fq h9
def aTl (s : ByteArray) (hz : s.size <= 4611686018427387904) : aB P 171 [Ns s] [] 0 (Nb (jG s)) := by
 refine (pq 41 [.tmp 2] func171) ((aj) ?_)
 refine sq fun k2 => (aj) ((cdA) ?_ ?_) <;> intro hc1
 . have h9 : jG s = false := Bool.eq_false_iff.2 fun h => by have := bHp h; simp at hc1; omega
   exact (aj) (wR (fq h9))
 have hsz : 1 <= s.size /\ s.size <= 8 := by simp at hc1; omega
 refine wk (k2 (sq fun k5 => (aj) (wb ?_)))
 refine wa s.size (wZ s) (fun x => ([(0, Ns s), (14, Ni (s.size : Int)), (15, Ni (x : Int))], [])) 0 [] ?_ ?_
 . exact jc
 rintro i ⟨hi, hall⟩
 refine (aj) ?_
 refine sq fun k8 => (cdB) ?_ ?_ <;> intro hc2
 . have hge : s.size <= i := Nat.not_lt.1 (by simpa using hc2)
   refine we ((jt) (k5 ((aj) (wR ?_))))
   have h9 : jG s = true := by unfold jG; rw [eU hge hall]; simp; omega
   exact fq h9
 have hlt : i < s.size := by simpa using hc2
 refine wk (k8 (sq fun k9 => wb ((aj) ?_)))
 refine sr rfl fun k11 => (ja) ((jr) (k11 ((aj) ((cdA) ?_ ?_)))) <;> intro hc3
 . have hp : wZ s i = false := by unfold wZ; simp at hc3 ⊢; omega
   refine (aj) (wR ((Ad) ?_))
   have h9 : jG s = false := by unfold jG; rw [gR hlt hp]; rfl
   exact fq h9
 have hp : wZ s i = true := by unfold wZ; simp at hc3 ⊢; omega
 refine wk ((jt) (k9 ((jw (wiS i og)) ((jt) ?_))))
 refine ⟨i + 1, ⟨og, bV hall hp⟩, og, [], ?_⟩
 exact jo
def yO (e : Entry) (hz : aFn e) : aB P 122 [enA e] [] 0 (Nb (bQ e)) := by
 refine (pq 50 [.tmp 2] func122) ?_
 simp only [enA]
 refine (aj) ?_
 refine sq fun k2 => sr rfl fun k3 => (ja) ((vq func171 (aTl e.key hz.1)) (k3 ((cdA) ?_ ?_))) <;> intro hc1
 . have hb : jP e = true := by unfold jP; revert hc1; cases jG e.key <;> simp <;> omega
   refine (aj) (wR ?_)
   refine fO ?_ trivial; simp only [go_sem, bQ, hb]
 refine wk (k2 (sq fun k5 => (aj) ((cdA) ?_ ?_))) <;> intro hc2
 . have hb : jP e = true := by unfold jP nK; simp at hc2 ⊢; omega
   refine (aj) (wR ?_)
   refine fO ?_ trivial; simp only [go_sem, bQ, hb]
 have hb : jP e = false := by unfold jP nK; revert hc1; cases jG e.key <;> simp at hc2 ⊢ <;> omega
 refine wk (k5 (sq fun k8 => (aj) (wb ((aj) ((cdA) ?_ ?_))))) <;> intro hc3
 . have k1 : e.kind = 1 := by simpa using hc3
   refine (aj) (wR ((Ad) ?_))
   refine fO ?_ trivial; simp only [go_sem, bQ, hb, B9, if_false, if_pos k1]
 have k1 : ¬ (e.kind = 1) := by simpa using hc3
 refine (aj) ((cdA) ?_ ?_) <;> intro hc4
 . have k2 : e.kind = 2 := by simpa using hc4
   refine (aj) (wR ((Ad) ?_))
   refine fO ?_ trivial; simp only [go_sem, bQ, hb, B9, if_false, if_neg k1, if_pos k2]
 have k2 : ¬ (e.kind = 2) := by simpa using hc4
 refine (aj) ((cdA) ?_ ?_) <;> intro hc5
 . have k3 : e.kind = 3 := by simpa using hc5
   refine (aj) (wR ((Ad) ?_))
   refine fO ?_ trivial; simp only [go_sem, bQ, hb, B9, if_false, if_neg k1, if_neg k2, if_pos k3]
 have k3 : ¬ (e.kind = 3) := by simpa using hc5
 refine wk ((jt) (k8 ((aj) (wR ?_))))
 refine fO ?_ trivial; simp only [go_sem, bQ, hb, B9, if_false, if_neg k1, if_neg k2, if_neg k3]
def sA (ls : List Entry) (hz : dB ls) : aB P 146 [.sl 5 (ls.map enA)] [] 0 (Nb (cV ls)) := by
 refine (pq 30 [.tmp 2] func146) ?_
 have hlen := hz.1
 refine (aj) ?_
 refine sq fun k2 => (aj) (wb ?_)
 refine wa ls.length (aAu ls) (fun x => ([(0, .sl 5 (ls.map enA)), (5, .sl 5 (ls.map enA)), (6, Ni (ls.length : Int)), (7, Ni (x : Int))], [])) 0 [] ?_ ?_
 . exact jc
 rintro i ⟨hi, hall⟩
 refine (aj) ?_
 refine sq fun k5 => (cdB) ?_ ?_ <;> intro hc1
 . have hge := gec hc1
   refine we ((jt) (k2 ((aj) (wR ?_))))
   have h9 : cV ls = true := by unfold cV; exact eU hge hall
   exact fq h9
 obtain ⟨hlt, l, hl, hdrop, hml⟩ := ixc hc1
 have hw1 := wr ((i : Int) - 1) ((i : Int) - 1) og
 have hpn : ((i : Int) - 1).toNat = i - 1 := by omega
 have hpv : ls[i - 1]? = some (bT ls i) := by unfold bT; rw [A1 og]; rfl
 refine wk (k5 (sq fun k6 => wb (sr rfl fun k7 => (Ap hl) ((jr) (k7 (sd mixed rfl fun k8 => (Bb hl hw1 hpn hpv) ((jr) ?_)))))))
 refine tp rfl rfl rfl ⟨func122, rfl, rfl⟩ (yO l (hz.2 l hml)) Ah Ah ?_
 refine (Bb hl hw1 hpn hpv) ((jr) ?_)
 refine tpg rfl rfl rfl rfl rfl rfl ⟨func193, rfl, rfl⟩ (fun hg => aFu (bT ls i) l) oG (fun hg => Ah) Ah trivial ?_
 refine (Bb hl hw1 hpn hpv) ((jr) ((jy) (k8 ((cdA) ?_ ?_)))) <;> intro hc2
 . have hp : aAu ls i = false := by unfold aAu; rw [hl]; simp only [hc2]; rfl
   refine (aj) (wR ((Ad) ?_))
   have h9 : cV ls = false := by unfold cV; exact gR hlt hp
   exact fq h9
 have hp : aAu ls i = true := by unfold aAu; rw [hl]; simp only [hc2]; rfl
 refine wk ((jt) (k6 ((jw (wiS i og)) ((jt) ?_))))
 refine ⟨i + 1, ⟨og, bV hall hp⟩, og, [], ?_⟩
 exact jo
def bY (a b : List Entry) (hz : a.length <= 4611686018427387904) : aB P 119 [.sl 5 (a.map enA), .sl 5 (b.map enA)] [] 0 (Nb (decide (a = b))) := by
 refine (pq 26 [.tmp 4] func119) ((aj) ?_)
 refine sq fun k2 => (aj) ((cdA) ?_ ?_) <;> intro hc1
 . have hne : a ≠ b := fun e => by rw [e] at hc1; simp at hc1
   exact (aj) (wR (fq (decide_eq_false hne)))
 have hlen : a.length = b.length := by simp at hc1; omega
 refine wk (k2 (sq fun k5 => (aj) (wb ?_)))
 refine wa a.length (sP a b) (fun x => ([(0, .sl 5 (a.map enA)), (1, .sl 5 (b.map enA)), (12, Ni (a.length : Int)), (13, Ni (x : Int))], [])) 0 [] ?_ ?_
 . exact jc
 rintro i ⟨hi, hall⟩
 refine (aj) ?_
 refine sq fun k8 => (cdB) ?_ ?_ <;> intro hc2
 . have hge := gec hc2
   refine we ((jt) (k5 ((aj) (wR ?_))))
   have hie : i = a.length := by omega
   subst hie
   have he := pM hlen hall
   exact fq (decide_eq_true he)
 obtain ⟨hlt, l, hl, _, _⟩ := ixc hc2
 obtain ⟨m, hm, _, _⟩ := ix (xs := b) (i := i) og
 refine wk (k8 (sq fun k9 => wb ((aj) ?_)))
 refine sd mixed rfl fun k11 => (Bi hl hm) ((jr) ?_)
 refine aM (fun hN => aDv rfl rfl hN rfl rfl) (.inl rfl) ?_
 refine (Bi hl hm) ((jr) ((jy) (k11 ((cdA) ?_ ?_)))) <;> intro hc3
 . have hne : a ≠ b := fun e => by
     rw [e, hm] at hl; cases hl; simp at hc3
   exact (aj) (wR ((Ad) (fq (decide_eq_false hne))))
 . have hp : sP a b i = true := by unfold sP; rw [hl, hm]; simpa using hc3
   refine wk ((jt) (k9 ((jw (wiS i og)) ((jt) ?_))))
   refine ⟨i + 1, ⟨og, bV hall hp⟩, og, [], ?_⟩
   exact jo
def uX (a b : List Int) (hz : a.length <= 4611686018427387904) : aB P 160 [.sl 1 (a.map inA), .sl 1 (b.map inA)] [] 0 (Nb (decide (a = b))) := by
 refine (pq 26 [.tmp 4] func160) ((aj) ?_)
 refine sq fun k2 => (aj) ((cdA) ?_ ?_) <;> intro hc1
 . have hne : a ≠ b := fun e => by rw [e] at hc1; simp at hc1
   exact (aj) (wR (fq (decide_eq_false hne)))
 have hlen : a.length = b.length := by simp at hc1; omega
 refine wk (k2 (sq fun k5 => (aj) (wb ?_)))
 refine wa a.length (sP a b) (fun x => ([(0, .sl 1 (a.map inA)), (1, .sl 1 (b.map inA)), (12, Ni (a.length : Int)), (13, Ni (x : Int))], [])) 0 [] ?_ ?_
 . exact jc
 rintro i ⟨hi, hall⟩
 refine (aj) ?_
 refine sq fun k8 => (cdB) ?_ ?_ <;> intro hc2
 . have hge := gec hc2
   refine we ((jt) (k5 ((aj) (wR ?_))))
   have hie : i = a.length := by omega
   subst hie
   have he := pM hlen hall
   exact fq (decide_eq_true he)
 obtain ⟨hlt, l, hl, _, _⟩ := ixc hc2
 obtain ⟨m, hm, _, _⟩ := ix (xs := b) (i := i) og
 refine wk (k8 (sq fun k9 => wb ((aj) ?_)))
 refine sd mixed rfl fun k11 => ?_
 simp only [go_sem, hl, hm, inA]
 refine (jr) ((jy) (k11 ((cdA) ?_ ?_))) <;> intro hc3
 . have hne : a ≠ b := fun e => by
     rw [e, hm] at hl; cases hl; simp at hc3
   exact (aj) (wR ((Ad) (fq (decide_eq_false hne))))
 . have hp : sP a b i = true := by unfold sP; rw [hl, hm]; simpa using hc3
   refine wk ((jt) (k9 ((jw (wiS i og)) ((jt) ?_))))
   refine ⟨i + 1, ⟨og, bV hall hp⟩, og, [], ?_⟩
   exact jo
def pV (r : Run) (h1 : 1 <= r.ents.length) : aB P 135 [rA r] [] 0 (Ns (aC r)) := by
 refine (pq 8 [.tmp 2] func135) ?_
 simp only [rA]
 have hl : r.ents[0]? = some ((r.ents[0]?).getD nH) := by rw [A1 og]; rfl
 generalize hg : (r.ents[0]?).getD nH = l at hl
 have hk : aC r = l.key := by unfold aC; rw [hg]
 rw [hk]
 refine (aj) ?_
 refine sr rfl fun k2 => (Cp hl) ((jr) (k2 (wR (fO ?_ trivial))))
 exact Aj
def mV (r : Run) (h1 : 1 <= r.ents.length) (h2 : r.ents.length <= 4611686018427387904) : aB P 136 [rA r] [] 0 (Ns (aG r)) := by
 refine (pq 12 [.tmp 2] func136) ?_
 simp only [rA]
 have hl : r.ents[r.ents.length - 1]? = some ((r.ents[r.ents.length - 1]?).getD nH) := by rw [A1 og]; rfl
 generalize hg : (r.ents[r.ents.length - 1]?).getD nH = l at hl
 have hk : aG r = l.key := by unfold aG; rw [hg]
 rw [hk]
 have hw1 := wr ((r.ents.length : Int) - 1) ((r.ents.length : Int) - 1) og
 have hpn : ((r.ents.length : Int) - 1).toNat = r.ents.length - 1 := by omega
 refine (aj) ?_
 refine sr rfl fun k2 => (Bj hl hw1 hpn) ((jr) (k2 (wR (fO ?_ trivial))))
 exact Aj
def yE (a b : Run) (hz : a.ents.length <= 4611686018427387904) : aB P 168 [rA a, rA b] [] 0 (Nb (decide (a.mask = b.mask) && decide (a.ents = b.ents))) := by
 refine (pq 17 [.tmp 4] func168) ?_
 simp only [rA]
 refine (aj) ?_
 refine sr rfl fun k2 => (ja) ?_
 refine vpg rfl rfl rfl rfl rfl rfl ⟨func119, rfl, rfl⟩ (fun hg => bY a.ents b.ents hz) oG (fun hg => oG) oG trivial ?_
 refine (ja) (k2 (wR (fO ?_ trivial)))
 exact Aj
end
end Go.Proofs.S
end
section
open Go Go.Abs Go.Proofs Go.Proofs.Tryz
open Go.Plain (swp rot aAq yV gK gT iK lN)
namespace Go.Proofs.S
section
variable {a j f s r k : Nat} {σ : Nat -> Nat}
abbrev lE (d : Nat -> Entry) : Nat -> Nat -> Bool := fun i j => entLt (d i) (d j)
def bGj {l : Nat -> Nat -> Bool} (h : a < j) (hl : l (σ j) (σ (j - 1)) = true) : aAq l a j σ = aAq l a (j - 1) (swp σ j (j - 1)) := by
  obtain ⟨k, rfl⟩ : ∃ k, j = k + 1 := ⟨j - 1, og⟩
  rw [Nat.add_sub_cancel] at hl ⊢
  rw [aAq, if_pos ⟨h, hl⟩]
def bFo {l : Nat -> Nat -> Bool} (h : ¬ (a < j /\ l (σ j) (σ (j - 1)) = true)) : aAq l a j σ = σ := by
  cases j with
  | zero => rfl
  | succ k => rw [Nat.add_sub_cancel] at h; rw [aAq, if_neg h]
def bCi {l : Nat -> Nat -> Bool} {a b i : Nat} (h : i < b) : yV l a (b - i) i σ = yV l a (b - (i + 1)) (i + 1) (aAq l a i σ) := by
  rw [show b - i = (b - (i + 1)) + 1 by omega, yV]
def aKl (t : Nat -> Bool) : ∀ (f g s r : Nat), r - s <= f -> r - s <= g -> gT t f s r = gT t g s r
  | 0, 0, _, _, _, _ => rfl
  | 0, g + 1, s, r, h, _ => by rw [gT, gT, if_neg og]
  | f + 1, 0, s, r, _, h => by rw [gT, gT, if_neg og]
  | f + 1, g + 1, s, r, h1, h2 => by
    rw [gT, gT]; split
    . split
      . exact aKl t f g _ _ og og
      exact aKl t f g _ _ og og
    rfl
def aAg {t : Nat -> Bool} (h : s < r) (hf : r - s <= f) : gT t f s r = if t ((s + r) / 2) = true then gT t f s ((s + r) / 2) else gT t f ((s + r) / 2 + 1) r := by
  obtain ⟨g, rfl⟩ : ∃ g, f = g + 1 := ⟨f - 1, og⟩
  rw [gT, if_pos h]; split
  . exact aKl t g (g + 1) _ _ og og
  exact aKl t g (g + 1) _ _ og og
def aUi {t : Nat -> Bool} (h : ¬ s < r) : gT t f s r = s := by
  cases f with
  | zero => rfl
  | succ f => rw [gT, if_neg h]
def bQy (σ : Nat -> Nat) (h : a <= k) : swp (rot σ a (a + 1) (k + 1)) k (k + 1) = rot σ a (a + 1) (k + 2) := by
  funext x
  unfold swp rot
  repeat' split
  all_goals first | (exfalso; omega) | (congr 1; omega) | rfl | (subst_vars; congr 1; omega)
def bOy (σ : Nat -> Nat) (a : Nat) : rot σ a (a + 1) (a + 1) = σ := by
  funext x
  unfold rot
  repeat' split
  all_goals first | (exfalso; omega) | (congr 1; omega) | rfl | (subst_vars; congr 1; omega)
def bQd (σ : Nat -> Nat) {k m : Nat} (h : 0 < k) (hk : k <= m) : swp (rot σ k m (m + 1)) k (k - 1) = rot σ (k - 1) m (m + 1) := by
  funext x
  unfold swp rot
  repeat' split
  all_goals first | (exfalso; omega) | (congr 1; omega) | rfl | (subst_vars; congr 1; omega)
def bOf (σ : Nat -> Nat) (m : Nat) : rot σ m m (m + 1) = σ := by
  funext x
  unfold rot
  repeat' split
  all_goals first | (exfalso; omega) | (congr 1; omega) | rfl | (subst_vars; congr 1; omega)
def cJ (d : Nat -> Entry) (n : Nat) (σ : Nat -> Nat) (hn : n <= 1048576) (a b m : Nat) (h1 : a + m <= b) (h2 : b + m <= n) : aH P 239 [.ref 0, Ni (a : Int), Ni (b : Int), Ni (m : Int), gO] [(0, cM d n σ)] 1 (.tup []) [(0, cM d n (swr σ a b m))] 1 := by
 refine (gq 38 [] func239) ?_
 simp only [cM, gO]
 refine (aj) (wb ?_)
 refine wn m (fun x => ([(0, .ref 0), (1, Ni (a : Int)), (2, Ni (b : Int)), (3, Ni (m : Int)), (10, Ni (x : Int))], [(0, .row 65 5 ((List.range n).map fun z => enA (d (swr σ a b x z))))])) 1 [] ?_ ?_
 . simp only [go_sem, AObj.bel, AObj.ren, AV.ren, aA, sg, Int.natCast_zero, bMh] <;> simp
 rintro i hi
 refine sq fun k2 => (aj) ((cdB) ?_ ?_) <;> intro hc1
 . have hie : i = m := by have h9 : ¬ i < m := (by simpa using hc1); omega
   subst hie
   refine we ((jt) ?_)
   refine ⟨[], ?_⟩; exact Bo
 have hlt : i < m := by simpa using hc1
 refine wk (k2 (sq fun k4 => wb ?_))
 have hrow : (((List.range n).map fun z => (.agg [.raw (.string (d (swr σ a b i z)).key), .raw (.int .i64 (d (swr σ a b i z)).seq), .raw (.int .i64 (d (swr σ a b i z)).kind), .raw (.string (d (swr σ a b i z)).text), .raw (.int .i64 (d (swr σ a b i z)).n)])).set (a + i) (.agg [.raw (.string (d (swr σ a b i (b + i))).key), .raw (.int .i64 (d (swr σ a b i (b + i))).seq), .raw (.int .i64 (d (swr σ a b i (b + i))).kind), .raw (.string (d (swr σ a b i (b + i))).text), .raw (.int .i64 (d (swr σ a b i (b + i))).n)])).set (b + i) (.agg [.raw (.string (d (swr σ a b i (a + i))).key), .raw (.int .i64 (d (swr σ a b i (a + i))).seq), .raw (.int .i64 (d (swr σ a b i (a + i))).kind), .raw (.string (d (swr σ a b i (a + i))).text), .raw (.int .i64 (d (swr σ a b i (a + i))).n)]) = (List.range n).map fun z => enA (d (swr σ a b (i + 1) z)) := by
   have h9 := aVp d n (swr σ a b i) (p := a + i) (q := b + i) og og
   rw [bIh σ og] at h9; exact h9
 have hs1 : ∀ (y : AV), (((List.range n).map fun z => (.agg [.raw (.string (d (swr σ a b i z)).key), .raw (.int .i64 (d (swr σ a b i z)).seq), .raw (.int .i64 (d (swr σ a b i z)).kind), .raw (.string (d (swr σ a b i z)).text), .raw (.int .i64 (d (swr σ a b i z)).n)])).set (a + i) y)[b + i]? = ((List.range n).map fun z => (.agg [.raw (.string (d (swr σ a b i z)).key), .raw (.int .i64 (d (swr σ a b i z)).seq), .raw (.int .i64 (d (swr σ a b i z)).kind), .raw (.string (d (swr σ a b i z)).text), .raw (.int .i64 (d (swr σ a b i z)).n)]))[b + i]? := fun y => aMf og y
 have hr1 : (List.range n)[a + i]? = some (a + i) := C9 og
 have hr2 : (List.range n)[b + i]? = some (b + i) := C9 og
 have hwa := wr ((a : Int) + (i : Int)) (((a + i : Nat) : Int)) og
 have hwb := wr ((b : Int) + (i : Int)) (((b + i : Nat) : Int)) og
 refine jF mixed rfl ?_
 refine (Dg hwa hwb hr1 hr2 hs1) ((jr) ?_)
 rw [hrow]
 refine (jy) ((jt) (k4 ((jw (wiS i og)) ((jt) ?_))))
 refine ⟨i + 1, og, og, [], ?_⟩
 exact Aq
def mN (d : Nat -> Entry) (n : Nat) (σ : Nat -> Nat) (hn : n <= 1048576) (a m b : Nat) (h1 : a < m) (h2 : m < b) (h3 : b <= n) : aH P 230 [.ref 0, Ni (a : Int), Ni (m : Int), Ni (b : Int), gO] [(0, cM d n σ)] 1 (.tup []) [(0, cM d n (rot σ a m b))] 1 := by
 refine (gq 58 [] func230) ?_
 simp only [cM, gO]
 obtain ⟨i0, hi0⟩ : ∃ i0, i0 = m - a := ⟨_, rfl⟩
 obtain ⟨j0, hj0⟩ : ∃ j0, j0 = b - m := ⟨_, rfl⟩
 have hw1 := wr ((m : Int) - (a : Int)) ((i0 : Int)) og
 have hw2 := wr ((b : Int) - (m : Int)) ((j0 : Int)) og
 have ea : a = m - i0 := by omega
 have eb : b = m + j0 := by omega
 refine sr rfl fun k1 => (Aa hw1) (k1 (sr rfl fun k2 => (Aa hw2) (k2 (sq fun k3 => wb ?_))))
 refine wl (α := Nat × Nat × (Nat -> Nat)) (fun x => 0 < x.1 /\ 0 < x.2.1 /\ x.1 <= i0 /\ x.2.1 <= j0 /\ rot x.2.2 (m - x.1) m (m + x.2.1) = rot σ a m b) (fun x => x.1 + x.2.1) (fun x => ([(0, .ref 0), (2, Ni (m : Int)), (4, .fn (.func 141) [] []), (10, Ni (x.1 : Int)), (11, Ni (x.2.1 : Int))], [(0, .row 65 5 ((List.range n).map fun z => enA (d (x.2.2 z))))])) 1 (i0, j0, σ) ⟨by simp only; omega, by simp only; omega, A0 _, A0 _, by rw [<- ea, <- eb]⟩ [] ?_ ?_
 . exact Aq
 rintro ⟨i, j, τ⟩ ⟨hi, hj, hi0, hj0, hrot⟩
 simp only at hi hj hi0 hj0 hrot ⊢
 refine sq fun k4 => (aj) ((cdB) ?_ ?_) <;> intro hc1
 . have hij : i = j := by simp at hc1; omega
   subst hij
   have hfin : swr τ (m - i) m i = rot σ a m b := by rw [bQx τ og]; exact hrot
   refine we ((jt) (k3 ?_))
   have hwi := wr ((m : Int) - (i : Int)) (((m - i : Nat) : Int)) og
   refine wg rfl ((Aa hwi) ?_)
   refine vg [] 0 rfl rfl rfl ⟨func239, rfl, rfl⟩ (cJ d n τ hn (m - i) m i og og) rfl An An (nS (H1 := []) (.inl rfl) Be Bf) (.inl rfl) ?_
   refine (Bd) ?_
   rw [hfin]; refine ⟨[], ?_⟩; exact Bo
 have hne : i ≠ j := by intro e; subst e; simp at hc1
 refine wk (k4 (wb ?_))
 have hwi := wr ((m : Int) - (i : Int)) (((m - i : Nat) : Int)) og
 have hwj0 := wr (((m + j : Nat) : Int) - (i : Int)) (((m + j - i : Nat) : Int)) og
 have hwm := wr ((m : Int) + (j : Int)) (((m + j : Nat) : Int)) og
 have hwj : IntKind.i64.wrap (IntKind.i64.wrap ((m : Int) + (j : Int)) - (i : Int)) = ((m + j - i : Nat) : Int) := by rw [hwm, hwj0]
 refine (aj) ((cdA) ?_ ?_) <;> intro hc2
 . have hgt : j < i := by simpa using hc2
   refine sr rfl fun k7 => (Aa hwi) ?_
   refine vg [] 0 rfl rfl rfl ⟨func239, rfl, rfl⟩ (cJ d n τ hn (m - i) m j og og) rfl An An (nS (H1 := []) (.inl rfl) Be Bf) (.inl rfl) ?_
   refine (Bd) (k7 ?_)
   have hwi2 := wr ((i : Int) - (j : Int)) (((i - j : Nat) : Int)) og
   refine wg rfl ((Aa hwi2) ((jt) ((jt) ?_)))
   refine ⟨(i - j, j, swr τ (m - i) m j), ⟨by simp only; omega, hj, by simp only; omega, hj0, by simp only; rw [bNv τ hgt og hj]; exact hrot⟩, by simp only; omega, [], ?_⟩
   exact Aq
 have hgt : i < j := by have h9 : ¬ j < i := (by simpa using hc2); omega
 refine sr rfl fun k8 => (Ar hwi hwj) ?_
 refine vg [] 0 rfl rfl rfl ⟨func239, rfl, rfl⟩ (cJ d n τ hn (m - i) (m + j - i) i og og) rfl An An (nS (H1 := []) (.inl rfl) Be Bf) (.inl rfl) ?_
 refine (Bd) (k8 ?_)
 have hwj2 := wr ((j : Int) - (i : Int)) (((j - i : Nat) : Int)) og
 refine wg rfl ((Aa hwj2) ((jt) ((jt) ?_)))
 refine ⟨(i, j - i, swr τ (m - i) (m + j - i) i), ⟨hi, by simp only; omega, hi0, by simp only; omega, by simp only; rw [bGl τ hgt og hi]; exact hrot⟩, by simp only; omega, [], ?_⟩
 exact Aq
def dS (d : Nat -> Entry) (n : Nat) (σ : Nat -> Nat) (hn : n <= 1048576) (a b : Nat) (h2 : b <= n) (ha : a <= b) : aH P 211 [.ref 0, Ni (a : Int), Ni (b : Int), gO] [(0, cM d n σ)] 1 (.tup []) [(0, cM d n (gK (lE d) σ a b))] 1 := by
 refine (gq 53 [] func211) ?_
 simp only [cM, gO]
 have hw0 := wiS a og
 refine sr rfl fun k1 => (Aa hw0) (k1 (wb ?_))
 refine wl (α := Nat × (Nat -> Nat)) (fun x => a + 1 <= x.1 /\ x.1 <= b + 1 /\ yV (lE d) a (b - x.1) x.1 x.2 = gK (lE d) σ a b) (fun x => b - x.1) (fun x => ([(0, .ref 0), (1, Ni (a : Int)), (2, Ni (b : Int)), (3, .fn (.func 141) [] []), (8, Ni (x.1 : Int))], [(0, .row 65 5 ((List.range n).map fun z => enA (d (x.2 z))))])) 1 (a + 1, σ) ⟨A0 _, by simp only; omega, rfl⟩ [] ?_ ?_
 . exact Aq
 rintro ⟨i, τ⟩ ⟨hi, hib, hgo⟩
 simp only at hi hib hgo ⊢
 refine sq fun k2 => (aj) ((cdB) ?_ ?_) <;> intro hc1
 . have hge : b - i = 0 := by have h9 : ¬ i < b := (by simpa using hc1); omega
   rw [hge, yV] at hgo
   refine we ((jt) ?_)
   rw [<- hgo]; refine ⟨[], ?_⟩; exact Bo
 have hlt : i < b := by simpa using hc1
 refine wk (k2 (sq fun k4 => wb ((aj) (wb ?_))))
 refine wl (α := Nat × (Nat -> Nat)) (fun x => a <= x.1 /\ x.1 <= i /\ aAq (lE d) a x.1 x.2 = aAq (lE d) a i τ) (fun x => x.1) (fun x => ([(0, .ref 0), (1, Ni (a : Int)), (2, Ni (b : Int)), (3, .fn (.func 141) [] []), (8, Ni (i : Int)), (9, Ni (x.1 : Int))], [(0, .row 65 5 ((List.range n).map fun z => enA (d (x.2 z))))])) 1 (i, τ) ⟨by simp only; omega, A0 _, rfl⟩ [] ?_ ?_
 . exact Aq
 rintro ⟨j, υ⟩ ⟨hj, hji, hsk⟩
 simp only at hj hji hsk ⊢
 refine sq fun k6 => ?_
 have hr1 : (List.range n)[j]? = some j := C9 og
 have hr2 : (List.range n)[j - 1]? = some (j - 1) := C9 og
 have hw1 := wr ((j : Int) - 1) ((j : Int) - 1) og
 have hpn : ((j : Int) - 1).toNat = j - 1 := by omega
 refine sd mixed rfl fun k7 => ?_
 simp only [go_sem, hr1, hr2, hw1, hpn, enA, D3, A2, E6]
 refine (jr) ?_
 refine tfg (first := []) (cap := []) (xs := [enA (d (υ j)), enA (d (υ (j - 1)))]) rfl rfl rfl rfl rfl rfl (fun _ => by rfl) ⟨func141, rfl, rfl⟩ (fun hg => gL (d (υ j)) (d (υ (j - 1)))) oG (fun hg => by rfl) (by rfl) Ah trivial ?_
 simp only [go_sem, pP]
 refine (jr) ((jy) (k7 ((cdB) ?_ ?_))) <;> intro hc2
 . have hfin : aAq (lE d) a i τ = υ := by
     rw [<- hsk]
     refine bFo fun h => ?_
     have h8 : decide ((a : Int) < (j : Int)) = true := by rw [decide_eq_true_eq]; omega
     rw [h8, Bool.true_and] at hc2
     have h7 : entLt (d (υ j)) (d (υ (j - 1))) = true := h.2
     rw [h7] at hc2; cases hc2
   refine we ((jt) ((jt) (k4 ((jw (wiS i og)) ((jt) ?_)))))
   refine ⟨(i + 1, υ), ⟨by simp only; omega, by simp only; omega, by simp only; rw [bCi hlt, hfin] at hgo; exact hgo⟩, by simp only; omega, [], ?_⟩
   exact Aq
 . have haj : a < j := by simp at hc2; omega
   have hlj : lE d (υ j) (υ (j - 1)) = true := by simp only [C8] at hc2; exact hc2.2
   refine wk (k6 (sq fun k8 => wb ?_))
   clear hr1 hr2
   have hrow : (((List.range n).map fun z => (.agg [.raw (.string (d (υ z)).key), .raw (.int .i64 (d (υ z)).seq), .raw (.int .i64 (d (υ z)).kind), .raw (.string (d (υ z)).text), .raw (.int .i64 (d (υ z)).n)])).set (j) (.agg [.raw (.string (d (υ (j - 1))).key), .raw (.int .i64 (d (υ (j - 1))).seq), .raw (.int .i64 (d (υ (j - 1))).kind), .raw (.string (d (υ (j - 1))).text), .raw (.int .i64 (d (υ (j - 1))).n)])).set (j - 1) (.agg [.raw (.string (d (υ (j))).key), .raw (.int .i64 (d (υ (j))).seq), .raw (.int .i64 (d (υ (j))).kind), .raw (.string (d (υ (j))).text), .raw (.int .i64 (d (υ (j))).n)]) = (List.range n).map fun z => enA (d (swp υ j (j - 1) z)) := by
     have h9 := aVp d n (υ) (p := j) (q := j - 1) og og
     skip; exact h9
   have hs1 : ∀ (y : AV), (((List.range n).map fun z => (.agg [.raw (.string (d (υ z)).key), .raw (.int .i64 (d (υ z)).seq), .raw (.int .i64 (d (υ z)).kind), .raw (.string (d (υ z)).text), .raw (.int .i64 (d (υ z)).n)])).set (j) y)[j - 1]? = ((List.range n).map fun z => (.agg [.raw (.string (d (υ z)).key), .raw (.int .i64 (d (υ z)).seq), .raw (.int .i64 (d (υ z)).kind), .raw (.string (d (υ z)).text), .raw (.int .i64 (d (υ z)).n)]))[j - 1]? := fun y => aMf og y
   have hr1 : (List.range n)[j]? = some (j) := C9 og
   have hr2 : (List.range n)[j - 1]? = some (j - 1) := C9 og
   refine jF mixed rfl ?_
   refine (Dg hr1 hr2 hw1 hpn hs1) ((jr) ?_)
   rw [hrow]
   refine (jy) ((jt) (k8 ?_))
   have hw5 := wr ((j : Int) - 1) (((j - 1 : Nat) : Int)) og
   refine wg rfl ((Aa hw5) ((jt) ?_))
   refine ⟨(j - 1, swp υ j (j - 1)), ⟨by simp only; omega, by simp only; omega, by simp only; rw [bGj haj hlj] at hsk; exact hsk⟩, by simp only; omega, [], ?_⟩
   exact Aq
set_option maxHeartbeats 2000000 in
def aTw (d : Nat -> Entry) (n : Nat) (σ : Nat -> Nat) (hn : n <= 1048576) (f : Nat) (ih : ∀ (σ : Nat -> Nat) (a m b : Nat), b - a <= f -> a < m -> m < b -> b <= n -> aH P 212 [.ref 0, Ni (a : Int), Ni (m : Int), Ni (b : Int), gO] [(0, cM d n σ)] 1 (.tup []) [(0, cM d n (lN (lE d) f σ a m b))] 1) (a m b : Nat) (hf : b - a <= f + 1) (h1 : a < m) (h2 : m < b) (h3 : b <= n) : aH P 212 [.ref 0, Ni (a : Int), Ni (m : Int), Ni (b : Int), gO] [(0, cM d n σ)] 1 (.tup []) [(0, cM d n (lN (lE d) (f + 1) σ a m b))] 1 := by
 refine (gq 220 [] func212) ?_
 simp only [cM, gO]
 have hw0 := wr ((m : Int) - (a : Int)) ((m : Int) - (a : Int)) og
 have hw12 := wr ((b : Int) - (m : Int)) ((b : Int) - (m : Int)) og
 refine sq fun k1 => sr rfl fun k2 => (Aa hw0) (k2 ((cdA) ?_ ?_)) <;> intro hc1
 . have hm : m = a + 1 := by simp at hc1; omega
   subst hm
   obtain ⟨e, he⟩ : ∃ e, e = gT (fun h => !lE d (σ h) (σ a)) b (a + 1) b := ⟨_, rfl⟩
   have hA : lN (lE d) (f + 1) σ a (a + 1) b = rot σ a (a + 1) e := by rw [lN, if_pos og, <- he]
   have hbe := Plain.bs_ok (fun h => !lE d (σ h) (σ a)) (f := b) (s := a + 1) (r := b) og og
   rw [<- he] at hbe
   refine (aj) ((aj) ?_)
   refine sq fun k5 => wb ?_
   refine wl (α := Nat × Nat) (fun x => a + 1 <= x.1 /\ x.1 <= x.2 /\ x.2 <= b /\ gT (fun h => !lE d (σ h) (σ a)) b x.1 x.2 = e) (fun x => x.2 - x.1) (fun x => ([(0, .ref 0), (1, Ni (a : Int)), (4, .fn (.func 141) [] []), (10, Ni (x.1 : Int)), (11, Ni (x.2 : Int))], [(0, .row 65 5 ((List.range n).map fun z => enA (d (σ z))))])) 1 (a + 1, b) ⟨A0 _, by simp only; omega, A0 _, he.symm⟩ [] ?_ ?_
   . exact Aq
   rintro ⟨i, j⟩ ⟨hi, hij, hj, hbs⟩
   simp only at hi hij hj hbs ⊢
   refine sq fun k6 => (aj) ((cdA) ?_ ?_) <;> intro hc2
   . have hlt : i < j := by simpa using hc2
     refine wk (k6 (wb ?_))
     have hma := wr ((i : Int) + (j : Int)) (((i + j : Nat) : Int)) og
     have hmb : IntKind.u64.wrap ((i + j : Nat) : Int) = ((i + j : Nat) : Int) := by rw [IntKind.wrap_u64]; omega
     have hmc : Int.fdiv ((i + j : Nat) : Int) (2 ^ min (Int.toNat 1) 64) = (((i + j) / 2 : Nat) : Int) := by show Int.fdiv ((i + j : Nat) : Int) 2 = _; rw [Int.fdiv_eq_ediv_of_nonneg _ og]; omega
     have hmd := wr (((i + j) / 2 : Nat) : Int) ((((i + j) / 2 : Nat) : Int)) og
     refine sr rfl fun k8 => (Ax hma hmb hmc hmd) ((jr) (k8 ?_))
     have hr1 : (List.range n)[(i + j) / 2]? = some ((i + j) / 2) := C9 og
     have hr2 : (List.range n)[a]? = some (a) := C9 og
     refine sd mixed rfl fun k9 => ?_
     simp only [go_sem, hr1, hr2, enA, D3, A2, E6]
     refine (jr) ?_
     refine tf (first := []) (cap := []) (xs := [enA (d (σ ((i + j) / 2))), enA (d (σ a))]) rfl rfl rfl (by rfl) ⟨func141, rfl, rfl⟩ (gL (d (σ ((i + j) / 2))) (d (σ a))) (by rfl) (by rfl) Ah ?_
     simp only [go_sem, pP]
     refine (jr) ((jy) (k9 ((cdA) ?_ ?_))) <;> intro hc3
     . have hwh := wr ((((i + j) / 2 : Nat) : Int) + 1) ((((i + j) / 2 + 1 : Nat) : Int)) og
       refine wg rfl ((Aa hwh) ((jt) ((jt) ?_)))
       refine ⟨((i + j) / 2 + 1, j), ⟨by simp only; omega, by simp only; omega, by simp only; omega, by simp only; rw [aAg hlt og, if_neg (by simp only [lE] at *; rw [hc3]; simp)] at hbs; exact hbs⟩, by simp only; omega, [], ?_⟩
       exact Aq
     refine wg rfl ((ja) ((jt) ((jt) ?_)))
     refine ⟨(i, (i + j) / 2), ⟨by simp only; omega, by simp only; omega, by simp only; omega, by simp only; rw [aAg hlt og, if_pos (by simp only [lE] at *; rw [hc3]; rfl)] at hbs; exact hbs⟩, by simp only; omega, [], ?_⟩
     exact Aq
   have hlt : ¬ i < j := by simpa using hc2
   have hie : e = i := by rw [<- hbs]; exact aUi hlt
   subst hie
   refine we ((jt) (k5 (sq fun k10 => (aj) (wb ?_))))
   refine wl (α := Nat) (fun x => a <= x /\ x + 1 <= e) (fun x => e - x) (fun x => ([(0, .ref 0), (10, Ni (e : Int)), (13, Ni (x : Int))], [(0, .row 65 5 ((List.range n).map fun z => enA (d (rot σ a (a + 1) (x + 1) z))))])) 1 a ⟨A0 _, og⟩ [] ?_ ?_
   . simp only [go_sem, AObj.bel, AObj.ren, AV.ren, aA, sg, bOy] <;> simp
   rintro k ⟨hk, hke⟩
   refine sq fun k12 => ?_
   have hwe := wr ((e : Int) - 1) ((e : Int) - 1) og
   refine sr rfl fun k13 => (Aa hwe) (k13 ((cdB) ?_ ?_)) <;> intro hc4
   . have hke : k + 1 = e := by simp at hc4; omega
     refine we ((jt) (k10 (wR ?_)))
     rw [hA, <- hke]; refine ⟨[], ?_⟩; exact Bo
   have hlt : k + 1 < e := by simp at hc4; omega
   refine wk (k12 (sq fun k14 => wb ?_))
   have hrow : (((List.range n).map fun z => (.agg [.raw (.string (d (rot σ a (a + 1) (k + 1) z)).key), .raw (.int .i64 (d (rot σ a (a + 1) (k + 1) z)).seq), .raw (.int .i64 (d (rot σ a (a + 1) (k + 1) z)).kind), .raw (.string (d (rot σ a (a + 1) (k + 1) z)).text), .raw (.int .i64 (d (rot σ a (a + 1) (k + 1) z)).n)])).set (k) (.agg [.raw (.string (d (rot σ a (a + 1) (k + 1) (k + 1))).key), .raw (.int .i64 (d (rot σ a (a + 1) (k + 1) (k + 1))).seq), .raw (.int .i64 (d (rot σ a (a + 1) (k + 1) (k + 1))).kind), .raw (.string (d (rot σ a (a + 1) (k + 1) (k + 1))).text), .raw (.int .i64 (d (rot σ a (a + 1) (k + 1) (k + 1))).n)])).set (k + 1) (.agg [.raw (.string (d (rot σ a (a + 1) (k + 1) (k))).key), .raw (.int .i64 (d (rot σ a (a + 1) (k + 1) (k))).seq), .raw (.int .i64 (d (rot σ a (a + 1) (k + 1) (k))).kind), .raw (.string (d (rot σ a (a + 1) (k + 1) (k))).text), .raw (.int .i64 (d (rot σ a (a + 1) (k + 1) (k))).n)]) = (List.range n).map fun z => enA (d (rot σ a (a + 1) (k + 2) z)) := by
     have h9 := aVp d n (rot σ a (a + 1) (k + 1)) (p := k) (q := k + 1) og og
     rw [bQy σ og] at h9; exact h9
   have hs1 : ∀ (y : AV), (((List.range n).map fun z => (.agg [.raw (.string (d (rot σ a (a + 1) (k + 1) z)).key), .raw (.int .i64 (d (rot σ a (a + 1) (k + 1) z)).seq), .raw (.int .i64 (d (rot σ a (a + 1) (k + 1) z)).kind), .raw (.string (d (rot σ a (a + 1) (k + 1) z)).text), .raw (.int .i64 (d (rot σ a (a + 1) (k + 1) z)).n)])).set (k) y)[k + 1]? = ((List.range n).map fun z => (.agg [.raw (.string (d (rot σ a (a + 1) (k + 1) z)).key), .raw (.int .i64 (d (rot σ a (a + 1) (k + 1) z)).seq), .raw (.int .i64 (d (rot σ a (a + 1) (k + 1) z)).kind), .raw (.string (d (rot σ a (a + 1) (k + 1) z)).text), .raw (.int .i64 (d (rot σ a (a + 1) (k + 1) z)).n)]))[k + 1]? := fun y => aMf og y
   have hr1 : (List.range n)[k]? = some (k) := C9 og
   have hr2 : (List.range n)[k + 1]? = some (k + 1) := C9 og
   have hwk := wiS k og
   refine jF mixed rfl ?_
   simp only [go_sem, hr1, hr2, hwk, hs1, enA, D3, A2, E6]
   refine (jr) ?_
   rw [hrow]
   refine (jy) ((jt) (k14 ?_))
   have hwk := wiS k og
   refine wg rfl ((Aa hwk) ((jt) ?_))
   refine ⟨k + 1, ⟨og, og⟩, og, [], ?_⟩
   exact Aq
 have hm : ¬ m - a = 1 := by simp at hc1; omega
 refine wk (k1 (sq fun k15 => sr rfl fun k16 => (Aa hw12) (k16 ((cdA) ?_ ?_)))) <;> intro hc5
 . have hb : b = m + 1 := by simp at hc5; omega
   subst hb
   obtain ⟨e, he⟩ : ∃ e, e = gT (fun h => lE d (σ m) (σ h)) m a m := ⟨_, rfl⟩
   have hB : lN (lE d) (f + 1) σ a m (m + 1) = rot σ e m (m + 1) := by rw [lN, if_neg hm, if_pos og, <- he]
   have hbe := Plain.bs_ok (fun h => lE d (σ m) (σ h)) (f := m) (s := a) (r := m) og og
   rw [<- he] at hbe
   refine (aj) ((aj) ?_)
   refine sq fun k19 => wb ?_
   refine wl (α := Nat × Nat) (fun x => a <= x.1 /\ x.1 <= x.2 /\ x.2 <= m /\ gT (fun h => lE d (σ m) (σ h)) m x.1 x.2 = e) (fun x => x.2 - x.1) (fun x => ([(0, .ref 0), (2, Ni (m : Int)), (4, .fn (.func 141) [] []), (14, Ni (x.1 : Int)), (15, Ni (x.2 : Int))], [(0, .row 65 5 ((List.range n).map fun z => enA (d (σ z))))])) 1 (a, m) ⟨A0 _, by simp only; omega, A0 _, he.symm⟩ [] ?_ ?_
   . exact Aq
   rintro ⟨i, j⟩ ⟨hi, hij, hj, hbs⟩
   simp only at hi hij hj hbs ⊢
   refine sq fun k20 => (aj) ((cdA) ?_ ?_) <;> intro hc6
   . have hlt : i < j := by simpa using hc6
     refine wk (k20 (wb ?_))
     have hma := wr ((i : Int) + (j : Int)) (((i + j : Nat) : Int)) og
     have hmb : IntKind.u64.wrap ((i + j : Nat) : Int) = ((i + j : Nat) : Int) := by rw [IntKind.wrap_u64]; omega
     have hmc : Int.fdiv ((i + j : Nat) : Int) (2 ^ min (Int.toNat 1) 64) = (((i + j) / 2 : Nat) : Int) := by show Int.fdiv ((i + j : Nat) : Int) 2 = _; rw [Int.fdiv_eq_ediv_of_nonneg _ og]; omega
     have hmd := wr (((i + j) / 2 : Nat) : Int) ((((i + j) / 2 : Nat) : Int)) og
     refine sr rfl fun k22 => (Ax hma hmb hmc hmd) ((jr) (k22 ?_))
     have hr1 : (List.range n)[(i + j) / 2]? = some ((i + j) / 2) := C9 og
     have hr2 : (List.range n)[m]? = some (m) := C9 og
     refine sd mixed rfl fun k23 => ?_
     simp only [go_sem, hr1, hr2, enA, D3, A2, E6]
     refine (jr) ?_
     refine tf (first := []) (cap := []) (xs := [enA (d (σ m)), enA (d (σ ((i + j) / 2)))]) rfl rfl rfl (by rfl) ⟨func141, rfl, rfl⟩ (gL (d (σ m)) (d (σ ((i + j) / 2)))) (by rfl) (by rfl) Ah ?_
     simp only [go_sem, pP]
     refine (jr) ((jy) (k23 ((cdA) ?_ ?_))) <;> intro hc7
     . have hwh := wr ((((i + j) / 2 : Nat) : Int) + 1) ((((i + j) / 2 + 1 : Nat) : Int)) og
       refine wg rfl ((Aa hwh) ((jt) ((jt) ?_)))
       refine ⟨((i + j) / 2 + 1, j), ⟨by simp only; omega, by simp only; omega, by simp only; omega, by simp only; rw [aAg hlt og, if_neg (by simp only [lE] at *; simpa using hc7)] at hbs; exact hbs⟩, by simp only; omega, [], ?_⟩
       exact Aq
     refine wg rfl ((ja) ((jt) ((jt) ?_)))
     refine ⟨(i, (i + j) / 2), ⟨by simp only; omega, by simp only; omega, by simp only; omega, by simp only; rw [aAg hlt og, if_pos (by simp only [lE] at *; simpa using hc7)] at hbs; exact hbs⟩, by simp only; omega, [], ?_⟩
     exact Aq
   have hlt : ¬ i < j := by simpa using hc6
   have hie : e = i := by rw [<- hbs]; exact aUi hlt
   subst hie
   refine we ((jt) (k19 (sq fun k24 => (aj) (wb ?_))))
   refine wl (α := Nat) (fun x => e <= x /\ x <= m) (fun x => x - e) (fun x => ([(0, .ref 0), (14, Ni (e : Int)), (17, Ni (x : Int))], [(0, .row 65 5 ((List.range n).map fun z => enA (d (rot σ x m (m + 1) z))))])) 1 m ⟨og, A0 _⟩ [] ?_ ?_
   . simp only [go_sem, AObj.bel, AObj.ren, AV.ren, aA, sg, bOf] <;> simp
   rintro k ⟨hk, hkm⟩
   refine sq fun k26 => (aj) ((cdB) ?_ ?_) <;> intro hc8
   . have hke : k = e := by have h9 : ¬ e < k := (by simpa using hc8); omega
     refine we ((jt) (k24 (wR ?_)))
     rw [hB, <- hke]; refine ⟨[], ?_⟩; exact Bo
   have hlt : e < k := by simpa using hc8
   refine wk (k26 (sq fun k28 => wb ?_))
   have hrow : (((List.range n).map fun z => (.agg [.raw (.string (d (rot σ k m (m + 1) z)).key), .raw (.int .i64 (d (rot σ k m (m + 1) z)).seq), .raw (.int .i64 (d (rot σ k m (m + 1) z)).kind), .raw (.string (d (rot σ k m (m + 1) z)).text), .raw (.int .i64 (d (rot σ k m (m + 1) z)).n)])).set (k) (.agg [.raw (.string (d (rot σ k m (m + 1) (k - 1))).key), .raw (.int .i64 (d (rot σ k m (m + 1) (k - 1))).seq), .raw (.int .i64 (d (rot σ k m (m + 1) (k - 1))).kind), .raw (.string (d (rot σ k m (m + 1) (k - 1))).text), .raw (.int .i64 (d (rot σ k m (m + 1) (k - 1))).n)])).set (k - 1) (.agg [.raw (.string (d (rot σ k m (m + 1) (k))).key), .raw (.int .i64 (d (rot σ k m (m + 1) (k))).seq), .raw (.int .i64 (d (rot σ k m (m + 1) (k))).kind), .raw (.string (d (rot σ k m (m + 1) (k))).text), .raw (.int .i64 (d (rot σ k m (m + 1) (k))).n)]) = (List.range n).map fun z => enA (d (rot σ (k - 1) m (m + 1) z)) := by
     have h9 := aVp d n (rot σ k m (m + 1)) (p := k) (q := k - 1) og og
     rw [bQd σ og og] at h9; exact h9
   have hs1 : ∀ (y : AV), (((List.range n).map fun z => (.agg [.raw (.string (d (rot σ k m (m + 1) z)).key), .raw (.int .i64 (d (rot σ k m (m + 1) z)).seq), .raw (.int .i64 (d (rot σ k m (m + 1) z)).kind), .raw (.string (d (rot σ k m (m + 1) z)).text), .raw (.int .i64 (d (rot σ k m (m + 1) z)).n)])).set (k) y)[k - 1]? = ((List.range n).map fun z => (.agg [.raw (.string (d (rot σ k m (m + 1) z)).key), .raw (.int .i64 (d (rot σ k m (m + 1) z)).seq), .raw (.int .i64 (d (rot σ k m (m + 1) z)).kind), .raw (.string (d (rot σ k m (m + 1) z)).text), .raw (.int .i64 (d (rot σ k m (m + 1) z)).n)]))[k - 1]? := fun y => aMf og y
   have hr1 : (List.range n)[k]? = some (k) := C9 og
   have hr2 : (List.range n)[k - 1]? = some (k - 1) := C9 og
   have hwk := wr ((k : Int) - 1) ((k : Int) - 1) og
   have hpn : ((k : Int) - 1).toNat = k - 1 := by omega
   refine jF mixed rfl ?_
   refine (Dg hr1 hr2 hwk hpn hs1) ((jr) ?_)
   rw [hrow]
   refine (jy) ((jt) (k28 ?_))
   have hwk2 := wr ((k : Int) - 1) (((k - 1 : Nat) : Int)) og
   refine wg rfl ((Aa hwk2) ((jt) ?_))
   refine ⟨k - 1, ⟨og, og⟩, og, [], ?_⟩
   exact Aq
 have hb : ¬ b - m = 1 := by simp at hc5; omega
 have hcut := Plain.symCut_ok (l := lE d) (σ := σ) h1 h2
 obtain ⟨mid, hmid⟩ : ∃ mid, mid = (a + b) / 2 := ⟨_, rfl⟩
 obtain ⟨st, hst⟩ : ∃ st, st = iK (lE d) σ a m b := ⟨_, rfl⟩
 obtain ⟨en, hen⟩ : ∃ en, en = mid + m - st := ⟨_, rfl⟩
 rw [<- hst, <- hmid, <- hen] at hcut
 obtain ⟨k1, k2, k3, k4, k5, -, -⟩ := hcut
 obtain ⟨s0, hs0⟩ : ∃ s0, s0 = if mid < m then mid + m - b else a := ⟨_, rfl⟩
 obtain ⟨r0, hr0⟩ : ∃ r0, r0 = if mid < m then mid else m := ⟨_, rfl⟩
 have he : st = gT (fun c => lE d (σ (mid + m - 1 - c)) (σ c)) b s0 r0 := by rw [hst, hs0, hr0, hmid]; rfl
 have hsb : s0 <= r0 /\ mid + m <= b + s0 /\ r0 <= mid /\ r0 <= m /\ a <= s0 := by rw [hs0, hr0]; split <;> omega
 obtain ⟨σ1, hσ1⟩ : ∃ σ1, σ1 = if st < m /\ m < en then rot σ st m en else σ := ⟨_, rfl⟩
 obtain ⟨σ2, hσ2⟩ : ∃ σ2, σ2 = if a < st /\ st < mid then lN (lE d) f σ1 a st mid else σ1 := ⟨_, rfl⟩
 have hC : lN (lE d) (f + 1) σ a m b = if mid < en /\ en < b then lN (lE d) f σ2 mid en b else σ2 := by
   rw [lN, if_neg hm, if_neg hb]; simp only; rw [hσ2, hσ1, hen, hst, hmid]
 have hmid2 : (a + b) / 2 = mid := hmid.symm
 refine wk (k15 ?_)
 have hma := wr ((a : Int) + (b : Int)) (((a + b : Nat) : Int)) og
 have hmb : IntKind.u64.wrap ((a + b : Nat) : Int) = ((a + b : Nat) : Int) := by rw [IntKind.wrap_u64]; omega
 have hmc : Int.fdiv ((a + b : Nat) : Int) (2 ^ min (Int.toNat 1) 64) = (((a + b) / 2 : Nat) : Int) := by show Int.fdiv ((a + b : Nat) : Int) 2 = _; rw [Int.fdiv_eq_ediv_of_nonneg _ og]; omega
 have hmd := wr (((a + b) / 2 : Nat) : Int) ((((a + b) / 2 : Nat) : Int)) og
 rw [hmid2] at hmc hmd
 refine sr rfl fun k29 => (Ax hma hmb hmc hmd) ((jr) (k29 ?_))
 have hwn := wr ((mid : Int) + (m : Int)) (((mid + m : Nat) : Int)) og
 refine sr rfl fun k30 => (Aa hwn) (k30 ((aj) ?_))
 refine vW (α := Unit) (fun x => True) (fun x => ([(0, .ref 0), (1, Ni (a : Int)), (2, Ni (m : Int)), (3, Ni (b : Int)), (4, .fn (.func 141) [] []), (18, Ni (mid : Int)), (19, Ni ((mid + m : Nat) : Int)), (20, Ni (s0 : Int)), (21, Ni (r0 : Int))], [(0, .row 65 5 ((List.range n).map fun z => enA (d (σ z))))])) 1 ?_ ?_
 . refine (aj) ((cdA) ?_ ?_) <;> intro hc9
   . have hlt : mid < m := by simpa using hc9
     have q1 : s0 = mid + m - b := by rw [hs0, if_pos hlt]
     have q2 : r0 = mid := by rw [hr0, if_pos hlt]
     have hws := wr (((mid + m : Nat) : Int) - (b : Int)) (((mid + m - b : Nat) : Int)) og
     refine sr rfl fun k34 => (Aa hws) (k34 (wg rfl ((ja) ?_)))
     try simp only [aCx]
     refine ⟨(), trivial, [], ?_⟩
     simp only [go_sem, AObj.bel, AObj.ren, AV.ren, aA, sg, Int.natCast_zero] <;> simp [enA, q1, q2]
   have hlt : ¬ mid < m := by simpa using hc9
   have q1 : s0 = a := by rw [hs0, if_neg hlt]
   have q2 : r0 = m := by rw [hr0, if_neg hlt]
   refine (aj) ?_
   refine wg rfl ((ja) ?_)
   try simp only [aCx]
   refine ⟨(), trivial, [], ?_⟩
   simp only [go_sem, AObj.bel, AObj.ren, AV.ren, aA, sg, Int.natCast_zero] <;> simp [enA, q1, q2]
 rintro ⟨⟩ -
 have hwp := wr (((mid + m : Nat) : Int) - 1) (((mid + m - 1 : Nat) : Int)) og
 refine sr rfl fun k36 => (Aa hwp) (k36 (sq fun k37 => wb ?_))
 refine wl (α := Nat × Nat) (fun x => s0 <= x.1 /\ x.1 <= x.2 /\ x.2 <= r0 /\ gT (fun c => lE d (σ (mid + m - 1 - c)) (σ c)) b x.1 x.2 = st) (fun x => x.2 - x.1) (fun x => ([(0, .ref 0), (1, Ni (a : Int)), (2, Ni (m : Int)), (3, Ni (b : Int)), (4, .fn (.func 141) [] []), (18, Ni (mid : Int)), (19, Ni ((mid + m : Nat) : Int)), (20, Ni (x.1 : Int)), (21, Ni (x.2 : Int)), (22, Ni ((mid + m - 1 : Nat) : Int))], [(0, .row 65 5 ((List.range n).map fun z => enA (d (σ z))))])) 1 (s0, r0) ⟨A0 _, by simp only; omega, A0 _, he.symm⟩ [] ?_ ?_
 . exact Aq
 rintro ⟨i, j⟩ ⟨hi, hij, hj, hbs⟩
 simp only at hi hij hj hbs ⊢
 refine sq fun k38 => (aj) ((cdA) ?_ ?_) <;> intro hc10
 . have hlt : i < j := by simpa using hc10
   refine wk (k38 (wb ?_))
   have hma := wr ((i : Int) + (j : Int)) (((i + j : Nat) : Int)) og
   have hmb : IntKind.u64.wrap ((i + j : Nat) : Int) = ((i + j : Nat) : Int) := by rw [IntKind.wrap_u64]; omega
   have hmc : Int.fdiv ((i + j : Nat) : Int) (2 ^ min (Int.toNat 1) 64) = (((i + j) / 2 : Nat) : Int) := by show Int.fdiv ((i + j : Nat) : Int) 2 = _; rw [Int.fdiv_eq_ediv_of_nonneg _ og]; omega
   have hmd := wr (((i + j) / 2 : Nat) : Int) ((((i + j) / 2 : Nat) : Int)) og
   refine sr rfl fun k40 => (Ax hma hmb hmc hmd) ((jr) (k40 ?_))
   have hr1 : (List.range n)[mid + m - 1 - (i + j) / 2]? = some (mid + m - 1 - (i + j) / 2) := C9 og
   have hr2 : (List.range n)[(i + j) / 2]? = some ((i + j) / 2) := C9 og
   have hwpc := wr (((mid + m - 1 : Nat) : Int) - (((i + j) / 2 : Nat) : Int)) (((mid + m - 1 - (i + j) / 2 : Nat) : Int)) og
   refine sd mixed rfl fun k41 => ?_
   simp only [go_sem, hr1, hr2, hwpc, enA, D3, A2, E6]
   refine (jr) ?_
   refine tf (first := []) (cap := []) (xs := [enA (d (σ (mid + m - 1 - (i + j) / 2))), enA (d (σ ((i + j) / 2)))]) rfl rfl rfl (by rfl) ⟨func141, rfl, rfl⟩ (gL (d (σ (mid + m - 1 - (i + j) / 2))) (d (σ ((i + j) / 2)))) (by rfl) (by rfl) Ah ?_
   simp only [go_sem, pP]
   refine (jr) ((jy) (k41 ((cdA) ?_ ?_))) <;> intro hc11
   . have hwh := wr ((((i + j) / 2 : Nat) : Int) + 1) ((((i + j) / 2 + 1 : Nat) : Int)) og
     refine wg rfl ((Aa hwh) ((jt) ((jt) ?_)))
     refine ⟨((i + j) / 2 + 1, j), ⟨by simp only; omega, by simp only; omega, by simp only; omega, by simp only; rw [aAg hlt og, if_neg (by simp only [lE] at *; simpa using hc11)] at hbs; exact hbs⟩, by simp only; omega, [], ?_⟩
     exact Aq
   refine wg rfl ((ja) ((jt) ((jt) ?_)))
   refine ⟨(i, (i + j) / 2), ⟨by simp only; omega, by simp only; omega, by simp only; omega, by simp only; rw [aAg hlt og, if_pos (by simp only [lE] at *; simpa using hc11)] at hbs; exact hbs⟩, by simp only; omega, [], ?_⟩
   exact Aq
 have hlt : ¬ i < j := by simpa using hc10
 have hie : st = i := by rw [<- hbs]; exact aUi hlt
 rw [<- hie]
 refine we ((jt) (k37 ?_))
 have hwen := wr (((mid + m : Nat) : Int) - (st : Int)) ((en : Int)) og
 refine sr rfl fun k42 => (Aa hwen) (k42 ?_)
 refine vW (α := Unit) (fun x => True) (fun x => ([(0, .ref 0), (1, Ni (a : Int)), (3, Ni (b : Int)), (4, .fn (.func 141) [] []), (18, Ni (mid : Int)), (20, Ni (st : Int)), (24, Ni (en : Int))], [(0, .row 65 5 ((List.range n).map fun z => enA (d (σ1 z))))])) 1 ?_ ?_
 . refine (aj) ((cdB) ?_ ?_) <;> intro hc12
   . have hx : ¬ (st < m /\ m < en) := by intro h; simp at hc12; omega
     have q1 : σ1 = σ := by rw [hσ1, if_neg hx]
     refine wk ?_; try simp only [aCx]
     refine ⟨(), trivial, [], ?_⟩
     simp only [go_sem, AObj.bel, AObj.ren, AV.ren, aA, sg, Int.natCast_zero] <;> simp [enA, q1]
   have hx : st < m /\ m < en := by simp at hc12; omega
   have q1 : σ1 = rot σ st m en := by rw [hσ1, if_pos hx]
   refine wg rfl ((ja) ?_)
   refine vg [] 0 rfl rfl rfl ⟨func230, rfl, rfl⟩ (mN d n σ hn st m en hx.1 hx.2 og) rfl An An (nS (H1 := []) (.inl rfl) Be Bf) (.inl rfl) ?_
   refine (Bd) ?_
   try simp only [aCx]
   refine ⟨(), trivial, [], ?_⟩
   simp only [go_sem, AObj.bel, AObj.ren, AV.ren, aA, sg, Int.natCast_zero] <;> simp [enA, q1]
 rintro ⟨⟩ -
 refine vW (α := Unit) (fun x => True) (fun x => ([(0, .ref 0), (3, Ni (b : Int)), (4, .fn (.func 141) [] []), (18, Ni (mid : Int)), (24, Ni (en : Int))], [(0, .row 65 5 ((List.range n).map fun z => enA (d (σ2 z))))])) 1 ?_ ?_
 . refine (aj) ((cdB) ?_ ?_) <;> intro hc13
   . have hx : ¬ (a < st /\ st < mid) := by intro h; simp at hc13; omega
     have q1 : σ2 = σ1 := by rw [hσ2, if_neg hx]
     refine wk ?_; try simp only [aCx]
     refine ⟨(), trivial, [], ?_⟩
     simp only [go_sem, AObj.bel, AObj.ren, AV.ren, aA, sg, Int.natCast_zero] <;> simp [enA, q1]
   have hx : a < st /\ st < mid := by simp at hc13; omega
   have q1 : σ2 = lN (lE d) f σ1 a st mid := by rw [hσ2, if_pos hx]
   refine wg rfl ((ja) ?_)
   refine vg [] 0 rfl rfl rfl ⟨func212, rfl, rfl⟩ (ih σ1 a st mid og hx.1 hx.2 og) rfl An An (nS (H1 := []) (.inl rfl) Be Bf) (.inl rfl) ?_
   refine (Bd) ?_
   try simp only [aCx]
   refine ⟨(), trivial, [], ?_⟩
   simp only [go_sem, AObj.bel, AObj.ren, AV.ren, aA, sg, Int.natCast_zero] <;> simp [enA, q1]
 rintro ⟨⟩ -
 refine (aj) ((cdB) ?_ ?_) <;> intro hc14
 . have hx : ¬ (mid < en /\ en < b) := by intro h; simp at hc14; omega
   rw [hC, if_neg hx]; refine wk ?_; refine ⟨[], ?_⟩; exact Bo
 have hx : mid < en /\ en < b := by simp at hc14; omega
 rw [hC, if_pos hx]
 refine wg rfl ((ja) ?_)
 refine vg [] 0 rfl rfl rfl ⟨func212, rfl, rfl⟩ (ih σ2 mid en b og hx.1 hx.2 h3) rfl An An (nS (H1 := []) (.inl rfl) Be Bf) (.inl rfl) ?_
 refine (Bd) ?_
 refine ⟨[], ?_⟩; exact Bo
def aDb (d : Nat -> Entry) (n : Nat) (hn : n <= 1048576) : ∀ (f : Nat) (σ : Nat -> Nat) (a m b : Nat), b - a <= f -> a < m -> m < b -> b <= n ->
    aH P 212 [.ref 0, .raw (.int .i64 (a : Int)), .raw (.int .i64 (m : Int)), .raw (.int .i64 (b : Int)), gO] [(0, cM d n σ)] 1 (.tup []) [(0, cM d n (lN (lE d) f σ a m b))] 1
  | 0, _, _, _, _, h, h1, h2, _ => by omega
  | f + 1, σ, a, m, b, h, h1, h2, h3 => aTw d n σ hn f (aDb d n hn f) a m b h h1 h2 h3
end
end Go.Proofs.S
end
section
open Go Go.Abs Go.Proofs Go.Proofs.Tryz
open Go.Plain (mK mW pC nN aJr gK lN swp rot)
namespace Go.Proofs.S
section
variable {σ : Nat -> Nat} {n bs f a : Nat}
def bMb {l : Nat -> Nat -> Bool} (h : a + bs <= n) : mK l n bs (f + 1) σ a = mK l n bs f (gK l σ a (a + bs)) (a + bs) := by rw [mK, if_pos h]
def bLe {l : Nat -> Nat -> Bool} (h : ¬ a + bs <= n) : mK l n bs f σ a = (σ, a) := by
  cases f with
  | zero => rfl
  | succ f => rw [mK, if_neg h]
def bKr {l : Nat -> Nat -> Bool} (h : a + 2 * bs <= n) : mW l n bs (f + 1) σ a = mW l n bs f (lN l n σ a (a + bs) (a + 2 * bs)) (a + 2 * bs) := by rw [mW, if_pos h]
def bJt {l : Nat -> Nat -> Bool} (h : ¬ a + 2 * bs <= n) : mW l n bs f σ a = (σ, a) := by
  cases f with
  | zero => rfl
  | succ f => rw [mW, if_neg h]
def aRf {l : Nat -> Nat -> Bool} (h : bs < n) : nN l n (f + 1) bs σ = nN l n f (2 * bs) (pC l n bs (mW l n bs n σ 0)) := by rw [nN, if_pos h]
def bHh {l : Nat -> Nat -> Bool} (h : ¬ bs < n) : nN l n f bs σ = σ := by
  cases f with
  | zero => rfl
  | succ f => rw [nN, if_neg h]
def bKa (l : Nat -> Nat -> Bool) (n : Nat) (h : mK l n 20 n id 0 = (σ, a)) : aJr l n = nN l n n 20 (gK l σ a n) := by unfold aJr; rw [h]
def dJ (ls : List Entry) : List Entry := ls.foldl gD []
def bKq (ls : List Entry) (e : Entry) : ∀ k, k <= ls.length -> Plain.pos entLt ls e k = aBe ls e k
  | 0, _ => rfl
  | k + 1, h => by
    unfold Plain.pos aBe; rw [A1 og]; simp only [Option.getD_some]; rw [bKq ls e k og]
def bLz (ls : List Entry) (e : Entry) : Plain.put entLt ls e = gD ls e := by
  unfold Plain.put gD aCu; rw [bKq ls e ls.length (A0 _)]
def zY (ls : List Entry) : dJ ls = ls.foldl (Plain.put entLt) [] := by
  unfold dJ
  have : gD = Plain.put entLt := by funext a b; exact (bLz a b).symm
  rw [this]
def dOf (ls : List Entry) : Nat -> Entry := fun k => ls.getD k nH
def bEg {ls : List Entry} {k : Nat} (h : k < ls.length) : ls[k]? = some (dOf ls k) := by simp [dOf, F7, A1 h]
def bOa (ls : List Entry) : ls.map enA = (List.range ls.length).map fun k => enA (dOf ls (id k)) := by
  refine List.ext_getElem? fun i => ?_
  rw [B5, B5]
  by_cases h : i < ls.length
  . rw [bEg h, C9 h]; rfl
  rw [D6 og, D6 (by simp; omega)]; rfl
def bJk (ls : List Entry) : ((List.range ls.length).map fun k => enA (dOf ls (aJr (lE (dOf ls)) ls.length k))) = (dJ ls).map enA := by
  rw [zY, <- Plain.stab_list (lt := entLt) (dOf ls) ls (fun i hi => bEg hi) (mY.orders _), List.map_map]; rfl
def lZ (ls : List Entry) : (dJ ls).Perm ls := by rw [zY]; exact (Plain.put_sorted mY ls).2
def rN (ls : List Entry) : (dJ ls).length = ls.length := (lZ ls).length_eq
def bLs (a b : Nat) : ∀ (i : Nat) (out : Int), aOf (a : Int) (b : Int) i out = out * 2 ^ i + (((a ||| b) % 2 ^ i : Nat) : Int)
  | 0, out => by simp [aOf, Nat.mod_one]
  | i + 1, out => by
    unfold aOf
    have hT : orT (a : Int) (b : Int) i = (a ||| b).testBit i := by
      unfold orT; rw [Nat.testBit_or, Nat.testBit_eq_decide_div_mod_eq, Nat.testBit_eq_decide_div_mod_eq]
      have h2 : (2 : Int) ^ i = ((2 ^ i : Nat) : Int) := by norm_cast
      rw [h2, <- Int.ofNat_tdiv, <- Int.ofNat_tdiv]
      have e2 : (2 : Int) = ((2 : Nat) : Int) := rfl
      rw [e2, <- Int.ofNat_tmod, <- Int.ofNat_tmod]
      congr 1 <;> exact decide_eq_decide.2 og
    have hm : (a ||| b) % 2 ^ (i + 1) = (a ||| b) % 2 ^ i + (if (a ||| b).testBit i = true then 2 ^ i else 0) := by
      rw [Nat.pow_succ, Nat.mod_mul, Nat.testBit_eq_decide_div_mod_eq]
      rcases Nat.mod_two_eq_zero_or_one ((a ||| b) / 2 ^ i) with h | h
      . rw [h]; simp
      rw [h]; simp
    rw [hT, bLs a b i, hm]
    have h2 : (2 : Int) ^ (i + 1) = 2 * 2 ^ i := by rw [Int.pow_succ]; omega
    have h3 : (((2 ^ i : Nat)) : Int) = (2 : Int) ^ i := by norm_cast
    rw [h2]; split
    . rename_i h
      simp only [if_pos h, Int.natCast_add, h3]; rw [Int.add_mul, Int.mul_assoc]; omega
    rename_i h
    simp only [if_neg h, Nat.add_zero]; rw [Int.mul_assoc]
def bLw (a b : Int) (ha : 0 <= a) (ha1 : a <= 65535) (hb : 0 <= b) (hb1 : b <= 65535) : IntKind.i64.wrap (((BitVec.ofInt 64 a ||| BitVec.ofInt 64 b).toNat : Nat) : Int) = orZ a b := by
  obtain ⟨m, rfl⟩ := Int.eq_ofNat_of_zero_le ha
  obtain ⟨n, rfl⟩ := Int.eq_ofNat_of_zero_le hb
  have hm : m < 2 ^ 16 := by omega
  have hn : n < 2 ^ 16 := by omega
  have h16 := Nat.or_lt_two_pow hm hn
  have e1 : (BitVec.ofInt 64 (m : Int) ||| BitVec.ofInt 64 (n : Int)).toNat = m ||| n := by
    rw [BitVec.toNat_or, BitVec.ofInt_natCast, BitVec.ofInt_natCast, BitVec.toNat_ofNat, BitVec.toNat_ofNat, Nat.mod_eq_of_lt og, Nat.mod_eq_of_lt og]
  rw [e1]; unfold orZ; rw [bLs, Nat.mod_eq_of_lt h16, IntKind.wrap_i64]; omega
def dO (ls : List Entry) : Run × Bool := if (ls.length < 1 ∨ 150 < ls.length) ∨ cV (dJ ls) = false then (xJ, false) else (⟨dJ ls, mA (dJ ls)⟩, true)
def mO (d : Nat -> Entry) (n : Nat) (hn : n <= 1048576) : aH P 187 [.ref 0, Ni (n : Int), gO] [(0, cM d n id)] 1 (.tup []) [(0, cM d n (aJr (lE d) n))] 1 := by
 refine (gq 63 [] func187) ?_
 simp only [cM, gO]
 refine (aj) ((aj) ?_)
 refine sq fun k3 => wb ?_
 refine wl (α := Nat × Nat × (Nat -> Nat)) (fun x => x.2.1 <= n /\ n <= x.1 + x.2.1 /\ mK (lE d) n 20 x.1 x.2.2 x.2.1 = mK (lE d) n 20 n id 0) (fun x => n - x.2.1) (fun x => ([(0, .ref 0), (1, Ni (n : Int)), (2, .fn (.func 141) [] []), (6, Ni 20), (7, Ni (x.2.1 : Int)), (8, Ni ((x.2.1 + 20 : Nat) : Int))], [(0, .row 65 5 ((List.range n).map fun z => enA (d (x.2.2 z))))])) 1 (n, 0, id) ⟨A6 _, A0 _, rfl⟩ [] ?_ ?_
 . exact Aq
 rintro ⟨f, a, τ⟩ ⟨ha, hf, hgo⟩
 simp only at ha hf hgo ⊢
 refine sq fun k4 => (aj) ((cdA) ?_ ?_) <;> intro hc1
 . have hlt : a + 20 <= n := by simp at hc1; omega
   obtain ⟨g, rfl⟩ : ∃ g, f = g + 1 := ⟨f - 1, og⟩
   refine wk (k4 (wb (sr rfl fun k6 => (ja) ?_)))
   refine vg [] 0 rfl rfl rfl ⟨func211, rfl, rfl⟩ (dS d n τ hn a (a + 20) hlt og) rfl An An (nS (H1 := []) (.inl rfl) Be Bf) (.inl rfl) ?_
   refine (Bd) (k6 ((aj) ?_))
   have hw5 := wr (((a + 20 : Nat) : Int) + 20) (((a + 20 + 20 : Nat) : Int)) og
   refine wg rfl ((Aa hw5) ((jt) ((jt) ?_)))
   refine ⟨(g, a + 20, gK (lE d) τ a (a + 20)), ⟨by simp only; omega, by simp only; omega, by simp only; rw [bMb hlt] at hgo; exact hgo⟩, by simp only; omega, [], ?_⟩
   exact Aq
 have hlt : ¬ a + 20 <= n := by simp at hc1; omega
 rw [bLe hlt] at hgo
 replace hgo := hgo.symm
 refine we ((jt) (k3 (sr rfl fun k8 => (ja) ?_)))
 refine vg [] 0 rfl rfl rfl ⟨func211, rfl, rfl⟩ (dS d n τ hn a n (A0 _) ha) rfl An An (nS (H1 := []) (.inl rfl) Be Bf) (.inl rfl) ?_
 refine (Bd) (k8 (wb ?_))
 refine wl (α := Nat × Nat × (Nat -> Nat)) (fun x => 20 <= x.2.1 /\ n <= x.1 + x.2.1 /\ x.2.1 <= 2097172 /\ nN (lE d) n x.1 x.2.1 x.2.2 = aJr (lE d) n) (fun x => n - x.2.1) (fun x => ([(0, .ref 0), (1, Ni (n : Int)), (2, .fn (.func 141) [] []), (6, Ni (x.2.1 : Int))], [(0, .row 65 5 ((List.range n).map fun z => enA (d (x.2.2 z))))])) 1 (n, 20, gK (lE d) τ a n) ⟨A0 _, by simp only; omega, by simp only; omega, (bKa (lE d) n hgo).symm⟩ [] ?_ ?_
 . exact Aq
 rintro ⟨f, bs, υ⟩ ⟨hb, hf2, hbm, hst⟩
 simp only at hb hf2 hbm hst ⊢
 refine sq fun k9 => (aj) ((cdB) ?_ ?_) <;> intro hc2
 . have hlt2 : ¬ bs < n := by simp at hc2; omega
   rw [bHh hlt2] at hst
   refine we ((jt) ?_)
   rw [<- hst]; refine ⟨[], ?_⟩; exact Bo
 have hlt2 : bs < n := by simp at hc2; omega
 obtain ⟨g, rfl⟩ : ∃ g, f = g + 1 := ⟨f - 1, og⟩
 refine wk (k9 (wb ?_))
 have hw8 := wr (2 * (bs : Int)) (((2 * bs : Nat) : Int)) og
 refine sr rfl fun k11 => (Aa hw8) (k11 (sq fun k12 => wb ?_))
 refine wl (α := Nat × Nat × (Nat -> Nat)) (fun x => x.2.1 <= n /\ n <= x.1 + x.2.1 /\ mW (lE d) n bs x.1 x.2.2 x.2.1 = mW (lE d) n bs n υ 0) (fun x => n - x.2.1) (fun x => ([(0, .ref 0), (1, Ni (n : Int)), (2, .fn (.func 141) [] []), (6, Ni (bs : Int)), (7, Ni (x.2.1 : Int)), (8, Ni ((x.2.1 + 2 * bs : Nat) : Int))], [(0, .row 65 5 ((List.range n).map fun z => enA (d (x.2.2 z))))])) 1 (n, 0, υ) ⟨A6 _, A0 _, rfl⟩ [] ?_ ?_
 . simp only [go_sem, AObj.bel, AObj.ren, AV.ren, aA, sg, Int.natCast_zero, C5] <;> simp
 rintro ⟨f3, a3, ω⟩ ⟨ha3, hf3, hgo3⟩
 simp only at ha3 hf3 hgo3 ⊢
 refine sq fun k13 => (aj) ((cdA) ?_ ?_) <;> intro hc3
 . have hlt3 : a3 + 2 * bs <= n := by simp at hc3; omega
   obtain ⟨g3, rfl⟩ : ∃ g, f3 = g + 1 := ⟨f3 - 1, og⟩
   refine wk (k13 (wb ?_))
   have hw10 := wr ((a3 : Int) + (bs : Int)) (((a3 + bs : Nat) : Int)) og
   refine sr rfl fun k15 => (Aa hw10) ?_
   refine vg [] 0 rfl rfl rfl ⟨func212, rfl, rfl⟩ (aDb d n hn n ω a3 (a3 + bs) (a3 + 2 * bs) og og og hlt3) rfl An An (nS (H1 := []) (.inl rfl) Be Bf) (.inl rfl) ?_
   refine (Bd) (k15 ((aj) ?_))
   have hw8 := wr (2 * (bs : Int)) (((2 * bs : Nat) : Int)) og
   have hw12 := wr (((a3 + 2 * bs : Nat) : Int) + ((2 * bs : Nat) : Int)) (((a3 + 2 * bs + 2 * bs : Nat) : Int)) og
   refine wg rfl ((Ar hw8 hw12) ((jt) ((jt) ?_)))
   refine ⟨(g3, a3 + 2 * bs, lN (lE d) n ω a3 (a3 + bs) (a3 + 2 * bs)), ⟨by simp only; omega, by simp only; omega, by simp only; rw [bKr hlt3] at hgo3; exact hgo3⟩, by simp only; omega, [], ?_⟩
   exact Aq
 have hlt3 : ¬ a3 + 2 * bs <= n := by simp at hc3; omega
 rw [bJt hlt3] at hgo3
 refine we ((jt) (k12 (sq fun k17 => ?_)))
 have hw13 := wr ((a3 : Int) + (bs : Int)) (((a3 + bs : Nat) : Int)) og
 refine sr rfl fun k18 => (Aa hw13) (k18 ((aj) ((cdB) ?_ ?_))) <;> intro hc4
 . have hx : ¬ a3 + bs < n := by simp at hc4; omega
   have hend : pC (lE d) n bs (mW (lE d) n bs n υ 0) = ω := by rw [<- hgo3]; unfold pC; exact if_neg hx
   refine wk (k17 ?_)
   have hw16 := wr ((bs : Int) * 2) (((2 * bs : Nat) : Int)) og
   refine wg rfl ((Aa hw16) ((jt) ((jt) ?_)))
   refine ⟨(g, 2 * bs, pC (lE d) n bs (mW (lE d) n bs n υ 0)), ⟨by simp only; omega, by simp only; omega, by simp only; omega, by simp only; rw [aRf hlt2] at hst; exact hst⟩, by simp only; omega, [], ?_⟩
   exact Cs hend
 have hx : a3 + bs < n := by simp at hc4; omega
 have hend : pC (lE d) n bs (mW (lE d) n bs n υ 0) = lN (lE d) n ω a3 (a3 + bs) n := by rw [<- hgo3]; unfold pC; exact if_pos hx
 refine wg rfl ((ja) ?_)
 refine vg [] 0 rfl rfl rfl ⟨func212, rfl, rfl⟩ (aDb d n hn n ω a3 (a3 + bs) n og og og (A0 _)) rfl An An (nS (H1 := []) (.inl rfl) Be Bf) (.inl rfl) ?_
 refine (Bd) (k17 ?_)
 have hw16 := wr ((bs : Int) * 2) (((2 * bs : Nat) : Int)) og
 refine wg rfl ((Aa hw16) ((jt) ((jt) ?_)))
 refine ⟨(g, 2 * bs, pC (lE d) n bs (mW (lE d) n bs n υ 0)), ⟨by simp only; omega, by simp only; omega, by simp only; omega, by simp only; rw [aRf hlt2] at hst; exact hst⟩, by simp only; omega, [], ?_⟩
 exact Cs hend
def bIz (d : Nat -> Entry) (n : Nat) (hn : n <= 1048576) : aH P 140 [.ref 0, gO] [(0, cM d n id)] 1 (.tup []) [(0, cM d n (aJr (lE d) n))] 1 := by
 refine (gq 9 [] func140) ?_
 simp only [cM, gO]; refine wg rfl ?_; simp only [go_sem, D3, A2, E6]
 refine vg [] 0 rfl rfl rfl ⟨func187, rfl, rfl⟩ (mO d n hn) rfl An An (nS (H1 := []) (.inl rfl) Be Bf) (.inl rfl) ?_
 refine (Bd) ?_
 refine ⟨[], ?_⟩; exact Bo
def bAv (ls : List Entry) (h : ls.length <= 1048576) : aH P 140 [.ref 0, gO] [(0, .row 65 5 (ls.map enA))] 1 (.tup []) [(0, .row 65 5 ((dJ ls).map enA))] 1 := by
  have := bIz (dOf ls) ls.length h
  unfold cM at this; rw [bJk, <- bOa] at this; exact this
end
end Go.Proofs.S
end
