/-
  The law FnStoreLog answers true for every input, and leaves its arguments as they were: the tied card. Conditions: those of the given row and card, none of its own (the listed variables as the program's text lays them).
-/
import Derived.Test.YtaaomkdcmncjnaaGreatDoorP6
import Derived.Test.YtaaomkdcmncjnaaGreatDoorTie
import Derived.Test.YtaaomkdcmncjnaaGreatDoorCards
import Derived.SevenTiedAt
set_option linter.all false
set_option maxRecDepth 100000
section
open Go Go.Abs Go.Proofs Go.Proofs.Tryz
namespace Go.Proofs.S
section
variable {n m i L j p : Nat} {lv more : List Nat} {x y : Operand} {t : Tree} {rs : List Run} {s : Store}
def smE (e : Entry) : Prop := e.key.size <= 1048576 /\ e.text.size <= 1048576
def smR (r : Run) : Prop := r.ents.length <= 200 /\ ∀ e ∈ r.ents, smE e
def smL (n : Nat) (rs : List Run) : Prop := rs.length <= n /\ ∀ r ∈ rs, smR r
def smT (n : Nat) (t : Tree) : Prop := t.mem.length <= n /\ (∀ e ∈ t.mem, smE e) /\ t.levels.length <= 3 /\ (∀ l ∈ t.levels, smL n l) /\ t.snaps.length <= n
def bPc (h : smT n t) (hn : n <= 1000) : gW t :=
  ⟨⟨by have := h.1; omega, h.2.1⟩, ⟨by have := h.2.2.1; omega, fun l hl => ⟨by have := (h.2.2.2.1 l hl).1; omega, fun r hr => ⟨by have := ((h.2.2.2.1 l hl).2 r hr).1; omega, ((h.2.2.2.1 l hl).2 r hr).2⟩⟩⟩, by have := h.2.2.2.2; omega⟩
def xE (h : smL n rs) (hn : n <= m) : smL m rs := ⟨F6 h.1 hn, h.2⟩
def aJv (h : smT n t) (hn : n <= m) : smT m t := ⟨F6 h.1 hn, h.2.1, h.2.2.1, fun l hl => xE (h.2.2.2.1 l hl) hn, F6 h.2.2.2.2 hn⟩
def smS (s : Store) : Prop := gA s /\ s.disk.log.size <= 20000
def aUi {q : Int} (h : aIn q rs) (hl : rs.length <= 8) : smL 60 rs :=
  ⟨og, fun r hr => by
    obtain ⟨h1, _⟩ := h r hr
    have h2 := gI h1
    have h3 : bU r.ents = true := by
      unfold cE at h1
      simp only [B7] at h1
      exact h1.1.2
    exact ⟨og, fun e he => cO (lY h3 he)⟩⟩
def bRm (h : aJ s = true) (hu : s.up = true) : smT 60 s.tree := by
  obtain ⟨a, b, c, bs, g⟩ := (mE hu).1 h
  obtain ⟨h1, h2, h3⟩ := g.rt.s
  refine ⟨g.rt.ml, h1.2, by rw [g.tl]; simp, fun l hl => ?_, og⟩
  rw [g.tl] at hl
  simp only [A8, List.not_mem_nil, or_false] at hl
  have k1 := g.rt.la
  have k2 := g.rt.lb
  have k3 := g.rt.lc
  rcases hl with rfl | rfl | rfl
  . exact aUi g.rt.ra og
  . exact aUi g.rt.rb og
  exact aUi g.rt.rc og
def bIn {b : List UInt8} (hp : p <= 1000000000) : smR (eQ b p).1 := by
  obtain ⟨h1, h2, _⟩ := aWr (b := b) hp
  exact ⟨og, fun e he => aYk (h1 e he)⟩
def bBv (x : AV) : Prop := ∃ r : Run, x = rA r /\ smR r
abbrev lvO (L : Nat) (lv more : List Nat) : AObj := .pool 102 105 2 bBv L lv more
section
variable {ro : Option Nat} {N : Nat} {o : Oper} {E : Env} {H : Heap} {nx b0 : Nat} {ds : List (Option Tmp)}
def yD {n : Int} (hg : o.guard = none) (hN : ∀ d, o.dst = some d -> d < N) (ho : o.op = .indexAddr 24 x y)
    (hx : opv E x = some (.ref i)) (hH : get H i = some (lvO L lv more)) (hy : opv E y = some (Ni n)) (h0 : 0 <= n /\ n < lv.length) : aY P ro N ds o b0 E H (aF [x, y]) [i] (.ep i 1 n.toNat 0) [] nx 0 :=
  aJi (by' := 24) hg ho hN oG hx hH hy h0.1 h0.2
def bOx : VarT P 102 1 false := gM oG
def aSj (hg : o.guard = none) (hN : ∀ d, o.dst = some d -> d < N) (ho : o.op = .load 102 x)
    (hx : opv E x = some (.ep i 1 j 0)) (hH : get H i = some (lvO L lv more)) (hj : lv[j]? = some m) : aY P ro N ds o b0 E H (aF [x]) [i] (.ref m) [] nx 0 :=
  aLp hg ho hN bOx hx hH hj
def aIu (hg : o.guard = none) (hN : ∀ d, o.dst = some d -> d < N) (ho : o.op = .store 102 x y)
    (hx : opv E x = some (.ep i 1 j 0)) (hH : get H i = some (lvO L lv more)) (hy : opv E y = some (.ref m)) (hj : j < lv.length) (hm : m ∈ lv ∨ m ∈ more) : aY P ro N ds o b0 E H (aF [x, y]) [i] (.raw undef) [(i, lvO L (lv.set j m) more)] nx 0 :=
  aIi hg ho hN bOx hx hH hj hy hm
def bOv {c : Call} {r : Run} {el : AV} (hg : o.guard = none) (hN : ∀ d, o.dst = some d -> d < N) (ho : o.op = .call c) (hc : c.callee = .builtin .append) (hargs : c.args = #[x, y]) (hts : c.argTypes = #[102, 102])
    (hx : opv E x = some (.ref m)) (hy : opv E y = some (.ref j)) (hH : get H i = some (lvO L lv more)) (hj : get H j = some (.row 105 2 [el])) (he : Le el (rA r)) (hf : el.free = true) (hel : el.elem = true) (hij : i ≠ j) (hm : m ∈ lv ∨ m ∈ more) (hr : smR r) (hL : L <= 1000) :
    aY P ro N ds o b0 E H (aF [x, y]) [i, j] (.ref nx) [(i, lvO (L + 1) lv (nx :: more)), (j, .dead)] nx 1 :=
  aPd (by' := 32) (zs := [.slice none 0 0, .int .i64 0]) hg ho hc hargs hts hN oG oG rfl dg hx hy hij hH hm hj (fun _ _ _ _ h => he.rep h) ⟨r, rfl, hr⟩ (zR _ r) hf hel (by have h9 : maxLen = 9223372036854775807 := rfl; omega) og
end
def aPf {L : Nat} : ∀ {yss : List (List AV)}, (∀ ys ∈ yss, ys.length <= L /\ ∀ y ∈ ys, bBv y) -> ∃ ls : List (List Run), yss = ls.map (fun l => l.map rA) /\ ∀ l ∈ ls, smL L l
  | [], _ => ⟨[], rfl, by simp⟩
  | ys :: r, h => by
    obtain ⟨ls, h1, h2⟩ := aPf (yss := r) fun y hy => h y (A4 _ hy)
    have key : ∀ ys : List AV, (∀ y ∈ ys, bBv y) -> ∃ l : List Run, ys = l.map rA /\ ∀ x ∈ l, smR x := by
      intro ys
      induction ys with
      | nil => exact fun _ => ⟨[], rfl, by simp⟩
      | cons y ys ih =>
        intro hy
        obtain ⟨l, k1, k2⟩ := ih fun y' hy' => hy y' (A4 _ hy')
        obtain ⟨x, k3, k4⟩ := hy y A3
        exact ⟨x :: l, by rw [k1, k3]; rfl, fun z hz => by rcases A8.1 hz with rfl | hz; exact k4; exact k2 z hz⟩
    obtain ⟨l, k1, k2⟩ := key ys (h ys A3).2
    have hl : l.length <= L := by have := (h ys A3).1; rw [k1, A6] at this; exact this
    exact ⟨l :: ls, by rw [h1, k1]; rfl, fun z hz => by rcases A8.1 hz with rfl | hz; exact ⟨hl, k2⟩; exact h2 z hz⟩
def bIe {ls : List (List Run)} (h : ∀ l ∈ ls, smL n l) : ∀ ys ∈ ls.map (fun l => l.map runOwn), ys.length <= n /\ ∀ y ∈ ys, bBv y.fz /\ y.fz.bel fun _ => False := by
  intro ys hys
  obtain ⟨l, hl, rfl⟩ := A9.1 hys
  obtain ⟨h1, h2⟩ := h l hl
  refine ⟨by rw [A6]; exact h1, fun y hy => ?_⟩
  obtain ⟨r, hr, rfl⟩ := A9.1 hy
  rw [aNk]
  exact ⟨⟨r, rfl, h2 r hr⟩, zR _ r⟩
section
variable {ro : Option Nat} {N n0 : Nat} {c : Code} {Q : AQ} {E : Env} {H : Heap} {nx : Nat}
def bAc (i : Nat) (n : Nat) {a b c' : List Run} (hn : nx + 3 <= 1000) (hi : get H i = some (.row 102 1 [rsO a, rsO b, rsO c'])) (hs : ∀ l ∈ [a, b, c'], smL n l)
    (h : AWP P ro N n0 c Q E (put H i (lvO n [nx, nx + 1, nx + 2] [])) (nx + 3)) : AWP P ro N n0 c Q E H nx :=
  aYd i (yss := [a, b, c'].map fun l => l.map runOwn) hn oS hi (bIe hs) h
def bBj (i : Nat) (hn : nx <= 1000) (hi : get H i = some (lvO n lv more)) (h : ∀ ls : List (List Run), ls.length = lv.length -> (∀ l ∈ ls, smL n l) -> AWP P ro N n0 c Q E (put H i (.row 102 1 (ls.map rsA))) nx) : AWP P ro N n0 c Q E H nx :=
  aWs i hn hi fun yss h1 h2 => by
    obtain ⟨ls, rfl, h3⟩ := aPf h2
    have := h ls (by simpa using h1) h3
    rw [List.map_map]; exact this
end
def aMn (ls : List Entry) (l : Entry) : fzL (ls.map enA ++ [.agg [Ns l.key, Ni l.seq, Ni l.kind, Ns l.text, Ni l.n]]) = (ls ++ [l]).map enA := bDo ls l
def aMi (ls : List Int) (x : Int) : fzL (ls.map inA ++ [Ni x]) = (ls ++ [x]).map inA := by
  have h : ls.map inA ++ [.raw (.int .i64 x)] = (ls ++ [x]).map inA := by rw [D5]; rfl
  rw [h, qJ]
def aNy : List Int := [1, -1, 50]
def aXu : List ByteArray := [⟨#[120]⟩, ⟨#[49, 50, 32]⟩, ⟨#[48, 32, 10]⟩, ⟨#[49, 48, 32, 97, 32, 57, 32, 50, 32, 48, 32, 48, 32, 10]⟩]
def bLj : ∀ s ∈ aXu, s.size <= 64 := by decide
def aHf (b : List UInt8) (p : Nat) (s : Store) : List Int := [0, (s.disk.log.size : Int), aD b ((s.disk.log.size : Int) + 1) p, aD b ((s.disk.log.size : Int) + 1) (p + 1), aD b ((s.disk.log.size : Int) + 1) (p + 2), -1, 9223372036854775807]
def aPo (b : List UInt8) (p : Nat) (s : Store) : Int := eS (aHf b p s) b (p + 3)
def bKg {b : List UInt8} (hp : p <= 1000000) (hl : s.disk.log.size <= 20000) : -1 <= aPo b p s /\ aPo b p s <= 9223372036854775807 := by
  have h0 := iW (b := b) (n := (s.disk.log.size : Int) + 1) (p := p) og
  have h1 := iW (b := b) (n := (s.disk.log.size : Int) + 1) (p := p + 1) og
  have h2 := iW (b := b) (n := (s.disk.log.size : Int) + 1) (p := p + 2) og
  have k0 := h0.2.1 og
  have k1 := h1.2.1 og
  have k2 := h2.2.1 og
  unfold aPo
  rcases aIw (aHf b p s) b (p + 3) with h | h
  . omega
  generalize eS (aHf b p s) b (p + 3) = x at h ⊢
  simp only [aHf, A8, List.not_mem_nil, or_false] at h
  omega
set_option maxHeartbeats 1000000 in
def pY (b : List UInt8) (p : Nat) (hb : b.length <= 2000) (hp : p + 1000 <= 1000000000) (t : Tree) (n : Nat) (ht : smT n t) (hn : n <= 500) : uW P 114 [.ptr 0 0, trA t] [(0, rdO b p)] 1 (fun g : Tree × Nat => smT (n + 10) g.1 /\ p <= g.2 /\ g.2 <= p + 800) (fun g => trA g.1) (fun g => [(0, rdO b g.2)]) 1 := by
 refine iO (fn := Tryz.f114) (N := 108) (vs := [.cell 4 27]) ⟨func114, rfl, rfl⟩ rfl rfl oS ?_
 simp only [eE, trA]
 have hmx := mxl
 have hs := bPc ht og
 obtain ⟨seq, mem, lv, snaps⟩ := t
 obtain ⟨h1, h2, h3, h4, h5⟩ := ht
 simp only at h1 h2 h3 h4 h5
 refine (aj) ?_
 refine sr rfl fun k2 => (ja) ?_
 refine vO 0 rfl rfl rfl ⟨func62, rfl, rfl⟩ (aE b (p) hb og 70) oG oG (aC _ _ _) (aC _ _ _) oG oG ?_
 refine (Ai) (k2 (aA fun k3 => (aj) ((cdA) ?_ ?_))) <;> intro hc1
 . refine (aj) (wR ?_)
   refine ⟨(⟨seq, mem, lv, snaps⟩, p + 1), ⟨aJv (n := n) ⟨h1, h2, h3, h4, h5⟩ og, by dsimp only; omega, by dsimp only; omega⟩, [], ?_⟩
   exact Br
 have hc1b : ¬ (6 < aD b 70 p ∨ (lv.length : Int) < 3) := by simpa using hc1
 obtain ⟨la, lb, lc, rfl⟩ : ∃ la lb lc, lv = [la, lb, lc] := by
   have h9 : lv.length = 3 := by omega
   match lv, h9 with
   | [la, lb, lc], _ => exact ⟨la, lb, lc, rfl⟩
 have g4 : ∀ m, n <= m -> ∀ l ∈ [la, lb, lc], smL m l := fun m hm l hl => xE (h4 l hl) hm
 refine wk (k3 (sr rfl fun k6 => (ja) ?_))
 refine vn 3 rfl rfl rfl ⟨func71, rfl, rfl⟩ (gJ ⟨seq, mem, [la, lb, lc], snaps⟩ hs) Af (by simp only [go_sem, trA, rsA]) oS dg ?_
 simp only [go_sem, AV.ren, AObj.ren, aB, shift, sg, A0, Nat.add_zero, Nat.sub_self, rsO]
 refine k6 (aA fun k7 => (aj) (wb ((aj) ((cdA) ?_ ?_)))) <;> intro hc2
 . refine wg rfl ((ja) ((jr) ?_))
   refine bE 6 rfl ?_
   refine (Ac) ?_
   refine vO 0 rfl rfl rfl ⟨func64, rfl, rfl⟩ (bD b (p + 1) hb og [0, -1, 100001, IntKind.i64.wrap (seq - 1)] oS) Cb Cb (aC _ _ _) (aC _ _ _) oG oG ?_
   refine (Ai) ((jr) ((jt) (k7 ((aj) ?_))))
   refine aFz 3 rfl ?_
   refine (Cs) ?_
   refine aFz 4 rfl ?_
   refine (Cs) ?_
   refine aFz 5 rfl ?_
   refine (Cs) (wR ?_)
   refine ⟨(⟨eS [0, -1, 100001, IntKind.i64.wrap (seq - 1)] b (p + 1), mem, [la, lb, lc], snaps⟩, p + 2), ⟨aJv (n := n) ⟨h1, h2, h3, h4, h5⟩ og, by dsimp only; omega, by dsimp only; omega⟩, [], ?_⟩
   exact Br
 refine (aj) ((cdA) ?_ ?_) <;> intro hc3
 . refine cQ mixed rfl ?_
   refine (Au) ((jr) ?_)
   refine tO 0 rfl rfl rfl ⟨func100, rfl, rfl⟩ (nC b (p + 1) hb og 1) oG oG (aC _ _ _) (aC _ _ _) (dQ _ _) oG ?_
   refine (Db) ((jr) ((jy) ((jt) (k7 ((aj) ?_)))))
   refine aFz 7 rfl ?_
   simp only [go_sem, fzL, AV.fz, rsO, dG, aMn]
   refine aFz 4 rfl ?_
   simp only [go_sem, fzL, AV.fz, rsO, dG, aMn]
   refine aFz 5 rfl ?_
   simp only [go_sem, fzL, AV.fz, rsO, dG, aMn]; refine wR ?_
   refine ⟨(⟨seq, mem ++ [rH b (p + 1) 1], [la, lb, lc], snaps⟩, lS b (p + 1)), (by have h9 := vA b (p + 1); exact ⟨⟨by simp only [A2, List.length_singleton]; omega, fun e he => by
       rcases A7.1 he with h | h
       . exact h2 e h
       rw [B6.1 h]; exact aYk (zL _ _ _), h3, g4 _ og, by dsimp only; omega⟩, by dsimp only; omega, by dsimp only; omega⟩), [], ?_⟩
   exact Br
 refine (aj) ((cdA) ?_ ?_) <;> intro hc4
 . refine aFz 4 rfl ?_
   refine (Cs) ?_
   refine wg rfl ((ja) ((jr) ((jt) (k7 ((aj) ?_)))))
   refine aFz 3 rfl ?_
   refine (Ac) ?_
   refine aFz 5 rfl ?_
   refine (Ac) (wR ?_)
   refine ⟨(⟨seq, mem, [la, lb], snaps⟩, p + 1), ⟨aJv (n := n) ⟨h1, h2, by simp, fun l hl => h4 l (by simp at hl ⊢; rcases hl with h | h <;> simp [h]), h5⟩ og, by dsimp only; omega, by dsimp only; omega⟩, [], ?_⟩
   exact Br
 refine (aj) ((cdA) ?_ ?_) <;> intro hc5
 . refine ddT 8 mixed rfl ?_
   refine (Au) ((jr) ?_)
   refine aN (fun hN => rO (e := 3) (sz := 1) (xs := [Ni 0, Ni (IntKind.i64.wrap (seq + 1)), Ni (-1), Ni seq]) rfl hN oG trivial oS) (.inr dg) ?_
   simp only [go_sem, fzL, AV.fz, B0, A2, List.nil_append, A6, B1]
   refine (jr) ?_
   refine tO 0 rfl rfl rfl ⟨func64, rfl, rfl⟩ (bD b (p + 1) hb og [0, IntKind.i64.wrap (seq + 1), -1, seq] oS) Cb Cb (aC _ _ _) (aC _ _ _) oG oG ?_
   refine (Ai) ((jr) ((jy) ((jt) (k7 ((aj) ?_)))))
   refine aFz 3 rfl ?_
   simp only [go_sem, fzL, AV.fz, rsO, dG, aMi]
   refine aFz 4 rfl ?_
   simp only [go_sem, fzL, AV.fz, rsO, dG, aMi]
   refine aFz 8 rfl ?_
   simp only [go_sem, fzL, AV.fz, rsO, dG, aMi]; refine wR ?_
   refine ⟨(⟨seq, mem, [la, lb, lc], snaps ++ [eS [0, IntKind.i64.wrap (seq + 1), -1, seq] b (p + 1)]⟩, p + 2), ⟨⟨by dsimp only; omega, h2, h3, g4 _ og, by simp only [A2, List.length_singleton]; omega⟩, by dsimp only; omega, by dsimp only; omega⟩, [], ?_⟩
   exact Br
 refine (aj) ((cdA) ?_ ?_) <;> intro hc6
 . refine bAc 4 n dg rfl (fun l hl => h4 l hl) ?_
   refine (ja) ?_
   refine sr rfl fun k18 => (ja) ((jr) ?_)
   refine vC (fun hN => yD (i := 4) (n := 0) (L := n) (lv := [6, 7, 8]) (more := []) rfl hN rfl oG oG oG dg) (.inl rfl) ?_
   refine (Bs) ((jr) ?_)
   refine vC (fun hN => aSj (i := 4) (j := 0) (m := 6) (L := n) (lv := [6, 7, 8]) (more := []) rfl hN rfl oG oG rfl) (.inl rfl) ?_
   refine (ja) ((jr) (k18 ?_))
   refine zB 4 n [6] rfl (A0 _) oS ?_
   refine (ja) ?_
   refine sd mixed rfl fun k19 => (ja) ((jr) ?_)
   refine aN (fun hN => yD (i := 4) (n := 2) (L := n) (lv := [6, 7, 8]) (more := [6]) rfl hN rfl oG oG oG dg) (.inl rfl) ?_
   refine (Bs) ((jr) ?_)
   refine aN (fun hN => aSj (i := 4) (j := 2) (m := 8) (L := n) (lv := [6, 7, 8]) (more := [6]) rfl hN rfl oG oG rfl) (.inl rfl) ?_
   refine (ja) ((jr) ?_)
   refine aN (fun hN => yD (i := 4) (n := 0) (L := n) (lv := [6, 7, 8]) (more := [6]) rfl hN rfl oG oG oG dg) (.inl rfl) ?_
   refine (Bs) ((jr) ?_)
   refine aN (fun hN => aIu (i := 4) (j := 0) (m := 8) (L := n) (lv := [6, 7, 8]) (more := [6]) rfl hN rfl oG oG oG dg oS) (.inl rfl) ?_
   simp only [go_sem, List.set_cons_zero]
   refine (jr) ((jy) (k19 (wg rfl ((ja) ((jr) ?_)))))
   refine vC (fun hN => yD (i := 4) (n := 2) (L := n) (lv := [8, 7, 8]) (more := [6]) rfl hN rfl oG oG oG dg) (.inl rfl) ?_
   refine (Bs) ((jr) ?_)
   refine vC (fun hN => aIu (i := 4) (j := 2) (m := 6) (L := n) (lv := [8, 7, 8]) (more := [6]) rfl hN rfl oG oG oG dg oS) (.inl rfl) ?_
   simp only [go_sem, List.set_cons_succ, List.set_cons_zero]
   refine (jr) ((jt) (k7 ((aj) ?_)))
   refine bBj 4 (n := n) dg rfl fun ls hll hls => ?_
   refine (ja) ?_
   obtain ⟨xa, xb, xc, rfl⟩ : ∃ xa xb xc, ls = [xa, xb, xc] := by
     match ls, hll with
     | [xa, xb, xc], _ => exact ⟨xa, xb, xc, rfl⟩
   refine aFz 3 rfl ?_
   refine (Ac) ?_
   refine aFz 4 rfl ?_
   refine (Dc) ?_
   refine aFz 5 rfl ?_
   refine (Ac) (wR ?_)
   refine ⟨(⟨seq, mem, [xa, xb, xc], snaps⟩, p + 1), ⟨⟨by dsimp only; omega, h2, by simp, fun l hl => xE (hls l hl) og, by dsimp only; omega⟩, by dsimp only; omega, by dsimp only; omega⟩, [], ?_⟩
   exact Br
 refine (aj) ((cdB) ?_ ?_) <;> intro hc7
 . refine bAc 4 n dg rfl (fun l hl => h4 l hl) ?_
   refine (ja) ?_
   refine cQ mixed rfl ?_
   refine (ja) ((jr) ?_)
   refine aN (fun hN => yD (i := 4) (n := 1) (L := n) (lv := [6, 7, 8]) (more := []) rfl hN rfl oG oG oG dg) (.inl rfl) ?_
   refine (Bs) ((jr) ?_)
   refine aN (fun hN => aSj (i := 4) (j := 1) (m := 7) (L := n) (lv := [6, 7, 8]) (more := []) rfl hN rfl oG oG rfl) (.inl rfl) ?_
   refine (ja) ((jr) ?_)
   refine aN (fun hN => bOv (i := 4) (j := 9) (m := 7) (L := n) (lv := [6, 7, 8]) (more := []) (r := ⟨[], 0⟩) (el := .agg [.raw (.slice none 0 0), Ni 0]) rfl hN rfl rfl rfl rfl oG oG oG oG (.aggL (.cons (.nil _) (.cons (.refl _) .nil))) rfl rfl dg oS ⟨A5 _, fun e he => by cases he⟩ og) (.inr dg) ?_
   refine (ja) ((jr) ?_)
   refine aN (fun hN => yD (i := 4) (n := 1) (L := (n + 1)) (lv := [6, 7, 8]) (more := [10]) rfl hN rfl oG oG oG dg) (.inl rfl) ?_
   refine (Bs) ((jr) ?_)
   refine aN (fun hN => aIu (i := 4) (j := 1) (m := 10) (L := (n + 1)) (lv := [6, 7, 8]) (more := [10]) rfl hN rfl oG oG oG dg oS) (.inl rfl) ?_
   simp only [go_sem, List.set_cons_succ, List.set_cons_zero]
   refine (jr) ((jy) ((jt) (k7 ((aj) ?_))))
   refine bBj 4 (n := (n + 1)) dg rfl fun ls hll hls => ?_
   refine (ja) ?_
   obtain ⟨xa, xb, xc, rfl⟩ : ∃ xa xb xc, ls = [xa, xb, xc] := by
     match ls, hll with
     | [xa, xb, xc], _ => exact ⟨xa, xb, xc, rfl⟩
   refine aFz 3 rfl ?_
   refine (Ac) ?_
   refine aFz 4 rfl ?_
   refine (Dc) ?_
   refine aFz 5 rfl ?_
   refine (Ac) (wR ?_)
   refine ⟨(⟨seq, mem, [xa, xb, xc], snaps⟩, p + 1), ⟨⟨by dsimp only; omega, h2, by simp, fun l hl => xE (hls l hl) og, by dsimp only; omega⟩, by dsimp only; omega, by dsimp only; omega⟩, [], ?_⟩
   exact Br
 refine bAc 4 n dg rfl (fun l hl => h4 l hl) ?_
 refine (ja) ((aj) (wb ?_))
 refine wl (α := Nat × Nat) (fun x => x.1 <= 5 /\ p + 1 <= x.2 /\ x.2 <= p + 1 + 101 * x.1) (fun x => 5 - x.1) (fun x => ([(0, .ptr 0 0), (3, .ptr 1 0), (4, .ptr 2 0), (7, Ni (x.1 : Int))], [(0, rdO b x.2), (1, .cells 27 [Ni seq, .ref 3, .ref 4, .ref 5]), (2, .cells 27 [Ni 0, .raw (.slice none 0 0), .raw (.slice none 0 0), .raw (.slice none 0 0)]), (3, .row 43 5 ((mem).map enA)), (4, lvO (n + x.1) [6, 7, 8] []), (5, .row 3 1 (snaps.map inA))])) 9 (0, p + 1) ⟨A5 _, A0 _, A0 _⟩ [] ?_ ?_
 . exact jp
 rintro ⟨i, q⟩ ⟨hi, hq0, hq1⟩
 simp only at hi hq0 hq1 ⊢
 refine aA fun k23 => (aj) ((cdB) ?_ ?_) <;> intro hc8
 . have hge : ¬ i < 5 := by simp at hc8; omega
   refine we ((jt) ((jt) (k7 ((aj) ?_))))
   refine bBj 4 (n := (n + i)) dg rfl fun ls hll hls => ?_
   refine (ja) ?_
   obtain ⟨xa, xb, xc, rfl⟩ : ∃ xa xb xc, ls = [xa, xb, xc] := by
     match ls, hll with
     | [xa, xb, xc], _ => exact ⟨xa, xb, xc, rfl⟩
   refine aFz 3 rfl ?_
   refine (Ac) ?_
   refine aFz 4 rfl ?_
   refine (Dc) ?_
   refine aFz 5 rfl ?_
   refine (Ac) (wR ?_)
   refine ⟨(⟨seq, mem, [xa, xb, xc], snaps⟩, q), ⟨⟨by dsimp only; omega, h2, by simp, fun l hl => xE (hls l hl) og, by dsimp only; omega⟩, by dsimp only; omega, by dsimp only; omega⟩, [], ?_⟩
   exact Br
 have hlt : i < 5 := by simp at hc8; omega
 refine wk (k23 (aA fun k25 => wb ?_))
 have hpk := iW (b := b) (n := 3) (p := q) og
 have hpk2 := hpk.2.1 og
 obtain ⟨m, hm⟩ := Int.eq_ofNat_of_zero_le hpk.1
 have hdz := aWr (b := b) (p := q + 1) og
 have hds := bIn (b := b) (p := q + 1) og
 refine cQ mixed rfl ?_
 refine (ja) ((jr) ?_)
 refine tO 0 rfl rfl rfl ⟨func62, rfl, rfl⟩ (aE b (q) hb og 3) oG oG (aC _ _ _) (aC _ _ _) oG oG ?_
 refine (Ai) ((jr) ?_)
 refine aN (fun hN => yD (i := 4) (n := 0) (L := (n + i)) (lv := [6, 7, 8]) (more := []) rfl hN rfl oG oG oG dg) (.inl rfl) ?_
 refine (Bs) ((jr) ?_)
 refine aN (fun hN => aSj (i := 4) (j := 0) (m := 6) (L := (n + i)) (lv := [6, 7, 8]) (more := []) rfl hN rfl oG oG rfl) (.inl rfl) ?_
 refine (ja) ((jr) ?_)
 refine tO 0 rfl rfl rfl ⟨func148, rfl, rfl⟩ (aPb b (q + 1) hb og) oG oG (aC _ _ _) (aC _ _ _) (zR _ _) oG ?_
 simp only [go_sem, Nat.add_zero, rA]
 refine (jr) ?_
 refine aN (fun hN => bOv (i := 4) (j := 9) (m := 6) (L := (n + i)) (lv := [6, 7, 8]) (more := []) (r := (eQ b (q + 1)).1) (el := .agg [.sl 5 ((eQ b (q + 1)).1.ents.map enA), .raw (.int .i64 (eQ b (q + 1)).1.mask)]) rfl hN rfl rfl rfl rfl oG oG oG oG (.refl _) rfl rfl dg oS hds og) (.inr dg) ?_
 refine (ja) ((jr) ?_)
 refine aN (fun hN => yD (i := 4) (n := (aD b 3 q)) (L := (n + i + 1)) (lv := [6, 7, 8]) (more := [10]) rfl hN rfl oG oG oG ⟨hpk.1, by simpa using hpk2⟩) (.inl rfl) ?_
 refine (Bs) ((jr) ?_)
 refine aN (fun hN => aIu (i := 4) (j := (aD b 3 q).toNat) (m := 10) (L := (n + i + 1)) (lv := [6, 7, 8]) (more := [10]) rfl hN rfl oG oG oG (by simp; omega) oS) (.inl rfl) ?_
 refine (ja) ((jr) ((jy) ((jt) (k25 ?_))))
 have hk3 : (aD b 3 q).toNat = 0 ∨ (aD b 3 q).toNat = 1 ∨ (aD b 3 q).toNat = 2 := by omega
 rcases hk3 with hk | hk | hk
 . rw [hk]; simp only [List.set_cons_zero, List.set_cons_succ]
   refine zB 4 (n + (i + 1)) [] rfl og oS ?_
   refine (ja) ?_
   have hwi := wiS i og
   refine wg rfl ((Aa hwi) ((jt) ?_))
   refine ⟨(i + 1, (eQ b (q + 1)).2), ⟨by show i + 1 <= 5; omega, by show p + 1 <= (eQ b (q + 1)).2; omega, by show (eQ b (q + 1)).2 <= p + 1 + 101 * (i + 1); omega⟩, by show 5 - (i + 1) < 5 - i; omega, [(6, 10)], ?_⟩
   simp only [go_sem, AObj.bel, AObj.ren, AV.ren, aB, sg] <;> simp <;> omega
 . rw [hk]; simp only [List.set_cons_zero, List.set_cons_succ]
   refine zB 4 (n + (i + 1)) [] rfl og oS ?_
   refine (ja) ?_
   have hwi := wiS i og
   refine wg rfl ((Aa hwi) ((jt) ?_))
   refine ⟨(i + 1, (eQ b (q + 1)).2), ⟨by show i + 1 <= 5; omega, by show p + 1 <= (eQ b (q + 1)).2; omega, by show (eQ b (q + 1)).2 <= p + 1 + 101 * (i + 1); omega⟩, by show 5 - (i + 1) < 5 - i; omega, [(7, 10)], ?_⟩
   simp only [go_sem, AObj.bel, AObj.ren, AV.ren, aB, sg] <;> simp <;> omega
 rw [hk]; simp only [List.set_cons_zero, List.set_cons_succ]
 refine zB 4 (n + (i + 1)) [] rfl og oS ?_
 refine (ja) ?_
 have hwi := wiS i og
 refine wg rfl ((Aa hwi) ((jt) ?_))
 refine ⟨(i + 1, (eQ b (q + 1)).2), ⟨by show i + 1 <= 5; omega, by show p + 1 <= (eQ b (q + 1)).2; omega, by show (eQ b (q + 1)).2 <= p + 1 + 101 * (i + 1); omega⟩, by show 5 - (i + 1) < 5 - i; omega, [(8, 10)], ?_⟩
 simp only [go_sem, AObj.bel, AObj.ren, AV.ren, aB, sg] <;> simp <;> omega
set_option maxHeartbeats 1000000 in
def aOj (b : List UInt8) (p : Nat) (hb : b.length <= 2000) (hp : p + 5000 <= 1000000000) (s : Store) (hok : aJ s = true) (hu : s.up = true) : uW P 63 [.ptr 0 0, stA s] [(0, rdO b p)] 1 (fun g : Store × Nat => smS g.1 /\ p <= g.2 /\ g.2 <= p + 4000) (fun g => stA g.1) (fun g => [(0, rdO b g.2)]) 1 := by
 refine iO (fn := Tryz.f63) (N := 115) (vs := [.cell 4 31]) ⟨func63, rfl, rfl⟩ rfl rfl oS ?_
 simp only [eE, stA]
 have hmx := mxl
 obtain ⟨hs, hlg, hf0, hf1, hlv, hq0, hq1, hd0, hd1⟩ := bLw hok
 have hcp := aLq hok
 have ht := bRm hok hu
 refine (aj) ?_
 refine sr rfl fun k2 => (ja) ?_
 refine vO 0 rfl rfl rfl ⟨func62, rfl, rfl⟩ (aE b (p) hb og 80) oG oG (aC _ _ _) (aC _ _ _) oG oG ?_
 refine (Ai) (k2 (aA fun k3 => (aj) ((cdA) ?_ ?_))) <;> intro hc1
 . refine (aj) (wR ?_)
   refine ⟨(s, p + 1), ⟨⟨⟨hs.1, hs.2⟩, by dsimp only; omega⟩, by dsimp only; omega, by dsimp only; omega⟩, [], ?_⟩
   exact As
 refine wk (k3 (sr rfl fun k6 => (ja) ?_))
 refine vs rfl rfl rfl func31 (iL s hs) Ad Ad ?_
 simp only [go_sem, stA, hcp]
 refine k6 ((aj) ?_)
 refine aA fun k8 => (aj) (wb ((aj) ((cdA) ?_ ?_))) <;> intro hc2
 . refine wg rfl ((ja) ((jt) (k8 ((aj) (wR ?_)))))
   refine ⟨(⟨!s.up, s.tree, ⟨s.disk.log, s.disk.safe, s.disk.levels, s.disk.seq⟩⟩, p + 1), ⟨⟨⟨hs.1, hs.2⟩, by dsimp only; omega⟩, by dsimp only; omega, by dsimp only; omega⟩, [], ?_⟩
   exact As
 refine (aj) ((cdA) ?_ ?_) <;> intro hc3
 . refine wg rfl ((ja) ((jr) ?_))
   refine bE 3 rfl ?_
   refine (Ac) ?_
   refine vO 0 rfl rfl rfl ⟨func64, rfl, rfl⟩ (bD b (p + 1) hb og [-1, IntKind.i64.wrap ((s.disk.log.size : Int) + 1), 0, (s.disk.log.size : Int)] oS) Cb Cb (aC _ _ _) (aC _ _ _) oG oG ?_
   refine (Ai) ((jr) ((jt) (k8 ((aj) (wR ?_)))))
   refine ⟨(⟨s.up, s.tree, ⟨s.disk.log, eS [-1, IntKind.i64.wrap ((s.disk.log.size : Int) + 1), 0, (s.disk.log.size : Int)] b (p + 1), s.disk.levels, s.disk.seq⟩⟩, p + 2), ⟨⟨⟨hs.1, hs.2⟩, by dsimp only; omega⟩, by dsimp only; omega, by dsimp only; omega⟩, [], ?_⟩
   exact As
 refine (aj) ((cdA) ?_ ?_) <;> intro hc4
 . have hbd := aIw aNy b (p + 1)
   have hbd2 : -1 <= eS aNy b (p + 1) /\ eS aNy b (p + 1) <= 50 := by
     rcases hbd with h | h
     . omega
     exact (by decide : ∀ x ∈ aNy, (-1 : Int) <= x /\ x <= 50) _ h
   have hw15 := wr (s.disk.seq + eS aNy b (p + 1)) (s.disk.seq + eS aNy b (p + 1)) og
   refine ddT 4 mixed rfl ?_
   refine (ja) ((jr) ?_)
   refine aN (fun hN => rO (e := 3) (sz := 1) (xs := [Ni 1, Ni (-1), Ni 50]) rfl hN oG trivial oS) (.inr dg) ?_
   refine (Ac) ((jr) ?_)
   refine tO 0 rfl rfl rfl ⟨func64, rfl, rfl⟩ (bD b (p + 1) hb og aNy dg) (by simp only [go_sem, aNy, List.map_cons, List.map_nil, inA]) (by simp only [go_sem, aNy, List.map_cons, List.map_nil, inA]) (aC _ _ _) (aC _ _ _) oG oG ?_
   refine (Be hw15) ((jr) ((jy) ((jt) (k8 ((aj) (wR ?_))))))
   refine ⟨(⟨s.up, s.tree, ⟨s.disk.log, s.disk.safe, s.disk.levels, s.disk.seq + eS aNy b (p + 1)⟩⟩, p + 2), ⟨⟨⟨hs.1, hs.2⟩, by dsimp only; omega⟩, by dsimp only; omega, by dsimp only; omega⟩, [], ?_⟩
   exact As
 refine (aj) ((cdA) ?_ ?_) <;> intro hc5
 . have hpk := iW (b := b) (n := max 1 (min (s.disk.log.size : Int) 5)) (p := p + 1) og
   have hpk2 := hpk.2.1 og
   have hw17 := wr ((s.disk.log.size : Int) - aD b (max 1 (min (s.disk.log.size : Int) 5)) (p + 1)) ((s.disk.log.size : Int) - aD b (max 1 (min (s.disk.log.size : Int) 5)) (p + 1)) og
   refine cQ mixed rfl ?_
   refine (ja) ((jr) ?_)
   refine tp rfl rfl rfl ⟨func74, rfl, rfl⟩ (aCy (s.disk.log.size : Int) 5) oG oG ?_
   refine (ja) ((jr) ?_)
   refine tp rfl rfl rfl ⟨func73, rfl, rfl⟩ (vG 1 (min (s.disk.log.size : Int) 5)) oG oG ?_
   refine (ja) ((jr) ?_)
   refine tO 0 rfl rfl rfl ⟨func62, rfl, rfl⟩ (aE b (p + 1) hb og (max 1 (min (s.disk.log.size : Int) 5))) oG oG (aC _ _ _) (aC _ _ _) oG oG ?_
   refine (Be hw17) ((jr) ((jy) ((jt) (k8 ((aj) (wR ?_))))))
   refine ⟨(⟨s.up, s.tree, ⟨s.disk.log.extract 0 ((s.disk.log.size : Int) - aD b (max 1 (min (s.disk.log.size : Int) 5)) (p + 1)).toNat, s.disk.safe, s.disk.levels, s.disk.seq⟩⟩, p + 2), ⟨⟨⟨hs.1, hs.2⟩, by dsimp only; rw [ByteArray.size_extract]; omega⟩, by dsimp only; omega, by dsimp only; omega⟩, [], ?_⟩
   exact As
 refine (aj) ((cdA) ?_ ?_) <;> intro hc6
 . have hof := xJ (b := b) (p := p + 1) bLj
   refine ddT 4 mixed rfl ?_
   refine (ja) ((jr) ?_)
   refine aN (fun hN => rO (e := 9) (sz := 1) (xs := [Ns ⟨#[120]⟩, Ns ⟨#[49, 50, 32]⟩, Ns ⟨#[48, 32, 10]⟩, Ns ⟨#[49, 48, 32, 97, 32, 57, 32, 50, 32, 48, 32, 48, 32, 10]⟩]) rfl hN oG trivial oS) (.inr dg) ?_
   refine (Ac) ((jr) ?_)
   refine tO 0 rfl rfl rfl ⟨func113, rfl, rfl⟩ (jM b (p + 1) hb og aXu dg) (by simp only [go_sem, aXu, List.map_cons, List.map_nil]) (by simp only [go_sem, aXu, List.map_cons, List.map_nil]) (aC _ _ _) (aC _ _ _) oG oG ?_
   refine (Ai) ((jr) ((jy) ((jt) (k8 ((aj) (wR ?_))))))
   refine ⟨(⟨s.up, s.tree, ⟨s.disk.log ++ ofZ aXu b (p + 1), s.disk.safe, s.disk.levels, s.disk.seq⟩⟩, p + 2), ⟨⟨⟨hs.1, hs.2⟩, by dsimp only; rw [B8]; omega⟩, by dsimp only; omega, by dsimp only; omega⟩, [], ?_⟩
   exact As
 refine (aj) ((cdA) ?_ ?_) <;> intro hc7
 . refine wg rfl ((ja) ?_)
   refine vX 0 rfl rfl rfl ⟨func114, rfl, rfl⟩ (pY b (p + 1) hb og s.tree 60 ht og) Af Af (aC _ _ _) (fun _ => aC _ _ _) (fun _ => gD _ _) oG ?_
   rintro ⟨t1, q1⟩ ⟨ht1, hq1, hq1b⟩
   simp only at ht1 hq1 hq1b
   refine (Ai) ?_
   refine vX 0 rfl rfl rfl ⟨func114, rfl, rfl⟩ (pY b (q1) hb og t1 70 ht1 og) Af Af (aC _ _ _) (fun _ => aC _ _ _) (fun _ => gD _ _) oG ?_
   rintro ⟨t2, q2⟩ ⟨ht2, hq2, hq2b⟩
   simp only at ht2 hq2 hq2b
   refine (Ai) ?_
   refine vX 0 rfl rfl rfl ⟨func114, rfl, rfl⟩ (pY b (q2) hb og t2 80 ht2 og) Af Af (aC _ _ _) (fun _ => aC _ _ _) (fun _ => gD _ _) oG ?_
   rintro ⟨t3, q3⟩ ⟨ht3, hq3, hq3b⟩
   simp only at ht3 hq3 hq3b
   refine (Ai) ?_
   refine vX 0 rfl rfl rfl ⟨func114, rfl, rfl⟩ (pY b (q3) hb og t3 90 ht3 og) Af Af (aC _ _ _) (fun _ => aC _ _ _) (fun _ => gD _ _) oG ?_
   rintro ⟨t4, q4⟩ ⟨ht4, hq4, hq4b⟩
   simp only at ht4 hq4 hq4b
   simp only [go_sem, Nat.add_zero, trA]
   refine (jt) (k8 ((aj) (wR ?_)))
   refine ⟨(⟨s.up, t4, ⟨s.disk.log, s.disk.safe, s.disk.levels, s.disk.seq⟩⟩, q4), ⟨⟨⟨bPc ht4 og, hs.2⟩, by dsimp only; omega⟩, by dsimp only; omega, by dsimp only; omega⟩, [], ?_⟩
   exact As
 refine (aj) ((cdA) ?_ ?_) <;> intro hc8
 . refine wg rfl ?_; simp only [go_sem, A8, List.not_mem_nil, or_false, or_self]
   refine (jr) ((jt) (k8 ((aj) ?_)))
   refine aFz 6 rfl ?_
   refine (Ac) (wR ?_)
   refine ⟨(⟨s.up, s.tree, ⟨s.disk.log, s.disk.safe, [[], [], []], s.disk.seq⟩⟩, p + 1), ⟨⟨⟨hs.1, ⟨by show (3 : Nat) <= _; omega, fun r hr => by simp at hr; subst hr; exact ⟨by decide, fun x hx => by cases hx⟩⟩⟩, by dsimp only; omega⟩, by dsimp only; omega, by dsimp only; omega⟩, [], ?_⟩
   simp only [go_sem, stA, rsA, List.map_cons, List.map_nil, AObj.bel, AObj.ren, AV.ren, aB, sg] <;> simp
 refine (aj) ((cdB) ?_ ?_) <;> intro hc9
 . refine wk ((jt) (k8 ((aj) (wR ?_))))
   refine ⟨(s, p + 1), ⟨⟨⟨hs.1, hs.2⟩, by dsimp only; omega⟩, by dsimp only; omega, by dsimp only; omega⟩, [], ?_⟩
   exact As
 have hn0 : 0 < s.disk.log.size := by simp at hc9; omega
 have hpk := iW (b := b) (n := (s.disk.log.size : Int)) (p := p + 1) og
 have hpk2 := hpk.2.1 og
 have h51 : (#[51] : Array UInt8).size = 1 := rfl
 have hx1 : (s.disk.log.extract 0 (aD b (s.disk.log.size : Int) (p + 1)).toNat).size <= s.disk.log.size := by rw [ByteArray.size_extract]; omega
 have hx2 : (s.disk.log.extract (aD b (s.disk.log.size : Int) (p + 1) + 1).toNat s.disk.log.size).size <= s.disk.log.size := by rw [ByteArray.size_extract]; omega
 have hw9 := wr (aD b (s.disk.log.size : Int) (p + 1) + 1) (aD b (s.disk.log.size : Int) (p + 1) + 1) og
 refine sr rfl fun k25 => (ja) ?_
 refine vO 0 rfl rfl rfl ⟨func62, rfl, rfl⟩ (aE b (p + 1) hb og (s.disk.log.size : Int)) oG oG (aC _ _ _) (aC _ _ _) oG oG ?_
 refine (Ai) (k25 ?_)
 refine cQ mixed rfl ?_
 simp only [go_sem, hw9, Int.toNat_zero]
 refine (jr) ((jy) ((jt) (k8 ((aj) (wR ?_)))))
 refine ⟨(⟨s.up, s.tree, ⟨s.disk.log.extract 0 (aD b (s.disk.log.size : Int) (p + 1)).toNat ++ ⟨#[51]⟩ ++ s.disk.log.extract (aD b (s.disk.log.size : Int) (p + 1) + 1).toNat s.disk.log.size, s.disk.safe, s.disk.levels, s.disk.seq⟩⟩, p + 2), ⟨⟨⟨hs.1, hs.2⟩, by dsimp only; rw [B8, B8, ByteArray.size_extract, ByteArray.size_extract]; have : (⟨#[51]⟩ : ByteArray).size = 1 := rfl; omega⟩, by dsimp only; omega, by dsimp only; omega⟩, [], ?_⟩
 exact As
def aBb (b : List UInt8) (p : Nat) (hb : b.length <= 2000) (hp : p + 20000 <= 1000000000) : uW P 24 [.ptr 0 0] [(0, rdO b p)] 1 (fun g : Store × Nat => smS g.1 /\ p <= g.2 /\ g.2 <= p + 9000) (fun g => stA g.1) (fun g => [(0, rdO b g.2)]) 1 := by
 refine iO (fn := Tryz.f24) (N := 32) (vs := [.cell 2 31]) ⟨func24, rfl, rfl⟩ rfl rfl oS ?_
 simp only [eE]
 obtain ⟨hok, hp1, hp2⟩ := bLa (b := b) (p := p) og
 obtain ⟨s, q, hpz⟩ : ∃ s q, aAw b p = (s, q) := ⟨_, _, rfl⟩
 rw [hpz] at hok hp1 hp2
 simp only at hok hp1 hp2
 obtain ⟨hs, hlg, hf0, hf1, hlv, hq0, hq1, hd0, hd1⟩ := bLw hok
 have hw6 := wr (s.disk.seq + 1) (s.disk.seq + 1) og
 refine (aj) ?_
 refine sr rfl fun k2 => (ja) ?_
 refine vO 0 rfl rfl rfl ⟨func61, rfl, rfl⟩ (aOu b p hb og) oG oG (aC _ _ _) (aC _ _ _) (bK _ _) oG ?_
 simp only [go_sem, Nat.add_zero, hpz, stA]
 refine k2 (aA fun k3 => (aj) ((cdA) ?_ ?_)) <;> intro hc1
 . refine (aj) (wR ?_)
   refine ⟨(s, q), ⟨⟨⟨hs.1, hs.2⟩, by dsimp only; omega⟩, by dsimp only; omega, by dsimp only; omega⟩, [], ?_⟩
   exact As
 refine wk (k3 (aA fun k6 => (aj) ((cdB) ?_ ?_))) <;> intro hc2
 . have hu : s.up = true := by simpa using hc2
   refine wk (k6 (sr rfl fun k12 => (ja) ?_))
   refine vX 0 rfl rfl rfl ⟨func63, rfl, rfl⟩ (aOj b q hb og s hok hu) Ad Ad (aC _ _ _) (fun _ => aC _ _ _) (fun _ => bK _ _) oG ?_
   rintro ⟨s2, q2⟩ ⟨hs2, h1, h2⟩
   simp only at hs2 h1 h2
   refine (Cr) (k12 (wR ?_))
   refine ⟨(s2, q2), ⟨hs2, by dsimp only; omega, by dsimp only; omega⟩, [], ?_⟩
   exact As
 refine aA fun k8 => sr rfl fun k9 => (ja) ?_
 refine vO 0 rfl rfl rfl ⟨func62, rfl, rfl⟩ (aE b (q) hb og 10) oG oG (aC _ _ _) (aC _ _ _) oG oG ?_
 refine (Ai) (k9 ((cdA) ?_ ?_)) <;> intro hc3
 . refine wg rfl ((Aa hw6) (k8 ((aj) (wR ?_))))
   refine ⟨(⟨s.up, s.tree, ⟨s.disk.log, s.disk.safe, s.disk.levels, s.disk.seq + 1⟩⟩, q + 1), ⟨⟨⟨hs.1, hs.2⟩, by dsimp only; omega⟩, by dsimp only; omega, by dsimp only; omega⟩, [], ?_⟩
   exact As
 refine wk (k8 ((aj) (wR ?_)))
 refine ⟨(s, q + 1), ⟨⟨⟨hs.1, hs.2⟩, by dsimp only; omega⟩, by dsimp only; omega, by dsimp only; omega⟩, [], ?_⟩
 exact As
def aOb (b : List UInt8) (p : Nat) (hb : b.length <= 2000) (hp : p + 10 <= 1000000000) (s : Store) (hl : s.disk.log.size <= 20000) : aO P 25 [.ptr 0 0, stA s] [(0, rdO b p)] 1 (Ni (aPo b p s)) [(0, rdO b (p + 4))] 1 := by
 refine (gq 26 [.tmp 4] func25) ?_
 simp only [stA]
 have hmx := mxl
 refine (aj) ((aj) ?_)
 have hwn := wr ((s.disk.log.size : Int) + 1) ((s.disk.log.size : Int) + 1) og
 refine sr rfl fun k3 => (Aa hwn) ((jr) ?_)
 refine vO 0 rfl rfl rfl ⟨func62, rfl, rfl⟩ (aE b (p) hb og ((s.disk.log.size : Int) + 1)) oG oG (aC _ _ _) (aC _ _ _) oG oG ?_
 refine (Be hwn) ((jr) ?_)
 refine vO 0 rfl rfl rfl ⟨func62, rfl, rfl⟩ (aE b (p + 1) hb og ((s.disk.log.size : Int) + 1)) oG oG (aC _ _ _) (aC _ _ _) oG oG ?_
 refine (Be hwn) ((jr) ?_)
 refine vO 0 rfl rfl rfl ⟨func62, rfl, rfl⟩ (aE b (p + 2) hb og ((s.disk.log.size : Int) + 1)) oG oG (aC _ _ _) (aC _ _ _) oG oG ?_
 refine (Be hwn) ((jr) ?_)
 refine bE 2 rfl ?_
 refine (Ac) ?_
 refine vO 0 rfl rfl rfl ⟨func64, rfl, rfl⟩ (bD b (p + 3) hb og (aHf b p s) (by simp [aHf])) (by simp only [go_sem, aHf, List.map_cons, List.map_nil, inA]) (by simp only [go_sem, aHf, List.map_cons, List.map_nil, inA]) (aC _ _ _) (aC _ _ _) oG oG ?_
 refine (Ai) ((jr) (k3 (wR ?_)))
 refine ⟨[], ?_⟩
 simp only [go_sem, aPo, AObj.bel, AObj.ren, AV.ren, aB, sg] <;> simp
def aYj (code : List UInt8) (hc : code.length <= 9223372036854775807) : uW P 7 [.sl 1 (code.map byteAV)] [] 0 (fun g : Store × Int => smS g.1 /\ -1 <= g.2 /\ g.2 <= 9223372036854775807) (fun g => .tup [stA g.1, Ni g.2]) (fun g => []) 0 := by
 refine iO (fn := Tryz.f7) (N := 14) (vs := [.cell 2 31, .tmp 3]) ⟨func7, rfl, rfl⟩ rfl rfl oS ?_
 simp only [eE]
 have hbt : (code.take 2000).length <= 2000 := by rw [B0]; omega
 refine (aj) ?_
 refine sr rfl fun k2 => (ja) ?_
 refine vn 1 rfl rfl rfl ⟨func23, rfl, rfl⟩ (aAj code hc) oG oG oS dg ?_
 refine (jn) (k2 (sr rfl fun k3 => (ja) ?_))
 refine vX 1 rfl rfl rfl ⟨func24, rfl, rfl⟩ (aBb (code.take 2000) 0 hbt og) oG trivial (aC _ _ _) (fun _ => aC _ _ _) (fun _ => bK _ _) oG ?_
 rintro ⟨s, q⟩ ⟨hs, h1, h2⟩
 simp only at hs h1 h2
 refine (Cr) (k3 (sd mixed rfl fun k4 => (ja) ?_))
 refine tO 1 rfl rfl rfl ⟨func25, rfl, rfl⟩ (aOb (code.take 2000) q hbt og s hs.2) Ad Ad (aC _ _ _) (aC _ _ _) oG oG ?_
 refine (Ai) ((jy) (k4 (wR ?_)))
 refine ⟨(s, aPo (code.take 2000) q s), ⟨hs, bKg og hs.2⟩, [], ?_⟩
 exact As
def aBu (code : List UInt8) (hc : code.length <= 9223372036854775807) : uW P 14 [.sl 1 (code.map byteAV)] [] 0 (fun g : Store => smS g) (fun g => stA g) (fun g => []) 0 := by
 refine iO (fn := Tryz.f14) (N := 6) (vs := [.cell 2 31]) ⟨func14, rfl, rfl⟩ rfl rfl oS ?_
 simp only [eE]
 have hbt : (code.take 2000).length <= 2000 := by rw [B0]; omega
 refine (aj) ?_
 refine sr rfl fun k2 => (ja) ?_
 refine vn 1 rfl rfl rfl ⟨func23, rfl, rfl⟩ (aAj code hc) oG oG oS dg ?_
 refine (jn) ?_
 refine vX 1 rfl rfl rfl ⟨func24, rfl, rfl⟩ (aBb (code.take 2000) 0 hbt og) oG trivial (aC _ _ _) (fun _ => aC _ _ _) (fun _ => bK _ _) oG ?_
 rintro ⟨s, q⟩ ⟨hs, h1, h2⟩
 simp only at hs h1 h2
 refine (Cr) (k2 (wR ?_))
 refine ⟨s, hs, [], ?_⟩
 exact As
end


def aSf {b : List Entry} (h : isB b = true) : 1 <= (fTx b).size := by
  unfold fTx; rw [if_pos h, B8, B8, B8]
  have : nlB.size = 1 := rfl
  omega
def bOl {bs : List (List Entry)} (h : ∀ b ∈ bs, isB b = true) {n : Nat} (hn : (frL bs).length <= n) : bs.length <= n := by
  have key : ∀ bs : List (List Entry), (∀ b ∈ bs, isB b = true) -> bs.length <= (frL bs).length := by
    intro bs
    induction bs with
    | nil => exact fun _ => A5 _
    | cons b r ih =>
      intro h
      have h1 := ih fun x hx => h x (A4 _ hx)
      have h2 := aSf (h b A3)
      rw [xS, A2, aQ, C4]; omega
  exact F6 (key bs h) hn
section
variable {l : List Entry} {k : Nat} {e : Entry}
def bAs {A B : List Entry} (h : A.Perm B) (hA : bU A = true) : aAm [B] := by
  have h1 := aXd (L := [A]) (fun l hl => by rw [B6.1 hl]; exact hA) (List.pairwise_singleton _ _)
  intro x hx y hy
  have e1 : [A].flatten = A := by simp
  have e2 : [B].flatten = B := by simp
  rw [e2] at hx hy
  exact h1 x (by rw [e1]; exact h.mem_iff.2 hx) y (by rw [e1]; exact h.mem_iff.2 hy)
def bGw {L : List Entry} (h : bU (bF L) = true) : Plain.mergeAll entLt [L] = bF L := by
  rw [bKy (bAs (gU L) h)]; unfold sQ bF
  simp
def bMt {s : Store} (hok : aJ s = true) (hu : s.up = true) : s.disk.log.size <= 12000 /\ ∃ bs, (raI s.disk.log).1 = bs /\ ((raI s.disk.log).2 : Int) = (s.disk.log.size : Int) /\ (∀ b ∈ bs, isB b = true) /\ bs.length <= 12000 /\
    Plain.mergeAll entLt [bs.flatten.filter (ovr s.disk.seq)] = s.tree.mem := by
  obtain ⟨la, lb, lc, bs, g⟩ := (mE hu).1 hok
  have hlg := g.lg
  have hra := aNw (s := s.disk.log) og g.ok g.tx
  refine ⟨hlg, bs, by rw [aFy _ og, hra], by rw [aRb _ og, hra], g.ok, bOl g.ok (by rw [<- g.tx, aQ]; exact hlg), ?_⟩
  rw [g.mm]
  exact bGw (by rw [<- g.mm]; exact g.rt.mo)
def bBu : ∀ {bs : List (List Entry)}, (∀ b ∈ bs, isB b = true) -> ∀ i, i <= bs.length -> (bs.take i).flatten.length <= 12 * i
  | bs, h, 0, _ => by simp
  | bs, h, i + 1, hi => by
    have h1 := bBu h i og
    obtain ⟨l, hl, _, hm⟩ := ix (xs := bs) (i := i) og
    rw [F5, hl, List.flatten_append, A2]
    have := (bQ (h l hm)).2.2
    have e : (some l).toList.flatten = l := by simp
    rw [e]; omega
def bIq {bs : List (List Entry)} {i : Nat} (q : Int) (h : bs[i]? = some l) : (bs.take (i + 1)).flatten.filter (ovr q) = (bs.take i).flatten.filter (ovr q) ++ l.filter (ovr q) := by
  rw [F5, h, List.flatten_append, List.filter_append]
  simp
def bPj (q : Int) (h : l[k]? = some e) (hq : q < e.seq) : (l.take (k + 1)).filter (ovr q) = (l.take k).filter (ovr q) ++ [e] := by
  rw [F5, h, List.filter_append]
  simp [ovr, hq]
def bMw (q : Int) (h : l[k]? = some e) (hq : ¬ q < e.seq) : (l.take (k + 1)).filter (ovr q) = (l.take k).filter (ovr q) := by
  rw [F5, h, List.filter_append]
  simp [ovr, hq]
def bQl (L : List Entry) (h : L.length <= 1000000) : aK P 17 [.sl 1 ([L].map esA)] [] 0 (.sl 5 ((Plain.mergeAll entLt [L]).map enA)) :=
  cC (aIg [L] ⟨by simp, fun l hl => by rw [B6.1 hl]; omega, by simp; omega⟩) oG oG
def aNx (a b : List Entry) (hz : a.length <= 4611686018427387904) : aK P 16 [.sl 5 (a.map enA), .sl 5 (b.map enA)] [] 0 (Nb (decide (a = b))) := by
 refine (pq 26 [.tmp 4] func16) ((aj) ?_)
 refine aA fun k2 => (aj) ((cdA) ?_ ?_) <;> intro hc1
 . have hne : a ≠ b := fun e => by rw [e] at hc1; simp at hc1
   exact (aj) (wR (fq (decide_eq_false hne)))
 have hlen : a.length = b.length := by simp at hc1; omega
 refine wk (k2 (aA fun k5 => (aj) (wb ?_)))
 refine wa a.length (qN a b) (fun x => ([(0, .sl 5 (a.map enA)), (1, .sl 5 (b.map enA)), (5, Ni (x : Int))], [])) 0 [] ?_ ?_
 . exact jc
 rintro i ⟨hi, hall⟩
 refine aA fun k7 => (aj) ((cdB) ?_ ?_) <;> intro hc2
 . have hge := gec hc2
   refine we ((jt) (k5 ((aj) (wR ?_))))
   have hie : i = a.length := by omega
   subst hie
   have he := mS hlen hall
   exact fq (decide_eq_true he)
 obtain ⟨hlt, l, hl, _, _⟩ := ixc hc2
 obtain ⟨m, hm, _, _⟩ := ix (xs := b) (i := i) og
 refine wk (k7 (aA fun k9 => wb (sd mixed rfl fun k10 => (Bn hl hm) ((jr) ?_))))
 refine aN (fun hN => vE rfl rfl hN rfl rfl) (.inl rfl) ?_
 refine (Bn hl hm) ((jr) ((jy) (k10 ((cdA) ?_ ?_)))) <;> intro hc3
 . have hne : a ≠ b := fun e => by
     rw [e, hm] at hl; cases hl; simp at hc3
   exact (aj) (wR ((Ah) (fq (decide_eq_false hne))))
 . have hp : qN a b i = true := by unfold qN; rw [hl, hm]; simpa using hc3
   refine wk ((jt) (k9 ((jw (wiS i og)) ((jt) ?_))))
   refine ⟨i + 1, ⟨og, cG hall hp⟩, og, [], ?_⟩
   exact jo
set_option maxHeartbeats 1000000 in
def aDg (code : List UInt8) (hc : code.length <= 9223372036854775807) : aK P 5 [.sl 1 (code.map byteAV)] [] 0 (Nb true) := by
 refine (pq 94 [.tmp 2] func5) ?_
 have hmx := mxl
 refine (aj) ?_
 refine aA fun k2 => (aj) ((cdA) ?_ ?_) <;> intro hc1
 . refine (aj) (wR ?_)
   refine fO ?_ trivial; exact At
 refine wk (k2 (sr rfl fun k5 => (ja) ?_))
 refine aVt rfl rfl rfl ⟨func14, rfl, rfl⟩ (aBu code hc) oG oG (fun g _ => bK _ _) ?_
 rintro s hs
 have hs : smS s := hs
 have hlg2 : s.disk.log.size <= 1048576 := by have := hs.2; omega
 refine (Ao) (k5 (aA fun k6 => sd mixed rfl fun k7 => (ja) ?_))
 refine tp rfl rfl rfl ⟨func15, rfl, rfl⟩ (aRm s hs.1) Ad Ad ?_
 simp only [go_sem, aBp]
 refine tp rfl rfl rfl ⟨func11, rfl, rfl⟩ (jX s hs.1 hlg2) Ad Ad ?_
 refine (ja) ?_
 refine tpg rfl rfl rfl rfl rfl rfl ⟨func11, rfl, rfl⟩ (fun hg => jX s hs.1 hlg2) oG (fun hg => Ad) Ad trivial ?_
 refine (ja) ((jy) (k7 ((cdA) ?_ ?_))) <;> intro hc2
 . refine sd mixed rfl fun k8 => (ja) ?_
   refine tp rfl rfl rfl ⟨func15, rfl, rfl⟩ (aRm s hs.1) Ad Ad ?_
   simp only [go_sem, aBp]
   refine tp rfl rfl rfl ⟨func11, rfl, rfl⟩ (jX s hs.1 hlg2) Ad Ad ?_
   refine (ja) ((jy) (k8 (wR (fO ?_ trivial))))
   exact At
 have hou : aJ s = true /\ s.up = true := by simpa using hc2
 obtain ⟨hok, hup⟩ := hou
 obtain ⟨hlg, bs, hrd, hrn, hbt, hbl, hmg⟩ := bMt hok hup
 have hal : (bs.flatten.filter (ovr s.disk.seq)).length <= 1000000 := by
   have h1 := bBu hbt bs.length (A0 _)
   rw [F4] at h1
   have h2 := List.length_filter_le (ovr s.disk.seq) bs.flatten
   omega
 refine wk (k6 (sr rfl fun k9 => (ja) ?_))
 refine vs rfl rfl rfl func13 (pS s.disk.log og) oG oG ?_
 refine (Aq hrd hrn) (k9 (sr rfl fun k10 => (ja) ((jr) (k10 (aA fun k11 => (aj) (wb ?_))))))
 refine wl (α := Nat × List Entry) (fun x => x.1 <= bs.length /\ x.2 = (bs.take x.1).flatten.filter (ovr s.disk.seq)) (fun x => bs.length - x.1) (fun x => ([(3, .ptr 0 0), (4, .sl 1 (bs.map esA)), (5, Ni (s.disk.log.size : Int)), (6, .ref 1), (7, Ni (x.1 : Int))], [(0, .cells 31 [Nb s.up, Ni s.tree.seq, .sl 5 (s.tree.mem.map enA), .sl 1 (s.tree.levels.map rsA), .sl 1 (s.tree.snaps.map inA), Ns s.disk.log, Ni s.disk.safe, .sl 1 (s.disk.levels.map rsA), Ni s.disk.seq]), (1, .row 43 5 ((x.2).map enA))])) 2 (0, []) ⟨A5 _, by simp⟩ [] ?_ ?_
 . simp only [go_sem, AObj.bel, AObj.ren, AV.ren, aB, sg, List.map_nil, Int.natCast_zero] <;> simp
 rintro ⟨i, all⟩ ⟨hi, hal0⟩
 simp only at hi hal0 ⊢
 subst hal0
 refine aA fun k13 => (aj) ((cdB) ?_ ?_) <;> intro hc3
 . have hie : i = bs.length := by have h9 : ¬ i < bs.length := (by simpa using hc3); omega
   subst hie; rw [F4]
   refine we ((jt) (k11 ?_))
   refine aFz 1 rfl ?_
   refine (Ac) ?_
   refine sdT 7 mixed rfl fun k21 => ?_
   simp only [go_sem, eq_self, decide_true]
   refine (jr) ?_
   refine aN (fun hN => aLc rfl rfl oG (uQ (r := ⟨True, .sl 5 ((bs.flatten.filter (ovr s.disk.seq)).map enA), [], 0⟩) rfl hN oG trivial)) (.inl rfl) ?_
   simp only [go_sem, eq_self, decide_true]
   refine (jr) ?_
   refine aN (fun hN => aLc rfl rfl oG (rO (e := 23) (sz := 1) (xs := [.sl 5 ((bs.flatten.filter (ovr s.disk.seq)).map enA)]) rfl hN oG trivial oS)) (.inr dg) ?_
   simp only [go_sem, fzL, AV.fz, eq_self, decide_true]
   refine (jr) ?_
   refine tpg rfl rfl rfl rfl rfl rfl ⟨func17, rfl, rfl⟩ (fun hg => bQl (bs.flatten.filter (ovr s.disk.seq)) hal) oG (fun hg => (by simp only [go_sem, esA, List.map_cons, List.map_nil])) (by simp only [go_sem, esA, List.map_cons, List.map_nil]) (enB _ _) ?_
   refine (Aa hmg) ((jr) ?_)
   refine tpg rfl rfl rfl rfl rfl rfl ⟨func16, rfl, rfl⟩ (fun hg => aNx s.tree.mem s.tree.mem (by have := hs.1.1.1.1; omega)) oG (fun hg => oG) oG trivial ?_
   refine (ja) ((jr) ((jy) (k21 (wR (fO ?_ trivial)))))
   exact At
 obtain ⟨hlt, l, hlx, hdrop, hml⟩ := ixc hc3
 have hl12 := (bQ (hbt l hml)).2.2
 have hw := wiS i og
 refine wk (k13 (aA fun k15 => wb ((aj) (wb ?_))))
 refine wl (α := Nat × List Entry) (fun x => x.1 <= l.length /\ x.2 = ((bs.take i).flatten.filter (ovr s.disk.seq)) ++ (l.take x.1).filter (ovr s.disk.seq)) (fun x => l.length - x.1) (fun x => ([(3, .ptr 0 0), (4, .sl 1 (bs.map esA)), (5, Ni (s.disk.log.size : Int)), (6, .ref 1), (7, Ni (i : Int)), (8, Ni (x.1 : Int))], [(0, .cells 31 [Nb s.up, Ni s.tree.seq, .sl 5 (s.tree.mem.map enA), .sl 1 (s.tree.levels.map rsA), .sl 1 (s.tree.snaps.map inA), Ns s.disk.log, Ni s.disk.safe, .sl 1 (s.disk.levels.map rsA), Ni s.disk.seq]), (1, .row 43 5 ((x.2).map enA))])) 2 (0, ((bs.take i).flatten.filter (ovr s.disk.seq))) ⟨A5 _, by simp⟩ [] ?_ ?_
 . exact jp
 rintro ⟨k, all⟩ ⟨hk, hal1⟩
 simp only at hk hal1 ⊢
 subst hal1
 have hll : ((bs.take i).flatten.filter (ovr s.disk.seq)).length + ((l.take k).filter (ovr s.disk.seq)).length <= 200000 := by
   have h1 := bBu hbt i og
   have h2 := List.length_filter_le (ovr s.disk.seq) (bs.take i).flatten
   have h3 := List.length_filter_le (ovr s.disk.seq) (l.take k)
   have h4 := List.length_take_le k l
   omega
 refine aA fun k17 => sr rfl fun k18 => ?_
 simp only [go_sem, hlx, esA, A6]
 refine (jr) (k18 ((cdB) ?_ ?_)) <;> intro hc4
 . have hke : k = l.length := by have h9 : ¬ k < l.length := (by simpa using hc4); omega
   subst hke; rw [F4]
   refine we ((jt) ((jt) (k15 (wg rfl ((Aa hw) ((jt) ?_))))))
   refine ⟨(i + 1, ((bs.take i).flatten.filter (ovr s.disk.seq)) ++ l.filter (ovr s.disk.seq)), ⟨by show i + 1 <= _; omega, (bIq _ hlx).symm⟩, by show bs.length - (i + 1) < bs.length - i; omega, [], ?_⟩
   exact jz
 have hlt4 : k < l.length := by simpa using hc4
 obtain ⟨e, he, _, hme⟩ := ix hlt4
 have hwk := wiS k og
 refine wk (k17 (aA fun k19 => wb (sd mixed rfl fun k20 => (Cd hlx he) ((jr) ((jy) (k20 ((cdA) ?_ ?_))))))) <;> intro hc5
 . have hgt : s.disk.seq < e.seq := by simpa using hc5
   refine wg rfl ?_; simp only [go_sem, hlx, he, esA, enA, B0, A2, List.nil_append, A6, B1]
   refine (jr) ((jt) (k19 (wg rfl ((Aa hwk) ((jt) ?_)))))
   refine ⟨(k + 1, ((bs.take i).flatten.filter (ovr s.disk.seq)) ++ (l.take (k + 1)).filter (ovr s.disk.seq)), ⟨by show k + 1 <= _; omega, rfl⟩, by show l.length - (k + 1) < l.length - k; omega, [(1, 3)], ?_⟩
   simp only [go_sem, bPj _ he hgt, AObj.bel, AObj.ren, AV.ren, aB, sg] <;> simp [enA, AV.ren, aB, AV.bel, aI]
 have hgt : ¬ s.disk.seq < e.seq := by simpa using hc5
 refine wk ((jt) (k19 (wg rfl ((Aa hwk) ((jt) ?_)))))
 refine ⟨(k + 1, ((bs.take i).flatten.filter (ovr s.disk.seq)) ++ (l.take (k + 1)).filter (ovr s.disk.seq)), ⟨by show k + 1 <= _; omega, rfl⟩, by show l.length - (k + 1) < l.length - k; omega, [], ?_⟩
 simp only [go_sem, bMw _ he hgt, AObj.bel, AObj.ren, AV.ren, aB, sg] <;> simp
end
end Go.Proofs.S
end
section
open Go Go.Abs Go.Proofs Go.Proofs.Tryz
open Go.ChangeShapes Go.WideShapes Go.RowKit Go.Proofs.YtaaomkdcmncjnaaGreatDoor
namespace Go.Proofs.S
def parsR : Tryz.f5.params = #[22] := kr
abbrev lR : List (String × DataW Unit) := Rows.fnStoreLogRow.laid
def bKi {w : World} (h : laidMetH P lR w) : laidMet P lR w := by rw [MakeChecks.laidMetH_plain _ _ _ kr] at h; exact h
def aYe (os : Os) (started : os.Started) (H : Type) (enc : TypeId × Value -> H) :
    ReturnsInHanded {} Tryz.checked os 5 .any (fun w args => (Rows.fnStoreLogSpec.pre enc P Tryz.f5 [] false w args /\ laidMetH P lR w) /\
        sizedMet enc P Tryz.f5 (OpenSpec.ofChange Rows.fnStoreLogSpec) false w args)
      (Rows.fnStoreLogSpec.post enc P Tryz.f5 false true false false) := by
  refine returnsInHanded_of_change_and (C := Tryz.checked) (X := fun w _ => laidMetH P lR w) (fun _ _ _ hh h => h.of_heap hh) bRk started kr func5
    (ChangeSpec.witness_shaped (enc := enc) (C := Tryz.checked) (os := os) (X := fun w _ => laidMetH P lR w) false (World.laidAll P os lR) #[.slice none 0 0] 8 (World.laidAll_os _ _ _)
      (World.shaped_of_ZipB kr kr) kr kr kr
      (by rw [MakeChecks.laidMetH_plain _ _ _ kr]; exact laidMet_laidAll _ kr kr)) ?_
  intro W base args ds gs before hval0 hW _ _ hL _
  have hval : ∀ (j : Nat) t v, Tryz.f5.params[j]? = some t -> args[j]? = some v -> Value.okWide P W .any base t v := hval0
  have hW' := hW
  have hlt := hW.lt
  obtain ⟨p, q, hA0, hV0, rfl, _, _⟩ := hW
  have hA : DataW.TrodAll enc P W 0 (fun _ => true) true Tryz.f5.params.toList args.toList ds p := hA0
  have hV : DataW.TrodVars enc P W (fun _ => true) [] gs q := hV0
  rw [parsR] at hA hval
  obtain ⟨v0, d0, rfl, rfl, h0⟩ := trodAll_one hA
  obtain ⟨rfl, rfl⟩ : gs = [] /\ q = [] := by
    cases gs with
    | nil => exact ⟨rfl, hV⟩
    | cons g r => exact absurd hV (by intro h; cases h)
  have gl := bQs (bKi hL) (by simp [lR, Rows.fnStoreLogRow]) (by simp [lR, Rows.fnStoreLogRow]) (by simp [lR, Rows.fnStoreLogRow])
  obtain ⟨f0, g0⟩ := id h0
  rw [bJy uBS (hval 0 22 v0 rfl rfl)] at g0
  obtain ⟨b0, w0, hb0, _, _, e0, _, r0⟩ := bJt (ρ := C0.ρ) (av := C0.avoid []) bOy _ _ _ g0
  obtain rfl : w0 = v0 := by have := e0 rfl; simpa using this.symm
  refine ((aDg b0 hb0.1) C0 W #[w0] (bQj gl) ⟨rfl, fun j x hj => ?_⟩ ?_).mono ?_
  . match j, hj with
    | 0, hj => cases hj; exact r0
    | j + 1, hj => simp at hj
  . exact ⟨pD _ _, trivial⟩
  rintro e W' ⟨v, r, H', n', C', rfl, hn, ⟨rfl, rfl, rfl⟩, hR, hS, hv, _⟩
  cases hv
  have hbelow := bHk hS
  have hl0 : ∀ x ∈ p, x.block < W.heap.size := fun x hx => hlt x (by simp [hx])
  refine ⟨_, rfl, [d0], [], _, [], p, [], hW', ?_, ?_, ?_, hbelow.frame _, fun h => by cases h⟩
  . exact trodAll_mk1 (shut_bool uB true)
  . exact trodAll_mk1 (Below.trod bRj bRu (of_decide_eq_true kr) h0 hbelow hl0)
  exact rfl
def f_holdsR : Rows.FnStoreLogSaid :=
  OpenClaim.holds_of_wide 5 Tryz.f5 rfl rfl rfl rfl rfl rfl rfl ⟨rfl, rfl, rfl, rfl, rfl⟩ rfl rfl rfl rfl rfl kr func5 kr
    (of_decide_eq_true kr) (by unfold Func.isWrapper; rw [if_neg (of_decide_eq_false kr)]; exact ⟨rfl, rfl⟩)
    (fun os started H enc _ => aYe os started H enc)
end Go.Proofs.S
end
section
open Go
namespace Go.Proofs.YtaaomkdcmncjnaaGreatDoor
theorem fnStoreLog_card : Rows.FnStoreLogCardSaid :=
  Claim7.holds_tied_plain_at .later [] [.data, .data, .data, .sentinel, .sentinel] true (true, "08779dcdb097a1d038f9686c2b9885f03a786510b04d58ace6304427e1590a60") true
    S.f_holdsR (fun _ h => by cases h) (by kernel_rfl) (fun _ h => by cases h) fnStoreLog_row_tie rfl ⟨rfl, rfl⟩ (by kernel_rfl) rfl
    (fun f fn hf hfn => by
      obtain rfl : f = 5 := Option.some.inj ((show Tryz.prog.funcNamed "loop.example/comptoir/laws.FnStoreLog" = some 5 by kernel_rfl).symm.trans hf) |>.symm
      obtain rfl : fn = Tryz.f5 := (Option.some.inj (Tryz.func5.symm.trans hfn)).symm
      exact ⟨by kernel_rfl, fun j t ht => by
        rw [S.parsR] at ht
        have h3 : t = 22 := by
          rcases j with _ | j
          . simpa using ht.symm
          simp at ht
        subst h3
        exact (show Tryz.prog.wantsStandIn 22 = false by kernel_rfl)⟩)
    (by kernel_rfl)
end Go.Proofs.YtaaomkdcmncjnaaGreatDoor
end
